import PyProof.Rows.All
import Wide.All
import OpenK.AllK
import Wide.FinOn
import HandS.ForMost
import HandS.ForExc
import HandS.Defaults
import HandS.IsInst
import HandS.Zip
import HandS.Flow
import HandS.Style
import HandS.CallSlots
import HandS.TryMany
import HandS.ExcField
import HandS.Wide
import HandS.EndBits
import HandS.Lambda
import KE.SortData
import PyProof.ReprRoads
import HandS.Deep
import HandS.TupAny
import HandS.Conv
import KE.DataFind
import KE.GoesMore
import KE.GoesEnum
import HandS.ExcInit
import HandS.HeadHook1
import HandS.HeadHook2
import HandS.Ends
import HandS.HeadEnd
import HandS.EndTab
import HandS.HeadHook3
import HandS.HeadHook4
import PySem.Challenge.RW_holelives_k79_steps_exchanged_put_in_tak
import KE.KStateDown
import HandS.Head0
import HandS.Head1
import HandS.Head2
set_option Elab.async false
set_option linter.all false
set_option maxRecDepth 100000
set_option maxHeartbeats 4000000
/-! EV1: callables whose frames stand under no repr guard. -/
namespace EV
open PySem PySem.Spec PyProof.Rows L2

/-- a def's promise, told where no guard runs around the call -/
structure FnG (P : Program) (w : World) (K : PySem.W.Frag) (mg : Str → Option Value) (base : Heap) (k : Nat) (f : Addr) (fd : FuncData) (ps : List Str) (sp : Sp) : Prop where
  len : ∀ vs H Q E, sp vs H Q E → vs.length = ps.length
  run : ∀ (A : Around) (outer : List Env) (s : Shared) (H : Hp) (args : Args) (us : List Value) (vs : List V) (Q : VK) (E : XK),
    Room k A → A.guards = some [] → Env0 P w K mg base A outer s H → BindsTo s fd args (ps.zip us) → Vals vs us → sp vs H Q E →
      codeAny (model P w) A (.call (.ref f) args) (CR (L2.CX P w) outer P w H s Q E) s

/-- what a call of the value u does, in the context X -/
def CallX (X : Cx) (u : Value) (sp : Sp) : Prop :=
  ∀ (W : WX), Takes X W → ∀ (pins : List (Addr × Obj)) (s : Shared) (σ : L2.St) (H : Hp) (vs : List V) (us : List Value) (Q : VK) (E : XK),
    Inv X pins σ H s → Vals vs us → sp vs H Q E → (∀ cls d H', E cls d H' → W cls d σ H') →
      wpAny (model X.prog X.w) X.A (call u us) (EP X pins σ Q) X.xe s

/-- the context stands in this program, with room for k calls, under no guard -/
structure In (P : Program) (w : World) (K : PySem.W.Frag) (mg : Str → Option Value) (base : Heap) (k : Nat) (X : Cx) : Prop where
  p : X.prog = P
  w : X.w = w
  K : X.K = K
  mg : X.mg = mg
  base : X.base = base
  room : Room k X.A
  gd : X.A.guards = some []

def Cal (P : Program) (w : World) (K : PySem.W.Frag) (mg : Str → Option Value) (base : Heap) (k : Nat) (u : Value) (sp : Sp) : Prop :=
  ∀ X : Cx, In P w K mg base k X → CallX X u sp

section
variable {P : Program} {w : World} {K : PySem.W.Frag} {mg : Str → Option Value} {base : Heap} {k j : Nat} {f C : Addr} {fd : FuncData} {ps : List Str} {sp sp' : Sp} {u : Value}

theorem In.mono {X : Cx} (h : In P w K mg base k X) (e : j ≤ k) : In P w K mg base j X :=
  { h with room := h.room.mono e }
theorem Cal.mono (c : Cal P w K mg base j u sp) (e : j ≤ k) : Cal P w K mg base k u sp := fun X hX => c X (hX.mono e)
theorem Cal.imp (c : Cal P w K mg base k u sp) (h : ∀ vs H Q E, sp' vs H Q E → sp vs H Q E) : Cal P w K mg base k u sp' :=
  fun X hX W tk pins s σ H vs us Q E I r q hE => c X hX W tk pins s σ H vs us Q E I r (h _ _ _ _ q) hE

/-- an exception of a callee, where W is what the caller takes -/
theorem err_back {X : Cx} {W : WX} {pins : List (Addr × Obj)} {σ : L2.St} {H : Hp} {s s' : Shared} {E : XK} {e : Value} (tk : Takes X W)
    (I : Inv X pins σ H s) (hE : ∀ cls d H', E cls d H' → W cls d σ H') (c : L2.CX X.prog X.w X.stack H s E e s') : X.xe e s' :=
  tk e s' (XE.of_call I hE c)

theorem FnG.cal (F : FnG P w K mg base k f fd ps sp) (hb : Binds K fd ps []) : Cal P w K mg base k (.ref f) sp := by
  rintro X ⟨rfl, rfl, rfl, rfl, rfl, hr, hg⟩ W tk pins s σ H vs us Q E I r q hE
  have hl : us.length = ps.length := by rw [← r.length]; exact F.len _ _ _ _ q
  have hb' := hb s us I.kIn (by simpa using hl)
  rw [List.append_nil] at hb'
  refine wpAny_call (codeAny_mono (F.run X.A X.stack s H ⟨us, []⟩ us vs Q E hr hg I.env0 hb' r q) fun res s' hq => ?_)
  match res, hq with
  | .error e, hq => exact err_back tk I hE hq
  | .ok (.ret v), hq => exact I.after hq
  | .ok .next, hq => exact hq.elim
  | .ok .brk, hq => exact hq.elim
  | .ok .cont, hq => exact hq.elim

/-- a class made, by its __init__ -/
def spMake (C : Addr) (sp : Sp) : Sp := fun vs H Q E => ∀ x dx, H x = none → H dx = none → dx ≠ x →
  sp (.ref x :: vs) (upd (upd H dx (.own x)) x (.ins C dx [])) (fun v H2 => v = .non ∧ Q (.ref x) H2) E

theorem guards_make {A : Around} {C : Addr} {us : List Value} {kw : List (Str × Value)} (h : A.guards = some []) :
    (A.under (.builtin "type.__call__" ⟨.ref C :: us, kw⟩)).guards = some [] := by
  have e : (Code.builtin "type.__call__" ⟨.ref C :: us, kw⟩).guards = [] := by
    unfold Code.guards
    rw [if_neg]
    simp [Code.isGuard, guardIds]
  unfold Around.under
  simp only [h, e]
  rfl

theorem FnG.make (M : Mk K C f) (F : FnG P w K mg base k f fd ps sp) (hb : Binds K fd ps []) : Cal P w K mg base (k + 1) (.ref C) (spMake C sp) := by
  rintro X ⟨rfl, rfl, rfl, rfl, rfl, hr, hg⟩ W tk pins s σ H vs us Q E I r q hE
  have f1 : H (s.heap.objs.size + 1) = none := I.hok.fresh (Nat.le_succ _)
  have f0 : H s.heap.objs.size = none := I.hok.fresh (Nat.le_refl _)
  have hq := q (s.heap.objs.size + 1) s.heap.objs.size f1 f0 (Nat.ne_of_lt (Nat.lt_succ_self _))
  have J := Inv.made (C := C) I
  have rr : Vals (V.ref (s.heap.objs.size + 1) :: vs) (Value.ref (s.heap.objs.size + 1) :: us) := .cons rfl r
  have hl : (Value.ref (s.heap.objs.size + 1) :: us).length = ps.length := rr.length.symm.trans (F.len _ _ _ _ hq)
  have hb' := hb _ (Value.ref (s.heap.objs.size + 1) :: us) J.kIn (by simpa using hl)
  rw [List.append_nil] at hb'
  have env := J.env0.make C us []
  refine wpAny_call (make_map (f := f) I.kIn M.makes M.init (beq_iff_eq.mp M.fn) (codeAny_mono
    (F.run _ X.stack _ _ ⟨Value.ref (s.heap.objs.size + 1) :: us, []⟩ _ _ _ E (hr.make C us []) (guards_make hg) env hb' rr hq) fun res s' z => ?_))
  match res, z with
  | .error e, z =>
    refine tk e s' ?_
    obtain ⟨a, B, sI, pn, σ', H', cls, d, h1, h2, h3, h4, h5, h6, h7, h8, h9⟩ := XE.of_call (W := fun cls d σ'' H'' => σ'' = σ ∧ E cls d H'') J (fun cls d H' hx => ⟨rfl, hx⟩) z
    obtain ⟨e1, e2⟩ := h9
    subst e1
    exact ⟨a, B, sI, pn, _, H', cls, d, h1, h2, h3, h4, h5, h6, h7, h8, hE _ _ _ e2⟩
  | .ok (.ret v), z =>
    obtain ⟨x, H', J', rv, ev, q3⟩ := J.after z
    subst ev
    exact ⟨rv, ⟨V.ref (s.heap.objs.size + 1), H', J', rfl, q3⟩⟩
  | .ok .next, z => exact z.elim
  | .ok .brk, z => exact z.elim
  | .ok .cont, z => exact z.elim

/-- a def of the text by its body -/
theorem fnG_of {name qual : Str} {params : Arguments} {body : List Stmt} {scope : Scope} {dvs : List V} {kws : List (Str × V)} {N : List Str}
    (F : FunD K name qual params body scope dvs kws f fd) (S : FnScope N ps scope) (len : ∀ vs H Q E, sp vs H Q E → vs.length = ps.length)
    (hbody : ∀ (cdv : Value) (A : Around) (outer : List Env) (s : Shared) (H : Hp) (vs : List V) (Q : VK) (E : XK), fd.code = cdv →
      Room k (A.deeper (envOfC qual scope s.heap.objs.size f cdv)) → A.guards = some [] → sp vs H Q E →
        ∃ t, PSs (cxOf (L2.CX P w) P w K mg base N qual scope f cdv A outer s H E) body t ∧ t { nx := fun _ H' => Q .non H', rt := Q } (L2.start N vs) H) :
    FnG P w K mg base (k + 1) f fd ps sp := by
  obtain ⟨oc, od, dV, kV, doc, pm, an, cdv, ct, osl, rfl, lk, hcd, _, _⟩ := F.ex
  refine ⟨len, fun A outer s H args us vs Q E hr hg e0 hb r hsp => ?_⟩
  have hl := len _ _ _ _ hsp
  have stays : ∀ b o, base.get? b = some o → s.heap.get? b = some o := fun b o e => (e0.bs b o e).1
  have KX : K.In s.heap := e0.mod.kin.keeps stays
  have lim : s.heap.NoLimit := e0.mod.nolimit.keeps stays
  have kinds : ∀ y ∈ ps.zip us, scope.names.lookup y.1 = some .local ∨
      (scope.names.lookup y.1 = some .cell ∧ ((cellsFrom (s.heap.objs.size + 1) scope.names []).lookup y.1).isSome = true) := by
    rintro ⟨n, v⟩ hy
    cases S.par n (List.of_mem_zip hy).1 with
    | inl q => exact .inl q
    | inr q => exact .inr ⟨q, PySem.W.cellsFrom_some _ _ _ (.inl q)⟩
  refine codeAny_call_function hr.depth (KX _ _ lk) rfl S.co S.gen rfl (PySem.W.codeRec_of KX hcd) (hb _ _ _ _ ?_)
  refine wpAny_newFunctionEnv_cells S.kind kinds fun env he s1 x => ?_
  subst he
  refine ⟨lim.keeps x.toInCall.keep, codeAny_func ?_⟩
  obtain ⟨t, ht, hq⟩ := hbody cdv A outer s H vs Q E rfl (hr.deeper _) hg hsp
  have I := inv_start (CX := L2.CX P w) (P := P) (w := w) (K := K) (mg := mg) (base := base) (qual := qual) (f := f) (cd := cdv) (outer := outer) (E := E) S hr.hd e0 hl r x
  refine wpAny_mono (ht.run [] s1 (L2.start N vs) H _ I hq) (fun fl s' z => ?_) fun e s' z => z
  match fl, z with
  | .ret u, ⟨v, σ', H', J, rv, q⟩ => exact ⟨v, H', J.os, J.bare, J.base, J.hok, rv, q⟩
  | .next, ⟨σ', H', J, q⟩ => exact ⟨V.non, H', J.os, J.bare, J.base, J.hok, rfl, q⟩
  | .brk, ⟨_, _, _, q⟩ => exact q.elim
  | .cont, ⟨_, _, _, q⟩ => exact q.elim

theorem deeper_guards {A : Around} {env : Env} (h : A.guards = some []) : (A.deeper env).guards = some [] := h
end
end EV
set_option Elab.async false
set_option linter.all false
set_option maxRecDepth 100000
set_option maxHeartbeats 4000000
/-! EV2: data, what stands for it in a heap, slots, the state relation. -/
namespace EV
open PySem PySem.Spec PyProof.Rows L2

/-- a lambda without parameters: its cells, its name, its text, which one of its def it is -/
structure LamD where
  cl : List (Str × Addr)
  q : Str
  params : Arguments
  body : Expr
  scope : Scope
  n : Nat
/-- the function object of such a lambda, its code object at c -/
def LamO (f c : Addr) (l : LamD) : HO := .ext fun h => ∃ pm ctv : Value, h.get? f = some (PySem.W.kla_obj "<lambda>" l.q l.params l.body l.scope l.cl pm c ctv)
/-- a Python value as plain data -/
inductive D where
  | non | bl (b : Bool) | int (i : Int) | str (x : Str)
  | tup (ds : List D) | lst (ds : List D)
  /-- a tuple of the module's own -/
  | gt (ds : List D)
  | dK (kvs : List (Key × D)) | dT (kvs : List (List Key × D))
  | obj (C : Str) (fs : List (Str × D))
  | gf (x : Str)
  | fn (l : LamD)
  /-- a list that is read alone: the script -/
  | gl (ds : List D)

abbrev Mg := Str → Option Value

section
variable (K : PySem.W.Frag) (mg : Mg)
mutual
/-- v stands for d in the heap H -/
inductive Rep (H : Hp) : V → D → Prop
  | non : Rep H .non .non
  | bl (b : Bool) : Rep H (.bl b) (.bl b)
  | int (i : Int) : Rep H (.int i) (.int i)
  | str (x : Str) : Rep H (.str x) (.str x)
  | tup {a : Addr} {vs : List V} {ds : List D} (h : H a = some (.tup vs)) (r : Reps H vs ds) : Rep H (.ref a) (.tup ds)
  | gt {a : Addr} {vs : List V} {ds : List D} (h : SqT K (fun _ => none) a vs) (r : Reps H vs ds) : Rep H (.ref a) (.gt ds)
  | lst {a : Addr} {vs : List V} {ds : List D} (h : H a = some (.lst vs)) (r : Reps H vs ds) : Rep H (.ref a) (.lst ds)
  | dK {a : Addr} {ks : List Key} {vs : List V} {ds : List D} (h : H a = some (.dK (ks.zip vs))) (l : ks.length = vs.length) (r : Reps H vs ds) : Rep H (.ref a) (.dK (ks.zip ds))
  | dT {a : Addr} {ks : List (List Key)} {vs : List V} {ds : List D} (h : H a = some (.dT (ks.zip vs))) (l : ks.length = vs.length) (r : Reps H vs ds) : Rep H (.ref a) (.dT (ks.zip ds))
  | obj {a Ca dx : Addr} {C : Str} {ks : List Str} {vs : List V} {ds : List D} (h : H a = some (.ins Ca dx (ks.zip vs))) (l : ks.length = vs.length) (c : mg C = some (.ref Ca)) (r : Reps H vs ds) : Rep H (.ref a) (.obj C (ks.zip ds))
  | gf {x : Str} {a : Addr} (h : mg x = some (.ref a)) : Rep H (.ref a) (.gf x)
  | fn {f c : Addr} {l : LamD} (h : H f = some (LamO f c l)) (hc : H c = some (LamX.CodeO c l.q)) : Rep H (.ref f) (.fn l)
  | gl {a : Addr} {vs : List V} {ds : List D} (h : SqL K H a vs) (r : Reps H vs ds) : Rep H (.ref a) (.gl ds)
inductive Reps (H : Hp) : List V → List D → Prop
  | nil : Reps H [] []
  | cons {v : V} {d : D} {vs : List V} {ds : List D} (r : Rep H v d) (t : Reps H vs ds) : Reps H (v :: vs) (d :: ds)
end
end

section
variable {K : PySem.W.Frag} {mg : Mg} {H H' : Hp}
theorem Same.tupS {a : Addr} {vs : List V} (e : Same H H') (h : SqT K H a vs) : SqT K H' a vs := by
  rcases h with (h | ⟨o, h⟩) | h
  · exact .inl (.inl (e _ _ h))
  · exact .inl (.inr ⟨o, e _ _ h⟩)
  · exact .inr h
theorem Same.lstS {a : Addr} {vs : List V} (e : Same H H') (h : SqL K H a vs) : SqL K H' a vs := e.seq h
mutual
theorem Rep.mono (e : Same H H') : ∀ {v : V} {d : D}, Rep K mg H v d → Rep K mg H' v d
  | _, _, .non => .non
  | _, _, .bl b => .bl b
  | _, _, .int i => .int i
  | _, _, .str x => .str x
  | _, _, .tup h r => .tup (e _ _ h) (Reps.mono e r)
  | _, _, .gt h r => .gt h (Reps.mono e r)
  | _, _, .lst h r => .lst (e _ _ h) (Reps.mono e r)
  | _, _, .dK h l r => .dK (e _ _ h) l (Reps.mono e r)
  | _, _, .dT h l r => .dT (e _ _ h) l (Reps.mono e r)
  | _, _, .obj h l c r => .obj (e _ _ h) l c (Reps.mono e r)
  | _, _, .gf h => .gf h
  | _, _, .fn h hc => .fn (e _ _ h) (e _ _ hc)
  | _, _, .gl h r => .gl (Same.lstS e h) (Reps.mono e r)
theorem Reps.mono (e : Same H H') : ∀ {vs : List V} {ds : List D}, Reps K mg H vs ds → Reps K mg H' vs ds
  | _, _, .nil => .nil
  | _, _, .cons r t => .cons (Rep.mono e r) (Reps.mono e t)
end
theorem Reps.length : ∀ {vs : List V} {ds : List D}, Reps K mg H vs ds → vs.length = ds.length
  | _, _, .nil => rfl
  | _, _, .cons _ t => congrArg Nat.succ (Reps.length t)
theorem Reps.append : ∀ {vs ws : List V} {ds es : List D}, Reps K mg H vs ds → Reps K mg H ws es → Reps K mg H (vs ++ ws) (ds ++ es)
  | _, _, _, _, .nil, s => s
  | _, _, _, _, .cons r t, s => .cons r (Reps.append t s)
theorem Reps.get : ∀ {vs : List V} {ds : List D} {i : Nat} {d : D}, Reps K mg H vs ds → ds[i]? = some d → ∃ v, vs[i]? = some v ∧ Rep K mg H v d
  | _, _, _, _, .nil, e => by simp at e
  | _, _, 0, _, .cons r _, e => by simp at e; subst e; exact ⟨_, rfl, r⟩
  | _, _, i + 1, d, .cons _ t, e => by
    obtain ⟨v, h1, h2⟩ := Reps.get (i := i) (d := d) t (by simpa using e)
    exact ⟨v, by simpa using h1, h2⟩
theorem Reps.getV : ∀ {vs : List V} {ds : List D} {i : Nat} {v : V}, Reps K mg H vs ds → vs[i]? = some v → ∃ d, ds[i]? = some d ∧ Rep K mg H v d
  | _, _, _, _, .nil, e => by simp at e
  | _, _, 0, _, .cons r _, e => by simp at e; subst e; exact ⟨_, rfl, r⟩
  | _, _, i + 1, d, .cons _ t, e => by
    obtain ⟨v, h1, h2⟩ := Reps.getV (i := i) (v := d) t (by simpa using e)
    exact ⟨v, by simpa using h1, h2⟩
theorem Reps.take : ∀ {vs : List V} {ds : List D} (n : Nat), Reps K mg H vs ds → Reps K mg H (vs.take n) (ds.take n)
  | _, _, 0, _ => .nil
  | _, _, _ + 1, .nil => .nil
  | _, _, n + 1, .cons r t => .cons r (Reps.take n t)
theorem Reps.drop : ∀ {vs : List V} {ds : List D} (n : Nat), Reps K mg H vs ds → Reps K mg H (vs.drop n) (ds.drop n)
  | _, _, 0, r => r
  | _, _, _ + 1, .nil => .nil
  | _, _, n + 1, .cons _ t => Reps.drop n t
theorem Reps.set {v : V} {d : D} (r : Rep K mg H v d) : ∀ {vs : List V} {ds : List D} (i : Nat), Reps K mg H vs ds → Reps K mg H (vs.set i v) (ds.set i d)
  | _, _, _, .nil => .nil
  | _, _, 0, .cons _ t => .cons r t
  | _, _, i + 1, .cons q t => .cons q (Reps.set r i t)
theorem Reps.erase : ∀ {vs : List V} {ds : List D} (i : Nat), Reps K mg H vs ds → Reps K mg H (vs.eraseIdx i) (ds.eraseIdx i)
  | _, _, _, .nil => .nil
  | _, _, 0, .cons _ t => t
  | _, _, i + 1, .cons q t => .cons q (Reps.erase i t)
theorem Reps.rep {vs : List V} {ds : List D} (h : Reps K mg H vs ds) : ∀ k : Nat, Reps K mg H (List.replicate k vs).flatten (List.replicate k ds).flatten
  | 0 => .nil
  | k + 1 => by
    rw [List.replicate_succ, List.replicate_succ, List.flatten_cons, List.flatten_cons]
    exact h.append (Reps.rep h k)
end

/-! ### slots -/
inductive Slot where
  | un | fz (d : D)
  /-- a list, a dict that nobody else holds -/
  | ol (ds : List D) | oK (kvs : List (Key × D)) | oT (kvs : List (List Key × D))
  /-- the same, borrowed of a caller -/
  | bl (ds : List D) | bK (kvs : List (Key × D)) | bT (kvs : List (List Key × D))
  /-- the pen of a law, of which at most n draws were asked -/
  | pn (n : Nat)
  /-- an instance that its __init__ is making -/
  | mk (C : Str) (fs : List (Str × D))
  /-- no value: the table of a def's lambdas stands at P, they are named q -/
  | tb (P : Addr) (q : Str)
/-- the slot holds something -/
def Slot.set : Slot → Bool
  | .un | .tb _ _ => false
  | _ => true
def Slot.owned : Slot → Bool
  | .ol _ | .oK _ | .oT _ | .bl _ | .bK _ | .bT _ | .pn _ | .mk _ _ => true
  | _ => false
def Slot.lent : Slot → Bool
  | .bl _ | .bK _ | .bT _ | .pn _ | .mk _ _ => true
  | _ => false
def Slot.lend : Slot → Slot
  | .ol ds => .bl ds
  | .oK kvs => .bK kvs
  | .oT kvs => .bT kvs
  | s => s
def Slot.unlend : Slot → Slot
  | .bl ds => .ol ds
  | .bK kvs => .oK kvs
  | .bT kvs => .oT kvs
  | _ => .un
/-- what the caller's slot is, behind a call that was lent it and left t -/
def Slot.back (s t : Slot) : Slot := match s with
  | .ol _ | .oK _ | .oT _ => t.unlend
  | .bl _ | .bK _ | .bT _ | .pn _ | .mk _ _ => t
  | s => s
/-- the value that may be looked at -/
def Slot.peek : Slot → Option D
  | .fz d => some d
  | .ol ds | .bl ds => some (.lst ds)
  | .oK kvs | .bK kvs => some (.dK kvs)
  | .oT kvs | .bT kvs => some (.dT kvs)
  | _ => none
abbrev En := List Slot
def En.at (ρ : En) (i : Nat) : Slot := ρ.getD i .un

def HO.isX : HO → Bool
  | .tbl _ => true
  | _ => false
/-- the table at P: the code objects that it tells are still, each bears the name q -/
def TabR (Hs H : Hp) (P : Addr) (q : Str) : Prop := Hs P = none ∧ ∃ ps : Array Value, H P = some (.tbl ps) ∧ TriplesOk ps.toList ∧ ∀ (pos : Pos) (cv : Value), codeAmong pos ps.toList = some cv → ∃ c, cv = .ref c ∧ Hs c = some (LamX.CodeO c q)
/-- what a pen holds -/
def PenOk (K : PySem.W.Frag) (mg : Mg) (Hs H : Hp) (n : Nat) (a : Addr) : Prop :=
  ∃ (l : Addr) (cells : List Int) (at_ digits count fold : Int),
    H a = some (.dK [(.inr "cells", .ref l), (.inr "at", .int at_), (.inr "digits", .int digits), (.inr "count", .int count), (.inr "fold", .int fold)]) ∧
    Rep K mg Hs (.ref l) (.lst (cells.map .int)) ∧ cells.length ≤ 63 ∧ 0 ≤ at_ ∧ at_ ≤ cells.length ∧ 0 ≤ digits ∧ 0 ≤ count ∧ count ≤ n ∧ 0 ≤ fold ∧ fold < 2 ^ 32

section
variable (K : PySem.W.Frag) (mg : Mg) (Hs H : Hp)
def SlotR : Option V → Slot → Prop
  | _, .un => True
  | v, .fz d => ∃ x, v = some x ∧ Rep K mg Hs x d
  | v, .ol ds | v, .bl ds => ∃ a vs, v = some (.ref a) ∧ Hs a = none ∧ H a = some (.lst vs) ∧ Reps K mg Hs vs ds
  | v, .oK kvs | v, .bK kvs => ∃ (a : Addr) (ks : List Key) (vs : List V) (ds : List D), v = some (.ref a) ∧ Hs a = none ∧ H a = some (.dK (ks.zip vs)) ∧ ks.length = vs.length ∧ kvs = ks.zip ds ∧ Reps K mg Hs vs ds
  | v, .oT kvs | v, .bT kvs => ∃ (a : Addr) (ks : List (List Key)) (vs : List V) (ds : List D), v = some (.ref a) ∧ Hs a = none ∧ H a = some (.dT (ks.zip vs)) ∧ ks.length = vs.length ∧ kvs = ks.zip ds ∧ Reps K mg Hs vs ds
  | v, .pn n => ∃ a, v = some (.ref a) ∧ Hs a = none ∧ PenOk K mg Hs H n a
  | _, .tb P q => TabR Hs H P q
  | v, .mk C fs => ∃ (a Ca dx : Addr) (ks : List Str) (vs : List V) (ds : List D), v = some (.ref a) ∧ Hs a = none ∧ H a = some (.ins Ca dx (ks.zip vs)) ∧ mg C = some (.ref Ca) ∧ ks.length = vs.length ∧ fs = ks.zip ds ∧ Reps K mg Hs vs ds
end

/-- a def's entry: the heaps, and the slots and addresses that were lent -/
structure Zn where
  H : Hp
  Hs : Hp
  pv : List (Nat × Addr)
def Zn.P (Z : Zn) : List Addr := Z.pv.map (·.2)

def Owns (σ : L2.St) (ρ : En) (i : Nat) (a : Addr) : Prop := σ.getD i none = some (.ref a) ∧ (ρ.at i).owned = true

/-- the state: the still part Hs of the heap H, the slots' values, the slots -/
structure SR (K : PySem.W.Frag) (mg : Mg) (Z : Zn) (Hs H : Hp) (σ : L2.St) (ρ : En) : Prop where
  sub : Same Hs H
  s0 : Same Z.Hs Hs
  h0 : ∀ a o, Z.H a = some o → a ∉ Z.P → H a = some o
  dom : ∀ a, Z.H a ≠ none → H a ≠ none
  new : ∀ a, Hs a ≠ none → Z.Hs a ≠ none ∨ Z.H a = none
  len : σ.length = ρ.length
  sl : ∀ i, SlotR K mg Hs H (σ.getD i none) (ρ.at i)
  sep : ∀ i j a, Owns σ ρ i a → Owns σ ρ j a → i = j
  own : ∀ i a, Owns σ ρ i a → Z.H a = none ∨ a ∈ Z.P
  pin : ∀ q ∈ Z.pv, σ.getD q.1 none = some (.ref q.2) ∧ (ρ.at q.1).lent = true
  tz : ∀ i P q, ρ.at i = .tb P q → Z.H P = none

section
variable {K : PySem.W.Frag} {mg : Mg} {Z : Zn} {Hs H Hs' H' : Hp} {σ : L2.St} {ρ : En}

theorem PenOk.keep {n : Nat} {a : Addr} (e : Same Hs Hs') (h : PenOk K mg Hs H n a) (k : H' a = H a) : PenOk K mg Hs' H' n a := by
  obtain ⟨l, cells, at_, digits, count, fold, h1, h2, h3⟩ := h
  exact ⟨l, cells, at_, digits, count, fold, by rw [k]; exact h1, h2.mono e, h3⟩
/-- the tables of lambdas stay -/
def KX (Hs H Hs' H' : Hp) : Prop := ∀ b ps, H b = some (.tbl ps) → H' b = some (.tbl ps) ∧ (Hs b = none → Hs' b = none)
theorem notTbl {b p : Addr} {u : HO} {ps : Array Value} (hb : H b = some (.tbl ps)) (hp : H p = some u) (hx : HO.isX u = false) : b ≠ p := fun q => by
  rw [q, hp] at hb
  cases hb
  cases hx
theorem KX.refl (Hs H : Hp) : KX Hs H Hs H := fun _ _ e => ⟨e, fun h => h⟩
theorem KX.new {p : Addr} {o : HO} (hp : H p = none) : KX Hs H Hs (upd H p o) := fun b u e => ⟨by rw [upd_ne (ne_of_none e hp)]; exact e, fun h => h⟩
theorem KX.laid {p : Addr} {o : HO} (hp : H p = none) : KX Hs H (upd Hs p o) (upd H p o) := fun b u e => ⟨by rw [upd_ne (ne_of_none e hp)]; exact e, fun h => by rw [upd_ne (ne_of_none e hp)]; exact h⟩
theorem KX.still {p : Addr} {o u : HO} (hp : H p = some u) (hx : HO.isX u = false) : KX Hs H (upd Hs p o) H := fun b ps e => ⟨e, fun h => by rw [upd_ne (notTbl e hp hx)]; exact h⟩
theorem KX.set {p : Addr} {o u : HO} (hp : H p = some u) (hx : HO.isX u = false) : KX Hs H Hs (upd H p o) := fun b ps e => ⟨by rw [upd_ne (notTbl e hp hx)]; exact e, fun h => h⟩
theorem KX.tab {P : Addr} {q : Str} (k : KX Hs H Hs' H') (e : Same Hs Hs') (t : TabR Hs H P q) : TabR Hs' H' P q := by
  obtain ⟨h0, ps, h1, h2, h3⟩ := t
  refine ⟨(k _ _ h1).2 h0, ps, (k _ _ h1).1, h2, fun pos cv hc => ?_⟩
  obtain ⟨c, e1, e2⟩ := h3 pos cv hc
  exact ⟨c, e1, e _ _ e2⟩
/-- a slot is kept: the still part grew, what it owns was not touched -/
theorem SlotR.keepN {v : Option V} {s : Slot} (e : Same Hs Hs') (h : SlotR K mg Hs H v s) (nt : ∀ P q, s ≠ .tb P q) (k : ∀ a, v = some (.ref a) → s.owned = true → H' a = H a ∧ Hs' a = none) : SlotR K mg Hs' H' v s := by
  cases s with
  | un => trivial
  | tb P q => exact absurd rfl (nt P q)
  | fz d => obtain ⟨x, h1, h2⟩ := h; exact ⟨x, h1, h2.mono e⟩
  | ol ds | bl ds =>
    obtain ⟨a, vs, h1, h2, h3, h4⟩ := h
    obtain ⟨k1, k2⟩ := k a h1 rfl
    exact ⟨a, vs, h1, k2, k1.trans h3, h4.mono e⟩
  | oK kvs | bK kvs | oT kvs | bT kvs =>
    obtain ⟨a, ks, vs, ds, h1, h2, h3, h4, h5, h6⟩ := h
    obtain ⟨k1, k2⟩ := k a h1 rfl
    exact ⟨a, ks, vs, ds, h1, k2, k1.trans h3, h4, h5, h6.mono e⟩
  | pn n =>
    obtain ⟨a, h1, h2, h3⟩ := h
    obtain ⟨k1, k2⟩ := k a h1 rfl
    exact ⟨a, h1, k2, h3.keep e k1⟩
  | mk C fs =>
    obtain ⟨a, Ca, dx, ks, vs, ds, h1, h2, h3, h4, h5, h6, h7⟩ := h
    obtain ⟨k1, k2⟩ := k a h1 rfl
    exact ⟨a, Ca, dx, ks, vs, ds, h1, k2, k1.trans h3, h4, h5, h6, h7.mono e⟩
theorem SlotR.keep {v : Option V} {s : Slot} (e : Same Hs Hs') (kx : KX Hs H Hs' H') (h : SlotR K mg Hs H v s) (k : ∀ a, v = some (.ref a) → s.owned = true → H' a = H a ∧ Hs' a = none) : SlotR K mg Hs' H' v s := by
  cases s with
  | tb P q => exact kx.tab e h
  | _ => exact SlotR.keepN e h (fun _ _ z => nomatch z) k
theorem SlotR.set {v : Option V} {s : Slot} (h : SlotR K mg Hs H v s) (hs : s.set = true) : ∃ x, v = some x := by
  cases s with
  | un => cases hs
  | tb P q => cases hs
  | fz d => obtain ⟨x, h1, _⟩ := h; exact ⟨x, h1⟩
  | ol ds | bl ds =>
    obtain ⟨a, vs, h1, _⟩ := h
    exact ⟨_, h1⟩
  | oK kvs | bK kvs | oT kvs | bT kvs =>
    obtain ⟨a, ks, vs, ds, h1, _⟩ := h
    exact ⟨_, h1⟩
  | pn n =>
    obtain ⟨a, h1, _⟩ := h
    exact ⟨_, h1⟩
  | mk C fs =>
    obtain ⟨a, Ca, dx, ks, vs, ds, h1, _⟩ := h
    exact ⟨_, h1⟩
/-- what an owning slot owns stands in the heap, not in its still part -/
theorem SlotR.owns {v : Option V} {s : Slot} (h : SlotR K mg Hs H v s) (ho : s.owned = true) : ∃ a, v = some (.ref a) ∧ Hs a = none ∧ H a ≠ none := by
  cases s with
  | un => cases ho
  | tb P q => cases ho
  | fz d => cases ho
  | ol ds | bl ds =>
    obtain ⟨a, vs, h1, h2, h3, _⟩ := h
    exact ⟨a, h1, h2, by rw [h3]; simp⟩
  | oK kvs | bK kvs | oT kvs | bT kvs =>
    obtain ⟨a, ks, vs, ds, h1, h2, h3, _⟩ := h
    exact ⟨a, h1, h2, by rw [h3]; simp⟩
  | pn n =>
    obtain ⟨a, h1, h2, _, _, _, _, _, _, h3, _⟩ := h
    exact ⟨a, h1, h2, by rw [h3]; simp⟩
  | mk C fs =>
    obtain ⟨a, Ca, dx, ks, vs, ds, h1, h2, h3, _⟩ := h
    exact ⟨a, h1, h2, by rw [h3]; simp⟩
theorem SlotR.notX {v : Option V} {s : Slot} (h : SlotR K mg Hs H v s) (ho : s.owned = true) : ∀ a, v = some (.ref a) → ∃ u, H a = some u ∧ HO.isX u = false := by
  cases s with
  | un => cases ho
  | tb P q => cases ho
  | fz d => cases ho
  | ol ds | bl ds =>
    obtain ⟨a, vs, h1, h2, h3, _⟩ := h
    intro b hb
    rw [h1] at hb; cases hb
    exact ⟨_, h3, rfl⟩
  | oK kvs | bK kvs | oT kvs | bT kvs =>
    obtain ⟨a, ks, vs, ds, h1, h2, h3, _⟩ := h
    intro b hb
    rw [h1] at hb; cases hb
    exact ⟨_, h3, rfl⟩
  | pn n =>
    obtain ⟨a, h1, h2, _, _, _, _, _, _, h3, _⟩ := h
    intro b hb
    rw [h1] at hb; cases hb
    exact ⟨_, h3, rfl⟩
  | mk C fs =>
    obtain ⟨a, Ca, dx, ks, vs, ds, h1, h2, h3, _⟩ := h
    intro b hb
    rw [h1] at hb; cases hb
    exact ⟨_, h3, rfl⟩
theorem SR.ownAt (S : SR K mg Z Hs H σ ρ) {i : Nat} {a : Addr} (o : Owns σ ρ i a) : Hs a = none ∧ H a ≠ none := by
  obtain ⟨b, h1, h2, h3⟩ := (S.sl i).owns o.2
  rw [o.1] at h1
  cases h1
  exact ⟨h2, h3⟩
/-- a new object, laid into the still part too -/
theorem SR.laid (S : SR K mg Z Hs H σ ρ) {p : Addr} {o : HO} (hp : H p = none) : SR K mg Z (upd Hs p o) (upd H p o) σ ρ := by
  have hsp : Hs p = none := by
    cases e : Hs p with
    | none => rfl
    | some u => rw [S.sub _ _ e] at hp; cases hp
  have z0 : Z.H p = none := by
    cases e : Z.H p with
    | none => rfl
    | some u => exact absurd hp (S.dom p (by rw [e]; simp))
  have gr : Same Hs (upd Hs p o) := fun b u e => by rw [upd_ne (ne_of_none e hsp)]; exact e
  refine ⟨fun b u e => ?_, S.s0.trans gr, fun a u e n => ?_, fun a e => ?_, fun a e => ?_, S.len, fun i => ?_, S.sep, S.own, S.pin, S.tz⟩
  · by_cases hb : b = p
    · subst hb; rw [upd_same] at e ⊢; exact e
    · rw [upd_ne hb] at e ⊢; exact S.sub _ _ e
  · rw [upd_ne (ne_of_none (S.h0 a u e n) hp)]; exact S.h0 a u e n
  · by_cases hb : a = p
    · subst hb; rw [upd_same]; simp
    · rw [upd_ne hb]; exact S.dom a e
  · by_cases hb : a = p
    · subst hb; exact .inr z0
    · rw [upd_ne hb] at e; exact S.new a e
  · refine (S.sl i).keep gr (KX.laid hp) fun a h1 h2 => ?_
    obtain ⟨q1, q2⟩ := S.ownAt ⟨h1, h2⟩
    have ne : a ≠ p := fun z => by subst z; exact q2 hp
    exact ⟨upd_ne ne, by rw [upd_ne ne]; exact q1⟩
/-- a new object that is not (yet) still -/
theorem SR.loose (S : SR K mg Z Hs H σ ρ) {p : Addr} {o : HO} (hp : H p = none) : SR K mg Z Hs (upd H p o) σ ρ := by
  refine ⟨fun b u e => ?_, S.s0, fun a u e n => ?_, fun a e => ?_, S.new, S.len, fun i => ?_, S.sep, S.own, S.pin, S.tz⟩
  · rw [upd_ne (ne_of_none (S.sub _ _ e) hp)]; exact S.sub _ _ e
  · rw [upd_ne (ne_of_none (S.h0 a u e n) hp)]; exact S.h0 a u e n
  · by_cases hb : a = p
    · subst hb; rw [upd_same]; simp
    · rw [upd_ne hb]; exact S.dom a e
  · refine (S.sl i).keep (Same.refl _) (KX.new hp) fun a h1 h2 => ?_
    obtain ⟨q1, q2⟩ := S.ownAt ⟨h1, h2⟩
    exact ⟨upd_ne fun z => by subst z; exact q2 hp, q1⟩
/-- an object that no slot owns becomes still -/
theorem SR.still (S : SR K mg Z Hs H σ ρ) {p : Addr} {o : HO} (nx : HO.isX o = false) (hp : H p = some o) (hs : Hs p = none) (z0 : Z.H p = none) (no : ∀ i, ¬ Owns σ ρ i p) : SR K mg Z (upd Hs p o) H σ ρ := by
  have gr : Same Hs (upd Hs p o) := fun b u e => by rw [upd_ne (ne_of_none e hs)]; exact e
  refine ⟨fun b u e => ?_, S.s0.trans gr, S.h0, S.dom, fun a e => ?_, S.len, fun i => ?_, S.sep, S.own, S.pin, S.tz⟩
  · by_cases hb : b = p
    · subst hb; rw [upd_same] at e; rw [hp]; exact e
    · rw [upd_ne hb] at e; exact S.sub _ _ e
  · by_cases hb : a = p
    · subst hb; exact .inr z0
    · rw [upd_ne hb] at e; exact S.new a e
  · refine (S.sl i).keep gr (KX.still hp nx) fun a h1 h2 => ?_
    obtain ⟨q1, q2⟩ := S.ownAt ⟨h1, h2⟩
    have ne : a ≠ p := fun z => by subst z; exact no i ⟨h1, h2⟩
    exact ⟨rfl, by rw [upd_ne ne]; exact q1⟩

theorem at_set {ρ : En} {i j : Nat} {s : Slot} : En.at (ρ.set i s) j = if j = i ∧ i < ρ.length then s else ρ.at j := by
  unfold En.at
  rw [List.getD_eq_getElem?_getD, List.getD_eq_getElem?_getD]
  by_cases h : j = i
  · subst h
    by_cases l : j < ρ.length
    · rw [List.getElem?_set_self l, if_pos ⟨rfl, l⟩]; rfl
    · rw [if_neg (fun z => l z.2), List.getElem?_eq_none (by simpa using l), List.getElem?_eq_none (by simpa using l)]
  · rw [if_neg (fun z => h z.1), List.getElem?_set_ne (Ne.symm h)]
theorem val_set {σ : L2.St} {i j : Nat} {v : Option V} : (σ.set i v).getD j none = if j = i ∧ i < σ.length then v else σ.getD j none := by
  rw [List.getD_eq_getElem?_getD, List.getD_eq_getElem?_getD]
  by_cases h : j = i
  · subst h
    by_cases l : j < σ.length
    · rw [List.getElem?_set_self l, if_pos ⟨rfl, l⟩]; rfl
    · rw [if_neg (fun z => l z.2), List.getElem?_eq_none (by simpa using l), List.getElem?_eq_none (by simpa using l)]
  · rw [if_neg (fun z => h z.1), List.getElem?_set_ne (Ne.symm h)]

def Slot.isTb : Slot → Bool
  | .tb _ _ => true
  | _ => false
theorem owned_tb {s : Slot} (h : s.owned = true) : s.isTb = false := by cases s <;> first | rfl | cases h
theorem tz_set {ρ : En} {i : Nat} {s : Slot} {f : Addr → Prop} (h : ∀ i P q, ρ.at i = .tb P q → f P) (n : s.isTb = false) : ∀ j P q, En.at (ρ.set i s) j = .tb P q → f P := fun j P q e => by
  rw [at_set] at e
  split at e
  · rw [e] at n; cases n
  · exact h j P q e
/-- a slot gets a new value: a still one -/
theorem SR.put (S : SR K mg Z Hs H σ ρ) {i : Nat} {v : V} {d : D} (r : Rep K mg Hs v d) (nl : (ρ.at i).lent = false) : SR K mg Z Hs H (σ.set i (some v)) (ρ.set i (.fz d)) := by
  have back : ∀ j a, Owns (σ.set i (some v)) (ρ.set i (.fz d)) j a → Owns σ ρ j a := fun j a ⟨h1, h2⟩ => by
    rw [at_set] at h2
    rw [val_set] at h1
    by_cases c : j = i ∧ i < ρ.length
    · rw [if_pos c] at h2; cases h2
    · rw [if_neg c] at h2
      rw [if_neg (by rw [S.len]; exact c)] at h1
      exact ⟨h1, h2⟩
  refine ⟨S.sub, S.s0, S.h0, S.dom, S.new, by simpa using S.len, fun j => ?_, fun j k a h1 h2 => S.sep j k a (back j a h1) (back k a h2), fun j a h => S.own j a (back j a h), fun q hq => ?_, tz_set S.tz rfl⟩
  · rw [at_set, val_set, S.len]
    split
    · exact ⟨v, rfl, r⟩
    · exact S.sl j
  · obtain ⟨h1, h2⟩ := S.pin q hq
    have ne : ¬ (q.1 = i ∧ i < ρ.length) := fun z => by rw [z.1, nl] at h2; cases h2
    rw [at_set, val_set, S.len, if_neg ne, if_neg ne]
    exact ⟨h1, h2⟩
/-- a slot is forgotten -/
theorem SR.wipe1 (S : SR K mg Z Hs H σ ρ) {i : Nat} (nl : (ρ.at i).lent = false) : SR K mg Z Hs H (σ.set i none) (ρ.set i .un) := by
  have back : ∀ j a, Owns (σ.set i none) (ρ.set i .un) j a → Owns σ ρ j a := fun j a ⟨h1, h2⟩ => by
    rw [at_set] at h2
    rw [val_set] at h1
    by_cases c : j = i ∧ i < ρ.length
    · rw [if_pos c] at h2; cases h2
    · rw [if_neg c] at h2
      rw [if_neg (by rw [S.len]; exact c)] at h1
      exact ⟨h1, h2⟩
  refine ⟨S.sub, S.s0, S.h0, S.dom, S.new, by simpa using S.len, fun j => ?_, fun j k a h1 h2 => S.sep j k a (back j a h1) (back k a h2), fun j a h => S.own j a (back j a h), fun q hq => ?_, tz_set S.tz rfl⟩
  · rw [at_set, val_set, S.len]
    split
    · trivial
    · exact S.sl j
  · obtain ⟨h1, h2⟩ := S.pin q hq
    have ne : ¬ (q.1 = i ∧ i < ρ.length) := fun z => by rw [z.1, nl] at h2; cases h2
    rw [at_set, val_set, S.len, if_neg ne, if_neg ne]
    exact ⟨h1, h2⟩
/-- a slot gets a loose object as its own -/
theorem SR.take (S : SR K mg Z Hs H σ ρ) {i : Nat} {p : Addr} {s : Slot} (so : s.owned = true) (sl : s.lent = false) (r : SlotR K mg Hs H (some (.ref p)) s) (z0 : Z.H p = none) (no : ∀ j, ¬ Owns σ ρ j p)
    (nl : (ρ.at i).lent = false) : SR K mg Z Hs H (σ.set i (some (.ref p))) (ρ.set i s) := by
  have back : ∀ j a, Owns (σ.set i (some (.ref p))) (ρ.set i s) j a → (j = i ∧ a = p) ∨ Owns σ ρ j a := fun j a ⟨h1, h2⟩ => by
    rw [at_set] at h2
    rw [val_set] at h1
    by_cases c : j = i ∧ i < ρ.length
    · rw [if_pos (by rw [S.len]; exact c)] at h1
      cases h1
      exact .inl ⟨c.1, rfl⟩
    · rw [if_neg c] at h2
      rw [if_neg (by rw [S.len]; exact c)] at h1
      exact .inr ⟨h1, h2⟩
  refine ⟨S.sub, S.s0, S.h0, S.dom, S.new, by simpa using S.len, fun j => ?_, fun j k a h1 h2 => ?_, fun j a h => ?_, fun q hq => ?_, tz_set S.tz (owned_tb so)⟩
  · rw [at_set, val_set, S.len]
    split
    · exact r
    · exact S.sl j
  · rcases back j a h1 with ⟨e1, e2⟩ | q1
    · rcases back k a h2 with ⟨e3, e4⟩ | q2
      · rw [e1, e3]
      · rw [e2] at q2; exact absurd q2 (no k)
    · rcases back k a h2 with ⟨e3, e4⟩ | q2
      · rw [e4] at q1; exact absurd q1 (no j)
      · exact S.sep j k a q1 q2
  · rcases back j a h with ⟨_, e⟩ | q
    · rw [e]; exact .inl z0
    · exact S.own j a q
  · obtain ⟨h1, h2⟩ := S.pin q hq
    have ne : ¬ (q.1 = i ∧ i < ρ.length) := fun z => by rw [z.1, nl] at h2; cases h2
    rw [at_set, val_set, S.len, if_neg ne, if_neg ne]
    exact ⟨h1, h2⟩
/-- a slot's own object becomes still -/
theorem SR.freeze (S : SR K mg Z Hs H σ ρ) {i : Nat} {p : Addr} {o : HO} {d : D} (ow : Owns σ ρ i p) (nl : (ρ.at i).lent = false) (hp : H p = some o) (r : Rep K mg (upd Hs p o) (.ref p) d) :
    SR K mg Z (upd Hs p o) H σ (ρ.set i (.fz d)) := by
  obtain ⟨hs, _⟩ := S.ownAt ow
  have kx : KX Hs H (upd Hs p o) H := by
    obtain ⟨u, hu, nx⟩ := (S.sl i).notX ow.2 p ow.1
    exact KX.still hu nx
  have gr : Same Hs (upd Hs p o) := fun b u e => by rw [upd_ne (ne_of_none e hs)]; exact e
  have lt : i < ρ.length := by
    by_cases l : i < ρ.length
    · exact l
    · have e : ρ.at i = .un := by
        unfold En.at
        rw [List.getD_eq_getElem?_getD, List.getElem?_eq_none (by simpa using l)]; rfl
      have := ow.2
      rw [e] at this; cases this
  have notP : p ∉ Z.P := fun hP => by
    obtain ⟨q, hq, e⟩ := List.mem_map.mp hP
    obtain ⟨h1, h2⟩ := S.pin q hq
    have : Owns σ ρ q.1 p := ⟨by rw [h1, e], by revert h2; cases ρ.at q.1 <;> simp [Slot.lent, Slot.owned]⟩
    rw [S.sep _ _ _ this ow, nl] at h2
    cases h2
  have z0 : Z.H p = none := (S.own i p ow).resolve_right notP
  have back : ∀ j a, Owns σ (ρ.set i (.fz d)) j a → j ≠ i ∧ Owns σ ρ j a := fun j a ⟨h1, h2⟩ => by
    rw [at_set] at h2
    by_cases c : j = i ∧ i < ρ.length
    · rw [if_pos c] at h2; cases h2
    · rw [if_neg c] at h2
      exact ⟨fun z => c ⟨z, lt⟩, h1, h2⟩
  refine ⟨fun b u e => ?_, S.s0.trans gr, S.h0, S.dom, fun a e => ?_, by simpa using S.len, fun j => ?_, fun j k a h1 h2 => S.sep j k a (back j a h1).2 (back k a h2).2, fun j a h => S.own j a (back j a h).2, fun q hq => ?_, tz_set S.tz rfl⟩
  · by_cases hb : b = p
    · subst hb; rw [upd_same] at e; rw [hp]; exact e
    · rw [upd_ne hb] at e; exact S.sub _ _ e
  · by_cases hb : a = p
    · subst hb; exact .inr z0
    · rw [upd_ne hb] at e; exact S.new a e
  · rw [at_set]
    by_cases c : j = i ∧ i < ρ.length
    · rw [if_pos c, c.1, ow.1]; exact ⟨_, rfl, r⟩
    · rw [if_neg c]
      refine (S.sl j).keep gr kx fun a h1 h2 => ?_
      have ne : a ≠ p := fun z => by
        subst z
        exact c ⟨S.sep j i a ⟨h1, h2⟩ ow, lt⟩
      exact ⟨rfl, by rw [upd_ne ne]; exact (S.ownAt ⟨h1, h2⟩).1⟩
  · obtain ⟨h1, h2⟩ := S.pin q hq
    have ne : ¬ (q.1 = i ∧ i < ρ.length) := fun z => by rw [z.1, nl] at h2; cases h2
    rw [at_set, if_neg ne]
    exact ⟨h1, h2⟩
/-- a slot's own object is written -/
theorem SR.write (S : SR K mg Z Hs H σ ρ) {i : Nat} {p : Addr} {o : HO} {s : Slot} (ow : Owns σ ρ i p) (r : SlotR K mg Hs (upd H p o) (some (.ref p)) s) (so : s.owned = true) (sl : s.lent = (ρ.at i).lent) :
    SR K mg Z Hs (upd H p o) σ (ρ.set i s) := by
  obtain ⟨hs, hn⟩ := S.ownAt ow
  have kx : KX Hs H Hs (upd H p o) := by
    obtain ⟨u, hu, nx⟩ := (S.sl i).notX ow.2 p ow.1
    exact KX.set hu nx
  have lt : i < ρ.length := by
    by_cases l : i < ρ.length
    · exact l
    · have e : ρ.at i = .un := by
        unfold En.at
        rw [List.getD_eq_getElem?_getD, List.getElem?_eq_none (by simpa using l)]; rfl
      have := ow.2
      rw [e] at this; cases this
  have back : ∀ j a, Owns σ (ρ.set i s) j a → Owns σ ρ j a := fun j a ⟨h1, h2⟩ => by
    rw [at_set] at h2
    by_cases c : j = i ∧ i < ρ.length
    · rw [c.1] at h1 ⊢
      rw [ow.1] at h1
      cases h1
      exact ow
    · rw [if_neg c] at h2
      exact ⟨h1, h2⟩
  refine ⟨fun b u e => ?_, S.s0, fun a u e n => ?_, fun a e => ?_, S.new, by simpa using S.len, fun j => ?_, fun j k a h1 h2 => S.sep j k a (back j a h1) (back k a h2), fun j a h => S.own j a (back j a h), fun q hq => ?_, tz_set S.tz (owned_tb so)⟩
  · rw [upd_ne (ne_of_none e hs)]; exact S.sub _ _ e
  · have ne : a ≠ p := fun z => by
      subst z
      rcases S.own i a ow with q | q
      · rw [q] at e; cases e
      · exact n q
    rw [upd_ne ne]; exact S.h0 a u e n
  · by_cases hb : a = p
    · subst hb; rw [upd_same]; simp
    · rw [upd_ne hb]; exact S.dom a e
  · rw [at_set]
    by_cases c : j = i ∧ i < ρ.length
    · rw [if_pos c, c.1, ow.1]; exact r
    · rw [if_neg c]
      refine (S.sl j).keep (Same.refl _) kx fun a h1 h2 => ?_
      have ne : a ≠ p := fun z => by
        subst z
        exact c ⟨S.sep j i a ⟨h1, h2⟩ ow, lt⟩
      exact ⟨upd_ne ne, (S.ownAt ⟨h1, h2⟩).1⟩
  · obtain ⟨h1, h2⟩ := S.pin q hq
    rw [at_set]
    by_cases c : q.1 = i ∧ i < ρ.length
    · rw [if_pos c, sl, ← c.1]; exact ⟨h1, h2⟩
    · rw [if_neg c]; exact ⟨h1, h2⟩
end
end EV
set_option Elab.async false
set_option linter.all false
set_option maxRecDepth 100000
set_option maxHeartbeats 4000000
/-! EV3: operations on data, and that the machine's own operations do them. -/
namespace EV
open PySem PySem.Spec PyProof.Rows L2

/-! ### data as the library's data -/
mutual
def toP : D → Option PyData
  | .non => some .none
  | .bl b => some (.bool b)
  | .int i => some (.int i)
  | .str x => some (.str x)
  | .tup ds => (toPs ds).map .tuple
  | .lst ds => (toPs ds).map .list
  | .gt _ | .dK _ | .dT _ | .obj _ _ | .gf _ | .fn _ | .gl _ => none
def toPs : List D → Option (List PyData)
  | [] => some []
  | d :: ds => match toP d, toPs ds with
    | some p, some ps => some (p :: ps)
    | _, _ => none
end
theorem toPs_cons {d : D} {ds : List D} {ps : List PyData} (h : toPs (d :: ds) = some ps) : ∃ p qs, ps = p :: qs ∧ toP d = some p ∧ toPs ds = some qs := by
  unfold toPs at h
  split at h
  · rename_i p qs e1 e2
    cases h
    exact ⟨p, qs, rfl, e1, e2⟩
  · cases h
section
variable {K : PySem.W.Frag} {mg : Mg} {H H' : Hp}
mutual
theorem Rep.dp : ∀ {v : V} {d : D} {p : PyData}, Rep K mg H v d → toP d = some p → Dp K H v p
  | _, _, _, .non, e => by simp only [toP, Option.some.injEq] at e; subst e; exact .non
  | _, _, _, .bl b, e => by simp only [toP, Option.some.injEq] at e; subst e; exact .bl b
  | _, _, _, .int b, e => by simp only [toP, Option.some.injEq] at e; subst e; exact .int b
  | _, _, _, .str b, e => by simp only [toP, Option.some.injEq] at e; subst e; exact .str b
  | _, _, _, .tup h r, e => by
    simp only [toP, Option.map_eq_some_iff] at e
    obtain ⟨ps, e1, rfl⟩ := e
    exact .tup (SqT.of h) (Reps.dp r e1)
  | _, _, _, .lst h r, e => by
    simp only [toP, Option.map_eq_some_iff] at e
    obtain ⟨ps, e1, rfl⟩ := e
    exact .lst (SqL.of h) (Reps.dp r e1)
  | _, _, _, .gt _ _, e => by simp [toP] at e
  | _, _, _, .dK _ _ _, e => by simp [toP] at e
  | _, _, _, .dT _ _ _, e => by simp [toP] at e
  | _, _, _, .obj _ _ _ _, e => by simp [toP] at e
  | _, _, _, .gf _, e => by simp [toP] at e
  | _, _, _, .fn _ _, e => by simp [toP] at e
  | _, _, _, .gl _ _, e => by simp [toP] at e
theorem Reps.dp : ∀ {vs : List V} {ds : List D} {ps : List PyData}, Reps K mg H vs ds → toPs ds = some ps → DpAll K H vs ps
  | _, _, _, .nil, e => by simp only [toPs, Option.some.injEq] at e; subst e; exact .nil
  | _, _, _, .cons r t, e => by
    obtain ⟨p, qs, rfl, e1, e2⟩ := toPs_cons e
    exact .cons (Rep.dp r e1) (Reps.dp t e2)
end
end

/-! ### what is looked at -/
/-- a still value, or a list or dict that a slot owns -/
def RepO (K : PySem.W.Frag) (mg : Mg) (Hs H : Hp) (v : V) (d : D) : Prop :=
  Rep K mg Hs v d ∨ (∃ a vs ds, v = .ref a ∧ d = .lst ds ∧ H a = some (.lst vs) ∧ Reps K mg Hs vs ds) ∨
    (∃ (a : Addr) (ks : List Key) (vs : List V) (ds : List D), v = .ref a ∧ d = .dK (ks.zip ds) ∧ H a = some (.dK (ks.zip vs)) ∧ ks.length = vs.length ∧ Reps K mg Hs vs ds) ∨
      ∃ (a : Addr) (ks : List (List Key)) (vs : List V) (ds : List D), v = .ref a ∧ d = .dT (ks.zip ds) ∧ H a = some (.dT (ks.zip vs)) ∧ ks.length = vs.length ∧ Reps K mg Hs vs ds
/-- a new value: a still one, or a loose new list or dict -/
def RepF (K : PySem.W.Frag) (mg : Mg) (Z : Zn) (Hs H : Hp) (σ : L2.St) (ρ : En) (v : V) (d : D) : Prop :=
  Rep K mg Hs v d ∨ (∃ a, v = .ref a ∧ Hs a = none ∧ Z.H a = none ∧ (∀ i, ¬ Owns σ ρ i a) ∧
    ((∃ vs ds, d = .lst ds ∧ H a = some (.lst vs) ∧ Reps K mg Hs vs ds) ∨
      (∃ (ks : List Key) (vs : List V) (ds : List D), d = .dK (ks.zip ds) ∧ H a = some (.dK (ks.zip vs)) ∧ ks.length = vs.length ∧ Reps K mg Hs vs ds) ∨
        ∃ (ks : List (List Key)) (vs : List V) (ds : List D), d = .dT (ks.zip ds) ∧ H a = some (.dT (ks.zip vs)) ∧ ks.length = vs.length ∧ Reps K mg Hs vs ds))
def D.isM : D → Bool
  | .lst _ | .dK _ | .dT _ => true
  | _ => false
/-- the same; unless m, a list or a dict is fresh -/
def RepX (m : Bool) (K : PySem.W.Frag) (mg : Mg) (Z : Zn) (Hs H : Hp) (σ : L2.St) (ρ : En) (v : V) (d : D) : Prop :=
  RepF K mg Z Hs H σ ρ v d ∧ (m = false → d.isM = true → ¬ Rep K mg Hs v d)
theorem RepX.mono {m m' : Bool} (h : m' = true → m = true) {K : PySem.W.Frag} {mg : Mg} {Z : Zn} {Hs H : Hp} {σ : L2.St} {ρ : En} {v : V} {d : D} (r : RepX m' K mg Z Hs H σ ρ v d) : RepX m K mg Z Hs H σ ρ v d :=
  ⟨r.1, fun e => r.2 (by cases m' with | false => rfl | true => rw [h rfl] at e; exact e)⟩
theorem RepX.of {m : Bool} {K : PySem.W.Frag} {mg : Mg} {Z : Zn} {Hs H : Hp} {σ : L2.St} {ρ : En} {v : V} {d : D} (r : Rep K mg Hs v d) (h : m = true ∨ d.isM = false) : RepX m K mg Z Hs H σ ρ v d :=
  ⟨.inl r, fun e i => by rcases h with h | h; rw [h] at e; cases e; rw [h] at i; cases i⟩
theorem notRep {K : PySem.W.Frag} {mg : Mg} {Hs : Hp} {a : Addr} {d : D} (h : Hs a = none) (i : d.isM = true) : ¬ Rep K mg Hs (.ref a) d := by
  intro r
  cases r with
  | lst e _ => rw [h] at e; cases e
  | dK e _ _ => rw [h] at e; cases e
  | dT e _ _ => rw [h] at e; cases e
  | _ => cases i
/-- what an operation that gives z owes to what is wanted of its value -/
def Bk (m : Bool) (K : PySem.W.Frag) (mg : Mg) (Z : Zn) (Hs : Hp) (σ : L2.St) (ρ : En) (z : D) (Q : VK) : Prop :=
  ∀ Hs' H' v, SR K mg Z Hs' H' σ ρ → Same Hs Hs' → RepX m K mg Z Hs' H' σ ρ v z → Q v H'

section
variable {K : PySem.W.Frag} {mg : Mg} {Z : Zn} {Hs H : Hp} {σ : L2.St} {ρ : En} {v : V} {d z : D} {Q : VK}
theorem RepO.ofRep (r : Rep K mg Hs v d) : RepO K mg Hs H v d := .inl r
theorem RepO.lst (S : Same Hs H) {ds : List D} (r : RepO K mg Hs H v (.lst ds)) : ∃ a vs, v = .ref a ∧ H a = some (.lst vs) ∧ Reps K mg Hs vs ds := by
  rcases r with r | ⟨a, vs, es, h1, h2, h3, h4⟩ | ⟨_, _, _, _, _, h2, _⟩ | ⟨_, _, _, _, _, h2, _⟩
  · cases r with
    | lst h r => exact ⟨_, _, rfl, S _ _ h, r⟩
  · cases h2; exact ⟨a, vs, h1, h3, h4⟩
  · cases h2
  · cases h2
theorem RepO.tup (S : Same Hs H) {ds : List D} (r : RepO K mg Hs H v (.tup ds)) : ∃ a vs, v = .ref a ∧ H a = some (.tup vs) ∧ Reps K mg Hs vs ds := by
  rcases r with r | ⟨_, _, _, _, h2, _⟩ | ⟨_, _, _, _, _, h2, _⟩ | ⟨_, _, _, _, _, h2, _⟩
  · cases r with
    | tup h r => exact ⟨_, _, rfl, S _ _ h, r⟩
  · cases h2
  · cases h2
  · cases h2
theorem written {a : Addr} {vs : List V} (h : SqT K (fun _ => none) a vs) (H : Hp) : SqT K H a vs := by
  rcases h with (h | ⟨_, h⟩) | h
  · cases h
  · cases h
  · exact .inr h
theorem RepO.gt {ds : List D} (r : RepO K mg Hs H v (.gt ds)) : ∃ a vs, v = .ref a ∧ SqT K H a vs ∧ Reps K mg Hs vs ds := by
  rcases r with r | ⟨_, _, _, _, h2, _⟩ | ⟨_, _, _, _, _, h2, _⟩ | ⟨_, _, _, _, _, h2, _⟩
  · cases r with
    | gt h r => exact ⟨_, _, rfl, written h H, r⟩
  all_goals cases h2
theorem RepO.gl (S : Same Hs H) {ds : List D} (r : RepO K mg Hs H v (.gl ds)) : ∃ a vs, v = .ref a ∧ SqL K H a vs ∧ Reps K mg Hs vs ds := by
  rcases r with r | ⟨_, _, _, _, h2, _⟩ | ⟨_, _, _, _, _, h2, _⟩ | ⟨_, _, _, _, _, h2, _⟩
  · cases r with
    | gl h r => exact ⟨_, _, rfl, Same.lstS S h, r⟩
  all_goals cases h2
theorem RepO.dK (S : Same Hs H) {kvs : List (Key × D)} (r : RepO K mg Hs H v (.dK kvs)) :
    ∃ (a : Addr) (ks : List Key) (vs : List V) (ds : List D), v = .ref a ∧ kvs = ks.zip ds ∧ H a = some (.dK (ks.zip vs)) ∧ ks.length = vs.length ∧ Reps K mg Hs vs ds := by
  rcases r with r | ⟨_, _, _, _, h2, _⟩ | ⟨a, ks, vs, ds, h1, h2, h3, h4, h5⟩ | ⟨_, _, _, _, _, h2, _⟩
  · cases r with
    | dK h l r => exact ⟨_, _, _, _, rfl, rfl, S _ _ h, l, r⟩
  · cases h2
  · cases h2; exact ⟨a, ks, vs, ds, h1, rfl, h3, h4, h5⟩
  · cases h2
theorem RepO.dT (S : Same Hs H) {kvs : List (List Key × D)} (r : RepO K mg Hs H v (.dT kvs)) :
    ∃ (a : Addr) (ks : List (List Key)) (vs : List V) (ds : List D), v = .ref a ∧ kvs = ks.zip ds ∧ H a = some (.dT (ks.zip vs)) ∧ ks.length = vs.length ∧ Reps K mg Hs vs ds := by
  rcases r with r | ⟨_, _, _, _, h2, _⟩ | ⟨_, _, _, _, _, h2, _⟩ | ⟨a, ks, vs, ds, h1, h2, h3, h4, h5⟩
  · cases r with
    | dT h l r => exact ⟨_, _, _, _, rfl, rfl, S _ _ h, l, r⟩
  · cases h2
  · cases h2
  · cases h2; exact ⟨a, ks, vs, ds, h1, rfl, h3, h4, h5⟩
theorem RepO.int {i : Int} (r : RepO K mg Hs H v (.int i)) : v = .int i := by
  rcases r with r | ⟨_, _, _, _, h2, _⟩ | ⟨_, _, _, _, _, h2, _⟩ | ⟨_, _, _, _, _, h2, _⟩
  · cases r; rfl
  all_goals cases h2
theorem RepO.bl {b : Bool} (r : RepO K mg Hs H v (.bl b)) : v = .bl b := by
  rcases r with r | ⟨_, _, _, _, h2, _⟩ | ⟨_, _, _, _, _, h2, _⟩ | ⟨_, _, _, _, _, h2, _⟩
  · cases r; rfl
  all_goals cases h2
theorem RepO.str {x : Str} (r : RepO K mg Hs H v (.str x)) : v = .str x := by
  rcases r with r | ⟨_, _, _, _, h2, _⟩ | ⟨_, _, _, _, _, h2, _⟩ | ⟨_, _, _, _, _, h2, _⟩
  · cases r; rfl
  all_goals cases h2
theorem RepO.non (r : RepO K mg Hs H v .non) : v = .non := by
  rcases r with r | ⟨_, _, _, _, h2, _⟩ | ⟨_, _, _, _, _, h2, _⟩ | ⟨_, _, _, _, _, h2, _⟩
  · cases r; rfl
  all_goals cases h2
theorem RepO.dp (S : Same Hs H) {p : PyData} (r : RepO K mg Hs H v d) (e : toP d = some p) : Dp K H v p := by
  rcases r with r | ⟨a, vs, ds, rfl, rfl, h3, h4⟩ | ⟨_, _, _, _, _, rfl, _⟩ | ⟨_, _, _, _, _, rfl, _⟩
  · exact (r.mono S).dp e
  · simp only [toP, Option.map_eq_some_iff] at e
    obtain ⟨ps, e1, rfl⟩ := e
    exact .lst (SqL.of h3) ((h4.mono S).dp e1)
  · simp [toP] at e
  · simp [toP] at e
theorem RepO.isNon (r : RepO K mg Hs H v d) : v = .non ↔ d = .non := by
  rcases r with r | ⟨a, vs, ds, rfl, rfl, _⟩ | ⟨_, _, _, _, rfl, rfl, _⟩ | ⟨_, _, _, _, rfl, rfl, _⟩
  · cases r <;> simp
  all_goals simp

theorem Bk.same {m : Bool} (S : SR K mg Z Hs H σ ρ) (b : Bk m K mg Z Hs σ ρ z Q) (r : Rep K mg Hs v z) (h : m = true ∨ z.isM = false) : Q v H := b Hs H v S (Same.refl _) (.of r h)
theorem Bk.int {m : Bool} (S : SR K mg Z Hs H σ ρ) {i : Int} (b : Bk m K mg Z Hs σ ρ (.int i) Q) : Q (.int i) H := b.same S (.int i) (.inr rfl)
theorem Bk.bl {m : Bool} (S : SR K mg Z Hs H σ ρ) {i : Bool} (b : Bk m K mg Z Hs σ ρ (.bl i) Q) : Q (.bl i) H := b.same S (.bl i) (.inr rfl)
theorem Bk.str {m : Bool} (S : SR K mg Z Hs H σ ρ) {i : Str} (b : Bk m K mg Z Hs σ ρ (.str i) Q) : Q (.str i) H := b.same S (.str i) (.inr rfl)
theorem Bk.ofO {m : Bool} (S : SR K mg Z Hs H σ ρ) {ds : List D} (b : Bk m K mg Z Hs σ ρ (.tup ds) Q) (r : RepO K mg Hs H v (.tup ds)) : Q v H := by
  rcases r with r | ⟨_, _, _, _, h2, _⟩ | ⟨_, _, _, _, _, h2, _⟩ | ⟨_, _, _, _, _, h2, _⟩
  · exact b.same S r (.inr rfl)
  all_goals cases h2
theorem SR.fresh (S : SR K mg Z Hs H σ ρ) {p : Addr} (hp : H p = none) : Hs p = none ∧ Z.H p = none ∧ ∀ i, ¬ Owns σ ρ i p := by
  refine ⟨?_, ?_, fun i o => (S.ownAt o).2 hp⟩
  · cases e : Hs p with
    | none => rfl
    | some u => rw [S.sub _ _ e] at hp; cases hp
  · cases e : Z.H p with
    | none => rfl
    | some u => exact absurd hp (S.dom p (by rw [e]; simp))
theorem Bk.newT {m : Bool} (S : SR K mg Z Hs H σ ρ) {vs : List V} {ds : List D} (b : Bk m K mg Z Hs σ ρ (.tup ds) Q) (r : Reps K mg Hs vs ds) {p : Addr} (hp : H p = none) : Q (.ref p) (upd H p (.tup vs)) := by
  obtain ⟨f1, _, _⟩ := S.fresh hp
  have gr : Same Hs (upd Hs p (.tup vs)) := fun c u e => by rw [upd_ne (ne_of_none e f1)]; exact e
  exact b _ _ _ (S.laid hp) gr (.of (.tup upd_same (r.mono gr)) (.inr rfl))
theorem Bk.newL {m : Bool} (S : SR K mg Z Hs H σ ρ) {vs : List V} {ds : List D} (b : Bk m K mg Z Hs σ ρ (.lst ds) Q) (r : Reps K mg Hs vs ds) {p : Addr} (hp : H p = none) : Q (.ref p) (upd H p (.lst vs)) := by
  obtain ⟨f1, f2, f3⟩ := S.fresh hp
  exact b _ _ _ (S.loose hp) (Same.refl _) ⟨.inr ⟨p, rfl, f1, f2, f3, .inl ⟨vs, ds, rfl, upd_same, r⟩⟩, fun _ i => notRep f1 i⟩
/-- a loose value becomes still -/
theorem RepF.still (S : SR K mg Z Hs H σ ρ) (r : RepF K mg Z Hs H σ ρ v d) : ∃ Hs', SR K mg Z Hs' H σ ρ ∧ Same Hs Hs' ∧ Rep K mg Hs' v d := by
  rcases r with r | ⟨a, rfl, h1, h2, h3, h⟩
  · exact ⟨Hs, S, Same.refl _, r⟩
  · have gr : ∀ o, Same Hs (upd Hs a o) := fun o c u e => by rw [upd_ne (ne_of_none e h1)]; exact e
    rcases h with ⟨vs, ds, rfl, e, r⟩ | ⟨ks, vs, ds, rfl, e, l, r⟩ | ⟨ks, vs, ds, rfl, e, l, r⟩
    · exact ⟨_, S.still rfl e h1 h2 h3, gr _, .lst upd_same (r.mono (gr _))⟩
    · exact ⟨_, S.still rfl e h1 h2 h3, gr _, .dK upd_same l (r.mono (gr _))⟩
    · exact ⟨_, S.still rfl e h1 h2 h3, gr _, .dT upd_same l (r.mono (gr _))⟩
end

/-! ### lists of one kind -/
def asInts : List D → Option (List Int)
  | [] => some []
  | .int i :: r => (asInts r).map (i :: ·)
  | _ => none
def asBls : List D → Option (List Bool)
  | [] => some []
  | .bl i :: r => (asBls r).map (i :: ·)
  | _ => none
theorem asInts_map (ns : List Int) : asInts (ns.map .int) = some ns := by
  induction ns with
  | nil => rfl
  | cons n ns ih => simp [asInts, ih]
theorem asBls_map (ns : List Bool) : asBls (ns.map .bl) = some ns := by
  induction ns with
  | nil => rfl
  | cons n ns ih => simp [asBls, ih]
theorem asInts_of : ∀ {ds : List D} {ns : List Int}, asInts ds = some ns → ds = ns.map .int
  | [], _, h => by simp [asInts] at h; subst h; rfl
  | d :: ds, ns, h => by
    cases d <;> simp [asInts] at h
    obtain ⟨ms, h1, h2⟩ := h
    subst h2
    rw [asInts_of h1]
    rfl
theorem asBls_of : ∀ {ds : List D} {ns : List Bool}, asBls ds = some ns → ds = ns.map .bl
  | [], _, h => by simp [asBls] at h; subst h; rfl
  | d :: ds, ns, h => by
    cases d <;> simp [asBls] at h
    obtain ⟨ms, h1, h2⟩ := h
    subst h2
    rw [asBls_of h1]
    rfl
theorem Reps.ints {K : PySem.W.Frag} {mg : Mg} {H : Hp} : ∀ {vs : List V} {ns : List Int}, Reps K mg H vs (ns.map .int) → vs = ns.map V.int
  | [], [], _ => rfl
  | _, _ :: _, .cons r t => by
    cases r
    rw [Reps.ints t]
    rfl
theorem Reps.bls {K : PySem.W.Frag} {mg : Mg} {H : Hp} : ∀ {vs : List V} {ns : List Bool}, Reps K mg H vs (ns.map .bl) → vs = ns.map V.bl
  | [], [], _ => rfl
  | _, _ :: _, .cons r t => by
    cases r
    rw [Reps.bls t]
    rfl
def maxOf : List Int → Option Int
  | [] => none
  | a :: r => some (r.foldl max a)
def minOf : List Int → Option Int
  | [] => none
  | a :: r => some (r.foldl min a)
theorem foldl_max (a : Int) : ∀ r : List Int, (r.foldl max a = a ∨ r.foldl max a ∈ r) ∧ a ≤ r.foldl max a ∧ ∀ x ∈ r, x ≤ r.foldl max a := by
  intro r
  induction r generalizing a with
  | nil => exact ⟨.inl rfl, Int.le_refl _, by simp⟩
  | cons b r ih =>
    obtain ⟨h1, h2, h3⟩ := ih (max a b)
    refine ⟨?_, ?_, ?_⟩
    · rcases h1 with h | h
      · rw [List.foldl_cons, h]
        by_cases c : a ≤ b
        · right; rw [Int.max_eq_right c]; exact List.mem_cons_self
        · left; exact Int.max_eq_left (by omega)
      · right; rw [List.foldl_cons]; exact List.mem_cons_of_mem _ h
    · rw [List.foldl_cons]; omega
    · intro x hx
      rw [List.foldl_cons]
      rcases List.mem_cons.mp hx with rfl | hx
      · omega
      · exact h3 x hx
theorem foldl_min (a : Int) : ∀ r : List Int, (r.foldl min a = a ∨ r.foldl min a ∈ r) ∧ r.foldl min a ≤ a ∧ ∀ x ∈ r, r.foldl min a ≤ x := by
  intro r
  induction r generalizing a with
  | nil => exact ⟨.inl rfl, Int.le_refl _, by simp⟩
  | cons b r ih =>
    obtain ⟨h1, h2, h3⟩ := ih (min a b)
    refine ⟨?_, ?_, ?_⟩
    · rcases h1 with h | h
      · rw [List.foldl_cons, h]
        by_cases c : a ≤ b
        · left; exact Int.min_eq_left c
        · right; rw [Int.min_eq_right (by omega)]; exact List.mem_cons_self
      · right; rw [List.foldl_cons]; exact List.mem_cons_of_mem _ h
    · rw [List.foldl_cons]; omega
    · intro x hx
      rw [List.foldl_cons]
      rcases List.mem_cons.mp hx with rfl | hx
      · omega
      · exact h3 x hx
theorem maxOf_spec {ns : List Int} {m : Int} : maxOf ns = some m ↔ m ∈ ns ∧ ∀ x ∈ ns, x ≤ m := by
  cases ns with
  | nil => simp [maxOf]
  | cons a r =>
    obtain ⟨h1, h2, h3⟩ := foldl_max a r
    constructor
    · intro h
      cases h
      refine ⟨?_, fun x hx => ?_⟩
      · rcases h1 with h | h
        · rw [h]; exact List.mem_cons_self
        · exact List.mem_cons_of_mem _ h
      · rcases List.mem_cons.mp hx with rfl | hx
        · exact h2
        · exact h3 x hx
    · rintro ⟨hm, hx⟩
      have e1 : m ≤ r.foldl max a := by
        rcases List.mem_cons.mp hm with rfl | hm
        · exact h2
        · exact h3 m hm
      have e2 : r.foldl max a ≤ m := by
        rcases h1 with h | h
        · rw [h]; exact hx a List.mem_cons_self
        · exact hx _ (List.mem_cons_of_mem _ h)
      show some _ = some _
      rw [Int.le_antisymm e1 e2]
theorem minOf_spec {ns : List Int} {m : Int} : minOf ns = some m ↔ m ∈ ns ∧ ∀ x ∈ ns, m ≤ x := by
  cases ns with
  | nil => simp [minOf]
  | cons a r =>
    obtain ⟨h1, h2, h3⟩ := foldl_min a r
    constructor
    · intro h
      cases h
      refine ⟨?_, fun x hx => ?_⟩
      · rcases h1 with h | h
        · rw [h]; exact List.mem_cons_self
        · exact List.mem_cons_of_mem _ h
      · rcases List.mem_cons.mp hx with rfl | hx
        · exact h2
        · exact h3 x hx
    · rintro ⟨hm, hx⟩
      have e1 : r.foldl min a ≤ m := by
        rcases List.mem_cons.mp hm with rfl | hm
        · exact h2
        · exact h3 m hm
      have e2 : m ≤ r.foldl min a := by
        rcases h1 with h | h
        · rw [h]; exact hx a List.mem_cons_self
        · exact hx _ (List.mem_cons_of_mem _ h)
      show some _ = some _
      rw [Int.le_antisymm e1 e2]

/-! ### operations of one place -/
inductive O1 where
  | len | tup | list | all | any | sum | int | neg | max | min | abs | repr | sorted
  deriving DecidableEq
/-- what repr says of a list, a tuple of data -/
def reprD (d : D) : Option Str := (toP d).bind fun p => match p with
  | .list _ | .tuple _ => if p.showable = true ∧ p.hasDict = false ∧ p.depth ≤ 64 ∧ p.shown.length ≤ sizeLine then some p.shown else none
  | _ => none
def pOf (d : D) : PyData := (toP d).getD .none
open Classical in
/-- a list sorted -/
noncomputable def sortD (ds : List D) : Option (List D) := (toPs ds).bind fun ps => if PySem.W.AllAlike ps ∧ PySem.W.Sortable ps ∧ (∀ p ∈ ps, p.depth ≤ 64) ∧ ds.length ≤ sizeLine then some (ds.mergeSort (PySem.W.dataLe false pOf)) else none
noncomputable def o1 : O1 → D → Option D
  | .len, .lst ds | .len, .tup ds | .len, .gt ds => some (.int ds.length)
  | .len, .str x => if x.length ≤ sizeLine then some (.int x.length) else none
  | .tup, .lst ds | .tup, .tup ds => some (.tup ds)
  | .list, .lst ds | .list, .tup ds | .list, .gl ds => some (.lst ds)
  | .all, .lst ds => (asBls ds).map fun bs => .bl (bs.all id)
  | .any, .lst ds => (asBls ds).map fun bs => .bl (bs.any id)
  | .sum, .lst ds => (asInts ds).map fun ns => .int ns.sum
  | .int, .int i => some (.int i)
  | .int, .bl b => some (.int (if b then 1 else 0))
  | .neg, .int i => some (.int (-i))
  | .max, .lst ds => (asInts ds).bind fun ns => (maxOf ns).map .int
  | .min, .lst ds => (asInts ds).bind fun ns => (minOf ns).map .int
  | .abs, .int i => some (.int (if i < 0 then -i else i))
  | .repr, d => (reprD d).map .str
  | .sorted, .lst ds => (sortD ds).map .lst
  | _, _ => none
/-- the operation as a relation: some state's data stand for the operand -/
def S1 (K : PySem.W.Frag) (mg : Mg) (k : O1) (x : V) (H : Hp) (Q : VK) : Prop :=
  ∃ (Z : Zn) (σ : L2.St) (ρ : En) (Hs : Hp) (d z : D), SR K mg Z Hs H σ ρ ∧ RepO K mg Hs H x d ∧ o1 k d = some z ∧ Bk false K mg Z Hs σ ρ z Q
def S1c (K : PySem.W.Frag) (mg : Mg) (k : O1) (xs : List V) (H : Hp) (Q : VK) : Prop := ∃ x, xs = [x] ∧ S1 K mg k x H Q
theorem callI {X : Cx} {f : Value} {r r' : List V → Hp → VK → Prop} (c : CallR X f r') (h : ∀ xs H Q, r xs H Q → r' xs H Q) : CallR X f r :=
  fun pins s σ H xs us Q I rv q => c pins s σ H xs us Q I rv (h _ _ _ q)
theorem unI {X : Cx} {f : Value → Sem Value} {r r' : V → Hp → VK → Prop} (c : UnR X f r') (h : ∀ x H Q, r x H Q → r' x H Q) : UnR X f r :=
  fun pins s σ H x v Q I rv q => c pins s σ H x v Q I rv (h _ _ _ q)
theorem opI {X : Cx} {f : Value → Value → Sem Value} {r r' : R2} (c : OpR X f r') (h : ∀ x y H Q, r x y H Q → r' x y H Q) : OpR X f r :=
  fun pins s σ H x y v u Q I rx ry q => c pins s σ H x y v u Q I rx ry (h _ _ _ _ q)
section
variable {X : Cx}
theorem s_len : CallR X (.builtin "len") (S1c X.K X.mg .len) := by
  refine callI (CallR.or call_len_seq call_len_str) ?_
  rintro xs H Q ⟨x, rfl, Z, σ, ρ, Hs, d, z, S, r, e, b⟩
  cases d <;> simp only [o1, reduceCtorEq, Option.some.injEq] at e
  · split at e
    · rename_i hz
      cases e
      rw [r.str]
      exact .inr ⟨_, rfl, hz, b.int S⟩
    · cases e
  · subst e
    obtain ⟨a, vs, rfl, h, q⟩ := r.tup S.sub
    rw [← q.length] at b
    exact .inl ⟨a, vs, rfl, .inr (SqT.of h), b.int S⟩
  · subst e
    obtain ⟨a, vs, rfl, h, q⟩ := r.lst S.sub
    rw [← q.length] at b
    exact .inl ⟨a, vs, rfl, .inl (SqL.of h), b.int S⟩
  · subst e
    obtain ⟨a, vs, rfl, h, q⟩ := r.gt
    rw [← q.length] at b
    exact .inl ⟨a, vs, rfl, .inr h, b.int S⟩
theorem s_tup : CallR X (.type "tuple") (S1c X.K X.mg .tup) := by
  refine callI call_tuple_of ?_
  rintro xs H Q ⟨x, rfl, Z, σ, ρ, Hs, d, z, S, r, e, b⟩
  cases d <;> simp only [o1, reduceCtorEq, Option.some.injEq] at e
  · subst e
    obtain ⟨a, vs, rfl, h, q⟩ := r.tup S.sub
    exact ⟨a, vs, rfl, .inr ⟨SqT.of h, b.ofO S r⟩⟩
  · subst e
    obtain ⟨a, vs, rfl, h, q⟩ := r.lst S.sub
    exact ⟨a, vs, rfl, .inl ⟨SqL.of h, fun l hl => b.newT S q hl⟩⟩
theorem s_list : CallR X (.type "list") (S1c X.K X.mg .list) := by
  refine callI call_list_of ?_
  rintro xs H Q ⟨x, rfl, Z, σ, ρ, Hs, d, z, S, r, e, b⟩
  cases d <;> simp only [o1, reduceCtorEq, Option.some.injEq] at e
  · subst e
    obtain ⟨a, vs, rfl, h, q⟩ := r.tup S.sub
    exact ⟨a, vs, rfl, .inr (SqT.of h), fun l hl => b.newL S q hl⟩
  · subst e
    obtain ⟨a, vs, rfl, h, q⟩ := r.lst S.sub
    exact ⟨a, vs, rfl, .inl (SqL.of h), fun l hl => b.newL S q hl⟩
  · subst e
    obtain ⟨a, vs, rfl, h, q⟩ := r.gl S.sub
    exact ⟨a, vs, rfl, .inl h, fun l hl => b.newL S q hl⟩
theorem s_all (hc : X.calm = true) : CallR X (.builtin "all") (S1c X.K X.mg .all) := by
  refine callI (cr_all hc) ?_
  rintro xs H Q ⟨x, rfl, Z, σ, ρ, Hs, d, z, S, r, e, b⟩
  cases d <;> simp only [o1, reduceCtorEq, Option.map_eq_some_iff] at e
  obtain ⟨bs, e1, rfl⟩ := e
  obtain ⟨a, vs, rfl, h, q⟩ := r.lst S.sub
  rw [asBls_of e1] at q
  rw [q.bls] at h
  exact ⟨a, bs, rfl, SqL.of h, b.bl S⟩
theorem s_any (hc : X.calm = true) : CallR X (.builtin "any") (S1c X.K X.mg .any) := by
  refine callI (cr_any hc) ?_
  rintro xs H Q ⟨x, rfl, Z, σ, ρ, Hs, d, z, S, r, e, b⟩
  cases d <;> simp only [o1, reduceCtorEq, Option.map_eq_some_iff] at e
  obtain ⟨bs, e1, rfl⟩ := e
  obtain ⟨a, vs, rfl, h, q⟩ := r.lst S.sub
  rw [asBls_of e1] at q
  rw [q.bls] at h
  exact ⟨a, bs, rfl, SqL.of h, b.bl S⟩
theorem s_sum (hc : X.calm = true) : CallR X (.builtin "sum") (S1c X.K X.mg .sum) := by
  refine callI (cr_sum hc) ?_
  rintro xs H Q ⟨x, rfl, Z, σ, ρ, Hs, d, z, S, r, e, b⟩
  cases d <;> simp only [o1, reduceCtorEq, Option.map_eq_some_iff] at e
  obtain ⟨bs, e1, rfl⟩ := e
  obtain ⟨a, vs, rfl, h, q⟩ := r.lst S.sub
  rw [asInts_of e1] at q
  rw [q.ints] at h
  exact ⟨a, bs, rfl, SqL.of h, b.int S⟩
theorem s_max (hc : X.calm = true) : CallR X (.builtin "max") (S1c X.K X.mg .max) := by
  refine callI (cr_max hc) ?_
  rintro xs H Q ⟨x, rfl, Z, σ, ρ, Hs, d, z, S, r, e, b⟩
  cases d <;> simp only [o1, reduceCtorEq, Option.bind_eq_some_iff, Option.map_eq_some_iff] at e
  obtain ⟨ns, e1, m, e2, rfl⟩ := e
  obtain ⟨a, vs, rfl, h, q⟩ := r.lst S.sub
  rw [asInts_of e1] at q
  rw [q.ints] at h
  obtain ⟨q1, q2⟩ := maxOf_spec.mp e2
  refine ⟨a, ns, rfl, SqL.of h, List.length_pos_of_mem q1, fun m' h1 h2 => ?_⟩
  have : m' = m := Int.le_antisymm (q2 _ h1) (h2 _ q1)
  rw [this]
  exact b.int S
theorem s_min (hc : X.calm = true) : CallR X (.builtin "min") (S1c X.K X.mg .min) := by
  refine callI (cr_min hc) ?_
  rintro xs H Q ⟨x, rfl, Z, σ, ρ, Hs, d, z, S, r, e, b⟩
  cases d <;> simp only [o1, reduceCtorEq, Option.bind_eq_some_iff, Option.map_eq_some_iff] at e
  obtain ⟨ns, e1, m, e2, rfl⟩ := e
  obtain ⟨a, vs, rfl, h, q⟩ := r.lst S.sub
  rw [asInts_of e1] at q
  rw [q.ints] at h
  obtain ⟨q1, q2⟩ := minOf_spec.mp e2
  refine ⟨a, ns, rfl, SqL.of h, List.length_pos_of_mem q1, fun m' h1 h2 => ?_⟩
  have : m' = m := Int.le_antisymm (h2 _ q1) (q2 _ h1)
  rw [this]
  exact b.int S
theorem s_int : CallR X (.type "int") (S1c X.K X.mg .int) := by
  refine callI call_int1 ?_
  rintro xs H Q ⟨x, rfl, Z, σ, ρ, Hs, d, z, S, r, e, b⟩
  cases d <;> simp only [o1, reduceCtorEq, Option.some.injEq] at e
  · subst e
    rw [r.bl]
    exact .inr ⟨_, rfl, b.int S⟩
  · subst e
    rw [r.int]
    exact .inl ⟨_, rfl, b.int S⟩
theorem s_abs : CallR X (.builtin "abs") (S1c X.K X.mg .abs) := by
  refine callI call_abs ?_
  rintro xs H Q ⟨x, rfl, Z, σ, ρ, Hs, d, z, S, r, e, b⟩
  cases d <;> simp only [o1, reduceCtorEq, Option.some.injEq] at e
  subst e
  rw [r.int]
  exact ⟨_, rfl, b.int S⟩
theorem s_neg : UnR X (unaryOp .USub) (S1 X.K X.mg .neg) := by
  refine unI un_neg ?_
  rintro x H Q ⟨Z, σ, ρ, Hs, d, z, S, r, e, b⟩
  cases d <;> simp only [o1, reduceCtorEq, Option.some.injEq] at e
  subst e
  rw [r.int]
  exact ⟨_, rfl, b.int S⟩
end

/-! ### operations of two places -/
inductive O2 where
  | add | sub | mul | fdiv | mod | pow | eq | ne | lt | le | gt | ge | in_ | nin | is_ | isn | item | max2 | min2
  deriving DecidableEq
def keyOf : D → Option Key
  | .int i => some (.inl i)
  | .str x => some (.inr x)
  | _ => none
def keysOf : List D → Option (List Key)
  | [] => some []
  | d :: ds => match keyOf d, keysOf ds with
    | some k, some ks => some (k :: ks)
    | _, _ => none
def valD {κ : Type} [DecidableEq κ] (kvs : List (κ × D)) (k : κ) : Option D := (kvs.find? fun kv => decide (kv.1 = k)).map (·.2)
def putD {κ : Type} [DecidableEq κ] (kvs : List (κ × D)) (k : κ) (v : D) : List (κ × D) :=
  if (kvs.any fun kv => decide (kv.1 = k)) = true then kvs.map (fun kv => if kv.1 = k then (kv.1, v) else kv) else kvs ++ [(k, v)]
def dropD {κ : Type} [DecidableEq κ] (kvs : List (κ × D)) (k : κ) : List (κ × D) := kvs.filter fun kv => decide (kv.1 ≠ k)
def eqP (d e : D) : Option Bool := match toP d, toP e with
  | some p, some q => if SeqAt.shaped p = true ∧ SeqAt.shaped q = true then some (PyData.eqv p q) else none
  | _, _ => none
/-- two texts, told apart from all else -/
def txtEq : D → D → Option Bool
  | .str x, .str y => some (decide (x = y))
  | _, _ => none
def eqD (d e : D) : Option Bool := match txtEq d e with
  | some b => some b
  | none => eqP d e
def flatD : D → Bool
  | .non | .bl _ | .int _ | .str _ => true
  | _ => false
def eqF : D → D → Bool
  | .non, .non => true
  | .bl a, .bl b => a == b
  | .bl a, .int b => (if a then 1 else 0) == b
  | .int a, .bl b => a == (if b then 1 else 0)
  | .int a, .int b => a == b
  | .str a, .str b => a == b
  | _, _ => false
def inD (x : D) : D → Option Bool
  | .lst ds => match toP x, toPs ds with
    | some p, some ps => if SeqAt.shaped p = true ∧ SeqAt.shaped (.list ps) = true then some (ps.any fun z => PyData.eqv z p) else none
    | _, _ => none
  | .tup ds | .gt ds => if flatD x = true ∧ ds.all flatD = true then some (ds.any fun y => eqF y x) else none
  | .dK kvs => (keyOf x).map fun k => (valD kvs k).isSome
  | .dT kvs => match x with
    | .tup ds => (keysOf ds).map fun k => (valD kvs k).isSome
    | _ => none
  | .str y => match x with
    | .str z => some (!(Builtin.Str.occurrences y z 0 y.length 1).isEmpty)
    | _ => none
  | _ => none
def isNon : D → Bool
  | .non => true
  | _ => false
def o2 : O2 → D → D → Option D
  | .add, .int i, .int j => some (.int (i + j))
  | .add, .str x, .str y => if x.length + y.length ≤ sizeLine then some (.str (x ++ y)) else none
  | .add, .lst xs, .lst ys => if xs.length + ys.length ≤ sizeLine then some (.lst (xs ++ ys)) else none
  | .add, .tup xs, .tup ys => if xs.length + ys.length ≤ sizeLine then some (.tup (xs ++ ys)) else none
  | .sub, .int i, .int j => some (.int (i - j))
  | .mul, .int i, .int j => if i.natAbs.log2 + j.natAbs.log2 < 1000000 then some (.int (i * j)) else none
  | .mul, .lst xs, .int k => if -(2 ^ 63) ≤ k ∧ k < 2 ^ 63 ∧ xs.length * k.toNat ≤ sizeLine then some (.lst (List.replicate k.toNat xs).flatten) else none
  | .fdiv, .int i, .int j => if 0 < j ∧ j.natAbs.log2 < 9000 then some (.int (i / j)) else none
  | .mod, .int i, .int j => if 0 < j then some (.int (i % j)) else none
  | .pow, .int i, .int j => if 0 ≤ j ∧ j ≤ 1000000 ∧ i.natAbs < 2 ^ 64 then some (.int (i ^ j.toNat)) else none
  | .eq, d, e => (eqD d e).map .bl
  | .ne, d, e => (eqD d e).map fun b => .bl (!b)
  | .lt, .int i, .int j => some (.bl (decide (i < j)))
  | .le, .int i, .int j => some (.bl (decide (i ≤ j)))
  | .gt, .int i, .int j => some (.bl (decide (j < i)))
  | .ge, .int i, .int j => some (.bl (decide (j ≤ i)))
  | .in_, d, e => (inD d e).map .bl
  | .nin, d, e => (inD d e).map fun b => .bl (!b)
  | .is_, d, .non => some (.bl (isNon d))
  | .isn, d, .non => some (.bl (!isNon d))
  | .is_, .bl a, .bl b => some (.bl (decide (a = b)))
  | .isn, .bl a, .bl b => some (.bl (!decide (a = b)))
  | .item, .lst ds, .int i | .item, .tup ds, .int i | .item, .gt ds, .int i => atI ds i
  | .item, .str z, .int i => if z.length ≤ sizeLine then (atI z.cps.toList i).map fun c => .str ⟨#[c]⟩ else none
  | .item, .dK kvs, d => (keyOf d).bind fun k => valD kvs k
  | .item, .dT kvs, .tup ds => (keysOf ds).bind fun k => valD kvs k
  | .max2, .int i, .int j => some (.int (if j > i then j else i))
  | .min2, .int i, .int j => some (.int (if j < i then j else i))
  | _, _, _ => none
def isItem : O2 → Bool
  | .item => true
  | _ => false
def S2 (K : PySem.W.Frag) (mg : Mg) (k : O2) : R2 := fun x y H Q =>
  ∃ (Z : Zn) (σ : L2.St) (ρ : En) (Hs : Hp) (d e z : D), SR K mg Z Hs H σ ρ ∧ RepO K mg Hs H x d ∧ RepO K mg Hs H y e ∧ o2 k d e = some z ∧ Bk (isItem k) K mg Z Hs σ ρ z Q
end EV
set_option Elab.async false
set_option linter.all false
set_option maxRecDepth 100000
set_option maxHeartbeats 4000000
/-! EV4: operations of two places, slices. -/
namespace EV
open PySem PySem.Spec PyProof.Rows L2

section
variable {K : PySem.W.Frag} {mg : Mg} {Z : Zn} {Hs H : Hp} {σ : L2.St} {ρ : En} {Q : VK}
theorem Bk.ofTup {m : Bool} (S : SR K mg Z Hs H σ ρ) {ds : List D} {a : Addr} {vs : List V} (b : Bk m K mg Z Hs σ ρ (.tup ds) Q) (r : RepO K mg Hs H (.ref a) (.tup ds)) : Q (.ref a) H := b.ofO S r
theorem Bk.item (S : SR K mg Z Hs H σ ρ) {vs : List V} {ds : List D} {i : Int} {d : D} (b : Bk true K mg Z Hs σ ρ d Q) (r : Reps K mg Hs vs ds) (e : atI ds i = some d) : ∃ v, atI vs i = some v ∧ Q v H := by
  unfold atI at e ⊢
  rw [← r.length] at e
  cases q : ixN vs.length i with
  | none => rw [q] at e; cases e
  | some j =>
    rw [q] at e
    obtain ⟨v, h1, h2⟩ := r.get (show ds[j]? = some d from e)
    exact ⟨v, h1, b.same S h2 (.inl rfl)⟩
theorem keyOf_rep {v : V} {d : D} {k : Key} (r : RepO K mg Hs H v d) (e : keyOf d = some k) : v = kV k := by
  cases d <;> simp only [keyOf, reduceCtorEq, Option.some.injEq] at e
  · subst e; exact r.int
  · subst e; exact r.str
theorem keysOf_rep : ∀ {vs : List V} {ds : List D} {ks : List Key}, Reps K mg Hs vs ds → keysOf ds = some ks → vs = ks.map kV
  | _, _, _, .nil, e => by simp only [keysOf, Option.some.injEq] at e; subst e; rfl
  | _, _, _, .cons r t, e => by
    unfold keysOf at e
    split at e
    · rename_i k ks e1 e2
      cases e
      rw [keysOf_rep t e2, keyOf_rep (H := Hs) (RepO.ofRep r) e1]
      rfl
    · cases e
section
variable {κ : Type} [DecidableEq κ]
theorem valD_rep : ∀ {ks : List κ} {vs : List V} {ds : List D} (k : κ), ks.length = vs.length → Reps K mg Hs vs ds →
    (valD (ks.zip ds) k = none ∧ valV (ks.zip vs) k = none) ∨ ∃ v d, valD (ks.zip ds) k = some d ∧ valV (ks.zip vs) k = some v ∧ Rep K mg Hs v d
  | [], vs, ds, k, l, r => by
    left
    constructor <;> simp [valD, valV]
  | a :: ks, v :: vs, d :: ds, k, l, .cons r t => by
    have ih := valD_rep (ks := ks) k (by simpa using l) t
    by_cases h : a = k
    · right
      exact ⟨v, d, by simp [valD, h], by simp [valV, h], r⟩
    · have e1 : valD ((a :: ks).zip (d :: ds)) k = valD (ks.zip ds) k := by simp [valD, h]
      have e2 : valV ((a :: ks).zip (v :: vs)) k = valV (ks.zip vs) k := by simp [valV, h]
      rw [e1, e2]
      exact ih
  | a :: ks, [], ds, k, l, r => by simp at l
end
end

theorem flatV_of {K : PySem.W.Frag} {mg : Mg} {Hs H : Hp} {v : V} {d : D} (r : RepO K mg Hs H v d) (f : flatD d = true) : flatV v = true := by
  cases d <;> simp [flatD] at f
  · rw [r.non]; rfl
  · rw [r.bl]; rfl
  · rw [r.int]; rfl
  · rw [r.str]; rfl
theorem eqV_of {K : PySem.W.Frag} {mg : Mg} {Hs H Hs' H' : Hp} {v w : V} {d e : D} (r : RepO K mg Hs H v d) (q : RepO K mg Hs' H' w e) (f : flatD d = true) (g : flatD e = true) : eqV v w = eqF d e := by
  cases d <;> simp [flatD] at f <;> cases e <;> simp [flatD] at g
  all_goals first
    | (rw [r.non, q.non]; rfl) | (rw [r.non, q.bl]; rfl) | (rw [r.non, q.int]; rfl) | (rw [r.non, q.str]; rfl)
    | (rw [r.bl, q.non]; rfl) | (rw [r.bl, q.bl]; rfl) | (rw [r.bl, q.int]; rfl) | (rw [r.bl, q.str]; rfl)
    | (rw [r.int, q.non]; rfl) | (rw [r.int, q.bl]; rfl) | (rw [r.int, q.int]; rfl) | (rw [r.int, q.str]; rfl)
    | (rw [r.str, q.non]; rfl) | (rw [r.str, q.bl]; rfl) | (rw [r.str, q.int]; rfl) | (rw [r.str, q.str]; rfl)
theorem flats_of {K : PySem.W.Frag} {mg : Mg} {Hs : Hp} : ∀ {vs : List V} {ds : List D}, Reps K mg Hs vs ds → ds.all flatD = true → vs.all flatV = true
  | _, _, .nil, _ => rfl
  | _, _, .cons r t, f => by
    simp only [List.all_cons, Bool.and_eq_true] at f ⊢
    exact ⟨flatV_of (H := Hs) (.ofRep r) f.1, flats_of t f.2⟩
theorem inV_of {K : PySem.W.Frag} {mg : Mg} {Hs H : Hp} {x : V} {d : D} (rx : RepO K mg Hs H x d) (fx : flatD d = true) : ∀ {vs : List V} {ds : List D}, Reps K mg Hs vs ds → ds.all flatD = true →
    inV x vs = ds.any fun y => eqF y d
  | _, _, .nil, _ => rfl
  | _, _, .cons r t, f => by
    simp only [List.all_cons, Bool.and_eq_true] at f
    show (eqV _ x || inV x _) = _
    rw [eqV_of (H := Hs) (.ofRep r) rx f.1 fx, inV_of rx fx t f.2, List.any_cons]

section
variable {X : Cx}
theorem s_add : OpR X (binaryOp .Add) (S2 X.K X.mg .add) := by
  refine opI (OpR.or op_add (OpR.or op_add_str (OpR.or op_cat op_catA))) ?_
  rintro x y H Q ⟨Z, σ, ρ, Hs, d, e, z, S, r, q, h, b⟩
  cases d <;> cases e <;> simp only [o2, reduceCtorEq, Option.some.injEq, Option.ite_none_right_eq_some] at h
  · subst h
    rw [r.int, q.int]
    exact .inl ⟨_, _, rfl, rfl, b.int S⟩
  · obtain ⟨hz, rfl⟩ := h
    rw [r.str, q.str]
    exact .inr (.inl ⟨_, _, rfl, rfl, hz, b.str S⟩)
  · obtain ⟨hz, rfl⟩ := h
    rename_i ds es
    obtain ⟨a, vs, rfl, h1, r1⟩ := r.tup S.sub
    obtain ⟨c, ws, rfl, h2, r2⟩ := q.tup S.sub
    rw [← r1.length, ← r2.length] at hz
    refine .inr (.inr (.inr ⟨a, c, vs, ws, rfl, rfl, SqT.of h1, SqT.of h2, hz, fun e => ?_, fun e1 e2 => ?_, fun e1 e2 p hp => b.newT S (r1.append r2) hp⟩))
    · subst e
      cases r1
      exact b.ofO S q
    · subst e2
      cases r2
      rw [List.append_nil] at b
      exact b.ofO S r
  · obtain ⟨hz, rfl⟩ := h
    obtain ⟨a, vs, rfl, h1, r1⟩ := r.lst S.sub
    obtain ⟨c, ws, rfl, h2, r2⟩ := q.lst S.sub
    rw [← r1.length, ← r2.length] at hz
    exact .inr (.inr (.inl ⟨a, c, vs, ws, rfl, rfl, h1, h2, hz, fun p hp => b.newL S (r1.append r2) hp⟩))
theorem s_sub : OpR X (binaryOp .Sub) (S2 X.K X.mg .sub) := by
  refine opI op_sub ?_
  rintro x y H Q ⟨Z, σ, ρ, Hs, d, e, z, S, r, q, h, b⟩
  cases d <;> cases e <;> simp only [o2, reduceCtorEq, Option.some.injEq] at h
  subst h
  rw [r.int, q.int]
  exact ⟨_, _, rfl, rfl, b.int S⟩
theorem s_mul : OpR X (binaryOp .Mult) (S2 X.K X.mg .mul) := by
  refine opI (OpR.or op_mulW op_rep) ?_
  rintro x y H Q ⟨Z, σ, ρ, Hs, d, e, z, S, r, q, h, b⟩
  cases d <;> cases e <;> simp only [o2, reduceCtorEq, Option.ite_none_right_eq_some, Option.some.injEq] at h
  · obtain ⟨hz, rfl⟩ := h
    rw [r.int, q.int]
    exact .inl ⟨_, _, rfl, rfl, hz, b.int S⟩
  · obtain ⟨⟨h1, h2, h3⟩, rfl⟩ := h
    obtain ⟨a, vs, rfl, h4, r1⟩ := r.lst S.sub
    rw [q.int]
    rw [← r1.length] at h3
    exact .inr ⟨a, _, vs, rfl, rfl, h4, h1, h2, h3, fun p hp => b.newL S (r1.rep _) hp⟩
theorem s_fdiv : OpR X (binaryOp .FloorDiv) (S2 X.K X.mg .fdiv) := by
  refine opI op_fdivW ?_
  rintro x y H Q ⟨Z, σ, ρ, Hs, d, e, z, S, r, q, h, b⟩
  cases d <;> cases e <;> simp only [o2, reduceCtorEq, Option.ite_none_right_eq_some, Option.some.injEq] at h
  obtain ⟨hz, rfl⟩ := h
  rw [r.int, q.int]
  exact ⟨_, _, rfl, rfl, hz, b.int S⟩
theorem s_mod : OpR X (binaryOp .Mod) (S2 X.K X.mg .mod) := by
  refine opI op_mod ?_
  rintro x y H Q ⟨Z, σ, ρ, Hs, d, e, z, S, r, q, h, b⟩
  cases d <;> cases e <;> simp only [o2, reduceCtorEq, Option.ite_none_right_eq_some, Option.some.injEq] at h
  obtain ⟨hz, rfl⟩ := h
  rw [r.int, q.int]
  exact ⟨_, _, rfl, rfl, hz, b.int S⟩
theorem s_pow : OpR X (binaryOp .Pow) (S2 X.K X.mg .pow) := by
  refine opI op_pow ?_
  rintro x y H Q ⟨Z, σ, ρ, Hs, d, e, z, S, r, q, h, b⟩
  cases d <;> cases e <;> simp only [o2, reduceCtorEq, Option.ite_none_right_eq_some, Option.some.injEq] at h
  obtain ⟨hz, rfl⟩ := h
  rw [r.int, q.int]
  exact ⟨_, _, rfl, rfl, hz, b.int S⟩
theorem eqP_some {d e : D} {b : Bool} (h : eqP d e = some b) : ∃ p q, toP d = some p ∧ toP e = some q ∧ SeqAt.shaped p = true ∧ SeqAt.shaped q = true ∧ b = PyData.eqv p q := by
  unfold eqP at h
  split at h
  · rename_i p q e1 e2
    split at h
    · rename_i hs
      cases h
      exact ⟨p, q, e1, e2, hs.1, hs.2, rfl⟩
    · cases h
  · cases h
theorem eqD_some {d e : D} {b : Bool} (h : eqD d e = some b) : (∃ x y, d = .str x ∧ e = .str y ∧ b = decide (x = y)) ∨ eqP d e = some b := by
  unfold eqD at h
  split at h
  · rename_i b' h'
    cases h
    unfold txtEq at h'
    split at h'
    · cases h'; exact .inl ⟨_, _, rfl, rfl, rfl⟩
    · cases h'
  · exact .inr h
theorem s_eq (hu : X.A.units + 64 < cLine) : OpR X (compareOp .Eq) (S2 X.K X.mg .eq) := by
  refine opI (OpR.or (op_eqD hu) op_eq) ?_
  rintro x y H Q ⟨Z, σ, ρ, Hs, d, e, z, S, r, q, h, b⟩
  have h' : (eqD d e).map D.bl = some z := by cases d <;> cases e <;> exact h
  obtain ⟨k, h1, rfl⟩ := Option.map_eq_some_iff.mp h'
  rcases eqD_some h1 with ⟨x1, y1, rfl, rfl, rfl⟩ | h1
  · rw [r.str, q.str]
    exact .inr ⟨rfl, by rw [show decide (V.str x1 = V.str y1) = decide (x1 = y1) by simp]; exact b.bl S⟩
  · obtain ⟨p1, p2, e1, e2, e3, e4, rfl⟩ := eqP_some h1
    exact .inl ⟨p1, p2, r.dp S.sub e1, q.dp S.sub e2, e3, e4, b.bl S⟩
theorem s_ne (hu : X.A.units + 64 < cLine) : OpR X (compareOp .NotEq) (S2 X.K X.mg .ne) := by
  refine opI (OpR.or (op_neD hu) op_ne) ?_
  rintro x y H Q ⟨Z, σ, ρ, Hs, d, e, z, S, r, q, h, b⟩
  have h' : ((eqD d e).map fun b => D.bl (!b)) = some z := by cases d <;> cases e <;> exact h
  obtain ⟨k, h1, rfl⟩ := Option.map_eq_some_iff.mp h'
  rcases eqD_some h1 with ⟨x1, y1, rfl, rfl, rfl⟩ | h1
  · rw [r.str, q.str]
    exact .inr ⟨rfl, by rw [show decide (V.str x1 = V.str y1) = decide (x1 = y1) by simp]; exact b.bl S⟩
  · obtain ⟨p1, p2, e1, e2, e3, e4, rfl⟩ := eqP_some h1
    exact .inl ⟨p1, p2, r.dp S.sub e1, q.dp S.sub e2, e3, e4, b.bl S⟩
theorem s_lt : OpR X (compareOp .Lt) (S2 X.K X.mg .lt) := by
  refine opI op_lt ?_
  rintro x y H Q ⟨Z, σ, ρ, Hs, d, e, z, S, r, q, h, b⟩
  cases d <;> cases e <;> simp only [o2, reduceCtorEq, Option.some.injEq] at h
  subst h
  rw [r.int, q.int]
  exact ⟨_, _, rfl, rfl, b.bl S⟩
theorem s_le : OpR X (compareOp .LtE) (S2 X.K X.mg .le) := by
  refine opI op_le ?_
  rintro x y H Q ⟨Z, σ, ρ, Hs, d, e, z, S, r, q, h, b⟩
  cases d <;> cases e <;> simp only [o2, reduceCtorEq, Option.some.injEq] at h
  subst h
  rw [r.int, q.int]
  exact ⟨_, _, rfl, rfl, b.bl S⟩
theorem s_gt : OpR X (compareOp .Gt) (S2 X.K X.mg .gt) := by
  refine opI op_gt ?_
  rintro x y H Q ⟨Z, σ, ρ, Hs, d, e, z, S, r, q, h, b⟩
  cases d <;> cases e <;> simp only [o2, reduceCtorEq, Option.some.injEq] at h
  subst h
  rw [r.int, q.int]
  exact ⟨_, _, rfl, rfl, b.bl S⟩
theorem s_ge : OpR X (compareOp .GtE) (S2 X.K X.mg .ge) := by
  refine opI op_ge ?_
  rintro x y H Q ⟨Z, σ, ρ, Hs, d, e, z, S, r, q, h, b⟩
  cases d <;> cases e <;> simp only [o2, reduceCtorEq, Option.some.injEq] at h
  subst h
  rw [r.int, q.int]
  exact ⟨_, _, rfl, rfl, b.bl S⟩
theorem s_is : OpR X (compareOp .Is) (S2 X.K X.mg .is_) := by
  refine opI (OpR.or op_isN op_isBl) ?_
  rintro x y H Q ⟨Z, σ, ρ, Hs, d, e, z, S, r, q, h, b⟩
  cases e with
  | non =>
    have h' : D.bl (isNon d) = z := by cases d <;> exact Option.some.inj h
    refine .inl ⟨q.non, ?_⟩
    have e2 : decide (x = V.non) = isNon d := by
      have i := r.isNon
      cases d <;> simp_all [isNon]
    rw [e2]
    subst h'
    exact b.bl S
  | bl c =>
    cases d <;> simp only [o2, reduceCtorEq, Option.some.injEq] at h
    subst h
    rw [r.bl, q.bl]
    exact .inr ⟨_, _, rfl, rfl, b.bl S⟩
  | _ => cases d <;> simp [o2] at h
theorem s_isn : OpR X (compareOp .IsNot) (S2 X.K X.mg .isn) := by
  refine opI (OpR.or op_notN op_notBl) ?_
  rintro x y H Q ⟨Z, σ, ρ, Hs, d, e, z, S, r, q, h, b⟩
  cases e with
  | non =>
    have h' : D.bl (!isNon d) = z := by cases d <;> exact Option.some.inj h
    refine .inl ⟨q.non, ?_⟩
    have e2 : decide (x = V.non) = isNon d := by
      have i := r.isNon
      cases d <;> simp_all [isNon]
    rw [e2]
    subst h'
    exact b.bl S
  | bl c =>
    cases d <;> simp only [o2, reduceCtorEq, Option.some.injEq] at h
    subst h
    rw [r.bl, q.bl]
    exact .inr ⟨_, _, rfl, rfl, b.bl S⟩
  | _ => cases d <;> simp [o2] at h
/-- a key in a dict -/
theorem op_dIn (hu : X.A.units + 1 < cLine) : OpR X (compareOp .In) (fun x y H Q => ∃ a o, y = .ref a ∧ DGet H a x o ∧ Q (.bl o.isSome) H) := by
  rintro pins s σ H x y v u Q I rx ry ⟨a, o, rfl, g, hq⟩
  cases ry
  exact d_in hu I g rx fun s' I' => ⟨.bl _, H, I', rfl, hq⟩
theorem op_dNotIn (hu : X.A.units + 1 < cLine) : OpR X (compareOp .NotIn) (fun x y H Q => ∃ a o, y = .ref a ∧ DGet H a x o ∧ Q (.bl (!o.isSome)) H) := by
  rintro pins s σ H x y v u Q I rx ry ⟨a, o, rfl, g, hq⟩
  cases ry
  exact d_notIn hu I g rx fun s' I' => ⟨.bl _, H, I', rfl, hq⟩
theorem dget_K {K : PySem.W.Frag} {mg : Mg} {Hs H : Hp} (S : Same Hs H) {x y : V} {d : D} {kvs : List (Key × D)} {k : Key} (r : RepO K mg Hs H x d) (q : RepO K mg Hs H y (.dK kvs)) (e : keyOf d = some k) :
    ∃ a o, y = .ref a ∧ DGet H a x o ∧ ((valD kvs k = none ∧ o = none) ∨ ∃ v z, valD kvs k = some z ∧ o = some v ∧ Rep K mg Hs v z) := by
  obtain ⟨a, ks, vs, ds, rfl, rfl, h1, h2, h3⟩ := q.dK S
  have ex := keyOf_rep r e
  subst ex
  refine ⟨a, _, rfl, DGet.k h1, ?_⟩
  rcases valD_rep k h2 h3 with ⟨e1, e2⟩ | ⟨v, z, e1, e2, e3⟩
  · exact .inl ⟨e1, e2⟩
  · exact .inr ⟨v, z, e1, e2, e3⟩
theorem dget_T {K : PySem.W.Frag} {mg : Mg} {Hs H : Hp} (S : Same Hs H) {x y : V} {es : List D} {kvs : List (List Key × D)} {k : List Key} (r : RepO K mg Hs H x (.tup es)) (q : RepO K mg Hs H y (.dT kvs)) (e : keysOf es = some k) :
    ∃ a o, y = .ref a ∧ DGet H a x o ∧ ((valD kvs k = none ∧ o = none) ∨ ∃ v z, valD kvs k = some z ∧ o = some v ∧ Rep K mg Hs v z) := by
  obtain ⟨a, ks, vs, ds, rfl, rfl, h1, h2, h3⟩ := q.dT S
  obtain ⟨c, ws, rfl, h4, h5⟩ := r.tup S
  rw [keysOf_rep h5 e] at h4
  refine ⟨a, _, rfl, DGet.t h1 h4, ?_⟩
  rcases valD_rep k h2 h3 with ⟨e1, e2⟩ | ⟨v, z, e1, e2, e3⟩
  · exact .inl ⟨e1, e2⟩
  · exact .inr ⟨v, z, e1, e2, e3⟩
theorem same_some {K : PySem.W.Frag} {mg : Mg} {Hs : Hp} {a : Option D} {o : Option V} (h : (a = none ∧ o = none) ∨ ∃ v z, a = some z ∧ o = some v ∧ Rep K mg Hs v z) : a.isSome = o.isSome := by
  rcases h with ⟨rfl, rfl⟩ | ⟨v, z, rfl, rfl, _⟩ <;> rfl
theorem inD_some {d e : D} {b : Bool} (h : inD d e = some b) :
    (∃ p ds ps, e = .lst ds ∧ toP d = some p ∧ toPs ds = some ps ∧ SeqAt.shaped p = true ∧ SeqAt.shaped (.list ps) = true ∧ b = ps.any fun z => PyData.eqv z p) ∨
    (∃ ds, (e = .tup ds ∨ e = .gt ds) ∧ flatD d = true ∧ ds.all flatD = true ∧ b = ds.any fun y => eqF y d) ∨
    (∃ kvs k, e = .dK kvs ∧ keyOf d = some k ∧ b = (valD kvs k).isSome) ∨
    (∃ kvs es k, e = .dT kvs ∧ d = .tup es ∧ keysOf es = some k ∧ b = (valD kvs k).isSome) ∨
    (∃ y z, e = .str y ∧ d = .str z ∧ b = !(Builtin.Str.occurrences y z 0 y.length 1).isEmpty) := by
  cases e with
  | lst ds =>
    simp only [inD] at h
    split at h
    · rename_i p ps e1 e2
      split at h
      · rename_i hs
        cases h
        exact .inl ⟨p, ds, ps, rfl, e1, e2, hs.1, hs.2, rfl⟩
      · cases h
    · cases h
  | tup ds =>
    simp only [inD] at h
    split at h
    · rename_i hs
      cases h
      exact .inr (.inl ⟨ds, .inl rfl, hs.1, hs.2, rfl⟩)
    · cases h
  | gt ds =>
    simp only [inD] at h
    split at h
    · rename_i hs
      cases h
      exact .inr (.inl ⟨ds, .inr rfl, hs.1, hs.2, rfl⟩)
    · cases h
  | dK kvs =>
    simp only [inD, Option.map_eq_some_iff] at h
    obtain ⟨k, h1, rfl⟩ := h
    exact .inr (.inr (.inl ⟨kvs, k, rfl, h1, rfl⟩))
  | dT kvs =>
    cases d <;> simp only [inD, reduceCtorEq, Option.map_eq_some_iff] at h
    obtain ⟨k, h1, rfl⟩ := h
    exact .inr (.inr (.inr (.inl ⟨kvs, _, k, rfl, rfl, h1, rfl⟩)))
  | str y =>
    cases d <;> simp only [inD, reduceCtorEq, Option.some.injEq] at h
    exact .inr (.inr (.inr (.inr ⟨y, _, rfl, rfl, h.symm⟩)))
  | _ => simp [inD] at h
theorem s_in (hu : X.A.units + 65 < cLine) : OpR X (compareOp .In) (S2 X.K X.mg .in_) := by
  refine opI (OpR.or (op_inD hu) (OpR.or op_in_seq (OpR.or (op_dIn (by omega)) op_in_str))) ?_
  rintro x y H Q ⟨Z, σ, ρ, Hs, d, e, z, S, r, q, h, b⟩
  have h' : (inD d e).map D.bl = some z := by cases d <;> cases e <;> exact h
  obtain ⟨k, h1, rfl⟩ := Option.map_eq_some_iff.mp h'
  rcases inD_some h1 with ⟨p, ds, ps, rfl, e1, e2, e3, e4, rfl⟩ | ⟨ds, he, e1, e2, rfl⟩ | ⟨kvs, kk, rfl, e1, rfl⟩ | ⟨kvs, es, kk, rfl, rfl, e1, rfl⟩ | ⟨a, c, rfl, rfl, rfl⟩
  · exact .inl ⟨p, ps, r.dp S.sub e1, q.dp S.sub (by simp [toP, e2]), e3, e4, b.bl S⟩
  · have hseq : ∃ a vs, y = .ref a ∧ (SqL X.K H a vs ∨ SqT X.K H a vs) ∧ Reps X.K X.mg Hs vs ds := by
      rcases he with rfl | rfl
      · obtain ⟨a, vs, h1, h2, h3⟩ := q.tup S.sub
        exact ⟨a, vs, h1, .inr (SqT.of h2), h3⟩
      · obtain ⟨a, vs, h1, h2, h3⟩ := q.gt
        exact ⟨a, vs, h1, .inr h2, h3⟩
    obtain ⟨a, vs, rfl, h2, h3⟩ := hseq
    refine .inr (.inl ⟨a, vs, rfl, h2, flatV_of r e1, flats_of h3 e2, ?_⟩)
    rw [if_neg (by simp), inV_of r e1 h3 e2]
    exact b.bl S
  · obtain ⟨a, o, rfl, g, ho⟩ := dget_K S.sub r q e1
    rw [same_some ho] at b
    exact .inr (.inr (.inl ⟨a, o, rfl, g, b.bl S⟩))
  · obtain ⟨a, o, rfl, g, ho⟩ := dget_T S.sub r q e1
    rw [same_some ho] at b
    exact .inr (.inr (.inl ⟨a, o, rfl, g, b.bl S⟩))
  · rw [r.str, q.str]
    exact .inr (.inr (.inr ⟨_, _, rfl, rfl, b.bl S⟩))
theorem s_nin (hu : X.A.units + 65 < cLine) : OpR X (compareOp .NotIn) (S2 X.K X.mg .nin) := by
  refine opI (OpR.or (op_notInD hu) (OpR.or op_notIn_seq (OpR.or (op_dNotIn (by omega)) op_notin_str))) ?_
  rintro x y H Q ⟨Z, σ, ρ, Hs, d, e, z, S, r, q, h, b⟩
  have h' : ((inD d e).map fun b => D.bl (!b)) = some z := by cases d <;> cases e <;> exact h
  obtain ⟨k, h1, rfl⟩ := Option.map_eq_some_iff.mp h'
  rcases inD_some h1 with ⟨p, ds, ps, rfl, e1, e2, e3, e4, rfl⟩ | ⟨ds, he, e1, e2, rfl⟩ | ⟨kvs, kk, rfl, e1, rfl⟩ | ⟨kvs, es, kk, rfl, rfl, e1, rfl⟩ | ⟨a, c, rfl, rfl, rfl⟩
  · exact .inl ⟨p, ps, r.dp S.sub e1, q.dp S.sub (by simp [toP, e2]), e3, e4, b.bl S⟩
  · have hseq : ∃ a vs, y = .ref a ∧ (SqL X.K H a vs ∨ SqT X.K H a vs) ∧ Reps X.K X.mg Hs vs ds := by
      rcases he with rfl | rfl
      · obtain ⟨a, vs, h1, h2, h3⟩ := q.tup S.sub
        exact ⟨a, vs, h1, .inr (SqT.of h2), h3⟩
      · obtain ⟨a, vs, h1, h2, h3⟩ := q.gt
        exact ⟨a, vs, h1, .inr h2, h3⟩
    obtain ⟨a, vs, rfl, h2, h3⟩ := hseq
    refine .inr (.inl ⟨a, vs, rfl, h2, flatV_of r e1, flats_of h3 e2, ?_⟩)
    rw [if_pos rfl, inV_of r e1 h3 e2]
    exact b.bl S
  · obtain ⟨a, o, rfl, g, ho⟩ := dget_K S.sub r q e1
    rw [same_some ho] at b
    exact .inr (.inr (.inl ⟨a, o, rfl, g, b.bl S⟩))
  · obtain ⟨a, o, rfl, g, ho⟩ := dget_T S.sub r q e1
    rw [same_some ho] at b
    exact .inr (.inr (.inl ⟨a, o, rfl, g, b.bl S⟩))
  · rw [r.str, q.str]
    exact .inr (.inr (.inr ⟨_, _, rfl, rfl, b.bl S⟩))
theorem s_max2 (hc : X.calm = true) : CallR X (.builtin "max") (fun xs H Q => ∃ x y, xs = [x, y] ∧ S2 X.K X.mg .max2 x y H Q) := by
  refine callI (call_max2 hc) ?_
  rintro xs H Q ⟨x, y, rfl, Z, σ, ρ, Hs, d, e, z, S, r, q, h, b⟩
  cases d <;> cases e <;> simp only [o2, reduceCtorEq, Option.some.injEq] at h
  subst h
  rw [r.int, q.int]
  exact ⟨_, _, rfl, b.int S⟩
theorem s_min2 (hc : X.calm = true) : CallR X (.builtin "min") (fun xs H Q => ∃ x y, xs = [x, y] ∧ S2 X.K X.mg .min2 x y H Q) := by
  refine callI (call_min2 hc) ?_
  rintro xs H Q ⟨x, y, rfl, Z, σ, ρ, Hs, d, e, z, S, r, q, h, b⟩
  cases d <;> cases e <;> simp only [o2, reduceCtorEq, Option.some.injEq] at h
  subst h
  rw [r.int, q.int]
  exact ⟨_, _, rfl, b.int S⟩
/-- an item of a dict -/
theorem ix_dict (hu : X.A.units + 1 < cLine) : IxR X (fun x y H Q => ∃ a v, x = .ref a ∧ DGet H a y (some v) ∧ Q v H) := by
  rintro value slice pins s σ H x y v u Q I rx ry ⟨a, w, rfl, g, hq⟩ hs
  cases rx
  have ty := dict_typeIs I g
  refine tail_any ty PySem.F.slot_dict_getitem.lookup ?_ hs
  exact d_getItem hu I g ry fun w' s' I' rw' => ⟨w, H, I', rw', hq⟩
theorem ixI {r r' : R2} (c : IxR X r') (h : ∀ x y H Q, r x y H Q → r' x y H Q) : IxR X r :=
  fun value slice pins s σ H x y v u Q I rx ry q hs => c value slice pins s σ H x y v u Q I rx ry (h _ _ _ _ q) hs
theorem s_item (hu : X.A.units + 1 < cLine) : IxR X (S2 X.K X.mg .item) := by
  refine ixI (IxR.or ix_seq (ix_dict hu)) ?_
  rintro x y H Q ⟨Z, σ, ρ, Hs, d, e, z, S, r, q, h, b⟩
  cases d with
  | lst ds =>
    cases e <;> simp only [o2, reduceCtorEq] at h
    obtain ⟨a, vs, rfl, h1, r1⟩ := r.lst S.sub
    obtain ⟨v, h2, h3⟩ := b.item S r1 h
    rw [q.int]
    exact .inl (.inl ⟨a, vs, _, v, rfl, rfl, SqL.of h1, h2, h3⟩)
  | tup ds =>
    cases e <;> simp only [o2, reduceCtorEq] at h
    obtain ⟨a, vs, rfl, h1, r1⟩ := r.tup S.sub
    obtain ⟨v, h2, h3⟩ := b.item S r1 h
    rw [q.int]
    exact .inl (.inr (.inl ⟨a, vs, _, v, rfl, rfl, SqT.of h1, h2, h3⟩))
  | gt ds =>
    cases e <;> simp only [o2, reduceCtorEq] at h
    obtain ⟨a, vs, rfl, h1, r1⟩ := r.gt
    obtain ⟨v, h2, h3⟩ := b.item S r1 h
    rw [q.int]
    exact .inl (.inr (.inl ⟨a, vs, _, v, rfl, rfl, h1, h2, h3⟩))
  | str y =>
    cases e <;> simp only [o2, reduceCtorEq, Option.ite_none_right_eq_some, Option.map_eq_some_iff] at h
    obtain ⟨hz, c, h1, rfl⟩ := h
    rw [r.str, q.int]
    exact .inl (.inr (.inr ⟨_, _, c, rfl, rfl, hz, h1, b.str S⟩))
  | dK kvs =>
    have h' : ((keyOf e).bind fun k => valD kvs k) = some z := by cases e <;> exact h
    obtain ⟨k, e1, e2⟩ := Option.bind_eq_some_iff.mp h'
    obtain ⟨a, o, rfl, g, ho⟩ := dget_K S.sub q r e1
    rcases ho with ⟨n, _⟩ | ⟨v, z', e3, rfl, e4⟩
    · rw [n] at e2; cases e2
    · rw [e3] at e2; cases e2
      exact .inr ⟨a, v, rfl, g, b.same S e4 (.inl rfl)⟩
  | dT kvs =>
    cases e <;> simp only [o2, reduceCtorEq] at h
    obtain ⟨k, e1, e2⟩ := Option.bind_eq_some_iff.mp h
    obtain ⟨a, o, rfl, g, ho⟩ := dget_T S.sub q r e1
    rcases ho with ⟨n, _⟩ | ⟨v, z', e3, rfl, e4⟩
    · rw [n] at e2; cases e2
    · rw [e3] at e2; cases e2
      exact .inr ⟨a, v, rfl, g, b.same S e4 (.inl rfl)⟩
  | _ => cases e <;> simp [o2] at h

/-! ### slices -/
def cutD (ds : List D) (lo hi : Option Int) : List D := (ds.drop (HT.sIx ds.length 0 lo)).take (HT.sIx ds.length ds.length hi - HT.sIx ds.length 0 lo)
def o3 (d : D) (lo hi : Option Int) : Option D := match d with
  | .lst ds => some (.lst (cutD ds lo hi))
  | .tup ds => some (.tup (cutD ds lo hi))
  | .str z => if z.length ≤ sizeLine then some (.str (cutS z lo hi)) else none
  | _ => none
def S3 (K : PySem.W.Frag) (mg : Mg) (x : V) (lo hi : Option Int) (H : Hp) (Q : VK) : Prop :=
  ∃ (Z : Zn) (σ : L2.St) (ρ : En) (Hs : Hp) (d z : D), SR K mg Z Hs H σ ρ ∧ RepO K mg Hs H x d ∧ o3 d lo hi = some z ∧ Bk false K mg Z Hs σ ρ z Q
theorem cut_whole {α : Type} (ds : List α) (lo hi : Option Int) (h : HT.sIx ds.length 0 lo = 0 ∧ HT.sIx ds.length ds.length hi = ds.length) :
    (ds.drop (HT.sIx ds.length 0 lo)).take (HT.sIx ds.length ds.length hi - HT.sIx ds.length 0 lo) = ds := by
  rw [h.1, h.2]; simp
theorem slI {r r' : V → Option Int → Option Int → Hp → VK → Prop} (c : SlR X r') (h : ∀ x lo hi H Q, r x lo hi H Q → r' x lo hi H Q) : SlR X r :=
  fun pins s σ H x v vl vu lo hi sl Q I rx hs p1 p2 q => c pins s σ H x v vl vu lo hi sl Q I rx hs p1 p2 (h _ _ _ _ _ q)
theorem s_slice : SlR X (S3 X.K X.mg) := by
  refine slI (SlR.or sl_list (SlR.or sl_tupA sl_str)) ?_
  rintro x lo hi H Q ⟨Z, σ, ρ, Hs, d, z, S, r, h, b⟩
  cases d <;> simp only [o3, reduceCtorEq, Option.some.injEq, Option.ite_none_right_eq_some] at h
  · obtain ⟨hz, rfl⟩ := h
    rw [r.str]
    exact .inr (.inr ⟨_, rfl, hz, b.str S⟩)
  · subst h
    obtain ⟨a, vs, rfl, h1, r1⟩ := r.tup S.sub
    refine .inr (.inl ⟨a, vs, rfl, SqT.of h1, fun w => ?_, fun w p hp => ?_⟩)
    · rw [r1.length] at w
      unfold cutD at b
      rw [cut_whole _ _ _ w] at b
      exact b.ofO S r
    · refine b.newT S ?_ hp
      unfold cutV cutD
      rw [r1.length]
      exact (r1.drop _).take _
  · subst h
    obtain ⟨a, vs, rfl, h1, r1⟩ := r.lst S.sub
    refine .inl ⟨a, vs, rfl, SqL.of h1, fun p hp => b.newL S ?_ hp⟩
    unfold cutV cutD
    rw [r1.length]
    exact (r1.drop _).take _
end
end EV
set_option Elab.async false
set_option linter.all false
set_option maxRecDepth 100000
set_option maxHeartbeats 4000000
/-! EV4b: repr and sorted. -/
namespace EV
open PySem PySem.Spec PyProof.Rows L2
section
variable {X : Cx}
theorem s_repr (hg : X.A.guards = some []) (hu : X.A.units + 200 < cLine) : CallR X (.builtin "repr") (S1c X.K X.mg .repr) := by
  rintro pins s σ H xs us Q I rv ⟨x, rfl, Z, σ', ρ, Hs, d, z, S, r, e, b⟩
  obtain ⟨u, rfl, ru⟩ := rv.one
  have e : (reprD d).map D.str = some z := by cases d <;> exact e
  obtain ⟨t, e1, rfl⟩ := Option.map_eq_some_iff.mp e
  unfold reprD at e1
  obtain ⟨p, e2, e3⟩ := Option.bind_eq_some_iff.mp e1
  obtain ⟨as, rd⟩ := Dp.reads I p x u (r.dp S.sub e2) ru
  have key : (p.showable = true ∧ p.hasDict = false ∧ p.depth ≤ 64 ∧ p.shown.length ≤ sizeLine) → t = p.shown → (∃ a, u = Value.ref a) → wpAny (model X.prog X.w) X.A (call (.builtin "repr") [u]) (EP X pins σ Q) X.xe s := by
    rintro ⟨c1, c2, c3, c4⟩ rfl ⟨a, rfl⟩
    refine repr_of_reads' rd c1 (fun h => by rw [c2] at h; cases h) hg (by omega) (fun _ _ h => h) (fun h' u tk hk => ?_) c4
    exact ⟨.str p.shown, H, I.kept (t' := tk) hk, ⟨_, rfl⟩, b.str S⟩
  cases p with
  | list ps =>
    simp only at e3
    split at e3
    · rename_i c
      cases e3
      refine key c rfl ?_
      cases rd
      exact ⟨_, rfl⟩
    · cases e3
  | tuple ps =>
    simp only at e3
    split at e3
    · rename_i c
      cases e3
      refine key c rfl ?_
      cases rd
      exact ⟨_, rfl⟩
    · cases e3
  | _ => cases e3
theorem each_of {K : PySem.W.Frag} {mg : Mg} {Hs : Hp} : ∀ {vs : List V} {us : List Value} {ds : List D}, Vals vs us → Reps K mg Hs vs ds → PySem.W.EachIs (fun u d => ∃ v, RelV v u ∧ Rep K mg Hs v d) us ds
  | _, _, _, .nil, .nil => .nil
  | _, _, _, .cons a b, .cons c d => .cons ⟨_, a, c⟩ (each_of b d)
theorem of_each {K : PySem.W.Frag} {mg : Mg} {Hs : Hp} : ∀ {us : List Value} {ds : List D}, PySem.W.EachIs (fun u d => ∃ v, RelV v u ∧ Rep K mg Hs v d) us ds → ∃ vs, Vals vs us ∧ Reps K mg Hs vs ds
  | _, _, .nil => ⟨[], .nil, .nil⟩
  | _, _, .cons ⟨v, a, c⟩ h => by
    obtain ⟨vs, h1, h2⟩ := of_each h
    exact ⟨v :: vs, .cons a h1, .cons c h2⟩
theorem toPs_map : ∀ {ds : List D} {ps : List PyData}, toPs ds = some ps → ds.map pOf = ps ∧ ∀ d ∈ ds, toP d = some (pOf d)
  | [], ps, h => by
    simp only [toPs, Option.some.injEq] at h
    subst h
    exact ⟨rfl, fun d h => nomatch h⟩
  | d :: ds, ps, h => by
    obtain ⟨p, qs, rfl, h1, h2⟩ := toPs_cons h
    obtain ⟨e1, e2⟩ := toPs_map h2
    have ep : pOf d = p := by unfold pOf; rw [h1]; rfl
    refine ⟨by rw [List.map_cons, ep, e1], fun d' hd => ?_⟩
    rcases List.mem_cons.mp hd with rfl | hd
    · rw [ep]; exact h1
    · exact e2 d' hd
theorem s_sorted (hu : X.A.units + 200 < cLine) : CallR X (.builtin "sorted") (S1c X.K X.mg .sorted) := by
  rintro pins s σ H xs us Q I rv ⟨x, rfl, Z, σ', ρ, Hs, d, z, S, r, e, b⟩
  obtain ⟨u, rfl, ru⟩ := rv.one
  cases d <;> simp only [o1, reduceCtorEq] at e
  rename_i ds
  obtain ⟨ds', e1, rfl⟩ := Option.map_eq_some_iff.mp e
  unfold sortD at e1
  obtain ⟨ps, e2, e3⟩ := Option.bind_eq_some_iff.mp e1
  split at e3
  · rename_i c
    cases e3
    obtain ⟨c1, c2, c3, c4⟩ := c
    obtain ⟨m1, m2⟩ := toPs_map e2
    obtain ⟨a, vs, rfl, h1, h2⟩ := r.lst S.sub
    cases ru
    obtain ⟨hz, its, n, rv, hl, e0⟩ := I.lstM h1
    have er := each_of rv h2
    refine PySem.W.sorted_data (vs := its) (bs := ds) (enc := pOf) (R := fun u d => ∃ v, RelV v u ∧ Rep X.K X.mg Hs v d) ⟨_, e0, rfl, n, rfl⟩ er ?_ (by rw [m1]; exact c1) (by rw [m1]; exact c2) c4 (fun d hd => ?_) fun out ho eo => ?_
    · -- each reads as its data
      have q : ∀ {vs : List V} {us : List Value} {es : List D}, Vals vs us → Reps X.K X.mg Hs vs es → (∀ d ∈ es, toP d = some (pOf d)) → PySem.W.EachIs (fun v b => ∃ as, Reads s.heap v (pOf b) as) us es := by
        intro vs us es hv hr
        induction hv generalizing es with
        | nil => cases hr; exact fun _ => .nil
        | cons p q ih =>
          cases hr with
          | cons r t => exact fun hm => .cons (Dp.reads I _ _ _ (Rep.dp (r.mono S.sub) (hm _ List.mem_cons_self)) p) (ih t fun d hd => hm d (List.mem_cons_of_mem _ hd))
      exact q rv h2 m2
    · have hd2 : pOf d ∈ ps := by rw [← m1]; exact List.mem_map.mpr ⟨d, hd, rfl⟩
      have := c3 _ hd2
      omega
    · obtain ⟨ws, g1, g2⟩ := of_each eo
      obtain ⟨ep, he'⟩ := PyProof.Rows.sortedAll_at s.heap its (List.toArray out)
      have hlen : ws.length ≤ sizeLine := by rw [g2.length, List.length_mergeSort]; exact c4
      exact ⟨.ref _, upd H (s.heap.objs.size + 1) (.lst ws), I.laid (t' := s.toks) (fun _ _ => PyProof.Rows.sortedAll_old) (Nat.le_succ _) ⟨hlen, out, ep, g1, he'⟩, rfl, b.newL S g2 (I.hok.fresh (Nat.le_succ _))⟩
  · cases e3
end
end EV
set_option Elab.async false
set_option linter.all false
set_option maxRecDepth 100000
set_option maxHeartbeats 4000000
/-! EV5: the small language, what it means on data, when it is a program's syntax. -/
namespace EV
open PySem PySem.Spec PyProof.Rows L2

/-- an own exception: its class, its fields -/
structure Exc where
  C : Str
  fs : List (Str × D)
/-- what a callable does: its arguments as slots; behind it the value, and what became of the slots -/
abbrev FS := List Slot → (D → List Slot → Prop) → (Exc → List Slot → Prop) → Prop
inductive Lit where
  | non | bl (b : Bool) | int (i : Int) | str (x : Str)
def Lit.d : Lit → D
  | .non => .non
  | .bl b => .bl b
  | .int i => .int i
  | .str x => .str x
/-- where an instance check asks -/
inductive Ty where
  | b (n : String) | c (C : Str)
mutual
inductive Tg where
  | n (i : Nat) | t (ts : Tgs)
inductive Tgs where
  | nil | cons (t : Tg) (ts : Tgs)
end
def Tgs.len : Tgs → Nat
  | .nil => 0
  | .cons _ ts => ts.len + 1
mutual
inductive E where
  | lit (l : Lit) | v (i : Nat) | g (x : Str)
  | op1 (k : O1) (a : A) | op2 (k : O2) (a b : A) | ch (k j : O2) (a b c : A)
  | slc (a : A) (lo hi : OE)
  | and (es : Es) | or (es : Es) | not (e : E) | ite (t a b : E)
  | tup (es : Es) | fz (f : F) | att (a : A) (x : Str) | call (f : Str) (bs : Bs) | isi (a : A) (ts : List Ty)
  | app (i : Nat) (e : E) | popL (i : Nat) | popAt (i : Nat) (e : E) | rem (i : Nat) (e : E)
  /-- lambda: e, the n-th of its def; f(a), f a def that calls a and tells its exception -/
  | lam (n : Nat) (e : E) | err (f : Str) (a : A)
inductive OE where
  | no | so (e : E)
inductive A where
  | e (e : E) | pk (i : Nat)
inductive Es where
  | nil | cons (e : E) (es : Es)
inductive Bs where
  | nil | cons (b : A) (bs : Bs)
inductive F where
  | lst (es : Es) | op1 (k : O1) (a : A) | op2 (k : O2) (a b : A) | slc (a : A) (lo hi : OE) | dK | dT
  | comp (vs : List Nat) (t : Tg) (it : IT) (c : OE) (e : E) | rng (e : E) | disp (ks : List Str) (es : Es)
  /-- [repr(f(u)) == repr(v) for u, v in the list at slot i] -/
  | tries (f : Str) (i u v : Nat)
  /-- a call of a def that gives a new list or dict -/
  | callF (f : Str) (bs : Bs)
inductive IT where
  | seq (a : A) | r1 (e : E) | r2 (a b : E) | zip (a b : A)
end

def Es.len : Es → Nat
  | .nil => 0
  | .cons _ es => es.len + 1
/-! ### what it means -/
abbrev LD := Sum D Nat
def LD.peek (ρ : En) : LD → Option D
  | .inl d => some d
  | .inr i => (ρ.at i).peek
def LD.slot (ρ : En) : LD → Slot
  | .inl d => .fz d
  | .inr i => (ρ.at i).lend
def lentIx : List LD → List Nat
  | [] => []
  | .inl _ :: r => lentIx r
  | .inr i :: r => i :: lentIx r
/-- the slots that were lent, behind a call -/
def backs : List LD → List Slot → En → En
  | .inr i :: r, s :: ss, ρ => backs r ss (ρ.set i ((ρ.at i).back s))
  | .inl _ :: r, _ :: ss, ρ => backs r ss ρ
  | _, _, ρ => ρ
abbrev WE := (D → En → Prop) → (Exc → En → Prop) → En → Prop
abbrev WA := (LD → En → Prop) → (Exc → En → Prop) → En → Prop
abbrev WB := (List LD → En → Prop) → (Exc → En → Prop) → En → Prop
abbrev WL := (List D → En → Prop) → (Exc → En → Prop) → En → Prop
abbrev WO := (Option Int → En → Prop) → (Exc → En → Prop) → En → Prop
/-- items, and what must hold of the slots while they are walked -/
abbrev WI := (List D → (En → Prop) → En → Prop) → (Exc → En → Prop) → En → Prop
/-- what a handler's tuple is made of: a text, a field of the exception -/
inductive HF where
  | txt (x : Str) | fld (f : Str)
structure Tb where
  Γ : Str → Option FS
  G : Str → Option D
  /-- attributes of classes -/
  ats : List (Str × Str)
  /-- classes -/
  cls : List Str
  /-- exceptions that a def makes: their fields -/
  exc : Str → Option (List Str) := fun _ => none
  /-- defs that give a new list or dict -/
  Γf : Str → Option FS := fun _ => none
  /-- the def may make and run lambdas -/
  lmk : Bool := false
  tbl : Addr → Str → Prop := fun _ _ => False
  lam : LamD → Prop := fun _ => False
  body : Nat → E := fun _ => .lit .non
  run : Nat → WE := fun _ _ _ _ => False
  /-- defs that call their argument and tell its exception: their handlers -/
  hand : Str → Option (List (Str × List HF)) := fun _ => none
/-- within a comprehension, a lambda -/
def Tb.off (T : Tb) : Tb := { T with lmk := false }
/-- within a lambda -/
def Tb.bare (T : Tb) : Tb := { Γ := T.Γ, G := T.G, ats := T.ats, cls := T.cls, exc := T.exc, Γf := T.Γf }
def fieldsD (fs : List (Str × D)) : List HF → Option (List D)
  | [] => some []
  | .txt x :: r => (fieldsD fs r).map (.str x :: ·)
  | .fld f :: r => match fs.lookup f, fieldsD fs r with
    | some d, some ds => some (d :: ds)
    | _, _ => none
/-- what the handlers tell of an exception -/
def catchD (c : Exc) : List (Str × List HF) → Option D
  | [] => none
  | (C, hs) :: r => if c.C = C then (fieldsD c.fs hs).map .tup else catchD c r
def wRun (T : Tb) (hs : List (Str × List HF)) (n : Nat) (K : D → En → Prop) : En → Prop := fun ρ => T.run n (fun _ ρ1 => K .non ρ1) (fun c ρ1 => ∃ d, catchD c hs = some d ∧ K d ρ1) ρ
/-- the tables at P that the slots tell are named q -/
def tbOnly (P : Addr) (q : Str) : En → Prop
  | [] => True
  | s :: r => (match s with | .tb P' q' => P' = P → q' = q | _ => True) ∧ tbOnly P q r
def wLam (T : Tb) (n : Nat) (e : E) : WE := fun Q _ ρ => T.lmk = true ∧ T.body n = e ∧ (∃ j P q, ρ.at j = .tb P q ∧ T.tbl P q ∧ tbOnly P q ρ) ∧ ∀ l, T.lam l → l.n = n → Q (.fn l) ρ
def wErr (T : Tb) (f : Str) (wa : WA) : WE := fun Q R ρ => T.lmk = true ∧ ∃ hs, T.hand f = some hs ∧ wa (fun v ρ1 => ∃ l, v.peek ρ1 = some (.fn l) ∧ T.lam l ∧ wRun T hs l.n Q ρ1) R ρ
def items : D → Option (List D)
  | .lst ds | .tup ds | .gt ds | .gl ds => some ds
  | _ => none
def wOp1 (k : O1) (wa : WA) : WE := fun Q R ρ => wa (fun l ρ1 => ∃ d z, l.peek ρ1 = some d ∧ o1 k d = some z ∧ Q z ρ1) R ρ
def wOp2 (k : O2) (wa wb : WA) : WE := fun Q R ρ => wa (fun l ρ1 => wb (fun m ρ2 => ∃ d e z, l.peek ρ2 = some d ∧ m.peek ρ2 = some e ∧ o2 k d e = some z ∧ Q z ρ2) R ρ1) R ρ
def wCh (k j : O2) (wa wb wc : WA) : WE := fun Q R ρ => wa (fun l ρ1 => wb (fun m ρ2 => ∃ d e b, l.peek ρ2 = some d ∧ m.peek ρ2 = some e ∧ o2 k d e = some (.bl b) ∧
  if b = true then wc (fun n ρ3 => ∃ e' c z, m.peek ρ3 = some e' ∧ n.peek ρ3 = some c ∧ o2 j e' c = some z ∧ Q z ρ3) R ρ2 else Q (.bl false) ρ2) R ρ1) R ρ
def wOne (w : WE) : WO := fun Q R ρ => w (fun d ρ1 => ∃ i, d = .int i ∧ Q (some i) ρ1) R ρ
def wNo : WO := fun Q _ ρ => Q none ρ
def wSlc (wa : WA) (wl wh : WO) : WE := fun Q R ρ => wa (fun l ρ1 => wl (fun lo ρ2 => wh (fun hi ρ3 => ∃ d z, l.peek ρ3 = some d ∧ o3 d lo hi = some z ∧ Q z ρ3) R ρ2) R ρ1) R ρ
def Slot.lst? : Slot → Option (List D)
  | .ol ds | .bl ds => some ds
  | _ => none
def Slot.putL (s : Slot) (es : List D) : Slot := match s with
  | .bl _ => .bl es
  | _ => .ol es
def wApp (i : Nat) (we : WE) : WE := fun Q R ρ => (∃ es, (ρ.at i).lst? = some es) ∧ we (fun d ρ1 => ∃ ds, (ρ1.at i).lst? = some ds ∧ ds.length < sizeLine ∧ Q .non (ρ1.set i ((ρ1.at i).putL (ds ++ [d])))) R ρ
def wPopL (i : Nat) : WE := fun Q _ ρ => ∃ ds d, (ρ.at i).lst? = some ds ∧ ds[ds.length - 1]? = some d ∧ Q d (ρ.set i ((ρ.at i).putL ds.dropLast))
def wPopAt (i : Nat) (we : WE) : WE := fun Q R ρ => (∃ es, (ρ.at i).lst? = some es) ∧ we (fun d ρ1 => ∃ ds, (ρ1.at i).lst? = some ds ∧ ∃ j k z, d = .int j ∧ -(2 ^ 63) ≤ j ∧ j < 2 ^ 63 ∧ seqIndex? j ds.length = some k ∧ ds[k]? = some z ∧
  Q z (ρ1.set i ((ρ1.at i).putL (ds.eraseIdx k)))) R ρ
def remD (ds : List D) (d : D) : Option Nat := match toP d, toPs ds with
  | some p, some ps => if PyData.plainAll ps = true ∧ p.plain = true ∧ SeqAt.shaped p = true then SeqAt.dataPlace ps p else none
  | _, _ => none
def wRem (i : Nat) (we : WE) : WE := fun Q R ρ => (∃ es, (ρ.at i).lst? = some es) ∧ we (fun d ρ1 => ∃ ds, (ρ1.at i).lst? = some ds ∧ ∃ j, remD ds d = some j ∧ Q .non (ρ1.set i ((ρ1.at i).putL (ds.eraseIdx j)))) R ρ
def wIte (wt wa wb : WE) : WE := fun Q R ρ => wt (fun d ρ1 => ∃ b, d = .bl b ∧ if b = true then wa Q R ρ1 else wb Q R ρ1) R ρ
def wNot (wa : WE) : WE := fun Q R ρ => wa (fun d ρ1 => ∃ b, d = .bl b ∧ Q (.bl (!b)) ρ1) R ρ
def wAnd (wa wb : WE) : WE := fun Q R ρ => wa (fun d ρ1 => ∃ b, d = .bl b ∧ if b = true then wb Q R ρ1 else Q (.bl false) ρ1) R ρ
def wOr (wa wb : WE) : WE := fun Q R ρ => wa (fun d ρ1 => ∃ b, d = .bl b ∧ if b = true then Q (.bl true) ρ1 else wb Q R ρ1) R ρ
def wV (i : Nat) : WE := fun Q _ ρ => match ρ.at i with
  | .fz d => Q d ρ
  | .ol ds => Q (.lst ds) (ρ.set i (.fz (.lst ds)))
  | .oK kvs => Q (.dK kvs) (ρ.set i (.fz (.dK kvs)))
  | .oT kvs => Q (.dT kvs) (ρ.set i (.fz (.dT kvs)))
  | _ => False
def wAtt (T : Tb) (wa : WA) (x : Str) : WE := fun Q R ρ => wa (fun l ρ1 => ∃ C fs d, l.peek ρ1 = some (.obj C fs) ∧ (C, x) ∈ T.ats ∧ fs.lookup x = some d ∧ Q d ρ1) R ρ
def wCall (T : Tb) (f : Str) (wb : WB) : WE := fun Q R ρ => ∃ F, T.Γ f = some F ∧ wb (fun ls ρ1 => (lentIx ls).Nodup ∧
  F (ls.map (LD.slot ρ1)) (fun d ss => Q d (backs ls ss ρ1)) (fun c ss => R c (backs ls ss ρ1))) R ρ
def wCallF (T : Tb) (f : Str) (wb : WB) : WE := fun Q R ρ => ∃ F, T.Γf f = some F ∧ wb (fun ls ρ1 => (lentIx ls).Nodup ∧
  F (ls.map (LD.slot ρ1)) (fun d ss => Q d (backs ls ss ρ1)) (fun c ss => R c (backs ls ss ρ1))) R ρ
def tyB : D → Option String
  | .non => some "NoneType"
  | .bl _ => some "bool"
  | .int _ => some "int"
  | .str _ => some "str"
  | .tup _ | .gt _ => some "tuple"
  | .lst _ => some "list"
  | .dK _ | .dT _ => some "dict"
  | _ => none
/-- whether d is of the type: a built-in one, a class of the text -/
def tyNames : List String := ["int", "bool", "str", "tuple", "list", "dict"]
def isTy (cls : List Str) (d : D) : Ty → Option Bool
  | .b n => match d with
    | .obj C _ => if C ∈ cls ∧ n ∈ tyNames then some false else none
    | _ => (tyB d).bind fun t => kitB t n
  | .c C => if C ∈ cls then (match d with
    | .obj C' _ => if C' ∈ cls then some (decide (C' = C)) else none
    | _ => (tyB d).map fun _ => false) else none
def isTys (cls : List Str) (d : D) : List Ty → Option Bool
  | [] => some false
  | t :: ts => match isTy cls d t with
    | some true => some true
    | some false => isTys cls d ts
    | none => none
def wIsi0 (T : Tb) (wa : WA) (ts : List Ty) : WE := fun Q R ρ => wa (fun l ρ1 => ∃ d b, l.peek ρ1 = some d ∧ isTys T.cls d ts = some b ∧ Q (.bl b) ρ1) R ρ
def isiOk (cls : List Str) (ts : List Ty) : Bool := ts.all (fun t => match t with | .c C => decide (C ∈ cls) | .b _ => true) && !ts.isEmpty && decide (ts.length ≤ 1000)
def wIsi (T : Tb) (wa : WA) (ts : List Ty) : WE := fun Q R ρ => isiOk T.cls ts = true ∧ wIsi0 T wa ts Q R ρ
/-- a target gets a value -/
def wipeE (ρ : En) : List Nat → En
  | [] => ρ
  | v :: vs => (wipeE ρ vs).set v .un
def lentFree (ρ : En) (vs : List Nat) : Prop := ∀ v ∈ vs, (ρ.at v).lent = false
/-- the slots of a block are what they were, if they were still -/
def unwipe (ρ0 ρ : En) : List Nat → En
  | [] => ρ
  | v :: vs => (unwipe ρ0 ρ vs).set v (match ρ0.at v with | .fz d => .fz d | _ => .un)
/-- a comprehension's turns: fd binds the item, c is the test, e the element -/
def wLoop (fd : D → (En → Prop) → En → Prop) (vs : List Nat) (lk : En → Prop) (c : (Bool → En → Prop) → (Exc → En → Prop) → En → Prop) (e : WE) (Q : List D → En → Prop) : List D → List D → En → Prop
  | [], acc, ρ => lk ρ ∧ Q acc ρ
  | x :: xs, acc, ρ => lk ρ ∧ fd x (fun ρ1 => c (fun b ρ2 => if b = true then e (fun y ρ3 => lentFree ρ3 vs ∧ wLoop fd vs lk c e Q xs (acc ++ [y]) (wipeE ρ3 vs)) (fun _ _ => False) ρ2 else lentFree ρ2 vs ∧ wLoop fd vs lk c e Q xs acc (wipeE ρ2 vs)) (fun _ _ => False) ρ1) ρ
def wComp (vs : List Nat) (fd : D → (En → Prop) → En → Prop) (wi : WI) (c : (Bool → En → Prop) → (Exc → En → Prop) → En → Prop) (e : WE) : WE := fun Q R ρ =>
  wi (fun ds lk ρ1 => lentFree ρ1 vs ∧ wLoop fd vs (fun ρ => lk (unwipe ρ1 ρ vs)) c e (fun acc ρ2 => Q (.lst acc) (unwipe ρ1 ρ2 vs)) ds [] (wipeE ρ1 vs)) R ρ
def lkOf (l : LD) (ρ1 ρ : En) : Prop := match l with
  | .inl _ => True
  | .inr i => (match ρ1.at i with
    | .fz _ => True
    | s => ρ.at i = s)
def wTryL (T : Tb) (hs : List (Str × List HF)) (u v : Nat) (lk : En → Prop) (Q : En → Prop) : List D → En → Prop
  | [], ρ => lk ρ ∧ Q ρ
  | x :: xs, ρ => lk ρ ∧ lentFree ρ [u, v] ∧ ∃ l due, x = .tup [.fn l, due] ∧ T.lam l ∧ wRun T hs l.n (fun d ρ1 => ∃ z, reprD d = some z ∧ reprD due = some z ∧ lentFree ρ1 [u, v] ∧ wTryL T hs u v lk Q xs (wipeE ρ1 [u, v])) ((ρ.set u (.fz (.fn l))).set v (.fz due))
def wTries (T : Tb) (f : Str) (i u v : Nat) : WE := fun Q _ ρ => T.lmk = true ∧ ∃ hs ds, T.hand f = some hs ∧ (ρ.at i).peek = some (.lst ds) ∧ lentFree ρ [u, v] ∧
  wTryL T hs u v (fun ρ1 => lkOf (.inr i) ρ (unwipe ρ ρ1 [u, v])) (fun ρ1 => Q (.lst (ds.map fun _ => .bl true)) (unwipe ρ ρ1 [u, v])) ds (wipeE ρ [u, v])
def wSeq (wa : WA) : WI := fun Q R ρ => wa (fun l ρ1 => ∃ d ds, l.peek ρ1 = some d ∧ items d = some ds ∧ Q ds (lkOf l ρ1) ρ1) R ρ
def upTo (n : Nat) (lo : Int) : List D := (List.range n).map fun (k : Nat) => .int (lo + (k : Int))
def wR1 (wa : WE) : WI := fun Q R ρ => wa (fun d ρ1 => ∃ j, d = .int j ∧ -(2 ^ 62) ≤ j ∧ j < 2 ^ 62 ∧ j.toNat ≤ sizeLine ∧ Q (upTo j.toNat 0) (fun _ => True) ρ1) R ρ
def wR2 (wa wb : WE) : WI := fun Q R ρ => wa (fun d ρ1 => wb (fun e ρ2 => ∃ i j, d = .int i ∧ e = .int j ∧ (-(2 ^ 62) ≤ i ∧ i < 2 ^ 62 ∧ -(2 ^ 62) ≤ j ∧ j < 2 ^ 62) ∧ (j - i).toNat ≤ sizeLine ∧ Q (upTo (j - i).toNat i) (fun _ => True) ρ2) R ρ1) R ρ
def wRng (we : WE) : WE := fun Q R ρ => we (fun d ρ1 => ∃ j, d = .int j ∧ -(2 ^ 62) ≤ j ∧ j < 2 ^ 62 ∧ j.toNat ≤ 2 ^ 24 ∧ Q (.lst (upTo j.toNat 0)) ρ1) R ρ
def tups (xs ys : List D) : List D := (xs.zip ys).map fun p => .tup [p.1, p.2]
def wZip (wa wb : WA) : WI := fun Q R ρ => wa (fun l ρ1 => wb (fun m ρ2 => ∃ d e, l.peek ρ2 = some d ∧ m.peek ρ2 = some e ∧
  ∃ xs ys, ((d = .lst xs ∧ e = .lst ys) ∨ (d = .tup xs ∧ e = .tup ys) ∨ (d = .tup xs ∧ e = .lst ys)) ∧ (tups xs ys).length ≤ sizeLine ∧ Q (tups xs ys) (fun ρ => lkOf l ρ2 ρ ∧ lkOf m ρ2 ρ) ρ2) R ρ1) R ρ
mutual
def wTG : Tg → D → (En → Prop) → En → Prop
  | .n i, d, Q, ρ => (ρ.at i).lent = false ∧ Q (ρ.set i (.fz d))
  | .t ts, d, Q, ρ => ∃ ds, (d = .tup ds ∨ d = .gt ds) ∧ ds.length = ts.len ∧ wTGs ts ds Q ρ
def wTGs : Tgs → List D → (En → Prop) → En → Prop
  | .nil, ds, Q, ρ => ds = [] ∧ Q ρ
  | .cons t ts, ds, Q, ρ => ∃ x r, ds = x :: r ∧ wTG t x (wTGs ts r Q) ρ
end
mutual
def wE (T : Tb) : E → WE
  | .lam n e => wLam T n e
  | .err f a => wErr T f (wA T a)
  | .lit l => fun Q _ ρ => Q l.d ρ
  | .v i => wV i
  | .g x => fun Q _ ρ => ∃ d, T.G x = some d ∧ Q d ρ
  | .op1 k a => wOp1 k (wA T a)
  | .op2 k a b => wOp2 k (wA T a) (wA T b)
  | .ch k j a b c => wCh k j (wA T a) (wA T b) (wA T c)
  | .slc a lo hi => wSlc (wA T a) (wOE T lo) (wOE T hi)
  | .and es => wAnds T es
  | .or es => wOrs T es
  | .not e => wNot (wE T e)
  | .ite t a b => wIte (wE T t) (wE T a) (wE T b)
  | .tup es => fun Q R ρ => wEs T es (fun ds ρ1 => ds.length ≤ sizeLine ∧ Q (.tup ds) ρ1) R ρ
  | .fz f => wF T f
  | .att a x => wAtt T (wA T a) x
  | .call f bs => wCall T f (wBs T bs)
  | .isi a ts => wIsi T (wA T a) ts
  | .app i e => wApp i (wE T e)
  | .popL i => wPopL i
  | .popAt i e => wPopAt i (wE T e)
  | .rem i e => wRem i (wE T e)
def wOE (T : Tb) : OE → WO
  | .no => wNo
  | .so e => wOne (wE T e)
def wA (T : Tb) : A → WA
  | .e e => fun Q R ρ => wE T e (fun d ρ1 => Q (.inl d) ρ1) R ρ
  | .pk i => fun Q _ ρ => (ρ.at i).set = true ∧ Q (.inr i) ρ
def wEs (T : Tb) : Es → WL
  | .nil => fun Q _ ρ => Q [] ρ
  | .cons e es => fun Q R ρ => wE T e (fun d ρ1 => wEs T es (fun ds ρ2 => Q (d :: ds) ρ2) R ρ1) R ρ
def wAnds (T : Tb) : Es → WE
  | .nil => fun _ _ _ => False
  | .cons e .nil => wE T e
  | .cons e (.cons e' es) => wAnd (wE T e) (wAnds T (.cons e' es))
def wOrs (T : Tb) : Es → WE
  | .nil => fun _ _ _ => False
  | .cons e .nil => wE T e
  | .cons e (.cons e' es) => wOr (wE T e) (wOrs T (.cons e' es))
def wBs (T : Tb) : Bs → WB
  | .nil => fun Q _ ρ => Q [] ρ
  | .cons b bs => fun Q R ρ => wA T b (fun l ρ1 => wBs T bs (fun ls ρ2 => Q (l :: ls) ρ2) R ρ1) R ρ
def wF (T : Tb) : F → WE
  | .lst es => fun Q R ρ => wEs T es (fun ds ρ1 => ds.length ≤ sizeLine ∧ Q (.lst ds) ρ1) R ρ
  | .op1 k a => wOp1 k (wA T a)
  | .op2 k a b => wOp2 k (wA T a) (wA T b)
  | .slc a lo hi => wSlc (wA T a) (wOE T lo) (wOE T hi)
  | .dK => fun Q _ ρ => Q (.dK []) ρ
  | .dT => fun Q _ ρ => Q (.dT []) ρ
  | .comp vs t it c e => wComp vs (wTG t) (wIT T it) (wCond T.off c) (wE T.off e)
  | .tries f i u v => wTries T f i u v
  | .callF f bs => wCallF T f (wBs T bs)
  | .rng e => wRng (wE T e)
  | .disp ks es => fun Q R ρ => wEs T es (fun ds ρ1 => ks.length = ds.length ∧ ks.Nodup ∧ Q (.dK ((ks.map Sum.inr).zip ds)) ρ1) R ρ
def wCond (T : Tb) : OE → (Bool → En → Prop) → (Exc → En → Prop) → En → Prop
  | .no => fun Q _ ρ => Q true ρ
  | .so e => fun Q R ρ => wE T e (fun d ρ1 => ∃ b, d = .bl b ∧ Q b ρ1) R ρ
def wIT (T : Tb) : IT → WI
  | .seq a => wSeq (wA T a)
  | .r1 e => wR1 (wE T e)
  | .r2 a b => wR2 (wE T a) (wE T b)
  | .zip a b => wZip (wA T a) (wA T b)
end

/-! ### when it is the syntax -/
def vis (sc : Scope) (x : Str) : Bool := match sc.names.lookup x with
  | some .local | some .cell | some .free => true
  | _ => false
def loc (sc : Scope) (x : Str) : Bool := match sc.names.lookup x with
  | some .local => true
  | _ => false
def glb (sc : Scope) (x : Str) : Bool := match sc.names.lookup x with
  | some .globalImplicit => true
  | _ => false
def okName (N : List Str) (sc : Scope) (i : Nat) (e : Expr) : Bool := match e with
  | .Name x _ => decide (N[i]? = some x) && vis sc x && !(x == ("__debug__" : Str)) && !(x == ("__classdict__" : Str))
  | _ => false
def okLit (l : Lit) (e : Expr) : Bool := match l, e with
  | .non, .Constant .none _ _ => true
  | .bl b, .Constant (.bool c) _ _ => b == c
  | .int i, .Constant (.int j) _ _ => decide (i = j)
  | .str x, .Constant (.str y) _ _ => decide (x = y)
  | _, _ => false
def o1Name : O1 → Option Str
  | .len => some "len"
  | .tup => some "tuple"
  | .list => some "list"
  | .all => some "all"
  | .any => some "any"
  | .sum => some "sum"
  | .int => some "int"
  | .max => some "max"
  | .min => some "min"
  | .abs => some "abs"
  | .repr => some "repr"
  | .sorted => some "sorted"
  | .neg => none
def o2Bin : O2 → Option Operator
  | .add => some .Add
  | .sub => some .Sub
  | .mul => some .Mult
  | .fdiv => some .FloorDiv
  | .mod => some .Mod
  | .pow => some .Pow
  | _ => none
def o2Cmp : O2 → Option CmpOp
  | .eq => some .Eq
  | .ne => some .NotEq
  | .lt => some .Lt
  | .le => some .LtE
  | .gt => some .Gt
  | .ge => some .GtE
  | .in_ => some .In
  | .nin => some .NotIn
  | .is_ => some .Is
  | .isn => some .IsNot
  | _ => none
def noStar : Expr → Bool
  | .Starred .. => false
  | _ => true
/-- a type's name, as written -/
def okTy (sc : Scope) (t : Ty) (e : Expr) : Bool := match e with
  | .Name x _ => glb sc x && !(x == ("__debug__" : Str)) && (match t with
    | .b n => decide (n ∈ tyNames) && decide (x = Str.ofString n)
    | .c C => decide (x = C))
  | _ => false
def okTys (sc : Scope) : List Ty → List Expr → Bool
  | [], [] => true
  | .b n :: ts, e :: es => okTy sc (.b n) e && noStar e && okTys sc ts es
  | _, _ => false
def attOk : Expr → Bool
  | .Name .. | .Subscript .. | .Call _ (_ :: _) _ _ => true
  | _ => false
def iterOk : Expr → Bool
  | .Set .. => false
  | _ => true
def notSlice : Expr → Bool
  | .Slice .. => false
  | _ => true
def relSc (scope sc : Scope) : Scope := relS scope sc
def bnames : List String := ["len", "tuple", "list", "all", "any", "sum", "int", "max", "min", "abs", "range", "zip", "isinstance", "bool", "str", "dict", "repr", "sorted", "set", "reversed"]
mutual
/-- the target's slots are among vs; they are local in the scope, or cells that may be stored -/
def okTG (N : List Str) (sc : Scope) (fb : Str → Bool) (vs : List Nat) : Tg → Expr → Bool
  | .n i, x => (match x with
    | .Name y _ => decide (N[i]? = some y) && decide (i ∈ vs) && (match sc.names.lookup y with | some .local => true | some .cell => fb y | _ => false)
    | _ => false)
  | .t ts, x => (match x with
    | .Tuple xs _ _ => okTGs N sc fb vs ts xs
    | _ => false)
def okTGs (N : List Str) (sc : Scope) (fb : Str → Bool) (vs : List Nat) : Tgs → List Expr → Bool
  | .nil, xs => xs.isEmpty
  | .cons t ts, xs => (match xs with
    | x :: r => okTG N sc fb vs t x && noStar x && okTGs N sc fb vs ts r
    | [] => false)
end
def okO1 (sc : Scope) (k : O1) (fa : Expr → Bool) (x : Expr) : Bool := match x with
  | .Call (.Name g _) [y] [] _ => decide (o1Name k = some g) && glb sc g && fa y && noStar y
  | .UnaryOp .USub y _ => decide (k = .neg) && fa y
  | _ => false
def okO2 (sc : Scope) (k : O2) (fa fb : Expr → Bool) (x : Expr) : Bool := match x with
  | .BinOp y p z _ => decide (o2Bin k = some p) && fa y && fb z
  | .Compare y [p] [z] _ => decide (o2Cmp k = some p) && fa y && fb z && !behindInMarks p z
  | .Subscript y z _ => decide (k = .item) && fa y && fb z && notSlice z
  | .Call (.Name g _) [y, z] [] _ => ((decide (k = .max2) && decide (g = ("max" : Str))) || (decide (k = .min2) && decide (g = ("min" : Str)))) && glb sc g && fa y && fb z && noStar y && noStar z
  | _ => false
def okSl (fa : Expr → Bool) (fl fh : Option Expr → Bool) (x : Expr) : Bool := match x with
  | .Subscript y (.Slice l h none _) _ => fa y && fl l && fh h
  | _ => false
/-- a dict display's keys -/
def dispK : List Str → List (Option Expr) → Bool
  | [], [] => true
  | k :: ks, some (.Constant (.str x) _ _) :: r => decide (k = x) && dispK ks r
  | _, _ => false
/-- f(u) -/
def okCallN (N : List Str) (sc : Scope) (f : Str) (u : Nat) (x : Expr) : Bool := match x with
  | .Call (.Name g _) [y] [] _ => decide (f = g) && glb sc g && !(g == ("__debug__" : Str)) && okName N sc u y
  | _ => false
def okRepr (sc : Scope) (fa : Expr → Bool) (x : Expr) : Bool := match x with
  | .Call (.Name g _) [y] [] _ => decide (g = ("repr" : Str)) && glb sc g && fa y && noStar y
  | _ => false
/-- no lambda of the def catches it -/
def notCap (sc : Scope) (x : Str) : Bool := match sc.names.lookup x with
  | some .cell | some .free => false
  | _ => true
def noArgs (a : Arguments) : Bool := a.posonlyargs.isEmpty && a.args.isEmpty && a.vararg.isNone && a.kwonlyargs.isEmpty && a.kw_defaults.isEmpty && a.kwarg.isNone && a.defaults.isEmpty
mutual
def okE (N : List Str) (sc : Scope) : E → Expr → Bool
  | .lam n e, x => (match x with
    | .Lambda params body scope _ => noArgs params && LamX.lamSB sc scope && okE N scope e body
    | _ => false)
  | .err f a, x => (match x with
    | .Call (.Name g _) [y] [] _ => decide (f = g) && glb sc g && !(g == ("__debug__" : Str)) && okA N sc a y && noStar y
    | _ => false)
  | .lit l, e => okLit l e
  | .v i, e => okName N sc i e
  | .g x, e => (match e with
    | .Name y _ => decide (x = y) && glb sc x && !(x == ("__debug__" : Str))
    | _ => false)
  | .op1 k a, e => okO1 sc k (okA N sc a) e
  | .op2 k a b, e => okO2 sc k (okA N sc a) (okA N sc b) e
  | .ch k j a b c, e => (match e with
    | .Compare x [p, q] [y, z] _ => decide (o2Cmp k = some p) && decide (o2Cmp j = some q) && okA N sc a x && okA N sc b y && okA N sc c z && !lastMarks [p, q] [y, z]
    | _ => false)
  | .slc a lo hi, e => okSl (okA N sc a) (okOE N sc lo) (okOE N sc hi) e
  | .and es, e => (match e with
    | .BoolOp .And xs _ => okEs N sc es xs && decide (2 ≤ xs.length)
    | _ => false)
  | .or es, e => (match e with
    | .BoolOp .Or xs _ => okEs N sc es xs && decide (2 ≤ xs.length)
    | _ => false)
  | .not e, x => (match x with
    | .UnaryOp .Not y _ => okE N sc e y
    | _ => false)
  | .ite t a b, x => (match x with
    | .IfExp c y z _ => okE N sc t c && okE N sc a y && okE N sc b z
    | _ => false)
  | .tup es, x => (match x with
    | .Tuple xs _ _ => okEs N sc es xs
    | _ => false)
  | .fz f, x => okF N sc f x
  | .att a f, x => (match x with
    | .Attribute y g _ => decide (f = g) && okA N sc a y && attOk y
    | _ => false)
  | .call f bs, x => (match x with
    | .Call (.Name g _) xs [] _ => decide (f = g) && glb sc g && !(g == ("__debug__" : Str)) && okBs N sc bs xs
    | _ => false)
  | .isi a ts, x => (match x with
    | .Call (.Name g _) [y, c] [] _ => decide (g = ("isinstance" : Str)) && glb sc g && okA N sc a y && noStar y && noStar c && (match ts, c with
      | [t], .Name .. => okTy sc t c
      | _, .Tuple cs _ _ => okTys sc ts cs
      | _, _ => false)
    | _ => false)
  | .app i e, x => (match x with
    | .Call (.Attribute o m p) [y] [] q => decide (m = ("append" : Str)) && okName N sc i o && okE N sc e y && noStar y && (p.endLine == q.line)
    | _ => false)
  | .popL i, x => (match x with
    | .Call (.Attribute o m p) [] [] q => decide (m = ("pop" : Str)) && okName N sc i o && (p.endLine == q.line)
    | _ => false)
  | .popAt i e, x => (match x with
    | .Call (.Attribute o m p) [y] [] q => decide (m = ("pop" : Str)) && okName N sc i o && okE N sc e y && noStar y && (p.endLine == q.line)
    | _ => false)
  | .rem i e, x => (match x with
    | .Call (.Attribute o m p) [y] [] q => decide (m = ("remove" : Str)) && okName N sc i o && okE N sc e y && noStar y && (p.endLine == q.line)
    | _ => false)
def okOE (N : List Str) (sc : Scope) : OE → Option Expr → Bool
  | .no, x => x.isNone
  | .so e, x => (match x with
    | some y => okE N sc e y
    | none => false)
def okA (N : List Str) (sc : Scope) : A → Expr → Bool
  | .e e, x => okE N sc e x
  | .pk i, x => okName N sc i x
def okEs (N : List Str) (sc : Scope) : Es → List Expr → Bool
  | .nil, xs => xs.isEmpty
  | .cons e es, xs => (match xs with
    | x :: r => okE N sc e x && noStar x && okEs N sc es r
    | [] => false)
def okBs (N : List Str) (sc : Scope) : Bs → List Expr → Bool
  | .nil, xs => xs.isEmpty
  | .cons b bs, xs => (match xs with
    | x :: r => okA N sc b x && noStar x && okBs N sc bs r
    | [] => false)
def okF (N : List Str) (sc : Scope) : F → Expr → Bool
  | .lst es, x => (match x with
    | .List xs _ => okEs N sc es xs
    | _ => false)
  | .op1 k a, x => okO1 sc k (okA N sc a) x
  | .op2 k a b, x => okO2 sc k (okA N sc a) (okA N sc b) x
  | .slc a lo hi, x => okSl (okA N sc a) (okOE N sc lo) (okOE N sc hi) x
  | .dK, x => (match x with
    | .Dict [] [] _ => true
    | _ => false)
  | .dT, x => (match x with
    | .Dict [] [] _ => true
    | _ => false)
  | .comp vs t it c e, x => (match x with
    | .ListComp y [⟨tg, i, ifs, 0⟩] scope _ => blkC N sc scope ((vs.map fun v => (N.getD v Str.empty, v))) && okTG N (relS scope sc) (fun x => scope.names.lookup x == some .cell) vs t tg && okIT N sc it tg i && okCond N (relS scope sc) c ifs && okE N (relS scope sc) e y
    | _ => false)
  | .callF f bs, x => (match x with
    | .Call (.Name g _) (x :: xs) [] _ => decide (f = g) && glb sc g && !(g == ("__debug__" : Str)) && okBs N sc bs (x :: xs)
    | _ => false)
  | .tries f i u v, x => (match x with
    | .ListComp (.Compare y [.Eq] [z] _) [⟨tg, it, [], 0⟩] scope _ => blkC N sc scope [(N.getD u Str.empty, u), (N.getD v Str.empty, v)] && okTG N (relS scope sc) (fun x => scope.names.lookup x == some .cell) [u, v] (.t (.cons (.n u) (.cons (.n v) .nil))) tg && okName N sc i it &&
        okRepr (relS scope sc) (okCallN N (relS scope sc) f u) y && okRepr (relS scope sc) (okName N (relS scope sc) v) z && decide (u ≠ v) && !behindInMarks .Eq z && notCap sc (N.getD u Str.empty) && notCap sc (N.getD v Str.empty)
    | _ => false)
  | .rng e, x => (match x with
    | .Call (.Name g _) [.Call (.Name r _) [y] [] _] [] _ => decide (g = ("list" : Str)) && decide (r = ("range" : Str)) && glb sc g && glb sc r && okE N sc e y && noStar y
    | _ => false)
  | .disp ks es, x => (match x with
    | .Dict keys vals _ => dispK ks keys && okEs N sc es vals && decide (keys.length = vals.length) && !keys.isEmpty && decide (keys.length ≤ 15)
    | _ => false)
def okCond (N : List Str) (sc : Scope) : OE → List Expr → Bool
  | .no, xs => xs.isEmpty
  | .so e, xs => (match xs with
    | [x] => okE N sc e x
    | _ => false)
def okIT (N : List Str) (sc : Scope) : IT → Expr → Expr → Bool
  | .seq a, _, x => okA N sc a x && iterOk x
  | .r1 e, _, x => (match x with
    | .Call (.Name g _) [y] [] _ => decide (g = ("range" : Str)) && glb sc g && okE N sc e y && noStar y
    | _ => false)
  | .r2 a b, _, x => (match x with
    | .Call (.Name g _) [y, z] [] _ => decide (g = ("range" : Str)) && glb sc g && okE N sc a y && noStar y && okE N sc b z && noStar z
    | _ => false)
  | .zip a b, tg, x => (match x with
    | .Call (.Name g _) [y, z] [] _ => decide (g = ("zip" : Str)) && glb sc g && okA N sc a y && noStar y && okA N sc b z && noStar z && (match tg with | .Tuple .. => true | _ => false)
    | _ => false)
end
end EV
set_option Elab.async false
set_option linter.all false
set_option maxRecDepth 100000
set_option maxHeartbeats 4000000
/-! EV6: the meaning on data is kept by the machine: expressions, construct by construct. -/
namespace EV
open PySem PySem.Spec PyProof.Rows L2

/-- an exception object stands for the exception c -/
def ExcR (K : PySem.W.Frag) (mg : Mg) (Hs H : Hp) (c : Exc) (cls : Value) (a : Option Addr) : Prop :=
  ∃ (Ca d : Addr) (ks : List Str) (vs : List V) (ds : List D), mg c.C = some (.ref Ca) ∧ cls = .ref Ca ∧ a = some d ∧ H d = some (.xd (ks.zip vs)) ∧ ks.length = vs.length ∧ c.fs = ks.zip ds ∧ Reps K mg Hs vs ds

section
variable (K : PySem.W.Frag) (mg : Mg)
/-- from the still part Hs on: φ holds of what is wanted of the data, so what is wanted of the values holds -/
def Go {α β : Type} (rel : Hp → Hp → L2.St → En → β → α → Prop) (Z : Zn) (W : WX) (σ : L2.St) (Hs : Hp) (φ : (α → En → Prop) → (Exc → En → Prop) → Prop) (Q : β → Hp → Prop) : Prop :=
  ∃ (Qd : α → En → Prop) (R : Exc → En → Prop), φ Qd R ∧
    (∀ d ρ' Hs' H' v, Qd d ρ' → SR K mg Z Hs' H' σ ρ' → Same Hs Hs' → rel Hs' H' σ ρ' v d → Q v H') ∧
    (∀ c ρ' Hs' H' cls a, R c ρ' → SR K mg Z Hs' H' σ ρ' → Same Hs Hs' → ExcR K mg Hs' H' c cls a → W cls a σ H')
def tW {α β : Type} (rel : Hp → Hp → L2.St → En → β → α → Prop) (Z : Zn) (W : WX) (w : (α → En → Prop) → (Exc → En → Prop) → En → Prop) : L2.St → Hp → (β → Hp → Prop) → Prop := fun σ H Q =>
  ∃ Hs ρ, SR K mg Z Hs H σ ρ ∧ Go K mg rel Z W σ Hs (fun Qd R => w Qd R ρ) Q
def rE : Hp → Hp → L2.St → En → V → D → Prop := fun Hs _ _ _ v d => Rep K mg Hs v d
def rF (m : Bool) (Z : Zn) : Hp → Hp → L2.St → En → V → D → Prop := fun Hs H σ ρ v d => RepX m K mg Z Hs H σ ρ v d
def LR (Hs : Hp) (σ : L2.St) (v : V) : LD → Prop
  | .inl d => Rep K mg Hs v d
  | .inr i => σ.getD i none = some v
def rA : Hp → Hp → L2.St → En → V → LD → Prop := fun Hs _ σ _ v l => LR K mg Hs σ v l
def rB : Hp → Hp → L2.St → En → List V → List LD → Prop := fun Hs _ σ _ vs ls => Paired (LR K mg Hs σ) vs ls
def rL : Hp → Hp → L2.St → En → List V → List D → Prop := fun Hs _ _ _ vs ds => Reps K mg Hs vs ds
def rO : Hp → Hp → L2.St → En → Option Int → Option Int → Prop := fun _ _ _ _ a b => a = b
def rT : Hp → Hp → L2.St → En → Bool → D → Prop := fun _ _ _ _ b d => d = .bl b
abbrev tE := tW K mg (rE K mg)
abbrev tF (m : Bool) (Z : Zn) := tW K mg (rF K mg m Z) Z
abbrev tA := tW K mg (rA K mg)
abbrev tB := tW K mg (rB K mg)
abbrev tL := tW K mg (rL K mg)
abbrev tOo := tW K mg (rO)
abbrev tT := tW K mg (rT)
end

section
variable {K : PySem.W.Frag} {mg : Mg} {Z : Zn} {W : WX} {Hs Hs' H : Hp} {σ : L2.St} {ρ : En}
theorem Go.mono {α β : Type} {rel : Hp → Hp → L2.St → En → β → α → Prop} {φ : (α → En → Prop) → (Exc → En → Prop) → Prop} {Q : β → Hp → Prop} (h : Go K mg rel Z W σ Hs φ Q) (e : Same Hs Hs') : Go K mg rel Z W σ Hs' φ Q := by
  obtain ⟨Qd, R, h1, h2, h3⟩ := h
  exact ⟨Qd, R, h1, fun d ρ' Hs'' H' v a b c => h2 d ρ' Hs'' H' v a b (e.trans c), fun c ρ' Hs'' H' cls a x y z => h3 c ρ' Hs'' H' cls a x y (e.trans z)⟩
/-- one thing behind another -/
theorem Go.seq {α β α' β' : Type} {rel : Hp → Hp → L2.St → En → β → α → Prop} {rel' : Hp → Hp → L2.St → En → β' → α' → Prop} {w1 : (α' → En → Prop) → (Exc → En → Prop) → En → Prop}
    {w2 : α' → (α → En → Prop) → (Exc → En → Prop) → En → Prop} {Q : β → Hp → Prop} {rest : β' → Hp → Prop}
    (h : Go K mg rel Z W σ Hs (fun Qd R => w1 (fun d ρ1 => w2 d Qd R ρ1) R ρ) Q)
    (k : ∀ v d ρ1 Hs1 H1, SR K mg Z Hs1 H1 σ ρ1 → Same Hs Hs1 → rel' Hs1 H1 σ ρ1 v d → Go K mg rel Z W σ Hs1 (fun Qd R => w2 d Qd R ρ1) Q → rest v H1) :
    Go K mg rel' Z W σ Hs (fun Qd R => w1 Qd R ρ) rest := by
  obtain ⟨Qd, R, h1, h2, h3⟩ := h
  refine ⟨fun d ρ1 => w2 d Qd R ρ1, R, h1, fun d ρ' Hs'' H' v a b c r => k v d ρ' Hs'' H' b c r ?_, h3⟩
  exact ⟨Qd, R, a, fun d ρ' Hs3 H' v a b c' => h2 d ρ' Hs3 H' v a b (c.trans c'), fun e ρ' Hs3 H' cls a x y z => h3 e ρ' Hs3 H' cls a x y (c.trans z)⟩
/-- the end: the value is there -/
theorem Go.fin {α β : Type} {rel : Hp → Hp → L2.St → En → β → α → Prop} {d : α} {Q : β → Hp → Prop} (h : Go K mg rel Z W σ Hs (fun Qd _ => Qd d ρ) Q) (S : SR K mg Z Hs H σ ρ) {v : β} (r : rel Hs H σ ρ v d) : Q v H := by
  obtain ⟨Qd, R, h1, h2, h3⟩ := h
  exact h2 d ρ Hs H v h1 S (Same.refl _) r
theorem Go.fin' {α β : Type} {rel : Hp → Hp → L2.St → En → β → α → Prop} {d : α} {Q : β → Hp → Prop} (h : Go K mg rel Z W σ Hs (fun Qd _ => Qd d ρ) Q) {Hs1 H1 : Hp} (S : SR K mg Z Hs1 H1 σ ρ) (e : Same Hs Hs1) {v : β} (r : rel Hs1 H1 σ ρ v d) : Q v H1 := by
  obtain ⟨Qd, R, h1, h2, h3⟩ := h
  exact h2 d ρ Hs1 H1 v h1 S e r
/-- a fact in front -/
theorem Go.ex {α β γ : Type} {rel : Hp → Hp → L2.St → En → β → α → Prop} {φ : γ → (α → En → Prop) → (Exc → En → Prop) → Prop} {Q : β → Hp → Prop} (h : Go K mg rel Z W σ Hs (fun Qd R => ∃ x, φ x Qd R) Q) : ∃ x, Go K mg rel Z W σ Hs (φ x) Q := by
  obtain ⟨Qd, R, ⟨x, h1⟩, h2, h3⟩ := h
  exact ⟨x, Qd, R, h1, h2, h3⟩
theorem Go.and {α β : Type} {rel : Hp → Hp → L2.St → En → β → α → Prop} {p : Prop} {φ : (α → En → Prop) → (Exc → En → Prop) → Prop} {Q : β → Hp → Prop} (h : Go K mg rel Z W σ Hs (fun Qd R => p ∧ φ Qd R) Q) : p ∧ Go K mg rel Z W σ Hs φ Q := by
  obtain ⟨Qd, R, ⟨x, h1⟩, h2, h3⟩ := h
  exact ⟨x, Qd, R, h1, h2, h3⟩
/-- a data expression's end as an operation's back -/
theorem Go.bk {m m' : Bool} (hm : m' = true → m = true) {z : D} {Q : VK} (h : Go K mg (rF K mg m Z) Z W σ Hs (fun Qd _ => Qd z ρ) Q) : Bk m' K mg Z Hs σ ρ z Q := by
  obtain ⟨Qd, R, h1, h2, h3⟩ := h
  exact fun Hs' H' v S e r => h2 z ρ Hs' H' v h1 S e (RepX.mono hm r)
theorem LR.mono {v : V} {l : LD} (e : Same Hs Hs') (h : LR K mg Hs σ v l) : LR K mg Hs' σ v l := by
  cases l with
  | inl d => exact Rep.mono e h
  | inr i => exact h
/-- an operand, when it is looked at -/
theorem LR.peek {v : V} {l : LD} {d : D} (h : LR K mg Hs σ v l) (S : SR K mg Z Hs H σ ρ) (e : l.peek ρ = some d) : RepO K mg Hs H v d := by
  cases l with
  | inl d' => cases e; exact .inl h
  | inr i =>
    have hv : σ.getD i none = some v := h
    have sl := S.sl i
    rw [hv] at sl
    have e' : (ρ.at i).peek = some d := e
    cases q : ρ.at i with
    | un => rw [q] at e'; cases e'
    | pn n => rw [q] at e'; cases e'
    | mk C fs => rw [q] at e'; cases e'
    | tb P q' => rw [q] at e'; cases e'
    | fz d' =>
      rw [q] at e' sl; cases e'
      obtain ⟨x, h1, h2⟩ := sl
      cases h1
      exact .inl h2
    | ol ds | bl ds =>
      rw [q] at e' sl; cases e'
      obtain ⟨a, vs, h1, _, h3, h4⟩ := sl
      cases h1
      exact .inr (.inl ⟨a, vs, ds, rfl, rfl, h3, h4⟩)
    | oK kvs | bK kvs =>
      rw [q] at e' sl; cases e'
      obtain ⟨a, ks, vs, ds, h1, _, h3, h4, h5, h6⟩ := sl
      cases h1
      subst h5
      exact .inr (.inr (.inl ⟨a, ks, vs, ds, rfl, rfl, h3, h4, h6⟩))
    | oT kvs | bT kvs =>
      rw [q] at e' sl; cases e'
      obtain ⟨a, ks, vs, ds, h1, _, h3, h4, h5, h6⟩ := sl
      cases h1
      subst h5
      exact .inr (.inr (.inr ⟨a, ks, vs, ds, rfl, rfl, h3, h4, h6⟩))
end

/-! ### weakening a reading -/
section
variable {X : Cx} {e : Expr}
theorem peI {t t' : TE} (h : PE X e t) (i : ∀ σ H Q, t' σ H Q → t σ H Q) : PE X e t' := ⟨fun pins s σ H Q I q => h.run pins s σ H Q I (i _ _ _ q)⟩
theorem ptI {t t' : TT} (h : PT X e t) (i : ∀ σ H Q, t' σ H Q → t σ H Q) : PT X e t' := ⟨fun pins s σ H Q I q => h.run pins s σ H Q I (i _ _ _ q)⟩
theorem pwI {t t' : TT} (h : PW X e t) (i : ∀ σ H Q, t' σ H Q → t σ H Q) : PW X e t' := ⟨fun wh pins s σ H Q I q => h.run wh pins s σ H Q I (i _ _ _ q)⟩
theorem poI {e : Option Expr} {t t' : TO} (h : PO X e t) (i : ∀ σ H Q, t' σ H Q → t σ H Q) : PO X e t' := ⟨fun pins s σ H Q I q => h.run pins s σ H Q I (i _ _ _ q)⟩
theorem paI {es : List Expr} {t t' : TA} (h : PA X es t) (i : ∀ σ H Q, t' σ H Q → t σ H Q) : PA X es t' := ⟨fun pos pins s σ H Q I q => h.run pos pins s σ H Q I (i _ _ _ q)⟩
theorem psI {st : Stmt} {t t' : TS} (h : PS X st t) (i : ∀ D σ H, t' D σ H → t D σ H) : PS X st t' := ⟨fun pins s σ H D I q => h.run pins s σ H D I (i _ _ _ q)⟩
theorem pssI {st : List Stmt} {t t' : TS} (h : PSs X st t) (i : ∀ D σ H, t' D σ H → t D σ H) : PSs X st t' := ⟨fun pins s σ H D I q => h.run pins s σ H D I (i _ _ _ q)⟩
theorem pgI {t t' : L2.TG} {e : Expr} (h : PG X e t) (i : ∀ v σ H Q, t' v σ H Q → t v σ H Q) : PG X e t' := ⟨fun pins s σ H v u Q I r q => h.run pins s σ H v u Q I r (i _ _ _ _ q)⟩
theorem piI {tg it : Expr} {t t' : TI} (h : PI X tg it t) (i : ∀ σ H R, t' σ H R → t σ H R) : PI X tg it t' := ⟨fun pins s σ H R I q => h.run pins s σ H R I (i _ _ _ q)⟩
end

/-! ### a context in which the tables hold -/
def spF (K : PySem.W.Frag) (mg : Mg) (F : FS) : Sp := fun vs H Q E =>
  ∃ (Hs : Hp) (ss : List Slot) (Qd : D → List Slot → Prop) (R : Exc → List Slot → Prop), Same Hs H ∧ vs.length = ss.length ∧ (∀ i, i < vs.length → SlotR K mg Hs H vs[i]? (ss.getD i .un)) ∧
    (∀ i, i < vs.length → (ss.getD i .un).owned = (ss.getD i .un).lent) ∧
    (∀ i j a, vs[i]? = some (.ref a) → vs[j]? = some (.ref a) → (ss.getD i .un).owned = true → (ss.getD j .un).owned = true → i = j) ∧ F ss Qd R ∧
    (∀ d ss' Hs' H' v, Qd d ss' → Same Hs Hs' → Same Hs' H' → (∀ a o, H a = some o → (∀ i, vs[i]? = some (.ref a) → (ss.getD i .un).owned = false) → H' a = some o) → (∀ a, H a ≠ none → H' a ≠ none) →
      (∀ a, Hs' a ≠ none → Hs a ≠ none ∨ H a = none) → ss'.length = ss.length → (∀ i, i < vs.length → (ss.getD i .un).owned = true → (ss'.getD i .un).lent = true ∧ SlotR K mg Hs' H' vs[i]? (ss'.getD i .un)) → Rep K mg Hs' v d → Q v H') ∧
    (∀ c ss' Hs' H' cls b, R c ss' → Same Hs Hs' → Same Hs' H' → (∀ a o, H a = some o → (∀ i, vs[i]? = some (.ref a) → (ss.getD i .un).owned = false) → H' a = some o) → (∀ a, H a ≠ none → H' a ≠ none) →
      (∀ a, Hs' a ≠ none → Hs a ≠ none ∨ H a = none) → ss'.length = ss.length → (∀ i, i < vs.length → (ss.getD i .un).owned = true → (ss'.getD i .un).lent = true ∧ SlotR K mg Hs' H' vs[i]? (ss'.getD i .un)) → ExcR K mg Hs' H' c cls b → E cls b H')

/-- the cells that a lambda kept hold what the slots σ hold -/
structure Cap (N : List Str) (σ : L2.St) (l : LamD) (H : Hp) (h : Heap) : Prop where
  cell : ∀ y c, l.cl.lookup y = some c → H c = none ∧ ∃ v, h.IsCell c v
  inj : ∀ x y c, l.cl.lookup x = some c → l.cl.lookup y = some c → x = y
  has : ∀ y, l.scope.names.lookup y = some .free → ∃ c, l.cl.lookup y = some c
  val : ∀ (i : Nat) (y : Str) (v : V), N[i]? = some y → σ[i]? = some (some v) → l.scope.names.lookup y = some .free → ∃ c u, l.cl.lookup y = some c ∧ RelV v u ∧ h.IsCell c (some u)
/-- a lambda's text -/
structure LamT (l : LamD) : Prop where
  kind : l.scope.kind = .function
  co : l.scope.isCoroutine = false
  gen : l.scope.isGenerator = false
  own : ∀ y ∈ l.scope.names, y.2 ≠ .local ∧ y.2 ≠ .cell
  bind : ∀ pm cv ctv : Value, bindArgs (PySem.W.kla_fn "<lambda>" l.q l.params l.body l.scope l.cl pm cv ctv) ⟨[], []⟩ = pure []
abbrev lamE (l : LamD) (L f c : Addr) : Env := PySem.W.envX l.q l.scope L f (.ref c) l.cl
/-- the context of a lambda's body, entered at s -/
def lamC (P : Program) (w : World) (K : PySem.W.Frag) (mg : Mg) (base : Heap) (N : List Str) (A : Around) (outer : List Env) (s : Shared) (H : Hp) (E : XK) (l : LamD) (f c : Addr) : Cx where
  prog := P
  w := w
  K := K
  mg := mg
  base := base
  A := A.deeper (lamE l s.heap.objs.size f c)
  N := N
  s_0 := s
  H_0 := H
  env := lamE l s.heap.objs.size f c
  outer := outer
  stack := lamE l s.heap.objs.size f c :: outer
  ex := []
  fn := fun _ => false
  calm := true
  pn := []
  xe := fun e s' => wpAny (model P w) (A.deeper (lamE l s.heap.objs.size f c)) (leaving (lamE l s.heap.objs.size f c) e) (fun _ s'' => L2.CX P w outer H s E e s'') (fun e' s'' => L2.CX P w outer H s E e' s'') s'
/-- the def f calls the lambda that it is handed, and tells its exception -/
def HandOk (P : Program) (w : World) (K : PySem.W.Frag) (mg : Mg) (base : Heap) (k : Nat) (f : Str) (hs : List (Str × List HF)) : Prop := ∃ g : Addr, mg f = some (.ref g) ∧ PySem.W.keepIn K (.ref g) = true ∧
  ∀ (A : Around) (outer : List Env) (s : Shared) (H Hs : Hp) (fl c : Addr) (l : LamD) (N : List Str) (σ : L2.St) (ρ : En) (Z : Zn) (wb : WE) (Kd : D → En → Prop) (Q : VK), Room (k + 2) A → A.guards = some [] → Env0 P w K mg base A outer s H →
    LamT l → N.Nodup → σ.length = N.length → H fl = some (LamO fl c l) → H c = some (LamX.CodeO c l.q) → Cap N σ l H s.heap →
    (∀ (A' : Around) (outer' : List Env) (s' : Shared) (H' : Hp) (E' : XK), Room k (A'.deeper (lamE l s'.heap.objs.size fl c)) → A'.guards = some [] → PE (lamC P w K mg base N A' outer' s' H' E' l fl c) l.body (tE K mg Z (fun cls d _ H => E' cls d H) wb)) →
    SR K mg Z Hs H σ ρ → wb (fun _ ρ1 => Kd .non ρ1) (fun x ρ1 => ∃ d, catchD x hs = some d ∧ Kd d ρ1) ρ → (∀ d ρ' Hs' H' v, Kd d ρ' → SR K mg Z Hs' H' σ ρ' → Same Hs Hs' → Rep K mg Hs' v d → Q v H') →
      codeAny (model P w) A (.call (.ref g) ⟨[.ref fl], []⟩) (CR (L2.CX P w) outer P w H s Q (fun _ _ _ => False)) s
/-- l is a lambda of the def that runs in X, its body is e -/
structure FitX (X : Cx) (l : LamD) (e : E) : Prop where
  q : l.q = X.env.qual ++ "<lambda>"
  sc : LamX.LamS X.env.scope l.scope
  cl : l.cl = cloFrom X.env.cells l.scope.names []
  args : noArgs l.params = true
  ok : okE X.N l.scope e l.body = true
structure LamOk (P : Program) (w : World) (K : PySem.W.Frag) (mg : Mg) (base : Heap) (k : Nat) (T : Tb) (X : Cx) : Prop where
  room : Room (k + 2) X.A
  fit : ∀ l, T.lam l ↔ FitX X l (T.body l.n)
  tb : ∀ P q, T.tbl P q → ∃ c, X.env.code = .ref c ∧ LamX.TabB X.base X.mg c P ∧ q = X.env.qual ++ "<lambda>"
  bd : ∀ l, T.lam l → ∀ (fl c : Addr) (Z : Zn) (A : Around) (outer : List Env) (s : Shared) (H : Hp) (E : XK), Room k (A.deeper (lamE l s.heap.objs.size fl c)) → A.guards = some [] →
    PE (lamC P w K mg base X.N A outer s H E l fl c) l.body (tE K mg Z (fun cls d _ H => E cls d H) (T.run l.n))
/-- a list or dict that is new since H -/
def FreshV (K : PySem.W.Frag) (mg : Mg) (H Hs' H' : Hp) (v : V) (d : D) : Prop := ∃ a, v = .ref a ∧ Hs' a = none ∧ H a = none ∧ ((∃ vs ds, d = .lst ds ∧ H' a = some (.lst vs) ∧ Reps K mg Hs' vs ds) ∨
  (∃ (ks : List Key) (vs : List V) (ds : List D), d = .dK (ks.zip ds) ∧ H' a = some (.dK (ks.zip vs)) ∧ ks.length = vs.length ∧ Reps K mg Hs' vs ds) ∨
    ∃ (ks : List (List Key)) (vs : List V) (ds : List D), d = .dT (ks.zip ds) ∧ H' a = some (.dT (ks.zip vs)) ∧ ks.length = vs.length ∧ Reps K mg Hs' vs ds)
/-- as spF, of a def that gives a new list or dict -/
def spFr (K : PySem.W.Frag) (mg : Mg) (F : FS) : Sp := fun vs H Q E =>
  ∃ (Hs : Hp) (ss : List Slot) (Qd : D → List Slot → Prop) (R : Exc → List Slot → Prop), Same Hs H ∧ vs.length = ss.length ∧ (∀ i, i < vs.length → SlotR K mg Hs H vs[i]? (ss.getD i .un)) ∧
    (∀ i, i < vs.length → (ss.getD i .un).owned = (ss.getD i .un).lent) ∧
    (∀ i j a, vs[i]? = some (.ref a) → vs[j]? = some (.ref a) → (ss.getD i .un).owned = true → (ss.getD j .un).owned = true → i = j) ∧ F ss Qd R ∧
    (∀ d ss' Hs' H' v, Qd d ss' → Same Hs Hs' → Same Hs' H' → (∀ a o, H a = some o → (∀ i, vs[i]? = some (.ref a) → (ss.getD i .un).owned = false) → H' a = some o) → (∀ a, H a ≠ none → H' a ≠ none) →
      (∀ a, Hs' a ≠ none → Hs a ≠ none ∨ H a = none) → ss'.length = ss.length → (∀ i, i < vs.length → (ss.getD i .un).owned = true → (ss'.getD i .un).lent = true ∧ SlotR K mg Hs' H' vs[i]? (ss'.getD i .un)) → FreshV K mg H Hs' H' v d → Q v H') ∧
    (∀ c ss' Hs' H' cls b, R c ss' → Same Hs Hs' → Same Hs' H' → (∀ a o, H a = some o → (∀ i, vs[i]? = some (.ref a) → (ss.getD i .un).owned = false) → H' a = some o) → (∀ a, H a ≠ none → H' a ≠ none) →
      (∀ a, Hs' a ≠ none → Hs a ≠ none ∨ H a = none) → ss'.length = ss.length → (∀ i, i < vs.length → (ss.getD i .un).owned = true → (ss'.getD i .un).lent = true ∧ SlotR K mg Hs' H' vs[i]? (ss'.getD i .un)) → ExcR K mg Hs' H' c cls b → E cls b H')
structure Fine (P : Program) (w : World) (K : PySem.W.Frag) (mg : Mg) (base : Heap) (k : Nat) (T : Tb) : Prop where
  fn : ∀ x F, T.Γ x = some F → ∃ u, mg x = some u ∧ PySem.W.keepIn K u = true ∧ Cal P w K mg base k u (spF K mg F)
  gl : ∀ x d, T.G x = some d → ∃ u v, mg x = some u ∧ RelV v u ∧ Rep K mg (fun _ => none) v d
  ca : ∀ C x, (C, x) ∈ T.ats → ∃ Ca, mg C = some (.ref Ca) ∧ Cls K Ca ∧ NoAttr K Ca x
  bi : ∀ n ∈ bnames, mg (Str.ofString n) = none
  ty : ∀ C ∈ T.cls, ∃ Ca, mg C = some (.ref Ca) ∧ (∀ (H : Hp) (a dx : Addr) (fs : List (Str × V)), H a = some (.ins Ca dx fs) → TyX K H (.ref a) (.ref Ca)) ∧
    (∀ n ∈ tyNames, PySem.W.kitOne K (.ref Ca) (.type n) = some false) ∧ (∀ n ∈ "NoneType" :: tyNames, PySem.W.kitOne K (.type n) (.ref Ca) = some false) ∧
      ∀ C' ∈ T.cls, ∀ Cb, mg C' = some (.ref Cb) → PySem.W.kitOne K (.ref Ca) (.ref Cb) = some (decide (C = C'))
  ff : ∀ x F, T.Γf x = some F → ∃ u, mg x = some u ∧ PySem.W.keepIn K u = true ∧ Cal P w K mg base k u (spFr K mg F)
  rn : ∀ l, T.lam l → T.run l.n = wE T.bare (T.body l.n)
  hd : ∀ f hs, T.hand f = some hs → HandOk P w K mg base k f hs
theorem Fine.off {P : Program} {w : World} {K : PySem.W.Frag} {mg : Mg} {base : Heap} {k : Nat} {T : Tb} (h : Fine P w K mg base k T) : Fine P w K mg base k T.off :=
  ⟨h.fn, h.gl, h.ca, h.bi, h.ty, h.ff, h.rn, h.hd⟩
theorem Fine.bare {P : Program} {w : World} {K : PySem.W.Frag} {mg : Mg} {base : Heap} {k : Nat} {T : Tb} (h : Fine P w K mg base k T) : Fine P w K mg base k T.bare :=
  ⟨h.fn, h.gl, h.ca, h.bi, h.ty, h.ff, (fun _ z => nomatch z), (fun _ _ z => nomatch z)⟩

structure Ok (P : Program) (w : World) (K : PySem.W.Frag) (mg : Mg) (base : Heap) (k : Nat) (T : Tb) (X : Cx) (W : WX) : Prop where
  inn : In P w K mg base k X
  fine : Fine P w K mg base k T
  tk : Takes X W
  calm : X.calm = true
  nd : X.N.Nodup
  lm : T.lmk = true → LamOk P w K mg base k T X

section
variable {P : Program} {w : World} {K : PySem.W.Frag} {mg : Mg} {base : Heap} {k : Nat} {T : Tb} {X : Cx} {W : WX}
theorem Ok.hu (o : Ok P w K mg base k T X W) : X.A.units + 200 < cLine := by
  have := o.inn.room.un
  omega
theorem Ok.no (o : Ok P w K mg base k T X W) (n : String) (h : n ∈ bnames) : X.mg (Str.ofString n) = none := by
  rw [o.inn.mg]; exact o.fine.bi n h
end

section
variable {X : Cx} {Z : Zn} {W : WX} {e : Expr}
abbrev JE (X : Cx) (W : WX) (e : Expr) (w : WE) : Prop := ∀ Z, PE X e (tE X.K X.mg Z W w)
abbrev JX (m : Bool) (X : Cx) (W : WX) (e : Expr) (w : WE) : Prop := ∀ Z, PE X e (tF X.K X.mg m Z W w)
abbrev JF (X : Cx) (W : WX) (e : Expr) (w : WE) : Prop := JX true X W e w
abbrev JA (X : Cx) (W : WX) (e : Expr) (w : WA) : Prop := ∀ Z, PE X e (tA X.K X.mg Z W w)
abbrev JT (X : Cx) (W : WX) (e : Expr) (w : WE) : Prop := ∀ Z, PT X e (tT X.K X.mg Z W w)
abbrev JL (X : Cx) (W : WX) (es : List Expr) (w : WL) : Prop := ∀ Z, PA X es (tL X.K X.mg Z W w)
abbrev JB (X : Cx) (W : WX) (es : List Expr) (w : WB) : Prop := ∀ Z, PA X es (tB X.K X.mg Z W w)
abbrev JO (X : Cx) (W : WX) (e : Option Expr) (w : WO) : Prop := ∀ Z, PO X e (tOo X.K X.mg Z W w)

/-- a fresh value becomes still -/
theorem j_still {m : Bool} {w : WE} (h : JX m X W e w) : JE X W e w := fun Z => peI (h Z) fun σ H Q ⟨Hs, ρ, S, Qd, R, h1, h2, h3⟩ =>
  ⟨Hs, ρ, S, Qd, R, h1, fun d ρ' Hs' H' v a b c r => by
    obtain ⟨Hs2, S2, e2, r2⟩ := RepF.still b r.1
    exact h2 d ρ' Hs2 H' v a S2 (c.trans e2) r2, h3⟩
theorem j_loose {w : WE} (h : JE X W e w) : JF X W e w := fun Z => peI (h Z) fun σ H Q ⟨Hs, ρ, S, Qd, R, h1, h2, h3⟩ =>
  ⟨Hs, ρ, S, Qd, R, h1, fun d ρ' Hs' H' v a b c r => h2 d ρ' Hs' H' v a b c (.of r (.inl rfl)), h3⟩
theorem j_operand {w : WE} (h : JE X W e w) : JA X W e (fun Q R ρ => w (fun d ρ1 => Q (Sum.inl d) ρ1) R ρ) := fun Z => peI (h Z) fun σ H Q ⟨Hs, ρ, S, g⟩ =>
  ⟨Hs, ρ, S, Go.seq (rel' := rE X.K X.mg) (w1 := w) (w2 := fun d Qd R ρ1 => Qd (Sum.inl d) ρ1) g fun v d ρ1 Hs1 H1 S1 _ r g1 => g1.fin S1 r⟩
theorem name_of {N : List Str} {sc : Scope} {i : Nat} (h : okName N sc i e = true) : ∃ x pos, e = .Name x pos ∧ N[i]? = some x ∧ Vis sc x ∧ (x == ("__debug__" : Str)) = false ∧ (x == ("__classdict__" : Str)) = false := by
  unfold okName at h
  split at h
  · rename_i x pos
    simp only [Bool.and_eq_true, decide_eq_true_eq, Bool.not_eq_true'] at h
    obtain ⟨⟨⟨h1, h2⟩, h3⟩, h4⟩ := h
    refine ⟨x, pos, rfl, h1, ?_, h3, h4⟩
    unfold vis at h2
    split at h2
    · rename_i q; exact .inl q
    · rename_i q; exact .inr (.inl q)
    · rename_i q; exact .inr (.inr q)
    · cases h2
  · cases h
theorem getD_some {i : Nat} {σ : L2.St} {v : V} (q : σ.getD i none = some v) : σ[i]? = some (some v) := by
  rw [List.getD_eq_getElem?_getD] at q
  cases z : σ[i]? with
  | none => rw [z] at q; cases q
  | some u => rw [z] at q; exact congrArg some q
theorem j_pk {i : Nat} (h : okName X.N X.env.scope i e = true) : JA X W e (fun Q _ ρ => (ρ.at i).set = true ∧ Q (Sum.inr i) ρ) := by
  obtain ⟨x, pos, rfl, h1, h2, h3, h4⟩ := name_of h
  refine fun Z => ⟨fun pins s σ H Q I ⟨Hs, ρ, S, g⟩ => ?_⟩
  obtain ⟨hs, g⟩ := g.and
  obtain ⟨v, q⟩ := (S.sl i).set hs
  exact (pe_var (pos := pos) h1 h2 h3 h4).run pins s σ H Q I ⟨v, getD_some q, g.fin S q⟩
theorem j_v {i : Nat} (h : okName X.N X.env.scope i e = true) : JE X W e (wV i) := by
  obtain ⟨x, pos, rfl, h1, h2, h3, h4⟩ := name_of h
  refine fun Z => ⟨fun pins s σ H Q I ⟨Hs, ρ, S, g⟩ => ?_⟩
  have sl := S.sl i
  obtain ⟨Qd, R, g1, g2, g3⟩ := g
  unfold wV at g1
  have one : ∀ v, σ.getD i none = some v → Q v H → wpAny (model X.prog X.w) X.A (eval (.Name x pos) X.env) (EP X pins σ Q) X.xe s := fun v hv hq =>
    (pe_var (pos := pos) h1 h2 h3 h4).run pins s σ H Q I ⟨v, getD_some hv, hq⟩
  cases q : ρ.at i with
  | fz d =>
    rw [q] at g1 sl
    obtain ⟨v, hv, r⟩ := sl
    exact one v hv (g2 d ρ Hs H v g1 S (Same.refl _) r)
  | ol ds =>
    rw [q] at g1 sl
    obtain ⟨a, vs, hv, e1, e2, r⟩ := sl
    have ow : Owns σ ρ i a := ⟨hv, by rw [q]; rfl⟩
    have gr : Same Hs (upd Hs a (.lst vs)) := fun c u e => by rw [upd_ne (ne_of_none e e1)]; exact e
    have rr : Rep X.K X.mg (upd Hs a (.lst vs)) (.ref a) (.lst ds) := .lst upd_same (r.mono gr)
    exact one _ hv (g2 _ _ _ H _ g1 (S.freeze ow (by rw [q]; rfl) e2 rr) gr rr)
  | oK kvs =>
    rw [q] at g1 sl
    obtain ⟨a, ks, vs, ds, hv, e1, e2, l, ek, r⟩ := sl
    subst ek
    have ow : Owns σ ρ i a := ⟨hv, by rw [q]; rfl⟩
    have gr : Same Hs (upd Hs a (.dK (ks.zip vs))) := fun c u e => by rw [upd_ne (ne_of_none e e1)]; exact e
    have rr : Rep X.K X.mg (upd Hs a (.dK (ks.zip vs))) (.ref a) (.dK (ks.zip ds)) := .dK upd_same l (r.mono gr)
    exact one _ hv (g2 _ _ _ H _ g1 (S.freeze ow (by rw [q]; rfl) e2 rr) gr rr)
  | oT kvs =>
    rw [q] at g1 sl
    obtain ⟨a, ks, vs, ds, hv, e1, e2, l, ek, r⟩ := sl
    subst ek
    have ow : Owns σ ρ i a := ⟨hv, by rw [q]; rfl⟩
    have gr : Same Hs (upd Hs a (.dT (ks.zip vs))) := fun c u e => by rw [upd_ne (ne_of_none e e1)]; exact e
    have rr : Rep X.K X.mg (upd Hs a (.dT (ks.zip vs))) (.ref a) (.dT (ks.zip ds)) := .dT upd_same l (r.mono gr)
    exact one _ hv (g2 _ _ _ H _ g1 (S.freeze ow (by rw [q]; rfl) e2 rr) gr rr)
  | _ => rw [q] at g1; exact g1.elim
theorem j_lit {l : Lit} (h : okLit l e = true) : JE X W e (fun Q _ ρ => Q l.d ρ) := by
  refine fun Z => ?_
  unfold okLit at h
  split at h
  · exact peI pe_non fun σ H Q ⟨Hs, ρ, S, g⟩ => g.fin S (.non : Rep _ _ _ _ _)
  · rename_i b c _ _
    rw [eq_of_beq h]
    exact peI pe_bl fun σ H Q ⟨Hs, ρ, S, g⟩ => g.fin S (.bl _ : Rep _ _ _ _ _)
  · rename_i b c _ _
    rw [of_decide_eq_true h]
    exact peI pe_int fun σ H Q ⟨Hs, ρ, S, g⟩ => g.fin S (.int _ : Rep _ _ _ _ _)
  · rename_i b c _ _
    rw [of_decide_eq_true h]
    exact peI pe_str fun σ H Q ⟨Hs, ρ, S, g⟩ => g.fin S (.str _ : Rep _ _ _ _ _)
  · cases h
end
end EV
set_option Elab.async false
set_option linter.all false
set_option maxRecDepth 100000
set_option maxHeartbeats 4000000
/-! EV7: operations, tests, displays, attributes, calls, instance checks. -/
namespace EV
open PySem PySem.Spec PyProof.Rows L2

def wB (w : WE) : (Bool → En → Prop) → (Exc → En → Prop) → En → Prop := fun Q R ρ => w (fun d ρ1 => ∃ b, d = .bl b ∧ Q b ρ1) R ρ
def rBo : Hp → Hp → L2.St → En → Bool → Bool → Prop := fun _ _ _ _ a b => a = b
abbrev JT' (X : Cx) (W : WX) (e : Expr) (w : WE) : Prop := ∀ Z, PT X e (tW X.K X.mg rBo Z W (wB w))

section
variable {K : PySem.W.Frag} {mg : Mg} {Z : Zn} {W : WX} {σ : L2.St} {H : Hp}
theorem test_E {w : WE} {Q : Bool → Hp → Prop} (h : tW K mg rBo Z W (wB w) σ H Q) : tE K mg Z W w σ H (fun x H' => ∃ k, x = .bl k ∧ Q k H') := by
  obtain ⟨Hs, ρ, S, Qd, R, h1, h2, h3⟩ := h
  refine ⟨Hs, ρ, S, fun d ρ1 => ∃ b, d = .bl b ∧ Qd b ρ1, R, h1, ?_, h3⟩
  rintro d ρ' Hs' H' v ⟨b, rfl, q⟩ S' e r
  cases r
  exact ⟨b, rfl, h2 b ρ' Hs' H' b q S' e rfl⟩
theorem test_F {m : Bool} {w : WE} {Q : Bool → Hp → Prop} (h : tW K mg rBo Z W (wB w) σ H Q) : tF K mg m Z W w σ H (fun x H' => ∃ k, x = .bl k ∧ Q k H') := by
  obtain ⟨Hs, ρ, S, Qd, R, h1, h2, h3⟩ := h
  refine ⟨Hs, ρ, S, fun d ρ1 => ∃ b, d = .bl b ∧ Qd b ρ1, R, h1, ?_, h3⟩
  rintro d ρ' Hs' H' v ⟨b, rfl, q⟩ S' e r
  rcases r.1 with r | ⟨_, _, _, _, _, r⟩
  · cases r
    exact ⟨b, rfl, h2 b ρ' Hs' H' b q S' e rfl⟩
  · rcases r with ⟨_, _, z, _⟩ | ⟨_, _, _, z, _⟩ | ⟨_, _, _, z, _⟩ <;> cases z
theorem read1 {m : Bool} {k : O1} {wa : WA} {Q : VK} (h : tF K mg m Z W (wOp1 k wa) σ H Q) : tA K mg Z W wa σ H (fun x H1 => S1 K mg k x H1 Q) := by
  obtain ⟨Hs, ρ, S, g⟩ := h
  refine ⟨Hs, ρ, S, Go.seq (rel' := rA K mg) (w1 := wa) (w2 := fun l Qd R ρ1 => ∃ d z, l.peek ρ1 = some d ∧ o1 k d = some z ∧ Qd z ρ1) g fun v l ρ1 Hs1 H1 S1 _ r g1 => ?_⟩
  obtain ⟨d, g1⟩ := g1.ex
  obtain ⟨z, g1⟩ := g1.ex
  obtain ⟨e1, g1⟩ := g1.and
  obtain ⟨e2, g1⟩ := g1.and
  exact ⟨Z, σ, ρ1, Hs1, d, z, S1, r.peek S1 e1, e2, g1.bk (m' := false) (fun e => nomatch e)⟩
theorem read2 {m : Bool} {k : O2} (hm : isItem k = true → m = true) {wa wb : WA} {Q : VK} (h : tF K mg m Z W (wOp2 k wa wb) σ H Q) : tA K mg Z W wa σ H (fun x H1 => tA K mg Z W wb σ H1 (fun y H2 => S2 K mg k x y H2 Q)) := by
  obtain ⟨Hs, ρ, S, g⟩ := h
  refine ⟨Hs, ρ, S, Go.seq (rel' := rA K mg) (w1 := wa) (w2 := fun l Qd R ρ1 => wb (fun m ρ2 => ∃ d e z, l.peek ρ2 = some d ∧ m.peek ρ2 = some e ∧ o2 k d e = some z ∧ Qd z ρ2) R ρ1) g fun v l ρ1 Hs1 H1 S1 _ r g1 => ?_⟩
  refine ⟨Hs1, ρ1, S1, Go.seq (rel' := rA K mg) (w1 := wb) (w2 := fun m Qd R ρ2 => ∃ d e z, l.peek ρ2 = some d ∧ m.peek ρ2 = some e ∧ o2 k d e = some z ∧ Qd z ρ2) g1 fun u m ρ2 Hs2 H2 S2 e2 r2 g2 => ?_⟩
  obtain ⟨d, g2⟩ := g2.ex
  obtain ⟨e, g2⟩ := g2.ex
  obtain ⟨z, g2⟩ := g2.ex
  obtain ⟨e1, g2⟩ := g2.and
  obtain ⟨e3, g2⟩ := g2.and
  obtain ⟨e4, g2⟩ := g2.and
  exact ⟨Z, σ, ρ2, Hs2, d, e, z, S2, (LR.mono e2 r).peek S2 e1, LR.peek r2 S2 e3, e4, g2.bk hm⟩
end

theorem star_no {y : Expr} {ys : List Expr} {env : Env} (h : noStar y = true) : starEach (y :: ys) env = (false, eval y env) :: starEach ys env := by
  cases y <;> first | rfl | cases h
theorem gl_of {X : Cx} {x : Str} (h : glb X.env.scope x = true) : Gl X x := by
  unfold glb at h
  show X.env.scope.names.lookup x = some .globalImplicit
  split at h
  · assumption
  · cases h

section
variable {P : Program} {w : World} {K : PySem.W.Frag} {mg : Mg} {base : Heap} {k : Nat} {T : Tb} {X : Cx} {W : WX} {e : Expr}

theorem call1 {m : Bool} {id : String} {g : Str} {pos p : Pos} {y : Expr} {wa : WA} {k : O1} (hc : CallR X (.builtin id) (S1c X.K X.mg k)) (hg : Gl X g) (hm : X.mg g = none) (hv : bootBuiltins g = some (.builtin id)) (hn : g ≠ "__name__") (hd : (g == ("__debug__" : Str)) = false)
    (hy : noStar y = true) (ha : JA X W y wa) : JX m X W (.Call (.Name g p) [y] [] pos) (wOp1 k wa) := fun Z =>
  peI (pe_callB hc hg hm hv (pa_cons (ha Z) pa_nil (star_no hy)) hn hd (star_no hy) (by rfl)) fun σ H Q h => by
    obtain ⟨Hs, ρ, S, Qd, R, h1, h2, h3⟩ := read1 h
    exact ⟨Hs, ρ, S, Qd, R, h1, fun d ρ' Hs' H' v a b c r => ⟨v, rfl, h2 d ρ' Hs' H' v a b c r⟩, h3⟩
theorem callT1 {m : Bool} {id : String} {g : Str} {pos p : Pos} {y : Expr} {wa : WA} {k : O1} (hc : CallR X (.type id) (S1c X.K X.mg k)) (hg : Gl X g) (hm : X.mg g = none) (hv : bootBuiltins g = some (.type id)) (hn : g ≠ "__name__") (hd : (g == ("__debug__" : Str)) = false)
    (hy : noStar y = true) (ha : JA X W y wa) : JX m X W (.Call (.Name g p) [y] [] pos) (wOp1 k wa) := fun Z =>
  peI (pe_callTy hc hg hm hv (pa_cons (ha Z) pa_nil (star_no hy)) hn hd (star_no hy) (by rfl)) fun σ H Q h => by
    obtain ⟨Hs, ρ, S, Qd, R, h1, h2, h3⟩ := read1 h
    exact ⟨Hs, ρ, S, Qd, R, h1, fun d ρ' Hs' H' v a b c r => ⟨v, rfl, h2 d ρ' Hs' H' v a b c r⟩, h3⟩

theorem j_op1 {m : Bool} (o : Ok P w K mg base k T X W) {q : O1} {fa : Expr → Bool} {wa : WA} (ha : ∀ y, fa y = true → JA X W y wa) (h : okO1 X.env.scope q fa e = true) : JX m X W e (wOp1 q wa) := by
  unfold okO1 at h
  split at h
  · rename_i g p y pos
    simp only [Bool.and_eq_true, decide_eq_true_eq] at h
    obtain ⟨⟨⟨h1, h2⟩, h3⟩, h4⟩ := h
    have hg := gl_of h2
    have jy := ha y h3
    cases q <;> simp only [o1Name, reduceCtorEq, Option.some.injEq] at h1 <;> subst h1
    · exact call1 s_len hg (o.no "len" (by decide)) boot_len (by decide) (by decide) h4 jy
    · exact callT1 s_tup hg (o.no "tuple" (by decide)) (by decide +kernel) (by decide) (by decide) h4 jy
    · exact callT1 s_list hg (o.no "list" (by decide)) (by decide +kernel) (by decide) (by decide) h4 jy
    · exact call1 (s_all o.calm) hg (o.no "all" (by decide)) (by decide +kernel) (by decide) (by decide) h4 jy
    · exact call1 (s_any o.calm) hg (o.no "any" (by decide)) (by decide +kernel) (by decide) (by decide) h4 jy
    · exact call1 (s_sum o.calm) hg (o.no "sum" (by decide)) (by decide +kernel) (by decide) (by decide) h4 jy
    · exact callT1 s_int hg (o.no "int" (by decide)) (by decide +kernel) (by decide) (by decide) h4 jy
    · exact call1 (s_max o.calm) hg (o.no "max" (by decide)) (by decide +kernel) (by decide) (by decide) h4 jy
    · exact call1 (s_min o.calm) hg (o.no "min" (by decide)) (by decide +kernel) (by decide) (by decide) h4 jy
    · exact call1 s_abs hg (o.no "abs" (by decide)) (by decide +kernel) (by decide) (by decide) h4 jy
    · exact call1 (s_repr o.inn.gd o.hu) hg (o.no "repr" (by decide)) (by decide +kernel) (by decide) (by decide) h4 jy
    · exact call1 (s_sorted o.hu) hg (o.no "sorted" (by decide)) (by decide +kernel) (by decide) (by decide) h4 jy
  · rename_i y pos
    simp only [Bool.and_eq_true, decide_eq_true_eq] at h
    obtain ⟨rfl, h2⟩ := h
    exact fun Z => peI (pe_un s_neg (ha y h2 Z)) fun σ H Q h => read1 h
  · cases h

/-- the machine's operator of a two-place operation -/
theorem bin_ok (o : Ok P w K mg base k T X W) {q : O2} {p : Operator} (h : o2Bin q = some p) : OpR X (binaryOp p) (S2 X.K X.mg q) := by
  cases q <;> simp only [o2Bin, reduceCtorEq, Option.some.injEq] at h <;> subst h
  · exact s_add
  · exact s_sub
  · exact s_mul
  · exact s_fdiv
  · exact s_mod
  · exact s_pow
theorem cmp_ok (o : Ok P w K mg base k T X W) {q : O2} {p : CmpOp} (h : o2Cmp q = some p) : OpR X (compareOp p) (S2 X.K X.mg q) := by
  have hu := o.hu
  cases q <;> simp only [o2Cmp, reduceCtorEq, Option.some.injEq] at h <;> subst h
  · exact s_eq (by omega)
  · exact s_ne (by omega)
  · exact s_lt
  · exact s_le
  · exact s_gt
  · exact s_ge
  · exact s_in (by omega)
  · exact s_nin (by omega)
  · exact s_is
  · exact s_isn
theorem plain_ix {z : Expr} (h : notSlice z = true) : PlainIx z := by
  intro o i
  cases z <;> first | rfl | cases h
theorem j_op2 {m : Bool} (o : Ok P w K mg base k T X W) {q : O2} (hm : isItem q = true → m = true) {fa fb : Expr → Bool} {wa wb : WA} (ha : ∀ y, fa y = true → JA X W y wa) (hb : ∀ y, fb y = true → JA X W y wb) (h : okO2 X.env.scope q fa fb e = true) : JX m X W e (wOp2 q wa wb) := by
  have hu := o.hu
  unfold okO2 at h
  split at h
  · rename_i y p z pos
    simp only [Bool.and_eq_true, decide_eq_true_eq] at h
    obtain ⟨⟨h1, h2⟩, h3⟩ := h
    exact fun Z => peI (pe_op (bin_ok o h1) (ha y h2 Z) (hb z h3 Z)) fun σ H Q h => read2 hm h
  · rename_i y p z pos
    simp only [Bool.and_eq_true, decide_eq_true_eq, Bool.not_eq_true'] at h
    obtain ⟨⟨⟨h1, h2⟩, h3⟩, h4⟩ := h
    exact fun Z => peI (pe_cmpR (cmp_ok o h1) (ha y h2 Z) (hb z h3 Z) h4) fun σ H Q h => read2 hm h
  · rename_i y z pos
    simp only [Bool.and_eq_true, decide_eq_true_eq] at h
    obtain ⟨⟨⟨rfl, h2⟩, h3⟩, h4⟩ := h
    exact fun Z => peI (pe_ix (s_item (by omega)) (ha y h2 Z) (hb z h3 Z) (plain_ix h4)) fun σ H Q h => read2 hm h
  · rename_i g p y z pos
    simp only [Bool.and_eq_true, Bool.or_eq_true, decide_eq_true_eq] at h
    obtain ⟨⟨⟨⟨⟨h1, h2⟩, h3⟩, h4⟩, h5⟩, h6⟩ := h
    have hg := gl_of h2
    have fin : ∀ Z σ H Q, tF X.K X.mg m Z W (wOp2 q wa wb) σ H Q →
        tCB (fun xs H Q => ∃ x y, xs = [x, y] ∧ S2 X.K X.mg q x y H Q) (tCons (tA X.K X.mg Z W wa) (tCons (tA X.K X.mg Z W wb) tNil)) σ H Q := fun Z σ H Q h => by
      obtain ⟨Hs, ρ, S, Qd, R, a1, a2, a3⟩ := read2 hm h
      refine ⟨Hs, ρ, S, Qd, R, a1, fun d ρ' Hs' H' v b1 b2 b3 r => ?_, a3⟩
      obtain ⟨Hs2, ρ2, S2, Qd2, R2, c1, c2, c3⟩ := a2 d ρ' Hs' H' v b1 b2 b3 r
      exact ⟨Hs2, ρ2, S2, Qd2, R2, c1, fun d ρ' Hs' H' u b1 b2 b3 r => ⟨v, u, rfl, c2 d ρ' Hs' H' u b1 b2 b3 r⟩, c3⟩
    rcases h1 with ⟨rfl, rfl⟩ | ⟨rfl, rfl⟩
    · exact fun Z => peI (pe_callB (s_max2 o.calm) hg (o.no "max" (by decide)) (by decide +kernel) (pa_cons (ha y h3 Z) (pa_cons (hb z h4 Z) pa_nil (star_no h6)) (star_no h5)) (by decide) (by decide) (star_no h5) (by rw [star_no h6]; rfl)) (fin Z)
    · exact fun Z => peI (pe_callB (s_min2 o.calm) hg (o.no "min" (by decide)) (by decide +kernel) (pa_cons (ha y h3 Z) (pa_cons (hb z h4 Z) pa_nil (star_no h6)) (star_no h5)) (by decide) (by decide) (star_no h5) (by rw [star_no h6]; rfl)) (fin Z)
  · cases h
/-- the same as a test -/
theorem jt_op2 (o : Ok P w K mg base k T X W) {q : O2} {fa fb : Expr → Bool} {wa wb : WA} (ha : ∀ y, fa y = true → JA X W y wa) (hb : ∀ y, fb y = true → JA X W y wb) (h : okO2 X.env.scope q fa fb e = true) : JT' X W e (wOp2 q wa wb) := by
  have hm : isItem q = true → true = true := fun _ => rfl
  have j := j_op2 (m := true) o hm ha hb h
  unfold okO2 at h
  split at h
  · exact fun Z => ptI (pt_val (j Z)) fun σ H Q h => test_F h
  · rename_i y p z pos
    simp only [Bool.and_eq_true, decide_eq_true_eq, Bool.not_eq_true'] at h
    obtain ⟨⟨⟨h1, h2⟩, h3⟩, h4⟩ := h
    exact fun Z => ptI (pt_cmpR (cmp_ok o h1) (ha y h2 Z) (hb z h3 Z) h4) fun σ H Q h => read2 hm (test_F h)
  · exact fun Z => ptI (pt_val (j Z)) fun σ H Q h => test_F h
  · exact fun Z => ptI (pt_val (j Z)) fun σ H Q h => test_F h
  · cases h
theorem jt_op1 (o : Ok P w K mg base k T X W) {q : O1} {fa : Expr → Bool} {wa : WA} (ha : ∀ y, fa y = true → JA X W y wa) (h : okO1 X.env.scope q fa e = true) : JT' X W e (wOp1 q wa) := by
  have j := j_op1 (m := true) o ha h
  unfold okO1 at h
  split at h
  · exact fun Z => ptI (pt_val (j Z)) fun σ H Q h => test_F h
  · exact fun Z => ptI (pt_val (j Z)) fun σ H Q h => test_F h
  · cases h

theorem readCh {md : Bool} {q r : O2} (hm : isItem r = true → md = true) {wa wb wc : WA} {Z : Zn} {σ : L2.St} {H : Hp} {Q : VK} (h : tF X.K X.mg md Z W (wCh q r wa wb wc) σ H Q) :
    tChain (S2 X.K X.mg q) (S2 X.K X.mg r) (tA X.K X.mg Z W wa) (tA X.K X.mg Z W wb) (tA X.K X.mg Z W wc) σ H Q := by
  obtain ⟨Hs, ρ, S, g⟩ := h
  refine ⟨Hs, ρ, S, Go.seq (rel' := rA X.K X.mg) (w1 := wa) (w2 := fun l Qd R ρ1 => wb (fun m ρ2 => ∃ d e b, l.peek ρ2 = some d ∧ m.peek ρ2 = some e ∧ o2 q d e = some (.bl b) ∧
    if b = true then wc (fun n ρ3 => ∃ e' c z, m.peek ρ3 = some e' ∧ n.peek ρ3 = some c ∧ o2 r e' c = some z ∧ Qd z ρ3) R ρ2 else Qd (.bl false) ρ2) R ρ1) g fun v l ρ1 Hs1 H1 S1 _ r1 g1 => ?_⟩
  refine ⟨Hs1, ρ1, S1, Go.seq (rel' := rA X.K X.mg) (w1 := wb) (w2 := fun m Qd R ρ2 => ∃ d e b, l.peek ρ2 = some d ∧ m.peek ρ2 = some e ∧ o2 q d e = some (.bl b) ∧
    if b = true then wc (fun n ρ3 => ∃ e' c z, m.peek ρ3 = some e' ∧ n.peek ρ3 = some c ∧ o2 r e' c = some z ∧ Qd z ρ3) R ρ2 else Qd (.bl false) ρ2) g1 fun u m ρ2 Hs2 H2 S2 e2 r2 g2 => ?_⟩
  obtain ⟨d, g2⟩ := g2.ex
  obtain ⟨e, g2⟩ := g2.ex
  obtain ⟨b, g2⟩ := g2.ex
  obtain ⟨e1, g2⟩ := g2.and
  obtain ⟨e3, g2⟩ := g2.and
  obtain ⟨e4, g2⟩ := g2.and
  refine ⟨Z, σ, ρ2, Hs2, d, e, .bl b, S2, (LR.mono e2 r1).peek S2 e1, LR.peek r2 S2 e3, e4, fun Hs3 H3 x S3 e5 r3 => ?_⟩
  have hx : x = .bl b := by
    rcases r3 with r3 | ⟨_, _, _, _, _, r3⟩
    · cases r3; rfl
    · rcases r3 with ⟨_, _, z, _⟩ | ⟨_, _, _, z, _⟩ | ⟨_, _, _, z, _⟩ <;> cases z
  subst hx
  refine ⟨b, rfl, ?_⟩
  cases b with
  | true =>
    rw [if_pos rfl]
    simp only [if_true] at g2
    refine ⟨Hs3, ρ2, S3, Go.seq (rel' := rA X.K X.mg) (w1 := wc) (w2 := fun n Qd R ρ3 => ∃ e' c z, m.peek ρ3 = some e' ∧ n.peek ρ3 = some c ∧ o2 r e' c = some z ∧ Qd z ρ3) (g2.mono e5) fun y n ρ4 Hs4 H4 S4 e6 r4 g4 => ?_⟩
    obtain ⟨d', g4⟩ := g4.ex
    obtain ⟨c, g4⟩ := g4.ex
    obtain ⟨z, g4⟩ := g4.ex
    obtain ⟨f1, g4⟩ := g4.and
    obtain ⟨f2, g4⟩ := g4.and
    obtain ⟨f3, g4⟩ := g4.and
    exact ⟨Z, σ, ρ4, Hs4, d', c, z, S4, (LR.mono (e5.trans e6) r2).peek S4 f1, LR.peek r4 S4 f2, f3, g4.bk hm⟩
  | false =>
    rw [if_neg (by simp)]
    simp only [Bool.false_eq_true, if_false] at g2
    exact g2.fin' S3 e5 (RepX.of (.bl false) (.inr rfl))
theorem j_ch (o : Ok P w K mg base k T X W) {q r : O2} {x y z : Expr} {p p' : CmpOp} {pos : Pos} {wa wb wc : WA} (h1 : o2Cmp q = some p) (h2 : o2Cmp r = some p') (ha : JA X W x wa) (hb : JA X W y wb) (hc : JA X W z wc)
    (hm : lastMarks [p, p'] [y, z] = false) : JF X W (.Compare x [p, p'] [y, z] pos) (wCh q r wa wb wc) ∧ JT' X W (.Compare x [p, p'] [y, z] pos) (wCh q r wa wb wc) :=
  ⟨fun Z => peI (pe_chain (cmp_ok o h1) (cmp_ok o h2) (ha Z) (hb Z) (hc Z) hm) fun σ H Q h => readCh (fun _ => rfl) h,
   fun Z => ptI (pt_chain (cmp_ok o h1) (cmp_ok o h2) (ha Z) (hb Z) (hc Z) hm) fun σ H Q h => readCh (md := true) (fun _ => rfl) (test_F h)⟩

/-! ### slices -/
theorem jo_no : JO X W none wNo := fun Z => poI po_none fun σ H Q ⟨Hs, ρ, S, g⟩ => g.fin S rfl
theorem jo_some {y : Expr} {w : WE} (h : JE X W y w) : JO X W (some y) (wOne w) := fun Z => poI (po_some (h Z)) fun σ H Q ⟨Hs, ρ, S, g⟩ =>
  ⟨Hs, ρ, S, Go.seq (rel := rO) (rel' := rE X.K X.mg) (w1 := w) (w2 := fun d Qd R ρ1 => ∃ i, d = .int i ∧ Qd (some i) ρ1) g fun v d ρ1 Hs1 H1 S1 _ r g1 => by
    obtain ⟨i, g1⟩ := g1.ex
    obtain ⟨hd, g2⟩ := g1.and
    clear g1
    subst hd
    have g1 := g2
    clear g2
    cases r
    exact ⟨i, rfl, g1.fin S1 rfl⟩⟩
theorem j_slc {m : Bool} (o : Ok P w K mg base k T X W) {fa : Expr → Bool} {fl fh : Option Expr → Bool} {wa : WA} {wl wh : WO} (ha : ∀ y, fa y = true → JA X W y wa) (hl : ∀ y, fl y = true → JO X W y wl) (hh : ∀ y, fh y = true → JO X W y wh)
    (h : okSl fa fl fh e = true) : JX m X W e (wSlc wa wl wh) ∧ JT' X W e (wSlc wa wl wh) := by
  unfold okSl at h
  split at h
  · rename_i y l u p pos
    simp only [Bool.and_eq_true] at h
    obtain ⟨⟨h1, h2⟩, h3⟩ := h
    have j : JX m X W (.Subscript y (.Slice l u none p) pos) (wSlc wa wl wh) := fun Z => peI (pe_slice s_slice (ha y h1 Z) (hl l h2 Z) (hh u h3 Z)) fun σ H Q ⟨Hs, ρ, S, g⟩ => by
      refine ⟨Hs, ρ, S, Go.seq (rel' := rA X.K X.mg) (w1 := wa) (w2 := fun l Qd R ρ1 => wl (fun lo ρ2 => wh (fun hi ρ3 => ∃ d z, l.peek ρ3 = some d ∧ o3 d lo hi = some z ∧ Qd z ρ3) R ρ2) R ρ1) g fun v l ρ1 Hs1 H1 S1 _ r g1 => ?_⟩
      refine ⟨Hs1, ρ1, S1, Go.seq (rel' := rO) (w1 := wl) (w2 := fun lo Qd R ρ2 => wh (fun hi ρ3 => ∃ d z, l.peek ρ3 = some d ∧ o3 d lo hi = some z ∧ Qd z ρ3) R ρ2) g1 fun lo lo' ρ2 Hs2 H2 S2 e2 r2 g2 => ?_⟩
      obtain rfl : lo = lo' := r2
      refine ⟨Hs2, ρ2, S2, Go.seq (rel' := rO) (w1 := wh) (w2 := fun hi Qd R ρ3 => ∃ d z, l.peek ρ3 = some d ∧ o3 d lo hi = some z ∧ Qd z ρ3) g2 fun hi hi' ρ3 Hs3 H3 S3 e3 r3 g3 => ?_⟩
      obtain rfl : hi = hi' := r3
      obtain ⟨d, g3⟩ := g3.ex
      obtain ⟨z, g3⟩ := g3.ex
      obtain ⟨f1, g3⟩ := g3.and
      obtain ⟨f2, g3⟩ := g3.and
      exact ⟨Z, σ, ρ3, Hs3, d, z, S3, (LR.mono (e2.trans e3) r).peek S3 f1, f2, g3.bk (m' := false) (fun e => nomatch e)⟩
    exact ⟨j, fun Z => ptI (pt_val (j Z)) fun σ H Q h => test_F h⟩
  · cases h

/-! ### not, and, or, if else -/
theorem j_not {y : Expr} {w : WE} {pos : Pos} (h : JE X W y w) : JE X W (.UnaryOp .Not y pos) (wNot w) := fun Z => peI (pe_not (h Z)) fun σ H Q ⟨Hs, ρ, S, g⟩ =>
  ⟨Hs, ρ, S, Go.seq (rel := rE X.K X.mg) (rel' := rE X.K X.mg) (w1 := w) (w2 := fun d Qd R ρ1 => ∃ b, d = .bl b ∧ Qd (.bl (!b)) ρ1) g fun v d ρ1 Hs1 H1 S1 _ r g1 => by
    obtain ⟨b, g1⟩ := g1.ex
    obtain ⟨hd, g2⟩ := g1.and
    clear g1
    subst hd
    have g1 := g2
    clear g2
    cases r
    exact ⟨b, rfl, g1.fin S1 (.bl _ : Rep _ _ _ _ _)⟩⟩
theorem jt_not {y : Expr} {w : WE} {pos : Pos} (h : JT' X W y w) : JT' X W (.UnaryOp .Not y pos) (wNot w) := fun Z => ptI (pt_not (h Z)) fun σ H Q ⟨Hs, ρ, S, Qd, R, h1, h2, h3⟩ =>
  ⟨Hs, ρ, S, fun b ρ1 => ∃ c, D.bl (!b) = .bl c ∧ Qd c ρ1, R, by
    have e : (fun (d : D) ρ1 => ∃ b, d = .bl b ∧ ∃ c, D.bl (!b) = .bl c ∧ Qd c ρ1) = fun d ρ1 => ∃ b, d = .bl b ∧ ∃ c, D.bl (!b) = .bl c ∧ Qd c ρ1 := rfl
    exact h1, fun b ρ' Hs' H' v q S' e r => by
    obtain ⟨c, hc, q⟩ := q
    cases hc
    obtain rfl : v = b := r
    exact h2 _ ρ' Hs' H' _ q S' e rfl, h3⟩
theorem j_ite {c y z : Expr} {wt wa wb : WE} {pos : Pos} (hc : JT' X W c wt) (ha : JE X W y wa) (hb : JE X W z wb) : JE X W (.IfExp c y z pos) (wIte wt wa wb) := fun Z => peI (pe_ifExp (hc Z) (ha Z) (hb Z)) fun σ H Q ⟨Hs, ρ, S, g⟩ =>
  ⟨Hs, ρ, S, Go.seq (rel := rE X.K X.mg) (rel' := rBo) (w1 := wB wt) (w2 := fun b Qd R ρ1 => if b = true then wa Qd R ρ1 else wb Qd R ρ1) g fun v d ρ1 Hs1 H1 S1 _ r g1 => by
    obtain rfl : v = d := r
    cases v with
    | true =>
      rw [if_pos rfl]
      simp only [if_true] at g1
      exact ⟨Hs1, ρ1, S1, g1⟩
    | false =>
      rw [if_neg (by simp)]
      simp only [Bool.false_eq_true, if_false] at g1
      exact ⟨Hs1, ρ1, S1, g1⟩⟩
theorem j_and {y z : Expr} {r : List Expr} {wa wb : WE} {pos : Pos} (ha : JE X W y wa) (hb : JE X W (.BoolOp .And (z :: r) pos) wb) : JE X W (.BoolOp .And (y :: z :: r) pos) (wAnd wa wb) := fun Z => peI (pe_and (ha Z) (hb Z)) fun σ H Q ⟨Hs, ρ, S, g⟩ =>
  ⟨Hs, ρ, S, Go.seq (rel := rE X.K X.mg) (rel' := rE X.K X.mg) (w1 := wa) (w2 := fun d Qd R ρ1 => ∃ b, d = .bl b ∧ if b = true then wb Qd R ρ1 else Qd (.bl false) ρ1) g fun v d ρ1 Hs1 H1 S1 _ r g1 => by
    obtain ⟨b, g1⟩ := g1.ex
    obtain ⟨hd, g2⟩ := g1.and
    clear g1
    subst hd
    have g1 := g2
    clear g2
    cases r
    refine ⟨b, rfl, ?_⟩
    cases b with
    | true =>
      rw [if_pos rfl]
      have g2 : Go X.K X.mg (rE X.K X.mg) Z W σ Hs1 (fun Qd R => wb Qd R ρ1) Q := by simpa only [if_true] using g1
      exact ⟨Hs1, ρ1, S1, g2⟩
    | false =>
      rw [if_neg (by simp)]
      have g2 : Go X.K X.mg (rE X.K X.mg) Z W σ Hs1 (fun Qd R => Qd (.bl false) ρ1) Q := by simpa only [Bool.false_eq_true, if_false] using g1
      exact g2.fin S1 (.bl _ : Rep _ _ _ _ _)⟩
theorem j_or {y z : Expr} {r : List Expr} {wa wb : WE} {pos : Pos} (ha : JE X W y wa) (hb : JE X W (.BoolOp .Or (z :: r) pos) wb) : JE X W (.BoolOp .Or (y :: z :: r) pos) (wOr wa wb) := fun Z => peI (pe_or (ha Z) (hb Z)) fun σ H Q ⟨Hs, ρ, S, g⟩ =>
  ⟨Hs, ρ, S, Go.seq (rel := rE X.K X.mg) (rel' := rE X.K X.mg) (w1 := wa) (w2 := fun d Qd R ρ1 => ∃ b, d = .bl b ∧ if b = true then Qd (.bl true) ρ1 else wb Qd R ρ1) g fun v d ρ1 Hs1 H1 S1 _ r g1 => by
    obtain ⟨b, g1⟩ := g1.ex
    obtain ⟨hd, g2⟩ := g1.and
    clear g1
    subst hd
    have g1 := g2
    clear g2
    cases r
    refine ⟨b, rfl, ?_⟩
    cases b with
    | true =>
      rw [if_pos rfl]
      have g2 : Go X.K X.mg (rE X.K X.mg) Z W σ Hs1 (fun Qd R => Qd (.bl true) ρ1) Q := by simpa only [if_true] using g1
      exact g2.fin S1 (.bl _ : Rep _ _ _ _ _)
    | false =>
      rw [if_neg (by simp)]
      have g2 : Go X.K X.mg (rE X.K X.mg) Z W σ Hs1 (fun Qd R => wb Qd R ρ1) Q := by simpa only [Bool.false_eq_true, if_false] using g1
      exact ⟨Hs1, ρ1, S1, g2⟩⟩
abbrev JW (X : Cx) (W : WX) (e : Expr) (w : WE) : Prop := ∀ Z, PW X e (tW X.K X.mg rBo Z W (wB w))
theorem jw_and {y z : Expr} {r : List Expr} {wa wb : WE} {pos : Pos} (ha : JT' X W y wa) (hb : JW X W (.BoolOp .And (z :: r) pos) wb) : JW X W (.BoolOp .And (y :: z :: r) pos) (wAnd wa wb) := fun Z => pwI (pw_and (ha Z) (hb Z)) fun σ H Q ⟨Hs, ρ, S, Qd, R, h1, h2, h3⟩ => by
  refine ⟨Hs, ρ, S, fun b ρ1 => if b = true then wb (fun d ρ2 => ∃ b, d = .bl b ∧ Qd b ρ2) R ρ1 else ∃ c, D.bl false = .bl c ∧ Qd c ρ1, R, h1, fun b ρ' Hs' H' v q S' e r => ?_, h3⟩
  obtain rfl : v = b := r
  cases v with
  | true =>
    rw [if_pos rfl] at q ⊢
    exact ⟨Hs', ρ', S', Qd, R, q, fun d ρ' Hs3 H' v a b c => h2 d ρ' Hs3 H' v a b (e.trans c), fun c ρ' Hs3 H' cls a x y z => h3 c ρ' Hs3 H' cls a x y (e.trans z)⟩
  | false =>
    rw [if_neg (by simp)] at q ⊢
    obtain ⟨c, hc, q⟩ := q
    cases hc
    exact h2 _ ρ' Hs' H' _ q S' e rfl
theorem jw_or {y z : Expr} {r : List Expr} {wa wb : WE} {pos : Pos} (ha : JT' X W y wa) (hb : JW X W (.BoolOp .Or (z :: r) pos) wb) : JW X W (.BoolOp .Or (y :: z :: r) pos) (wOr wa wb) := fun Z => pwI (pw_or (ha Z) (hb Z)) fun σ H Q ⟨Hs, ρ, S, Qd, R, h1, h2, h3⟩ => by
  refine ⟨Hs, ρ, S, fun b ρ1 => if b = true then ∃ c, D.bl true = .bl c ∧ Qd c ρ1 else wb (fun d ρ2 => ∃ b, d = .bl b ∧ Qd b ρ2) R ρ1, R, h1, fun b ρ' Hs' H' v q S' e r => ?_, h3⟩
  obtain rfl : v = b := r
  cases v with
  | true =>
    rw [if_pos rfl] at q ⊢
    obtain ⟨c, hc, q⟩ := q
    cases hc
    exact h2 _ ρ' Hs' H' _ q S' e rfl
  | false =>
    rw [if_neg (by simp)] at q ⊢
    exact ⟨Hs', ρ', S', Qd, R, q, fun d ρ' Hs3 H' v a b c => h2 d ρ' Hs3 H' v a b (e.trans c), fun c ρ' Hs3 H' cls a x y z => h3 c ρ' Hs3 H' cls a x y (e.trans z)⟩

/-! ### displays -/
theorem jl_nil : JL X W [] (fun Q _ ρ => Q [] ρ) := fun Z => paI pa_nil fun σ H Q ⟨Hs, ρ, S, g⟩ => g.fin S (.nil : Reps _ _ _ _ _)
theorem jl_cons {y : Expr} {ys : List Expr} {w1 : WE} {ws : WL} (hy : noStar y = true) (h : JE X W y w1) (t : JL X W ys ws) : JL X W (y :: ys) (fun Q R ρ => w1 (fun d ρ1 => ws (fun ds ρ2 => Q (d :: ds) ρ2) R ρ1) R ρ) := fun Z =>
  paI (pa_cons (h Z) (t Z) (star_no hy)) fun σ H Q ⟨Hs, ρ, S, g⟩ =>
    ⟨Hs, ρ, S, Go.seq (rel := rL X.K X.mg) (rel' := rE X.K X.mg) (w1 := w1) (w2 := fun d Qd R ρ1 => ws (fun ds ρ2 => Qd (d :: ds) ρ2) R ρ1) g fun v d ρ1 Hs1 H1 S1 _ r g1 =>
      ⟨Hs1, ρ1, S1, Go.seq (rel := rL X.K X.mg) (rel' := rL X.K X.mg) (w1 := ws) (w2 := fun ds Qd R ρ2 => Qd (d :: ds) ρ2) g1 fun vs ds ρ2 Hs2 H2 S2 e2 r2 g2 => g2.fin S2 (.cons (Rep.mono e2 r) r2 : Reps _ _ _ _ _)⟩⟩
theorem j_tup {es : List Expr} {ws : WL} {x1} {pos : Pos} (h : JL X W es ws) : JE X W (.Tuple es x1 pos) (fun Q R ρ => ws (fun ds ρ1 => ds.length ≤ sizeLine ∧ Q (.tup ds) ρ1) R ρ) := fun Z =>
  peI (pe_tup (h Z)) fun σ H Q ⟨Hs, ρ, S, g⟩ => ⟨Hs, ρ, S, Go.seq (rel := rE X.K X.mg) (rel' := rL X.K X.mg) (w1 := ws) (w2 := fun ds Qd R ρ1 => ds.length ≤ sizeLine ∧ Qd (.tup ds) ρ1) g fun vs ds ρ1 Hs1 H1 S1 _ r g1 => by
    obtain ⟨hz, g1⟩ := g1.and
    refine ⟨by rw [Reps.length r]; exact hz, fun p hp => ?_⟩
    obtain ⟨f1, _, _⟩ := S1.fresh hp
    have gr : Same Hs1 (upd Hs1 p (.tup vs)) := fun c u e => by rw [upd_ne (ne_of_none e f1)]; exact e
    exact g1.fin' (S1.laid hp) gr (.tup upd_same (Reps.mono gr r) : Rep _ _ _ _ _)⟩
theorem j_lst {m : Bool} {es : List Expr} {ws : WL} {pos : Pos} (h : JL X W es ws) : JX m X W (.List es pos) (fun Q R ρ => ws (fun ds ρ1 => ds.length ≤ sizeLine ∧ Q (.lst ds) ρ1) R ρ) := fun Z =>
  peI (pe_lst (h Z)) fun σ H Q ⟨Hs, ρ, S, g⟩ => ⟨Hs, ρ, S, Go.seq (rel := rF X.K X.mg m Z) (rel' := rL X.K X.mg) (w1 := ws) (w2 := fun ds Qd R ρ1 => ds.length ≤ sizeLine ∧ Qd (.lst ds) ρ1) g fun vs ds ρ1 Hs1 H1 S1 _ r g1 => by
    obtain ⟨hz, g1⟩ := g1.and
    refine ⟨by rw [Reps.length r]; exact hz, fun p hp => ?_⟩
    obtain ⟨f1, f2, f3⟩ := S1.fresh hp
    exact g1.fin' (S1.loose hp) (Same.refl _) ⟨.inr ⟨p, rfl, f1, f2, f3, .inl ⟨vs, ds, rfl, upd_same, r⟩⟩, fun _ i => notRep f1 i⟩⟩
theorem j_dK {m : Bool} {pos : Pos} : JX m X W (.Dict [] [] pos) (fun Q _ ρ => Q (.dK []) ρ) := fun Z => peI pe_dnewK fun σ H Q ⟨Hs, ρ, S, g⟩ p hp => by
  obtain ⟨f1, f2, f3⟩ := S.fresh hp
  exact g.fin' (S.loose hp) (Same.refl _) ⟨.inr ⟨p, rfl, f1, f2, f3, .inr (.inl ⟨[], [], [], rfl, upd_same, rfl, .nil⟩)⟩, fun _ i => notRep f1 i⟩
theorem j_dT {m : Bool} {pos : Pos} : JX m X W (.Dict [] [] pos) (fun Q _ ρ => Q (.dT []) ρ) := fun Z => peI pe_dnewT fun σ H Q ⟨Hs, ρ, S, g⟩ p hp => by
  obtain ⟨f1, f2, f3⟩ := S.fresh hp
  exact g.fin' (S.loose hp) (Same.refl _) ⟨.inr ⟨p, rfl, f1, f2, f3, .inr (.inr ⟨[], [], [], rfl, upd_same, rfl, .nil⟩)⟩, fun _ i => notRep f1 i⟩

/-! ### attributes -/
theorem zip_lookup {K : PySem.W.Frag} {mg : Mg} {Hs : Hp} {x : Str} : ∀ {ks : List Str} {vs : List V} {ds : List D} {d : D}, ks.length = vs.length → Reps K mg Hs vs ds → (ks.zip ds).lookup x = some d → ∃ v, (ks.zip vs).lookup x = some v ∧ Rep K mg Hs v d
  | [], _, _, _, _, _, h => by simp at h
  | _ :: _, [], _, _, l, _, _ => by simp at l
  | k :: ks, v :: vs, d' :: ds, d, l, .cons r t, h => by
    rw [List.zip_cons_cons, List.lookup_cons] at h ⊢
    cases q : (x == k) with
    | true =>
      rw [q] at h
      cases h
      exact ⟨v, rfl, r⟩
    | false =>
      rw [q] at h
      exact zip_lookup (by simpa using l) t h
theorem RepO.obj {K : PySem.W.Frag} {mg : Mg} {Hs H : Hp} (S : Same Hs H) {v : V} {C : Str} {fs : List (Str × D)} (r : RepO K mg Hs H v (.obj C fs)) :
    ∃ (a Ca dx : Addr) (ks : List Str) (vs : List V) (ds : List D), v = .ref a ∧ fs = ks.zip ds ∧ H a = some (.ins Ca dx (ks.zip vs)) ∧ ks.length = vs.length ∧ mg C = some (.ref Ca) ∧ Reps K mg Hs vs ds := by
  rcases r with r | ⟨_, _, _, _, h2, _⟩ | ⟨_, _, _, _, _, h2, _⟩ | ⟨_, _, _, _, _, h2, _⟩
  · cases r with
    | obj h l c r => exact ⟨_, _, _, _, _, _, rfl, rfl, S _ _ h, l, c, r⟩
  all_goals cases h2
theorem j_att (o : Ok P w K mg base k T X W) {y : Expr} {x : Str} {pos : Pos} {wa : WA} (ha : JA X W y wa) (hb : attributeBase y x X.env (eval y X.env) = eval y X.env) : JE X W (.Attribute y x pos) (wAtt T wa x) := fun Z =>
  peI (pe_fld (ha Z) hb) fun σ H Q ⟨Hs, ρ, S, g⟩ => ⟨Hs, ρ, S, Go.seq (rel := rE X.K X.mg) (rel' := rA X.K X.mg) (w1 := wa) (w2 := fun l Qd R ρ1 => ∃ C fs d, l.peek ρ1 = some (.obj C fs) ∧ (C, x) ∈ T.ats ∧ fs.lookup x = some d ∧ Qd d ρ1) g fun v l ρ1 Hs1 H1 S1 _ r g1 => by
    obtain ⟨C, g1⟩ := g1.ex
    obtain ⟨fs, g1⟩ := g1.ex
    obtain ⟨d, g1⟩ := g1.ex
    obtain ⟨e1, g1⟩ := g1.and
    obtain ⟨e2, g1⟩ := g1.and
    obtain ⟨e3, g7⟩ := g1.and
    obtain ⟨a, Ca, dx, ks, vs, ds, rfl, rfl, h3, h4, h5, h6⟩ := RepO.obj S1.sub (LR.peek r S1 e1)
    obtain ⟨Cb, c1, c2, c3⟩ := o.fine.ca C x e2
    have em : X.mg = mg := o.inn.mg
    rw [em, c1] at h5
    have ec : Cb = Ca := by cases h5; rfl
    subst ec
    obtain ⟨u, l1, l2⟩ := zip_lookup h4 h6 e3
    rw [← o.inn.K] at c2 c3
    exact ⟨a, Cb, dx, _, u, rfl, h3, c2, c3, l1, Go.fin (rel := rE X.K X.mg) g7 S1 l2⟩⟩
/-- a name of the module -/
theorem j_g (o : Ok P w K mg base k T X W) {x : Str} {pos : Pos} (hg : glb X.env.scope x = true) (hd : (x == ("__debug__" : Str)) = false) : JE X W (.Name x pos) (fun Q _ ρ => ∃ d, T.G x = some d ∧ Q d ρ) := fun Z =>
  ⟨fun pins s σ H Q I ⟨Hs, ρ, S, g⟩ => by
    obtain ⟨d, g⟩ := g.ex
    obtain ⟨h1, g⟩ := g.and
    obtain ⟨u, v, m1, m2, m3⟩ := o.fine.gl x d h1
    have em : X.mg x = some u := by rw [o.inn.mg]; exact m1
    refine (pe_glob (pos := pos) (gl_of hg) em m2 hd).run pins s σ H Q I (g.fin S ?_)
    rw [← o.inn.K, ← o.inn.mg] at m3
    exact Rep.mono (fun _ _ e => by cases e) m3⟩
end
end EV
set_option Elab.async false
set_option linter.all false
set_option maxRecDepth 100000
set_option maxHeartbeats 4000000
/-! EV8: calls, instance checks. -/
namespace EV
open PySem PySem.Spec PyProof.Rows L2

/-! ### slots lent to a callee -/
theorem lend_R {K : PySem.W.Frag} {mg : Mg} {Hs H : Hp} {v : Option V} {s : Slot} (h : SlotR K mg Hs H v s) : SlotR K mg Hs H v s.lend := by cases s <;> exact h
theorem lend_owned (s : Slot) : s.lend.owned = s.owned := by cases s <;> rfl
theorem lend_lent (s : Slot) : s.lend.owned = s.lend.lent := by cases s <;> rfl
theorem unlend_R {K : PySem.W.Frag} {mg : Mg} {Hs H : Hp} {v : Option V} {t : Slot} (h : SlotR K mg Hs H v t) : SlotR K mg Hs H v t.unlend := by
  cases t <;> first | exact h | trivial
theorem back_R {K : PySem.W.Frag} {mg : Mg} {Hs H : Hp} {v : Option V} {s t : Slot} (so : s.owned = true) (h : SlotR K mg Hs H v t) : SlotR K mg Hs H v (s.back t) := by
  cases s <;> first | exact unlend_R h | exact h | cases so
theorem back_not {s t : Slot} (so : s.owned = false) : s.back t = s := by cases s <;> first | rfl | cases so
theorem back_owned {s t : Slot} (h : (s.back t).owned = true) : s.owned = true := by
  cases s with
  | un => cases h
  | fz d => cases h
  | tb P q => cases h
  | _ => rfl
theorem back_lent {s t : Slot} (h : s.lent = true) (ht : t.lent = true) : (s.back t).lent = true := by cases s <;> first | exact ht | cases h
theorem lent_owned {s : Slot} (h : s.lent = true) : s.owned = true := by cases s <;> first | rfl | cases h
theorem back_tb {s t : Slot} {P : Addr} {q : Str} (so : s.owned = true) (ht : t.lent = true) : s.back t ≠ .tb P q := by
  intro z
  cases s <;> simp [Slot.owned] at so <;> cases t <;> simp [Slot.lent] at ht <;> simp [Slot.back, Slot.unlend] at z
theorem mem_lent {ls : List LD} {p : Nat} : p ∈ lentIx ls ↔ ∃ i : Nat, ls[i]? = some (Sum.inr p) := by
  induction ls with
  | nil => simp [lentIx]
  | cons l r ih =>
    cases l with
    | inl d =>
      rw [lentIx, ih]
      constructor
      · rintro ⟨i, h⟩; exact ⟨i + 1, by simpa using h⟩
      · rintro ⟨i, h⟩
        cases i with
        | zero => simp at h
        | succ i => exact ⟨i, by simpa using h⟩
    | inr q =>
      rw [lentIx, List.mem_cons, ih]
      constructor
      · rintro (rfl | ⟨i, h⟩)
        · exact ⟨0, rfl⟩
        · exact ⟨i + 1, by simpa using h⟩
      · rintro ⟨i, h⟩
        cases i with
        | zero => simp at h; exact .inl h.symm
        | succ i => exact .inr ⟨i, by simpa using h⟩
theorem lent_one {ls : List LD} (nd : (lentIx ls).Nodup) {i j p : Nat} (hi : ls[i]? = some (Sum.inr p)) (hj : ls[j]? = some (Sum.inr p)) : i = j := by
  induction ls generalizing i j with
  | nil => simp at hi
  | cons l r ih =>
    cases l with
    | inl d =>
      cases i with
      | zero => simp at hi
      | succ i =>
        cases j with
        | zero => simp at hj
        | succ j => exact congrArg Nat.succ (ih nd (by simpa using hi) (by simpa using hj))
    | inr q =>
      have nd' : q ∉ lentIx r ∧ (lentIx r).Nodup := List.nodup_cons.mp nd
      cases i with
      | zero =>
        have e : q = p := by simpa using hi
        cases j with
        | zero => rfl
        | succ j => exact absurd (mem_lent.mpr ⟨j, by simpa using hj⟩) (e ▸ nd'.1)
      | succ i =>
        cases j with
        | zero =>
          have e : q = p := by simpa using hj
          exact absurd (mem_lent.mpr ⟨i, by simpa using hi⟩) (e ▸ nd'.1)
        | succ j => exact congrArg Nat.succ (ih nd'.2 (by simpa using hi) (by simpa using hj))
/-- what backs leaves at a slot -/
theorem backs_at : ∀ {ls : List LD} {ss : List Slot} {ρ : En} (p : Nat), (lentIx ls).Nodup → ss.length = ls.length →
    ((∃ i : Nat, ls[i]? = some (Sum.inr p) ∧ (backs ls ss ρ).at p = (ρ.at p).back (ss.getD i .un)) ∨ ((∀ i : Nat, ls[i]? ≠ some (Sum.inr p)) ∧ (backs ls ss ρ).at p = ρ.at p)) ∧ (backs ls ss ρ).length = ρ.length
  | [], [], ρ, p, _, _ => ⟨.inr ⟨fun i => by simp, rfl⟩, rfl⟩
  | .inl d :: r, s :: ss, ρ, p, nd, hl => by
    obtain ⟨h, l⟩ := backs_at (ls := r) (ss := ss) (ρ := ρ) p nd (by simpa using hl)
    refine ⟨?_, l⟩
    rcases h with ⟨i, h1, h2⟩ | ⟨h1, h2⟩
    · exact .inl ⟨i + 1, by simpa using h1, h2⟩
    · refine .inr ⟨fun i => ?_, h2⟩
      cases i with
      | zero => simp
      | succ i => simpa using h1 i
  | .inr q :: r, s :: ss, ρ, p, nd, hl => by
    have nd' : q ∉ lentIx r ∧ (lentIx r).Nodup := List.nodup_cons.mp nd
    obtain ⟨h, l⟩ := backs_at (ls := r) (ss := ss) (ρ := ρ.set q ((ρ.at q).back s)) p nd'.2 (by simpa using hl)
    refine ⟨?_, by rw [show backs (.inr q :: r) (s :: ss) ρ = backs r ss (ρ.set q ((ρ.at q).back s)) from rfl, l]; simp⟩
    rw [show backs (.inr q :: r) (s :: ss) ρ = backs r ss (ρ.set q ((ρ.at q).back s)) from rfl]
    rcases h with ⟨i, h1, h2⟩ | ⟨h1, h2⟩
    · have ne : p ≠ q := fun e => nd'.1 (mem_lent.mpr ⟨i, e ▸ h1⟩)
      rw [at_set, if_neg (fun z => ne z.1)] at h2
      exact .inl ⟨i + 1, by simpa using h1, h2⟩
    · by_cases e : p = q
      · subst e
        refine .inl ⟨0, rfl, ?_⟩
        rw [h2, at_set]
        by_cases c : p < ρ.length
        · rw [if_pos ⟨rfl, c⟩]; rfl
        · rw [if_neg (fun z => c z.2)]
          have : ρ.at p = .un := by
            unfold En.at
            rw [List.getD_eq_getElem?_getD, List.getElem?_eq_none (by simpa using c)]; rfl
          rw [this]; rfl
      · rw [at_set, if_neg (fun z => e z.1)] at h2
        refine .inr ⟨fun i => ?_, h2⟩
        cases i with
        | zero => simp; exact fun z => e z.symm
        | succ i => simpa using h1 i
  | [], _ :: _, _, _, _, hl => by simp at hl
  | _ :: _, [], _, _, _, hl => by simp at hl

theorem paired_get {α β : Type} {F : α → β → Prop} : ∀ {xs : List α} {ys : List β} {i : Nat} {x : α}, Paired F xs ys → xs[i]? = some x → ∃ y, ys[i]? = some y ∧ F x y
  | _, _, _, _, .nil, e => by simp at e
  | _, _, 0, _, .cons r _, e => by simp at e; subst e; exact ⟨_, rfl, r⟩
  | _, _, i + 1, x, .cons _ t, e => by
    obtain ⟨u, h1, h2⟩ := paired_get (i := i) (x := x) t (by simpa using e)
    exact ⟨u, by simpa using h1, h2⟩

section
variable {K : PySem.W.Frag} {mg : Mg} {Z : Zn} {Hs H Hs' H' : Hp} {σ : L2.St} {ρ : En} {vs : List V} {ls : List LD} {ss : List Slot}
theorem slots_R (S : SR K mg Z Hs H σ ρ) (r : Paired (LR K mg Hs σ) vs ls) (i : Nat) (hi : i < vs.length) : SlotR K mg Hs H vs[i]? ((ls.map (LD.slot ρ)).getD i .un) := by
  obtain ⟨l, h1, h2⟩ := paired_get (i := i) (x := vs[i]) r (by simp [hi])
  rw [List.getD_eq_getElem?_getD, List.getElem?_map, h1]
  cases l with
  | inl d => exact ⟨vs[i], by simp [hi], h2⟩
  | inr p =>
    have sl := lend_R (S.sl p)
    rw [show σ.getD p none = some vs[i] from h2] at sl
    rw [List.getElem?_eq_getElem hi]
    exact sl
theorem slot_owned {i : Nat} (h : ((ls.map (LD.slot ρ)).getD i .un).owned = true) : ∃ p, ls[i]? = some (Sum.inr p) ∧ (ρ.at p).owned = true := by
  rw [List.getD_eq_getElem?_getD, List.getElem?_map] at h
  cases e : ls[i]? with
  | none => rw [e] at h; cases h
  | some l =>
    rw [e] at h
    cases l with
    | inl d => cases h
    | inr p => exact ⟨p, rfl, by rw [← lend_owned]; exact h⟩
theorem owns_of (r : Paired (LR K mg Hs σ) vs ls) {i p : Nat} {a : Addr} (hi : ls[i]? = some (Sum.inr p)) (hv : vs[i]? = some (.ref a)) (ho : (ρ.at p).owned = true) : Owns σ ρ p a := by
  obtain ⟨l, h1, h2⟩ := paired_get r hv
  rw [hi] at h1
  cases h1
  exact ⟨h2, ho⟩
/-- behind a call -/
theorem SR.after (S : SR K mg Z Hs H σ ρ) (r : Paired (LR K mg Hs σ) vs ls) (nd : (lentIx ls).Nodup) (e1 : Same Hs Hs') (e2 : Same Hs' H')
    (keep : ∀ a o, H a = some o → (∀ i, vs[i]? = some (.ref a) → ((ls.map (LD.slot ρ)).getD i .un).owned = false) → H' a = some o) (dom : ∀ a, H a ≠ none → H' a ≠ none)
    (new : ∀ a, Hs' a ≠ none → Hs a ≠ none ∨ H a = none) (hl : ss.length = ls.length)
    (sl : ∀ i, i < vs.length → ((ls.map (LD.slot ρ)).getD i .un).owned = true → (ss.getD i .un).lent = true ∧ SlotR K mg Hs' H' vs[i]? (ss.getD i .un)) : SR K mg Z Hs' H' σ (backs ls ss ρ) := by
  have bl : (backs ls ss ρ).length = ρ.length := (backs_at (ρ := ρ) 0 nd hl).2
  have lenV : vs.length = ls.length := Paired.length r
  have slotAt : ∀ {i p : Nat}, ls[i]? = some (Sum.inr p) → (ls.map (LD.slot ρ)).getD i .un = (ρ.at p).lend := fun {i p} h => by
    rw [List.getD_eq_getElem?_getD, List.getElem?_map, h]; rfl
  have notLent : ∀ {a : Addr}, (∀ p i, ls[i]? = some (Sum.inr p) → ¬ Owns σ ρ p a) → ∀ i, vs[i]? = some (.ref a) → ((ls.map (LD.slot ρ)).getD i .un).owned = false := fun {a} h i hv => by
    cases q : ((ls.map (LD.slot ρ)).getD i .un).owned with
    | false => rfl
    | true =>
      obtain ⟨p, h1, h2⟩ := slot_owned q
      exact absurd (owns_of r h1 hv h2) (h p i h1)
  have ownBack : ∀ p a, Owns σ (backs ls ss ρ) p a → Owns σ ρ p a := fun p a ⟨h1, h2⟩ => by
    rcases (backs_at (ρ := ρ) p nd hl).1 with ⟨i, _, q⟩ | ⟨_, q⟩
    · rw [q] at h2; exact ⟨h1, back_owned h2⟩
    · rw [q] at h2; exact ⟨h1, h2⟩
  have kx : KX Hs H Hs' H' := fun b ps hb => ⟨keep b _ hb (notLent fun p i _ ow => by
    obtain ⟨u, hu, nx⟩ := (S.sl p).notX ow.2 b ow.1
    rw [hb] at hu
    rw [← Option.some.inj hu] at nx; cases nx), fun h => by
    cases e : Hs' b with
    | none => rfl
    | some u =>
      rcases new b (by rw [e]; simp) with z | z
      · exact absurd h z
      · rw [hb] at z; cases z⟩
  refine ⟨e2, S.s0.trans e1, fun a o h n => ?_, fun a h => dom a (S.dom a h), fun a h => ?_, by rw [bl]; exact S.len, fun p => ?_, fun i j a h1 h2 => S.sep i j a (ownBack i a h1) (ownBack j a h2), fun i a h => S.own i a (ownBack i a h), fun q hq => ?_, fun p P q e => ?_⟩
  · refine keep a o (S.h0 a o h n) (notLent fun p i _ ow => ?_)
    rcases S.own p a ow with z | z
    · rw [h] at z; cases z
    · exact n z
  · rcases new a h with z | z
    · exact S.new a z
    · cases q : Z.H a with
      | none => exact .inr rfl
      | some u => exact absurd z (S.dom a (by rw [q]; simp))
  · rcases (backs_at (ρ := ρ) p nd hl).1 with ⟨i, h1, q⟩ | ⟨h1, q⟩
    · rw [q]
      cases so : (ρ.at p).owned with
      | false =>
        rw [back_not so]
        exact (S.sl p).keep e1 kx fun a _ z => by rw [so] at z; cases z
      | true =>
        have hi : i < vs.length := by rw [lenV]; exact (List.getElem?_eq_some_iff.mp h1).1
        obtain ⟨_, q2⟩ := sl i hi (by rw [slotAt h1, lend_owned]; exact so)
        obtain ⟨l, l1, l2⟩ := paired_get (i := i) (x := vs[i]) r (by simp [hi])
        rw [h1] at l1
        cases l1
        rw [List.getElem?_eq_getElem hi] at q2
        rw [show σ.getD p none = some vs[i] from l2]
        exact back_R so q2
    · rw [q]
      refine (S.sl p).keep e1 kx fun a h2 h3 => ?_
      obtain ⟨n1, n2⟩ := S.ownAt ⟨h2, h3⟩
      constructor
      · cases hh : H a with
        | none => exact absurd hh n2
        | some o => exact keep a o hh (notLent fun p' i hi ow => h1 i (by rw [hi, S.sep _ _ _ ow ⟨h2, h3⟩]))
      · cases hh : Hs' a with
        | none => rfl
        | some o =>
          rcases new a (by rw [hh]; simp) with z | z
          · exact absurd n1 z
          · exact absurd z n2
  · obtain ⟨h1, h2⟩ := S.pin q hq
    refine ⟨h1, ?_⟩
    rcases (backs_at (ρ := ρ) q.1 nd hl).1 with ⟨i, h3, z⟩ | ⟨_, z⟩
    · rw [z]
      have hi : i < vs.length := by rw [lenV]; exact (List.getElem?_eq_some_iff.mp h3).1
      exact back_lent h2 (sl i hi (by rw [slotAt h3, lend_owned]; exact lent_owned h2)).1
    · rw [z]; exact h2
  · rcases (backs_at (ρ := ρ) p nd hl).1 with ⟨i, h1, z⟩ | ⟨_, z⟩
    · rw [z] at e
      cases so : (ρ.at p).owned with
      | false => rw [back_not so] at e; exact S.tz p P q e
      | true =>
        have hi : i < vs.length := by rw [lenV]; exact (List.getElem?_eq_some_iff.mp h1).1
        have lt := (sl i hi (by rw [slotAt h1, lend_owned]; exact so)).1
        exact absurd e (back_tb so lt)
    · rw [z] at e; exact S.tz p P q e
end

section
variable {P : Program} {w : World} {K : PySem.W.Frag} {mg : Mg} {base : Heap} {k : Nat} {T : Tb} {X : Cx} {W : WX} {e : Expr}
theorem jb_nil : JB X W [] (fun Q _ ρ => Q [] ρ) := fun Z => paI pa_nil fun σ H Q ⟨Hs, ρ, S, g⟩ => g.fin S (.nil : Paired _ _ _)
theorem jb_cons {y : Expr} {ys : List Expr} {w1 : WA} {ws : WB} (hy : noStar y = true) (h : JA X W y w1) (t : JB X W ys ws) : JB X W (y :: ys) (fun Q R ρ => w1 (fun d ρ1 => ws (fun ds ρ2 => Q (d :: ds) ρ2) R ρ1) R ρ) := fun Z =>
  paI (pa_cons (h Z) (t Z) (star_no hy)) fun σ H Q ⟨Hs, ρ, S, g⟩ =>
    ⟨Hs, ρ, S, Go.seq (rel := rB X.K X.mg) (rel' := rA X.K X.mg) (w1 := w1) (w2 := fun d Qd R ρ1 => ws (fun ds ρ2 => Qd (d :: ds) ρ2) R ρ1) g fun v d ρ1 Hs1 H1 S1 _ r g1 =>
      ⟨Hs1, ρ1, S1, Go.seq (rel := rB X.K X.mg) (rel' := rB X.K X.mg) (w1 := ws) (w2 := fun ds Qd R ρ2 => Qd (d :: ds) ρ2) g1 fun vs ds ρ2 Hs2 H2 S2 e2 r2 g2 => g2.fin S2 (.cons (LR.mono e2 r) r2 : Paired _ _ _)⟩⟩
theorem plain_args {xs : List Expr} {env : Env} {pos : Pos} (h : xs.all noStar = true) : (backTo pos (starEach xs env)).any (·.1) = false := by
  induction xs with
  | nil => rfl
  | cons x xs ih =>
    simp only [List.all_cons, Bool.and_eq_true] at h
    rw [star_no h.1]
    exact ih h.2
/-- the call itself, its arguments being there -/
theorem run_call (o : Ok P w K mg base k T X W) {f : Str} {F : FS} {u : Value} (cal : Cal P w K mg base k u (spF K mg F)) {pins : List (Addr × Obj)} {s1 : Shared} {σ : L2.St} {H1 Hs1 : Hp} {vs : List V} {us : List Value} {ls : List LD} {ρ1 : En} {Z : Zn} {Q : VK}
    (I1 : Inv X pins σ H1 s1) (rv : Vals vs us) (S1 : SR X.K X.mg Z Hs1 H1 σ ρ1) (r : Paired (LR X.K X.mg Hs1 σ) vs ls)
    (g1 : Go X.K X.mg (rE X.K X.mg) Z W σ Hs1 (fun Qd R => (lentIx ls).Nodup ∧ F (ls.map (LD.slot ρ1)) (fun d ss => Qd d (backs ls ss ρ1)) (fun c ss => R c (backs ls ss ρ1))) Q) :
    wpAny (model X.prog X.w) X.A (call u us) (EP X pins σ Q) X.xe s1 := by
  obtain ⟨nd, g1⟩ := g1.and
  obtain ⟨Qd, R, h1, h2, h3⟩ := g1
  have lenV : vs.length = ls.length := Paired.length r
  refine cal X o.inn W o.tk pins s1 σ H1 vs us Q (fun cls a H' => W cls a σ H') I1 rv ?_ fun _ _ _ z => z
  rw [← o.inn.K, ← o.inn.mg]
  refine ⟨Hs1, ls.map (LD.slot ρ1), _, _, S1.sub, by rw [List.length_map]; exact lenV, fun i hi => slots_R S1 r i hi, fun i hi => ?_, fun i j a hi hj oi oj => ?_, h1, ?_, ?_⟩
  · obtain ⟨l, l1, l2⟩ := paired_get (i := i) (x := vs[i]) r (by simp [hi])
    rw [List.getD_eq_getElem?_getD, List.getElem?_map, l1]
    cases l with
    | inl d => rfl
    | inr q => exact lend_lent _
  · obtain ⟨a1, a2, a3⟩ := slot_owned oi
    obtain ⟨b1, b2, b3⟩ := slot_owned oj
    have e := S1.sep _ _ _ (owns_of r a2 hi a3) (owns_of r b2 hj b3)
    subst e
    exact lent_one nd a2 b2
  · intro d ss' Hs' H' v q e1 e2 kp dm nw hl sl rr
    exact h2 d _ Hs' H' v q (S1.after r nd e1 e2 kp dm nw (by rw [hl, List.length_map]) sl) e1 rr
  · intro c ss' Hs' H' cls b q e1 e2 kp dm nw hl sl rr
    exact h3 c _ Hs' H' cls b q (S1.after r nd e1 e2 kp dm nw (by rw [hl, List.length_map]) sl) e1 rr
theorem j_call (o : Ok P w K mg base k T X W) {f : Str} {x : Expr} {xs : List Expr} {p pos : Pos} {wb : WB} (hx : noStar x = true) (hs : xs.all noStar = true) (hg : glb X.env.scope f = true) (hd : (f == ("__debug__" : Str)) = false) (hb : JB X W (x :: xs) wb) :
    JE X W (.Call (.Name f p) (x :: xs) [] pos) (wCall T f wb) := fun Z => ⟨fun pins s σ H Q I ⟨Hs, ρ, S, g⟩ => by
  obtain ⟨F, g⟩ := g.ex
  obtain ⟨hF, g⟩ := g.and
  obtain ⟨u, m1, m2, cal⟩ := o.fine.fn f F hF
  have em : X.mg f = some u := by rw [o.inn.mg]; exact m1
  have ek : PySem.W.keepIn X.K u = true := by rw [o.inn.K]; exact m2
  have hq : tB X.K X.mg Z W wb σ H (fun vs H1 => ∃ ls ρ1 Hs1, SR X.K X.mg Z Hs1 H1 σ ρ1 ∧ Paired (LR X.K X.mg Hs1 σ) vs ls ∧ Go X.K X.mg (rE X.K X.mg) Z W σ Hs1 (fun Qd R => (lentIx ls).Nodup ∧
      F (ls.map (LD.slot ρ1)) (fun d ss => Qd d (backs ls ss ρ1)) (fun c ss => R c (backs ls ss ρ1))) Q) :=
    ⟨Hs, ρ, S, Go.seq (rel := rE X.K X.mg) (rel' := rB X.K X.mg) (w1 := wb) (w2 := fun ls Qd R ρ1 => (lentIx ls).Nodup ∧ F (ls.map (LD.slot ρ1)) (fun d ss => Qd d (backs ls ss ρ1)) (fun c ss => R c (backs ls ss ρ1))) g
      fun vs ls ρ1 Hs1 H1 S1 _ r g1 => ⟨ls, ρ1, Hs1, S1, r, g1⟩⟩
  refine wpAny_Call_Name_kw (ld_glob I (gl_of hg) em ?_ hd)
  exact PySem.W.callWith_K (h₀ := X.base) I.ok.mod.kin ek (thn ((hb Z).run pos pins s σ H _ I hq) fun us s1 ⟨vs, H1, I1, r, ls, ρ1, Hs1, S1, r1, g1⟩ => ⟨I1.kIn, run_call (f := f) o cal I1 r S1 r1 g1⟩) (star_no hx) (plain_args hs)⟩
theorem j_call0 (o : Ok P w K mg base k T X W) {f : Str} {p pos : Pos} (hg : glb X.env.scope f = true) (hd : (f == ("__debug__" : Str)) = false) :
    JE X W (.Call (.Name f p) [] [] pos) (wCall T f (fun Q _ ρ => Q [] ρ)) := fun Z => ⟨fun pins s σ H Q I ⟨Hs, ρ, S, g⟩ => by
  obtain ⟨F, g⟩ := g.ex
  obtain ⟨hF, g⟩ := g.and
  obtain ⟨u, m1, m2, cal⟩ := o.fine.fn f F hF
  have em : X.mg f = some u := by rw [o.inn.mg]; exact m1
  have ek : PySem.W.keepIn X.K u = true := by rw [o.inn.K]; exact m2
  refine wpAny_Call_Name_kw (ld_glob I (gl_of hg) em ?_ hd)
  exact PySem.W.callWith_K0 I.kIn ek (run_call (f := f) (us := []) (vs := []) (ls := []) o cal I .nil S .nil g)⟩
/-- the call itself, its arguments being there -/
theorem run_callF (o : Ok P w K mg base k T X W) {f : Str} {F : FS} {u : Value} (cal : Cal P w K mg base k u (spFr K mg F)) {pins : List (Addr × Obj)} {s1 : Shared} {σ : L2.St} {H1 Hs1 : Hp} {vs : List V} {us : List Value} {ls : List LD} {ρ1 : En} {Z : Zn} {m : Bool} {Q : VK}
    (I1 : Inv X pins σ H1 s1) (rv : Vals vs us) (S1 : SR X.K X.mg Z Hs1 H1 σ ρ1) (r : Paired (LR X.K X.mg Hs1 σ) vs ls)
    (g1 : Go X.K X.mg (rF X.K X.mg m Z) Z W σ Hs1 (fun Qd R => (lentIx ls).Nodup ∧ F (ls.map (LD.slot ρ1)) (fun d ss => Qd d (backs ls ss ρ1)) (fun c ss => R c (backs ls ss ρ1))) Q) :
    wpAny (model X.prog X.w) X.A (call u us) (EP X pins σ Q) X.xe s1 := by
  obtain ⟨nd, g1⟩ := g1.and
  obtain ⟨Qd, R, h1, h2, h3⟩ := g1
  have lenV : vs.length = ls.length := Paired.length r
  refine cal X o.inn W o.tk pins s1 σ H1 vs us Q (fun cls a H' => W cls a σ H') I1 rv ?_ fun _ _ _ z => z
  rw [← o.inn.K, ← o.inn.mg]
  refine ⟨Hs1, ls.map (LD.slot ρ1), _, _, S1.sub, by rw [List.length_map]; exact lenV, fun i hi => slots_R S1 r i hi, fun i hi => ?_, fun i j a hi hj oi oj => ?_, h1, ?_, ?_⟩
  · obtain ⟨l, l1, l2⟩ := paired_get (i := i) (x := vs[i]) r (by simp [hi])
    rw [List.getD_eq_getElem?_getD, List.getElem?_map, l1]
    cases l with
    | inl d => rfl
    | inr q => exact lend_lent _
  · obtain ⟨a1, a2, a3⟩ := slot_owned oi
    obtain ⟨b1, b2, b3⟩ := slot_owned oj
    have e := S1.sep _ _ _ (owns_of r a2 hi a3) (owns_of r b2 hj b3)
    subst e
    exact lent_one nd a2 b2
  · intro d ss' Hs' H' v q e1 e2 kp dm nw hl sl rr
    have S2 := S1.after r nd e1 e2 kp dm nw (by rw [hl, List.length_map]) sl
    obtain ⟨a, rfl, n1, n2, ob⟩ := rr
    refine h2 d _ Hs' H' (.ref a) q S2 e1 ⟨.inr ⟨a, rfl, n1, ?_, fun i ow => ?_, ob⟩, fun _ i => notRep n1 i⟩
    · cases z : Z.H a with
      | none => rfl
      | some u => exact absurd n2 (S1.dom a (by rw [z]; simp))
    · obtain ⟨p1, p2⟩ := ow
      have ow1 : (ρ1.at i).owned = true := by
        rcases (backs_at (ρ := ρ1) i nd (by rw [hl, List.length_map])).1 with ⟨j, _, z⟩ | ⟨_, z⟩
        · rw [z] at p2; exact back_owned p2
        · rw [z] at p2; exact p2
      exact (S1.ownAt ⟨p1, ow1⟩).2 n2
  · intro c ss' Hs' H' cls b q e1 e2 kp dm nw hl sl rr
    exact h3 c _ Hs' H' cls b q (S1.after r nd e1 e2 kp dm nw (by rw [hl, List.length_map]) sl) e1 rr
theorem j_callF {m : Bool} (o : Ok P w K mg base k T X W) {f : Str} {x : Expr} {xs : List Expr} {p pos : Pos} {wb : WB} (hx : noStar x = true) (hs : xs.all noStar = true) (hg : glb X.env.scope f = true) (hd : (f == ("__debug__" : Str)) = false) (hb : JB X W (x :: xs) wb) :
    JX m X W (.Call (.Name f p) (x :: xs) [] pos) (wCallF T f wb) := fun Z => ⟨fun pins s σ H Q I ⟨Hs, ρ, S, g⟩ => by
  obtain ⟨F, g⟩ := g.ex
  obtain ⟨hF, g⟩ := g.and
  obtain ⟨u, m1, m2, cal⟩ := o.fine.ff f F hF
  have em : X.mg f = some u := by rw [o.inn.mg]; exact m1
  have ek : PySem.W.keepIn X.K u = true := by rw [o.inn.K]; exact m2
  have hq : tB X.K X.mg Z W wb σ H (fun vs H1 => ∃ ls ρ1 Hs1, SR X.K X.mg Z Hs1 H1 σ ρ1 ∧ Paired (LR X.K X.mg Hs1 σ) vs ls ∧ Go X.K X.mg (rF X.K X.mg m Z) Z W σ Hs1 (fun Qd R => (lentIx ls).Nodup ∧
      F (ls.map (LD.slot ρ1)) (fun d ss => Qd d (backs ls ss ρ1)) (fun c ss => R c (backs ls ss ρ1))) Q) :=
    ⟨Hs, ρ, S, Go.seq (rel := rF X.K X.mg m Z) (rel' := rB X.K X.mg) (w1 := wb) (w2 := fun ls Qd R ρ1 => (lentIx ls).Nodup ∧ F (ls.map (LD.slot ρ1)) (fun d ss => Qd d (backs ls ss ρ1)) (fun c ss => R c (backs ls ss ρ1))) g
      fun vs ls ρ1 Hs1 H1 S1 _ r g1 => ⟨ls, ρ1, Hs1, S1, r, g1⟩⟩
  refine wpAny_Call_Name_kw (ld_glob I (gl_of hg) em ?_ hd)
  exact PySem.W.callWith_K (h₀ := X.base) I.ok.mod.kin ek (thn ((hb Z).run pos pins s σ H _ I hq) fun us s1 ⟨vs, H1, I1, r, ls, ρ1, Hs1, S1, r1, g1⟩ => ⟨I1.kIn, run_callF (f := f) o cal I1 r S1 r1 g1⟩) (star_no hx) (plain_args hs)⟩
end
end EV
set_option Elab.async false
set_option linter.all false
set_option maxRecDepth 100000
set_option maxHeartbeats 4000000
/-! EV9: instance checks, targets. -/
namespace EV
open PySem PySem.Spec PyProof.Rows L2

section
variable {P : Program} {w : World} {K : PySem.W.Frag} {mg : Mg} {base : Heap} {k : Nat} {T : Tb} {X : Cx} {W : WX} {e : Expr}

/-- what a type's name stands for -/
def TyV (mg : Mg) : Ty → Value → Prop
  | .b n, u => u = .type n ∧ n ∈ tyNames
  | .c C, u => mg C = some u
theorem tyB_of {Hs H : Hp} {v : V} {d : D} {n : String} (S : Same Hs H) (r : RepO K mg Hs H v d) (h : tyB d = some n) : TyX K H v (.type n) ∧ n ∈ "NoneType" :: tyNames := by
  cases d <;> simp only [tyB, reduceCtorEq, Option.some.injEq] at h <;> subst h
  · rw [r.non]; exact ⟨.base .non, by decide⟩
  · rw [r.bl]; exact ⟨.base (.bl _), by decide⟩
  · rw [r.int]; exact ⟨.base (.int _), by decide⟩
  · rw [r.str]; exact ⟨.base (.str _), by decide⟩
  · obtain ⟨a, vs, rfl, h1, _⟩ := r.tup S
    exact ⟨.base (.tup h1), by decide⟩
  · obtain ⟨a, vs, rfl, h1, _⟩ := r.lst S
    exact ⟨.base (.lst h1), by decide⟩
  · refine ⟨?_, by decide⟩
    rcases r with r | ⟨_, _, _, _, h2, _⟩ | ⟨_, _, _, _, _, h2, _⟩ | ⟨_, _, _, _, _, h2, _⟩
    · cases r with
      | gt h _ =>
        rcases h with (h | ⟨_, h⟩) | ⟨o, its, m, h, c, _⟩
        · cases h
        · cases h
        · exact .kTuple h c
    all_goals cases h2
  · obtain ⟨a, ks, vs, ds, rfl, _, h1, _⟩ := r.dK S
    exact ⟨.base (.dK h1), by decide⟩
  · obtain ⟨a, ks, vs, ds, rfl, _, h1, _⟩ := r.dT S
    exact ⟨.base (.dT h1), by decide⟩
/-- the type of a value, and what the instance check says of it -/
theorem isTy_of (f : Fine P w K mg base k T) {Hs H : Hp} {v : V} {d : D} (S : Same Hs H) (r : RepO K mg Hs H v d) :
    (∃ t b, isTy T.cls d t = some b) → ∃ tv, TyX K H v tv ∧ ∀ t b, isTy T.cls d t = some b → ∀ u, TyV mg t u → PySem.W.kitOne K tv u = some b := by
  rintro ⟨t0, b0, h0⟩
  cases q : tyB d with
  | some n =>
    obtain ⟨h1, h2⟩ := tyB_of S r q
    refine ⟨.type n, h1, fun t b h u hu => ?_⟩
    cases t with
    | b m =>
      obtain ⟨rfl, hm⟩ := hu
      have h' : kitB n m = some b := by
        cases d <;> simp only [tyB, reduceCtorEq, Option.some.injEq] at q <;> (subst q; exact h)
      exact kit_ty h'
    | c C =>
      have h' : C ∈ T.cls ∧ b = false := by
        cases d <;> simp only [tyB, reduceCtorEq, Option.some.injEq] at q <;>
          (simp only [isTy, tyB, Option.map_some, Option.ite_none_right_eq_some, Option.some.injEq] at h; exact ⟨h.1, h.2.symm⟩)
      obtain ⟨Ca, c1, _, _, c4, _⟩ := f.ty C h'.1
      have : u = .ref Ca := Option.some.inj ((show mg C = some u from hu).symm.trans c1)
      rw [this, h'.2]
      exact c4 n h2
  | none =>
    cases d <;> simp only [tyB, reduceCtorEq] at q
    · rename_i C fs
      have hC : C ∈ T.cls := by
        cases t0 with
        | b n => simp only [isTy, Option.ite_none_right_eq_some] at h0; exact h0.1.1
        | c C' => simp only [isTy, Option.ite_none_right_eq_some] at h0; exact h0.2.1
      obtain ⟨a, Ca, dx, ks, vs, ds, rfl, rfl, h1, _, h3, _⟩ := RepO.obj S r
      obtain ⟨Cb, c1, c2, c3, c4, c5⟩ := f.ty C hC
      have e : Cb = Ca := by rw [c1] at h3; cases h3; rfl
      subst e
      refine ⟨.ref Cb, c2 H a dx _ h1, fun t b h u hu => ?_⟩
      cases t with
      | b n =>
        obtain ⟨rfl, hn⟩ := hu
        simp only [isTy, Option.ite_none_right_eq_some, Option.some.injEq] at h
        rw [← h.2]
        exact c3 n hn
      | c C' =>
        simp only [isTy, Option.ite_none_right_eq_some, Option.some.injEq] at h
        obtain ⟨Cc, d1, _⟩ := f.ty C' h.1
        have : u = .ref Cc := Option.some.inj ((show mg C' = some u from hu).symm.trans d1)
        rw [this, ← h.2.2]
        exact c5 C' h.1 Cc d1
    · cases t0 <;> simp [isTy, tyB] at h0
    · cases t0 <;> simp [isTy, tyB] at h0
    · cases t0 <;> simp [isTy, tyB] at h0
theorem boot_ty {n : String} (h : n ∈ tyNames) : bootBuiltins (Str.ofString n) = some (.type n) := by
  simp only [tyNames, List.mem_cons, List.not_mem_nil, or_false] at h
  rcases h with rfl | rfl | rfl | rfl | rfl | rfl <;> decide +kernel
theorem ty_bname {n : String} (h : n ∈ tyNames) : n ∈ bnames ∧ Str.ofString n ≠ "__name__" ∧ (Str.ofString n == ("__debug__" : Str)) = false := by
  simp only [tyNames, List.mem_cons, List.not_mem_nil, or_false] at h
  rcases h with rfl | rfl | rfl | rfl | rfl | rfl <;> exact ⟨by decide, by decide +kernel, by decide +kernel⟩
theorem pe_ty (o : Ok P w K mg base k T X W) {t : Ty} {c : Expr} (h : okTy X.env.scope t c = true) (hc : ∀ C, t = .c C → C ∈ T.cls) : ∃ v u, PE X c (tC v) ∧ ClsV v u ∧ TyV mg t u ∧ RelV v u := by
  unfold okTy at h
  split at h
  · rename_i x p
    simp only [Bool.and_eq_true, Bool.not_eq_true'] at h
    obtain ⟨⟨h1, h2⟩, h3⟩ := h
    cases t with
    | b n =>
      simp only [Bool.and_eq_true, decide_eq_true_eq] at h3
      obtain ⟨h3, rfl⟩ := h3
      obtain ⟨b1, b2, b3⟩ := ty_bname h3
      exact ⟨.ty n, .type n, pe_bltn (gl_of h1) (o.no n b1) (boot_ty h3) rfl b2 h2, .ty n, ⟨rfl, h3⟩, rfl⟩
    | c C =>
      simp only [decide_eq_true_eq] at h3
      subst h3
      obtain ⟨Ca, c1, _⟩ := o.fine.ty x (hc x rfl)
      exact ⟨.ref Ca, .ref Ca, pe_glob (gl_of h1) (by rw [o.inn.mg]; exact c1) rfl h2, .own Ca, c1, rfl⟩
  · cases h
theorem pa_tys (o : Ok P w K mg base k T X W) : ∀ {ts : List Ty} {cs : List Expr}, okTys X.env.scope ts cs = true → ∃ vs us, PA X cs (fun _ H Q => Q vs H) ∧ Paired ClsV vs us ∧ Paired (TyV mg) ts us ∧ vs.length = ts.length
  | [], [], _ => ⟨[], [], paI pa_nil fun _ _ _ q => q, .nil, .nil, rfl⟩
  | .b n :: ts, c :: cs, h => by
    simp only [okTys, Bool.and_eq_true] at h
    obtain ⟨⟨h1, h2⟩, h3⟩ := h
    obtain ⟨v, u, p1, p2, p3, _⟩ := pe_ty o h1 (fun C e => nomatch e)
    obtain ⟨vs, us, q1, q2, q3, q4⟩ := pa_tys o h3
    exact ⟨v :: vs, u :: us, paI (pa_cons p1 q1 (star_no h2)) fun _ _ _ q => q, .cons p2 q2, .cons p3 q3, by simp [q4]⟩
  | .c _ :: _, _ :: _, h => by simp [okTys] at h
  | [], _ :: _, h => by simp [okTys] at h
  | .b _ :: _, [], h => by simp [okTys] at h
  | .c _ :: _, [], h => by simp [okTys] at h
theorem kitAny_of {cls : List Str} {d : D} {tv : Value} (h : ∀ t b, isTy cls d t = some b → ∀ u, TyV mg t u → PySem.W.kitOne K tv u = some b) : ∀ {ts : List Ty} {us : List Value} {b : Bool}, isTys cls d ts = some b → Paired (TyV mg) ts us → PySem.W.kitAny K tv us = some b
  | _, _, b, e, .nil => by
    simp only [isTys, Option.some.injEq] at e
    subst e
    exact kitAny_nil
  | t :: ts, u :: us, b, e, .cons r rs => by
    unfold isTys at e
    split at e
    · rename_i q
      cases e
      exact kitAny_cons (h t true q u r) (fun z => nomatch z) fun _ => rfl
    · rename_i q
      exact kitAny_cons (h t false q u r) (fun _ => kitAny_of h e rs) fun z => nomatch z
    · cases e
theorem isTys_first {cls : List Str} {d : D} {t : Ty} {ts : List Ty} {b : Bool} (h : isTys cls d (t :: ts) = some b) : ∃ b', isTy cls d t = some b' := by
  unfold isTys at h
  split at h
  · rename_i q; exact ⟨_, q⟩
  · rename_i q; exact ⟨_, q⟩
  · cases h
/-- isinstance(y, T), isinstance(y, (T, U)) -/
theorem j_isi (o : Ok P w K mg base k T X W) {N : List Str} {ts : List Ty} {g : Str} {y c : Expr} {p pos : Pos} {wa : WA} (hg : glb X.env.scope g = true) (eg : g = ("isinstance" : Str)) (h1 : noStar y = true) (h2 : noStar c = true) (ha : JA X W y wa)
    (h : (∃ t, ts = [t] ∧ okTy X.env.scope t c = true ∧ ∀ C, t = .c C → C ∈ T.cls) ∨ ∃ cs kk q, c = .Tuple cs kk q ∧ okTys X.env.scope ts cs = true ∧ ts ≠ [] ∧ ts.length ≤ sizeLine) :
    JE X W (.Call (.Name g p) [y, c] [] pos) (wIsi0 T wa ts) := fun Z => by
  subst eg
  have hm : X.mg ("isinstance" : Str) = none := o.no "isinstance" (by decide)
  have hb : bootBuiltins ("isinstance" : Str) = some (.builtin "isinstance") := by decide +kernel
  have em := o.inn.mg
  rcases h with ⟨t, rfl, hc, hC⟩ | ⟨cs, kk, q, rfl, hc, hne, hz⟩
  · obtain ⟨v, u, p1, p2, p3, p4⟩ := pe_ty o hc hC
    refine peI (pe_callB call_isi (gl_of hg) hm hb (pa_cons (ha Z) (pa_cons p1 pa_nil (star_no h2)) (star_no h1)) (by decide) (by decide) (star_no h1) (by rw [star_no h2]; rfl)) fun σ H Q ⟨Hs, ρ, S, gg⟩ => ?_
    refine ⟨Hs, ρ, S, Go.seq (rel := rE X.K X.mg) (rel' := rA X.K X.mg) (w1 := wa) (w2 := fun l Qd R ρ1 => ∃ d b, l.peek ρ1 = some d ∧ isTys T.cls d [t] = some b ∧ Qd (.bl b) ρ1) gg fun x l ρ1 Hs1 H1 S1 _ r g1 => ?_⟩
    obtain ⟨d, g1⟩ := g1.ex
    obtain ⟨b, g1⟩ := g1.ex
    obtain ⟨e1, g1⟩ := g1.and
    obtain ⟨e2, g1⟩ := g1.and
    have rr := LR.peek r S1 e1
    obtain ⟨b', e3⟩ := isTys_first e2
    have eb : b' = b := by
      unfold isTys at e2
      rw [e3] at e2
      cases b' with
      | true => exact Option.some.inj e2
      | false => exact Option.some.inj e2
    subst eb
    rw [o.inn.K, em] at rr
    obtain ⟨tv, t1, t2⟩ := isTy_of o.fine S1.sub rr ⟨t, b', e3⟩
    rw [o.inn.K]
    exact ⟨x, v, tv, u, b', rfl, p2, t1, t2 t b' e3 u p3, g1.fin S1 (.bl _ : Rep _ _ _ _ _)⟩
  · obtain ⟨vs, us, q1, q2, q3, q4⟩ := pa_tys o hc
    refine peI (pe_callB call_isiT (gl_of hg) hm hb (pa_cons (ha Z) (pa_cons (pe_tup q1) pa_nil (star_no h2)) (star_no h1)) (by decide) (by decide) (star_no h1) (by rw [star_no h2]; rfl)) fun σ H Q ⟨Hs, ρ, S, gg⟩ => ?_
    refine ⟨Hs, ρ, S, Go.seq (rel := rE X.K X.mg) (rel' := rA X.K X.mg) (w1 := wa) (w2 := fun l Qd R ρ1 => ∃ d b, l.peek ρ1 = some d ∧ isTys T.cls d ts = some b ∧ Qd (.bl b) ρ1) gg fun x l ρ1 Hs1 H1 S1 _ r g1 => ?_⟩
    obtain ⟨d, g1⟩ := g1.ex
    obtain ⟨b, g1⟩ := g1.ex
    obtain ⟨e1, g1⟩ := g1.and
    obtain ⟨e2, g9⟩ := g1.and
    have rr := LR.peek r S1 e1
    obtain ⟨t, ts', rfl⟩ : ∃ t ts', ts = t :: ts' := by
      cases ts with
      | nil => exact absurd rfl hne
      | cons t ts' => exact ⟨t, ts', rfl⟩
    refine ⟨by rw [q4]; exact hz, fun pp hp => ?_⟩
    have S2 := S1.laid (o := .tup vs) hp
    have rr2 : RepO X.K X.mg (upd Hs1 pp (.tup vs)) (upd H1 pp (.tup vs)) x d := by
      obtain ⟨f1, _, _⟩ := S1.fresh hp
      have gr : Same Hs1 (upd Hs1 pp (.tup vs)) := fun c u e => by rw [upd_ne (ne_of_none e f1)]; exact e
      exact LR.peek (LR.mono gr r) S2 e1
    rw [o.inn.K, em] at rr2
    obtain ⟨tv, t1, t2⟩ := isTy_of o.fine (by have := S2.sub; exact this) rr2 ⟨t, isTys_first e2⟩
    have gr : Same Hs1 (upd Hs1 pp (.tup vs)) := fun c u e => by rw [upd_ne (ne_of_none e (S1.fresh hp).1)]; exact e
    rw [o.inn.K]
    exact ⟨x, pp, vs, tv, us, b, rfl, upd_same, q2, t1, kitAny_of t2 e2 q3, Go.fin' (rel := rE X.K X.mg) g9 S2 gr (.bl _ : Rep _ _ _ _ _)⟩

/-! ### targets -/
theorem wipe_set {σ : L2.St} {v : Option V} {i : Nat} : ∀ {vs : List Nat}, i ∈ vs → wipe (σ.set i v) vs = wipe σ vs
  | a :: vs, h => by
    show (wipe (σ.set i v) vs).set a none = (wipe σ vs).set a none
    by_cases m : i ∈ vs
    · rw [wipe_set m]
    · have e : i = a := (List.mem_cons.mp h).resolve_right m
      subst e
      have q : ∀ (vs : List Nat) (σ : L2.St), i ∉ vs → wipe (σ.set i v) vs = (wipe σ vs).set i v := by
        intro vs
        induction vs with
        | nil => intro σ _; rfl
        | cons b vs ih =>
          intro σ hb
          show (wipe (σ.set i v) vs).set b none = ((wipe σ vs).set b none).set i v
          have ne : i ≠ b := fun z => hb (by rw [z]; exact List.mem_cons_self)
          rw [ih σ fun z => hb (List.mem_cons_of_mem _ z), List.set_comm _ _ ne]
      rw [q vs σ m, List.set_set]
/-- a target's reading on data -/
def tG (K : PySem.W.Frag) (mg : Mg) (Z : Zn) (vs : List Nat) (t : Tg) : L2.TG := fun v σ H Q => ∃ Hs ρ d Qd, SR K mg Z Hs H σ ρ ∧ Rep K mg Hs v d ∧ wTG t d Qd ρ ∧
  ∀ ρ' σ', Qd ρ' → SR K mg Z Hs H σ' ρ' → wipe σ' vs = wipe σ vs → Q σ' H
def tGs (K : PySem.W.Frag) (mg : Mg) (Z : Zn) (vs : List Nat) (ts : Tgs) : L2.TGs := fun xs σ H Q => ∃ Hs ρ ds Qd, SR K mg Z Hs H σ ρ ∧ Reps K mg Hs xs ds ∧ wTGs ts ds Qd ρ ∧
  ∀ ρ' σ', Qd ρ' → SR K mg Z Hs H σ' ρ' → wipe σ' vs = wipe σ vs → Q σ' H
theorem assign_len {xs : List Expr} {env : Env} : (assignEach xs env).length = xs.length := by
  induction xs with
  | nil => rfl
  | cons x xs ih => cases x <;> (show (assignEach xs env).length + 1 = xs.length + 1; rw [ih])
theorem assign_plain {xs : List Expr} {env : Env} (h : xs.all noStar = true) : (assignEach xs env).findIdx? (·.1) = none := by
  induction xs with
  | nil => rfl
  | cons x xs ih =>
    simp only [List.all_cons, Bool.and_eq_true] at h
    have e : assignEach (x :: xs) env = (false, assign x env) :: assignEach xs env := by cases x <;> first | rfl | (simp [noStar] at h)
    rw [e]
    have := ih h.2
    simp only [List.findIdx?_eq_none_iff] at this ⊢
    intro y hy
    rcases List.mem_cons.mp hy with rfl | hy
    · rfl
    · exact this y hy
theorem tgs_star {N : List Str} {sc : Scope} {fb : Str → Bool} {vs : List Nat} : ∀ {ts : Tgs} {xs : List Expr}, okTGs N sc fb vs ts xs = true → xs.all noStar = true
  | .nil, [], _ => rfl
  | .nil, _ :: _, h => by simp [okTGs] at h
  | .cons t ts, [], h => by simp [okTGs] at h
  | .cons t ts, x :: xs, h => by
    simp only [okTGs, Bool.and_eq_true] at h
    simp only [List.all_cons, Bool.and_eq_true]
    exact ⟨h.1.2, tgs_star h.2⟩
theorem tgs_len {N : List Str} {sc : Scope} {fb : Str → Bool} {vs : List Nat} : ∀ {ts : Tgs} {xs : List Expr}, okTGs N sc fb vs ts xs = true → xs.length = ts.len
  | .nil, [], _ => rfl
  | .nil, _ :: _, h => by simp [okTGs] at h
  | .cons t ts, [], h => by simp [okTGs] at h
  | .cons t ts, x :: xs, h => by
    simp only [okTGs, Bool.and_eq_true] at h
    show xs.length + 1 = ts.len + 1
    rw [tgs_len h.2]
mutual
theorem pg_t {X : Cx} (hc : X.calm = true) (nd : X.N.Nodup) {fb : Str → Bool} (hf : ∀ x, fb x = true → X.fn x = true) {vs : List Nat} : ∀ (t : Tg) (x : Expr), okTG X.N X.env.scope fb vs t x = true → ∀ Z, PG X x (tG X.K X.mg Z vs t)
  | .n i, x, h, Z => by
    unfold okTG at h
    split at h
    · rename_i y p
      simp only [Bool.and_eq_true, decide_eq_true_eq] at h
      obtain ⟨⟨h1, h2⟩, h3⟩ := h
      have hx : Loc X.env.scope y ∧ (X.fn y = true ∨ X.env.scope.names.lookup y = some .local) := by
        split at h3
        · rename_i q; exact ⟨.inl q, .inr q⟩
        · rename_i q; exact ⟨.inr q, .inl (hf y h3)⟩
        · cases h3
      refine pgI (pg_name (pos := p) nd h1 hx.1 hx.2) fun v σ H Q ⟨Hs, ρ, d, Qd, S, r, q, k⟩ => ?_
      exact k _ _ q.2 (S.put r q.1) (wipe_set h2)
    · cases h
  | .t ts, x, h, Z => by
    unfold okTG at h
    split at h
    · rename_i xs kk p
      have ht := pg_ts hc nd hf ts xs h Z
      have hl : xs.length = ts.len := tgs_len h
      refine pgI (pg_tup (pos := p) hc ht (n := xs.length) assign_len (assign_plain (tgs_star h))) fun v σ H Q ⟨Hs, ρ, d, Qd, S, r, ⟨ds, hd, h2, q⟩, k⟩ => ?_
      have rr : ∃ a ws, v = .ref a ∧ SqT X.K H a ws ∧ Reps X.K X.mg Hs ws ds := by
        rcases hd with rfl | rfl
        · cases r with
          | tup h r => exact ⟨_, _, rfl, SqT.of (S.sub _ _ h), r⟩
        · cases r with
          | gt h r => exact ⟨_, _, rfl, written h H, r⟩
      obtain ⟨a, ws, rfl, h3, h4⟩ := rr
      exact ⟨a, ws, rfl, h3, by rw [Reps.length h4, h2, hl], Hs, ρ, ds, Qd, S, h4, q, k⟩
    · cases h
theorem pg_ts {X : Cx} (hc : X.calm = true) (nd : X.N.Nodup) {fb : Str → Bool} (hf : ∀ x, fb x = true → X.fn x = true) {vs : List Nat} : ∀ (ts : Tgs) (xs : List Expr), okTGs X.N X.env.scope fb vs ts xs = true → ∀ Z, PGs X xs (tGs X.K X.mg Z vs ts)
  | .nil, xs, h, Z => by
    cases xs with
    | cons x xs => simp [okTGs] at h
    | nil =>
      have base := pgs_nil (X := X)
      refine ⟨fun pins s σ H ws us Q I r ⟨Hs, ρ, ds, Qd, S, rr, q, k⟩ => base.run pins s σ H ws us Q I r ?_⟩
      obtain ⟨rfl, q⟩ := q
      cases rr
      exact ⟨rfl, k ρ σ q S rfl⟩
  | .cons t ts, xs, h, Z => by
    cases xs with
    | nil => simp [okTGs] at h
    | cons x xs =>
      simp only [okTGs, Bool.and_eq_true] at h
      obtain ⟨⟨h1, h2⟩, h3⟩ := h
      have e : (assignEach (x :: xs) X.env).map (·.2) = assign x X.env :: (assignEach xs X.env).map (·.2) := by cases x <;> first | rfl | (simp [noStar] at h2)
      have base := pgs_cons (pg_t hc nd hf t x h1 Z) (pg_ts hc nd hf ts xs h3 Z) e
      refine ⟨fun pins s σ H ws us Q I r ⟨Hs, ρ, ds, Qd, S, rr, q, k⟩ => base.run pins s σ H ws us Q I r ?_⟩
      obtain ⟨y, r', rfl, q⟩ := q
      cases rr with
      | cons r1 rs =>
        exact ⟨_, _, rfl, Hs, ρ, y, _, S, r1, q, fun ρ' σ' q' S' e' => ⟨Hs, ρ', r', Qd, S', rs, q', fun ρ2 σ2 q2 S2 e2 => k ρ2 σ2 q2 S2 (e2.trans e')⟩⟩
end
end
end EV
set_option Elab.async false
set_option linter.all false
set_option maxRecDepth 100000
set_option maxHeartbeats 4000000
/-! EV9b: zip of a tuple and a list. -/
namespace EV
open PySem PySem.Spec PyProof.Rows L2
/-- the tuple at a and the list at b as they stand at each turn, the items in new pairs -/
def ItzX (K : PySem.W.Frag) (a b : Addr) : It :=
  ⟨fun i H => ∃ (xs ys : List V) (x y : V), SqT K H a xs ∧ SqL K H b ys ∧ xs[i]? = some x ∧ ys[i]? = some y,
    fun i H v H' => ∃ T x y, v = .ref T ∧ H T = none ∧ H' = upd H T (.tup [x, y]) ∧ (∀ xs, SqT K H a xs → xs[i]? = some x) ∧ ∀ ys, SqL K H b ys → ys[i]? = some y,
    fun i H => ∃ xs ys : List V, SqT K H a xs ∧ SqL K H b ys ∧ i ≤ xs.length ∧ i ≤ ys.length ∧ (i = xs.length ∨ i = ys.length)⟩
theorem turn_zipX {P : Program} {w : World} {K : PySem.W.Frag} {elts : List Expr} {kk : Nat} {tpos : Pos} {a b z TI TO i1 i2 : Addr} (S : ZipSep2 z TI TO i1 i2 [i1, a] [i2, b]) (ha : a ≠ i1) (hb : b ≠ i2) :
    Turn P w K (.Tuple elts kk tpos) (ItzX K a b) [z, TI, TO, i1, i2] z (fun i h => IsZip h z TI TO .none ∧ IsPair h TI (.ref i1) (.ref i2) ∧ (∃ x y, IsPair h TO x y) ∧ h.IsTupleIter i1 a i ∧ h.IsListIter i2 b i) where
  mem := by simp
  obj := fun i h st c hc => by
    obtain ⟨hz, hTI, ⟨x, y, hTO⟩, ⟨o1, e1, _, d1⟩, ⟨o2, e2, _, d2⟩⟩ := st
    have e' : c = z ∨ c = TI ∨ c = TO ∨ c = i1 ∨ c = i2 := by simpa using hc
    rcases e' with q | q | q | q | q
    · rw [q]; exact ⟨_, hz, fun v q => nomatch q⟩
    · rw [q]; exact ⟨_, hTI, fun v q => nomatch q⟩
    · rw [q]; exact ⟨_, hTO, fun v q => nomatch q⟩
    · rw [q]; exact ⟨o1, e1, fun v q => by rw [d1] at q; cases q⟩
    · rw [q]; exact ⟨o2, e2, fun v q => by rw [d2] at q; cases q⟩
  keep := fun i h h' st k => by
    obtain ⟨hz, hTI, ⟨x, y, hTO⟩, h1, h2⟩ := st
    exact ⟨k z (by simp) _ hz, k TI (by simp) _ hTI, ⟨x, y, k TO (by simp) _ hTO⟩, h1.at fun o q => k i1 (by simp) o q, h2.at fun o q => k i2 (by simp) o q⟩
  item := by
    intro X hP hw hK hc i pins s σ H E I hf st hg
    subst hP hw hK
    obtain ⟨hz, hTI, ⟨x0, y0, hTO⟩, h1, h2⟩ := st
    obtain ⟨xs, ys, x, y, hqx, hqy, hx, hy⟩ := hg
    obtain ⟨its, rv, p, _⟩ := I.tuple hqx
    obtain ⟨its2, rv2, p2, _⟩ := I.list hqy
    obtain ⟨u, hu, ru⟩ := rv.get hx
    obtain ⟨u2, hu2, ru2⟩ := rv2.get hy
    have hzl : z < s.heap.objs.size := Heap.lt_size hz
    have hl1 : i < its.toArray.size := by have := (List.getElem?_eq_some_iff.mp hu).1; simpa using this
    have hl2 : i < its2.toArray.size := by have := (List.getElem?_eq_some_iff.mp hu2).1; simpa using this
    refine wpAny_pyNext_zipD2_item S (Draws.tuple (A := X.A.in1) (I.ok.hd hc) i1 a ha its.toArray) (Draws.list (A := X.A.in1) (I.ok.hd hc) i2 b hb its2.toArray) hz hTI hTO ⟨h1, p⟩ ⟨h2, p2.isList⟩ hl1 hl2 fun x1 x2 h' tk e1 e2 z' TO' h1' h2' hT hsz hk => ?_
    have e1' : x1 = u := by
      have e1 : its.toArray[i]? = some x1 := e1
      rw [List.getElem?_toArray, hu] at e1
      exact (Option.some.inj e1).symm
    have e2' : x2 = u2 := by
      have e2 : its2.toArray[i]? = some x2 := e2
      rw [List.getElem?_toArray, hu2] at e2
      exact (Option.some.inj e2).symm
    subst e1' e2'
    refine ⟨_, rfl, wpAny_letOwnedTupleGo_zip (s := { s with heap := h', toks := tk }) z' fun h'' z'' sb => ?_⟩
    have hT2 : h''.get? s.heap.objs.size = some { cls := .type "tuple", data := .seq #[x1, x2] } := (sb.2 _ (Nat.ne_of_gt hzl)).trans hT
    have new : ObjOk X.prog X.w (upd H s.heap.objs.size (.tup [x, y])) h'' s.heap.objs.size (.tup [x, y]) :=
      ⟨by show 2 ≤ sizeLine; decide, [x1, x2], .cons ru (.cons ru2 .nil), ⟨_, hT2, rfl, _, rfl⟩⟩
    have I1 : Inv X pins σ (upd H s.heap.objs.size (.tup [x, y])) { s with heap := h'', toks := tk } :=
      I.turnedNew (t' := tk) (ch := [z, TI, TO, i1, i2]) (fun c o hb q => (sb.2 c (fun q' => hb (by simp [q']))).trans (hk c o (fun q' => hb (by simp [q'])) (fun q' => hb (by simp [q'])) (fun q' => hb (by simp [q'])) (fun q' => hb (by simp [q'])) q)) hf (Nat.le_refl _) new
    have ni1 : i1 ≠ z := fun e => S.zf1 (by simp [e])
    have ni2 : i2 ≠ z := fun e => S.zf2 (by simp [e])
    refine ⟨.ref s.heap.objs.size, _, I1, rfl, ⟨_, x, y, rfl, I.hok.fresh (Nat.le_refl _), rfl, fun l hl => by rw [I.tuple_inj hl hqx]; exact hx, fun l hl => by rw [I.list_inj hl hqy]; exact hy⟩, ⟨z'', ?_, ⟨x1, x2, ?_⟩, ?_, ?_⟩, fun c hcm => ?_⟩
    · exact (sb.2 _ S.TIz).trans (hk _ _ S.TIz S.TITO S.TIi1 S.TIi2 hTI)
    · exact (sb.2 _ S.TOz).trans TO'
    · exact h1'.1.at fun o q => (sb.2 _ ni1).trans q
    · exact h2'.1.at fun o q => (sb.2 _ ni2).trans q
    · have hlt : c < s.heap.objs.size := by
        have e' : c = z ∨ c = TI ∨ c = TO ∨ c = i1 ∨ c = i2 := by simpa using hcm
        rcases e' with q | q | q | q | q
        · rw [q]; exact hzl
        · rw [q]; exact Heap.lt_size hTI
        · rw [q]; exact Heap.lt_size hTO
        · rw [q]; obtain ⟨_, e1, _⟩ := h1; exact Heap.lt_size e1
        · rw [q]; obtain ⟨_, e2, _⟩ := h2; exact Heap.lt_size e2
      rw [upd_ne (Nat.ne_of_lt hlt)]
      exact (hf c hcm).1
  done := by
    intro X hP hw hK hc i pins s σ H E I hf st hg
    subst hP hw hK
    obtain ⟨hz, hTI, ⟨x0, y0, hTO⟩, h1, h2⟩ := st
    obtain ⟨xs, ys, hqx, hqy, b1, b2, hend⟩ := hg
    obtain ⟨its, rv, p, _⟩ := I.tuple hqx
    obtain ⟨its2, rv2, p2, _⟩ := I.list hqy
    have l1 := rv.length
    have l2 := rv2.length
    refine wpAny_pyNext_zipD2_end S (Draws.tuple (A := X.A.in1) (I.ok.hd hc) i1 a ha its.toArray) (Draws.list (A := X.A.in1) (I.ok.hd hc) i2 b hb its2.toArray) hz hTI hTO ⟨h1, p⟩ ⟨h2, p2.isList⟩ (by simp; omega) (by simp; omega) ?_ fun h' tk hk => ?_
    · rcases hend with q | q
      · exact .inl (by simp; omega)
      · exact .inr (by simp; omega)
    · exact ⟨rfl, I.turnedL (t' := tk) (ch := [z, TI, TO, i1, i2]) (fun c o hb q =>
        hk c o (fun q' => hb (by simp [q'])) (fun q' => hb (by simp [q'])) (fun q' => hb (by simp [q'])) (fun q' => hb (by simp [q'])) q) hf⟩
  self := fun A i s Q E st h => wpAny_pyIter_zip st.1 h
def iZipX (K : PySem.W.Frag) (ta : TA) : TI := fun σ H R => ta σ H fun vs H1 => ∃ a b xs ys, vs = [.ref a, .ref b] ∧ ((SqL K H1 a xs ∧ SqL K H1 b ys ∧ R (Itz K a b) H1) ∨ (SqT K H1 a xs ∧ SqT K H1 b ys ∧ R (RZ.ItzT K a b) H1) ∨ (SqT K H1 a xs ∧ SqL K H1 b ys ∧ R (ItzX K a b) H1))
theorem pi_zipX {X : Cx} {e e2 : Expr} {ta : TA} {p pos tpos : Pos} {elts : List Expr} {kk : Nat} (hg : Gl X "zip") (hm : X.mg "zip" = none) (ha : PA X [e, e2] ta)
    (hs : starEach [e, e2] X.env = (false, eval e X.env) :: starEach [e2] X.env) (hpl : (backTo pos (starEach [e2] X.env)).any (·.1) = false) :
    PI X (.Tuple elts kk tpos) (.Call (.Name "zip" p) [e, e2] [] pos) (iZipX X.K ta) := by
  refine ⟨fun pins s σ H R I h => ?_⟩
  refine Call_ (ld_blt I hg hm PyProof.Rows.boot_zip (PyProof.Rows.callWith_type1 (thn (ha.run pos pins s σ H _ I h) fun us s1 ⟨vs, H1, I1, r1, q1⟩ => ?_) hs hpl))
  obtain ⟨a, b, xs, ys, ex, q1⟩ := q1
  subst ex
  cases r1 with
  | cons r rr =>
    cases rr with
    | cons r' rr =>
      cases rr
      cases r
      cases r'
      have fresh5 : ∀ c, c ∈ [s1.heap.objs.size + 4, s1.heap.objs.size + 2, s1.heap.objs.size + 3, s1.heap.objs.size, s1.heap.objs.size + 1] → FpOk X pins H1 c := fun c hcm => by
        have e' : c = s1.heap.objs.size + 4 ∨ c = s1.heap.objs.size + 2 ∨ c = s1.heap.objs.size + 3 ∨ c = s1.heap.objs.size ∨ c = s1.heap.objs.size + 1 := by simpa using hcm
        have hle : s1.heap.objs.size ≤ c := by
          rcases e' with z | z | z | z | z <;> rw [z] <;> first | exact Nat.le_refl _ | exact Nat.le_add_right _ _
        exact I1.fpOk hle (I1.hok.fresh hle)
      rcases q1 with ⟨hqx, hqy, q⟩ | ⟨hqx, hqy, q⟩ | ⟨hqx, hqy, q⟩
      · obtain ⟨its, rv, p1, _⟩ := I1.list hqx
        obtain ⟨its2, rv2, p2, _⟩ := I1.list hqy
        refine zip_begins2 (begins_list a its.toArray) (begins_list b its2.toArray) p1.isList p2.isList fun h' hz hTI hTO h1 h2 hsz hk => wpAny_pyIter_zip hz ?_
        have I2 : Inv X pins σ H1 { s1 with heap := h' } := I1.kept (t' := s1.toks) hk
        exact ⟨s1.heap.objs.size + 4, [s1.heap.objs.size + 4, s1.heap.objs.size + 2, s1.heap.objs.size + 3, s1.heap.objs.size, s1.heap.objs.size + 1], _, _, H1, rfl, I2, turn_zip (PySem.W.ktu_apart s1.heap.objs.size a b p1.lt p2.lt), ⟨hz, hTI, ⟨_, _, hTO⟩, ⟨_, h1, rfl, rfl⟩, ⟨_, h2, rfl, rfl⟩⟩, fresh5, q⟩
      · obtain ⟨its, rv, p1, _⟩ := I1.tuple hqx
        obtain ⟨its2, rv2, p2, _⟩ := I1.tuple hqy
        obtain ⟨o1, ho1, _⟩ := id p1
        obtain ⟨o2, ho2, _⟩ := id p2
        refine zip_begins2 (begins_tuple a its.toArray) (begins_tuple b its2.toArray) p1 p2 fun h' hz hTI hTO h1 h2 hsz hk => wpAny_pyIter_zip hz ?_
        have I2 : Inv X pins σ H1 { s1 with heap := h' } := I1.kept (t' := s1.toks) hk
        exact ⟨s1.heap.objs.size + 4, [s1.heap.objs.size + 4, s1.heap.objs.size + 2, s1.heap.objs.size + 3, s1.heap.objs.size, s1.heap.objs.size + 1], _, _, H1, rfl, I2, RZ.turn_zipT (PySem.W.ktu_apart s1.heap.objs.size a b (Heap.lt_size ho1) (Heap.lt_size ho2)), ⟨hz, hTI, ⟨_, _, hTO⟩, ⟨_, h1, rfl, rfl⟩, ⟨_, h2, rfl, rfl⟩⟩, fresh5, q⟩
      · obtain ⟨its, rv, p1, _⟩ := I1.tuple hqx
        obtain ⟨its2, rv2, p2, _⟩ := I1.list hqy
        obtain ⟨o1, ho1, _⟩ := id p1
        have la : a < s1.heap.objs.size := Heap.lt_size ho1
        have lb : b < s1.heap.objs.size := p2.lt
        refine zip_begins2 (begins_tuple a its.toArray) (begins_list b its2.toArray) p1 p2.isList fun h' hz hTI hTO h1 h2 hsz hk => wpAny_pyIter_zip hz ?_
        have I2 : Inv X pins σ H1 { s1 with heap := h' } := I1.kept (t' := s1.toks) hk
        refine ⟨s1.heap.objs.size + 4, [s1.heap.objs.size + 4, s1.heap.objs.size + 2, s1.heap.objs.size + 3, s1.heap.objs.size, s1.heap.objs.size + 1], _, _, H1, rfl, I2, turn_zipX (zip_sep2 (by simpa using la) (by simpa using lb)) (Nat.ne_of_lt la) (Nat.ne_of_lt (Nat.lt_succ_of_lt lb)), ⟨hz, hTI, ⟨_, _, hTO⟩, ⟨_, h1, rfl, rfl⟩, ⟨_, h2, rfl, rfl⟩⟩, fresh5, q⟩
end EV
set_option Elab.async false
set_option linter.all false
set_option maxRecDepth 100000
set_option maxHeartbeats 4000000
/-! EV10: what is walked, comprehensions. -/
namespace EV
open PySem PySem.Spec PyProof.Rows L2

/-! ### slots wiped and put back -/
theorem at_over {ρ : En} {i : Nat} (h : ¬ i < ρ.length) : ρ.at i = .un := by
  unfold En.at
  rw [List.getD_eq_getElem?_getD, List.getElem?_eq_none (by simpa using h)]; rfl
theorem wipeE_len (ρ : En) : ∀ vs : List Nat, (wipeE ρ vs).length = ρ.length
  | [] => rfl
  | v :: vs => by show ((wipeE ρ vs).set v .un).length = _; rw [List.length_set, wipeE_len ρ vs]
theorem wipeE_at (ρ : En) (j : Nat) : ∀ vs : List Nat, (wipeE ρ vs).at j = if j ∈ vs then .un else ρ.at j
  | [] => by simp [wipeE]
  | v :: vs => by
    show En.at ((wipeE ρ vs).set v .un) j = _
    rw [at_set, wipeE_at ρ j vs, wipeE_len]
    by_cases e : j = v
    · subst e
      rw [if_pos (List.mem_cons_self : j ∈ j :: vs)]
      by_cases l : j < ρ.length
      · rw [if_pos ⟨rfl, l⟩]
      · rw [if_neg (fun z => l z.2), at_over l]
        simp
    · rw [if_neg (fun z => e z.1)]
      simp [e]
theorem wipe_at (σ : L2.St) (j : Nat) : ∀ vs : List Nat, (wipe σ vs).getD j none = if j ∈ vs then none else σ.getD j none
  | [] => by simp [wipe]
  | v :: vs => by
    show ((wipe σ vs).set v none).getD j none = _
    rw [val_set, wipe_at σ j vs, wipe_length]
    by_cases e : j = v
    · subst e
      rw [if_pos (List.mem_cons_self : j ∈ j :: vs)]
      by_cases l : j < σ.length
      · rw [if_pos ⟨rfl, l⟩]
      · rw [if_neg (fun z => l z.2), List.getD_eq_getElem?_getD, List.getElem?_eq_none (by simpa using l)]
        simp
    · rw [if_neg (fun z => e z.1)]
      simp [e]
theorem unwipe_len (ρ0 ρ : En) : ∀ vs : List Nat, (unwipe ρ0 ρ vs).length = ρ.length
  | [] => rfl
  | v :: vs => by show (List.set (unwipe ρ0 ρ vs) v _).length = _; rw [List.length_set, unwipe_len ρ0 ρ vs]
def Slot.fixed : Slot → Slot
  | .fz d => .fz d
  | _ => .un
theorem unwipe_at (ρ0 ρ : En) (j : Nat) (hl : ρ0.length = ρ.length) : ∀ vs : List Nat, (unwipe ρ0 ρ vs).at j = if j ∈ vs then (ρ0.at j).fixed else ρ.at j
  | [] => by simp [unwipe]
  | v :: vs => by
    show En.at (List.set (unwipe ρ0 ρ vs) v (ρ0.at v).fixed) j = _
    rw [at_set, unwipe_at ρ0 ρ j hl vs, unwipe_len]
    by_cases e : j = v
    · subst e
      rw [if_pos (List.mem_cons_self : j ∈ j :: vs)]
      by_cases l : j < ρ.length
      · rw [if_pos ⟨rfl, l⟩]
      · rw [if_neg (fun z => l z.2), at_over l, at_over (by rw [hl]; exact l)]
        simp [Slot.fixed]
    · rw [if_neg (fun z => e z.1)]
      simp [e]
section
variable {K : PySem.W.Frag} {mg : Mg} {Z : Zn} {Hs H Hs' H' : Hp} {σ : L2.St} {ρ ρ0 : En}
theorem SR.wipe (S : SR K mg Z Hs H σ ρ) : ∀ {vs : List Nat}, lentFree ρ vs → SR K mg Z Hs H (L2.wipe σ vs) (wipeE ρ vs)
  | [], _ => S
  | v :: vs, h => by
    have ih := SR.wipe S (vs := vs) fun u hu => h u (List.mem_cons_of_mem _ hu)
    refine ih.wipe1 (i := v) ?_
    rw [wipeE_at]
    split
    · rfl
    · exact h v List.mem_cons_self
theorem SR.unwipe (S0 : SR K mg Z Hs H σ ρ0) {vs : List Nat} (lf : lentFree ρ0 vs) (S : SR K mg Z Hs' H' (L2.wipe σ vs) ρ) (e : Same Hs Hs') : SR K mg Z Hs' H' σ (unwipe ρ0 ρ vs) := by
  have hl : ρ0.length = ρ.length := by rw [← S0.len, ← S.len, wipe_length]
  have back : ∀ j a, Owns σ (EV.unwipe ρ0 ρ vs) j a → j ∉ vs ∧ Owns (L2.wipe σ vs) ρ j a := fun j a ⟨h1, h2⟩ => by
    rw [unwipe_at ρ0 ρ j hl] at h2
    by_cases m : j ∈ vs
    · rw [if_pos m] at h2
      revert h2
      cases ρ0.at j <;> simp [Slot.fixed, Slot.owned]
    · rw [if_neg m] at h2
      exact ⟨m, by rw [wipe_at, if_neg m]; exact h1, h2⟩
  refine ⟨S.sub, S.s0, S.h0, S.dom, S.new, by rw [unwipe_len, ← hl]; exact S0.len, fun j => ?_, fun i j a h1 h2 => S.sep i j a (back i a h1).2 (back j a h2).2, fun i a h => S.own i a (back i a h).2, fun q hq => ?_, fun j P q e => ?_⟩
  · rw [unwipe_at ρ0 ρ j hl]
    by_cases m : j ∈ vs
    · rw [if_pos m]
      have sl := S0.sl j
      revert sl
      cases ρ0.at j with
      | fz d =>
        rintro ⟨x, h1, h2⟩
        exact ⟨x, h1, h2.mono e⟩
      | _ => exact fun _ => trivial
    · rw [if_neg m]
      have sl := S.sl j
      rw [wipe_at, if_neg m] at sl
      exact sl
  · obtain ⟨h1, h2⟩ := S0.pin q hq
    obtain ⟨h3, h4⟩ := S.pin q hq
    have m : q.1 ∉ vs := fun m => by rw [lf q.1 m] at h2; cases h2
    rw [unwipe_at ρ0 ρ q.1 hl, if_neg m]
    exact ⟨h1, h4⟩
  · rw [unwipe_at ρ0 ρ j hl] at e
    split at e
    · revert e
      cases ρ0.at j <;> simp [Slot.fixed]
    · exact S.tz j P q e
/-- an object that is nobody's is written -/
theorem SR.other (S : SR K mg Z Hs H σ ρ) {p : Addr} {o u : HO} (hu : H p = some u) (nx : HO.isX u = false) (hs : Hs p = none) (z0 : Z.H p = none) (no : ∀ i, ¬ Owns σ ρ i p) : SR K mg Z Hs (upd H p o) σ ρ := by
  refine ⟨fun b u e => ?_, S.s0, fun a u e n => ?_, fun a e => ?_, S.new, S.len, fun i => ?_, S.sep, S.own, S.pin, S.tz⟩
  · rw [upd_ne (ne_of_none e hs)]; exact S.sub _ _ e
  · rw [upd_ne (ne_of_none e z0)]; exact S.h0 a u e n
  · by_cases hb : a = p
    · subst hb; rw [upd_same]; simp
    · rw [upd_ne hb]; exact S.dom a e
  · refine (S.sl i).keep (Same.refl _) (KX.set hu nx) fun a h1 h2 => ?_
    exact ⟨upd_ne fun z => by subst z; exact no i ⟨h1, h2⟩, (S.ownAt ⟨h1, h2⟩).1⟩
/-- the entry with an object more that must stand -/
def Zn.with (Z : Zn) (p : Addr) (o : HO) : Zn := { Z with H := upd Z.H p o }
theorem SR.guard (S : SR K mg Z Hs H σ ρ) {p : Addr} {o : HO} (nx : HO.isX o = false) (hp : H p = some o) (hs : Hs p = none) (no : ∀ i, ¬ Owns σ ρ i p) : SR K mg (Z.with p o) Hs H σ ρ := by
  refine ⟨S.sub, S.s0, fun a u e n => ?_, fun a e => ?_, fun a e => ?_, S.len, S.sl, S.sep, fun i a h => ?_, S.pin, fun i P q e => ?_⟩
  · by_cases hb : a = p
    · subst hb
      rw [show (Z.with a o).H a = some o from upd_same] at e
      rw [hp]; exact e
    · rw [show (Z.with p o).H a = Z.H a from upd_ne hb] at e
      exact S.h0 a u e n
  · by_cases hb : a = p
    · subst hb; rw [hp]; simp
    · rw [show (Z.with p o).H a = Z.H a from upd_ne hb] at e
      exact S.dom a e
  · by_cases hb : a = p
    · subst hb; exact absurd hs e
    · rw [show (Z.with p o).H a = Z.H a from upd_ne hb]
      exact S.new a e
  · have ne : a ≠ p := fun z => by subst z; exact no i h
    rw [show (Z.with p o).H a = Z.H a from upd_ne ne]
    exact S.own i a h
  · have t := S.sl i
    rw [e] at t
    obtain ⟨_, ps, hP, _⟩ := t
    rw [show (Z.with p o).H P = Z.H P from upd_ne (notTbl hP hp nx)]
    exact S.tz i P q e
theorem SR.unguard {p : Addr} {o : HO} (S : SR K mg (Z.with p o) Hs H σ ρ) (z0 : Z.H p = none) (zs : Z.Hs p = none) (np : p ∉ Z.P) :
    SR K mg Z Hs H σ ρ ∧ H p = some o ∧ Hs p = none ∧ ∀ i, ¬ Owns σ ρ i p := by
  have zp : (Z.with p o).H p = some o := upd_same
  refine ⟨⟨S.sub, S.s0, fun a u e n => ?_, fun a e => ?_, fun a e => ?_, S.len, S.sl, S.sep, fun i a h => ?_, S.pin, fun i P q e => ?_⟩, S.h0 p o zp np, ?_, fun i h => ?_⟩
  · exact S.h0 a u (by rw [show (Z.with p o).H a = Z.H a from upd_ne (ne_of_none e z0)]; exact e) n
  · have ne : a ≠ p := fun z => by subst z; exact e z0
    exact S.dom a (by rw [show (Z.with p o).H a = Z.H a from upd_ne ne]; exact e)
  · by_cases hb : a = p
    · subst hb; exact .inr z0
    · have q := S.new a e
      rw [show (Z.with p o).H a = Z.H a from upd_ne hb] at q
      exact q
  · have q := S.own i a h
    by_cases hb : a = p
    · subst hb; exact .inl z0
    · rw [show (Z.with p o).H a = Z.H a from upd_ne hb] at q
      exact q
  · have t := S.tz i P q e
    have ne : P ≠ p := fun z => by rw [z, zp] at t; cases t
    rwa [show (Z.with p o).H P = Z.H P from upd_ne ne] at t
  · cases e : Hs p with
    | none => rfl
    | some u =>
      rcases S.new p (by rw [e]; simp) with q | q
      · exact absurd zs q
      · rw [zp] at q; cases q
  · rcases S.own i p h with q | q
    · rw [zp] at q; cases q
    · exact np q
theorem SR.notP (S : SR K mg Z Hs H σ ρ) {p : Addr} (no : ∀ i, ¬ Owns σ ρ i p) : p ∉ Z.P := fun hP => by
  obtain ⟨q, hq, e⟩ := List.mem_map.mp hP
  obtain ⟨h1, h2⟩ := S.pin q hq
  exact no q.1 ⟨by rw [h1, e], lent_owned h2⟩
theorem SR.hs0 (S : SR K mg Z Hs H σ ρ) {p : Addr} (hs : Hs p = none) : Z.Hs p = none := by
  cases e : Z.Hs p with
  | none => rfl
  | some u => rw [S.s0 _ _ e] at hs; cases hs
end

/-! ### what is walked -/
structure ItD (K : PySem.W.Frag) (mg : Mg) (J : It) (ds : List D) (src : Hp → Hp → Prop) : Prop where
  go : ∀ i Hs H, src Hs H → i < ds.length → J.go i H
  stop : ∀ Hs H, src Hs H → J.stop ds.length H
  yld : ∀ (Z : Zn) (σ : L2.St) (ρ : En) (i : Nat) (Hs H : Hp) (x : V) (H' : Hp), SR K mg Z Hs H σ ρ → src Hs H → J.yld i H x H' → ∀ d, ds[i]? = some d → ∃ Hs', SR K mg Z Hs' H' σ ρ ∧ Same Hs Hs' ∧ Rep K mg Hs' x d ∧ src Hs' H'
def tI (K : PySem.W.Frag) (mg : Mg) (Z : Zn) (W : WX) (w : WI) : L2.TI := fun σ H R =>
  ∃ (Hs : Hp) (ρ : En) (Qd : List D → (En → Prop) → En → Prop) (Rx : Exc → En → Prop), SR K mg Z Hs H σ ρ ∧ w Qd Rx ρ ∧
    (∀ ds lk ρ' Hs' H' J src, Qd ds lk ρ' → SR K mg Z Hs' H' σ ρ' → Same Hs Hs' → ItD K mg J ds src → src Hs' H' → (∀ ρ2 Hs2 H2, SR K mg Z Hs2 H2 σ ρ2 → Same Hs' Hs2 → lk ρ2 → src Hs2 H2) →
      ((∀ ρ2, lk ρ2) → ∀ Hs2 H2, Same Hs' Hs2 → Same Hs2 H2 → src Hs2 H2) → ds.length ≤ sizeLine → R J H') ∧
    (∀ c ρ' Hs' H' cls a, Rx c ρ' → SR K mg Z Hs' H' σ ρ' → Same Hs Hs' → ExcR K mg Hs' H' c cls a → W cls a σ H')
abbrev JI (X : Cx) (W : WX) (tg e : Expr) (w : WI) : Prop := ∀ Z, PI X tg e (tI X.K X.mg Z W w)

section
variable {K : PySem.W.Frag} {mg : Mg} {Z : Zn} {Hs H : Hp} {σ : L2.St} {ρ : En}
def srcL (K : PySem.W.Frag) (mg : Mg) (a : Addr) (ds : List D) (Hs H : Hp) : Prop := ∃ vs, SqL K H a vs ∧ Reps K mg Hs vs ds
def srcT (K : PySem.W.Frag) (mg : Mg) (a : Addr) (ds : List D) (Hs H : Hp) : Prop := ∃ vs, SqT K H a vs ∧ Reps K mg Hs vs ds
theorem it_list {a : Addr} {ds : List D} : ItD K mg (Itl K a) ds (srcL K mg a ds) where
  go := fun i Hs H ⟨vs, h, r⟩ hi => by
    obtain ⟨v, h1, _⟩ := r.get (i := i) (d := ds[i]) (by simp [hi])
    exact ⟨vs, v, h, h1⟩
  stop := fun Hs H ⟨vs, h, r⟩ => ⟨vs, h, by rw [r.length]; exact Nat.le_refl _⟩
  yld := fun Z σ ρ i Hs H x H' S ⟨vs, h, r⟩ y d hd => by
    obtain ⟨rfl, y⟩ := y
    obtain ⟨v, h1, h2⟩ := r.get hd
    have e := y vs h
    rw [h1] at e; cases e
    exact ⟨Hs, S, Same.refl _, h2, vs, h, r⟩
theorem it_tup {a : Addr} {ds : List D} : ItD K mg (Itt K a) ds (srcT K mg a ds) where
  go := fun i Hs H ⟨vs, h, r⟩ hi => by
    obtain ⟨v, h1, _⟩ := r.get (i := i) (d := ds[i]) (by simp [hi])
    exact ⟨vs, v, h, h1⟩
  stop := fun Hs H ⟨vs, h, r⟩ => ⟨vs, h, by rw [r.length]; exact Nat.le_refl _⟩
  yld := fun Z σ ρ i Hs H x H' S ⟨vs, h, r⟩ y d hd => by
    obtain ⟨rfl, y⟩ := y
    obtain ⟨v, h1, h2⟩ := r.get hd
    have e := y vs h
    rw [h1] at e; cases e
    exact ⟨Hs, S, Same.refl _, h2, vs, h, r⟩
theorem it_range {lo : Int} {n : Nat} : ItD K mg (Itr lo n) (upTo n lo) (fun _ _ => True) where
  go := fun i Hs H _ hi => by show i < n; simpa [upTo] using hi
  stop := fun Hs H _ => by show n ≤ (upTo n lo).length; simp [upTo]
  yld := fun Z σ ρ i Hs H x H' S _ y d hd => by
    obtain ⟨rfl, rfl⟩ := y
    have e : d = .int (lo + i) := by
      unfold upTo at hd
      rw [List.getElem?_map] at hd
      cases q : (List.range n)[i]? with
      | none => rw [q] at hd; cases hd
      | some j =>
        rw [q] at hd
        have := List.getElem?_range (n := n) (i := i)
        have hj : j = i := by
          rw [List.getElem?_eq_some_iff] at q
          obtain ⟨h, e⟩ := q
          simpa using e.symm
        rw [hj] at hd
        exact (Option.some.inj hd).symm
    rw [e]
    exact ⟨Hs, S, Same.refl _, .int _, trivial⟩
theorem zip_get {d : D} : ∀ {xs ys : List D} {i : Nat}, (tups xs ys)[i]? = some d → ∃ x y, xs[i]? = some x ∧ ys[i]? = some y ∧ d = .tup [x, y]
  | [], ys, i, h => by simp [tups] at h
  | x :: xs, [], i, h => by simp [tups] at h
  | x :: xs, y :: ys, 0, h => by
    simp [tups] at h
    exact ⟨x, y, rfl, rfl, h.symm⟩
  | x :: xs, y :: ys, i + 1, h => by
    obtain ⟨u, v, h1, h2, h3⟩ := zip_get (xs := xs) (ys := ys) (i := i) (d := d) (by simpa [tups] using h)
    exact ⟨u, v, by simpa using h1, by simpa using h2, h3⟩
theorem zip_len (xs ys : List D) : (tups xs ys).length = min xs.length ys.length := by simp [tups]
theorem it_zipL {a b : Addr} {xs ys : List D} : ItD K mg (Itz K a b) (tups xs ys) (fun Hs H => srcL K mg a xs Hs H ∧ srcL K mg b ys Hs H) where
  go := fun i Hs H ⟨⟨vs, h, r⟩, ⟨us, h', r'⟩⟩ hi => by
    rw [zip_len] at hi
    obtain ⟨v, h1, _⟩ := r.get (i := i) (d := xs[i]'(by omega)) (List.getElem?_eq_getElem (by omega))
    obtain ⟨u, h2, _⟩ := r'.get (i := i) (d := ys[i]'(by omega)) (List.getElem?_eq_getElem (by omega))
    exact ⟨vs, us, v, u, h, h', h1, h2⟩
  stop := fun Hs H ⟨⟨vs, h, r⟩, ⟨us, h', r'⟩⟩ => ⟨vs, us, h, h', by rw [r.length, r'.length, zip_len]; omega⟩
  yld := fun Z σ ρ i Hs H x H' S ⟨⟨vs, h, r⟩, ⟨us, h', r'⟩⟩ y d hd => by
    obtain ⟨p, q, h1, h2, rfl⟩ := zip_get hd
    obtain ⟨t, u, v, rfl, ht, rfl, y1, y2⟩ := y
    obtain ⟨v1, l1, l2⟩ := r.get h1
    obtain ⟨v2, l3, l4⟩ := r'.get h2
    have e1 := y1 vs h
    have e2 := y2 us h'
    rw [l1] at e1
    rw [l3] at e2
    obtain rfl := Option.some.inj e1
    obtain rfl := Option.some.inj e2
    obtain ⟨f1, _, _⟩ := S.fresh ht
    have gr : Same Hs (upd Hs t (.tup [v1, v2])) := fun c u e => by rw [upd_ne (ne_of_none e f1)]; exact e
    have gH : Same H (upd H t (.tup [v1, v2])) := fun c u e => by rw [upd_ne (ne_of_none e ht)]; exact e
    exact ⟨_, S.laid ht, gr, .tup upd_same (.cons (l2.mono gr) (.cons (l4.mono gr) .nil)), ⟨vs, Same.lstS gH h, r.mono gr⟩, ⟨us, Same.lstS gH h', r'.mono gr⟩⟩
theorem it_zipT {a b : Addr} {xs ys : List D} : ItD K mg (RZ.ItzT K a b) (tups xs ys) (fun Hs H => srcT K mg a xs Hs H ∧ srcT K mg b ys Hs H) where
  go := fun i Hs H ⟨⟨vs, h, r⟩, ⟨us, h', r'⟩⟩ hi => by
    rw [zip_len] at hi
    obtain ⟨v, h1, _⟩ := r.get (i := i) (d := xs[i]'(by omega)) (List.getElem?_eq_getElem (by omega))
    obtain ⟨u, h2, _⟩ := r'.get (i := i) (d := ys[i]'(by omega)) (List.getElem?_eq_getElem (by omega))
    exact ⟨vs, us, v, u, h, h', h1, h2⟩
  stop := fun Hs H ⟨⟨vs, h, r⟩, ⟨us, h', r'⟩⟩ => ⟨vs, us, h, h', by rw [r.length, r'.length, zip_len]; omega⟩
  yld := fun Z σ ρ i Hs H x H' S ⟨⟨vs, h, r⟩, ⟨us, h', r'⟩⟩ y d hd => by
    obtain ⟨p, q, h1, h2, rfl⟩ := zip_get hd
    obtain ⟨t, u, v, rfl, ht, rfl, y1, y2⟩ := y
    obtain ⟨v1, l1, l2⟩ := r.get h1
    obtain ⟨v2, l3, l4⟩ := r'.get h2
    have e1 := y1 vs h
    have e2 := y2 us h'
    rw [l1] at e1
    rw [l3] at e2
    obtain rfl := Option.some.inj e1
    obtain rfl := Option.some.inj e2
    obtain ⟨f1, _, _⟩ := S.fresh ht
    have gr : Same Hs (upd Hs t (.tup [v1, v2])) := fun c u e => by rw [upd_ne (ne_of_none e f1)]; exact e
    have gH : Same H (upd H t (.tup [v1, v2])) := fun c u e => by rw [upd_ne (ne_of_none e ht)]; exact e
    exact ⟨_, S.laid ht, gr, .tup upd_same (.cons (l2.mono gr) (.cons (l4.mono gr) .nil)), ⟨vs, Same.tupS gH h, r.mono gr⟩, ⟨us, Same.tupS gH h', r'.mono gr⟩⟩

theorem it_zipX {a b : Addr} {xs ys : List D} : ItD K mg (ItzX K a b) (tups xs ys) (fun Hs H => srcT K mg a xs Hs H ∧ srcL K mg b ys Hs H) where
  go := fun i Hs H ⟨⟨vs, h, r⟩, ⟨us, h', r'⟩⟩ hi => by
    rw [zip_len] at hi
    obtain ⟨v, h1, _⟩ := r.get (i := i) (d := xs[i]'(by omega)) (List.getElem?_eq_getElem (by omega))
    obtain ⟨u, h2, _⟩ := r'.get (i := i) (d := ys[i]'(by omega)) (List.getElem?_eq_getElem (by omega))
    exact ⟨vs, us, v, u, h, h', h1, h2⟩
  stop := fun Hs H ⟨⟨vs, h, r⟩, ⟨us, h', r'⟩⟩ => ⟨vs, us, h, h', by rw [r.length, zip_len]; omega, by rw [r'.length, zip_len]; omega, by rw [r.length, r'.length, zip_len]; omega⟩
  yld := fun Z σ ρ i Hs H x H' S ⟨⟨vs, h, r⟩, ⟨us, h', r'⟩⟩ y d hd => by
    obtain ⟨p, q, h1, h2, rfl⟩ := zip_get hd
    obtain ⟨t, u, v, rfl, ht, rfl, y1, y2⟩ := y
    obtain ⟨v1, l1, l2⟩ := r.get h1
    obtain ⟨v2, l3, l4⟩ := r'.get h2
    have e1 := y1 vs h
    have e2 := y2 us h'
    rw [l1] at e1
    rw [l3] at e2
    obtain rfl := Option.some.inj e1
    obtain rfl := Option.some.inj e2
    obtain ⟨f1, _, _⟩ := S.fresh ht
    have gr : Same Hs (upd Hs t (.tup [v1, v2])) := fun c u e => by rw [upd_ne (ne_of_none e f1)]; exact e
    have gH : Same H (upd H t (.tup [v1, v2])) := fun c u e => by rw [upd_ne (ne_of_none e ht)]; exact e
    exact ⟨_, S.laid ht, gr, .tup upd_same (.cons (l2.mono gr) (.cons (l4.mono gr) .nil)), ⟨vs, Same.tupS gH h, r.mono gr⟩, ⟨us, Same.lstS gH h', r'.mono gr⟩⟩

/-- a list operand, and how long it stays -/
theorem stayL {v : V} {l : LD} {ds : List D} (r : LR K mg Hs σ v l) (S : SR K mg Z Hs H σ ρ) (e : l.peek ρ = some (.lst ds)) :
    ∃ a vs, v = .ref a ∧ H a = some (.lst vs) ∧ Reps K mg Hs vs ds ∧ (∀ ρ2 Hs2 H2, SR K mg Z Hs2 H2 σ ρ2 → Same Hs Hs2 → lkOf l ρ ρ2 → srcL K mg a ds Hs2 H2) ∧ ((∀ ρ2, lkOf l ρ ρ2) → ∀ Hs2 H2, Same Hs Hs2 → Same Hs2 H2 → srcL K mg a ds Hs2 H2) := by
  have still : ∀ {a vs}, Rep K mg Hs (.ref a) (.lst ds) → Hs a = some (.lst vs) → Reps K mg Hs vs ds → ∀ Hs2 H2, Same Hs Hs2 → Same Hs2 H2 → srcL K mg a ds Hs2 H2 := fun {a vs} _ h q Hs2 H2 e1 e2 => ⟨vs, SqL.of (e2 _ _ (e1 _ _ h)), q.mono e1⟩
  cases l with
  | inl d =>
    cases e
    have r' : Rep K mg Hs v (.lst ds) := r
    cases r' with
    | lst h q => exact ⟨_, _, rfl, S.sub _ _ h, q, fun ρ2 Hs2 H2 S2 e1 _ => still (.lst h q) h q _ _ e1 S2.sub, fun _ => still (.lst h q) h q⟩
  | inr i =>
    have hv : σ.getD i none = some v := r
    have e' : (ρ.at i).peek = some (.lst ds) := e
    have sl := S.sl i
    rw [hv] at sl
    cases q : ρ.at i with
    | fz d =>
      rw [q] at e' sl; cases e'
      obtain ⟨x, h1, r'⟩ := sl
      cases h1
      cases r' with
      | lst h q => exact ⟨_, _, rfl, S.sub _ _ h, q, fun ρ2 Hs2 H2 S2 e1 _ => still (.lst h q) h q _ _ e1 S2.sub, fun _ => still (.lst h q) h q⟩
    | ol es | bl es =>
      rw [q] at e' sl; cases e'
      obtain ⟨a, vs, h1, _, h3, h4⟩ := sl
      cases h1
      refine ⟨a, vs, rfl, h3, h4, fun ρ2 Hs2 H2 S2 _ lk => ?_, fun lk => ?_⟩
      · have lk' := lk
        simp only [lkOf, q] at lk'
        have sl2 := S2.sl i
        rw [hv, lk'] at sl2
        obtain ⟨b, ws, g1, _, g3, g4⟩ := sl2
        cases g1
        exact ⟨ws, SqL.of g3, g4⟩
      · have z := lk []
        simp only [lkOf, q] at z
        cases z
    | _ => rw [q] at e'; cases e'
/-- a tuple operand -/
theorem stayT {v : V} {l : LD} {d : D} {ds : List D} (r : LR K mg Hs σ v l) (S : SR K mg Z Hs H σ ρ) (e : l.peek ρ = some d) (hd : d = .tup ds ∨ d = .gt ds) :
    ∃ a vs, v = .ref a ∧ SqT K H a vs ∧ Reps K mg Hs vs ds ∧ ∀ Hs2 H2, Same Hs Hs2 → Same Hs2 H2 → srcT K mg a ds Hs2 H2 := by
  have rr := LR.peek r S e
  rcases hd with rfl | rfl
  · rcases rr with rr | ⟨_, _, _, _, h2, _⟩ | ⟨_, _, _, _, _, h2, _⟩ | ⟨_, _, _, _, _, h2, _⟩
    · cases rr with
      | tup h q => exact ⟨_, _, rfl, SqT.of (S.sub _ _ h), q, fun Hs2 H2 e1 e2 => ⟨_, SqT.of (e2 _ _ (e1 _ _ h)), q.mono e1⟩⟩
    all_goals cases h2
  · obtain ⟨a, vs, h1, h2, h3⟩ := rr.gt
    rcases rr with rr | ⟨_, _, _, _, h2, _⟩ | ⟨_, _, _, _, _, h2, _⟩ | ⟨_, _, _, _, _, h2, _⟩
    · cases rr with
      | gt h q => exact ⟨_, _, rfl, written h H, q, fun Hs2 H2 e1 e2 => ⟨_, written h H2, q.mono e1⟩⟩
    all_goals cases h2
end

section
variable {P : Program} {w : World} {K : PySem.W.Frag} {mg : Mg} {base : Heap} {k : Nat} {T : Tb} {X : Cx} {W : WX} {e tg : Expr}
theorem ji_seq {wa : WA} (ha : JA X W e wa) : JI X W tg e (wSeq wa) := fun Z => ⟨fun pins s σ H R I ⟨Hs, ρ, Qd, Rx, S, h1, h2, h3⟩ => by
  have hq : tA X.K X.mg Z W wa σ H (fun v H1 => ∃ l ρ1 Hs1, SR X.K X.mg Z Hs1 H1 σ ρ1 ∧ Same Hs Hs1 ∧ LR X.K X.mg Hs1 σ v l ∧ ∃ d ds, l.peek ρ1 = some d ∧ items d = some ds ∧ Qd ds (lkOf l ρ1) ρ1) :=
    ⟨Hs, ρ, S, fun l ρ1 => ∃ d ds, l.peek ρ1 = some d ∧ items d = some ds ∧ Qd ds (lkOf l ρ1) ρ1, Rx, h1, fun l ρ1 Hs1 H1 v a b c r => ⟨l, ρ1, Hs1, b, c, r, a⟩, h3⟩
  refine thn ((ha Z).run pins s σ H _ I hq) fun v s1 ⟨x, H1, I1, r1, l, ρ1, Hs1, S1, e1, r, d, ds, p1, p2, q⟩ => ?_
  have r1' : LR X.K X.mg Hs1 σ x l := r
  have new : ∀ b ∈ [s1.heap.objs.size], FpOk X pins H1 b := fun b hb => by
    have e : b = s1.heap.objs.size := by simpa using hb
    subst e
    exact I1.fpOk (Nat.le_refl _) (I1.hok.fresh (Nat.le_refl _))
  have tupc : (d = .tup ds ∨ d = .gt ds) → wpAny (model X.prog X.w) X.A (pyIter v) (PIE X pins σ tg R) X.xe s1 := fun hd => by
    obtain ⟨a, vs, rfl, t1, t2, t3⟩ := stayT r S1 p1 hd
    cases r1
    obtain ⟨its, rv, p, hz⟩ := I1.tuple t1
    refine wpAny_pyIter_tuple (show s1.heap.IsTuple a its.toArray from p) ?_
    refine ⟨s1.heap.objs.size, [s1.heap.objs.size], _, _, H1, rfl, I1.kept (t' := s1.toks) fun b o e => Heap.get?_push_of_some _ e, turn_tuple a _, ⟨_, Heap.get?_push_size _ rfl, rfl, rfl⟩, new, ?_⟩
    exact h2 ds _ ρ1 Hs1 H1 _ _ q S1 e1 it_tup ⟨vs, t1, t2⟩ (fun ρ2 Hs2 H2 S2 e2 _ => t3 Hs2 H2 e2 S2.sub) (fun _ => t3) (by rw [← t2.length]; exact hz)
  cases d <;> simp only [items, reduceCtorEq, Option.some.injEq] at p2
  · subst p2; exact tupc (.inl rfl)
  · subst p2
    obtain ⟨a, vs, rfl, t1, t2, t3, t4⟩ := stayL r S1 p1
    cases r1
    obtain ⟨its, rv, p, hz⟩ := I1.list (SqL.of t1)
    refine wpAny_pyIter_list p.isList ?_
    refine ⟨s1.heap.objs.size, [s1.heap.objs.size], _, _, H1, rfl, I1.kept (t' := s1.toks) fun b o e => Heap.get?_push_of_some _ e, turn_list a _, ⟨_, Heap.get?_push_size _ rfl, rfl, rfl⟩, new, ?_⟩
    exact h2 _ _ ρ1 Hs1 H1 _ _ q S1 e1 it_list ⟨vs, SqL.of t1, t2⟩ t3 t4 (by rw [← t2.length]; exact hz)
  · subst p2; exact tupc (.inr rfl)
  · subst p2
    obtain ⟨a, vs, rfl, t1, t2⟩ := RepO.gl S1.sub (LR.peek r1' S1 p1)
    rename_i ds
    have t3 : Rep X.K X.mg Hs1 (.ref a) (.gl ds) := by
      rcases LR.peek r1' S1 p1 with z | ⟨_, _, _, _, h2, _⟩ | ⟨_, _, _, _, _, h2, _⟩ | ⟨_, _, _, _, _, h2, _⟩
      · exact z
      all_goals cases h2
    cases t3 with
    | gl g1 g2 =>
      have u1 := Same.lstS S1.sub g1
      cases r1
      obtain ⟨its, rv, p, hz⟩ := I1.list u1
      refine wpAny_pyIter_list p.isList ?_
      refine ⟨s1.heap.objs.size, [s1.heap.objs.size], _, _, H1, rfl, I1.kept (t' := s1.toks) fun b o e => Heap.get?_push_of_some _ e, turn_list a _, ⟨_, Heap.get?_push_size _ rfl, rfl, rfl⟩, new, ?_⟩
      exact h2 _ _ ρ1 Hs1 H1 _ _ q S1 e1 it_list ⟨_, u1, g2⟩ (fun ρ2 Hs2 H2 S2 e2 _ => ⟨_, Same.lstS S2.sub (Same.lstS e2 g1), g2.mono e2⟩) (fun _ Hs2 H2 e2 e3 => ⟨_, Same.lstS e3 (Same.lstS e2 g1), g2.mono e2⟩) (by rw [← g2.length]; exact hz)⟩
theorem ji_r1 (o : Ok P w K mg base k T X W) {y : Expr} {p pos : Pos} {wa : WE} (hg : glb X.env.scope "range" = true) (hy : noStar y = true) (ha : JE X W y wa) : JI X W tg (.Call (.Name "range" p) [y] [] pos) (wR1 wa) := fun Z =>
  piI (pi_range1 (gl_of hg) (o.no "range" (by decide)) (pa_cons (ha Z) pa_nil (star_no hy)) (by rw [star_no hy]; rfl)) fun σ H R ⟨Hs, ρ, Qd, Rx, S, h1, h2, h3⟩ =>
    ⟨Hs, ρ, S, fun d ρ1 => ∃ j, d = .int j ∧ -(2 ^ 62) ≤ j ∧ j < 2 ^ 62 ∧ j.toNat ≤ sizeLine ∧ Qd (upTo j.toNat 0) (fun _ => True) ρ1, Rx, h1, fun d ρ1 Hs1 H1 v a b c r => by
      obtain ⟨j, rfl, b1, b2, b3, q⟩ := a
      cases r
      exact ⟨j, rfl, b1, b2, h2 _ _ ρ1 Hs1 H1 _ _ q b c it_range trivial (fun _ _ _ _ _ _ => trivial) (fun _ _ _ _ _ => trivial) (by simpa [upTo] using b3)⟩, h3⟩
theorem ji_r2 (o : Ok P w K mg base k T X W) {y z : Expr} {p pos : Pos} {wa wb : WE} (hg : glb X.env.scope "range" = true) (hy : noStar y = true) (hz : noStar z = true) (ha : JE X W y wa) (hb : JE X W z wb) : JI X W tg (.Call (.Name "range" p) [y, z] [] pos) (wR2 wa wb) := fun Z =>
  piI (pi_range2 (gl_of hg) (o.no "range" (by decide)) (pa_cons (ha Z) (pa_cons (hb Z) pa_nil (star_no hz)) (star_no hy)) (by rw [star_no hy, star_no hz]; rfl) (by rw [star_no hz]; rfl)) fun σ H R ⟨Hs, ρ, Qd, Rx, S, h1, h2, h3⟩ =>
    ⟨Hs, ρ, S, _, Rx, h1, fun d ρ1 Hs1 H1 v a b c r => ⟨Hs1, ρ1, b, _, Rx, a, fun e ρ2 Hs2 H2 u a2 b2 c2 r2 => by
      obtain ⟨i, j, rfl, rfl, b1, b3, q⟩ := a2
      cases r
      cases r2
      exact ⟨i, j, rfl, b1, h2 _ _ ρ2 Hs2 H2 _ _ q b2 (c.trans c2) it_range trivial (fun _ _ _ _ _ _ => trivial) (fun _ _ _ _ _ => trivial) (by simpa [upTo] using b3)⟩, fun e ρ' Hs' H' cls a x y z => h3 e ρ' Hs' H' cls a x y (c.trans z)⟩, h3⟩
theorem ji_zip (o : Ok P w K mg base k T X W) {y z : Expr} {xs : List Expr} {kk : Nat} {p pos tp : Pos} {wa wb : WA} (hg : glb X.env.scope "zip" = true) (hy : noStar y = true) (hz : noStar z = true) (ha : JA X W y wa) (hb : JA X W z wb) :
    JI X W (.Tuple xs kk tp) (.Call (.Name "zip" p) [y, z] [] pos) (wZip wa wb) := fun Z =>
  piI (pi_zipX (gl_of hg) (o.no "zip" (by decide)) (pa_cons (ha Z) (pa_cons (hb Z) pa_nil (star_no hz)) (star_no hy)) (star_no hy) (by rw [star_no hz]; rfl)) fun σ H R ⟨Hs, ρ, Qd, Rx, S, h1, h2, h3⟩ =>
    ⟨Hs, ρ, S, _, Rx, h1, fun l ρ1 Hs1 H1 v a b c r => ⟨Hs1, ρ1, b, _, Rx, a, fun m ρ2 Hs2 H2 u a2 b2 c2 r2 => by
      obtain ⟨d, e, p1, p2, xs, ys, hd, hl, q⟩ := a2
      have r1 := LR.mono c2 r
      rcases hd with ⟨rfl, rfl⟩ | ⟨rfl, rfl⟩ | ⟨rfl, rfl⟩
      · obtain ⟨a, vs, rfl, t1, t2, t3, t4⟩ := stayL r1 b2 p1
        obtain ⟨b', us, rfl, s1, s2, s3, s4⟩ := stayL r2 b2 p2
        exact ⟨a, b', vs, us, rfl, .inl ⟨SqL.of t1, SqL.of s1, h2 _ _ ρ2 Hs2 H2 _ _ q b2 (c.trans c2) it_zipL ⟨⟨vs, SqL.of t1, t2⟩, ⟨us, SqL.of s1, s2⟩⟩
          (fun ρ3 Hs3 H3 S3 e3 lk => ⟨t3 ρ3 Hs3 H3 S3 e3 lk.1, s3 ρ3 Hs3 H3 S3 e3 lk.2⟩) (fun lk Hs3 H3 e3 e4 => ⟨t4 (fun ρ => (lk ρ).1) Hs3 H3 e3 e4, s4 (fun ρ => (lk ρ).2) Hs3 H3 e3 e4⟩) hl⟩⟩
      · obtain ⟨a, vs, rfl, t1, t2, t3⟩ := stayT r1 b2 p1 (.inl rfl)
        obtain ⟨b', us, rfl, s1, s2, s3⟩ := stayT r2 b2 p2 (.inl rfl)
        exact ⟨a, b', vs, us, rfl, .inr (.inl ⟨t1, s1, h2 _ _ ρ2 Hs2 H2 _ _ q b2 (c.trans c2) it_zipT ⟨⟨vs, t1, t2⟩, ⟨us, s1, s2⟩⟩
          (fun ρ3 Hs3 H3 S3 e3 _ => ⟨t3 Hs3 H3 e3 S3.sub, s3 Hs3 H3 e3 S3.sub⟩) (fun _ Hs3 H3 e3 e4 => ⟨t3 Hs3 H3 e3 e4, s3 Hs3 H3 e3 e4⟩) hl⟩)⟩
      · obtain ⟨a, vs, rfl, t1, t2, t3⟩ := stayT r1 b2 p1 (.inl rfl)
        obtain ⟨b', us, rfl, s1, s2, s3, s4⟩ := stayL r2 b2 p2
        exact ⟨a, b', vs, us, rfl, .inr (.inr ⟨t1, SqL.of s1, h2 _ _ ρ2 Hs2 H2 _ _ q b2 (c.trans c2) it_zipX ⟨⟨vs, t1, t2⟩, ⟨us, SqL.of s1, s2⟩⟩
          (fun ρ3 Hs3 H3 S3 e3 lk => ⟨t3 Hs3 H3 e3 S3.sub, s3 ρ3 Hs3 H3 S3 e3 lk.2⟩) (fun lk Hs3 H3 e3 e4 => ⟨t3 Hs3 H3 e3 e4, s4 (fun ρ => (lk ρ).2) Hs3 H3 e3 e4⟩) hl⟩)⟩, fun e ρ' Hs' H' cls a x y z => h3 e ρ' Hs' H' cls a x y (c.trans z)⟩, h3⟩

/-! ### comprehensions -/
abbrev W0 : WX := fun _ _ _ _ => False
theorem wipe_idem (σ : L2.St) (vs : List Nat) : wipe (wipe σ vs) vs = wipe σ vs := by
  refine List.ext_getElem? fun j => ?_
  have h : ∀ j, (wipe (wipe σ vs) vs).getD j none = (wipe σ vs).getD j none := fun j => by
    rw [wipe_at, wipe_at]
    split <;> rfl
  have hj := h j
  rw [List.getD_eq_getElem?_getD, List.getD_eq_getElem?_getD] at hj
  by_cases l : j < σ.length
  · have l1 : j < (wipe (wipe σ vs) vs).length := by rw [wipe_length, wipe_length]; exact l
    have l2 : j < (wipe σ vs).length := by rw [wipe_length]; exact l
    rw [List.getElem?_eq_getElem l1, List.getElem?_eq_getElem l2] at hj ⊢
    exact congrArg some hj
  · rw [List.getElem?_eq_none (by rw [wipe_length, wipe_length]; omega), List.getElem?_eq_none (by rw [wipe_length]; omega)]
def xE {β : Type} (t : Zn → L2.St → Hp → (β → Hp → Prop) → Prop) : L2.St → Hp → (β → Hp → Prop) → Prop := fun σ H Q => ∃ Z, t Z σ H Q
/-- the reading of a comprehension -/
theorem comp_read {m0 : Bool} {Z : Zn} {vs : List Nat} {t : Tg} {wi : WI} {c : (Bool → En → Prop) → (Exc → En → Prop) → En → Prop} {we : WE} {σ : L2.St} {H : Hp} {Q : VK} (h : tF X.K X.mg m0 Z W (wComp vs (wTG t) wi c we) σ H Q) :
    tLc (tI X.K X.mg Z W wi) (fun v σ H Q => ∃ Z, tG X.K X.mg Z vs t v σ H Q) (xE fun Z => tW X.K X.mg rBo Z W0 c) (xE fun Z => tE X.K X.mg Z W0 we) vs σ H Q := by
  obtain ⟨Hs, ρ, S, Qd, R, h1, h2, h3⟩ := h
  refine ⟨Hs, ρ, _, R, S, h1, ?_, h3⟩
  rintro ds lk ρ1 Hs1 H1 J src ⟨lf, hw⟩ S1 e1 I1 s1 st1 _ hz p hp
  obtain ⟨f1, f2, f3⟩ := S1.fresh hp
  let Wn : List D → List D → En → Prop := wLoop (wTG t) vs (fun ρ => lk (EV.unwipe ρ1 ρ vs)) c we (fun acc ρ2 => Qd (.lst acc) (EV.unwipe ρ1 ρ2 vs))
  let Iv : Nat → Nat → Hp → Prop := fun i m H' => ∃ Hs2 ρ2 acc accV, i ≤ ds.length ∧ m = ds.length - i ∧ SR X.K X.mg Z Hs2 H' (wipe σ vs) ρ2 ∧ Same Hs1 Hs2 ∧ Hs2 p = none ∧ H' p = some (.lst accV) ∧ Reps X.K X.mg Hs2 accV acc ∧
    (∀ i, ¬ Owns (wipe σ vs) ρ2 i p) ∧ acc.length ≤ i ∧ Wn (ds.drop i) acc ρ2
  refine ⟨Iv, ⟨_, Hs1, wipeE ρ1 vs, [], [], Nat.zero_le _, rfl, (S1.wipe lf).loose hp, Same.refl _, f1, upd_same, .nil, ?_, Nat.le_refl _, hw⟩, ?_⟩
  · exact fun i ow => (S1.wipe lf).ownAt ow |>.2 hp
  · rintro i m H' ⟨Hs2, ρ2, acc, accV, hi, rfl, S2, e2, d1, d2, d3, d4, hacc, hwn⟩
    have su := S1.unwipe lf S2 e2
    by_cases hlt : i < ds.length
    · right
      have ed : ds.drop i = ds[i] :: ds.drop (i + 1) := List.drop_eq_getElem_cons hlt
      have hwn' : Wn (ds[i] :: ds.drop (i + 1)) acc ρ2 := by rw [← ed]; exact hwn
      obtain ⟨hlk, hfd⟩ := hwn'
      have src2 := st1 _ Hs2 H' su e2 hlk
      refine ⟨I1.go i Hs2 H' src2 hlt, fun H3 => ∃ m', m' < ds.length - i ∧ Iv (i + 1) m' H3, fun _ h => h, fun x H3 y => ?_⟩
      have z0 : Z.H p = none := f2
      have zs : Z.Hs p = none := S2.hs0 d1
      have np : p ∉ Z.P := S2.notP d4
      obtain ⟨Hs3, S3, e3, r3, src3⟩ := I1.yld (Z.with p (.lst accV)) (wipe σ vs) ρ2 i Hs2 H' x H3 (S2.guard rfl d2 d1 d4) src2 y ds[i] (by simp [hlt])
      have la : accV.length = acc.length := d3.length
      refine ⟨Z.with p (.lst accV), Hs3, ρ2, ds[i], _, S3, r3, hfd, fun ρ3 σ3 hq S4 ew => ?_⟩
      rw [wipe_idem] at ew
      refine ⟨ew, Z.with p (.lst accV), Hs3, ρ3, S4, _, _, hq, fun b ρ4 Hs4 H4 v qb S5 e5 rr => ?_, fun c ρ' Hs' H' cls a r _ _ _ => r.elim⟩
      have rr : v = b := rr
      subst rr
      have nowipe : ∀ {ρ5 : En}, (∀ j, ¬ Owns σ3 ρ5 j p) → ∀ j, ¬ Owns (wipe σ vs) (wipeE ρ5 vs) j p := fun {ρ5} no j ⟨q1, q2⟩ => by
        rw [← ew, wipe_at] at q1
        rw [wipeE_at] at q2
        by_cases m : j ∈ vs
        · rw [if_pos m] at q1; cases q1
        · rw [if_neg m] at q1 q2; exact no j ⟨q1, q2⟩
      cases v with
      | true =>
        simp only [if_true] at qb ⊢
        refine ⟨Z.with p (.lst accV), Hs4, ρ4, S5, _, _, qb, fun d ρ5 Hs5 H5 v qe S6 e6 rr => ?_, fun c ρ' Hs' H' cls a r _ _ _ => r.elim⟩
        obtain ⟨S7, hD5, hs5, no5⟩ := S6.unguard z0 zs np
        obtain ⟨lf5, hw5⟩ := qe
        have S8 := (S7.other (o := .lst (accV ++ [v])) hD5 rfl hs5 z0 no5).wipe lf5
        rw [ew] at S8
        refine ⟨accV, hD5, by omega, ds.length - (i + 1), by omega, Hs5, wipeE ρ5 vs, acc ++ [d], accV ++ [v], hlt, rfl, S8, ?_, hs5, upd_same, ?_, nowipe no5, ?_, hw5⟩
        · exact e2.trans (e3.trans (e5.trans e6))
        · exact (d3.mono (e3.trans (e5.trans e6))).append (.cons rr .nil)
        · simp; omega
      | false =>
        simp only [Bool.false_eq_true, if_false] at qb ⊢
        obtain ⟨S7, hD5, hs5, no5⟩ := S5.unguard z0 zs np
        obtain ⟨lf5, hw5⟩ := qb
        have S8 := S7.wipe lf5
        rw [ew] at S8
        exact ⟨ds.length - (i + 1), by omega, Hs4, wipeE ρ4 vs, acc, accV, hlt, rfl, S8, e2.trans (e3.trans e5), hs5, hD5, d3.mono (e3.trans e5), nowipe no5, by omega, hw5⟩
    · left
      have ei : i = ds.length := by omega
      subst ei
      have hwn' : Wn [] acc ρ2 := by
        have : ds.drop ds.length = [] := List.drop_length
        rw [← this]; exact hwn
      obtain ⟨hlk, hq⟩ := hwn'
      refine ⟨I1.stop Hs2 H' (st1 _ Hs2 H' su e2 hlk), ?_⟩
      refine h2 _ _ Hs2 H' (.ref p) hq su (e1.trans e2) ⟨.inr ⟨p, rfl, d1, f2, fun j ow => ?_, .inl ⟨accV, acc, rfl, d2, d3⟩⟩, fun _ i => notRep d1 i⟩
      have hl : ρ1.length = ρ2.length := by rw [← S1.len, ← S2.len, wipe_length]
      obtain ⟨o1, o2⟩ := ow
      rw [unwipe_at ρ1 ρ2 j hl] at o2
      by_cases m : j ∈ vs
      · rw [if_pos m] at o2
        revert o2
        cases ρ1.at j <;> simp [Slot.fixed, Slot.owned]
      · rw [if_neg m] at o2
        exact d4 j ⟨by rw [wipe_at, if_neg m]; exact o1, o2⟩
end
end EV
set_option Elab.async false
set_option linter.all false
set_option maxRecDepth 100000
set_option maxHeartbeats 4000000
/-! EV10b: lists and dicts that a slot owns are changed. -/
namespace EV
open PySem PySem.Spec PyProof.Rows L2
section
variable {K : PySem.W.Frag} {mg : Mg} {Z : Zn} {Hs H : Hp} {σ : L2.St} {ρ : En}
theorem SR.lput (S : SR K mg Z Hs H σ ρ) {i : Nat} {ds : List D} (h : (ρ.at i).lst? = some ds) : ∃ a vs, σ.getD i none = some (.ref a) ∧ H a = some (.lst vs) ∧ Reps K mg Hs vs ds ∧
    ∀ ws es, Reps K mg Hs ws es → SR K mg Z Hs (upd H a (.lst ws)) σ (ρ.set i ((ρ.at i).putL es)) := by
  have sl := S.sl i
  cases q : ρ.at i with
  | ol es | bl es =>
    rw [q] at h sl
    cases h
    obtain ⟨a, vs, h1, h2, h3, h4⟩ := sl
    refine ⟨a, vs, h1, h3, h4, fun ws es r => S.write (i := i) ⟨h1, by rw [q]; rfl⟩ ⟨a, ws, rfl, h2, upd_same, r⟩ rfl (by rw [q]; rfl)⟩
  | _ => rw [q] at h; cases h
theorem lst_set {s : Slot} {es : List D} (h : s.lst? = some es) : s.set = true := by cases s <;> first | rfl | cases h
theorem ty_list {a : Addr} {vs : List V} (h : H a = some (.lst vs)) : tyV K "list" (.ref a) H := .inl ⟨rfl, vs, SqL.of h⟩
end
def rRemD (K : PySem.W.Frag) : V → List V → Hp → VK → Prop := fun x xs H Q => ∃ (a : Addr) (y : V) (vs : List V) (p : PyData) (ps : List PyData) (j : Nat), x = V.ref a ∧ xs = [y] ∧ H a = some (.lst vs) ∧ DpAll K H vs ps ∧ Dp K H y p ∧
  PyData.plainAll ps = true ∧ p.plain = true ∧ SeqAt.shaped p = true ∧ SeqAt.dataPlace ps p = some j ∧ Q .non (upd H a (.lst (vs.eraseIdx j)))
theorem mt_removeD {X : Cx} (hu : X.A.units + 65 < cLine) : MtR X "list.remove" (rRemD X.K) := by
  intro pins s σ H x xs v us Q I rx rxs h
  obtain ⟨a, y, vs, p, ps, j, rfl, rfl, hH, ha, hy, pl, pp, sp, hp, q⟩ := h
  cases rx
  obtain ⟨u, rfl, ry⟩ := rxs.one
  obtain ⟨bs, r1⟩ := Dp.reads I p y u hy ry
  obtain ⟨z, its, n, rv, hl, e⟩ := I.lstM hH
  obtain ⟨as, r2⟩ := Dp.readsAll I ps vs its ha rv
  refine SeqAt.remove_list_data (vs := its.toArray) ⟨_, e, rfl, n, rfl⟩ (by simpa using r2) r1 pl pp (room_in_shaped sp hu) hp (by simpa [← hl] using z) ?_
  refine ⟨.non, _, I.lset (its' := its.eraseIdx j) hH e ?_ (rv.eraseIdx j) (Nat.le_trans (len_erase _ _) z), rfl, q⟩
  show its.toArray.eraseIdxIfInBounds j = (its.eraseIdx j).toArray
  rw [List.eraseIdxIfInBounds_toArray]
section
variable {P : Program} {w : World} {K : PySem.W.Frag} {mg : Mg} {base : Heap} {k : Nat} {T : Tb} {X : Cx} {W : WX} {e : Expr}
theorem few1 {y : Expr} {env : Env} {cpos : Pos} (h : noStar y = true) : ((backTo cpos (starEach [y] env)).all (fun x => !x.1) && (backToKw cpos (keywordEach [] env)).all (fun x => x.1.isSome)
      && decide (([y] : List Expr).length + ([] : List Keyword).length + (if ([] : List Keyword).isEmpty then 0 else 1) < 30)) = true := by
  rw [star_no h]; rfl
theorem base_name {o : Expr} {N : List Str} {sc : Scope} {i : Nat} {m : Str} {env : Env} (h : okName N sc i o = true) : attributeBase o m env (eval o env) = eval o env := by
  obtain ⟨x, p, rfl, _⟩ := name_of h
  rfl
/-- a method of one place on a list that a slot owns -/
theorem j_lm {o y : Expr} {i : Nat} {m : Str} {id : String} {r : V → List V → Hp → VK → Prop} {wr : D → List D → (D → List D → Prop) → Prop} {apos cpos : Pos} {we : WE} (slot : PySem.Slot "list" m id)
    (hty : typeOf (.builtin id) = pure (.type "method_descriptor")) (hm : MtR X id r) (hn : okName X.N X.env.scope i o = true) (hy : noStar y = true) (hl : (apos.endLine == cpos.line) = true) (hj : JE X W y we)
    (hr : ∀ (Hs H : Hp) (a : Addr) (v : V) (vs : List V) (d : D) (ds : List D) (Qw : D → List D → Prop) (Q : VK), Same Hs H → H a = some (.lst vs) → Reps X.K X.mg Hs vs ds → Rep X.K X.mg Hs v d → wr d ds Qw →
      (∀ z u es ws, Qw z es → Rep X.K X.mg Hs u z → Reps X.K X.mg Hs ws es → Q u (upd H a (.lst ws))) → r (.ref a) [v] H Q) :
    JE X W (.Call (.Attribute o m apos) [y] [] cpos) (fun Q R ρ => (∃ es, (ρ.at i).lst? = some es) ∧ we (fun d ρ1 => ∃ ds, (ρ1.at i).lst? = some ds ∧ wr d ds fun z es => Q z (ρ1.set i ((ρ1.at i).putL es))) R ρ) := fun Z =>
  peI (pe_bm PySem.F.plainAttrs_list slot hty hm (j_pk (W := W) hn Z) (pa_cons (hj Z) pa_nil (star_no hy)) (base_name hn) (few1 hy) hl (star_no hy) rfl) fun σ H Q ⟨Hs, ρ, S, Qd, R, ⟨⟨es, hL⟩, hw⟩, h2, h3⟩ => by
    refine ⟨Hs, ρ, S, fun l ρ1 => l = .inr i ∧ ρ1 = ρ, fun _ _ => False, ⟨lst_set hL, rfl, rfl⟩, ?_, fun c ρ' Hs' H' cls a r _ _ _ => r.elim⟩
    rintro l ρ1 Hs1 H1 x ⟨rfl, rfl⟩ S1 e1 rx
    have hv : σ.getD i none = some x := rx
    obtain ⟨a, vs, g1, g2, g3, _⟩ := S1.lput hL
    rw [hv] at g1
    obtain rfl := Option.some.inj g1
    refine ⟨ty_list g2, Hs1, ρ1, S1, _, R, hw, ?_, fun c ρ' Hs' H' cls a x y z => h3 c ρ' Hs' H' cls a x y (e1.trans z)⟩
    rintro d ρ2 Hs2 H2 u ⟨ds, p1, p2⟩ S2 e2 ru
    obtain ⟨b, ws, q1, q2, q3, q4⟩ := S2.lput p1
    rw [hv] at q1
    obtain rfl := V.ref.inj (Option.some.inj q1)
    exact hr Hs2 H2 a u ws d ds _ Q S2.sub q2 q3 ru p2 fun z u' es' ws' hq rz res => h2 z _ Hs2 _ u' hq (q4 ws' es' res) (e1.trans e2) rz
theorem j_app {o y : Expr} {i : Nat} {apos cpos : Pos} {we : WE} (hn : okName X.N X.env.scope i o = true) (hy : noStar y = true) (hl : (apos.endLine == cpos.line) = true) (hj : JE X W y we) :
    JE X W (.Call (.Attribute o "append" apos) [y] [] cpos) (wApp i we) :=
  j_lm (wr := fun d ds Qw => ds.length < sizeLine ∧ Qw .non (ds ++ [d])) PySem.F.slot_list_append PySem.F.type_list_append mt_append hn hy hl hj fun Hs H a v vs d ds Qw Q S hH rs rd ⟨h1, h2⟩ k =>
    ⟨a, vs, v, rfl, rfl, hH, by rw [rs.length]; exact h1, k _ _ _ _ h2 .non (rs.append (.cons rd .nil))⟩
theorem j_popAt {o y : Expr} {i : Nat} {apos cpos : Pos} {we : WE} (hn : okName X.N X.env.scope i o = true) (hy : noStar y = true) (hl : (apos.endLine == cpos.line) = true) (hj : JE X W y we) :
    JE X W (.Call (.Attribute o "pop" apos) [y] [] cpos) (wPopAt i we) := by
  have j := j_lm (W := W) (wr := fun d ds Qw => ∃ j k z, d = .int j ∧ -(2 ^ 63) ≤ j ∧ j < 2 ^ 63 ∧ seqIndex? j ds.length = some k ∧ ds[k]? = some z ∧ Qw z (ds.eraseIdx k)) PySem.F.slot_list_pop PySem.F.type_list_pop mt_popAt hn hy hl hj fun Hs H a v vs d ds Qw Q S hH rs rd ⟨j, k, z, h1, h2, h3, h4, h5, h6⟩ kk => by
    subst h1
    cases rd
    obtain ⟨v, g1, g2⟩ := rs.get h5
    exact ⟨a, vs, j, k, v, rfl, rfl, hH, h2, h3, by rw [rs.length]; exact h4, g1, kk _ _ _ _ h6 g2 (rs.erase k)⟩
  exact j
theorem j_rem (o : Ok P w K mg base k T X W) {t y : Expr} {i : Nat} {apos cpos : Pos} {we : WE} (hn : okName X.N X.env.scope i t = true) (hy : noStar y = true) (hl : (apos.endLine == cpos.line) = true) (hj : JE X W y we) :
    JE X W (.Call (.Attribute t "remove" apos) [y] [] cpos) (wRem i we) := by
  have hu := o.hu
  have j := j_lm (W := W) (wr := fun d ds Qw => ∃ j, remD ds d = some j ∧ Qw .non (ds.eraseIdx j)) PySem.F.slot_list_remove PySem.F.type_list_remove (mt_removeD (by omega)) hn hy hl hj fun Hs H a v vs d ds Qw Q S hH rs rd ⟨j, h1, h2⟩ kk => by
    unfold remD at h1
    split at h1
    · rename_i p ps e1 e2
      by_cases c : PyData.plainAll ps = true ∧ p.plain = true ∧ SeqAt.shaped p = true
      · rw [if_pos c] at h1
        exact ⟨a, v, vs, p, ps, j, rfl, rfl, hH, Reps.dp (rs.mono S) e2, Rep.dp (rd.mono S) e1, c.1, c.2.1, c.2.2, h1, kk _ _ _ _ h2 .non (rs.erase j)⟩
      · rw [if_neg c] at h1; cases h1
    · cases h1
  exact j
theorem j_popL {o : Expr} {i : Nat} {apos cpos : Pos} (hn : okName X.N X.env.scope i o = true) (hl : (apos.endLine == cpos.line) = true) : JE X W (.Call (.Attribute o "pop" apos) [] [] cpos) (wPopL i) := fun Z =>
  peI (pe_bm0 PySem.F.plainAttrs_list PySem.F.slot_list_pop PySem.F.type_list_pop mt_pop (j_pk (W := W) hn Z) (base_name hn) hl) fun σ H Q ⟨Hs, ρ, S, Qd, R, ⟨ds, d, hL, hd, hq⟩, h2, h3⟩ => by
    refine ⟨Hs, ρ, S, fun l ρ1 => l = .inr i ∧ ρ1 = ρ, fun _ _ => False, ⟨lst_set hL, rfl, rfl⟩, ?_, fun c ρ' Hs' H' cls a r _ _ _ => r.elim⟩
    rintro l ρ1 Hs1 H1 x ⟨rfl, rfl⟩ S1 e1 rx
    have hv : σ.getD i none = some x := rx
    obtain ⟨a, vs, g1, g2, g3, g4⟩ := S1.lput hL
    rw [hv] at g1
    obtain rfl := Option.some.inj g1
    obtain ⟨v, p1, p2⟩ := g3.get hd
    refine ⟨ty_list g2, a, vs, v, rfl, rfl, g2, by rw [g3.length]; exact p1, h2 _ _ Hs1 _ _ hq (g4 _ _ ?_) e1 p2⟩
    rw [List.dropLast_eq_take, List.dropLast_eq_take, g3.length]
    exact g3.take _
end
end EV
set_option Elab.async false
set_option linter.all false
set_option maxRecDepth 100000
set_option maxHeartbeats 4000000
/-! EV10c: lambdas: they are made; the cells that they keep. -/
namespace EV
open PySem PySem.Spec PyProof.Rows L2
/-- what the making of a lambda leaves -/
structure Grew (P : Addr) (Hs H Hs1 H1 : Hp) : Prop where
  st : Same Hs Hs1
  sub : Same Hs1 H1
  old : ∀ b o, H b = some o → b ≠ P → H1 b = some o
  dom : ∀ b, H b ≠ none → H1 b ≠ none
  new : ∀ b, Hs1 b ≠ none → Hs b ≠ none ∨ H b = none
section
variable {X : Cx} {pins : List (Addr × Obj)} {σ : L2.St} {H : Hp} {s : Shared}
theorem lamO_ok {P : Program} {w : World} {H : Hp} {h : Heap} {f c : Addr} {l : LamD} {pm ctv : Value} (e : h.get? f = some (PySem.W.kla_obj "<lambda>" l.q l.params l.body l.scope l.cl pm c ctv)) : ObjOk P w H h f (LamO f c l) :=
  ⟨⟨pm, ctv, e⟩, ⟨_, e⟩, fun h1 h2 ⟨pm, ctv, a⟩ st => ⟨pm, ctv, st _ a⟩⟩
/-- a lambda is made, and tracked -/
theorem lam_new {Hs : Hp} {c P : Addr} {params : Arguments} {body : Expr} {scope : Scope} {pos : Pos} {n : Nat} {E : Value → Shared → Prop} {Q : Value → Shared → Prop} (I : Inv X pins σ H s) (sub : Same Hs H) (TB : LamX.TabB X.base X.mg c P) (hcode : X.env.code = .ref c)
    (hT : TabR Hs H P (X.env.qual ++ "<lambda>")) (hdef : defaultsOf params X.env = ([], [])) (hfree : ∀ y ∈ scope.names, y.2 = .free → ∃ c, X.env.cells.lookup y.1 = some c)
    (h : ∀ (f c' : Addr) (Hs1 H1 : Hp) (s' : Shared), Inv X pins σ H1 s' → Grew P Hs H Hs1 H1 → TabR Hs1 H1 P (X.env.qual ++ "<lambda>") →
      Hs1 f = some (LamO f c' ⟨cloFrom X.env.cells scope.names [], X.env.qual ++ "<lambda>", params, body, scope, n⟩) → Hs1 c' = some (LamX.CodeO c' (X.env.qual ++ "<lambda>")) → Q (.ref f) s') :
    wpAny (model X.prog X.w) X.A (eval (.Lambda params body scope pos) X.env) Q E s := by
  obtain ⟨nP, ps, hP, ht, ha⟩ := hT
  have bP : s.heap.BuiltinsAt X.mg P := TB.bm.keeps I.bk
  have hP' : s.heap.get? P = some { cls := .none, data := .fields ps } := I.hok P _ hP
  refine PySem.W.kla_eval hdef ?_
  generalize hl : (⟨cloFrom X.env.cells scope.names [], X.env.qual ++ "<lambda>", params, body, scope, n⟩ : LamD) = l at h
  cases hc : codeAmong pos ps.toList with
  | none =>
    refine PySem.W.kla_makeFunction (mg := X.mg) (c := c) (P := P) (ps := ps) (closure_ok hfree) I.ok.glob (I.mod.glob.keeps I.bk) hcode (TB.code.keeps I.bk) hP' ht hc TB.gP bP fun c' ctv h' tk hx hge hlt hrec htb => ?_
    obtain ⟨c2, oc, vs, t, e2, hoc, hd, hv⟩ := hrec
    cases e2
    have hsz : s.heap.objs.size ≤ h'.objs.size := Nat.le_trans hge (Nat.le_of_lt hlt)
    have nC : H c' = none := I.hok.fresh hge
    have nF : H h'.objs.size = none := I.hok.fresh hsz
    have ne1 : h'.objs.size ≠ c' := Nat.ne_of_gt hlt
    have ne2 : h'.objs.size ≠ P := Nat.ne_of_gt (Nat.lt_of_lt_of_le (Heap.lt_size hP') hsz)
    have ne3 : c' ≠ P := Nat.ne_of_gt (Nat.lt_of_lt_of_le (Heap.lt_size hP') hge)
    have I0 := LamX.inv_table (q := X.env.qual ++ "<lambda>") (t' := tk) (more := #[rawInt pos.line, rawInt pos.col, .ref c']) (h' := h') I hP (fun b o hb e => hx b o hb e) htb hge ⟨oc, vs, t, hoc, hd, hv⟩
    have e1 : ((h'.push (PySem.W.kla_obj "<lambda>" (X.env.qual ++ "<lambda>") params body scope (cloFrom X.env.cells scope.names []) ((X.mg "__name__").getD .none) c' ctv))).get? h'.objs.size = some _ := Heap.get?_push_size _ rfl
    have I1 := I0.laid (t' := tk) (h' := h'.push (PySem.W.kla_obj "<lambda>" (X.env.qual ++ "<lambda>") params body scope (cloFrom X.env.cells scope.names []) ((X.mg "__name__").getD .none) c' ctv)) (a := h'.objs.size) (o := LamO h'.objs.size c' l)
      (fun b o e => Heap.get?_push_of_some _ e) (Nat.le_refl _) (lamO_ok (l := l) (by rw [← hl]; exact e1))
    have nHsC : Hs c' = none := by
      cases e : Hs c' with
      | none => rfl
      | some u => rw [sub _ _ e] at nC; cases nC
    have nHsF : Hs h'.objs.size = none := by
      cases e : Hs h'.objs.size with
      | none => rfl
      | some u => rw [sub _ _ e] at nF; cases nF
    have gr : Same Hs (upd (upd Hs c' (LamX.CodeO c' (X.env.qual ++ "<lambda>"))) h'.objs.size (LamO h'.objs.size c' l)) := fun b u e => by
      rw [upd_ne (ne_of_none e nHsF), upd_ne (ne_of_none e nHsC)]; exact e
    refine h h'.objs.size c' (upd (upd Hs c' (LamX.CodeO c' (X.env.qual ++ "<lambda>"))) h'.objs.size (LamO h'.objs.size c' l)) _ _ I1 ⟨gr, fun b u e => ?_, fun b o e nb => ?_, fun b e => ?_, fun b e => ?_⟩ ⟨?_, ps ++ #[rawInt pos.line, rawInt pos.col, .ref c'], ?_, ?_, fun p' cv hcv => ?_⟩ upd_same ?_
    · by_cases hb : b = h'.objs.size
      · subst hb; rw [upd_same] at e ⊢; exact e
      · rw [upd_ne hb] at e ⊢
        by_cases hb2 : b = c'
        · subst hb2; rw [upd_same] at e ⊢; exact e
        · rw [upd_ne hb2] at e ⊢
          rw [upd_ne (fun z => by rw [z, nP] at e; cases e)]
          exact sub _ _ e
    · rw [upd_ne (ne_of_none e nF), upd_ne (ne_of_none e nC), upd_ne nb]; exact e
    · by_cases hb : b = h'.objs.size
      · subst hb; rw [upd_same]; simp
      · rw [upd_ne hb]
        by_cases hb2 : b = c'
        · subst hb2; rw [upd_same]; simp
        · rw [upd_ne hb2]
          by_cases hb3 : b = P
          · subst hb3; rw [upd_same]; simp
          · rw [upd_ne hb3]; exact e
    · by_cases hb : b = h'.objs.size
      · subst hb; exact .inr nF
      · rw [upd_ne hb] at e
        by_cases hb2 : b = c'
        · subst hb2; exact .inr nC
        · rw [upd_ne hb2] at e; exact .inl e
    · rw [upd_ne (Ne.symm ne2), upd_ne (Ne.symm ne3)]; exact nP
    · rw [upd_ne (Ne.symm ne2), upd_ne (Ne.symm ne3), upd_same]
    · rw [show (ps ++ #[rawInt pos.line, rawInt pos.col, .ref c']).toList = ps.toList ++ [rawInt pos.line, rawInt pos.col, .ref c'] by simp]
      exact PySem.TriplesOk_snoc _ _ _ _ ht
    · rw [show (ps ++ #[rawInt pos.line, rawInt pos.col, .ref c']).toList = ps.toList ++ [rawInt pos.line, rawInt pos.col, .ref c'] by simp] at hcv
      rcases LamX.among_app _ ht hcv with z | z
      · obtain ⟨c0, e1, e2⟩ := ha p' cv z
        exact ⟨c0, e1, gr _ _ e2⟩
      · exact ⟨c', z, by rw [upd_ne (Ne.symm ne1), upd_same]⟩
    · rw [upd_ne (Ne.symm ne1), upd_same]
  | some cv =>
    obtain ⟨c', e, hco⟩ := ha pos cv hc
    subst e
    refine PySem.W.kla_makeFunctionHit (mg := X.mg) (c := c) (P := P) (ps := ps) (closure_ok hfree) I.ok.glob (I.mod.glob.keeps I.bk) hcode (TB.code.keeps I.bk) hP' ht hc bP fun ctv h' tk hx hsz => ?_
    have nF : H h'.objs.size = none := I.hok.fresh hsz
    have nHsF : Hs h'.objs.size = none := by
      cases e : Hs h'.objs.size with
      | none => rfl
      | some u => rw [sub _ _ e] at nF; cases nF
    have ne2 : h'.objs.size ≠ P := Nat.ne_of_gt (Nat.lt_of_lt_of_le (Heap.lt_size hP') hsz)
    have e1 : ((h'.push (PySem.W.kla_obj "<lambda>" (X.env.qual ++ "<lambda>") params body scope (cloFrom X.env.cells scope.names []) ((X.mg "__name__").getD .none) c' ctv))).get? h'.objs.size = some _ := Heap.get?_push_size _ rfl
    have I1 := I.laid (t' := tk) (h' := h'.push (PySem.W.kla_obj "<lambda>" (X.env.qual ++ "<lambda>") params body scope (cloFrom X.env.cells scope.names []) ((X.mg "__name__").getD .none) c' ctv)) (a := h'.objs.size) (o := LamO h'.objs.size c' l)
      (fun b o e => Heap.get?_push_of_some _ (hx b o e)) hsz (lamO_ok (l := l) (by rw [← hl]; exact e1))
    have gr : Same Hs (upd Hs h'.objs.size (LamO h'.objs.size c' l)) := fun b u e => by rw [upd_ne (ne_of_none e nHsF)]; exact e
    refine h h'.objs.size c' (upd Hs h'.objs.size (LamO h'.objs.size c' l)) _ _ I1 ⟨gr, fun b u e => ?_, fun b o e nb => ?_, fun b e => ?_, fun b e => ?_⟩ ⟨?_, ps, ?_, ht, fun p' cv hcv => ?_⟩ upd_same (gr _ _ hco)
    · by_cases hb : b = h'.objs.size
      · subst hb; rw [upd_same] at e ⊢; exact e
      · rw [upd_ne hb] at e ⊢; exact sub _ _ e
    · rw [upd_ne (ne_of_none e nF)]; exact e
    · by_cases hb : b = h'.objs.size
      · subst hb; rw [upd_same]; simp
      · rw [upd_ne hb]; exact e
    · by_cases hb : b = h'.objs.size
      · subst hb; exact .inr nF
      · rw [upd_ne hb] at e; exact .inl e
    · rw [upd_ne (Ne.symm ne2)]; exact nP
    · rw [upd_ne (Ne.symm ne2)]; exact hP
    · obtain ⟨c0, e1, e2⟩ := ha p' cv hcv
      exact ⟨c0, e1, gr _ _ e2⟩
/-- the cells of a lambda of the def that runs -/
theorem cap_of {l : LamD} (I : Inv X pins σ H s) (L : LamX.LamS X.env.scope l.scope) (hcl : l.cl = cloFrom X.env.cells l.scope.names []) : Cap X.N σ l H s.heap := by
  have hfree := L.has I.ok
  have cm : ∀ {y c}, l.cl.lookup y = some c → X.env.cells.lookup y = some c := fun {y c} e => by
    rw [hcl] at e
    rcases cloFrom_mem (PySem.mem_of_lookup e) with hm | ⟨h1, h2⟩
    · cases hm
    · obtain ⟨c1, hc⟩ := hfree _ h1 rfl
      have hc : X.env.cells.lookup y = some c1 := hc
      rw [hc] at h2
      rw [hc, h2]
      rfl
  have look : ∀ {y}, l.scope.names.lookup y = some .free → ∃ c, l.cl.lookup y = some c := fun {y} hl => by
    have hy : (y, NameKind.free) ∈ l.scope.names := PySem.mem_of_lookup hl
    rw [hcl]
    exact mem_lookup (cloFrom_has (cells := X.env.cells) (acc := []) hy)
  refine ⟨fun y c e => ⟨I.freeC y c (cm e), I.cell y c (cm e)⟩, fun x y c e1 e2 => I.ok.inj x y c (cm e1) (cm e2), fun y hl => look hl, fun i y v h1 h2 h3 => ?_⟩
  obtain ⟨c, hc⟩ := look h3
  have hy : (y, NameKind.free) ∈ l.scope.names := PySem.mem_of_lookup h3
  have hk := L.free _ hy rfl
  have hvis : Vis X.env.scope y := hk.elim (fun k => .inr (.inl k)) (fun k => .inr (.inr k))
  obtain ⟨m, hn, hl⟩ := I.loc
  obtain ⟨w', r, q⟩ := hl i y v h1 h2 hvis
  refine ⟨c, w', hc, r, ?_⟩
  rcases q with ⟨k', _⟩ | ⟨_, c3, e', z⟩
  · have k' : X.env.scope.names.lookup y = some .local := k'
    rcases hk with k2 | k2 <;> rw [show X.env.scope.names.lookup y = _ from k2] at k' <;> cases k'
  · rw [cm hc] at e'
    cases e'
    exact z
theorem Cap.un {N : List Str} {l : LamD} {fs ex : List Addr} {H H' : Hp} {h h' : Heap} (c : Cap N σ l H h) (u : Un fs ex H H' h h') (hex : ∀ y a, l.cl.lookup y = some a → a ∉ ex) : Cap N σ l H' h' := by
  have keep : ∀ {y a v}, l.cl.lookup y = some a → h.IsCell a v → h'.IsCell a v := fun {y a v} e ⟨o, ho, hd⟩ => by
    obtain ⟨sl, q⟩ := u.any ho (c.cell y a e).1 (hex y a e)
    exact ⟨_, q, hd⟩
  refine ⟨fun y a e => ?_, c.inj, c.has, fun i y v h1 h2 h3 => ?_⟩
  · obtain ⟨h1, v, hv⟩ := c.cell y a e
    obtain ⟨o, ho, hd⟩ := hv
    exact ⟨u.free a o ho h1 (hex y a e), v, keep e ⟨o, ho, hd⟩⟩
  · obtain ⟨a, w, e, r, q⟩ := c.val i y v h1 h2 h3
    exact ⟨a, w, e, r, keep e q⟩
end
theorem tbOnly_at {P : Addr} {q q' : Str} : ∀ {ρ : En} {i : Nat}, tbOnly P q ρ → ρ.at i = .tb P q' → q' = q
  | [], i, _, e => by simp [En.at] at e
  | s :: r, 0, h, e => by
    have e : s = .tb P q' := by simpa [En.at] using e
    have h1 := h.1
    rw [e] at h1
    exact h1 rfl
  | s :: r, i + 1, h, e => tbOnly_at (ρ := r) (i := i) h.2 (by simpa [En.at] using e)
theorem SR.grew {K : PySem.W.Frag} {mg : Mg} {Z : Zn} {Hs H Hs1 H1 : Hp} {σ : L2.St} {ρ : En} {P : Addr} {q : Str} {j : Nat} (S : SR K mg Z Hs H σ ρ) (hj : ρ.at j = .tb P q) (g : Grew P Hs H Hs1 H1) (hu : tbOnly P q ρ) (t : TabR Hs1 H1 P q) : SR K mg Z Hs1 H1 σ ρ := by
  have z0 := S.tz j P q hj
  have tP := S.sl j
  rw [hj] at tP
  obtain ⟨_, ps, hP, _⟩ := tP
  refine ⟨g.sub, S.s0.trans g.st, fun a o e n => g.old a o (S.h0 a o e n) fun z => (by rw [z, z0] at e; cases e), fun a e => g.dom a (S.dom a e), fun a e => ?_, S.len, fun i => ?_, S.sep, S.own, S.pin, S.tz⟩
  · rcases g.new a e with z | z
    · exact S.new a z
    · cases q : Z.H a with
      | none => exact .inr rfl
      | some u => exact absurd z (S.dom a (by rw [q]; simp))
  · cases e : ρ.at i with
    | tb P' q' =>
      have t' := S.sl i
      rw [e] at t'
      by_cases hp : P' = P
      · subst hp
        rw [tbOnly_at hu e]
        exact t
      · obtain ⟨n0, ps', h1, h2, h3⟩ := t'
        refine ⟨?_, ps', g.old _ _ h1 hp, h2, fun pos cv hc => ?_⟩
        · cases e : Hs1 P' with
          | none => rfl
          | some u =>
            rcases g.new P' (by rw [e]; simp) with z | z
            · exact absurd n0 z
            · rw [h1] at z; cases z
        · obtain ⟨c, e1, e2⟩ := h3 pos cv hc
          exact ⟨c, e1, g.st _ _ e2⟩
    | _ =>
      rw [← e]
      have keep : ∀ a, σ.getD i none = some (.ref a) → (ρ.at i).owned = true → H1 a = H a ∧ Hs1 a = none := fun a h1 h2 => by
        obtain ⟨n1, n2⟩ := S.ownAt ⟨h1, h2⟩
        obtain ⟨u, hu, nx⟩ := (S.sl i).notX h2 a h1
        have ne : a ≠ P := fun z => by
          rw [z, hP] at hu
          rw [← Option.some.inj hu] at nx; cases nx
        refine ⟨by rw [hu]; exact g.old a u hu ne, ?_⟩
        cases e : Hs1 a with
        | none => rfl
        | some u =>
          rcases g.new a (by rw [e]; simp) with z | z
          · exact absurd n1 z
          · exact absurd z n2
      exact (S.sl i).keepN g.st (fun P' q' z => by rw [e] at z; cases z) keep
section
variable {P : Program} {w : World} {K : PySem.W.Frag} {mg : Mg} {base : Heap} {k : Nat} {T : Tb} {X : Cx} {W : WX}
theorem noArgs_def {a : Arguments} (h : noArgs a = true) (env : Env) : defaultsOf a env = ([], []) := by
  unfold noArgs at h
  simp only [Bool.and_eq_true, List.isEmpty_iff, Option.isNone_iff_eq_none] at h
  obtain ⟨a1, a2, a3, a4, a5, a6, a7⟩ := a
  obtain ⟨⟨⟨⟨⟨⟨h1, h2⟩, h3⟩, h4⟩, h5⟩, h6⟩, h7⟩ := h
  simp only at h1 h2 h3 h4 h5 h6 h7
  subst h1 h2 h3 h4 h5 h6 h7
  rfl
theorem noArgs_bind {a : Arguments} (h : noArgs a = true) (n q : Str) (body : Expr) (scope : Scope) (cl : List (Str × Addr)) (pm cv ctv : Value) : bindArgs (PySem.W.kla_fn n q a body scope cl pm cv ctv) ⟨[], []⟩ = pure [] := by
  unfold noArgs at h
  simp only [Bool.and_eq_true, List.isEmpty_iff, Option.isNone_iff_eq_none] at h
  obtain ⟨a1, a2, a3, a4, a5, a6, a7⟩ := a
  obtain ⟨⟨⟨⟨⟨⟨h1, h2⟩, h3⟩, h4⟩, h5⟩, h6⟩, h7⟩ := h
  simp only at h1 h2 h3 h4 h5 h6 h7
  subst h1 h2 h3 h4 h5 h6 h7
  rfl
theorem FitX.lamT {l : LamD} {e : E} (f : FitX X l e) : LamT l := ⟨f.sc.kind, f.sc.co, f.sc.gen, f.sc.own, fun _ _ _ => noArgs_bind f.args _ _ _ _ _ _ _ _⟩
/-- lambda: e -/
theorem j_lam (o : Ok P w K mg base k T X W) {n : Nat} {e : E} {params : Arguments} {body : Expr} {scope : Scope} {pos : Pos} (h1 : noArgs params = true) (h2 : LamX.lamSB X.env.scope scope = true) (h3 : okE X.N scope e body = true) : JE X W (.Lambda params body scope pos) (wLam T n e) := fun Z =>
  ⟨fun pins s σ H Q I ⟨Hs, ρ, S, Qd, R, ⟨hm, hb, ⟨j, Pt, q, hj, ht, hu⟩, hq⟩, g2, _⟩ => by
    have lo := o.lm hm
    obtain ⟨c, hc, TB, eq⟩ := lo.tb Pt q ht
    have t := S.sl j
    rw [hj, eq] at t
    have L := LamX.lamS_by h2
    refine lam_new (n := n) I S.sub TB hc t (noArgs_def h1 _) (L.has I.ok) fun f c' Hs1 H1 s' I1 g t1 hf hco => ?_
    have S1 : SR X.K X.mg Z Hs1 H1 σ ρ := S.grew hj g hu (by rw [eq]; exact t1)
    refine ⟨.ref f, H1, I1, rfl, ?_⟩
    exact g2 _ ρ Hs1 H1 (.ref f) (hq _ ((lo.fit _).mpr ⟨rfl, L, rfl, h1, by rw [hb]; exact h3⟩) rfl) S1 g.st (.fn hf hco)⟩
end
end EV
set_option Elab.async false
set_option linter.all false
set_option maxRecDepth 100000
set_option maxHeartbeats 4000000
/-! EV10d: a def that calls the lambda that it is handed. -/
namespace EV
open PySem PySem.Spec PyProof.Rows L2
section
variable {P : Program} {w : World} {K : PySem.W.Frag} {mg : Mg} {base : Heap} {k : Nat} {T : Tb} {X : Cx} {W : WX}
/-- a lambda's name given, the call itself; C: the context of the lambdas, Y: where the call stands -/
theorem run_hand {Y : Cx} {f : Str} {hs : List (Str × List HF)} {g : Addr} {pins : List (Addr × Obj)} {s : Shared} {σY σ : L2.St} {H Hs : Hp} {fl : Addr} {l : LamD} {ρ : En} {Z : Zn} {Q : VK} {Kd : D → En → Prop} {k : Nat}
    (ho : ∀ (A : Around) (outer : List Env) (s : Shared) (H Hs : Hp) (fl c : Addr) (l : LamD) (N : List Str) (σ : L2.St) (ρ : En) (Z : Zn) (wb : WE) (Kd : D → En → Prop) (Q : VK), Room (k + 2) A → A.guards = some [] → Env0 P w K mg base A outer s H →
      LamT l → N.Nodup → σ.length = N.length → H fl = some (LamO fl c l) → H c = some (LamX.CodeO c l.q) → Cap N σ l H s.heap →
      (∀ (A' : Around) (outer' : List Env) (s' : Shared) (H' : Hp) (E' : XK), Room k (A'.deeper (lamE l s'.heap.objs.size fl c)) → A'.guards = some [] → PE (lamC P w K mg base N A' outer' s' H' E' l fl c) l.body (tE K mg Z (fun cls d _ H => E' cls d H) wb)) →
      SR K mg Z Hs H σ ρ → wb (fun _ ρ1 => Kd .non ρ1) (fun x ρ1 => ∃ d, catchD x hs = some d ∧ Kd d ρ1) ρ → (∀ d ρ' Hs' H' v, Kd d ρ' → SR K mg Z Hs' H' σ ρ' → Same Hs Hs' → Rep K mg Hs' v d → Q v H') →
        codeAny (model P w) A (.call (.ref g) ⟨[.ref fl], []⟩) (CR (L2.CX P w) outer P w H s Q (fun _ _ _ => False)) s)
    (hY : In P w K mg base (k + 2) Y) (I : Inv Y pins σY H s) (lt : LamT l) {N : List Str} (nd : N.Nodup) (hl : σ.length = N.length) (cap : Cap N σ l H s.heap) {wb : WE}
    (bd : ∀ (fl c : Addr) (Z : Zn) (A : Around) (outer : List Env) (s : Shared) (H : Hp) (E : XK), Room k (A.deeper (lamE l s.heap.objs.size fl c)) → A.guards = some [] →
      PE (lamC P w K mg base N A outer s H E l fl c) l.body (tE K mg Z (fun cls d _ H => E cls d H) wb))
    (S : SR K mg Z Hs H σ ρ) (r : Rep K mg Hs (.ref fl) (.fn l)) (hw : wb (fun _ ρ1 => Kd .non ρ1) (fun x ρ1 => ∃ d, catchD x hs = some d ∧ Kd d ρ1) ρ)
    (hq : ∀ d ρ' Hs' H' v, Kd d ρ' → SR K mg Z Hs' H' σ ρ' → Same Hs Hs' → Rep K mg Hs' v d → Q v H') : wpAny (model Y.prog Y.w) Y.A (call (.ref g) [.ref fl]) (EP Y pins σY Q) Y.xe s := by
  obtain ⟨rfl, rfl, rfl, rfl, rfl, hr, hg⟩ := hY
  cases r with
  | @fn _ c _ h hc =>
    have rc := ho Y.A Y.stack s H Hs fl c l N σ ρ Z wb Kd Q hr hg I.env0 lt nd hl (S.sub _ _ h) (S.sub _ _ hc) cap (fun A' outer' s' H' E' r1 g1 => bd fl c Z A' outer' s' H' E' r1 g1) S hw hq
    refine wpAny_call (codeAny_mono rc fun r s2 z => ?_)
    match r, z with
    | .error e, ⟨_, _, _, _, _, _, _, _, _, _, _, _, z⟩ => exact z.elim
    | .ok (.ret u), z => exact I.after z
    | .ok .next, z => exact z.elim
    | .ok .brk, z => exact z.elim
    | .ok .cont, z => exact z.elim
/-- f(a) -/
theorem j_err (o : Ok P w K mg base k T X W) {f : Str} {y : Expr} {p pos : Pos} {wa : WA} (hg : glb X.env.scope f = true) (hd : (f == ("__debug__" : Str)) = false) (hy : noStar y = true) (ha : JA X W y wa) : JE X W (.Call (.Name f p) [y] [] pos) (wErr T f wa) := fun Z =>
  ⟨fun pins s σ H Q I ⟨Hs, ρ, S, Qd, R, ⟨hm, hs, hf, hq⟩, g2, g3⟩ => by
    have lo := o.lm hm
    obtain ⟨g, m1, m2, ho⟩ := o.fine.hd f hs hf
    have em : X.mg f = some (.ref g) := by rw [o.inn.mg]; exact m1
    have ek : PySem.W.keepIn X.K (.ref g) = true := by rw [o.inn.K]; exact m2
    refine wpAny_Call_Name_kw (ld_glob I (gl_of hg) em ?_ hd)
    refine PySem.W.callWith_K (h₀ := X.base) I.ok.mod.kin ek (thn ((pa_cons (ha Z) pa_nil (star_no hy)).run pos pins s σ H (fun vs H1 => ∃ v, vs = [v] ∧ ∃ lv ρ1 Hs1, SR X.K X.mg Z Hs1 H1 σ ρ1 ∧ LR X.K X.mg Hs1 σ v lv ∧ Same Hs Hs1 ∧ ∃ l, lv.peek ρ1 = some (.fn l) ∧ T.lam l ∧ wRun T hs l.n Qd ρ1) I ?_)
      fun us s1 ⟨vs, H1, I1, r, v, ev, lv, ρ1, Hs1, S1, r1, e1, l, hp, hl, hw⟩ => ⟨I1.kIn, ?_⟩) (star_no hy) (plain_args (by rfl))
    · exact ⟨Hs, ρ, S, _, R, hq, fun lv ρ1 Hs1 H1 v a b c r => ⟨v, rfl, lv, ρ1, Hs1, b, r, c, a⟩, g3⟩
    · subst ev
      obtain ⟨u, rfl, ru⟩ := r.one
      have rr := LR.peek r1 S1 hp
      rcases rr with rr | ⟨_, _, _, _, h2, _⟩ | ⟨_, _, _, _, _, h2, _⟩ | ⟨_, _, _, _, _, h2, _⟩
      · cases rr with
        | @fn fl c _ h hc =>
          obtain rfl : u = Value.ref fl := ru
          have fx := (lo.fit l).mp hl
          have inn := o.inn
          have S1' := S1
          rw [inn.K, inn.mg] at S1'
          refine run_hand (f := f) (Hs := Hs1) (l := l) (ρ := ρ1) (Z := Z) (σ := σ) (N := X.N) (Kd := Qd) ho ⟨inn.p, inn.w, inn.K, inn.mg, inn.base, lo.room, inn.gd⟩ I1 fx.lamT o.nd I1.len (cap_of I1 fx.sc fx.cl) (lo.bd l hl) S1' (.fn h hc) hw fun d ρ' Hs' H' v q1 q2 q3 q4 => ?_
          rw [← inn.K, ← inn.mg] at q2 q4
          exact g2 d ρ' Hs' H' v q1 q2 (e1.trans q3) q4
      all_goals cases h2⟩
end
end EV
set_option Elab.async false
set_option linter.all false
set_option maxRecDepth 100000
set_option maxHeartbeats 4000000
/-! EV10e: a list comprehension whose block is read from the state in which it starts (HandS.Comp's lc_core reads it from any state; statement and proof follow it). -/
namespace EV
open PySem PySem.Spec PyProof.Rows L2
section
variable {X : Cx}
theorem pe_lcAt {pins : List (Addr × Obj)} {s : Shared} {σ : L2.St} {H : Hp} {Q : VK} {elt tg iter : Expr} {scope : Scope} {own : List (Str × Nat)} {pos : Pos} {wi : L2.TI} {g : L2.TG} {te : TE}
    (hc : X.calm = true) (hN : X.N.Nodup) (I : Inv X pins σ H s) (hi : PI X tg iter wi) (ok : BlkOk X.N X.env.scope scope own)
    (hg : ∀ (s : Shared) (H : Hp) (C : Addr) (cl : List (Str × Addr)) (fp : List Addr), PG (X.blk s H scope (compEnvC scope cl C X.env) fp) tg g)
    (he : ∀ (s : Shared) (H : Hp), Inv X pins σ H s → ∀ (C : Addr) (cl : List (Str × Addr)) (fp : List Addr), (∀ b ∈ fp, ∀ x c, X.env.cells.lookup x = some c → c ≠ b) → PE (X.blk s H scope (compEnvC scope cl C X.env) fp) elt te)
    (hs : ∀ x, foldedSetIterable iter X.env x = pure x) (h : tLc wi g tYes te (own.map (·.2)) σ H Q) :
    wpAny (model X.prog X.w) X.A (eval (.ListComp elt [⟨tg, iter, [], 0⟩] scope pos) X.env) (EP X pins σ Q) X.xe s := by
  rw [eval_ListComp]
  have hfree : ∀ y ∈ scope.names, y.2 = .free → ∃ c, X.env.cells.lookup y.1 = some c := fun y hy e => (ok.free y hy e).elim (fun k => I.ok.has _ (.inl k)) (fun k => I.ok.has _ (.inr k))
  refine wpAny_comprehension_free (use := none) rfl hs (closure_ok hfree) ok.kind (fun y hy e => by rw [ok.uniq y hy, e]) (thn (hi.run pins s σ H _ I h) fun xv s1 hx => thn hx fun itv s2 h2 => ?_)
  obtain ⟨it, fp, tn, J, H2, rfl, I2, T, st2, f2, q⟩ := h2
  refine wpAny_newObj_type (newEnv_comp ?_) (by show 0 ≤ sizeLine; decide)
  generalize hD : s2.heap.objs.size = D
  have hDn : H2 D = none := I2.hok.fresh (Nat.le_of_eq hD)
  obtain ⟨Wn, ⟨m0, w0⟩, turn⟩ := q D hDn
  generalize hs3 : ({ s2 with heap := s2.heap.push { cls := .type "list", data := .seq ([] : List Value).toArray } } : Shared) = s3
  have eh : s3.heap = s2.heap.push { cls := .type "list", data := .seq ([] : List Value).toArray } := by rw [← hs3]
  have I3 : Inv X pins σ (upd H2 D (.lst [])) s3 := by
    rw [← hs3]
    exact I2.laid (t' := s2.toks) (fun b o e => Heap.get?_push_of_some _ e) (Nat.le_of_eq hD) ⟨Nat.zero_le _, [], 0, .nil, by rw [← hD]; exact Heap.get?_push_size _ rfl⟩
  have f3 : ∀ b ∈ fp, FpOk X pins (upd H2 D (.lst [])) b ∧ b < s3.heap.objs.size := fun b hb => by
    obtain ⟨o, e, _⟩ := T.obj _ _ st2 b hb
    have lt := Heap.lt_size e
    refine ⟨⟨?_, (f2 b hb).2⟩, by rw [eh, Heap.size_push]; exact Nat.lt_succ_of_lt lt⟩
    rw [upd_ne (by rw [← hD]; exact Nat.ne_of_lt lt)]
    exact (f2 b hb).1
  have st3 : tn 0 s3.heap := T.keep _ _ _ st2 fun b _ o e => by rw [eh]; exact Heap.get?_push_of_some _ e
  have I4 := block_start I3 ok hN f3
  have pg := hg s3 (upd H2 D (.lst [])) s3.heap.objs.size (cellsFrom (s3.heap.objs.size + 1) scope.names (cloFrom X.env.cells scope.names [])) fp
  have pe := he s3 (upd H2 D (.lst [])) I3 s3.heap.objs.size (cellsFrom (s3.heap.objs.size + 1) scope.names (cloFrom X.env.cells scope.names [])) fp fun b hb x c e => (f3 b hb).1.2.2.2.2.1 x c e
  have nfp : ∀ b ∈ fp, (upd H2 D (.lst [])) b = none := fun b hb => (f3 b hb).1.1
  show codeAny _ _ (.compStart (.ListComp elt [⟨tg, iter, [], 0⟩] scope pos) 0 (.ref it) (.ref D) (compEnvC scope (cellsFrom (s3.heap.objs.size + 1) scope.names (cloFrom X.env.cells scope.names [])) s3.heap.objs.size X.env)) (compPost (model X.prog X.w) X.A X.xe none _ (.ref D) s3.heap.objs.size) { s3 with heap := pushCells (s3.heap.push { cls := .type "dict", data := .dict #[] }) scope.names }
  generalize hce : compEnvC scope (cellsFrom (s3.heap.objs.size + 1) scope.names (cloFrom X.env.cells scope.names [])) s3.heap.objs.size X.env = ce at I4 pg pe ⊢
  have cL : ce.locals = s3.heap.objs.size := by rw [← hce]; rfl
  generalize hH3 : upd H2 D (.lst []) = H3 at I3 I4 pg pe w0 nfp f3
  generalize hs4 : ({ s3 with heap := pushCells (s3.heap.push { cls := .type "dict", data := .dict #[] }) scope.names } : Shared) = s4 at I4 ⊢
  have st4 : tn 0 s4.heap := T.keep _ _ _ st3 fun b _ o e => by rw [← hs4]; exact pushCells_keeps _ _ _ _ (Heap.get?_push_of_some _ e)
  have stat : ∀ {σ' : L2.St} {H' : Hp} {s' : Shared}, Inv (X.blk s3 H3 scope ce fp) [] σ' H' s' → (∀ b ∈ fp, H' b = none) → ∀ b ∈ fp, FpOk (X.blk s3 H3 scope ce fp) [] H' b := fun {σ' H' s'} I' hn b hb =>
    ⟨hn b hb, (I'.ok.exf b hb).1, I'.ok.exfs b hb, .inl hb, fun x c e => (I'.ok.exf b hb).2 x c e, fun p hp => absurd (show p ∈ ([] : List (Addr × Obj)) ++ [] from hp) (by simp)⟩
  have loop : codeAny (model X.prog X.w) X.A (.compLoop (.ListComp elt [⟨tg, iter, [], 0⟩] scope pos) 0 (.ref it) (.ref D) ce) (compPost (model X.prog X.w) X.A X.xe none (EP X pins σ Q) (.ref D) s3.heap.objs.size) s4 := by
    refine compLoop_any (fun n s' => ∃ i H', Inv (X.blk s3 H3 scope ce fp) [] (wipe σ (own.map (·.2))) H' s' ∧ tn i s'.heap ∧ (∀ b ∈ fp, H' b = none) ∧ Wn i n H') ?_ m0 ⟨0, H3, I4, st4, nfp, w0⟩
    rintro n s5 ⟨i, H5, I5, st5, n5, w5⟩
    rcases turn i n H5 w5 with ⟨stop, qq⟩ | ⟨go, Nx, hNx, step⟩
    · refine thnF (T.done (X.blk s3 H3 scope ce fp) rfl rfl rfl hc i [] s5 _ H5 (fun _ _ => False) I5 (stat I5 n5) st5 stop) fun r s6 ⟨hr, I6⟩ => ?_
      subst hr
      have I7 : Inv X pins σ H5 s6 := I3.call' (ch := fp) I6.os I6.base I6.hok I6.bare fun b hb => ⟨(f3 b hb).1.2.2.2.1, (f3 b hb).1.2.1, (f3 b hb).1.2.2.2.2.1, (f3 b hb).1.2.2.2.2.2⟩
      have nC : H5 s3.heap.objs.size = none := by rw [← cL]; exact I6.free
      obtain ⟨m, hn, _⟩ := I6.loc
      have hn : s6.heap.Ns ce.locals m := hn
      rw [cL] at hn
      have fC := I3.fpOk (Nat.le_refl _) nC
      refine ⟨m, hn, fun h'' sb => ?_⟩
      obtain ⟨f0, f1, f2, f3, f4, f5⟩ := fC
      exact ⟨.ref D, H5, I7.turned (t' := s6.toks) (fun b o hb e => (sb.2 b hb).trans e) f0 f1 f3 f4 f5, rfl, qq⟩
    · refine thnF (T.item (X.blk s3 H3 scope ce fp) rfl rfl rfl hc i [] s5 _ H5 (fun _ _ => False) I5 (stat I5 n5) st5 go) fun r s6 ⟨u, hr, h6⟩ => ?_
      subst hr
      refine thnF h6 fun _ s7 ⟨x, H7, I7, r7, y7, st7, n7⟩ => ?_
      have I7' := I7.pinned (stat I7 n7) (T.obj _ _ st7)
      refine thnF (pg.run _ s7 _ H7 x u _ I7' r7 (step x H7 y7)) fun _ s8 ⟨σ8, H8, I8, hw8, q8⟩ => ?_
      have fin : ∀ {s' : Shared} {H' : Hp}, Inv (X.blk s3 H3 scope ce fp) ([] ++ pinsAt fp s7.heap) σ8 H' s' → Nx H' → ∃ m, m < n ∧ ∃ i H', Inv (X.blk s3 H3 scope ce fp) [] (wipe σ (own.map (·.2))) H' s' ∧ tn i s'.heap ∧ (∀ b ∈ fp, H' b = none) ∧ Wn i m H' := fun {s' H'} I' nx => by
        obtain ⟨m', hm, w'⟩ := hNx H' nx
        have at_ : ∀ b ∈ fp, ∀ o, s7.heap.get? b = some o → s'.heap.get? b = some o ∧ H' b = none := fun b hb o e =>
          let z := I'.pin (b, o) (List.mem_append_right _ (List.mem_append_right _ (mem_pinsAt hb e)))
          ⟨z.1, z.2.1⟩
        refine ⟨m', hm, i + 1, H', (I'.unpinned (pins := [])).weak (by rw [← hw8, wipe_length]) (fun j v e => ?_), T.keep _ _ _ st7 fun b hb o e => (at_ b hb o e).1, fun b hb => ?_, w'⟩
        · rw [← hw8] at e
          exact (wipe_some e).1
        · obtain ⟨o, e, _⟩ := T.obj _ _ st7 b hb
          exact (at_ b hb o e).2
      refine wpAny_tests_nil ?_
      have q8' : te σ8 H8 fun y H4 => ∃ acc, H4 D = some (.lst acc) ∧ acc.length < sizeLine ∧ Nx (upd H4 D (.lst (acc ++ [y]))) := q8
      simp only [if_true]
      refine thnF (pe.run _ s8 σ8 H8 _ I8 q8') fun z s10 ⟨yv, H10, I10, r10, acc, hD10, hz10, nx⟩ => ?_
      exact app_ok (X := X.blk s3 H3 scope ce fp) I10 hD10 hz10 r10 fun s11 I11 => fin I11 nx
  exact codeAny_compStart_list loop (T.self X.A 0 _ _ _ st4 loop)
end
end EV
set_option Elab.async false
set_option linter.all false
set_option maxRecDepth 100000
set_option maxHeartbeats 4000000
/-! EV10f: [repr(f(u)) == repr(v) for u, v in xs], xs a list of lambdas and what is due. -/
namespace EV
open PySem PySem.Spec PyProof.Rows L2
section
variable {P : Program} {w : World} {K : PySem.W.Frag} {mg : Mg} {base : Heap} {k : Nat} {T : Tb} {X : Cx} {W : WX}
/-- f(u) within the block: σ0 the slots at its start -/
def tHand (K : PySem.W.Frag) (mg : Mg) (T : Tb) (hs : List (Str × List HF)) (σ0 : L2.St) (u v : Nat) : TE := fun σ H Q => ∃ (Z : Zn) (Hs : Hp) (ρ : En) (l : LamD) (Kd : D → En → Prop), wipe σ [u, v] = wipe σ0 [u, v] ∧ SR K mg Z Hs H σ ρ ∧ ρ.at u = .fz (.fn l) ∧ T.lam l ∧ wRun T hs l.n Kd ρ ∧
  ∀ d ρ1 Hs1 H1 x, Kd d ρ1 → SR K mg Z Hs1 H1 σ ρ1 → Same Hs Hs1 → Rep K mg Hs1 x d → Q x H1
def tTryE (K : PySem.W.Frag) (mg : Mg) (T : Tb) (hs : List (Str × List HF)) (σ0 : L2.St) (u v : Nat) : TE :=
  tOp (S2 K mg .eq) (tCB (S1c K mg .repr) (tCons (tHand K mg T hs σ0 u v) tNil)) (tCB (S1c K mg .repr) (tCons (tVar v) tNil))
theorem not_cap {sc : Scope} {x : Str} (h : notCap sc x = true) : ¬ (sc.names.lookup x = some .cell ∨ sc.names.lookup x = some .free) := by
  unfold notCap at h
  split at h
  · cases h
  · cases h
  · rename_i h1 h2
    rintro (e | e)
    · exact h1 e
    · exact h2 e
theorem wipe_get {σ σ0 : L2.St} {vs : List Nat} (h : wipe σ vs = wipe σ0 vs) {i : Nat} (n : i ∉ vs) {x : V} (e : σ[i]? = some (some x)) : σ0[i]? = some (some x) := by
  have e1 : σ.getD i none = some x := by rw [List.getD_eq_getElem?_getD, e]; rfl
  have q := wipe_at σ i vs
  rw [if_neg n, h, wipe_at, if_neg n, e1] at q
  exact getD_some q
/-- the call within the block -/
theorem pe_hand (o : Ok P w K mg base k T X W) (hm : T.lmk = true) {f : Str} {hs : List (Str × List HF)} (hf : T.hand f = some hs) {pins : List (Addr × Obj)} {σ : L2.St} {u v : Nat} {s3 : Shared} {H3 : Hp} {scope : Scope} {C : Addr} {cl : List (Str × Addr)} {fp : List Addr} {y : Expr}
    (I3 : Inv X pins σ H3 s3) (hfp : ∀ b ∈ fp, ∀ x c, X.env.cells.lookup x = some c → c ≠ b) (hy : okCallN X.N (relS scope X.env.scope) f u y = true) (nu : notCap X.env.scope (X.N.getD u Str.empty) = true) (nv : notCap X.env.scope (X.N.getD v Str.empty) = true) :
    PE (X.blk s3 H3 scope (compEnvC scope cl C X.env) fp) y (tHand X.K X.mg T hs σ u v) := by
  have lo := o.lm hm
  obtain ⟨g, m1, m2, ho⟩ := o.fine.hd f hs hf
  have em : X.mg f = some (.ref g) := by rw [o.inn.mg]; exact m1
  have ek : PySem.W.keepIn X.K (.ref g) = true := by rw [o.inn.K]; exact m2
  unfold okCallN at hy
  split at hy
  · rename_i g' p z pos
    simp only [Bool.and_eq_true, decide_eq_true_eq, Bool.not_eq_true'] at hy
    obtain ⟨⟨⟨rfl, h2⟩, h3⟩, h4⟩ := hy
    obtain ⟨n, zp, rfl, n1, n2, n3, n4⟩ := name_of h4
    refine ⟨fun pins' s' σ' H' Q I ⟨Z, Hs, ρ, l, Kd, hw, S, hu, hl, hr, hq⟩ => ?_⟩
    have fx := (lo.fit l).mp hl
    obtain ⟨x, hx, rx⟩ := (show SlotR X.K X.mg Hs H' (σ'.getD u none) (.fz (.fn l)) by rw [← hu]; exact S.sl u)
    refine wpAny_Call_Name_kw (ld_glob (X := X.blk s3 H3 scope (compEnvC scope cl C X.env) fp) I (gl_of h2) em ?_ h3)
    refine PySem.W.callWith_K (h₀ := X.base) I.ok.mod.kin ek (thn ((pa_cons (X := X.blk s3 H3 scope (compEnvC scope cl C X.env) fp) (pe_var (X := X.blk s3 H3 scope (compEnvC scope cl C X.env) fp) (pos := zp) n1 n2 n3 n4) pa_nil rfl).run pos pins' s' σ' H' (fun vs H1 => vs = [x] ∧ H1 = H') I ⟨x, getD_some hx, rfl, rfl⟩) fun us s1 ⟨vs, H1, I1, r, ev, eH⟩ => ⟨I1.kIn, ?_⟩) rfl rfl
    subst ev
    subst eH
    obtain ⟨uu, rfl, ru⟩ := r.one
    cases rx with
    | @fn fl c _ h hc =>
      obtain rfl : uu = Value.ref fl := ru
      have cap0 := cap_of I3 fx.sc fx.cl
      have cap1 := cap0.un (fs := frs X.stack) (ex := fp) I1.base fun y a e hb => by
        rw [fx.cl] at e
        rcases cloFrom_mem (PySem.mem_of_lookup e) with hm' | ⟨h1, h2'⟩
        · cases hm'
        · obtain ⟨c1, hc1⟩ := (fx.sc.has I3.ok) _ h1 rfl
          have hc1 : X.env.cells.lookup y = some c1 := hc1
          rw [hc1] at h2'
          exact hfp a hb y a (by rw [hc1, h2']; rfl) rfl
      have capF : Cap X.N σ' l H1 s1.heap := ⟨cap1.cell, cap1.inj, cap1.has, fun i y v' h1 h2' h3' => by
        have cy := fx.sc.free _ (PySem.mem_of_lookup h3') rfl
        have ni : i ∉ [u, v] := fun m => by
          simp only [List.mem_cons, List.not_mem_nil, or_false] at m
          rcases m with rfl | rfl
          · rw [List.getD_eq_getElem?_getD, h1] at nu; exact not_cap nu cy
          · rw [List.getD_eq_getElem?_getD, h1] at nv; exact not_cap nv cy
        exact cap1.val i y v' h1 (wipe_get hw ni h2') h3'⟩
      have inn := o.inn
      have S' := S
      rw [inn.K, inn.mg] at S'
      refine run_hand (f := f) (Y := X.blk s3 H3 scope (compEnvC scope cl C X.env) fp) (Hs := Hs) (l := l) (ρ := ρ) (Z := Z) (σ := σ') (N := X.N) (Kd := Kd) ho ⟨inn.p, inn.w, inn.K, inn.mg, inn.base, lo.room, inn.gd⟩ I1 fx.lamT o.nd I1.len capF (lo.bd l hl) S' (.fn h hc) hr fun d ρ' Hs' H' v q1 q2 q3 q4 => ?_
      rw [← inn.K, ← inn.mg] at q2 q4
      exact hq d ρ' Hs' H' v q1 q2 q3 q4
  · cases hy
theorem repr_of {sc : Scope} {fa : Expr → Bool} {x : Expr} (h : okRepr sc fa x = true) : ∃ y p pos, x = .Call (.Name "repr" p) [y] [] pos ∧ glb sc "repr" = true ∧ fa y = true ∧ noStar y = true := by
  unfold okRepr at h
  split at h
  · rename_i g p y pos
    simp only [Bool.and_eq_true, decide_eq_true_eq] at h
    obtain ⟨⟨⟨rfl, h2⟩, h3⟩, h4⟩ := h
    exact ⟨y, p, pos, rfl, h2, h3, h4⟩
  · cases h
/-- the block's element -/
theorem pe_tryE (o : Ok P w K mg base k T X W) (hm : T.lmk = true) {f : Str} {hs : List (Str × List HF)} (hf : T.hand f = some hs) {pins : List (Addr × Obj)} {σ : L2.St} {u v : Nat} {s3 : Shared} {H3 : Hp} {scope : Scope} {C : Addr} {cl : List (Str × Addr)} {fp : List Addr} {y z : Expr} {cp : Pos}
    (I3 : Inv X pins σ H3 s3) (hfp : ∀ b ∈ fp, ∀ x c, X.env.cells.lookup x = some c → c ≠ b) (hy : okRepr (relS scope X.env.scope) (okCallN X.N (relS scope X.env.scope) f u) y = true) (hz : okRepr (relS scope X.env.scope) (okName X.N (relS scope X.env.scope) v) z = true)
    (nm : behindInMarks .Eq z = false) (nu : notCap X.env.scope (X.N.getD u Str.empty) = true) (nv : notCap X.env.scope (X.N.getD v Str.empty) = true) :
    PE (X.blk s3 H3 scope (compEnvC scope cl C X.env) fp) (.Compare y [.Eq] [z] cp) (tTryE X.K X.mg T hs σ u v) := by
  have oY : Ok P w K mg base k T.off (X.blk s3 H3 scope (compEnvC scope cl C X.env) fp) W0 := ⟨⟨o.inn.p, o.inn.w, o.inn.K, o.inn.mg, o.inn.base, o.inn.room, o.inn.gd⟩, o.fine.off, takes0, o.calm, o.nd, fun e => nomatch e⟩
  obtain ⟨y', p1, p2, rfl, g1, g2, g3⟩ := repr_of hy
  obtain ⟨z', q1, q2, rfl, k1, k2, k3⟩ := repr_of hz
  obtain ⟨n, zp, rfl, n1, n2, n3, n4⟩ := name_of k2
  exact pe_cmpR (cmp_ok oY (q := .eq) rfl) (pe_callB (s_repr oY.inn.gd oY.hu) (gl_of g1) (oY.no "repr" (by decide)) (by decide +kernel) (pa_cons (pe_hand o hm hf I3 hfp g2 nu nv) pa_nil (star_no g3)) (by decide) (by decide) (star_no g3) (by rfl))
    (pe_callB (s_repr oY.inn.gd oY.hu) (gl_of k1) (oY.no "repr" (by decide)) (by decide +kernel) (pa_cons (pe_var (pos := zp) n1 n2 n3 n4) pa_nil rfl) (by decide) (by decide) rfl (by rfl)) nm
/-- one turn's reading -/
theorem try_turn {Z : Zn} {Hs H : Hp} {σ2 σ : L2.St} {ρ : En} {u v : Nat} {l : LamD} {due : D} {hs : List (Str × List HF)} {Kn : En → Prop} {Q : VK} (hw : wipe σ2 [u, v] = wipe σ [u, v]) (S : SR X.K X.mg Z Hs H σ2 ρ) (hu : ρ.at u = .fz (.fn l)) (hv : ρ.at v = .fz due) (hl : T.lam l)
    (hr : wRun T hs l.n (fun d ρ1 => ∃ z, reprD d = some z ∧ reprD due = some z ∧ Kn ρ1) ρ) (hq : ∀ ρ1 Hs1 H1, Kn ρ1 → SR X.K X.mg Z Hs1 H1 σ2 ρ1 → Same Hs Hs1 → Q (.bl true) H1) : tTryE X.K X.mg T hs σ u v σ2 H Q := by
  obtain ⟨x2, h2, r2⟩ := (show SlotR X.K X.mg Hs H (σ2.getD v none) (.fz due) by rw [← hv]; exact S.sl v)
  refine ⟨Z, Hs, ρ, l, _, hw, S, hu, hl, hr, ?_⟩
  rintro d ρ1 Hs1 H1 x ⟨z, e1, e2, kn⟩ S1 t1 rx
  have o1z : ∀ {d : D}, reprD d = some z → o1 .repr d = some (.str z) := fun {d} e => by
    have : (reprD d).map D.str = some (.str z) := by rw [e]; rfl
    cases d <;> exact this
  refine ⟨x, rfl, Z, σ2, ρ1, Hs1, d, .str z, S1, .inl rx, o1z e1, fun Hs2 H2 s2 S2' t2 r2' => ?_⟩
  have rs2 : s2 = .str z := by
    have := r2'.1
    rcases this with q | ⟨_, _, _, _, _, ⟨_, _, q, _⟩ | ⟨_, _, _, q, _⟩ | ⟨_, _, _, q, _⟩⟩
    · cases q; rfl
    all_goals cases q
  subst rs2
  refine ⟨x2, getD_some h2, x2, rfl, Z, σ2, ρ1, Hs2, due, .str z, S2', .inl (r2.mono (t1.trans t2)), o1z e2, fun Hs3 H3 s3 S3 t3 r3 => ?_⟩
  have rs3 : s3 = .str z := by
    have := r3.1
    rcases this with q | ⟨_, _, _, _, _, ⟨_, _, q, _⟩ | ⟨_, _, _, q, _⟩ | ⟨_, _, _, q, _⟩⟩
    · cases q; rfl
    all_goals cases q
  subst rs3
  refine ⟨Z, σ2, ρ1, Hs3, .str z, .str z, .bl true, S3, .inl (.str z), .inl (.str z), ?_, fun Hs4 H4 b S4 t4 r4 => ?_⟩
  · show (eqD (.str z) (.str z)).map D.bl = _
    simp [eqD, txtEq]
  · have rb : b = .bl true := by
      have := r4.1
      rcases this with q | ⟨_, _, _, _, _, ⟨_, _, q, _⟩ | ⟨_, _, _, q, _⟩ | ⟨_, _, _, q, _⟩⟩
      · cases q; rfl
      all_goals cases q
    subst rb
    exact hq ρ1 Hs4 H4 kn S4 (t1.trans (t2.trans (t3.trans t4)))
theorem reps_bls {K : PySem.W.Frag} {mg : Mg} {Hs : Hp} : ∀ ds : List D, Reps K mg Hs (List.replicate ds.length (V.bl true)) (ds.map fun _ => .bl true)
  | [] => .nil
  | _ :: ds => .cons (.bl true) (reps_bls ds)
theorem j_tries {m : Bool} (o : Ok P w K mg base k T X W) {f : Str} {i u v : Nat} {y z tg it : Expr} {scope : Scope} {cp pos : Pos} (h1 : blkC X.N X.env.scope scope [(X.N.getD u Str.empty, u), (X.N.getD v Str.empty, v)] = true)
    (h2 : okTG X.N (relS scope X.env.scope) (fun x => scope.names.lookup x == some .cell) [u, v] (.t (.cons (.n u) (.cons (.n v) .nil))) tg = true) (h3 : okName X.N X.env.scope i it = true)
    (h4 : okRepr (relS scope X.env.scope) (okCallN X.N (relS scope X.env.scope) f u) y = true) (h5 : okRepr (relS scope X.env.scope) (okName X.N (relS scope X.env.scope) v) z = true) (h6 : u ≠ v) (nm : behindInMarks .Eq z = false)
    (nu : notCap X.env.scope (X.N.getD u Str.empty) = true) (nv : notCap X.env.scope (X.N.getD v Str.empty) = true) : JX m X W (.ListComp (.Compare y [.Eq] [z] cp) [⟨tg, it, [], 0⟩] scope pos) (wTries T f i u v) := fun Z => by
  refine ⟨fun pins s σ H Q I ⟨Hs, ρ, S, Qd, R, ⟨hm, hs, ds, hf, hp, lf, hw⟩, g2, g3⟩ => ?_⟩
  have hset : (ρ.at i).set = true := by
    revert hp
    cases ρ.at i <;> simp [Slot.peek, Slot.set]
  have iok : iterOk it = true := by
    obtain ⟨n, zp, rfl, _⟩ := name_of h3
    rfl
  refine pe_lcAt (g := fun v' σ H Q => ∃ Z, tG X.K X.mg Z [u, v] (.t (.cons (.n u) (.cons (.n v) .nil))) v' σ H Q) (te := tTryE X.K X.mg T hs σ u v) (wi := tI X.K X.mg Z W (wSeq (fun Q _ ρ => (ρ.at i).set = true ∧ Q (Sum.inr i) ρ))) o.calm o.nd I (ji_seq (j_pk h3) Z) (blkOk_by h1)
    (fun s H C cl fp => ⟨fun pins s' σ H' v' u' Q I r ⟨Z, h⟩ => (pg_t (X := X.blk s H scope (compEnvC scope cl C X.env) fp) o.calm o.nd (fb := fun x => scope.names.lookup x == some .cell) (fun _ e => e) _ tg h2 Z).run pins s' σ H' v' u' Q I r h⟩)
    (fun s3 H3 I3 C cl fp hfp => pe_tryE o hm hf I3 hfp h4 h5 nm nu nv) (fun x => by cases it <;> first | rfl | cases iok) ?_
  refine ⟨Hs, ρ, fun ds' lk ρ1 => ds' = ds ∧ lk = lkOf (.inr i) ρ ∧ ρ1 = ρ, fun _ _ => False, S, ⟨hset, .lst ds, ds, hp, rfl, rfl, rfl, rfl⟩, ?_, fun _ _ _ _ _ _ z => z.elim⟩
  rintro ds' lk ρ1 Hs1 H1 J src ⟨rfl, rfl, rfl⟩ S1 e1 I1 s1 st1 _ hz p hp'
  obtain ⟨f1, f2, f3⟩ := S1.fresh hp'
  let Wn : List D → En → Prop := wTryL T hs u v (fun ρ' => lkOf (.inr i) ρ1 (EV.unwipe ρ1 ρ' [u, v])) (fun ρ' => Qd (.lst (ds'.map fun _ => .bl true)) (EV.unwipe ρ1 ρ' [u, v]))
  let Iv : Nat → Nat → Hp → Prop := fun j m H' => ∃ Hs2 ρ2 accV, j ≤ ds'.length ∧ m = ds'.length - j ∧ SR X.K X.mg Z Hs2 H' (wipe σ [u, v]) ρ2 ∧ Same Hs1 Hs2 ∧ Hs2 p = none ∧ H' p = some (.lst accV) ∧ accV = List.replicate j (V.bl true) ∧
    (∀ i, ¬ Owns (wipe σ [u, v]) ρ2 i p) ∧ Wn (ds'.drop j) ρ2
  refine ⟨Iv, ⟨_, Hs1, wipeE ρ1 [u, v], [], Nat.zero_le _, rfl, (S1.wipe lf).loose hp', Same.refl _, f1, upd_same, rfl, ?_, hw⟩, ?_⟩
  · exact fun i ow => (S1.wipe lf).ownAt ow |>.2 hp'
  · rintro j m' H' ⟨Hs2, ρ2, accV, hi, rfl, S2, e2, d1, d2, d3, d4, hwn⟩
    have su := S1.unwipe lf S2 e2
    by_cases hlt : j < ds'.length
    · right
      have ed : ds'.drop j = ds'[j] :: ds'.drop (j + 1) := List.drop_eq_getElem_cons hlt
      have hwn' : Wn (ds'[j] :: ds'.drop (j + 1)) ρ2 := by rw [← ed]; exact hwn
      obtain ⟨hlk, lf2, l, due, ex, hl, hrun⟩ := hwn'
      have src2 := st1 _ Hs2 H' su e2 hlk
      refine ⟨I1.go j Hs2 H' src2 hlt, fun H3 => ∃ m', m' < ds'.length - j ∧ Iv (j + 1) m' H3, fun _ h => h, fun x H3 yy => ?_⟩
      have z0 : Z.H p = none := f2
      have zs : Z.Hs p = none := S2.hs0 d1
      have np : p ∉ Z.P := S2.notP d4
      obtain ⟨Hs3, S3, e3, r3, src3⟩ := I1.yld (Z.with p (.lst accV)) (wipe σ [u, v]) ρ2 j Hs2 H' x H3 (S2.guard rfl d2 d1 d4) src2 yy ds'[j] (by simp [hlt])
      refine ⟨Z.with p (.lst accV), Hs3, ρ2, ds'[j], fun ρ3 => ρ3 = (ρ2.set u (.fz (.fn l))).set v (.fz due), S3, r3, ⟨[.fn l, due], .inl ex, rfl, .fn l, [due], rfl, lf2 u (by simp), due, [], rfl, ?_, rfl, rfl⟩, ?_⟩
      · rw [at_set]
        split
        · rfl
        · exact lf2 v (by simp)
      rintro ρ3 σ3 rfl S4 ew
      have ew : wipe σ3 [u, v] = wipe (wipe σ [u, v]) [u, v] := ew
      rw [wipe_idem] at ew
      have lu : u < ρ2.length := by
        by_cases c : u < ρ2.length
        · exact c
        · exfalso
          have hN := (blkOk_by h1)
          have n1 := h2
          rw [S2.len.symm, wipe_length, I.len] at c
          unfold okTG at n1
          split at n1
          · simp only [okTGs, Bool.and_eq_true] at n1
            split at n1
            · simp only [Bool.and_eq_true] at n1
              have n2 := n1.1.1
              unfold okTG at n2
              split at n2
              · simp only [Bool.and_eq_true, decide_eq_true_eq] at n2
                rw [List.getElem?_eq_none (by omega)] at n2
                cases n2.1.1
              · cases n2
            · cases n1
          · cases n1
      have lv : v < ρ2.length := by
        by_cases c : v < ρ2.length
        · exact c
        · exfalso
          have n1 := h5
          obtain ⟨z', q1, q2, rfl, k1, k2, k3⟩ := repr_of h5
          obtain ⟨n, zp, rfl, n1, _⟩ := name_of k2
          rw [S2.len.symm, wipe_length, I.len] at c
          rw [List.getElem?_eq_none (by omega)] at n1
          cases n1
      refine ⟨ew, ?_⟩
      simp only [tYes, if_true]
      refine try_turn (Kn := fun ρ1' => lentFree ρ1' [u, v] ∧ wTryL T hs u v (fun ρ' => lkOf (.inr i) ρ1 (EV.unwipe ρ1 ρ' [u, v])) (fun ρ' => Qd (.lst (ds'.map fun _ => .bl true)) (EV.unwipe ρ1 ρ' [u, v])) (ds'.drop (j + 1)) (wipeE ρ1' [u, v])) ew S4 ?_ ?_ hl hrun ?_
      · rw [at_set, if_neg (fun q => h6 q.1), at_set, if_pos ⟨rfl, lu⟩]
      · rw [at_set, if_pos ⟨rfl, by rw [List.length_set]; exact lv⟩]
      · rintro ρ5 Hs5 H5 ⟨lf5, hw5⟩ S5 t5
        obtain ⟨S7, hD5, hs5, no5⟩ := S5.unguard z0 zs np
        have S8 := (S7.other (o := .lst (accV ++ [.bl true])) hD5 rfl hs5 z0 no5).wipe lf5
        rw [ew] at S8
        have la : accV.length = j := by rw [d3]; simp
        refine ⟨accV, hD5, by omega, ds'.length - (j + 1), by omega, Hs5, wipeE ρ5 [u, v], accV ++ [.bl true], hlt, rfl, S8, e2.trans (e3.trans t5), hs5, upd_same, ?_, ?_, hw5⟩
        · rw [d3, ← List.replicate_succ']
        · rintro j' ⟨q1, q2⟩
          rw [← ew, wipe_at] at q1
          rw [wipeE_at] at q2
          by_cases mm : j' ∈ [u, v]
          · rw [if_pos mm] at q1; cases q1
          · rw [if_neg mm] at q1 q2; exact no5 j' ⟨q1, q2⟩
    · left
      have ei : j = ds'.length := by omega
      subst ei
      have hwn' : Wn [] ρ2 := by
        have : ds'.drop ds'.length = [] := List.drop_length
        rw [← this]; exact hwn
      obtain ⟨hlk, hq⟩ := hwn'
      have rr : Reps X.K X.mg Hs2 accV (ds'.map fun _ => .bl true) := by
        rw [d3]
        exact reps_bls ds'
      refine ⟨I1.stop Hs2 H' (st1 _ Hs2 H' su e2 hlk), ?_⟩
      refine g2 _ _ Hs2 H' (.ref p) hq su (e1.trans e2) ⟨.inr ⟨p, rfl, d1, f2, fun j ow => ?_, .inl ⟨accV, _, rfl, d2, rr⟩⟩, fun _ i => notRep d1 i⟩
      have hl : ρ1.length = ρ2.length := by rw [← S1.len, ← S2.len, wipe_length]
      obtain ⟨o1, o2⟩ := ow
      rw [unwipe_at ρ1 ρ2 j hl] at o2
      by_cases mm : j ∈ [u, v]
      · rw [if_pos mm] at o2
        revert o2
        cases ρ1.at j <;> simp [Slot.fixed, Slot.owned]
      · rw [if_neg mm] at o2
        exact d4 j ⟨by rw [wipe_at, if_neg mm]; exact o1, o2⟩
end
end EV
set_option Elab.async false
set_option linter.all false
set_option maxRecDepth 100000
set_option maxHeartbeats 4000000
/-! EV11: every expression that is the syntax of E is walked with its meaning. -/
namespace EV
open PySem PySem.Spec PyProof.Rows L2
theorem iter_ok {it : Expr} (h : iterOk it = true) (env : Env) (x : Value) : foldedSetIterable it env x = pure x := by
  cases it <;> first | rfl | cases h
theorem att_base {y : Expr} {x : Str} {env : Env} (h : attOk y = true) : attributeBase y x env (eval y env) = eval y env := by
  unfold attOk at h
  split at h
  · rfl
  · rfl
  · rename_i f _ _ _ _
    cases f <;> rfl
  · cases h
theorem const_of {l : Lit} {e : Expr} (h : okLit l e = true) : ∃ c a b, e = .Constant c a b := by
  unfold okLit at h
  split at h <;> first | exact ⟨_, _, _, rfl⟩ | cases h
section
variable {P : Program} {w : World} {K : PySem.W.Frag} {mg : Mg} {base : Heap} {k : Nat} {T : Tb} {X : Cx} {W : WX} {e : Expr}
theorem jt_ite {c y z : Expr} {wt wa wb : WE} {pos : Pos} (hc : JT' X W c wt) (ha : JT' X W y wa) (hb : JT' X W z wb) : JT' X W (.IfExp c y z pos) (wIte wt wa wb) := fun Z => ⟨fun pins s σ H Q I ⟨Hs, ρ, S, g⟩ => by
  have g : Go X.K X.mg rBo Z W σ Hs (fun Qd R => wB wt (fun b ρ1 => if b = true then wB wa Qd R ρ1 else wB wb Qd R ρ1) R ρ) Q := g
  show wpAny _ _ (do if ← isTrue c X.env (eval c X.env) then isTrue y X.env (eval y X.env) else isTrue z X.env (eval z X.env)) _ _ _
  have hq : tW X.K X.mg rBo Z W (wB wt) σ H (fun b H1 => if b = true then tW X.K X.mg rBo Z W (wB wa) σ H1 Q else tW X.K X.mg rBo Z W (wB wb) σ H1 Q) :=
    ⟨Hs, ρ, S, Go.seq (rel := rBo) (rel' := rBo) (w1 := wB wt) (w2 := fun b Qd R ρ1 => if b = true then wB wa Qd R ρ1 else wB wb Qd R ρ1) g fun v d ρ1 Hs1 H1 S1 _ r g1 => by
      obtain rfl : v = d := r
      cases v with
      | true => simp only [if_true] at g1 ⊢; exact ⟨Hs1, ρ1, S1, g1⟩
      | false => simp only [Bool.false_eq_true, if_false] at g1 ⊢; exact ⟨Hs1, ρ1, S1, g1⟩⟩
  refine wpAny_bind (thn ((hc Z).run pins s σ H _ I hq) fun b s1 ⟨H1, I1, q⟩ => ?_)
  cases b with
  | true => simp only [if_true] at q ⊢; exact (ha Z).run pins s1 σ H1 Q I1 q
  | false => simp only [Bool.false_eq_true, if_false] at q ⊢; exact (hb Z).run pins s1 σ H1 Q I1 q⟩
theorem jt_val {w : WE} (j : JE X W e w) (he : ∀ whole, isTrue e X.env whole = (do let v ← whole; standAt e.pos; holding [v] (truthy v))) : JT' X W e w := fun Z => ptI (pt_val (j Z) he) fun σ H Q h => test_E h
theorem jt_valF {m : Bool} {w : WE} (j : JX m X W e w) (he : ∀ whole, isTrue e X.env whole = (do let v ← whole; standAt e.pos; holding [v] (truthy v))) : JT' X W e w := fun Z => ptI (pt_val (j Z) he) fun σ H Q h => test_F h
theorem j_isi' (o : Ok P w K mg base k T X W) {ts : List Ty} {g : Str} {y c : Expr} {p pos : Pos} {wa : WA} (hg : glb X.env.scope g = true) (eg : g = ("isinstance" : Str))
    (h : (match ts, c with
      | [t], .Name .. => okTy X.env.scope t c
      | _, .Tuple cs _ _ => okTys X.env.scope ts cs
      | _, _ => false) = true) (h1 : noStar y = true) (h2 : noStar c = true) (ha : JA X W y wa) :
    JE X W (.Call (.Name g p) [y, c] [] pos) (wIsi T wa ts) := fun Z => ⟨fun pins s σ H Q I ⟨Hs, ρ, S, Qd, R, g1, g2, g3⟩ => by
  obtain ⟨hi, hr⟩ := g1
  unfold isiOk at hi
  simp only [Bool.and_eq_true, List.all_eq_true, decide_eq_true_eq, Bool.not_eq_true'] at hi
  obtain ⟨⟨i1, i2⟩, i3⟩ := hi
  have hh : (∃ t, ts = [t] ∧ okTy X.env.scope t c = true ∧ ∀ C, t = .c C → C ∈ T.cls) ∨ ∃ cs kk q, c = .Tuple cs kk q ∧ okTys X.env.scope ts cs = true ∧ ts ≠ [] ∧ ts.length ≤ sizeLine := by
    split at h
    · exact .inl ⟨_, rfl, h, fun C e => by subst e; simpa using i1 _ List.mem_cons_self⟩
    · refine .inr ⟨_, _, _, rfl, h, (fun e => by subst e; cases i2), Nat.le_trans i3 (by unfold sizeLine; omega)⟩
    · cases h
  exact (j_isi (N := []) o hg eg h1 h2 ha hh Z).run pins s σ H Q I ⟨Hs, ρ, S, Qd, R, hr, g2, g3⟩⟩
theorem ok_blk (o : Ok P w K mg base k T X W) {s : Shared} {H : Hp} {scope : Scope} {cenv : Env} {fp : List Addr} : Ok P w K mg base k T.off (X.blk s H scope cenv fp) W0 :=
  ⟨⟨o.inn.p, o.inn.w, o.inn.K, o.inn.mg, o.inn.base, o.inn.room, o.inn.gd⟩, o.fine.off, takes0, o.calm, o.nd, fun e => nomatch e⟩
theorem j_comp {m : Bool} (o : Ok P w K mg base k T X W) {elt tg iter : Expr} {ifs : List Expr} {scope : Scope} {pos : Pos} {vs : List Nat} {t : Tg} {wi : WI} {c : (Bool → En → Prop) → (Exc → En → Prop) → En → Prop} {we : WE}
    (hb : blkC X.N X.env.scope scope (vs.map fun v => (X.N.getD v Str.empty, v)) = true) (ht : okTG X.N (relS scope X.env.scope) (fun x => scope.names.lookup x == some .cell) vs t tg = true) (hi : JI X W tg iter wi) (hs : iterOk iter = true)
    (hc : ∀ Y, Ok P w K mg base k T.off Y W0 → Y.N = X.N → Y.env.scope = relS scope X.env.scope → ∀ Z, PTs Y ifs (tW Y.K Y.mg rBo Z W0 c))
    (he : ∀ Y, Ok P w K mg base k T.off Y W0 → Y.N = X.N → Y.env.scope = relS scope X.env.scope → JE Y W0 elt we) : JX m X W (.ListComp elt [⟨tg, iter, ifs, 0⟩] scope pos) (wComp vs (wTG t) wi c we) := fun Z => by
  have em : (vs.map fun v => (X.N.getD v Str.empty, v)).map (·.2) = vs := by rw [List.map_map]; exact List.map_id _
  have h := pe_lc (scope := scope) (own := vs.map fun v => (X.N.getD v Str.empty, v)) (pos := pos) (g := fun v σ H Q => ∃ Z, tG X.K X.mg Z vs t v σ H Q) (tt := xE fun Z => tW X.K X.mg rBo Z W0 c) (te := xE fun Z => tE X.K X.mg Z W0 we)
    o.calm o.nd (hi Z) (blkOk_by hb)
    (fun s H C cl fp => ⟨fun pins s' σ H' v u Q I r ⟨Z, h⟩ => (pg_t (X := X.blk s H scope (compEnvC scope cl C X.env) fp) o.calm o.nd (fb := fun x => scope.names.lookup x == some .cell) (fun _ e => e) t tg ht Z).run pins s' σ H' v u Q I r h⟩)
    (fun s H C cl fp => ⟨fun pins s' σ H' Q I ⟨Z, h⟩ => (hc (X.blk s H scope (compEnvC scope cl C X.env) fp) (ok_blk o) rfl rfl Z).run pins s' σ H' Q I h⟩)
    (fun s H C cl fp => ⟨fun pins s' σ H' Q I ⟨Z, h⟩ => (he (X.blk s H scope (compEnvC scope cl C X.env) fp) (ok_blk o) rfl rfl Z).run pins s' σ H' Q I h⟩)
    (fun x => iter_ok hs _ _)
  rw [em] at h
  exact peI h fun σ H Q q => comp_read q
theorem okEs_star {N : List Str} {sc : Scope} : ∀ {es : Es} {xs : List Expr}, okEs N sc es xs = true → xs.all noStar = true
  | .nil, xs, h => by
    cases xs with
    | nil => rfl
    | cons x r => simp [okEs] at h
  | .cons e es, [], h => by simp [okEs] at h
  | .cons e es, x :: r, h => by
    simp only [okEs, Bool.and_eq_true] at h
    simp only [List.all_cons, Bool.and_eq_true]
    exact ⟨h.1.2, okEs_star h.2⟩
theorem okBs_star {N : List Str} {sc : Scope} : ∀ {es : Bs} {xs : List Expr}, okBs N sc es xs = true → xs.all noStar = true
  | .nil, xs, h => by
    cases xs with
    | nil => rfl
    | cons x r => simp [okBs] at h
  | .cons e es, [], h => by simp [okBs] at h
  | .cons e es, x :: r, h => by
    simp only [okBs, Bool.and_eq_true] at h
    simp only [List.all_cons, Bool.and_eq_true]
    exact ⟨h.1.2, okBs_star h.2⟩
theorem pts_e {x : Expr} {w : WE} (h : JT' X W x w) : ∀ Z, PTs X [x] (tW X.K X.mg rBo Z W (wB w)) := fun Z => pts_one (h Z)
theorem pts_no : ∀ Z, PTs X [] (tW X.K X.mg rBo Z W (fun Q _ ρ => Q true ρ)) := fun Z => ⟨fun pins s σ H Q I ⟨Hs, ρ, S, g⟩ => pts_nil.run pins s σ H Q I (by
  obtain ⟨Qd, R, h1, h2, _⟩ := g
  exact h2 true ρ Hs H true h1 S (Same.refl _) rfl)⟩
theorem reps_rg {K : PySem.W.Frag} {mg : Mg} {Hs : Hp} {n : Int} : Reps K mg Hs (rgV 0 n) (upTo n.toNat 0) := by
  unfold rgV upTo
  rw [show n - 0 = n by omega]
  induction List.range n.toNat with
  | nil => exact .nil
  | cons a r ih => exact .cons (.int _) ih
theorem j_rng {m : Bool} (o : Ok P w K mg base k T X W) {y : Expr} {p p' q q' : Pos} {we : WE} (hl : glb X.env.scope "list" = true) (hr : glb X.env.scope "range" = true) (hy : noStar y = true) (he : JE X W y we) :
    JX m X W (.Call (.Name "list" p) [.Call (.Name "range" p') [y] [] q'] [] q) (wRng we) := fun Z =>
  peI (pe_listRg o.calm (gl_of hl) (o.no "list" (by decide)) (prg_1 (gl_of hr) (o.no "range" (by decide)) (he Z) (star_no hy))) fun σ H Q ⟨Hs, ρ, S, Qd, R, h1, h2, h3⟩ =>
    ⟨Hs, ρ, S, _, R, h1, fun d ρ1 Hs1 H1 v ⟨j, e, b1, b2, b3, q⟩ S1 e1 r => by
      subst e
      cases r
      refine ⟨j, rfl, ⟨by omega, by omega, b1, b2, by rw [show j - 0 = j by omega]; exact b3⟩, fun a ha => ?_⟩
      obtain ⟨f1, f2, f3⟩ := S1.fresh ha
      exact h2 _ ρ1 Hs1 _ _ q (S1.loose ha) e1 ⟨.inr ⟨a, rfl, f1, f2, f3, .inl ⟨_, _, rfl, upd_same, reps_rg⟩⟩, fun _ i => notRep f1 i⟩, h3⟩
def trsOf (K : PySem.W.Frag) (mg : Mg) (W : WX) (T : Tb) : List Str → Es → List (L2.TE × L2.TE)
  | k :: ks, .cons e es => (tC (.str k), fun σ H Q => ∃ Z, tE K mg Z W (wE T e) σ H Q) :: trsOf K mg W T ks es
  | _, _ => []
theorem pairs_read {K : PySem.W.Frag} {mg : Mg} {W : WX} {T : Tb} : ∀ {ks : List Str} {es : Es} {Z : Zn} {Hs H : Hp} {σ : L2.St} {ρ : En} {Qd : List D → En → Prop} {R : Exc → En → Prop} {Q : List (V × V) → Hp → Prop}, SR K mg Z Hs H σ ρ → wEs T es Qd R ρ →
    (∀ ds ρ' Hs' H' vs, Qd ds ρ' → SR K mg Z Hs' H' σ ρ' → Same Hs Hs' → Reps K mg Hs' vs ds → ks.length = ds.length ∧ Q ((ks.zip vs).map fun p => (V.str p.1, p.2)) H') →
    (∀ c ρ' Hs' H' cls a, R c ρ' → SR K mg Z Hs' H' σ ρ' → Same Hs Hs' → ExcR K mg Hs' H' c cls a → W cls a σ H') → ks.length = es.len → tPairs (trsOf K mg W T ks es) σ H Q
  | [], .nil, Z, Hs, H, σ, ρ, Qd, R, Q, S, h, h2, h3, _ => (h2 [] ρ Hs H [] h S (Same.refl _) .nil).2
  | k :: ks, .cons e es, Z, Hs, H, σ, ρ, Qd, R, Q, S, h, h2, h3, hl => by
    refine ⟨Z, Hs, ρ, S, _, R, h, fun d ρ1 Hs1 H1 v q1 S1 e1 rv => ?_, h3⟩
    refine pairs_read S1 q1 (fun ds ρ' Hs' H' vs a b c r => ?_) (fun c ρ' Hs' H' cls a x y z => h3 c ρ' Hs' H' cls a x y (e1.trans z)) (Nat.succ.inj hl)
    obtain ⟨g1, g2⟩ := h2 (d :: ds) ρ' Hs' H' (v :: vs) a b (e1.trans c) (.cons (Rep.mono c rv) r)
    exact ⟨Nat.succ.inj g1, g2⟩
  | [], .cons _ _, _, _, _, _, _, _, _, _, _, _, _, _, h => by cases h
  | _ :: _, .nil, _, _, _, _, _, _, _, _, _, _, _, _, h => by cases h
theorem merge_new : ∀ {kvs acc : List (Key × V)}, (acc ++ kvs).map (·.1) |>.Nodup → mergeK acc kvs = acc ++ kvs
  | [], acc, _ => by simp [mergeK]
  | kv :: kvs, acc, h => by
    have hn : (acc.any fun p => decide (p.1 = kv.1)) = false := by
      rw [List.any_eq_false]
      intro p hp
      have h' := h
      rw [List.map_append, List.nodup_append] at h'
      have := h'.2.2 p.1 (List.mem_map.mpr ⟨p, hp, rfl⟩) kv.1 (List.mem_map.mpr ⟨kv, List.mem_cons_self, rfl⟩)
      simpa using this
    have e : putK acc kv.1 kv.2 = acc ++ [kv] := by unfold putK; rw [if_neg (by rw [hn]; simp)]
    show mergeK (putK acc kv.1 kv.2) kvs = _
    rw [e, merge_new (by rw [List.append_assoc]; exact h), List.append_assoc]
    rfl
theorem j_disp {m : Bool} {ks : List Str} {es : Es} {keys : List (Option Expr)} {vals : List Expr} {pos : Pos} (hp : PPs X pos keys vals (trsOf X.K X.mg W T ks es)) (hall : keys.all (·.isSome) = true) (hl : keys.length = vals.length) (h0 : keys ≠ []) (h15 : keys.length ≤ 15) (hk : ks.length = keys.length) (he : ks.length = es.len) :
    JX m X W (.Dict keys vals pos) (fun Q R ρ => wEs T es (fun ds ρ1 => ks.length = ds.length ∧ ks.Nodup ∧ Q (.dK ((ks.map Sum.inr).zip ds)) ρ1) R ρ) := fun Z =>
  peI (pe_disp hp hall hl h0 h15) fun σ H Q ⟨Hs, ρ, S, Qd, R, h1, h2, h3⟩ p hp => by
    obtain ⟨f1, f2, f3⟩ := S.fresh hp
    have S0 : SR X.K X.mg Z Hs (upd H p (.dK [])) σ ρ := S.loose hp
    have zs := S0.hs0 f1
    have np := S0.notP f3
    refine pairs_read (S0.guard rfl upd_same f1 f3) h1 (fun ds ρ' Hs' H' vs ⟨a1, a2, a3⟩ b c r => ?_) (fun c ρ' Hs' H' cls a x y z => h3 c ρ' Hs' H' cls a x (y.unguard f2 zs np).1 z) he
    obtain ⟨S1, u1, u2, u3⟩ := b.unguard f2 zs np
    have lv : (ks.map (Sum.inr : Str → Key)).length = vs.length := by rw [List.length_map, a1, r.length]
    have nd : (([] : List (Key × V)) ++ (ks.map (Sum.inr : Str → Key)).zip vs).map (·.1) |>.Nodup := by
      rw [List.nil_append, List.map_fst_zip (by omega)]
      exact List.Pairwise.map _ (fun _ _ h e => h (Sum.inr.inj e)) a2
    refine ⟨a1, u1, (ks.map (Sum.inr : Str → Key)).zip vs, ?_, ?_, ?_⟩
    · rw [List.zip_map_left, List.map_map]; rfl
    · rw [List.length_zip]; rw [List.length_map]; omega
    · rw [merge_new nd, List.nil_append]
      exact h2 _ ρ' Hs' _ _ a3 (S1.other u1 rfl u2 f2 u3) c ⟨.inr ⟨p, rfl, u2, f2, u3, .inr (.inl ⟨_, vs, ds, rfl, upd_same, lv, r⟩)⟩, fun _ i => notRep u2 i⟩
theorem dispK_len : ∀ {ks : List Str} {keys : List (Option Expr)}, dispK ks keys = true → ks.length = keys.length ∧ keys.all (·.isSome) = true
  | [], [], _ => ⟨rfl, rfl⟩
  | k :: ks, some (.Constant (.str x) _ _) :: r, h => by
    simp only [dispK, Bool.and_eq_true] at h
    obtain ⟨h1, h2⟩ := dispK_len h.2
    exact ⟨congrArg Nat.succ h1, by simpa using h2⟩
theorem okEs_len {N : List Str} {sc : Scope} : ∀ {es : Es} {xs : List Expr}, okEs N sc es xs = true → xs.length = es.len
  | .nil, [], _ => rfl
  | .nil, _ :: _, h => by simp [okEs] at h
  | .cons _ _, [], h => by simp [okEs] at h
  | .cons e es, x :: r, h => by
    simp only [okEs, Bool.and_eq_true] at h
    exact congrArg Nat.succ (okEs_len h.2)
abbrev PAnds (X : Cx) (W : WX) (T : Tb) (es : Es) (xs : List Expr) : Prop := ∀ pos, (JE X W (.BoolOp .And xs pos) (wAnds T es) ∧ JW X W (.BoolOp .And xs pos) (wAnds T es)) ∧ JE X W (.BoolOp .Or xs pos) (wOrs T es) ∧ JW X W (.BoolOp .Or xs pos) (wOrs T es)
/-- whether it may be nothing new -/
def fIt : F → Bool
  | .op2 q _ _ => isItem q
  | _ => false
mutual
theorem s_E : ∀ (e : E) {T : Tb} {X : Cx} {W : WX} (o : Ok P w K mg base k T X W) (x : Expr), okE X.N X.env.scope e x = true → JE X W x (wE T e) ∧ JT' X W x (wE T e)
  | .lam n e, T, X, W, o, x, h => by
    simp only [okE] at h
    split at h
    · rename_i params body scope pos
      simp only [Bool.and_eq_true] at h
      obtain ⟨⟨h1, h2⟩, h3⟩ := h
      have j : JE X W (.Lambda params body scope pos) (wE T (.lam n e)) := j_lam o h1 h2 h3
      exact ⟨j, jt_val j fun _ => rfl⟩
    · cases h
  | .err f a, T, X, W, o, x, h => by
    simp only [okE] at h
    split at h
    · rename_i g p y pos
      simp only [Bool.and_eq_true, decide_eq_true_eq, Bool.not_eq_true'] at h
      obtain ⟨⟨⟨⟨rfl, h2⟩, h3⟩, h4⟩, h5⟩ := h
      have j : JE X W (.Call (.Name f p) [y] [] pos) (wE T (.err f a)) := j_err o h2 h3 h5 (s_A a o _ h4)
      exact ⟨j, jt_val j fun _ => rfl⟩
    · cases h
  | .lit l, T, X, W, o, x, h => by
    have j : JE X W x (wE T (.lit l)) := j_lit (by simpa only [okE] using h)
    obtain ⟨c, a, b, rfl⟩ := const_of (by simpa only [okE] using h)
    exact ⟨j, jt_val j fun _ => rfl⟩
  | .v i, T, X, W, o, x, h => by
    have j : JE X W x (wE T (.v i)) := j_v (by simpa only [okE] using h)
    obtain ⟨y, p, rfl, _⟩ := name_of (by simpa only [okE] using h)
    exact ⟨j, jt_val j fun _ => rfl⟩
  | .g y, T, X, W, o, x, h => by
    cases x with
    | Name z p =>
      simp only [okE, Bool.and_eq_true, decide_eq_true_eq, Bool.not_eq_true'] at h
      obtain ⟨⟨rfl, h2⟩, h3⟩ := h
      have j : JE X W (.Name y p) (wE T (.g y)) := j_g o h2 h3
      exact ⟨j, jt_val j fun _ => rfl⟩
    | _ => simp [okE] at h
  | .op1 q a, T, X, W, o, x, h => by
    simp only [okE] at h
    exact ⟨j_still (j_op1 (m := true) o (fun y hy => s_A a o y hy) h), jt_op1 o (fun y hy => s_A a o y hy) h⟩
  | .op2 q a b, T, X, W, o, x, h => by
    simp only [okE] at h
    exact ⟨j_still (j_op2 (m := true) o (fun _ => rfl) (fun y hy => s_A a o y hy) (fun y hy => s_A b o y hy) h), jt_op2 o (fun y hy => s_A a o y hy) (fun y hy => s_A b o y hy) h⟩
  | .ch q r a b c, T, X, W, o, x, h => by
    simp only [okE] at h
    split at h
    · rename_i pos
      simp only [Bool.and_eq_true, decide_eq_true_eq, Bool.not_eq_true'] at h
      obtain ⟨⟨⟨⟨⟨h1, h2⟩, h3⟩, h4⟩, h5⟩, h6⟩ := h
      have j := j_ch o (pos := pos) h1 h2 (s_A a o _ h3) (s_A b o _ h4) (s_A c o _ h5) h6
      exact ⟨j_still j.1, j.2⟩
    · cases h
  | .slc a lo hi, T, X, W, o, x, h => by
    simp only [okE] at h
    have j := j_slc (m := true) o (fun y hy => s_A a o y hy) (fun y hy => (s_OE lo o).1 y hy) (fun y hy => (s_OE hi o).1 y hy) h
    exact ⟨j_still j.1, j.2⟩
  | .and es, T, X, W, o, x, h => by
    simp only [okE] at h
    split at h
    · rename_i pos
      simp only [Bool.and_eq_true, decide_eq_true_eq] at h
      have q := ((s_Es es o _ h.1).2.1 (fun e => by have := h.2; rw [e] at this; simp at this) pos).1
      exact ⟨q.1, fun Z => ⟨fun pins s σ H Q I hw => (q.2 Z).run _ pins s σ H Q I hw⟩⟩
    · cases h
  | .or es, T, X, W, o, x, h => by
    simp only [okE] at h
    split at h
    · rename_i pos
      simp only [Bool.and_eq_true, decide_eq_true_eq] at h
      have q := ((s_Es es o _ h.1).2.1 (fun e => by have := h.2; rw [e] at this; simp at this) pos).2
      exact ⟨q.1, fun Z => ⟨fun pins s σ H Q I hw => (q.2 Z).run _ pins s σ H Q I hw⟩⟩
    · cases h
  | .not e, T, X, W, o, x, h => by
    simp only [okE] at h
    split at h
    · have j := s_E e o _ h
      exact ⟨j_not j.1, jt_not j.2⟩
    · cases h
  | .ite t a b, T, X, W, o, x, h => by
    simp only [okE] at h
    split at h
    · simp only [Bool.and_eq_true] at h
      obtain ⟨⟨h1, h2⟩, h3⟩ := h
      have jt := s_E t o _ h1
      have ja := s_E a o _ h2
      have jb := s_E b o _ h3
      exact ⟨j_ite jt.2 ja.1 jb.1, jt_ite jt.2 ja.2 jb.2⟩
    · cases h
  | .tup es, T, X, W, o, x, h => by
    simp only [okE] at h
    split at h
    · rename_i xs kk pos
      have j : JE X W (.Tuple xs kk pos) (wE T (.tup es)) := j_tup (s_Es es o _ h).1
      exact ⟨j, jt_val j fun _ => rfl⟩
    · cases h
  | .fz f, T, X, W, o, x, h => by
    simp only [okE] at h
    have j := s_F f true (fun _ => rfl) o _ h
    exact ⟨j_still j.1, j.2⟩
  | .att a f, T, X, W, o, x, h => by
    simp only [okE] at h
    split at h
    · rename_i y g pos
      simp only [Bool.and_eq_true, decide_eq_true_eq] at h
      obtain ⟨⟨rfl, h2⟩, h3⟩ := h
      have j : JE X W (.Attribute y f pos) (wE T (.att a f)) := j_att o (s_A a o _ h2) (att_base h3)
      exact ⟨j, jt_val j fun _ => rfl⟩
    · cases h
  | .call f bs, T, X, W, o, x, h => by
    simp only [okE] at h
    split at h
    · rename_i g p xs pos
      simp only [Bool.and_eq_true, decide_eq_true_eq, Bool.not_eq_true'] at h
      obtain ⟨⟨⟨rfl, h2⟩, h3⟩, h4⟩ := h
      have jb := s_Bs bs o _ h4
      have hs := okBs_star h4
      have j : JE X W (.Call (.Name f p) xs [] pos) (wE T (.call f bs)) := by
        cases xs with
        | nil =>
          cases bs with
          | nil => exact j_call0 o h2 h3
          | cons b bs => simp [okBs] at h4
        | cons y ys =>
          simp only [List.all_cons, Bool.and_eq_true] at hs
          exact j_call o hs.1 hs.2 h2 h3 jb
      exact ⟨j, jt_val j fun _ => rfl⟩
    · cases h
  | .isi a ts, T, X, W, o, x, h => by
    simp only [okE] at h
    split at h
    · rename_i g p y c pos
      simp only [Bool.and_eq_true, decide_eq_true_eq] at h
      obtain ⟨⟨⟨⟨⟨h1, h2⟩, h3⟩, h4⟩, h5⟩, h6⟩ := h
      have j : JE X W (.Call (.Name g p) [y, c] [] pos) (wE T (.isi a ts)) := j_isi' o h2 h1 h6 h4 h5 (s_A a o _ h3)
      exact ⟨j, jt_val j fun _ => rfl⟩
    · cases h
  | .app i e, T, X, W, o, x, h => by
    simp only [okE] at h
    split at h
    · rename_i t m p y q
      simp only [Bool.and_eq_true, decide_eq_true_eq] at h
      obtain ⟨⟨⟨⟨rfl, h2⟩, h3⟩, h4⟩, h5⟩ := h
      have j : JE X W (.Call (.Attribute t "append" p) [y] [] q) (wE T (.app i e)) := j_app h2 h4 h5 (s_E e o _ h3).1
      exact ⟨j, jt_val j fun _ => rfl⟩
    · cases h
  | .popL i, T, X, W, o, x, h => by
    simp only [okE] at h
    split at h
    · rename_i t m p q
      simp only [Bool.and_eq_true, decide_eq_true_eq] at h
      obtain ⟨⟨rfl, h2⟩, h5⟩ := h
      have j : JE X W (.Call (.Attribute t "pop" p) [] [] q) (wE T (.popL i)) := j_popL h2 h5
      exact ⟨j, jt_val j fun _ => rfl⟩
    · cases h
  | .popAt i e, T, X, W, o, x, h => by
    simp only [okE] at h
    split at h
    · rename_i t m p y q
      simp only [Bool.and_eq_true, decide_eq_true_eq] at h
      obtain ⟨⟨⟨⟨rfl, h2⟩, h3⟩, h4⟩, h5⟩ := h
      have j : JE X W (.Call (.Attribute t "pop" p) [y] [] q) (wE T (.popAt i e)) := j_popAt h2 h4 h5 (s_E e o _ h3).1
      exact ⟨j, jt_val j fun _ => rfl⟩
    · cases h
  | .rem i e, T, X, W, o, x, h => by
    simp only [okE] at h
    split at h
    · rename_i t m p y q
      simp only [Bool.and_eq_true, decide_eq_true_eq] at h
      obtain ⟨⟨⟨⟨rfl, h2⟩, h3⟩, h4⟩, h5⟩ := h
      have j : JE X W (.Call (.Attribute t "remove" p) [y] [] q) (wE T (.rem i e)) := j_rem o h2 h4 h5 (s_E e o _ h3).1
      exact ⟨j, jt_val j fun _ => rfl⟩
    · cases h
theorem s_OE : ∀ (e : OE) {T : Tb} {X : Cx} {W : WX} (o : Ok P w K mg base k T X W), (∀ x, okOE X.N X.env.scope e x = true → JO X W x (wOE T e)) ∧ (∀ xs, okCond X.N X.env.scope e xs = true → ∀ Z, PTs X xs (tW X.K X.mg rBo Z W (wCond T e)))
  | .no, T, X, W, o => by
    refine ⟨fun x h => ?_, fun xs h => ?_⟩
    · cases x with
      | none => exact jo_no
      | some y => simp [okOE] at h
    · cases xs with
      | nil => exact pts_no
      | cons y r => simp [okCond] at h
  | .so e, T, X, W, o => by
    refine ⟨fun x h => ?_, fun xs h => ?_⟩
    · cases x with
      | none => simp [okOE] at h
      | some y => exact jo_some (s_E e o y (by simpa only [okOE] using h)).1
    · simp only [okCond] at h
      split at h
      · exact pts_e (s_E e o _ h).2
      · cases h
theorem s_A : ∀ (a : A) {T : Tb} {X : Cx} {W : WX} (o : Ok P w K mg base k T X W) (x : Expr), okA X.N X.env.scope a x = true → JA X W x (wA T a)
  | .e e, T, X, W, o, x, h => j_operand (s_E e o x (by simpa only [okA] using h)).1
  | .pk i, T, X, W, o, x, h => j_pk (by simpa only [okA] using h)
theorem s_Es : ∀ (es : Es) {T : Tb} {X : Cx} {W : WX} (o : Ok P w K mg base k T X W) (xs : List Expr), okEs X.N X.env.scope es xs = true → JL X W xs (wEs T es) ∧ (xs ≠ [] → PAnds X W T es xs) ∧ ∀ (pos : Pos) (ks : List Str) (keys : List (Option Expr)), dispK ks keys = true → keys.length = xs.length → PPs X pos keys xs (trsOf X.K X.mg W T ks es)
  | .nil, T, X, W, o, xs, h => by
    cases xs with
    | nil =>
      refine ⟨jl_nil, fun e => absurd rfl e, fun pos ks keys h1 h2 => ?_⟩
      cases keys with
      | nil =>
        cases ks with
        | nil => exact pps_nil
        | cons k ks => cases h1
      | cons k ks => cases h2
    | cons y r => simp [okEs] at h
  | .cons e es, T, X, W, o, xs, h => by
    cases xs with
    | nil => simp [okEs] at h
    | cons y r =>
      simp only [okEs, Bool.and_eq_true] at h
      obtain ⟨⟨h1, h2⟩, h3⟩ := h
      have j1 := s_E e o _ h1
      have j2 := s_Es es o _ h3
      refine ⟨jl_cons h2 j1.1 j2.1, fun _ pos => ?_, fun pos ks keys g1 g2 => ?_⟩
      rotate_left
      · match ks, keys, g1, g2 with
        | k :: ks, some (.Constant (.str x) i q) :: keys, g1, g2 =>
          simp only [dispK, Bool.and_eq_true, decide_eq_true_eq] at g1
          obtain ⟨rfl, g1⟩ := g1
          exact pps_cons pe_str ⟨fun pins s σ H Q I ⟨Z, h⟩ => (j1.1 Z).run pins s σ H Q I h⟩ (j2.2.2 pos ks keys g1 (Nat.succ.inj g2))
        | [], [], g1, g2 => cases g2
        | [], _ :: _, g1, g2 => cases g1
      cases es with
      | nil =>
        cases r with
        | cons y r => simp [okEs] at h3
        | nil => exact ⟨⟨fun Z => pe_one (j1.1 Z), fun Z => pw_and1 (j1.2 Z)⟩, fun Z => pe_one (j1.1 Z), fun Z => pw_or1 (j1.2 Z)⟩
      | cons e' es' =>
        cases r with
        | nil => simp [okEs] at h3
        | cons z r =>
          obtain ⟨⟨a1, a2⟩, a3, a4⟩ := j2.2.1 (by simp) pos
          exact ⟨⟨j_and j1.1 a1, jw_and j1.2 a2⟩, j_or j1.1 a3, jw_or j1.2 a4⟩
theorem s_Bs : ∀ (bs : Bs) {T : Tb} {X : Cx} {W : WX} (o : Ok P w K mg base k T X W) (xs : List Expr), okBs X.N X.env.scope bs xs = true → JB X W xs (wBs T bs)
  | .nil, T, X, W, o, xs, h => by
    cases xs with
    | nil => exact jb_nil
    | cons y r => simp [okBs] at h
  | .cons b bs, T, X, W, o, xs, h => by
    cases xs with
    | nil => simp [okBs] at h
    | cons y r =>
      simp only [okBs, Bool.and_eq_true] at h
      exact jb_cons h.1.2 (s_A b o _ h.1.1) (s_Bs bs o _ h.2)
theorem s_F : ∀ (f : F) {T : Tb} {X : Cx} {W : WX} (m : Bool) (hm : fIt f = true → m = true) (o : Ok P w K mg base k T X W) (x : Expr), okF X.N X.env.scope f x = true → JX m X W x (wF T f) ∧ JT' X W x (wF T f)
  | .lst es, T, X, W, m, hm, o, x, h => by
    simp only [okF] at h
    split at h
    · rename_i xs pos
      have j : JX m X W (.List xs pos) (wF T (.lst es)) := j_lst (s_Es es o _ h).1
      exact ⟨j, jt_valF j fun _ => rfl⟩
    · cases h
  | .op1 q a, T, X, W, m, hm, o, x, h => by
    simp only [okF] at h
    exact ⟨j_op1 o (fun y hy => s_A a o y hy) h, jt_op1 o (fun y hy => s_A a o y hy) h⟩
  | .op2 q a b, T, X, W, m, hm, o, x, h => by
    simp only [okF] at h
    exact ⟨j_op2 o hm (fun y hy => s_A a o y hy) (fun y hy => s_A b o y hy) h, jt_op2 o (fun y hy => s_A a o y hy) (fun y hy => s_A b o y hy) h⟩
  | .slc a lo hi, T, X, W, m, hm, o, x, h => by
    simp only [okF] at h
    exact j_slc o (fun y hy => s_A a o y hy) (fun y hy => (s_OE lo o).1 y hy) (fun y hy => (s_OE hi o).1 y hy) h
  | .dK, T, X, W, m, hm, o, x, h => by
    simp only [okF] at h
    split at h
    · rename_i pos
      have j : JX m X W (.Dict [] [] pos) (wF T .dK) := j_dK
      exact ⟨j, jt_valF j fun _ => rfl⟩
    · cases h
  | .dT, T, X, W, m, hm, o, x, h => by
    simp only [okF] at h
    split at h
    · rename_i pos
      have j : JX m X W (.Dict [] [] pos) (wF T .dT) := j_dT
      exact ⟨j, jt_valF j fun _ => rfl⟩
    · cases h
  | .comp vs t it c e, T, X, W, m, hm, o, x, h => by
    simp only [okF] at h
    split at h
    · rename_i y tg i ifs scope pos
      simp only [Bool.and_eq_true] at h
      obtain ⟨⟨⟨⟨h1, h2⟩, h3⟩, h4⟩, h5⟩ := h
      have ji := s_IT it o _ _ h3
      have j : JX m X W (.ListComp y [⟨tg, i, ifs, 0⟩] scope pos) (wF T (.comp vs t it c e)) := j_comp o h1 h2 ji.1 ji.2 (fun Y oY n1 n2 => (s_OE c oY).2 _ (by rw [n1, n2]; exact h4)) (fun Y oY n1 n2 => (s_E e oY _ (by rw [n1, n2]; exact h5)).1)
      exact ⟨j, jt_valF j fun _ => rfl⟩
    · cases h
  | .callF f bs, T, X, W, m, hm, o, x, h => by
    simp only [okF] at h
    split at h
    · rename_i g p x xs pos
      simp only [Bool.and_eq_true, decide_eq_true_eq, Bool.not_eq_true'] at h
      obtain ⟨⟨⟨rfl, h2⟩, h3⟩, h4⟩ := h
      have st := okBs_star h4
      simp only [List.all_cons, Bool.and_eq_true] at st
      have j : JX m X W (.Call (.Name f p) (x :: xs) [] pos) (wF T (.callF f bs)) := j_callF o st.1 st.2 h2 h3 (s_Bs bs o _ h4)
      exact ⟨j, jt_valF j fun _ => rfl⟩
    · cases h
  | .tries f i u v, T, X, W, m, hm, o, x, h => by
    simp only [okF] at h
    split at h
    · rename_i y z cp tg it scope pos
      simp only [Bool.and_eq_true, decide_eq_true_eq, Bool.not_eq_true'] at h
      obtain ⟨⟨⟨⟨⟨⟨⟨⟨h1, h2⟩, h3⟩, h4⟩, h5⟩, h6⟩, h7⟩, h8⟩, h9⟩ := h
      have j : JX m X W (.ListComp (.Compare y [.Eq] [z] cp) [⟨tg, it, [], 0⟩] scope pos) (wF T (.tries f i u v)) := j_tries o h1 h2 h3 h4 h5 h6 h7 h8 h9
      exact ⟨j, jt_valF j fun _ => rfl⟩
    · cases h
  | .rng e, T, X, W, m, hm, o, x, h => by
    simp only [okF] at h
    split at h
    · rename_i g p r p' y q' q
      simp only [Bool.and_eq_true, decide_eq_true_eq] at h
      obtain ⟨⟨⟨⟨⟨rfl, rfl⟩, h3⟩, h4⟩, h5⟩, h6⟩ := h
      have j : JX m X W (.Call (.Name "list" p) [.Call (.Name "range" p') [y] [] q'] [] q) (wF T (.rng e)) := j_rng o h3 h4 h6 (s_E e o _ h5).1
      exact ⟨j, jt_valF j fun _ => rfl⟩
    · cases h
  | .disp ks es, T, X, W, m, hm, o, x, h => by
    simp only [okF] at h
    split at h
    · rename_i keys vals pos
      simp only [Bool.and_eq_true, decide_eq_true_eq, Bool.not_eq_true'] at h
      obtain ⟨⟨⟨⟨h1, h2⟩, h3⟩, h4⟩, h5⟩ := h
      obtain ⟨d1, d2⟩ := dispK_len h1
      have j : JX m X W (.Dict keys vals pos) (wF T (.disp ks es)) := j_disp ((s_Es es o _ h2).2.2 pos ks keys h1 h3) d2 h3 (fun e => by subst e; cases h4) h5 d1 (d1.trans (h3.trans (okEs_len h2)))
      exact ⟨j, jt_valF j fun _ => rfl⟩
    · cases h
theorem s_IT : ∀ (it : IT) {T : Tb} {X : Cx} {W : WX} (o : Ok P w K mg base k T X W) (tg x : Expr), okIT X.N X.env.scope it tg x = true → JI X W tg x (wIT T it) ∧ iterOk x = true
  | .seq a, T, X, W, o, tg, x, h => by
    simp only [okIT, Bool.and_eq_true] at h
    exact ⟨ji_seq (s_A a o _ h.1), h.2⟩
  | .r1 e, T, X, W, o, tg, x, h => by
    simp only [okIT] at h
    split at h
    · simp only [Bool.and_eq_true, decide_eq_true_eq] at h
      obtain ⟨⟨⟨rfl, h2⟩, h3⟩, h4⟩ := h
      exact ⟨ji_r1 o h2 h4 (s_E e o _ h3).1, rfl⟩
    · cases h
  | .r2 a b, T, X, W, o, tg, x, h => by
    simp only [okIT] at h
    split at h
    · simp only [Bool.and_eq_true, decide_eq_true_eq] at h
      obtain ⟨⟨⟨⟨⟨rfl, h2⟩, h3⟩, h4⟩, h5⟩, h6⟩ := h
      exact ⟨ji_r2 o h2 h4 h6 (s_E a o _ h3).1 (s_E b o _ h5).1, rfl⟩
    · cases h
  | .zip a b, T, X, W, o, tg, x, h => by
    simp only [okIT] at h
    split at h
    · simp only [Bool.and_eq_true, decide_eq_true_eq] at h
      obtain ⟨⟨⟨⟨⟨⟨rfl, h2⟩, h3⟩, h4⟩, h5⟩, h6⟩, h7⟩ := h
      split at h7
      · exact ⟨ji_zip o h2 h4 h6 (s_A a o _ h3) (s_A b o _ h5), rfl⟩
      · cases h7
    · cases h
end
end
end EV
set_option Elab.async false
set_option linter.all false
set_option maxRecDepth 100000
set_option maxHeartbeats 4000000
/-! EV11b: own exceptions whose __init__ says Base.__init__(self, text) and stores its arguments. -/
namespace EV
open PySem PySem.Spec PyProof.Rows L2
/-- the class Base, whose __init__ is ValueError's -/
structure BasI (K : PySem.W.Frag) (C0 : Addr) (mc : Value) : Prop where
  sg : PySem.W.specialIn K (.ref C0) "__getattribute__" = some (some (.builtin "type.__getattribute__"))
  rd : PySem.W.readsIn K C0 mc = true
  fd : PySem.W.findCls K (.ref C0) mc "__init__" = some (.val (.builtin "ValueError.__init__"))
section
variable {X : Cx} {e : Expr} {es : List Expr} {ta : TA} {p1 p2 pos : Pos}
theorem pe_bainit {pl : Sem Bool} {B : Str} {C0 : Addr} {mc : Value} (hg : Gl X B) (hm : X.mg B = some (.ref C0)) (T : BasI X.K C0 mc) (ha : PA X (e :: es) ta) (hd : (B == ("__debug__" : Str)) = false)
    (hc : eval (.Call (.Attribute (.Name B p1) "__init__" p2) (e :: es) [] pos) X.env = (do
      let ov ← eval (.Name B p1) X.env
      standAt p2.atName
      let (f, first) ← holding [ov] (getMethod ov "__init__" pl)
      callWith pos f first (backTo pos (starEach (e :: es) X.env)) (backToKw pos (keywordEach [] X.env))) := by rfl)
    (he : starEach (e :: es) X.env = (false, eval e X.env) :: starEach es X.env := by rfl) (hpl : (backTo pos (starEach es X.env)).any (·.1) = false := by rfl) :
    PE X (.Call (.Attribute (.Name B p1) "__init__" p2) (e :: es) [] pos) (tVeI X.K ta) := by
  refine ⟨fun pins s σ H Q I h => ?_⟩
  refine PySem.W.methodCall_KW (ld_glob I hg hm ?_ hd) hc
  refine PySem.W.method_cls I.kIn T.sg (PySem.W.cls_value I.kIn T.rd T.fd (by decide +kernel) ?_)
  show wpAny _ _ (callWith pos (Value.builtin "ValueError.__init__") [] (backTo pos (starEach (e :: es) X.env)) []) _ _ _
  refine PyProof.Rows.callWith_method1 (thn (ha.run pos pins _ σ H _ (I.tok _) h) fun us s1 ⟨vs, H1, I1, r1, a, C, ws, ev, hl, T, ea, q⟩ => ?_) he hpl
  subst ev
  cases r1 with
  | @cons _ u0 _ ur ra rw' =>
    obtain rfl : u0 = Value.ref a := ra
    have hlen : ur.length ≤ sizeLine := by
      rw [← Paired.length rw', sizeLine_eq]
      omega
    exact oinit_ok T I1 ea hlen fun s' J => ⟨.non, H1, J, rfl, q⟩
end

/-- the stores of the fields: field f from the slot i, .. -/
def okStores (N : List Str) (sc : Scope) : List Str → Nat → List Stmt → Bool
  | [], _, [] => true
  | f :: fs, i, s :: r => (match s with
    | .Assign [.Attribute o g _] x _ => decide (f = g) && okName N sc 0 o && okName N sc i x
    | _ => false) && okStores N sc fs (i + 1) r
  | _, _, _ => false
def tStores (K : PySem.W.Frag) (fs : List Str) (i : Nat) : TS := fun D σ H => ∃ (a C : Addr) (vs : List V), σ.getD 0 none = some (.ref a) ∧ vs.length = fs.length ∧ (∀ j v, vs[j]? = some v → σ.getD (i + j) none = some v) ∧ OexC K C ∧ (∀ f ∈ fs, PySem.W.findIn K (.ref C) f = some none) ∧
  ((H a = some (exo a C none) ∧ fs ≠ [] ∧ fs.length ≤ 900 ∧ ∀ dx, H dx = none → dx ≠ a → D.nx σ (upd (upd H dx (exd dx (fs.zip vs).reverse)) a (exo a C (some dx)))) ∨
    ∃ (dx : Addr) (gs : List (Str × V)), dx ≠ a ∧ H a = some (exo a C (some dx)) ∧ H dx = some (exd dx gs) ∧ gs.length + fs.length ≤ 900 ∧ D.nx σ (upd H dx (exd dx ((fs.zip vs).reverse ++ gs))))
section
variable {X : Cx}
theorem pv_of {i : Nat} {x : Expr} (h : okName X.N X.env.scope i x = true) : PE X x (tVar i) := by
  obtain ⟨n, p, rfl, h1, h2, h3, h4⟩ := name_of h
  exact pe_var h1 h2 h3 h4
theorem upd_upd {H : Hp} {a : Addr} {o u : HO} : upd (upd H a o) a u = upd H a u := by
  funext b
  by_cases hb : b = a
  · subst hb; rw [upd_same, upd_same]
  · rw [upd_ne hb, upd_ne hb, upd_ne hb]
theorem upd_comm {H : Hp} {a b : Addr} {o u : HO} (n : a ≠ b) : upd (upd H a o) b u = upd (upd H b u) a o := by
  funext c
  by_cases hb : c = b
  · subst hb; rw [upd_same, upd_ne (Ne.symm n), upd_same]
  · rw [upd_ne hb]
    by_cases ha : c = a
    · subst ha; rw [upd_same, upd_same]
    · rw [upd_ne ha, upd_ne ha, upd_ne hb]
theorem upd_id {H : Hp} {a : Addr} {o : HO} (h : H a = some o) : upd H a o = H := by
  funext b
  by_cases hb : b = a
  · subst hb; rw [upd_same, h]
  · rw [upd_ne hb]
theorem zip_rev {f : Str} {fs : List Str} {v : V} {vs : List V} : ((f :: fs).zip (v :: vs)).reverse = (fs.zip vs).reverse ++ [(f, v)] := by simp
theorem pss_stores : ∀ (fs : List Str) (i : Nat) (st : List Stmt), okStores X.N X.env.scope fs i st = true → PSs X st (tStores X.K fs i)
  | [], i, [], _ => pssI pss_nil fun D σ H ⟨a, C, vs, h1, h2, h3, T, h4, h5⟩ => by
      cases vs with
      | cons _ _ => cases h2
      | nil =>
        rcases h5 with ⟨_, z, _⟩ | ⟨dx, gs, _, g1, g2, g3, g4⟩
        · exact absurd rfl z
        · have e := upd_id g2
          show D.nx σ H
          rw [← e]
          exact g4
  | f :: fs, i, s :: r, h => by
    simp only [okStores, Bool.and_eq_true] at h
    obtain ⟨h, h4⟩ := h
    split at h
    · rename_i o g ap x sp
      simp only [Bool.and_eq_true, decide_eq_true_eq] at h
      obtain ⟨⟨rfl, h2⟩, h3⟩ := h
      have ih := pss_stores fs (i + 1) r h4
      refine pssI (pss_cons (ps_ost (pv_of h2) (pv_of h3) (by obtain ⟨n, p, rfl, _⟩ := name_of h3; rfl)) ih) ?_
      rintro D σ H ⟨a, C, vs, g1, g2, g3, T, g4, g5⟩
      cases vs with
      | nil => cases g2
      | cons v vs =>
        have hv : σ.getD i none = some v := g3 0 v rfl
        have hl : vs.length = fs.length := Nat.succ.inj g2
        have next : ∀ H', (∃ (dx : Addr) (gs : List (Str × V)), dx ≠ a ∧ H' a = some (exo a C (some dx)) ∧ H' dx = some (exd dx gs) ∧ gs.length + fs.length ≤ 900 ∧ D.nx σ (upd H' dx (exd dx ((fs.zip vs).reverse ++ gs)))) → tStores X.K fs (i + 1) D σ H' := fun H' hh =>
          ⟨a, C, vs, g1, hl, fun j u e => by
            have := g3 (j + 1) u (by simpa using e)
            rw [show i + 1 + j = i + (j + 1) by omega]; exact this, T, fun f' hf => g4 f' (List.mem_cons_of_mem _ hf), .inr hh⟩
        refine ⟨v, getD_some hv, .ref a, getD_some g1, a, C, rfl, T, g4 _ List.mem_cons_self, ?_⟩
        rcases g5 with ⟨e1, _, hz, q⟩ | ⟨dx, gs, ne, e1, e2, hz, q⟩
        · refine .inl ⟨e1, fun dx hdx ne => next _ ⟨dx, [(f, v)], ne, upd_same, by rw [upd_ne ne, upd_same], ?_, ?_⟩⟩
          · simp only [List.length_cons, List.length_nil] at hz ⊢; omega
          · have q' := q dx hdx ne
            rw [zip_rev] at q'
            rw [upd_comm (Ne.symm ne), upd_upd]
            exact q'
        · refine .inr ⟨dx, gs, e1, e2, ?_, next _ ⟨dx, (f, v) :: gs, ne, ?_, upd_same, ?_, ?_⟩⟩
          · simp only [List.length_cons] at hz; omega
          · rw [upd_ne (Ne.symm ne)]; exact e1
          · simp only [List.length_cons] at hz ⊢; omega
          · rw [zip_rev] at q
            rw [upd_upd]
            simpa using q
    · cases h
  | [], _, _ :: _, h => by simp [okStores] at h
  | _ :: _, _, [], h => by simp [okStores] at h
end

theorem hc_of {b m : Str} {p1 p2 p4 : Pos} {o : Expr} {t : Str} {j : Nat} {p3 : Pos} {env : Env} (hl : (p2.endLine == p4.line) = true) (ho : noStar o = true) :
    eval (.Call (.Attribute (.Name b p1) m p2) [o, .Constant (.str t) j p3] [] p4) env = (do
      let ov ← eval (.Name b p1) env
      standAt p2.atName
      let (f, first) ← holding [ov] (getMethod ov m (do return (← importBound (.Name b p1) env).getD true))
      callWith p4 f first (backTo p4 (starEach [o, .Constant (.str t) j p3] env)) (backToKw p4 (keywordEach [] env))) := by
  have few : methodCallForm 2 (backTo p4 (starEach [o, .Constant (.str t) j p3] env)) (backToKw p4 (keywordEach [] env)) = true := by
    rw [star_no ho]; rfl
  have e : ∀ ov, methodCall (.Name b p1) m p2 p4 env ov 2 (backTo p4 (starEach [o, .Constant (.str t) j p3] env)) (backToKw p4 (keywordEach [] env)) = (do
      let (f, first) ← holding [ov] (getMethod ov m (do return (← importBound (.Name b p1) env).getD true))
      callWith p4 f first (backTo p4 (starEach [o, .Constant (.str t) j p3] env)) (backToKw p4 (keywordEach [] env))) := by
    intro ov
    unfold methodCall calleeOf methodCallPos
    simp only [few, if_true]
    rw [if_pos (by simp [hl])]
    rfl
  show (do
    let ov ← eval (.Name b p1) env
    standAt p2.atName
    methodCall (.Name b p1) m p2 p4 env ov 2 (backTo p4 (starEach [o, .Constant (.str t) j p3] env)) (backToKw p4 (keywordEach [] env))) = _
  simp only [e]
/-- what such an __init__ does with the exception a that is being made -/
def spI (K : PySem.W.Frag) (C : Addr) (fields : List Str) : Sp := fun vs H Q _ => ∃ (a : Addr) (ws : List V), vs = .ref a :: ws ∧ ws.length = fields.length ∧ fields ≠ [] ∧ fields.length ≤ 900 ∧ OexC K C ∧ (∀ f ∈ fields, PySem.W.findIn K (.ref C) f = some none) ∧
  H a = some (exo a C none) ∧ ∀ dx, H dx = none → dx ≠ a → Q .non (upd (upd H dx (exd dx (fields.zip ws).reverse)) a (exo a C (some dx)))
def okInit (N : List Str) (sc : Scope) (B : Str) (fields : List Str) : List Stmt → Bool
  | .Expr (.Call (.Attribute (.Name b _) m p) [o, .Constant (.str _) _ _] [] q) _ :: r => (p.endLine == q.line) && decide (b = B) && decide (m = ("__init__" : Str)) && glb sc b && !(b == ("__debug__" : Str)) && okName N sc 0 o && okStores N sc fields 1 r
  | _ => false
section
variable {P : Program} {w : World} {K : PySem.W.Frag} {mg : Mg} {base : Heap} {k : Nat} {T : Tb} {X : Cx} {W : WX}
theorem exc_init {N ps fields : List Str} {name qual B : Str} {params : Arguments} {body : List Stmt} {scope : Scope} {f C C0 : Addr} {mc : Value} {fd : FuncData} (F : FunD K name qual params body scope [] [] f fd) (S : FnScope N ps scope)
    (hl : ps.length = fields.length + 1) (h : okInit N scope B fields body = true) (hB : mg B = some (.ref C0)) (T0 : BasI K C0 mc) : FnOk P w K mg base CX0 1 f fd ps (spI K C fields) := by
  refine F.ok S (fun vs H Q E h => ?_) (fun cdv A outer s H vs Q E hr h' => ?_)
  · obtain ⟨a, ws, rfl, h1, _⟩ := h
    simp [h1, hl]
  · unfold okInit at h
    split at h
    · rename_i b p1 m p2 o t j p3 p4 p5 r
      simp only [Bool.and_eq_true, decide_eq_true_eq, Bool.not_eq_true'] at h
      obtain ⟨⟨⟨⟨⟨⟨hl2, rfl⟩, rfl⟩, h3⟩, h4⟩, h5⟩, h6⟩ := h
      have h5' := h5
      obtain ⟨n, pn, rfl, _⟩ := name_of h5'
      have hX := pe_bainit (X := cxOf CX0 P w K mg base N qual scope f cdv A outer s H E) (p1 := p1) (p2 := p2) (pos := p4) (B := b) (gl_of h3) hB T0 (pa_cons (pv_of h5) (pa_cons (pe_str (x := t) (j := j) (pos := p3)) pa_nil)) h4 (hc_of hl2 rfl)
      refine ⟨_, pss_cons (ps_expr hX) (pss_stores fields 1 r h6), ?_⟩
      obtain ⟨a, ws, rfl, g1, g2, g3, g4, g5, g6, g7⟩ := h'
      refine ⟨.ref a, rfl, a, C, [.str t], rfl, by simp, g4, g6, ?_⟩
      refine ⟨a, C, ws, rfl, g1, fun j v e => ?_, g4, g5, .inl ⟨g6, g2, g3, fun dx hd ne => g7 dx hd ne⟩⟩
      have hj : j < ws.length := (List.getElem?_eq_some_iff.mp e).1
      unfold L2.start
      rw [show 1 + j = j + 1 by omega, List.getD_eq_getElem?_getD, List.getElem?_append_left (by simp; omega)]
      simp [e]
    · cases h
/-- C(..) makes such an exception -/
def MkX (P : Program) (w : World) (K : PySem.W.Frag) (mg : Mg) (base : Heap) (k : Nat) (C : Str) (Ca : Addr) (ns : List Str) : Prop :=
  ∀ X : Cx, In P w K mg base k X → X.calm = true → ∀ (e : Expr) (es : List Expr) (ta : TA) (p pos : Pos), PA X (e :: es) ta → glb X.env.scope C = true → (C == ("__debug__" : Str)) = false → noStar e = true → es.all noStar = true →
    PMk X (.Call (.Name C p) (e :: es) [] pos) (tMkO Ca (spI X.K Ca ns) [] ta)
structure FineX (P : Program) (w : World) (K : PySem.W.Frag) (mg : Mg) (base : Heap) (k : Nat) (T : Tb) : Prop where
  ex : ∀ C ns, T.exc C = some ns → ∃ Ca, mg C = some (.ref Ca) ∧ OexC K Ca ∧ (∀ f ∈ ns, PySem.W.findIn K (.ref Ca) f = some none) ∧ ns ≠ [] ∧ ns.length ≤ 900 ∧ MkX P w K mg base k C Ca ns
theorem mk_of {C : Str} {Ca fI : Addr} {fields ps : List Str} {fd : FuncData} (T : OexC K Ca) (iC : PySem.W.findIn K (.ref Ca) "__init__" = some (some (.ref fI))) (tI : PySem.W.typeIn K (.ref fI) = some (.type "function"))
    (F1 : FnOk P w K mg base CX0 1 fI fd ps (spI K Ca fields)) (hb : Binds K fd ps []) (hm : mg C = some (.ref Ca)) : MkX P w K mg base 2 C Ca fields := by
  rintro X ⟨rfl, rfl, rfl, rfl, rfl, hr, _⟩ hc e es ta p pos ha hg hd h1 h2
  exact pmk_oex T iC tI F1 hr hb .nil pass0 (gl_of hg) hm ha hd (star_no h1) (plain_args h2)
theorem MkX.mono {j : Nat} {C : Str} {Ca : Addr} {ns : List Str} (h : MkX P w K mg base j C Ca ns) (e : j ≤ k) : MkX P w K mg base k C Ca ns := fun X hX => h X (hX.mono e)
theorem Reps.reverse {H : Hp} : ∀ {vs : List V} {ds : List D}, Reps K mg H vs ds → Reps K mg H vs.reverse ds.reverse
  | _, _, .nil => .nil
  | _, _, .cons r t => by
    rw [List.reverse_cons, List.reverse_cons]
    exact (Reps.reverse t).append (.cons r .nil)
theorem zip_reverse {β : Type} : ∀ {ks : List Str} {bs : List β}, ks.length = bs.length → (ks.zip bs).reverse = ks.reverse.zip bs.reverse
  | [], [], _ => rfl
  | k :: ks, b :: bs, h => by
    have h' : ks.length = bs.length := Nat.succ.inj h
    rw [List.zip_cons_cons, List.reverse_cons, List.reverse_cons, List.reverse_cons, List.zip_append (by simp [h']), zip_reverse h']
    rfl
  | [], _ :: _, h => by cases h
  | _ :: _, [], h => by cases h
end
end EV
set_option Elab.async false
set_option linter.all false
set_option maxRecDepth 100000
set_option maxHeartbeats 4000000
/-! EV12: statements: what they mean, when they are a program's syntax. -/
namespace EV
open PySem PySem.Spec PyProof.Rows L2

/-- a right side: a value, or something new that the slot owns -/
inductive RE where
  | e (e : E) | f (f : F)
mutual
inductive S where
  | asg (t : Tg) (e : E) | own (i : Nat) (f : F) | par (is : List Nat) (rs : List RE) | put (i : Nat) (a : A) (e : E)
  | ex (e : E) | ret (e : E) | retN | iff (c : E) (a b : Ss) | whl (c : E) (b : Ss) | fr (vs : List Nat) (t : Tg) (it : IT) (b : Ss) | brk | cnt | pas | rse (C : Str) (es : Es) | st (i : Nat) (f : Str) (e : E)
  /-- return of something new; a law's pen is made -/
  | retF (f : F) | pen (i : Nat) (f : F)
inductive Ss where
  | nil | cons (s : S) (ss : Ss)
end
structure WK where
  nx : En → Prop
  rt : D → En → Prop
  R : Exc → En → Prop
  br : En → Prop := fun _ => False
  ct : En → Prop := fun _ => False
  rf : D → En → Prop := fun _ _ => False
abbrev WS := WK → En → Prop
def ownOf : D → Slot
  | .lst ds => .ol ds
  | .dK k => .oK k
  | .dT k => .oT k
  | d => .fz d
def RE.slot : RE → D → Slot
  | .e _, d => .fz d
  | .f _, d => ownOf d
def wRE (T : Tb) : RE → WE
  | .e e => wE T e
  | .f f => wF T f
def wREs (T : Tb) : List RE → WL
  | [] => fun Q _ ρ => Q [] ρ
  | r :: rs => fun Q R ρ => wRE T r (fun d ρ1 => wREs T rs (fun ds ρ2 => Q (d :: ds) ρ2) R ρ1) R ρ
def wSets : List Nat → List RE → List D → (En → Prop) → En → Prop
  | i :: is, r :: rs, d :: ds, Q, ρ => (ρ.at i).lent = false ∧ wSets is rs ds Q (ρ.set i (r.slot d))
  | [], [], [], Q, ρ => Q ρ
  | _, _, _, _, _ => False
/-- slot[x] = d -/
def putS (s : Slot) (x d : D) : Option Slot := match s with
  | .ol ds => (match x with | .int j => (ixN ds.length j).map fun n => .ol (ds.set n d) | _ => none)
  | .bl ds => (match x with | .int j => (ixN ds.length j).map fun n => .bl (ds.set n d) | _ => none)
  | .oK kvs => (keyOf x).bind fun k => if kvs.length < sizeLine then some (.oK (putD kvs k d)) else none
  | .bK kvs => (keyOf x).bind fun k => if kvs.length < sizeLine then some (.bK (putD kvs k d)) else none
  | .oT kvs => (match x with | .tup es => (keysOf es).bind fun k => if kvs.length < sizeLine then some (.oT (putD kvs k d)) else none | _ => none)
  | .bT kvs => (match x with | .tup es => (keysOf es).bind fun k => if kvs.length < sizeLine then some (.bT (putD kvs k d)) else none | _ => none)
  | _ => none
def putFD (f : Str) (d : D) : List (Str × D) → List (Str × D)
  | [] => [(f, d)]
  | (g, x) :: r => if g = f then (g, d) :: r else (g, x) :: putFD f d r
def wFor (fd : D → (En → Prop) → En → Prop) (body : WS) (k : WK) : List D → En → Prop
  | [], ρ => k.nx ρ
  | x :: xs, ρ => fd x (fun ρ1 => body { k with nx := wFor fd body k xs, ct := wFor fd body k xs, br := k.nx } ρ1) ρ
/-- a law's pen -/
def penK (cells : List Int) (a d c f : Int) : List (Key × D) := [(.inr "cells", .lst (cells.map .int)), (.inr "at", .int a), (.inr "digits", .int d), (.inr "count", .int c), (.inr "fold", .int f)]
def penOk (n : Nat) (cells : List Int) (a d c f : Int) : Prop := cells.length ≤ 63 ∧ 0 ≤ a ∧ a ≤ cells.length ∧ 0 ≤ d ∧ 0 ≤ c ∧ c ≤ n ∧ 0 ≤ f ∧ f < 2 ^ 32
mutual
def wS (T : Tb) : S → WS
  | .retF f => fun k => wF T f k.rf k.R
  | .pen i f => fun k => wF T f (fun d ρ1 => (ρ1.at i).lent = false ∧ (∃ cells a dg c fo n, d = .dK (penK cells a dg c fo) ∧ penOk n cells a dg c fo ∧ k.nx (ρ1.set i (.pn n)))) k.R
  | .asg t e => fun k => wE T e (fun d ρ1 => wTG t d k.nx ρ1) k.R
  | .own i f => fun k => wF T f (fun d ρ1 => (ρ1.at i).lent = false ∧ k.nx (ρ1.set i (ownOf d))) k.R
  | .par is rs => fun k => wREs T rs (fun ds ρ1 => wSets is rs ds k.nx ρ1) k.R
  | .put i a e => fun k => wE T e (fun d ρ1 => (ρ1.at i).set = true ∧ wA T a (fun l ρ2 => ∃ x s, l.peek ρ2 = some x ∧ putS (ρ2.at i) x d = some s ∧ k.nx (ρ2.set i s)) k.R ρ1) k.R
  | .ex e => fun k => wE T e (fun _ ρ => k.nx ρ) k.R
  | .ret e => fun k => wE T e k.rt k.R
  | .retN => fun k ρ => k.rt .non ρ
  | .iff c a b => fun k => wB (wE T c) (fun v ρ1 => if v = true then wSs T a k ρ1 else wSs T b k ρ1) k.R
  | .whl c b => fun k ρ => ∃ Iv : Nat → En → Prop, (∃ m, Iv m ρ) ∧ ∀ m ρ, Iv m ρ → wB (wE T c) (fun v ρ1 => if v = true then wSs T b { k with nx := fun ρ2 => ∃ m', m' < m ∧ Iv m' ρ2, ct := fun ρ2 => ∃ m', m' < m ∧ Iv m' ρ2, br := k.nx } ρ1 else k.nx ρ1) k.R ρ
  | .fr vs t it b => fun k => wIT T it (fun ds lk ρ1 => (∀ ρ2, lk ρ2) ∧ wFor (wTG t) (wSs T b) k ds ρ1) k.R
  | .brk => fun k => k.br
  | .cnt => fun k => k.ct
  | .pas => fun k => k.nx
  | .st i f e => fun k => wE T e (fun d ρ1 => ∃ C fs, ρ1.at i = .mk C fs ∧ (C, f) ∈ T.ats ∧ fs.length < 1000 ∧ k.nx (ρ1.set i (.mk C (putFD f d fs)))) k.R
  | .rse C es => fun k ρ => ∃ ns, T.exc C = some ns ∧ wEs T es (fun ds ρ1 => ns.length = ds.length ∧ k.R ⟨C, (ns.zip ds).reverse⟩ ρ1) k.R ρ
def wSs (T : Tb) : Ss → WS
  | .nil => fun k => k.nx
  | .cons s ss => fun k => wS T s { k with nx := fun ρ1 => wSs T ss k ρ1 }
end

/-! ### syntax -/
def noComp : Expr → Bool
  | .ListComp .. | .SetComp .. | .DictComp .. => false
  | _ => true
def stNames (sc : Scope) (ts : List Expr) : List Str :=
  let line := (ts.head?.map (·.pos.line)).getD 0
  ts.filterMap fun
    | .Name id pos => if sc.names.lookup id == some .local && pos.line == line then some id else none
    | _ => none
/-- whether the stores of ts = vs are swapped -/
def parK (sc : Scope) (ts vs : List Expr) : Option Bool :=
  if !(ts.length == 2 || ts.length == 3) || vs.length != ts.length then some false
  else if vs.any (fun | .Starred .. => true | _ => false) then some false
  else if (stNames sc ts).length != ts.length || (stNames sc ts).eraseDups.length != (stNames sc ts).length then some false
  else if vs.all (foldedForSure 8) then some false
  else if vs.all (constantsAlone 8) then none
  else some true
def isNm (N : List Str) (sc : Scope) (i : Nat) : Expr → Bool
  | .Name y _ => decide (N[i]? = some y) && (match sc.names.lookup y with | some .local => true | some .cell => true | _ => false)
  | _ => false
def isLoc (sc : Scope) : Expr → Bool
  | .Name y _ => (match sc.names.lookup y with | some .local => true | _ => false)
  | _ => false
def isNms (N : List Str) (sc : Scope) : List Nat → List Expr → Bool
  | [], [] => true
  | i :: is, x :: xs => isNm N sc i x && noStar x && isNms N sc is xs
  | _, _ => false
/-- the stores of target = value are not swapped -/
def unsw (sc : Scope) (tg x : Expr) : Bool := match tg, x with
  | .Tuple ts _ _, .Tuple vs _ _ => parK sc ts vs == some false
  | .List .., _ => false
  | _, _ => true
def okRE (N : List Str) (sc : Scope) : RE → Expr → Bool
  | .e e, x => okE N sc e x
  | .f f, x => okF N sc f x && !fIt f
def okREs (N : List Str) (sc : Scope) : List RE → List Expr → Bool
  | [], [] => true
  | r :: rs, x :: xs => okRE N sc r x && noStar x && okREs N sc rs xs
  | _, _ => false
def isComp : F → Bool
  | .comp .. => true
  | _ => false
def notLoc (sc : Scope) (y : Str) : Bool := match sc.names.lookup y with
  | some .local => false
  | _ => true
/-- name = [..] whose store comes before the block's end -/
def lcSw (sc : Scope) (y : Str) (py : Pos) : Expr → Bool
  | .ListComp _ [⟨_, _, _, 0⟩] scope pos => (match sc.names.lookup y with | some .local => true | _ => false) && (py.line == pos.line) && !(scope.names.any fun (n, k) => n == y && (k == .local || k == .cell))
  | _ => false
mutual
def okS (N : List Str) (sc : Scope) : S → Stmt → Bool
  | .retF f, st => (match st with
    | .Return (some x) _ => okF N sc f x && !fIt f
    | _ => false)
  | .pen i f, st => (match st with
    | .Assign [.Name y py] x _ => isNm N sc i (.Name y py) && okF N sc f x && !fIt f && noComp x && decide (i < N.length)
    | _ => false)
  | .asg t e, st => (match st with
    | .Assign [tg] x _ => okTG N sc (fun y => sc.names.lookup y == some .cell) (List.range N.length) t tg && okE N sc e x && noComp x && unsw sc tg x
    | _ => false)
  | .own i f, st => (match st with
    | .Assign [.Name y py] x _ => isNm N sc i (.Name y py) && okF N sc f x && !fIt f && (noComp x || notLoc sc y || (lcSw sc y py x && isComp f))
    | _ => false)
  | .par is rs, st => (match st with
    | .Assign [.Tuple ts _ _] (.Tuple vs _ _) _ => isNms N sc is ts && decide is.Nodup && decide (is.length ≤ 100) && okREs N sc rs vs && (match parK sc ts vs with
      | some true => ts.all (isLoc sc) && decide (stNames sc ts = is.map fun i => N.getD i Str.empty)
      | some false => true
      | none => false)
    | _ => false)
  | .put i a e, st => (match st with
    | .Assign [.Subscript o x _] v _ => okName N sc i o && okA N sc a x && notSlice x && okE N sc e v && noComp v
    | _ => false)
  | .ex e, st => (match st with
    | .Expr x _ => okE N sc e x && noComp x
    | _ => false)
  | .ret e, st => (match st with
    | .Return (some x) _ => okE N sc e x
    | _ => false)
  | .retN, st => (match st with
    | .Return none _ => true
    | _ => false)
  | .iff c a b, st => (match st with
    | .If x p q _ => okE N sc c x && okSs N sc a p && okSs N sc b q
    | _ => false)
  | .whl c b, st => (match st with
    | .While x p [] _ => okE N sc c x && okSs N sc b p
    | _ => false)
  | .fr vs t it b, st => (match st with
    | .For tg x p [] _ => okTG N sc (fun y => sc.names.lookup y == some .cell) vs t tg && okIT N sc it tg x && okSs N sc b p
    | _ => false)
  | .brk, st => (match st with
    | .Break _ => true
    | _ => false)
  | .cnt, st => (match st with
    | .Continue _ => true
    | _ => false)
  | .pas, st => (match st with
    | .Pass _ => true
    | _ => false)
  | .st i f e, st => (match st with
    | .Assign [.Attribute o g _] x _ => decide (f = g) && okName N sc i o && okE N sc e x && noComp x
    | _ => false)
  | .rse C es, st => (match st with
    | .Raise (some (.Call (.Name g _) (x :: xs) [] _)) none _ => decide (C = g) && glb sc g && !(g == ("__debug__" : Str)) && okEs N sc es (x :: xs)
    | _ => false)
def okSs (N : List Str) (sc : Scope) : Ss → List Stmt → Bool
  | .nil, xs => xs.isEmpty
  | .cons s ss, xs => (match xs with
    | x :: r => okS N sc s x && okSs N sc ss r
    | [] => false)
end

/-! ### what a statement owes -/
structure KR (K : PySem.W.Frag) (mg : Mg) (Z : Zn) (W : WX) (E : Ends) (Hs : Hp) (k : WK) : Prop where
  nx : ∀ σ' ρ' Hs' H', k.nx ρ' → SR K mg Z Hs' H' σ' ρ' → Same Hs Hs' → E.nx σ' H'
  rt : ∀ d σ' ρ' Hs' H' v, k.rt d ρ' → SR K mg Z Hs' H' σ' ρ' → Same Hs Hs' → Rep K mg Hs' v d → E.rt v H'
  R : ∀ c σ' ρ' Hs' H' cls a, k.R c ρ' → SR K mg Z Hs' H' σ' ρ' → Same Hs Hs' → ExcR K mg Hs' H' c cls a → W cls a σ' H'
  br : ∀ σ' ρ' Hs' H', k.br ρ' → SR K mg Z Hs' H' σ' ρ' → Same Hs Hs' → E.bk σ' H'
  ct : ∀ σ' ρ' Hs' H', k.ct ρ' → SR K mg Z Hs' H' σ' ρ' → Same Hs Hs' → E.ct σ' H'
  rf : ∀ d σ' ρ' Hs' H' v, k.rf d ρ' → SR K mg Z Hs' H' σ' ρ' → Same Hs Hs' → RepX false K mg Z Hs' H' σ' ρ' v d → E.rt v H'
def tS (K : PySem.W.Frag) (mg : Mg) (Z : Zn) (W : WX) (w : WS) : TS := fun E σ H => ∃ Hs ρ k, SR K mg Z Hs H σ ρ ∧ w k ρ ∧ KR K mg Z W E Hs k
abbrev JS (X : Cx) (W : WX) (st : Stmt) (w : WS) : Prop := ∀ Z, PS X st (tS X.K X.mg Z W w)
abbrev JSs (X : Cx) (W : WX) (st : List Stmt) (w : WS) : Prop := ∀ Z, PSs X st (tS X.K X.mg Z W w)
structure OkS (P : Program) (w : World) (K : PySem.W.Frag) (mg : Mg) (base : Heap) (k : Nat) (T : Tb) (X : Cx) (W : WX) : Prop where
  ok : Ok P w K mg base k T X W
  fx : FineX P w K mg base k T
  po : PassesOwn (model X.prog X.w) X.A X.env X.xe
  fn : ∀ x, X.env.scope.names.lookup x = some .cell → X.fn x = true
section
variable {K : PySem.W.Frag} {mg : Mg} {Z : Zn} {W : WX} {E : Ends} {Hs Hs' H : Hp} {k : WK} {σ : L2.St} {ρ : En}
theorem KR.mono (h : KR K mg Z W E Hs k) (e : Same Hs Hs') : KR K mg Z W E Hs' k :=
  ⟨fun σ' ρ' H1 H2 a b c => h.nx σ' ρ' H1 H2 a b (e.trans c), fun d σ' ρ' H1 H2 v a b c => h.rt d σ' ρ' H1 H2 v a b (e.trans c), fun x σ' ρ' H1 H2 cls y a b c => h.R x σ' ρ' H1 H2 cls y a b (e.trans c),
    fun σ' ρ' H1 H2 a b c => h.br σ' ρ' H1 H2 a b (e.trans c), fun σ' ρ' H1 H2 a b c => h.ct σ' ρ' H1 H2 a b (e.trans c), fun d σ' ρ' H1 H2 v a b c => h.rf d σ' ρ' H1 H2 v a b (e.trans c)⟩
/-- an expression within a statement -/
theorem KR.go {α β : Type} {rel : Hp → Hp → L2.St → En → β → α → Prop} {w : (α → En → Prop) → (Exc → En → Prop) → En → Prop} {Qd : α → En → Prop} {Q : β → Hp → Prop} (kr : KR K mg Z W E Hs k) (S : SR K mg Z Hs H σ ρ) (hw : w Qd k.R ρ)
    (h : ∀ d ρ' Hs' H' v, Qd d ρ' → SR K mg Z Hs' H' σ ρ' → Same Hs Hs' → rel Hs' H' σ ρ' v d → Q v H') : tW K mg rel Z W w σ H Q :=
  ⟨Hs, ρ, S, Qd, k.R, hw, h, fun c ρ' Hs' H' cls a x y z => kr.R c σ ρ' Hs' H' cls a x y z⟩
end
end EV
set_option Elab.async false
set_option linter.all false
set_option maxRecDepth 100000
set_option maxHeartbeats 4000000
/-! EV13: statements are walked with their meaning. -/
namespace EV
open PySem PySem.Spec PyProof.Rows L2
section
variable {K : PySem.W.Frag} {mg : Mg} {Z : Zn} {Hs H : Hp} {σ : L2.St} {ρ : En} {v : V} {d : D}
theorem ownOf_fz (h : d.isM = false) : ownOf d = .fz d := by cases d <;> first | rfl | cases h
theorem ownOf_lent (d : D) : (ownOf d).lent = false := by cases d <;> rfl
/-- the fresh part -/
theorem RepX.fresh (r : RepX false K mg Z Hs H σ ρ v d) (m : d.isM = true) : ∃ a o, v = .ref a ∧ H a = some o ∧ Hs a = none ∧ Z.H a = none ∧ (∀ i, ¬ Owns σ ρ i a) ∧
    ∀ Hs' H', Same Hs Hs' → Hs' a = none → H' a = some o → SlotR K mg Hs' H' (some (.ref a)) (ownOf d) := by
  obtain ⟨r, n⟩ := r
  rcases r with r | ⟨a, rfl, h1, h2, h3, h⟩
  · exact absurd r (n rfl m)
  · rcases h with ⟨vs, ds, rfl, e, r⟩ | ⟨ks, vs, ds, rfl, e, l, r⟩ | ⟨ks, vs, ds, rfl, e, l, r⟩
    · exact ⟨a, _, rfl, e, h1, h2, h3, fun Hs' H' g1 g2 g3 => ⟨a, vs, rfl, g2, g3, r.mono g1⟩⟩
    · exact ⟨a, _, rfl, e, h1, h2, h3, fun Hs' H' g1 g2 g3 => ⟨a, ks, vs, ds, rfl, g2, g3, l, rfl, r.mono g1⟩⟩
    · exact ⟨a, _, rfl, e, h1, h2, h3, fun Hs' H' g1 g2 g3 => ⟨a, ks, vs, ds, rfl, g2, g3, l, rfl, r.mono g1⟩⟩
theorem RepX.rep (r : RepX false K mg Z Hs H σ ρ v d) (m : d.isM = false) : Rep K mg Hs v d := by
  obtain ⟨r, n⟩ := r
  rcases r with r | ⟨a, rfl, h1, h2, h3, h⟩
  · exact r
  · rcases h with ⟨vs, ds, rfl, e, r⟩ | ⟨ks, vs, ds, rfl, e, l, r⟩ | ⟨ks, vs, ds, rfl, e, l, r⟩ <;> cases m
theorem ownOf_owned (m : d.isM = true) : (ownOf d).owned = true := by cases d <;> first | rfl | cases m
theorem SR.hold (S : SR K mg Z Hs H σ ρ) {i : Nat} (r : RepX false K mg Z Hs H σ ρ v d) (nl : (ρ.at i).lent = false) : SR K mg Z Hs H (σ.set i (some v)) (ρ.set i (ownOf d)) := by
  cases m : d.isM with
  | false => rw [ownOf_fz m]; exact S.put (r.rep m) nl
  | true =>
    obtain ⟨a, o, rfl, h1, h2, h3, h4, h5⟩ := r.fresh m
    exact S.take (ownOf_owned m) (ownOf_lent d) (h5 Hs H (Same.refl _) h2 h1) h3 h4 nl
end

/-! ### several right sides -/
section
variable (K : PySem.W.Frag) (mg : Mg) (Z : Zn) (Hs H : Hp) (σ : L2.St) (ρ : En)
def frA : RE → D → V → Option Addr
  | .e _, _, _ => none
  | .f _, d, v => match v with
    | .ref a => if d.isM = true then some a else none
    | _ => none
theorem frA_some {r : RE} {d : D} {v : V} {a : Addr} (h : frA r d v = some a) : ∃ q, r = .f q ∧ v = .ref a ∧ d.isM = true := by
  cases r with
  | e _ => cases h
  | f q =>
    cases v with
    | ref b =>
      have h : (if d.isM = true then some b else none) = some a := h
      split at h
      · exact ⟨q, rfl, by cases h; rfl, by assumption⟩
      · cases h
    | _ => cases h
theorem frA_of {q : F} {d : D} {a : Addr} (m : d.isM = true) : frA (.f q) d (.ref a) = some a := by
  show (if d.isM = true then some a else none) = some a
  rw [if_pos m]
def frAs : List RE → List D → List V → List Addr
  | r :: rs, d :: ds, v :: vs => (frA r d v).toList ++ frAs rs ds vs
  | _, _, _ => []
def Held : RE → V → D → Prop
  | .e _, v, d => Rep K mg Hs v d
  | .f _, v, d => RepX false K mg Z Hs H σ ρ v d
def HeldL : List RE → List V → List D → Prop
  | r :: rs, v :: vs, d :: ds => Held K mg Z Hs H σ ρ r v d ∧ (∀ a, frA r d v = some a → a ∉ frAs rs ds vs) ∧ HeldL rs vs ds
  | [], [], [] => True
  | _, _, _ => False
end
section
variable {K : PySem.W.Frag} {mg : Mg} {Z : Zn} {Hs H : Hp} {σ : L2.St} {ρ : En}
theorem heldL_mem : ∀ {rs : List RE} {vs : List V} {ds : List D} {a : Addr}, HeldL K mg Z Hs H σ ρ rs vs ds → a ∈ frAs rs ds vs → Z.H a = none ∧ Hs a = none
  | [], [], [], a, _, h => by simp [frAs] at h
  | r :: rs, v :: vs, d :: ds, a, ⟨h1, h2, h3⟩, h => by
    rcases List.mem_append.mp h with h | h
    · have h : frA r d v = some a := by simpa using h
      obtain ⟨q, rfl, rfl, m⟩ := frA_some h
      obtain ⟨c, o, e, g1, g2, g3, _⟩ := RepX.fresh h1 m
      cases e
      exact ⟨g3, g2⟩
    · exact heldL_mem h3 h
  | [], [], _ :: _, _, h, _ => h.elim
  | [], _ :: _, _, _, h, _ => by cases ‹List D› <;> exact h.elim
  | _ :: _, [], _, _, h, _ => by cases ‹List D› <;> exact h.elim
  | _ :: _, _ :: _, [], _, h, _ => h.elim
/-- what is held stays held where a slot is set -/
theorem heldL_set {i : Nat} {u : V} {s : Slot} {p : Option Addr} (hp : ∀ a, s.owned = true → u = .ref a → p = some a) (hlen : σ.length = ρ.length) : ∀ {rs : List RE} {vs : List V} {ds : List D}, HeldL K mg Z Hs H σ ρ rs vs ds → (∀ a, p = some a → a ∉ frAs rs ds vs) →
    HeldL K mg Z Hs H (σ.set i (some u)) (ρ.set i s) rs vs ds
  | [], [], [], _, _ => trivial
  | r :: rs, v :: vs, d :: ds, ⟨h1, h2, h3⟩, hn => by
    refine ⟨?_, h2, heldL_set hp hlen h3 fun a e m => hn a e (List.mem_append_right _ m)⟩
    cases r with
    | e _ => exact h1
    | f q =>
      obtain ⟨r, n⟩ := h1
      refine ⟨?_, n⟩
      rcases r with r | ⟨a, rfl, g1, g2, g3, h⟩
      · exact .inl r
      · have m : d.isM = true := by rcases h with ⟨vs, ds, rfl, e, r⟩ | ⟨ks, vs, ds, rfl, e, l, r⟩ | ⟨ks, vs, ds, rfl, e, l, r⟩ <;> rfl
        refine .inr ⟨a, rfl, g1, g2, fun j ⟨o1, o2⟩ => ?_, h⟩
        rw [val_set] at o1
        rw [at_set] at o2
        by_cases c : j = i ∧ i < σ.length
        · rw [if_pos c] at o1
          rw [if_pos ⟨c.1, by rw [← hlen]; exact c.2⟩] at o2
          have e := hp a o2 (Option.some.inj o1)
          refine hn a e (List.mem_append_left _ ?_)
          show a ∈ (frA (.f q) d (.ref a)).toList
          rw [frA_of m]
          simp
        · rw [if_neg c] at o1
          rw [if_neg (fun z => c ⟨z.1, by rw [hlen]; exact z.2⟩)] at o2
          exact g3 j ⟨o1, o2⟩
  | [], [], _ :: _, h, _ => h.elim
  | [], _ :: _, _, h, _ => by cases ‹List D› <;> exact h.elim
  | _ :: _, [], _, h, _ => by cases ‹List D› <;> exact h.elim
  | _ :: _, _ :: _, [], h, _ => h.elim
def setAll : List Nat → List V → L2.St → L2.St
  | i :: is, v :: vs, σ => setAll is vs (σ.set i (some v))
  | _, _, σ => σ
theorem held_sets {Q : En → Prop} : ∀ {is : List Nat} {rs : List RE} {vs : List V} {ds : List D} {σ : L2.St} {ρ : En}, SR K mg Z Hs H σ ρ → HeldL K mg Z Hs H σ ρ rs vs ds → wSets is rs ds Q ρ → ∃ ρ', Q ρ' ∧ SR K mg Z Hs H (setAll is vs σ) ρ'
  | [], [], [], [], σ, ρ, S, _, h => ⟨ρ, h, S⟩
  | i :: is, r :: rs, v :: vs, d :: ds, σ, ρ, S, ⟨h1, h2, h3⟩, ⟨nl, h⟩ => by
    have S' : SR K mg Z Hs H (σ.set i (some v)) (ρ.set i (r.slot d)) := by
      cases r with
      | e _ => exact S.put h1 nl
      | f _ => exact S.hold h1 nl
    refine held_sets (is := is) S' (heldL_set (p := frA r d v) (fun a o e => ?_) S.len h3 h2) h
    subst e
    cases r with
    | e _ => cases o
    | f q =>
      have m : d.isM = true := by
        have o : (ownOf d).owned = true := o
        cases d <;> first | rfl | cases o
      exact frA_of m
  | [], [], [], _ :: _, _, _, _, h, _ => h.elim
  | [], [], _ :: _, [], _, _, _, h, _ => h.elim
  | [], [], _ :: _, _ :: _, _, _, _, h, _ => h.elim
  | [], _ :: _, [], [], _, _, _, h, _ => h.elim
  | [], _ :: _, [], _ :: _, _, _, _, h, _ => h.elim
  | [], _ :: _, _ :: _, [], _, _, _, h, _ => h.elim
  | [], _ :: _, _ :: _, _ :: _, _, _, _, _, h => h.elim
  | _ :: _, [], [], [], _, _, _, _, h => h.elim
  | _ :: _, [], [], _ :: _, _, _, _, h, _ => h.elim
  | _ :: _, [], _ :: _, [], _, _, _, h, _ => h.elim
  | _ :: _, [], _ :: _, _ :: _, _, _, _, h, _ => h.elim
  | _ :: _, _ :: _, [], [], _, _, _, h, _ => h.elim
  | _ :: _, _ :: _, [], _ :: _, _, _, _, h, _ => h.elim
  | _ :: _, _ :: _, _ :: _, [], _, _, _, h, _ => h.elim
/-- what is held with a guard, without it -/
theorem heldL_un {p : Addr} {o : HO} (z0 : Z.H p = none) : ∀ {rs : List RE} {vs : List V} {ds : List D}, HeldL K mg (Z.with p o) Hs H σ ρ rs vs ds → HeldL K mg Z Hs H σ ρ rs vs ds ∧ p ∉ frAs rs ds vs
  | [], [], [], _ => ⟨trivial, by simp [frAs]⟩
  | r :: rs, v :: vs, d :: ds, h => by
    have zz : ∀ a, (Z.with p o).H a = none → a ≠ p ∧ Z.H a = none := fun a e => by
      have ne : a ≠ p := fun z => by subst z; rw [show (Z.with a o).H a = some o from upd_same] at e; cases e
      exact ⟨ne, by rw [← e]; exact (upd_ne ne).symm⟩
    have hm : p ∉ frAs (r :: rs) (d :: ds) (v :: vs) := fun m => (zz p (heldL_mem h m).1).1 rfl
    obtain ⟨h1, h2, h3⟩ := h
    refine ⟨⟨?_, h2, (heldL_un z0 h3).1⟩, hm⟩
    cases r with
    | e _ => exact h1
    | f q =>
      obtain ⟨r, n⟩ := h1
      refine ⟨?_, n⟩
      rcases r with r | ⟨a, rfl, g1, g2, g3, h⟩
      · exact .inl r
      · exact .inr ⟨a, rfl, g1, (zz a g2).2, g3, h⟩
  | [], [], _ :: _, h => h.elim
  | [], _ :: _, _, h => by cases ‹List D› <;> exact h.elim
  | _ :: _, [], _, h => by cases ‹List D› <;> exact h.elim
  | _ :: _, _ :: _, [], h => h.elim
end
/-- the right sides' reading -/
def tRs (K : PySem.W.Frag) (mg : Mg) (W : WX) (rs : List RE) (w : WL) : TA := fun σ H Q => ∃ Z Hs ρ Qd R, SR K mg Z Hs H σ ρ ∧ w Qd R ρ ∧
  (∀ ds ρ' Hs' H' vs, Qd ds ρ' → SR K mg Z Hs' H' σ ρ' → Same Hs Hs' → HeldL K mg Z Hs' H' σ ρ' rs vs ds → Q vs H') ∧
  (∀ c ρ' Hs' H' cls a, R c ρ' → SR K mg Z Hs' H' σ ρ' → Same Hs Hs' → ExcR K mg Hs' H' c cls a → W cls a σ H')
section
variable {P : Program} {w : World} {K : PySem.W.Frag} {mg : Mg} {base : Heap} {k : Nat} {T : Tb} {X : Cx} {W : WX}
theorem pa_REs (o : Ok P w K mg base k T X W) : ∀ {rs : List RE} {xs : List Expr}, okREs X.N X.env.scope rs xs = true → PA X xs (tRs X.K X.mg W rs (wREs T rs))
  | [], [], _ => paI pa_nil fun σ H Q ⟨Z, Hs, ρ, Qd, R, S, h, h2, _⟩ => h2 [] ρ Hs H [] h S (Same.refl _) trivial
  | r :: rs, x :: xs, h => by
    simp only [okREs, Bool.and_eq_true] at h
    obtain ⟨⟨h1, h2⟩, h3⟩ := h
    have ih := pa_REs o h3
    cases r with
    | e e =>
      have j := (s_E e o x h1).1
      refine paI (pa_cons (te := fun σ H Q => ∃ Z, tE X.K X.mg Z W (wE T e) σ H Q) ⟨fun pins s σ H Q I ⟨Z, h⟩ => (j Z).run pins s σ H Q I h⟩ ih (star_no h2)) ?_
      rintro σ H Q ⟨Z, Hs, ρ, Qd, R, S, hw, g2, g3⟩
      refine ⟨Z, Hs, ρ, S, _, R, hw, fun d ρ1 Hs1 H1 v q1 S1 e1 rv => ⟨Z, Hs1, ρ1, _, R, S1, q1, fun ds ρ2 Hs2 H2 vs q2 S2 e2 hl => ?_, fun c ρ' Hs' H' cls a x y z => g3 c ρ' Hs' H' cls a x y (e1.trans z)⟩, g3⟩
      exact g2 (d :: ds) ρ2 Hs2 H2 (v :: vs) q2 S2 (e1.trans e2) ⟨Rep.mono e2 rv, (fun a e => by cases e), hl⟩
    | f f =>
      simp only [okRE, Bool.and_eq_true, Bool.not_eq_true'] at h1
      have j := (s_F f false (fun e => by rw [h1.2] at e; cases e) o x h1.1).1
      refine paI (pa_cons (te := fun σ H Q => ∃ Z, tF X.K X.mg false Z W (wF T f) σ H Q) ⟨fun pins s σ H Q I ⟨Z, h⟩ => (j Z).run pins s σ H Q I h⟩ ih (star_no h2)) ?_
      rintro σ H Q ⟨Z, Hs, ρ, Qd, R, S, hw, g2, g3⟩
      refine ⟨Z, Hs, ρ, S, _, R, hw, fun d ρ1 Hs1 H1 v q1 S1 e1 rv => ?_, g3⟩
      have rv : RepX false X.K X.mg Z Hs1 H1 σ ρ1 v d := rv
      cases m : d.isM with
      | false =>
        refine ⟨Z, Hs1, ρ1, _, R, S1, q1, fun ds ρ2 Hs2 H2 vs q2 S2 e2 hl => ?_, fun c ρ' Hs' H' cls a x y z => g3 c ρ' Hs' H' cls a x y (e1.trans z)⟩
        refine g2 (d :: ds) ρ2 Hs2 H2 (v :: vs) q2 S2 (e1.trans e2) ⟨RepX.of (Rep.mono e2 (rv.rep m)) (.inr m), fun a e => ?_, hl⟩
        obtain ⟨_, _, _, m'⟩ := frA_some e
        rw [m] at m'; cases m'
      | true =>
        obtain ⟨a, ob, rfl, f1, f2, f3, f4, f5⟩ := rv.fresh m
        have zs := S1.hs0 f2
        have np := S1.notP f4
        have nx : HO.isX ob = false := by
          have sl := f5 Hs1 H1 (Same.refl _) f2 f1
          obtain ⟨u, hu, nx⟩ := sl.notX (by cases d <;> first | rfl | cases m) a rfl
          rw [f1] at hu
          rw [Option.some.inj hu]; exact nx
        refine ⟨Z.with a ob, Hs1, ρ1, _, R, S1.guard nx f1 f2 f4, q1, fun ds ρ2 Hs2 H2 vs q2 S2 e2 hl => ?_, fun c ρ' Hs' H' cls b x y z => g3 c ρ' Hs' H' cls b x (y.unguard f3 zs np).1 (e1.trans z)⟩
        obtain ⟨S3, u1, u2, u3⟩ := S2.unguard f3 zs np
        obtain ⟨hl2, hl3⟩ := heldL_un f3 hl
        refine g2 (d :: ds) ρ2 Hs2 H2 (.ref a :: vs) q2 S3 (e1.trans e2) ⟨⟨.inr ⟨a, rfl, u2, f3, u3, ?_⟩, fun _ i => notRep u2 i⟩, fun b e => ?_, hl2⟩
        · have sl := f5 Hs2 H2 e2 u2 u1
          cases d with
          | lst ds =>
            obtain ⟨b, vs, h1, _, h3, h4⟩ := sl
            cases h1
            exact .inl ⟨vs, ds, rfl, h3, h4⟩
          | dK kvs =>
            obtain ⟨b, ks, vs, ds, h1, _, h3, h4, rfl, h5⟩ := sl
            cases h1
            exact .inr (.inl ⟨ks, vs, ds, rfl, h3, h4, h5⟩)
          | dT kvs =>
            obtain ⟨b, ks, vs, ds, h1, _, h3, h4, rfl, h5⟩ := sl
            cases h1
            exact .inr (.inr ⟨ks, vs, ds, rfl, h3, h4, h5⟩)
          | _ => cases m
        · rw [frA_of m] at e
          obtain rfl := Option.some.inj e
          exact hl3
  | [], _ :: _, h => by simp [okREs] at h
  | _ :: _, [], h => by simp [okREs] at h
end
end EV
set_option Elab.async false
set_option linter.all false
set_option maxRecDepth 100000
set_option maxHeartbeats 4000000
/-! EV14: every statement that is the syntax of S is walked with its meaning. -/
namespace EV
open PySem PySem.Spec PyProof.Rows L2
theorem par_sw {env : Env} {ts vs : List Expr} {k k' : Nat} {p p' : Pos} (hk : env.scope.kind = .function) {b : Bool} (h : parK env.scope ts vs = some b) :
    swappedStores [.Tuple ts k p] (.Tuple vs k' p') env = pure (if b = true then some (stNames env.scope ts) else none) := by
  have hb : env.blockKind = .function := by unfold Env.blockKind; rw [hk]; rfl
  unfold parK at h
  unfold swappedStores
  simp only [hb]
  by_cases c1 : (!(ts.length == 2 || ts.length == 3) || vs.length != ts.length) = true
  · rw [if_pos c1] at h
    cases h
    rw [c1]
    rfl
  · rw [if_neg c1] at h
    rw [Bool.eq_false_iff.mpr c1]
    simp only [Bool.false_or]
    rw [if_neg (by decide)]
    by_cases c2 : (vs.any (fun | .Starred .. => true | _ => false)) = true
    · have h := (if_pos c2).symm.trans h
      cases h
      exact if_pos c2
    · replace h := (if_neg c2).symm.trans h
      refine (if_neg c2).trans ?_
      by_cases c3 : ((stNames env.scope ts).length != ts.length || (stNames env.scope ts).eraseDups.length != (stNames env.scope ts).length) = true
      · rw [if_pos c3] at h
        cases h
        exact if_pos c3
      · rw [if_neg c3] at h
        refine (if_neg c3).trans ?_
        by_cases c4 : vs.all (foldedForSure 8) = true
        · rw [if_pos c4] at h
          cases h
          exact if_pos c4
        · rw [if_neg c4] at h
          refine (if_neg c4).trans ?_
          by_cases c5 : vs.all (constantsAlone 8) = true
          · rw [if_pos c5] at h; cases h
          · rw [if_neg c5] at h
            cases h
            exact if_neg c5

def gSets (is : List Nat) : L2.TGs := fun vs σ H Q => vs.length = is.length ∧ Q (setAll is vs σ) H
section
variable {P : Program} {w : World} {K : PySem.W.Frag} {mg : Mg} {base : Heap} {k : Nat} {T : Tb} {X : Cx} {W : WX}
theorem nm_of {N : List Str} {sc : Scope} {i : Nat} {x : Expr} (h : isNm N sc i x = true) : ∃ y p, x = .Name y p ∧ N[i]? = some y ∧ (sc.names.lookup y = some .local ∨ sc.names.lookup y = some .cell) := by
  unfold isNm at h
  split at h
  · rename_i y p
    simp only [Bool.and_eq_true, decide_eq_true_eq] at h
    refine ⟨y, p, rfl, h.1, ?_⟩
    have h2 := h.2
    split at h2
    · exact .inl (by assumption)
    · exact .inr (by assumption)
    · cases h2
  · cases h
theorem pg_nm (o : OkS P w K mg base k T X W) {i : Nat} {x : Expr} (h : isNm X.N X.env.scope i x = true) : PG X x (gName i) := by
  obtain ⟨y, p, rfl, h1, h2⟩ := nm_of h
  refine pg_name o.ok.nd h1 h2 ?_
  rcases h2 with h2 | h2
  · exact .inr h2
  · exact .inl (o.fn y h2)
theorem pgs_sets (o : OkS P w K mg base k T X W) : ∀ {is : List Nat} {ts : List Expr}, isNms X.N X.env.scope is ts = true → PGs X ts (gSets is)
  | [], [], _ => ⟨fun pins s σ H vs us Q I r ⟨h1, h2⟩ => by
      cases vs with
      | nil => exact (pgs_nil (X := X)).run pins s σ H [] us Q I r ⟨rfl, h2⟩
      | cons v vs => cases h1⟩
  | i :: is, x :: xs, h => by
    simp only [isNms, Bool.and_eq_true] at h
    obtain ⟨⟨h1, h2⟩, h3⟩ := h
    have q := pgs_cons (pg_nm o h1) (pgs_sets o h3) (by cases x <;> first | rfl | cases h2)
    refine ⟨fun pins s σ H vs us Q I r ⟨h1, h2⟩ => ?_⟩
    cases vs with
    | nil => cases h1
    | cons v vs => exact q.run pins s σ H (v :: vs) us Q I r ⟨v, vs, rfl, Nat.succ.inj h1, h2⟩
  | [], _ :: _, h => by cases h
  | _ :: _, [], h => by cases h
theorem nms_star {N : List Str} {sc : Scope} : ∀ {is : List Nat} {ts : List Expr}, isNms N sc is ts = true → ts.all noStar = true ∧ ts.length = is.length
  | [], [], _ => ⟨rfl, rfl⟩
  | i :: is, x :: xs, h => by
    simp only [isNms, Bool.and_eq_true] at h
    obtain ⟨q1, q2⟩ := nms_star h.2
    exact ⟨by simp [h.1.2, q1], by simp [q2]⟩
  | [], _ :: _, h => by cases h
  | _ :: _, [], h => by cases h
theorem asg_one {tg : Expr} {env : Env} (h : noStar tg = true) : (assignEach [tg] env).map (·.2) = [assign tg env] := by cases tg <;> first | rfl | cases h
theorem no_swap {x : Expr} {t : Option Expr} {l : Nat} {env : Env} (h : noComp x = true) : swapsWith x t l env = pure false := by cases x <;> first | rfl | cases h
theorem held_len {K : PySem.W.Frag} {mg : Mg} {Z : Zn} {Hs H : Hp} {σ : L2.St} {ρ : En} : ∀ {rs : List RE} {vs : List V} {ds : List D}, HeldL K mg Z Hs H σ ρ rs vs ds → vs.length = rs.length
  | [], [], [], _ => rfl
  | _ :: _, _ :: _, _ :: _, ⟨_, _, h⟩ => congrArg Nat.succ (held_len h)
  | [], [], _ :: _, h => h.elim
  | [], _ :: _, ds, h => by cases ds <;> exact h.elim
  | _ :: _, [], ds, h => by cases ds <;> exact h.elim
  | _ :: _, _ :: _, [], h => h.elim
theorem sets_len {Q : En → Prop} : ∀ {is : List Nat} {rs : List RE} {ds : List D} {ρ : En}, wSets is rs ds Q ρ → is.length = rs.length
  | [], [], [], _, _ => rfl
  | _ :: _, _ :: _, _ :: _, _, ⟨_, h⟩ => congrArg Nat.succ (sets_len h)
  | [], [], _ :: _, _, h => h.elim
  | [], _ :: _, ds, _, h => by cases ds <;> exact h.elim
  | _ :: _, [], ds, _, h => by cases ds <;> exact h.elim
  | _ :: _, _ :: _, [], _, h => h.elim
theorem no_swapS {tg x : Expr} {l : Nat} {env : Env} (h : noComp x = true) : swapsWithSole [tg] x l env = pure false := no_swap h
theorem unsw_ok {env : Env} {tg x : Expr} {k : Unit} (hk : env.scope.kind = .function) (h : unsw env.scope tg x = true) : swappedStores [tg] x env = pure none := by
  cases tg with
  | Tuple ts k p =>
    cases x with
    | Tuple vs k' p' => exact par_sw (b := false) hk (by simpa [unsw] using h)
    | _ => rfl
  | List ts p => simp [unsw] at h
  | _ => cases x <;> rfl
theorem nonul {ts : List Expr} {k : Nat} {p : Pos} : noStar (.Tuple ts k p) = true := rfl

theorem js_asg (o : OkS P w K mg base k T X W) {t : Tg} {tg x : Expr} {pos : Pos} {we : WE} (ht : okTG X.N X.env.scope (fun y => X.env.scope.names.lookup y == some .cell) (List.range X.N.length) t tg = true) (he : JE X W x we) (h1 : noComp x = true) (h2 : unsw X.env.scope tg x = true) :
    JS X W (.Assign [tg] x pos) (fun k => we (fun d ρ1 => wTG t d k.nx ρ1) k.R) := fun Z => ⟨fun pins s σ H E I ⟨Hs, ρ, kk, S, hw, kr⟩ => by
  have ns : noStar tg = true := by
    cases t with
    | n i =>
      simp only [okTG] at ht
      split at ht
      · rfl
      · cases ht
    | t ts =>
      simp only [okTG] at ht
      split at ht
      · rfl
      · cases ht
  have hsw := unsw_ok (k := ()) I.ok.kind h2
  refine (ps_asg (he Z) (pg_t (X := X) o.ok.calm o.ok.nd (fun y e => o.fn y (by simpa using e)) t tg ht Z) (no_swapS h1) hsw (asg_one ns)).run pins s σ H E I ?_
  exact kr.go S hw fun d ρ1 Hs1 H1 v q S1 e1 rv => ⟨Hs1, ρ1, d, kk.nx, S1, rv, q, fun ρ2 σ2 q2 S2 _ => kr.nx σ2 ρ2 Hs1 H1 q2 S2 e1⟩⟩
theorem no_swapC {x : Expr} {y : Str} {p : Pos} {l : Nat} {env : Env} (h : noComp x = true ∨ notLoc env.scope y = true) : swapsWithSole [.Name y p] x l env = pure false := by
  rcases h with h | h
  · exact no_swapS h
  · have e : (env.kindOf y == some NameKind.local) = false := by
      unfold notLoc at h
      show (env.scope.names.lookup y == some NameKind.local) = false
      split at h
      · cases h
      · rename_i n
        rw [beq_eq_false_iff_ne]
        exact n
    have q : ∀ (a : Bool) (b c : Bool), (a && (env.kindOf y == some NameKind.local) && b && c) = false := fun a b c => by rw [e]; cases a <;> rfl
    cases x <;> first
      | rfl
      | (show (pure (_ && _ && _ && _) : Sem Bool) = pure false
         rw [q])
theorem js_own (o : OkS P w K mg base k T X W) {i : Nat} {x : Expr} {y : Str} {py pos : Pos} {we : WE} (ht : isNm X.N X.env.scope i (.Name y py) = true) (he : JX false X W x we) (h1 : noComp x = true ∨ notLoc X.env.scope y = true) :
    JS X W (.Assign [.Name y py] x pos) (fun k => we (fun d ρ1 => (ρ1.at i).lent = false ∧ k.nx (ρ1.set i (ownOf d))) k.R) := fun Z => ⟨fun pins s σ H E I ⟨Hs, ρ, kk, S, hw, kr⟩ => by
  refine (ps_asg (he Z) (pg_nm o ht) (no_swapC h1) (unsw_ok (k := ()) I.ok.kind (by cases x <;> rfl)) rfl).run pins s σ H E I ?_
  exact kr.go S hw fun d ρ1 Hs1 H1 v ⟨nl, q⟩ S1 e1 rv => kr.nx _ _ Hs1 H1 q (S1.hold rv nl) e1⟩
theorem js_ex (o : OkS P w K mg base k T X W) {x : Expr} {pos : Pos} {we : WE} (he : JE X W x we) (h1 : noComp x = true) : JS X W (.Expr x pos) (fun k => we (fun _ ρ => k.nx ρ) k.R) := fun Z => ⟨fun pins s σ H E I ⟨Hs, ρ, kk, S, hw, kr⟩ => by
  refine (ps_expr (he Z) (no_swap h1)).run pins s σ H E I ?_
  exact kr.go S hw fun d ρ1 Hs1 H1 v q S1 e1 rv => kr.nx _ _ Hs1 H1 q S1 e1⟩
theorem js_ret {x : Expr} {pos : Pos} {we : WE} (he : JE X W x we) : JS X W (.Return (some x) pos) (fun k => we k.rt k.R) := fun Z => ⟨fun pins s σ H E I ⟨Hs, ρ, kk, S, hw, kr⟩ => by
  refine (ps_ret (he Z)).run pins s σ H E I ?_
  exact kr.go S hw fun d ρ1 Hs1 H1 v q S1 e1 rv => kr.rt d _ ρ1 Hs1 H1 v q S1 e1 rv⟩
/-- a dict that is a law's pen is seen as one -/
theorem SR.toPen {K : PySem.W.Frag} {mg : Mg} {Z : Zn} {Hs H : Hp} {σ : L2.St} {ρ : En} (S : SR K mg Z Hs H σ ρ) {i n : Nat} {cells : List Int} {a d c f : Int} (h : ρ.at i = .oK (penK cells a d c f)) (hp : penOk n cells a d c f) : SR K mg Z Hs H σ (ρ.set i (.pn n)) := by
  have back : ∀ j b, Owns σ (ρ.set i (.pn n)) j b → Owns σ ρ j b := fun j b ⟨h1, h2⟩ => by
    rw [at_set] at h2
    by_cases cc : j = i ∧ i < ρ.length
    · rw [cc.1] at h1 ⊢
      exact ⟨h1, by rw [h]; rfl⟩
    · rw [if_neg cc] at h2; exact ⟨h1, h2⟩
  refine ⟨S.sub, S.s0, S.h0, S.dom, S.new, by simpa using S.len, fun j => ?_, fun j k b h1 h2 => S.sep j k b (back j b h1) (back k b h2), fun j b h => S.own j b (back j b h), fun q hq => ?_, tz_set S.tz rfl⟩
  · rw [at_set]
    by_cases cc : j = i ∧ i < ρ.length
    · rw [if_pos cc, cc.1]
      have sl := S.sl i
      rw [h] at sl
      obtain ⟨p, ks, vs, ds, h1, h2, h3, h4, h5, h6⟩ := sl
      refine ⟨p, h1, h2, ?_⟩
      obtain ⟨q1, q2, q3, q4, q5, q6, q7, q8⟩ := hp
      have hl : ks.length = ds.length := by rw [h4, h6.length]
      have ek : ks = (penK cells a d c f).map (·.1) := by rw [h5, List.map_fst_zip (by omega)]
      have ed : ds = (penK cells a d c f).map (·.2) := by rw [h5, List.map_snd_zip (by omega)]
      rw [ed] at h6
      cases h6 with
      | cons r0 t0 =>
        cases t0 with
        | cons r1 t1 =>
          cases t1 with
          | cons r2 t2 =>
            cases t2 with
            | cons r3 t3 =>
              cases t3 with
              | cons r4 t4 =>
                cases t4
                cases r1
                cases r2
                cases r3
                cases r4
                cases r0 with
                | lst e r => exact ⟨_, cells, a, d, c, f, by rw [h3, ek]; rfl, .lst e r, q1, q2, q3, q4, q5, q6, q7, q8⟩
    · rw [if_neg cc]; exact S.sl j
  · obtain ⟨h1, h2⟩ := S.pin q hq
    refine ⟨h1, ?_⟩
    rw [at_set]
    split
    · rfl
    · exact h2
theorem js_pen (o : OkS P w K mg base k T X W) {i : Nat} {x : Expr} {y : Str} {py pos : Pos} {we : WE} (ht : isNm X.N X.env.scope i (.Name y py) = true) (he : JX false X W x we) (h1 : noComp x = true) (hi : i < X.N.length) :
    JS X W (.Assign [.Name y py] x pos) (fun k => we (fun d ρ1 => (ρ1.at i).lent = false ∧ (∃ cells a dg c fo n, d = .dK (penK cells a dg c fo) ∧ penOk n cells a dg c fo ∧ k.nx (ρ1.set i (.pn n)))) k.R) := fun Z => ⟨fun pins s σ H E I ⟨Hs, ρ, kk, S, hw, kr⟩ => by
  refine (ps_asg (he Z) (pg_nm o ht) (no_swapC (.inl h1)) (unsw_ok (k := ()) I.ok.kind (by cases x <;> rfl)) rfl).run pins s σ H E I ?_
  refine kr.go S hw fun d ρ1 Hs1 H1 v ⟨nl, cells, a, dg, c, fo, n, ed, hp, q⟩ S1 e1 rv => kr.nx _ _ Hs1 H1 q ?_ e1
  subst ed
  have S2 := S1.hold rv nl
  have lt : i < ρ1.length := by rw [← S1.len, I.len]; exact hi
  have S3 := S2.toPen (i := i) (n := n) (by rw [at_set, if_pos ⟨rfl, lt⟩]; rfl) hp
  rw [List.set_set] at S3
  exact S3⟩
theorem js_retF {x : Expr} {pos : Pos} {we : WE} (he : JX false X W x we) : JS X W (.Return (some x) pos) (fun k => we k.rf k.R) := fun Z => ⟨fun pins s σ H E I ⟨Hs, ρ, kk, S, hw, kr⟩ => by
  refine (ps_ret (he Z)).run pins s σ H E I ?_
  exact kr.go S hw fun d ρ1 Hs1 H1 v q S1 e1 rv => kr.rf d _ ρ1 Hs1 H1 v q S1 e1 rv⟩
theorem js_retN {pos : Pos} : JS X W (.Return none pos) (fun k ρ => k.rt .non ρ) := fun Z => ⟨fun pins s σ H E I ⟨Hs, ρ, kk, S, hw, kr⟩ => ps_retN.run pins s σ H E I (kr.rt .non σ ρ Hs H .non hw S (Same.refl _) .non)⟩
theorem js_brk {pos : Pos} : JS X W (.Break pos) (fun k => k.br) := fun Z => ⟨fun pins s σ H E I ⟨Hs, ρ, kk, S, hw, kr⟩ => ps_break.run pins s σ H E I (kr.br σ ρ Hs H hw S (Same.refl _))⟩
theorem js_cnt {pos : Pos} : JS X W (.Continue pos) (fun k => k.ct) := fun Z => ⟨fun pins s σ H E I ⟨Hs, ρ, kk, S, hw, kr⟩ => ps_continue.run pins s σ H E I (kr.ct σ ρ Hs H hw S (Same.refl _))⟩
theorem js_pas {pos : Pos} : JS X W (.Pass pos) (fun k => k.nx) := fun Z => ⟨fun pins s σ H E I ⟨Hs, ρ, kk, S, hw, kr⟩ => ps_pass.run pins s σ H E I (kr.nx σ ρ Hs H hw S (Same.refl _))⟩
theorem jss_nil : JSs X W [] (fun k => k.nx) := fun Z => ⟨fun pins s σ H E I ⟨Hs, ρ, kk, S, hw, kr⟩ => pss_nil.run pins s σ H E I (kr.nx σ ρ Hs H hw S (Same.refl _))⟩
theorem jss_cons {st : Stmt} {r : List Stmt} {w1 w2 : WS} (h1 : JS X W st w1) (h2 : JSs X W r w2) : JSs X W (st :: r) (fun k => w1 { k with nx := fun ρ1 => w2 k ρ1 }) := fun Z => ⟨fun pins s σ H E I ⟨Hs, ρ, kk, S, hw, kr⟩ => by
  refine (pss_cons (h1 Z) (h2 Z)).run pins s σ H E I ⟨Hs, ρ, _, S, hw, ?_⟩
  exact ⟨fun σ' ρ' Hs' H' a b c => ⟨Hs', ρ', kk, b, a, kr.mono c⟩, kr.rt, kr.R, kr.br, kr.ct, kr.rf⟩⟩
theorem js_if {x : Expr} {p q : List Stmt} {pos : Pos} {wc : WE} {wa wb : WS} (hc : JT' X W x wc) (ha : JSs X W p wa) (hb : JSs X W q wb) : JS X W (.If x p q pos) (fun k => wB wc (fun v ρ1 => if v = true then wa k ρ1 else wb k ρ1) k.R) := fun Z => ⟨fun pins s σ H E I ⟨Hs, ρ, kk, S, hw, kr⟩ => by
  refine (ps_if (hc Z) (ha Z) (hb Z)).run pins s σ H E I ?_
  refine kr.go (rel := rBo) S hw fun d ρ1 Hs1 H1 v q S1 e1 rv => ?_
  obtain rfl : v = d := rv
  cases v with
  | true => rw [if_pos rfl] at q ⊢; exact ⟨Hs1, ρ1, kk, S1, q, kr.mono e1⟩
  | false => rw [if_neg (by simp)] at q ⊢; exact ⟨Hs1, ρ1, kk, S1, q, kr.mono e1⟩⟩
theorem js_whl (o : OkS P w K mg base k T X W) {x : Expr} {p : List Stmt} {pos : Pos} {wc : WE} {wb : WS} (hc : JT' X W x wc) (hb : JSs X W p wb) :
    JS X W (.While x p [] pos) (fun k ρ => ∃ Iv : Nat → En → Prop, (∃ m, Iv m ρ) ∧ ∀ m ρ, Iv m ρ → wB wc (fun v ρ1 => if v = true then wb { k with nx := fun ρ2 => ∃ m', m' < m ∧ Iv m' ρ2, ct := fun ρ2 => ∃ m', m' < m ∧ Iv m' ρ2, br := k.nx } ρ1 else k.nx ρ1) k.R ρ) := fun Z => ⟨fun pins s σ H E I ⟨Hs, ρ, kk, S, ⟨Iv, ⟨m0, i0⟩, turn⟩, kr⟩ => by
  refine (ps_while o.po (hc Z) (hb Z)).run pins s σ H E I ?_
  refine ⟨fun m σ' H' => ∃ Hs' ρ', SR X.K X.mg Z Hs' H' σ' ρ' ∧ Same Hs Hs' ∧ Iv m ρ', ⟨m0, Hs, ρ, S, Same.refl _, i0⟩, ?_⟩
  rintro m σ1 H1 ⟨Hs1, ρ1, S1, e1, iv⟩
  refine (kr.mono e1).go (rel := rBo) S1 (turn m ρ1 iv) fun d ρ2 Hs2 H2 v q S2 e2 rv => ?_
  obtain rfl : v = d := rv
  cases v with
  | false => rw [if_neg (by simp)] at q ⊢; exact kr.nx σ1 ρ2 Hs2 H2 q S2 (e1.trans e2)
  | true =>
    rw [if_pos rfl] at q ⊢
    refine ⟨fun σ' H' => ∃ m', m' < m ∧ ∃ Hs' ρ', SR X.K X.mg Z Hs' H' σ' ρ' ∧ Same Hs Hs' ∧ Iv m' ρ', fun _ _ h => h, Hs2, ρ2, _, S2, q, ?_⟩
    have kr2 := kr.mono (e1.trans e2)
    exact ⟨fun σ' ρ' Hs' H' ⟨m', a1, a2⟩ b c => ⟨m', a1, Hs', ρ', b, (e1.trans e2).trans c, a2⟩, kr2.rt, kr2.R, kr2.nx, fun σ' ρ' Hs' H' ⟨m', a1, a2⟩ b c => ⟨m', a1, Hs', ρ', b, (e1.trans e2).trans c, a2⟩, kr2.rf⟩⟩
theorem js_fr (o : OkS P w K mg base k T X W) {vs : List Nat} {t : Tg} {tg x : Expr} {p : List Stmt} {pos : Pos} {wi : WI} {wb : WS} (ht : okTG X.N X.env.scope (fun y => X.env.scope.names.lookup y == some .cell) vs t tg = true) (hi : JI X W tg x wi) (hs : iterOk x = true) (hb : JSs X W p wb) :
    JS X W (.For tg x p [] pos) (fun k => wi (fun ds lk ρ1 => (∀ ρ2, lk ρ2) ∧ wFor (wTG t) wb k ds ρ1) k.R) := fun Z => ⟨fun pins s σ H E I ⟨Hs, ρ, kk, S, hw, kr⟩ => by
  refine (ps_for o.po o.ok.calm (hi Z) (pg_t (X := X) o.ok.calm o.ok.nd (fun y e => o.fn y (by simpa using e)) t tg ht Z) (hb Z) (fun x => iter_ok hs _ _)).run pins s σ H E I ?_
  refine ⟨Hs, ρ, _, kk.R, S, hw, ?_, fun c ρ' Hs' H' cls a x y z => kr.R c σ ρ' Hs' H' cls a x y z⟩
  rintro ds lk ρ1 Hs1 H1 J src ⟨hlk, hf⟩ S1 e1 I1 s1 _ st1 hz
  refine ⟨fun i m σ' H' => ∃ Hs' ρ', i ≤ ds.length ∧ m = ds.length - i ∧ SR X.K X.mg Z Hs' H' σ' ρ' ∧ Same Hs1 Hs' ∧ wFor (wTG t) wb kk (ds.drop i) ρ', ⟨_, Hs1, ρ1, Nat.zero_le _, rfl, S1, Same.refl _, hf⟩, ?_⟩
  rintro i m σ2 H2 ⟨Hs2, ρ2, hi, rfl, S2, e2, hf2⟩
  have src2 := st1 hlk Hs2 H2 e2 S2.sub
  have krm := kr.mono (e1.trans e2)
  by_cases hlt : i < ds.length
  · right
    have ed : ds.drop i = ds[i] :: ds.drop (i + 1) := List.drop_eq_getElem_cons hlt
    rw [ed] at hf2
    refine ⟨I1.go i Hs2 H2 src2 hlt, fun σ' H' => ∃ m', m' < ds.length - i ∧ ∃ Hs' ρ', i + 1 ≤ ds.length ∧ m' = ds.length - (i + 1) ∧ SR X.K X.mg Z Hs' H' σ' ρ' ∧ Same Hs1 Hs' ∧ wFor (wTG t) wb kk (ds.drop (i + 1)) ρ', fun _ _ h => h, fun x H' y => ?_⟩
    obtain ⟨Hs3, S3, e3, r3, _⟩ := I1.yld Z σ2 ρ2 i Hs2 H2 x H' S2 src2 y ds[i] (by simp [hlt])
    refine ⟨Hs3, ρ2, ds[i], _, S3, r3, hf2, fun ρ4 σ4 q4 S4 _ => ⟨Hs3, ρ4, _, S4, q4, ?_⟩⟩
    have kr3 := krm.mono e3
    have nxt : ∀ σ' ρ' Hs' H', wFor (wTG t) wb kk (ds.drop (i + 1)) ρ' → SR X.K X.mg Z Hs' H' σ' ρ' → Same Hs3 Hs' → ∃ m', m' < ds.length - i ∧ ∃ Hs' ρ', i + 1 ≤ ds.length ∧ m' = ds.length - (i + 1) ∧ SR X.K X.mg Z Hs' H' σ' ρ' ∧ Same Hs1 Hs' ∧ wFor (wTG t) wb kk (ds.drop (i + 1)) ρ' :=
      fun σ' ρ' Hs' H' a b c => ⟨ds.length - (i + 1), by omega, Hs', ρ', hlt, rfl, b, e2.trans (e3.trans c), a⟩
    exact ⟨nxt, kr3.rt, kr3.R, kr3.nx, nxt, kr3.rf⟩
  · left
    have ei : i = ds.length := by omega
    subst ei
    rw [List.drop_length] at hf2
    exact ⟨I1.stop Hs2 H2 src2, krm.nx σ2 ρ2 Hs2 H2 hf2 S2 (Same.refl _)⟩⟩
end
end EV
set_option Elab.async false
set_option linter.all false
set_option maxRecDepth 100000
set_option maxHeartbeats 4000000
/-! EV15: the other statements; every statement. -/
namespace EV
open PySem PySem.Spec PyProof.Rows L2
section
variable {K : PySem.W.Frag} {mg : Mg} {Z : Zn} {Hs H : Hp} {σ : L2.St} {ρ : En}
theorem put_zip {κ : Type} [DecidableEq κ] {k : κ} {v : V} {d : D} (r : Rep K mg Hs v d) : ∀ {ks : List κ} {vs : List V} {ds : List D}, ks.length = vs.length → Reps K mg Hs vs ds →
    ∃ (ks' : List κ) (vs' : List V) (ds' : List D), putK (ks.zip vs) k v = ks'.zip vs' ∧ putD (ks.zip ds) k d = ks'.zip ds' ∧ ks'.length = vs'.length ∧ Reps K mg Hs vs' ds' := by
  intro ks vs ds hl rs
  have hl2 : ks.length = ds.length := hl.trans rs.length
  have any_eq : ∀ {β : Type} (ks : List κ) (bs : List β), ks.length = bs.length → ((ks.zip bs).any fun kv => decide (kv.1 = k)) = ks.any fun q => decide (q = k) := by
    intro β ks
    induction ks with
    | nil => intro bs _; rfl
    | cons q ks ih =>
      intro bs h
      cases bs with
      | nil => cases h
      | cons b bs => simp only [List.zip_cons_cons, List.any_cons, ih bs (Nat.succ.inj h)]
  unfold putK putD
  rw [any_eq ks vs hl, any_eq ks ds hl2]
  by_cases c : (ks.any fun q => decide (q = k)) = true
  · rw [if_pos c, if_pos c]
    clear c any_eq hl2
    induction ks generalizing vs ds with
    | nil => exact ⟨[], [], [], rfl, rfl, rfl, .nil⟩
    | cons q ks ih =>
      cases rs with
      | nil => cases hl
      | @cons v0 d0 vs ds r0 rs =>
        obtain ⟨ks', vs', ds', e1, e2, e3, e4⟩ := ih (Nat.succ.inj hl) rs
        by_cases e : q = k
        · exact ⟨q :: ks', v :: vs', d :: ds', by simp [e, e1], by simp [e, e2], by simp [e3], .cons r e4⟩
        · exact ⟨q :: ks', v0 :: vs', d0 :: ds', by simp [e, e1], by simp [e, e2], by simp [e3], .cons r0 e4⟩
  · rw [if_neg c, if_neg c]
    refine ⟨ks ++ [k], vs ++ [v], ds ++ [d], ?_, ?_, by simp [hl], rs.append (.cons r .nil)⟩
    · rw [List.zip_append hl]; rfl
    · rw [List.zip_append hl2]; rfl
theorem heldL_loose {p : Addr} {o : HO} (hp : H p = none) : ∀ {rs : List RE} {vs : List V} {ds : List D}, HeldL K mg Z Hs H σ ρ rs vs ds → HeldL K mg Z Hs (upd H p o) σ ρ rs vs ds
  | [], [], [], _ => trivial
  | r :: rs, v :: vs, d :: ds, ⟨h1, h2, h3⟩ => by
    refine ⟨?_, h2, heldL_loose hp h3⟩
    cases r with
    | e _ => exact h1
    | f q =>
      obtain ⟨r, n⟩ := h1
      refine ⟨?_, n⟩
      rcases r with r | ⟨a, rfl, g1, g2, g3, h⟩
      · exact .inl r
      · have kp : ∀ u, H a = some u → upd H p o a = some u := fun u e => by rw [upd_ne (ne_of_none e hp)]; exact e
        refine .inr ⟨a, rfl, g1, g2, g3, ?_⟩
        rcases h with ⟨vs, ds, rfl, e, r⟩ | ⟨ks, vs, ds, rfl, e, l, r⟩ | ⟨ks, vs, ds, rfl, e, l, r⟩
        · exact .inl ⟨vs, ds, rfl, kp _ e, r⟩
        · exact .inr (.inl ⟨ks, vs, ds, rfl, kp _ e, l, r⟩)
        · exact .inr (.inr ⟨ks, vs, ds, rfl, kp _ e, l, r⟩)
  | [], [], _ :: _, h => h.elim
  | [], _ :: _, ds, h => by cases ds <;> exact h.elim
  | _ :: _, [], ds, h => by cases ds <;> exact h.elim
  | _ :: _, _ :: _, [], h => h.elim
end
def rPutV : TSet := fun o i v H Q => rSetL o i v H Q ∨ ∃ a H', o = .ref a ∧ DPut H a i v H' ∧ Q H'
section
variable {P : Program} {w : World} {K : PySem.W.Frag} {mg : Mg} {base : Heap} {k : Nat} {T : Tb} {X : Cx} {W : WX}
theorem set_putV (hu : X.A.units + 1 < cLine) : PSet X rPutV := fun pins s σ H o i v ov iv u Q I r1 r2 r3 h => by
  rcases h with h | h
  · exact set_list pins s σ H o i v ov iv u Q I r1 r2 r3 h
  · obtain ⟨a, H', rfl, g, q⟩ := h
    cases (show ov = Value.ref a from r1)
    exact d_setItem hu I g r2 r3 fun s' I' => ⟨H', I', q⟩
/-- slot[x] = d on the machine -/
theorem SR.putS {Z : Zn} {Hs H : Hp} {σ : L2.St} {ρ : En} {Q : Hp → Prop} (S : SR K mg Z Hs H σ ρ) {i : Nat} {s : Slot} {u v a : V} {x d : D} (ha : σ.getD i none = some a) (rx : RepO K mg Hs H u x) (rd : Rep K mg Hs v d) (h : putS (ρ.at i) x d = some s)
    (k : ∀ H', SR K mg Z Hs H' σ (ρ.set i s) → Q H') : rPutV a u v H Q := by
  have sl := S.sl i
  cases q : ρ.at i with
  | ol ds | bl ds =>
    rw [q] at h sl
    obtain ⟨p, vs, h1, h2, h3, h4⟩ := sl
    rw [ha] at h1
    obtain rfl := Option.some.inj h1
    cases x with
    | int j =>
      obtain ⟨n, e1, rfl⟩ := Option.map_eq_some_iff.mp h
      refine .inl ⟨p, vs, j, n, rfl, rx.int, h3, by rw [h4.length]; exact e1, k _ ?_⟩
      exact S.write (i := i) ⟨ha, by rw [q]; rfl⟩ ⟨p, _, rfl, h2, upd_same, Reps.set rd n h4⟩ rfl (by rw [q]; rfl)
    | _ => cases h
  | oK kvs | bK kvs =>
    rw [q] at h sl
    obtain ⟨p, ks, vs, ds, h1, h2, h3, h4, rfl, h5⟩ := sl
    rw [ha] at h1
    obtain rfl := Option.some.inj h1
    obtain ⟨ky, e1, e2⟩ := Option.bind_eq_some_iff.mp h
    split at e2
    · rename_i hz
      cases e2
      obtain ⟨ks', vs', ds', g1, g2, g3, g4⟩ := put_zip (k := ky) rd h4 h5
      have hz' : (ks.zip vs).length < sizeLine := by rw [List.length_zip, ← h4]; rw [List.length_zip, ← h5.length, ← h4] at hz; exact hz
      have ey := keyOf_rep rx e1
      subst ey
      refine .inr ⟨p, _, rfl, DPut.k h3 hz', k _ ?_⟩
      exact S.write (i := i) ⟨ha, by rw [q]; rfl⟩ ⟨p, ks', vs', ds', rfl, h2, by rw [upd_same, g1], g3, g2, g4⟩ rfl (by rw [q]; rfl)
    · cases e2
  | oT kvs | bT kvs =>
    rw [q] at h sl
    obtain ⟨p, ks, vs, ds, h1, h2, h3, h4, rfl, h5⟩ := sl
    rw [ha] at h1
    obtain rfl := Option.some.inj h1
    cases x with
    | tup es =>
      obtain ⟨ky, e1, e2⟩ := Option.bind_eq_some_iff.mp h
      split at e2
      · rename_i hz
        cases e2
        obtain ⟨ks', vs', ds', g1, g2, g3, g4⟩ := put_zip (k := ky) rd h4 h5
        have hz' : (ks.zip vs).length < sizeLine := by rw [List.length_zip, ← h4]; rw [List.length_zip, ← h5.length, ← h4] at hz; exact hz
        obtain ⟨b, ws, rfl, t1, t2⟩ := rx.tup S.sub
        have ey := keysOf_rep t2 e1
        subst ey
        refine .inr ⟨p, _, rfl, DPut.t h3 t1 hz', k _ ?_⟩
        exact S.write (i := i) ⟨ha, by rw [q]; rfl⟩ ⟨p, ks', vs', ds', rfl, h2, by rw [upd_same, g1], g3, g2, g4⟩ rfl (by rw [q]; rfl)
      · cases e2
    | _ => cases h
  | _ => rw [q] at h; cases h
theorem js_put (o : OkS P w K mg base k T X W) {i : Nat} {t x v : Expr} {p pos : Pos} {wa : WA} {we : WE} (hn : okName X.N X.env.scope i t = true) (ha : JA X W x wa) (hx : notSlice x = true) (he : JE X W v we) (hc : noComp v = true) :
    JS X W (.Assign [.Subscript t x p] v pos) (fun k => we (fun d ρ1 => (ρ1.at i).set = true ∧ wa (fun l ρ2 => ∃ y s, l.peek ρ2 = some y ∧ EV.putS (ρ2.at i) y d = some s ∧ k.nx (ρ2.set i s)) k.R ρ1) k.R) := fun Z => ⟨fun pins s σ H E I ⟨Hs, ρ, kk, S, hw, kr⟩ => by
  have hu := o.ok.hu
  have hgo : PG X (.Subscript t x p) (gSub (tA X.K X.mg Z W (fun Q _ ρ => (ρ.at i).set = true ∧ Q (Sum.inr i) ρ)) (tA X.K X.mg Z W wa) rPutV) := pg_sub (j_pk hn Z) (ha Z) (set_putV (by omega)) (by cases x <;> first | (intro _; rfl) | cases hx)
  refine (ps_asg (he Z) hgo (no_swapS hc) (by cases v <;> rfl) rfl).run pins s σ H E I ?_
  refine kr.go S hw fun d ρ1 Hs1 H1 v ⟨st, q⟩ S1 e1 rv => ?_
  refine ⟨Hs1, ρ1, S1, fun l ρ2 => l = .inr i ∧ ρ2 = ρ1, fun _ _ => False, ⟨st, rfl, rfl⟩, ?_, fun c ρ' Hs' H' cls a r _ _ _ => r.elim⟩
  rintro l ρ2 Hs2 H2 a ⟨rfl, rfl⟩ S2 e2 ra
  have hv : σ.getD i none = some a := ra
  refine (kr.mono (e1.trans e2)).go S2 q fun l ρ3 Hs3 H3 u ⟨y, s', p1, p2, q3⟩ S3 e3 ru => ?_
  refine SR.putS S3 hv (LR.peek ru S3 p1) (Rep.mono (e2.trans e3) rv) p2 fun H' S' => kr.nx σ _ Hs3 H' q3 S' (e1.trans (e2.trans e3))⟩
theorem js_parU (o : OkS P w K mg base k T X W) {is : List Nat} {rs : List RE} {ts vs : List Expr} {k1 k2 : Nat} {p1 p2 pos : Pos} (hn : isNms X.N X.env.scope is ts = true) (hl : is.length ≤ 100) (he : okREs X.N X.env.scope rs vs = true) (hk : parK X.env.scope ts vs = some false) :
    JS X W (.Assign [.Tuple ts k1 p1] (.Tuple vs k2 p2) pos) (fun k => wREs T rs (fun ds ρ1 => wSets is rs ds k.nx ρ1) k.R) := fun Z => ⟨fun pins s σ H E I ⟨Hs, ρ, kk, S, hw, kr⟩ => by
  obtain ⟨n1, n2⟩ := nms_star hn
  refine (ps_asg (pe_tup (pa_REs o.ok he)) (pg_tup (n := is.length) o.ok.calm (pgs_sets o hn) (by rw [assign_len, n2]) (assign_plain n1)) rfl (par_sw I.ok.kind hk) rfl).run pins s σ H E I ?_
  refine ⟨Z, Hs, ρ, _, kk.R, S, hw, fun ds ρ1 Hs1 H1 us q S1 e1 hh => ?_, fun c ρ' Hs' H' cls a x y z => kr.R c σ ρ' Hs' H' cls a x y z⟩
  have l1 := held_len hh
  have l2 := sets_len q
  refine ⟨Nat.le_trans (by omega) (show 100 ≤ sizeLine by decide), fun a ha => ⟨a, us, rfl, SqT.of upd_same, by omega, by omega, ?_⟩⟩
  obtain ⟨ρ2, q2, S2⟩ := held_sets (S1.loose ha) (heldL_loose ha hh) q
  exact kr.nx _ ρ2 Hs1 _ q2 S2 e1⟩
theorem loc_of {sc : Scope} {y : Str} {p : Pos} (h : isLoc sc (.Name y p) = true) : sc.names.lookup y = some .local := by
  unfold isLoc at h
  simp only at h
  split at h
  · assumption
  · cases h
theorem js_parS (o : OkS P w K mg base k T X W) {is : List Nat} {rs : List RE} {ts vs : List Expr} {k1 k2 : Nat} {p1 p2 pos : Pos} (hn : isNms X.N X.env.scope is ts = true) (nd : is.Nodup) (he : okREs X.N X.env.scope rs vs = true) (hk : parK X.env.scope ts vs = some true)
    (hloc : ts.all (isLoc X.env.scope) = true) (hnm : stNames X.env.scope ts = is.map fun i => X.N.getD i Str.empty) :
    JS X W (.Assign [.Tuple ts k1 p1] (.Tuple vs k2 p2) pos) (fun k => wREs T rs (fun ds ρ1 => wSets is rs ds k.nx ρ1) k.R) := fun Z => ⟨fun pins s σ H E I ⟨Hs, ρ, kk, S, hw, kr⟩ => by
  have hsw := fun k k' p p' => par_sw (k := k) (k' := k') (p := p) (p' := p') I.ok.kind hk
  rw [hnm] at hsw
  have hpa := pa_REs (T := T) o.ok he
  have hlen : (ts.length = 2 ∨ ts.length = 3) ∧ vs.length = ts.length := by
    unfold parK at hk
    split at hk
    · cases hk
    · rename_i c
      simp only [Bool.or_eq_true, Bool.not_eq_true', bne_iff_ne, ne_eq, not_or, Bool.not_eq_false, beq_iff_eq, Decidable.not_not] at c
      exact ⟨by simpa using c.1, c.2⟩
  obtain ⟨hl1, hl2⟩ := hlen
  have rd : tRs X.K X.mg W rs (wREs T rs) σ H fun us H1 => us.length = is.length ∧ E.nx (setAll is us σ) H1 := by
    refine ⟨Z, Hs, ρ, _, kk.R, S, hw, fun ds ρ1 Hs1 H1 us q S1 e1 hh => ?_, fun c ρ' Hs' H' cls a x y z => kr.R c σ ρ' Hs' H' cls a x y z⟩
    obtain ⟨ρ2, q2, S2⟩ := held_sets S1 hh q
    have l1 := held_len hh
    have l2 := sets_len q
    exact ⟨by omega, kr.nx _ ρ2 Hs1 _ q2 S2 e1⟩
  rcases hl1 with hl1 | hl1
  · match ts, is, vs, hl1, hl2, hn, nd with
    | [t1, t2], [i, j], [a, b], _, _, hn, nd =>
      simp only [isNms, Bool.and_eq_true] at hn
      obtain ⟨⟨m1, _⟩, ⟨m2, _⟩, _⟩ := hn
      obtain ⟨x, px, rfl, x1, _⟩ := nm_of m1
      obtain ⟨y, py, rfl, y1, _⟩ := nm_of m2
      simp only [List.all_cons, Bool.and_eq_true] at hloc
      have hij : i ≠ j := by simpa using nd
      have e1 : X.N.getD i Str.empty = x := by rw [List.getD_eq_getElem?_getD, x1]; rfl
      have e2 : X.N.getD j Str.empty = y := by rw [List.getD_eq_getElem?_getD, y1]; rfl
      refine (ps_par o.ok.calm o.ok.nd x1 y1 hij (loc_of hloc.1) (loc_of hloc.2.1) hpa (by rw [hsw]; simp only [if_true, List.map_cons, List.map_nil, e1, e2])).run pins s σ H E I ?_
      obtain ⟨Z', Hs', ρ', Qd, R, r1, r2, r3, r4⟩ := rd
      refine ⟨Z', Hs', ρ', Qd, R, r1, r2, fun ds ρ1 Hs1 H1 us q S1 e1 hh => ?_, r4⟩
      obtain ⟨g1, g2⟩ := r3 ds ρ1 Hs1 H1 us q S1 e1 hh
      match us, g1 with
      | [u, v], _ => exact ⟨u, v, rfl, g2⟩
    | [], _, _, h, _, _, _ => cases h
    | [_], _, _, h, _, _, _ => cases h
    | _ :: _ :: _ :: _, _, _, h, _, _, _ => cases h
    | [_, _], [], _, _, _, h, _ => cases h
    | [_, _], [_], _, _, _, h, _ => simp [isNms] at h
    | [_, _], _ :: _ :: _ :: _, _, _, _, h, _ => simp [isNms] at h
    | [_, _], [_, _], [], _, h, _, _ => cases h
    | [_, _], [_, _], [_], _, h, _, _ => cases h
    | [_, _], [_, _], _ :: _ :: _ :: _, _, h, _, _ => cases h
  · match ts, is, vs, hl1, hl2, hn, nd with
    | [t1, t2, t3], [i, j, l], [a, b, c], _, _, hn, nd =>
      simp only [isNms, Bool.and_eq_true] at hn
      obtain ⟨⟨m1, _⟩, ⟨m2, _⟩, ⟨m3, _⟩, _⟩ := hn
      obtain ⟨x, px, rfl, x1, _⟩ := nm_of m1
      obtain ⟨y, py, rfl, y1, _⟩ := nm_of m2
      obtain ⟨z, pz, rfl, z1, _⟩ := nm_of m3
      simp only [List.all_cons, Bool.and_eq_true] at hloc
      have hd : (i ≠ j ∧ i ≠ l) ∧ j ≠ l := by simpa using nd
      have e1 : X.N.getD i Str.empty = x := by rw [List.getD_eq_getElem?_getD, x1]; rfl
      have e2 : X.N.getD j Str.empty = y := by rw [List.getD_eq_getElem?_getD, y1]; rfl
      have e3 : X.N.getD l Str.empty = z := by rw [List.getD_eq_getElem?_getD, z1]; rfl
      refine (ps_par3 o.ok.calm o.ok.nd x1 y1 z1 hd.1.1 hd.1.2 hd.2 (loc_of hloc.1) (loc_of hloc.2.1) (loc_of hloc.2.2.1) hpa (by rw [hsw]; simp only [if_true, List.map_cons, List.map_nil, e1, e2, e3])).run pins s σ H E I ?_
      obtain ⟨Z', Hs', ρ', Qd, R, r1, r2, r3, r4⟩ := rd
      refine ⟨Z', Hs', ρ', Qd, R, r1, r2, fun ds ρ1 Hs1 H1 us q S1 e1 hh => ?_, r4⟩
      obtain ⟨g1, g2⟩ := r3 ds ρ1 Hs1 H1 us q S1 e1 hh
      match us, g1 with
      | [u, v, w], _ => exact ⟨u, v, w, rfl, g2⟩
    | [], _, _, h, _, _, _ => cases h
    | [_], _, _, h, _, _, _ => cases h
    | [_, _], _, _, h, _, _, _ => cases h
    | _ :: _ :: _ :: _ :: _, _, _, h, _, _, _ => cases h
    | [_, _, _], [], _, _, _, h, _ => cases h
    | [_, _, _], [_], _, _, _, h, _ => simp [isNms] at h
    | [_, _, _], [_, _], _, _, _, h, _ => simp [isNms] at h
    | [_, _, _], _ :: _ :: _ :: _ :: _, _, _, _, h, _ => simp [isNms] at h
    | [_, _, _], [_, _, _], [], _, h, _, _ => cases h
    | [_, _, _], [_, _, _], [_], _, h, _, _ => cases h
    | [_, _, _], [_, _, _], [_, _], _, h, _, _ => cases h
    | [_, _, _], [_, _, _], _ :: _ :: _ :: _ :: _, _, h, _, _ => cases h⟩
theorem js_ownC (o : OkS P w K mg base k T X W) {i : Nat} {y : Str} {py : Pos} {elt tg iter : Expr} {ifs : List Expr} {scope : Scope} {pos spos : Pos} {vs : List Nat} {t : Tg} {wi : WI} {c : (Bool → En → Prop) → (Exc → En → Prop) → En → Prop} {we : WE}
    (hy : X.N[i]? = some y) (hsw : lcSw X.env.scope y py (.ListComp elt [⟨tg, iter, ifs, 0⟩] scope pos) = true)
    (hb : blkC X.N X.env.scope scope (vs.map fun v => (X.N.getD v Str.empty, v)) = true) (ht : okTG X.N (relS scope X.env.scope) (fun x => scope.names.lookup x == some .cell) vs t tg = true) (hi : JI X W tg iter wi) (hs : iterOk iter = true)
    (hc : ∀ Y, Ok P w K mg base k T.off Y W0 → Y.N = X.N → Y.env.scope = relS scope X.env.scope → ∀ Z, PTs Y ifs (tW Y.K Y.mg rBo Z W0 c))
    (he : ∀ Y, Ok P w K mg base k T.off Y W0 → Y.N = X.N → Y.env.scope = relS scope X.env.scope → JE Y W0 elt we) :
    JS X W (.Assign [.Name y py] (.ListComp elt [⟨tg, iter, ifs, 0⟩] scope pos) spos) (fun k => wComp vs (wTG t) wi c we (fun d ρ1 => (ρ1.at i).lent = false ∧ k.nx (ρ1.set i (ownOf d))) k.R) := fun Z => ⟨fun pins s σ H E I ⟨Hs, ρ, kk, S, hw, kr⟩ => by
  have em : (vs.map fun v => (X.N.getD v Str.empty, v)).map (·.2) = vs := by rw [List.map_map]; exact List.map_id _
  unfold lcSw at hsw
  simp only [Bool.and_eq_true, Bool.not_eq_true'] at hsw
  obtain ⟨⟨w1, w2⟩, w3⟩ := hsw
  have hyl : X.env.scope.names.lookup y = some .local := by split at w1; assumption; cases w1
  have h := ps_setLc (scope := scope) (own := vs.map fun v => (X.N.getD v Str.empty, v)) (pos := pos) (spos := spos) (py := py) (g := fun v σ H Q => ∃ Z, tG X.K X.mg Z vs t v σ H Q) (tt := xE fun Z => tW X.K X.mg rBo Z W0 c) (te := xE fun Z => tE X.K X.mg Z W0 we)
    o.ok.calm o.ok.nd hy hyl (sw_true I.ok.kind hyl w2 w3) (hi Z) (blkOk_by hb)
    (fun s H C cl fp => ⟨fun pins s' σ H' v u Q I r ⟨Z, h⟩ => (pg_t (X := X.blk s H scope (compEnvC scope cl C X.env) fp) o.ok.calm o.ok.nd (fb := fun x => scope.names.lookup x == some .cell) (fun _ e => e) t tg ht Z).run pins s' σ H' v u Q I r h⟩)
    (fun s H C cl fp => ⟨fun pins s' σ H' Q I ⟨Z, h⟩ => (hc (X.blk s H scope (compEnvC scope cl C X.env) fp) (ok_blk o.ok) rfl rfl Z).run pins s' σ H' Q I h⟩)
    (fun s H C cl fp => ⟨fun pins s' σ H' Q I ⟨Z, h⟩ => (he (X.blk s H scope (compEnvC scope cl C X.env) fp) (ok_blk o.ok) rfl rfl Z).run pins s' σ H' Q I h⟩)
    (fun x => iter_ok hs _ _)
  rw [em] at h
  refine h.run pins s σ H E I (comp_read (m0 := false) (Q := fun x H1 => gName i x σ H1 E.nx) ?_)
  exact kr.go S hw fun d ρ1 Hs1 H1 v ⟨nl, q⟩ S1 e1 rv => kr.nx _ _ Hs1 H1 q (S1.hold rv nl) e1⟩
theorem js_rse (o : OkS P w K mg base k T X W) {C : Str} {es : Es} {x : Expr} {xs : List Expr} {p pos pos' : Pos} (hg : glb X.env.scope C = true) (hd : (C == ("__debug__" : Str)) = false) (he : okEs X.N X.env.scope es (x :: xs) = true) :
    JS X W (.Raise (some (.Call (.Name C p) (x :: xs) [] pos)) none pos') (fun k ρ => ∃ ns, T.exc C = some ns ∧ wEs T es (fun ds ρ1 => ns.length = ds.length ∧ k.R ⟨C, (ns.zip ds).reverse⟩ ρ1) k.R ρ) := fun Z => ⟨fun pins s σ H E I ⟨Hs, ρ, kk, S, ⟨ns, hx, hw⟩, kr⟩ => by
  obtain ⟨Ca, m1, T1, nof, n0, n9, mk⟩ := o.fx.ex C ns hx
  have hst := okEs_star he
  simp only [List.all_cons, Bool.and_eq_true] at hst
  have hK := o.ok.inn.K
  have hm := o.ok.inn.mg
  rw [← hK] at T1 nof
  rw [← hm] at m1
  have pmk := mk X o.ok.inn o.ok.calm x xs _ p pos ((s_Es es o.ok _ he).1 Z) hg hd hst.1 hst.2
  refine (ps_raise o.ok.calm o.ok.tk pmk).run pins s σ H E I ?_
  show tL X.K X.mg Z W (wEs T es) σ H _
  refine kr.go (rel := rL X.K X.mg) S hw fun ds ρ1 Hs1 H1 vs ⟨hl, q⟩ S1 e1 rr => ?_
  have rr : Reps X.K X.mg Hs1 vs ds := rr
  have lv : vs.length = ns.length := rr.length.trans hl.symm
  refine ⟨by omega, fun a ha => ⟨a, vs ++ [], rfl, by simpa using lv, n0, n9, T1, nof, upd_same, fun dx hdx ne => ⟨rfl, dx, (ns.zip vs).reverse, upd_same, by rw [upd_ne ne, upd_same, List.append_nil], ?_, ?_⟩⟩⟩
  · rw [upd_ne ne] at hdx; exact hdx
  · have hd1 : H1 dx = none := by rw [upd_ne ne] at hdx; exact hdx
    have eH : upd (del (upd (upd (upd H1 a (exo a Ca none)) dx (exd dx (ns.zip (vs ++ [])).reverse)) a (exo a Ca (some dx))) a) dx (.xd (ns.zip vs).reverse) = upd H1 dx (.xd (ns.zip vs).reverse) := by
      funext b
      by_cases h1 : b = dx
      · subst h1; rw [upd_same, upd_same]
      · rw [upd_ne h1, upd_ne h1]
        by_cases h2 : b = a
        · subst h2; rw [del_same, ha]
        · rw [del_ne h2, upd_ne h2, upd_ne h1, upd_ne h2]
    rw [eH]
    refine kr.R _ σ ρ1 Hs1 _ _ _ q (S1.loose hd1) e1 ⟨Ca, dx, ns.reverse, vs.reverse, ds.reverse, m1, rfl, rfl, ?_, by simp [lv], zip_reverse hl, rr.reverse⟩
    rw [upd_same, zip_reverse lv.symm]⟩
theorem putF_zip {mg : Mg} {Hs : Hp} {f : Str} {v : V} {d : D} (r : Rep K mg Hs v d) : ∀ {ks : List Str} {vs : List V} {ds : List D}, ks.length = vs.length → Reps K mg Hs vs ds →
    ∃ (ks' : List Str) (vs' : List V) (ds' : List D), putF f v (ks.zip vs) = ks'.zip vs' ∧ putFD f d (ks.zip ds) = ks'.zip ds' ∧ ks'.length = vs'.length ∧ Reps K mg Hs vs' ds'
  | [], [], [], _, .nil => ⟨[f], [v], [d], rfl, rfl, rfl, .cons r .nil⟩
  | k :: ks, v0 :: vs, d0 :: ds, hl, .cons r0 rs => by
    by_cases e : k = f
    · exact ⟨k :: ks, v :: vs, d :: ds, by simp [putF, e], by simp [putFD, e], by simpa using hl, .cons r rs⟩
    · obtain ⟨ks', vs', ds', e1, e2, e3, e4⟩ := putF_zip (f := f) r (Nat.succ.inj hl) rs
      exact ⟨k :: ks', v0 :: vs', d0 :: ds', by simp [putF, e, e1], by simp [putFD, e, e2], by simp [e3], .cons r0 e4⟩
theorem js_st (o : OkS P w K mg base k T X W) {i : Nat} {t x : Expr} {f : Str} {p pos : Pos} {we : WE} (hn : okName X.N X.env.scope i t = true) (he : JE X W x we) (hc : noComp x = true) :
    JS X W (.Assign [.Attribute t f p] x pos) (fun k => we (fun d ρ1 => ∃ C fs, ρ1.at i = .mk C fs ∧ (C, f) ∈ T.ats ∧ fs.length < 1000 ∧ k.nx (ρ1.set i (.mk C (putFD f d fs)))) k.R) := fun Z => ⟨fun pins s σ H E I ⟨Hs, ρ, kk, S, hw, kr⟩ => by
  refine (ps_fld (j_pk (W := W) hn Z) (he Z) (no_swap hc)).run pins s σ H E I ?_
  refine kr.go S hw fun d ρ1 Hs1 H1 v ⟨C, fs, em, ha, hz, q⟩ S1 e1 rv => ?_
  refine ⟨Hs1, ρ1, S1, fun l ρ2 => l = .inr i ∧ ρ2 = ρ1, fun _ _ => False, ⟨by rw [em]; rfl, rfl, rfl⟩, ?_, fun c ρ' Hs' H' cls a r _ _ _ => r.elim⟩
  rintro l ρ2 Hs2 H2 a ⟨rfl, rfl⟩ S2 e2 ra
  have hv : σ.getD i none = some a := ra
  have sl := S2.sl i
  rw [em] at sl
  obtain ⟨b, Ca, dx, ks, vs, ds, h1, h2, h3, h4, h5, rfl, h7⟩ := sl
  rw [hv] at h1
  obtain rfl := Option.some.inj h1
  obtain ⟨Cb, m1, m2, m3⟩ := o.ok.fine.ca C f ha
  have hK := o.ok.inn.K
  have hm := o.ok.inn.mg
  rw [hm] at h4
  rw [m1] at h4
  obtain rfl := Value.ref.inj (Option.some.inj h4)
  obtain ⟨ks', vs', ds', g1, g2, g3, g4⟩ := putF_zip (f := f) (Rep.mono e2 rv) h5 h7
  refine ⟨b, _, dx, ks.zip vs, rfl, h3, by rw [hK]; exact m2, by rw [hK]; exact m3, ?_, ?_⟩
  · have l7 := h7.length
    rw [List.length_zip] at hz ⊢
    omega
  · refine kr.nx σ _ Hs2 _ q (S2.write (i := i) ⟨hv, by rw [em]; rfl⟩ ⟨b, _, dx, ks', vs', ds', rfl, h2, by rw [upd_same, g1], by rw [hm]; exact m1, g3, g2, g4⟩ rfl (by rw [em]; rfl)) (e1.trans e2)⟩
end
end EV
set_option Elab.async false
set_option linter.all false
set_option maxRecDepth 100000
set_option maxHeartbeats 4000000
/-! EV16: every statement; every def. -/
namespace EV
open PySem PySem.Spec PyProof.Rows L2
section
variable {P : Program} {w : World} {K : PySem.W.Frag} {mg : Mg} {base : Heap} {k : Nat} {T : Tb} {X : Cx} {W : WX}
mutual
theorem s_S (o : OkS P w K mg base k T X W) : ∀ (s : S) (x : Stmt), okS X.N X.env.scope s x = true → JS X W x (wS T s)
  | .asg t e, x, h => by
    simp only [okS] at h
    split at h
    · rename_i tg v p
      simp only [Bool.and_eq_true] at h
      obtain ⟨⟨⟨h1, h2⟩, h3⟩, h4⟩ := h
      exact js_asg o h1 (s_E e o.ok _ h2).1 h3 h4
    · cases h
  | .own i f, x, h => by
    simp only [okS] at h
    split at h
    · rename_i y py v p
      simp only [Bool.and_eq_true, Bool.not_eq_true', Bool.or_eq_true] at h
      obtain ⟨⟨⟨h1, h2⟩, h3⟩, h4⟩ := h
      have jf := (s_F f false (fun e => by rw [h3] at e; cases e) o.ok _ h2).1
      rcases h4 with h4 | ⟨h4, hcf⟩
      · exact js_own o h1 jf h4
      · obtain ⟨y', p', e, hy, _⟩ := nm_of h1
        cases e
        have q := h4
        unfold lcSw at q
        split at q
        · cases f with
          | comp vs t it c e =>
            simp only [okF] at h2
            simp only [Bool.and_eq_true] at h2
            obtain ⟨⟨⟨⟨g1, g2⟩, g3⟩, g4⟩, g5⟩ := h2
            have ji := s_IT it o.ok _ _ g3
            exact js_ownC o hy h4 g1 g2 ji.1 ji.2 (fun Y oY n1 n2 => (s_OE c oY).2 _ (by rw [n1, n2]; exact g4)) (fun Y oY n1 n2 => (s_E e oY _ (by rw [n1, n2]; exact g5)).1)
          | _ => cases hcf
        · cases q
    · cases h
  | .par is rs, x, h => by
    simp only [okS] at h
    split at h
    · simp only [Bool.and_eq_true, decide_eq_true_eq] at h
      obtain ⟨⟨⟨⟨h1, h2⟩, h3⟩, h4⟩, h5⟩ := h
      split at h5
      · rename_i hk
        simp only [Bool.and_eq_true, decide_eq_true_eq] at h5
        exact js_parS o h1 h2 h4 hk h5.1 h5.2
      · rename_i hk
        exact js_parU o h1 h3 h4 hk
      · cases h5
    · cases h
  | .put i a e, x, h => by
    simp only [okS] at h
    split at h
    · simp only [Bool.and_eq_true] at h
      obtain ⟨⟨⟨⟨h1, h2⟩, h3⟩, h4⟩, h5⟩ := h
      exact js_put o h1 (s_A a o.ok _ h2) h3 (s_E e o.ok _ h4).1 h5
    · cases h
  | .ex e, x, h => by
    simp only [okS] at h
    split at h
    · simp only [Bool.and_eq_true] at h
      exact js_ex o (s_E e o.ok _ h.1).1 h.2
    · cases h
  | .ret e, x, h => by
    simp only [okS] at h
    split at h
    · exact js_ret (s_E e o.ok _ h).1
    · cases h
  | .retF f, x, h => by
    simp only [okS] at h
    split at h
    · simp only [Bool.and_eq_true, Bool.not_eq_true'] at h
      exact js_retF (s_F f false (fun e => by rw [h.2] at e; cases e) o.ok _ h.1).1
    · cases h
  | .pen i f, x, h => by
    simp only [okS] at h
    split at h
    · simp only [Bool.and_eq_true, Bool.not_eq_true', decide_eq_true_eq] at h
      obtain ⟨⟨⟨⟨h1, h2⟩, h3⟩, h4⟩, h5⟩ := h
      exact js_pen o h1 (s_F f false (fun e => by rw [h3] at e; cases e) o.ok _ h2).1 h4 h5
    · cases h
  | .retN, x, h => by
    simp only [okS] at h
    split at h
    · exact js_retN
    · cases h
  | .iff c a b, x, h => by
    simp only [okS] at h
    split at h
    · simp only [Bool.and_eq_true] at h
      obtain ⟨⟨h1, h2⟩, h3⟩ := h
      exact js_if (s_E c o.ok _ h1).2 (s_Ss o a _ h2) (s_Ss o b _ h3)
    · cases h
  | .whl c b, x, h => by
    simp only [okS] at h
    split at h
    · simp only [Bool.and_eq_true] at h
      exact js_whl o (s_E c o.ok _ h.1).2 (s_Ss o b _ h.2)
    · cases h
  | .fr vs t it b, x, h => by
    simp only [okS] at h
    split at h
    · simp only [Bool.and_eq_true] at h
      obtain ⟨⟨h1, h2⟩, h3⟩ := h
      have ji := s_IT it o.ok _ _ h2
      exact js_fr o h1 ji.1 ji.2 (s_Ss o b _ h3)
    · cases h
  | .brk, x, h => by
    simp only [okS] at h
    split at h
    · exact js_brk
    · cases h
  | .cnt, x, h => by
    simp only [okS] at h
    split at h
    · exact js_cnt
    · cases h
  | .pas, x, h => by
    simp only [okS] at h
    split at h
    · exact js_pas
    · cases h
  | .st i f e, x, h => by
    simp only [okS] at h
    split at h
    · simp only [Bool.and_eq_true, decide_eq_true_eq] at h
      obtain ⟨⟨⟨rfl, h2⟩, h3⟩, h4⟩ := h
      exact js_st o h2 (s_E e o.ok _ h3).1 h4
    · cases h
  | .rse C es, x, h => by
    simp only [okS] at h
    split at h
    · simp only [Bool.and_eq_true, decide_eq_true_eq, Bool.not_eq_true'] at h
      obtain ⟨⟨⟨rfl, h2⟩, h3⟩, h4⟩ := h
      exact js_rse o h2 h3 h4
    · cases h
theorem s_Ss (o : OkS P w K mg base k T X W) : ∀ (ss : Ss) (xs : List Stmt), okSs X.N X.env.scope ss xs = true → JSs X W xs (wSs T ss)
  | .nil, xs, h => by
    cases xs with
    | nil => exact jss_nil
    | cons x r => simp [okSs] at h
  | .cons s ss, xs, h => by
    cases xs with
    | nil => simp [okSs] at h
    | cons x r =>
      simp only [okSs, Bool.and_eq_true] at h
      exact jss_cons (w1 := wS T s) (w2 := wSs T ss) (s_S o s x h.1) (s_Ss o ss r h.2)
end

/-! ### defs -/
/-- the first n slots -/
def tk (n : Nat) (ρ : En) : List Slot := (List.range n).map ρ.at
theorem tk_len (n : Nat) (ρ : En) : (tk n ρ).length = n := by simp [tk]
theorem tk_get {n i : Nat} {ρ : En} (h : i < n) : (tk n ρ).getD i .un = ρ.at i := by
  unfold tk
  rw [List.getD_eq_getElem?_getD, List.getElem?_map, List.getElem?_range h]; rfl
def wEnd (n : Nat) (Qd : D → List Slot → Prop) (R : Exc → List Slot → Prop) : WK :=
  { nx := fun ρ => Qd .non (tk n ρ), rt := fun d ρ => Qd d (tk n ρ), R := fun c ρ => R c (tk n ρ) }
/-- the slots at a def's entry -/
def wIn (m : Nat) (ss : List Slot) : En := ss ++ List.replicate (m - ss.length) .un
def pinsOf (vs : List V) (ss : List Slot) : List (Nat × Addr) := (List.range vs.length).filterMap fun i => match vs[i]? with
  | some (V.ref a) => if (ss.getD i .un).owned = true then some (i, a) else none
  | _ => none
theorem mem_pins {vs : List V} {ss : List Slot} {q : Nat × Addr} : q ∈ pinsOf vs ss ↔ vs[q.1]? = some (.ref q.2) ∧ (ss.getD q.1 .un).owned = true := by
  unfold pinsOf
  rw [List.mem_filterMap]
  constructor
  · rintro ⟨i, _, h⟩
    split at h
    · rename_i a e
      split at h
      · cases h; exact ⟨e, by assumption⟩
      · cases h
    · cases h
  · rintro ⟨h1, h2⟩
    refine ⟨q.1, List.mem_range.mpr ?_, ?_⟩
    · exact (List.getElem?_eq_some_iff.mp h1).1
    · rw [h1]
      simp only
      rw [if_pos h2]
theorem in_at {m i : Nat} {ss : List Slot} : (wIn m ss).at i = ss.getD i .un := by
  unfold wIn En.at
  rw [List.getD_eq_getElem?_getD, List.getD_eq_getElem?_getD]
  by_cases h : i < ss.length
  · rw [List.getElem?_append_left h]
  · rw [List.getElem?_append_right (by omega), List.getElem?_eq_none (l := ss) (by omega)]
    rw [List.getElem?_replicate]
    split <;> rfl
theorem start_at {N : List Str} {vs : List V} {i : Nat} (h : i < vs.length) : (L2.start N vs).getD i none = vs[i]? := by
  unfold L2.start
  rw [List.getD_eq_getElem?_getD, List.getElem?_append_left (by simpa using h), List.getElem?_map]
  rw [List.getElem?_eq_getElem h]; rfl
theorem start_over {N : List Str} {vs : List V} {i : Nat} (h : ¬ i < vs.length) : (L2.start N vs).getD i none = none := by
  unfold L2.start
  rw [List.getD_eq_getElem?_getD, List.getElem?_append_right (by simp; omega), List.getElem?_replicate]
  split <;> rfl
theorem sr_start {N : List Str} {Hs H : Hp} {vs : List V} {ss : List Slot} (hl : vs.length = ss.length) (e : Same Hs H) (sl : ∀ i, i < vs.length → SlotR K mg Hs H vs[i]? (ss.getD i .un)) (lo : ∀ i, i < vs.length → (ss.getD i .un).owned = (ss.getD i .un).lent)
    (sep : ∀ i j a, vs[i]? = some (.ref a) → vs[j]? = some (.ref a) → (ss.getD i .un).owned = true → (ss.getD j .un).owned = true → i = j) (nt : ss.all (fun s => !s.isTb) = true) :
    SR K mg ⟨H, Hs, pinsOf vs ss⟩ Hs H (L2.start N vs) (wIn N.length ss) := by
  have ow : ∀ i a, Owns (L2.start N vs) (wIn N.length ss) i a → i < vs.length ∧ vs[i]? = some (.ref a) ∧ (ss.getD i .un).owned = true := fun i a ⟨h1, h2⟩ => by
    rw [in_at] at h2
    by_cases c : i < vs.length
    · rw [start_at c] at h1; exact ⟨c, h1, h2⟩
    · rw [start_over c] at h1; cases h1
  refine ⟨e, Same.refl _, fun a o h _ => h, fun a h => h, fun a h => .inl h, ?_, fun i => ?_, fun i j a h1 h2 => ?_, fun i a h => ?_, fun q hq => ?_, fun i P q e => ?_⟩
  · unfold L2.start wIn; simp [hl]
  · rw [in_at]
    by_cases c : i < vs.length
    · rw [start_at c]; exact sl i c
    · have e0 : ss.getD i .un = .un := by rw [List.getD_eq_getElem?_getD, List.getElem?_eq_none (by omega)]; rfl
      rw [e0]; trivial
  · obtain ⟨_, a1, a2⟩ := ow i a h1
    obtain ⟨_, b1, b2⟩ := ow j a h2
    exact sep i j a a1 b1 a2 b2
  · obtain ⟨_, a1, a2⟩ := ow i a h
    exact .inr (List.mem_map.mpr ⟨(i, a), mem_pins.mpr ⟨a1, a2⟩, rfl⟩)
  · obtain ⟨h1, h2⟩ := mem_pins.mp hq
    have c := (List.getElem?_eq_some_iff.mp h1).1
    rw [in_at, start_at c]
    exact ⟨h1, by rw [← lo q.1 c]; exact h2⟩
  · rw [in_at] at e
    rw [List.getD_eq_getElem?_getD] at e
    cases z : ss[i]? with
    | none => rw [z] at e; cases e
    | some t =>
      rw [z] at e
      have m := List.all_eq_true.mp nt t (List.mem_of_getElem? z)
      have e : t = .tb P q := e
      rw [e] at m
      cases m
theorem sr_end {N : List Str} {Hs H Hs' H' : Hp} {σ' : L2.St} {ρ' : En} {vs : List V} {ss : List Slot} (hl : vs.length = ss.length) (S : SR K mg ⟨H, Hs, pinsOf vs ss⟩ Hs' H' σ' ρ') :
    (∀ a o, H a = some o → (∀ i, vs[i]? = some (.ref a) → (ss.getD i .un).owned = false) → H' a = some o) ∧
    ∀ i, i < vs.length → (ss.getD i .un).owned = true → SlotR K mg Hs H vs[i]? (ss.getD i .un) → ((tk ss.length ρ').getD i .un).lent = true ∧ SlotR K mg Hs' H' vs[i]? ((tk ss.length ρ').getD i .un) := by
  refine ⟨fun a o h hn => S.h0 a o h fun m => ?_, fun i c ho hs => ?_⟩
  · obtain ⟨q, hq, e⟩ := List.mem_map.mp m
    obtain ⟨h1, h2⟩ := mem_pins.mp hq
    rw [e] at h1
    rw [hn q.1 h1] at h2; cases h2
  · obtain ⟨a, h1, _, _⟩ := hs.owns ho
    have hq : (i, a) ∈ pinsOf vs ss := mem_pins.mpr ⟨h1, ho⟩
    obtain ⟨p1, p2⟩ := S.pin _ hq
    rw [tk_get (by omega)]
    refine ⟨p2, ?_⟩
    have sl := S.sl i
    rw [p1] at sl
    rw [h1]; exact sl
/-- a def by its body's meaning -/
theorem fn_sound {N ps : List Str} {name qual : Str} {params : Arguments} {body : List Stmt} {scope : Scope} {f : Addr} {fd : FuncData} {ss : Ss} {F0 : FS}
    (F : FunD K name qual params body scope [] [] f fd) (S : FnScope N ps scope) (fine : Fine P w K mg base k T) (fx : FineX P w K mg base k T) (hlm : T.lmk = false) (hok : okSs N scope ss body = true)
    (hF : ∀ sl Qd R, F0 sl Qd R → sl.length = ps.length ∧ sl.all (fun s => !s.isTb) = true ∧ wSs T ss (wEnd ps.length Qd R) (wIn N.length sl)) : FnG P w K mg base (k + 1) f fd ps (spF K mg F0) := by
  refine fnG_of F S (fun vs H Q E ⟨Hs, sl, Qd, R, _, h2, _, _, _, h6, _⟩ => h2.trans (hF sl Qd R h6).1) ?_
  rintro cdv A outer s H vs Q E _ hr hg ⟨Hs, sl, Qd, R, h1, h2, h3, h4, h5, h6, h7, h8⟩
  obtain ⟨hl, hnt, hw⟩ := hF sl Qd R h6
  have ok : OkS P w K mg base k T (cxOf (L2.CX P w) P w K mg base N qual scope f cdv A outer s H E) (fun cls d _ H => E cls d H) :=
    ⟨⟨⟨rfl, rfl, rfl, rfl, rfl, hr, deeper_guards hg⟩, fine, takes_of (E := E) (E₁ := fun e' s'' => L2.CX P w outer H s E e' s'') rfl rfl rfl rfl, rfl, S.nd, fun e => by rw [hlm] at e; cases e⟩, fx, passes_of (K := L2.CX P w outer H s E) (E₁ := fun e' s'' => L2.CX P w outer H s E e' s'') rfl, fun _ _ => rfl⟩
  refine ⟨_, s_Ss ok ss body hok ⟨H, Hs, pinsOf vs sl⟩, Hs, wIn N.length sl, wEnd ps.length Qd R, sr_start h2 h1 h3 h4 h5 hnt, hw, ?_⟩
  rw [← hl]
  have fin : ∀ {Hs' H' σ' ρ'}, SR K mg ⟨H, Hs, pinsOf vs sl⟩ Hs' H' σ' ρ' → _ := fun {Hs' H' σ' ρ'} S' => sr_end (N := N) h2 S'
  refine ⟨fun σ' ρ' Hs' H' a b c => ?_, fun d σ' ρ' Hs' H' v a b c r => ?_, fun x σ' ρ' Hs' H' cls e a b c r => ?_, fun _ _ _ _ a _ _ => a.elim, fun _ _ _ _ a _ _ => a.elim, fun _ _ _ _ _ _ a _ _ _ => a.elim⟩
  · obtain ⟨f1, f2⟩ := fin b
    exact h7 _ _ Hs' H' .non a c b.sub f1 b.dom b.new (tk_len _ _) (fun i hi ho => f2 i hi ho (h3 i hi)) .non
  · obtain ⟨f1, f2⟩ := fin b
    exact h7 _ _ Hs' H' v a c b.sub f1 b.dom b.new (tk_len _ _) (fun i hi ho => f2 i hi ho (h3 i hi)) r
  · obtain ⟨f1, f2⟩ := fin b
    exact h8 _ _ Hs' H' cls e a c b.sub f1 b.dom b.new (tk_len _ _) (fun i hi ho => f2 i hi ho (h3 i hi)) r
def wEndF (n : Nat) (Qd : D → List Slot → Prop) (R : Exc → List Slot → Prop) : WK :=
  { nx := fun _ => False, rt := fun _ _ => False, R := fun c ρ => R c (tk n ρ), rf := fun d ρ => d.isM = true ∧ Qd d (tk n ρ) }
/-- a def that gives a new list or dict -/
theorem fn_soundF {N ps : List Str} {name qual : Str} {params : Arguments} {body : List Stmt} {scope : Scope} {f : Addr} {fd : FuncData} {ss : Ss} {F0 : FS}
    (F : FunD K name qual params body scope [] [] f fd) (S : FnScope N ps scope) (fine : Fine P w K mg base k T) (fx : FineX P w K mg base k T) (hlm : T.lmk = false) (hok : okSs N scope ss body = true)
    (hF : ∀ sl Qd R, F0 sl Qd R → sl.length = ps.length ∧ sl.all (fun s => !s.isTb) = true ∧ wSs T ss (wEndF ps.length Qd R) (wIn N.length sl)) : FnG P w K mg base (k + 1) f fd ps (spFr K mg F0) := by
  refine fnG_of F S (fun vs H Q E ⟨Hs, sl, Qd, R, _, h2, _, _, _, h6, _⟩ => h2.trans (hF sl Qd R h6).1) ?_
  rintro cdv A outer s H vs Q E _ hr hg ⟨Hs, sl, Qd, R, h1, h2, h3, h4, h5, h6, h7, h8⟩
  obtain ⟨hl, hnt, hw⟩ := hF sl Qd R h6
  have ok : OkS P w K mg base k T (cxOf (L2.CX P w) P w K mg base N qual scope f cdv A outer s H E) (fun cls d _ H => E cls d H) :=
    ⟨⟨⟨rfl, rfl, rfl, rfl, rfl, hr, deeper_guards hg⟩, fine, takes_of (E := E) (E₁ := fun e' s'' => L2.CX P w outer H s E e' s'') rfl rfl rfl rfl, rfl, S.nd, fun e => by rw [hlm] at e; cases e⟩, fx, passes_of (K := L2.CX P w outer H s E) (E₁ := fun e' s'' => L2.CX P w outer H s E e' s'') rfl, fun _ _ => rfl⟩
  refine ⟨_, s_Ss ok ss body hok ⟨H, Hs, pinsOf vs sl⟩, Hs, wIn N.length sl, wEndF ps.length Qd R, sr_start h2 h1 h3 h4 h5 hnt, hw, ?_⟩
  rw [← hl]
  have fin : ∀ {Hs' H' σ' ρ'}, SR K mg ⟨H, Hs, pinsOf vs sl⟩ Hs' H' σ' ρ' → _ := fun {Hs' H' σ' ρ'} S' => sr_end (N := N) h2 S'
  refine ⟨fun _ _ _ _ a _ _ => a.elim, fun _ _ _ _ _ _ a _ _ _ => a.elim, fun x σ' ρ' Hs' H' cls e a b c r => ?_, fun _ _ _ _ a _ _ => a.elim, fun _ _ _ _ a _ _ => a.elim, fun d σ' ρ' Hs' H' v ⟨m, a⟩ b c r => ?_⟩
  · obtain ⟨f1, f2⟩ := fin b
    exact h8 _ _ Hs' H' cls e a c b.sub f1 b.dom b.new (tk_len _ _) (fun i hi ho => f2 i hi ho (h3 i hi)) r
  · obtain ⟨f1, f2⟩ := fin b
    refine h7 _ _ Hs' H' v a c b.sub f1 b.dom b.new (tk_len _ _) (fun i hi ho => f2 i hi ho (h3 i hi)) ?_
    rcases r.1 with z | ⟨a, e1, e2, e3, e4, e5⟩
    · exact absurd z (r.2 rfl m)
    · exact ⟨a, e1, e2, e3, e5⟩
end
end EV
set_option Elab.async false
set_option linter.all false
set_option maxRecDepth 100000
set_option maxHeartbeats 4000000
/-! EV17: classes that an __init__ makes, as callables over data. -/
namespace EV
open PySem PySem.Spec PyProof.Rows L2
/-- C(..): its __init__ starts with no fields; what it leaves are the fields -/
def FCls (C : Str) (F0 : FS) : FS := fun ss Qd R => F0 (.mk C [] :: ss) (fun d ss' => d = .non ∧ ∃ fs tl, ss' = .mk C fs :: tl ∧ Qd (.obj C fs) tl) (fun c ss' => ∃ s tl, ss' = s :: tl ∧ R c tl)
section
variable {P : Program} {w : World} {K : PySem.W.Frag} {mg : Mg} {base : Heap} {k : Nat}
theorem make_imp {C : Str} {Ca : Addr} {F0 : FS} (hm : mg C = some (.ref Ca)) {vs : List V} {H : Hp} {Q : VK} {E : XK} (h : spF K mg (FCls C F0) vs H Q E) : spMake Ca (spF K mg F0) vs H Q E := by
  obtain ⟨Hs, ss, Qd, R, h1, h2, h3, h4, h5, h6, h7, h8⟩ := h
  intro x dx hx hdx ne
  have sx : Hs x = none := by
    cases e : Hs x with
    | none => rfl
    | some u => rw [h1 _ _ e] at hx; cases hx
  have old : ∀ a, H a ≠ none → upd (upd H dx (.own x)) x (.ins Ca dx []) a = H a := fun a ha => by
    have n1 : a ≠ x := fun z => by subst z; exact ha hx
    have n2 : a ≠ dx := fun z => by subst z; exact ha hdx
    rw [upd_ne n1, upd_ne n2]
  have own : ∀ i a, i < vs.length → vs[i]? = some (.ref a) → (ss.getD i .un).owned = true → H a ≠ none := fun i a hi hv ho => by
    obtain ⟨b, e1, _, e2⟩ := (h3 i hi).owns ho
    rw [hv] at e1
    obtain rfl := V.ref.inj (Option.some.inj e1)
    exact e2
  have keepH : ∀ {H2 : Hp}, (∀ a o, upd (upd H dx (.own x)) x (.ins Ca dx []) a = some o → (∀ i, (V.ref x :: vs)[i]? = some (.ref a) → ((Slot.mk C [] :: ss).getD i .un).owned = false) → H2 a = some o) →
      ∀ a o, H a = some o → (∀ i, vs[i]? = some (.ref a) → (ss.getD i .un).owned = false) → H2 a = some o := fun kp a o e hn => by
    refine kp a o (by rw [old a (by rw [e]; simp)]; exact e) fun i hi => ?_
    cases i with
    | zero =>
      have : x = a := V.ref.inj (Option.some.inj hi)
      subst this
      rw [hx] at e; cases e
    | succ i => exact hn i (by simpa using hi)
  refine ⟨Hs, .mk C [] :: ss, _, _, fun a u e => ?_, by simp [h2], fun i hi => ?_, fun i hi => ?_, fun i j a hi hj oi oj => ?_, h6, ?_, ?_⟩
  · rw [old a (by rw [h1 _ _ e]; simp)]
    exact h1 _ _ e
  · cases i with
    | zero => exact ⟨x, Ca, dx, [], [], [], rfl, sx, upd_same, hm, rfl, rfl, .nil⟩
    | succ i =>
      have hi' : i < vs.length := by simpa using hi
      refine (h3 i hi').keep (Same.refl _) (fun b ps e => ⟨by rw [old b (by rw [e]; simp)]; exact e, fun h => h⟩) fun a hv ho => ⟨old a (own i a hi' hv ho), ?_⟩
      obtain ⟨b, e1, e2, _⟩ := (h3 i hi').owns ho
      rw [show vs[i]? = some (V.ref a) by simpa using hv] at e1
      obtain rfl := V.ref.inj (Option.some.inj e1)
      exact e2
  · cases i with
    | zero => rfl
    | succ i => exact h4 i (by simpa using hi)
  · cases i with
    | zero =>
      cases j with
      | zero => rfl
      | succ j =>
        have ex : x = a := V.ref.inj (Option.some.inj hi)
        subst ex
        have hj' : vs[j]? = some (.ref x) := by simpa using hj
        exact absurd hx (own j x (List.getElem?_eq_some_iff.mp hj').1 hj' oj)
    | succ i =>
      cases j with
      | zero =>
        have ex : x = a := V.ref.inj (Option.some.inj hj)
        subst ex
        have hi' : vs[i]? = some (.ref x) := by simpa using hi
        exact absurd hx (own i x (List.getElem?_eq_some_iff.mp hi').1 hi' oi)
      | succ j => exact congrArg Nat.succ (h5 i j a (by simpa using hi) (by simpa using hj) oi oj)
  · rintro d ss' Hs' H2 v ⟨rfl, fs, tl, rfl, q⟩ e1 e2 kp dm nw ln sl rv
    cases rv
    refine ⟨rfl, ?_⟩
    obtain ⟨_, a, Cb, dx', ks, ws, ds, g1, g2, g3, g4, g5, rfl, g7⟩ := sl 0 (by simp) rfl
    have ex : x = a := V.ref.inj (Option.some.inj g1)
    subst ex
    rw [hm] at g4
    obtain rfl := Value.ref.inj (Option.some.inj g4)
    have gr : Same Hs' (upd Hs' x (.ins Ca dx' (ks.zip ws))) := fun c u e => by rw [upd_ne (ne_of_none e g2)]; exact e
    refine h7 _ tl (upd Hs' x (.ins Ca dx' (ks.zip ws))) H2 (.ref x) q (e1.trans gr) (fun b u e => ?_) (keepH kp) (fun a ha => dm a (by rw [old a ha]; exact ha)) (fun a ha => ?_) (by simpa using ln) (fun i hi ho => ?_) (.obj upd_same g5 hm (g7.mono gr))
    · by_cases hb : b = x
      · subst hb; rw [upd_same] at e; rw [g3]; exact e
      · rw [upd_ne hb] at e; exact e2 _ _ e
    · by_cases hb : a = x
      · subst hb; exact .inr hx
      · rw [upd_ne hb] at ha
        rcases nw a ha with z | z
        · exact .inl z
        · rw [upd_ne hb] at z
          by_cases hb2 : a = dx
          · subst hb2; exact .inr hdx
          · rw [upd_ne hb2] at z; exact .inr z
    · obtain ⟨l1, l2⟩ := sl (i + 1) (by simpa using hi) ho
      refine ⟨l1, l2.keep gr (KX.still g3 rfl) fun a hv ho' => ⟨rfl, ?_⟩⟩
      obtain ⟨b, k1, k2, _⟩ := l2.owns ho'
      have hv' : vs[i]? = some (.ref a) := by simpa using hv
      have k1' : vs[i]? = some (.ref b) := by simpa using k1
      rw [hv'] at k1'
      obtain rfl := V.ref.inj (Option.some.inj k1')
      rw [upd_ne fun z => own i a hi hv' ho (by rw [z]; exact hx)]
      exact k2
  · rintro c ss' Hs' H2 cls b ⟨s0, tl, rfl, q⟩ e1 e2 kp dm nw ln sl rv
    refine h8 c tl Hs' H2 cls b q e1 e2 (keepH kp) (fun a ha => dm a (by rw [old a ha]; exact ha)) (fun a ha => ?_) (by simpa using ln) (fun i hi ho => ?_) rv
    · rcases nw a ha with z | z
      · exact .inl z
      · by_cases hb : a = x
        · subst hb; exact .inr hx
        · rw [upd_ne hb] at z
          by_cases hb2 : a = dx
          · subst hb2; exact .inr hdx
          · rw [upd_ne hb2] at z; exact .inr z
    · obtain ⟨l1, l2⟩ := sl (i + 1) (by simpa using hi) ho
      exact ⟨l1, by simpa using l2⟩
/-- a class, by its __init__ -/
theorem cls_sound {C : Str} {Ca f : Addr} {fd : FuncData} {ps : List Str} {F0 : FS} (M : Mk K Ca f) (F : FnG P w K mg base k f fd ps (spF K mg F0)) (hb : Binds K fd ps []) (hm : mg C = some (.ref Ca)) : Cal P w K mg base (k + 1) (.ref Ca) (spF K mg (FCls C F0)) :=
  (F.make M hb).imp fun _ _ _ _ h => make_imp hm h
end
end EV
set_option Elab.async false
set_option linter.all false
set_option maxRecDepth 100000
set_option maxHeartbeats 4000000
/-! EV18: what a head must tell of classes and exceptions, as Bools over the fragment. -/
namespace EV
open PySem PySem.Spec PyProof.Rows L2
def oexB (K : PySem.W.Frag) (C : Addr) : Bool := (match K.lookup C with
  | some ⟨.type "type", _, .cls cd, sl⟩ => (match cd.mro, sl.toList with
    | .ref C' :: bm, [_, _, _, _, some (.builtin n), _] => C' == C && n == "ValueError.__new__" && !cd.hasDel && cd.hasDict && PySem.HandSPX.refsVE bm
    | _, _ => false)
  | _ => false) && He.eqO (PySem.W.findIn K (.ref C) "__setattr__") (some (some (.builtin "object.__setattr__"))) && decide (PySem.W.subIn K (.ref C) (.type "BaseException") = some true) && decide (PySem.W.typeIn K (.ref C) = some (.type "type")) && PySem.W.keepIn K (.ref C)
theorem oexB_ok {K : PySem.W.Frag} {C : Addr} (h : oexB K C = true) : OexC K C := by
  unfold oexB at h
  simp only [Bool.and_eq_true, decide_eq_true_eq] at h
  obtain ⟨⟨⟨⟨h1, h2⟩, h3⟩, h4⟩, h5⟩ := h
  refine ⟨?_, He.eqO_ok h2, h3, h4, h5⟩
  split at h1
  · rename_i dd cd sl ho
    split at h1
    · rename_i C' bm k0 k1 k2 k3 n k5 hm hs
      simp only [Bool.and_eq_true, beq_iff_eq, Bool.not_eq_true'] at h1
      obtain ⟨⟨⟨⟨rfl, rfl⟩, g3⟩, g4⟩, g5⟩ := h1
      obtain ⟨nm, bs, mro, nsp, q, hd, sn, sub, ab, col, del⟩ := cd
      simp only at hm g3 g4
      subst hm g3 g4
      have es : sl = #[k0, k1, k2, k3, some (.builtin "ValueError.__new__"), k5] := Array.toList_inj.mp (by rw [hs])
      subst es
      exact ⟨nm, q, nsp, bs, bm, sn, sub, ab, col, dd, k0, k1, k2, k3, k5, ho, g5⟩
    · cases h1
  · cases h1
def iniB (K : PySem.W.Frag) (C : Addr) : Bool := He.eqO (PySem.W.findIn K (.ref C) "__init__") (some (some (.ref (He.ma K C "__init__")))) && decide (PySem.W.typeIn K (.ref (He.ma K C "__init__")) = some (.type "function"))
theorem iniB_ok {K : PySem.W.Frag} {C : Addr} (h : iniB K C = true) : PySem.W.findIn K (.ref C) "__init__" = some (some (.ref (He.ma K C "__init__"))) ∧ PySem.W.typeIn K (.ref (He.ma K C "__init__")) = some (.type "function") := by
  unfold iniB at h
  simp only [Bool.and_eq_true, decide_eq_true_eq] at h
  exact ⟨He.eqO_ok h.1, h.2⟩
def basB (K : PySem.W.Frag) (C : Addr) : Bool := He.eqO (PySem.W.specialIn K (.ref C) "__getattribute__") (some (some (.builtin "type.__getattribute__"))) && PySem.W.readsIn K C (.type "type") &&
  (match PySem.W.findCls K (.ref C) (.type "type") "__init__" with
    | some (.val (.builtin n)) => n == "ValueError.__init__"
    | _ => false)
theorem basB_ok {K : PySem.W.Frag} {C : Addr} (h : basB K C = true) : BasI K C (.type "type") := by
  unfold basB at h
  simp only [Bool.and_eq_true] at h
  obtain ⟨⟨h1, h2⟩, h3⟩ := h
  refine ⟨He.eqO_ok h1, h2, ?_⟩
  split at h3
  · rename_i n e
    rw [e, beq_iff_eq.mp h3]
  · cases h3
/-- all that is asked of the own exceptions (class, fields), over the base class B -/
def excsB (B : Str) (l : List (Str × List Str)) (K : PySem.W.Frag) : Bool := basB K (He.ga K B) && l.all fun p => oexB K (He.ga K p.1) && iniB K (He.ga K p.1) && xfB K (He.ga K p.1)
/-- the type of an own class's instance is read -/
def insB (K : PySem.W.Frag) (C : Addr) : Bool := He.eqO (PySem.W.findIn K (.ref C) "__class__") (some (some (.builtin "object.__class__"))) && He.eqO (PySem.W.specialIn K (.builtin "object.__class__") "__get__") (some (some (.builtin "getset_descriptor.__get__"))) &&
  decide (PySem.W.takesIn K (.builtin "object.__class__") = some true) && decide (PySem.W.mroIn K C (.type "object") = some true)
theorem insB_ok {K : PySem.W.Frag} {C : Addr} (h : insB K C = true) (c : Cls K C) {H : Hp} {a dx : Addr} {fs : List (Str × V)} (e : H a = some (.ins C dx fs)) : TyX K H (.ref a) (.ref C) := by
  unfold insB at h
  simp only [Bool.and_eq_true, decide_eq_true_eq] at h
  obtain ⟨⟨⟨h1, h2⟩, h3⟩, h4⟩ := h
  exact .base (.ins e c (He.eqO_ok h1) (He.eqO_ok h2) h3 h4)
/-- isinstance with the own classes l -/
def tysB (l : List Str) (K : PySem.W.Frag) : Bool := l.all fun C => insB K (He.ga K C) && (tyNames.all fun n => decide (PySem.W.kitOne K (.ref (He.ga K C)) (.type n) = some false)) && (("NoneType" :: tyNames).all fun n => decide (PySem.W.kitOne K (.type n) (.ref (He.ga K C)) = some false)) &&
  l.all fun C' => decide (PySem.W.kitOne K (.ref (He.ga K C)) (.ref (He.ga K C')) = some (decide (C = C')))
theorem tysB_ok {l : List Str} {K : PySem.W.Frag} (h : tysB l K = true) {C : Str} (hC : C ∈ l) : insB K (He.ga K C) = true ∧ (∀ n ∈ tyNames, PySem.W.kitOne K (.ref (He.ga K C)) (.type n) = some false) ∧ (∀ n ∈ "NoneType" :: tyNames, PySem.W.kitOne K (.type n) (.ref (He.ga K C)) = some false) ∧
    ∀ C' ∈ l, PySem.W.kitOne K (.ref (He.ga K C)) (.ref (He.ga K C')) = some (decide (C = C')) := by
  have q := List.all_eq_true.mp h C hC
  simp only [Bool.and_eq_true, List.all_eq_true, decide_eq_true_eq] at q
  exact ⟨q.1.1.1, q.1.1.2, q.1.2, q.2⟩
theorem excsB_ok {B : Str} {l : List (Str × List Str)} {K : PySem.W.Frag} (h : excsB B l K = true) : BasI K (He.ga K B) (.type "type") ∧ ∀ p ∈ l, OexC K (He.ga K p.1) ∧ (PySem.W.findIn K (.ref (He.ga K p.1)) "__init__" = some (some (.ref (He.ma K (He.ga K p.1) "__init__"))) ∧
    PySem.W.typeIn K (.ref (He.ma K (He.ga K p.1) "__init__")) = some (.type "function")) ∧ XfC K (He.ga K p.1) := by
  unfold excsB at h
  simp only [Bool.and_eq_true, List.all_eq_true] at h
  exact ⟨basB_ok h.1, fun p hp => ⟨oexB_ok (h.2 p hp).1.1, iniB_ok (h.2 p hp).1.2, xfB_ok (h.2 p hp).2⟩⟩

/-! ### the Hook: the defs, the facts, a Bool over the fragment that holds the statics' table too -/
def asC (g : Addr → Option Obj) (n : Nat) : List Addr := He.asD g n ++ [cStatics]
def obsC (n : Nat) (fa : List He.Fa) (fn : List He.DefD) (ex : PySem.W.Frag → Bool) (g : Addr → Option Obj) : He.AlD × Bool := (He.obsD fa fn (He.frG g (asC g n)), ex (He.frG g (asC g n)))
def hookC (n : Nat) (fa : List He.Fa) (fn : List He.DefD) (ex : PySem.W.Frag → Bool) : PySem.W.Hook where
  α := He.AlD × Bool
  obs := fun s => obsC n fa fn ex s.heap.get?
  val := fun _ => (He.valD fn, true)
  says := fun _ h => ∃ K : PySem.W.Frag, K.In h ∧ He.SaysD fa fn K ∧ ex K = true
  of := fun _ _ e => ⟨_, He.frG_in, congrArg Prod.fst e, congrArg Prod.snd e⟩
  keeps := fun _ _ _ ⟨K, hK, c⟩ k => ⟨K, PySem.W.Frag.In.keeps hK k, c⟩
theorem obsC_eq {n : Nat} {fa : List He.Fa} {fn : List He.DefD} {ex : PySem.W.Frag → Bool} {g : Addr → Option Obj} {s : Shared} (h : ∀ a, g a = s.heap.get? a) : obsC n fa fn ex g = (hookC n fa fn ex).obs s := by
  have e : g = s.heap.get? := funext h
  rw [e] <;> rfl
end EV
set_option Elab.async false
set_option linter.all false
set_option maxRecDepth 100000
set_option maxHeartbeats 4000000
/-! EV19: a law's end, its def told by FnG (no guard runs around the claim's caller). -/
namespace EV
open PySem PySem.Spec PyProof.Rows L2
/-- a heap in which at most the script is tracked, as one of the module's own or as a list that nobody writes -/
theorem script_heap {P : Program} {w : World} {K : PySem.W.Frag} {s : Shared} {a : Addr} {us : List Value} {ns : List Int} (KX : K.In s.heap) (ha : s.heap.get? a = some { cls := .type "list", data := .seq us.toArray }) (hi : IntsAre us ns) (hl : ns.length ≤ sizeLine) :
    ∃ H : Hp, Only H ∧ SqL K H a (ns.map V.int) ∧ HOk P w H s.heap ∧ (∀ b, H b ≠ none → b = a ∧ K.lookup b = none) := by
  have rv := vals_ints hi
  cases hk : K.lookup a with
  | some o =>
    have eo := KX a o hk
    rw [ha] at eo
    obtain rfl := Option.some.inj eo
    exact ⟨fun _ => none, fun _ => .inl rfl, .inr ⟨_, us.toArray, _, hk, rfl, rfl, rfl, by rw [List.size_toArray, hi.length]; exact hl, by simpa using rv⟩, (fun b u z => by cases z), fun b z => absurd rfl z⟩
  | none =>
    let L : HO := .frz { cls := .type "list", data := .seq us.toArray } (.lst (ns.map V.int))
    have at_ : ∀ b, upd (fun _ => none) a L b = if b = a then some L else none := fun b => by
      by_cases e : b = a
      · subst e; rw [upd_same, if_pos rfl]
      · rw [upd_ne e, if_neg e]
    refine ⟨upd (fun _ => none) a L, fun b => ?_, .inl (.inr ⟨_, upd_same⟩), fun b u z => ?_, fun b z => ?_⟩
    · by_cases e : b = a
      · subst e; exact .inr ⟨_, _, upd_same⟩
      · exact .inl (upd_ne e)
    · rw [at_] at z
      split at z
      · rename_i e
        subst e
        cases z
        exact ⟨ha, by rw [List.length_map]; exact hl, us, _, rv, ha⟩
      · cases z
    · rw [at_] at z
      split at z
      · rename_i e; subst e; exact ⟨rfl, hk⟩
      · exact absurd rfl z
theorem law_callG {P : Program} {w : World} {K : PySem.W.Frag} {mg mb : Str → Option Value} {k : Nat} {fa a : Addr} {fd : FuncData} {x : Str} {sp : Sp} {s₁ : Shared} {us : List Value} {ns : List Int}
    (KX : K.In s₁.heap) (hns : s₁.heap.Ns mainGlobals mg) (hb : s₁.heap.Ns builtinsNs mb) (hbb : ∀ x : Str, x ≠ "__name__" → mb x = bootBuiltins x) (hlim : s₁.heap.NoLimit) (hg : s₁.gens = #[])
    (ha : s₁.heap.get? a = some { cls := .type "list", data := .seq us.toArray }) (hi : IntsAre us ns) (hl : ns.length ≤ sizeLine) (hr : Room k callerA)
    (F : ∀ base : Heap, K.In base → base.Ns mainGlobals mg → FnG P w K mg base k fa fd [x] sp) (hbind : ∀ (s : Shared) (u : Value), BindsTo s fd ⟨[u], []⟩ [(x, u)])
    (hsp : ∀ H : Hp, Only H → SqL K H a (ns.map V.int) → sp [.ref a] H (fun v _ => v = .bl true) fun _ _ _ => False) :
    codeAny (model P w) callerA (.call (.ref fa) ⟨[.ref a], []⟩) (fun r s' => r = .ok (.ret (.bool true)) ∧ OldK s₁.heap s'.heap ∧ s'.os = s₁.os ∧ AllBare s'.gens) s₁ := by
  obtain ⟨H, hO, hS, hok, hA⟩ := script_heap (P := P) (w := w) KX ha hi hl
  -- what is no dict's is outside H
  have free : ∀ {b : Addr} {o : Obj}, s₁.heap.get? b = some o → (b = a → K.lookup b = none → False) → (hidT s₁.heap H).get? b = some o := fun {b o} e n => hidT_get e (by
    cases q : H b with
    | none => rfl
    | some u => obtain ⟨e1, e2⟩ := hA b (by rw [q]; simp); exact (n e1 e2).elim)
  have nsB : ∀ {b : Addr} {m : Str → Option Value}, s₁.heap.Ns b m → (hidT s₁.heap H).Ns b m := fun {b m} ⟨o, es, ep, e, d, r⟩ => ⟨o, es, ep, free e (fun z _ => by
    subst z
    rw [ha] at e
    cases e
    cases d), d, r⟩
  have kB : K.In (hidT s₁.heap H) := fun b o e => free (KX b o e) fun _ z => by rw [z] at e; cases e
  have md : Mod K mg (hidT s₁.heap H) := ⟨kB, nsB hns, ⟨mb, nsB hb, hbb⟩, let ⟨mc, h1, h2⟩ := hlim; ⟨mc, nsB h1, h2⟩⟩
  have e0 : Env0 P w K mg (hidT s₁.heap H) callerA [] s₁ H := ⟨rfl, md, fun b o e => of_hidT e, Nat.le_of_eq (hidT_size _ _), trivial, (fun b hb => by cases hb), hok, .of_eq hg⟩
  refine codeAny_mono ((F _ kB (nsB hns)).run callerA [] s₁ H ⟨[.ref a], []⟩ [.ref a] [.ref a] _ _ hr rfl e0 (hbind s₁ (.ref a)) (.cons rfl .nil) (hsp H hO hS)) fun r s' h => ?_
  match r, h with
  | .error e, ⟨_, _, _, _, _, _, _, _, _, _, _, _, z⟩ => exact z.elim
  | .ok .next, h => exact False.elim h
  | .ok .brk, h => exact False.elim h
  | .ok .cont, h => exact False.elim h
  | .ok (.ret u), ⟨v, H', os, bare, un, hok', rv, q⟩ =>
    have q : v = .bl true := q
    subst q
    obtain rfl : u = Value.bool true := rv
    refine ⟨rfl, OldK.of_keep fun b o e => ?_, os, bare⟩
    rcases hO b with z | ⟨ob, xs, z⟩
    · exact un.keep b o e z (fun m => by cases m) (by simp)
    · obtain ⟨e1, _⟩ := hok b _ z
      obtain ⟨e2, _⟩ := hok' b _ (un.frzs b ob _ z)
      rw [e] at e1
      rw [e2, ← e1]
/-- a law over its head: what the head tells gives the promise -/
theorem walk_ofG {l : PySem.W.OpenLaw} {n k : Nat} {q : Program} {loose : List Str} {XP : (Str → Option Value) → Heap → Prop} {YP : World → Heap → Prop} {d : DefRec} {x : Str}
    (hn : l.most = some n) (hn2 : n ≤ sizeLine) (hdf : d.params.defaults = []) (hr : Room k callerA)
    (F : ∀ (w : World) (mg : Str → Option Value) (fa : Addr) (h : Heap), YP w h → h.Ns mainGlobals mg → mg d.name = some (.ref fa) →
      ∃ (K : PySem.W.Frag) (fd : FuncData) (sp : Sp), K.In h ∧ (∀ (s : Shared) (u : Value), BindsTo s fd ⟨[u], []⟩ [(x, u)]) ∧
        (∀ (H : Hp) (a : Addr) (ns : List Int), ns.length ≤ n → Only H → SqL K H a (ns.map V.int) → sp [.ref a] H (fun v _ => v = .bl true) fun _ _ _ => False) ∧
        ∀ base : Heap, K.In base → base.Ns mainGlobals mg → FnG l.prog w K mg base k fa fd [x] sp) :
    PySem.W.WalkO q loose XP YP l.row.toRowW d [] (fun f vs => PySem.call f vs) :=
  Att.attach_call hn hdf fun w s₀ s₁ mg mb fa o pm cd doc a vs ns G Y ho hd hcd hmg hobj hints hlen hg => by
    obtain ⟨K, fd, sp, KX, hb, hsp, hF⟩ := F w mg fa _ Y G.T.g hmg
    exact law_callG KX G.T.g G.T.b G.T.builtins G.T.nolimit hg hobj hints (Nat.le_trans hlen hn2) hr hF hb fun H hO hS => hsp H a ns hlen hO hS
end EV
set_option Elab.async false
set_option linter.all false
set_option maxRecDepth 100000
set_option maxHeartbeats 4000000
/-! EV20: several except clauses with a name (ps_try_as and ps_try_many in one). -/
namespace EV
open PySem PySem.Spec PyProof.Rows L2
abbrev SuiteT := Addr → Value → Option Addr → TS
/-- what the clauses 'except c as n' (n in slot i) wish of an exception, one after the other; each exception is caught -/
def wAsM (K : PySem.W.Frag) (i : Nat) (D : Ends) : List (Value × SuiteT) → WX
  | [] => fun _ _ _ _ => False
  | (c, ts) :: r => fun cls d σ H => ∃ b, PySem.W.exmOne K cls c = some b ∧ (b = true → ∀ a, H a = none → ts a cls d { nx := fun σ' H' => D.nx (σ'.set i none) H', rt := D.rt, bk := fun σ' H' => D.bk (σ'.set i none) H', ct := fun σ' H' => D.ct (σ'.set i none) H' } (σ.set i (some (.ref a))) H) ∧
    (b = false → wAsM K i D r cls d σ H)
inductive HdsA (X : Cx) (n : Str) : List ExceptHandler → List (Value × SuiteT) → Prop
  | nil : HdsA X n [] []
  | cons {x : Str} {c : Value} {ts : SuiteT} {b0 : Stmt} {suite : List Stmt} {np p : Pos} {hds : List ExceptHandler} {l : List (Value × SuiteT)} (hc : Names X x c)
      (hsu : ∀ (a : Addr) (oe : Obj) (cls : Value) (d : Option Addr) (pn : List (Addr × Obj)), Zc cls d oe → (∃ vs, oe.data = .fields vs) → PSs (X.suite a ((a, oe) :: pn)) (b0 :: suite) (ts a cls d)) (r : HdsA X n hds l) :
      HdsA X n (.ExceptHandler (some (.Name x np)) (some n) (b0 :: suite) p :: hds) ((c, ts) :: l)
section
variable {X : Cx} {n : Str} {i : Nat} {body : List Stmt} {h0 : ExceptHandler} {hds : List ExceptHandler} {l : List (Value × SuiteT)} {pos : Pos} {tb : WX → TS}
theorem ps_try_asM (hs : X.stack = X.env :: X.outer) (hf : X.env.frame = some X.env.locals) (hN : X.N.Nodup) (hi : X.N[i]? = some n) (hln : X.env.kindOf n = some .local)
    (hb : ∀ (W : WX) (pn : List (Addr × Obj)) (xe : Value → Shared → Prop), Takes (X.tr pn xe) W → PassesOwn (model X.prog X.w) X.A X.env xe → PSs (X.tr pn xe) body (tb W))
    (hh : HdsA X n (h0 :: hds) l) : PS X (.Try body (h0 :: hds) [] [] pos) (fun D σ H => tb (wAsM X.K i D l) D σ H) := by
  refine ⟨fun pins s σ H D I h => ?_⟩
  have ok := I.ok
  have hfr : X.A.frames = some (X.env :: X.outer) := by rw [ok.frames, hs]
  have hloc : Loc X.env.scope n := .inl hln
  refine wpAny_Try_except ?_
  refine wpAny_mono ((hb (wAsM X.K i D l) (X.pn ++ pins) (fun e s₁ => wpAny (model X.prog X.w) X.A (noteFrame e X.env) (fun _ s₂ => wpAny (model X.prog X.w) X.A (setFlight e none) (fun _ s₃ =>
    wpAny (model X.prog X.w) X.A (handleBy e X.env (h0 :: hds)) (SP X pins D) X.xe s₃) X.xe s₂) X.xe s₁) (fun u s' xx => ?_) PassesOwn.looking).run [] s σ H D (I.toTry _) h) (fun f s1 hsp => ?_) (fun e s1 he => he)
  · obtain ⟨a, B, sI, pins', σ', H', cls, d, rfl, J', nb, up, sky, na, os, ag, w⟩ := xx
    have J : Inv X pins σ' H' sI := J'.ofTry ok
    have sky' : Sky B (X.env :: X.outer) a (Zc cls d) X.env.locals s'.heap := by rw [← hs]; exact sky
    show wpAny (model X.prog X.w) X.A (noteFrame (.ref a) X.env) _ _ _
    refine Sky.land Zc.steady hfr hf sky' fun h3 fl3 up3 => ?_
    have J3 : Inv X pins σ' H' { s' with heap := h3 } := J.landed nb fl3.1 (up.trans up3) os ag
    obtain ⟨oe3, vs3, he3, hz3, hd3⟩ := fl3.there
    have nfr : a ∉ frs (X.env :: X.outer) := fun hm => by
      obtain ⟨_, o', e', hnf⟩ := fl3.2.2.1.mem hm
      rw [he3] at e'; cases e'
      exact hnf _ hd3
    have nL : a ≠ X.env.locals := fun z => nfr (List.mem_filterMap.mpr ⟨X.env, List.mem_cons_self, by rw [hf, z]⟩)
    have nF : a ∉ X.fs := fun hm => by
      obtain ⟨e, he, q⟩ := List.mem_filterMap.mp hm
      exact nfr (List.mem_filterMap.mpr ⟨e, List.mem_cons_of_mem _ he, q⟩)
    have S3 := J3.suite he3 hd3 na nL nF
    have go : ∀ {hds' : List ExceptHandler} {l' : List (Value × SuiteT)}, HdsA X n hds' l' → wAsM X.K i D l' cls d σ' H' → wpAny (model X.prog X.w) X.A (handleBy (.ref a) X.env hds') (SP X pins D) X.xe { s' with heap := h3 } := by
      intro hds' l' hk
      induction hk with
      | nil => exact fun w => w.elim
      | @cons x c ts b0 suite np pos' hds2 l2 hc hsu r ih =>
        rintro ⟨b, hb1, hyes, hno⟩
        refine wpAny_handleBy_cons (codeAny_handlers_test ?_) (by intro q; cases q)
        have LT : PySem.W.Looks (model X.prog X.w) h3 (typeOf (.ref a)) cls := fun A Q E s k q => wpAny_typeOf_ref (k _ _ he3) (by rw [hz3.1]; exact q)
        have LM := PySem.W.exm_one (M := model X.prog X.w) (J3.kIn) LT hb1
        have test : ∀ {Q : Value → Shared → Prop} {E : Value → Shared → Prop}, Q c { s' with heap := h3 } → wpAny (model X.prog X.w) (X.A.mark (some (.ref a))) (eval (.Name x np) X.env) Q E { s' with heap := h3 } := fun {Q E} q => by
          obtain ⟨hg, hdbg, hm | ⟨hm, hv, hnn⟩⟩ := hc
          · exact ld_glob (X := X.suite a ((a, oe3) :: (X.pn ++ pins))) S3 hg hm q hdbg
          · exact ld_blt (X := X.suite a ((a, oe3) :: (X.pn ++ pins))) S3 hg hm hv q hnn hdbg
        refine test (LM.here ?_)
        cases b with
        | false => exact ih (hno rfl)
        | true =>
          refine codeAny_handlers_suite_as ?_
          refine HandSPX.lands_againZ fl3 fun h4 fl4 up4 => ?_
          have J4 : Inv X pins σ' H' { s' with heap := h4 } := J.landed nb fl4.1 ((up.trans up3).trans up4) os ag
          obtain ⟨oe4, vs4, he4, hz4, hd4⟩ := fl4.there
          have S4 := J4.suite he4 hd4 na nL nF
          refine store_ok (X := X.suite a ((a, oe4) :: (X.pn ++ pins))) (v := .ref a) S4 hN hi hloc rfl (fun s5 S5 => ?_) (.inr hln)
          refine wpAny_mono ((hsu a oe4 cls d (X.pn ++ pins) hz4 ⟨_, hd4⟩).run [] s5 _ H' _ S5 (hyes rfl a na)) (fun f s6 hsp => ?_) (fun _ _ z => False.elim z)
          have end_ : ∀ {σ6 : L2.St} {H6 : Hp} {Q : Shared → Prop}, Inv (X.suite a ((a, oe4) :: (X.pn ++ pins))) [] σ6 H6 s6 → (∀ s7, Inv X pins (σ6.set i none) H6 s7 → Q s7) →
              wpAny (model X.prog X.w) X.A (do bindName X.env n .none; unbindBehindTheSuite X.env n pos') (fun _ s7 => Q s7) X.xe s6 := fun {σ6 H6 Q} S6 hq => gone_ok (S6.unsuite ok) hN hi hln hq
          match f, hsp with
          | .next, ⟨σ6, H6, S6, q6⟩ => exact end_ S6 fun s7 J7 => ⟨_, _, J7, q6⟩
          | .brk, ⟨σ6, H6, S6, q6⟩ => exact end_ S6 fun s7 J7 => ⟨_, _, J7, q6⟩
          | .cont, ⟨σ6, H6, S6, q6⟩ => exact end_ S6 fun s7 J7 => ⟨_, _, J7, q6⟩
          | .ret u, ⟨v6, σ6, H6, S6, r6, q6⟩ => exact end_ S6 fun s7 J7 => ⟨_, _, _, J7, r6, q6⟩
    exact go hh w
  · match f, hsp with
    | .next, ⟨σ', H', J', q⟩ => exact wpAny_execs_nil ⟨σ', H', J'.ofTry ok, q⟩
    | .brk, ⟨σ', H', J', q⟩ => exact ⟨σ', H', J'.ofTry ok, q⟩
    | .cont, ⟨σ', H', J', q⟩ => exact ⟨σ', H', J'.ofTry ok, q⟩
    | .ret u, ⟨v, σ', H', J', r, q⟩ => exact ⟨v, σ', H', J'.ofTry ok, r, q⟩
end
end EV
set_option Elab.async false
set_option linter.all false
set_option maxRecDepth 100000
set_option maxHeartbeats 4000000
/-! EV21: a lambda that a def was handed is called; what the handlers tell. -/
namespace EV
open PySem PySem.Spec PyProof.Rows L2
section
variable {P : Program} {w : World} {K : PySem.W.Frag} {mg : Mg} {base : Heap}
/-- the lambda's frame -/
theorem lam_start {N : List Str} {σ : L2.St} {H : Hp} {s : Shared} {A : Around} {outer : List Env} {E : XK} {l : LamD} {f c : Addr} {h1 : Heap} {tk : Nat} (lt : LamT l) (cap : Cap N σ l H s.heap) (hl : σ.length = N.length) (e0 : Env0 P w K mg base A outer s H) (hd : A.handled = none)
    (hns : h1.Ns s.heap.objs.size fun y => ([] : List (Str × Value)).reverse.lookup y) (kp : ∀ b o, s.heap.get? b = some o → h1.get? b = some o) :
    Inv (lamC P w K mg base N A outer s H E l f c) [] σ H { s with heap := h1, toks := tk } := by
  have cellK : ∀ {c : Addr} {v : Option Value}, s.heap.IsCell c v → h1.IsCell c v := fun {c v} ⟨o, ho, hd⟩ => ⟨o, kp _ _ ho, hd⟩
  have noA : ∀ b : Addr, b ∉ (lamC P w K mg base N A outer s H E l f c).ex := fun b z => absurd (show b ∈ ([] : List Addr) from z) (by simp)
  refine ⟨⟨e0.mod, lt.kind, rfl, rfl, Nat.le_refl _, fun y z c e1 e2 => cap.inj y z c e1 e2, fun y hy => ?_, fun y c z _ => ?_, fun _ => hd, Around.frames_deeper e0.frames, .inr ⟨rfl, rfl⟩, fun b z => absurd z (noA b), e0.bs, e0.bsz, fun b _ _ => noA b,
      fun b z => absurd z (noA b), e0.funs, e0.frf⟩,
    rfl, e0.bare, Un.kept kp, ⟨_, hns, fun i y v e1 e2 e3 => ?_⟩, fun y c e => ?_, e0.hok.fresh (Nat.le_refl _), fun y c e => (cap.cell y c e).1, fun q hq => absurd (show q ∈ ([] : List (Addr × Obj)) ++ [] from hq) (by simp), e0.hok.kept kp, hl⟩
  · have hy : l.scope.names.lookup y = some .cell ∨ l.scope.names.lookup y = some .free := hy
    rcases hy with hy | hy
    · exact absurd rfl (lt.own _ (PySem.mem_of_lookup hy)).2
    · exact cap.has y hy
  · have z : false = true := z
    cases z
  · have e3 : Vis l.scope y := e3
    rcases e3 with k | k | k
    · exact absurd rfl (lt.own _ (PySem.mem_of_lookup k)).1
    · exact absurd rfl (lt.own _ (PySem.mem_of_lookup k)).2
    · obtain ⟨c2, u, h1', r, z⟩ := cap.val i y v e1 e2 k
      exact ⟨u, r, .inr ⟨.inr k, c2, h1', cellK z⟩⟩
  · obtain ⟨v, z⟩ := (cap.cell y c e).2
    exact ⟨v, cellK z⟩
theorem Takes.len {X : Cx} {W : WX} (t : Takes X W) : Takes X (fun c d σ H => σ.length = X.N.length → W c d σ H) := fun u s' ⟨a, B, sI, pins, σ, H, cls, d, e, I, nb, up, sky, na, os, ag, w⟩ =>
  t u s' ⟨a, B, sI, pins, σ, H, cls, d, e, I, nb, up, sky, na, os, ag, w I.len⟩
/-- a(), in the def that got the lambda -/
theorem pe_actF {CXg : CXT} {Eg : XK} {Ng : List Str} {qg : Str} {sg : Scope} {g fl c : Addr} {cdg : Value} {k : Nat} {a : Str} {A : Around} {outer : List Env} {s : Shared} {H : Hp} {l : LamD} {N : List Str} {σ : L2.St} {pn : List (Addr × Obj)} {xe : Value → Shared → Prop} {W : WX} {E : XK} {t : XK → TE} {p1 p2 : Pos}
    (lt : LamT l) (hl : σ.length = N.length) (cap : Cap N σ l H s.heap) (hg : A.guards = some [])
    (tk : Takes ((cxOf CXg P w K mg base Ng qg sg g cdg A outer s H Eg).tr pn xe) W) (hW : ∀ cls d σ' H', E cls d H' → σ'.length = Ng.length → W cls d σ' H') (hr : Room (k + 1) (A.deeper (envOfC qg sg s.heap.objs.size g cdg)))
    (bd : ∀ (A' : Around) (outer' : List Env) (s' : Shared) (H' : Hp) (E' : XK), Room k (A'.deeper (lamE l s'.heap.objs.size fl c)) → A'.guards = some [] → PE (lamC P w K mg base N A' outer' s' H' E' l fl c) l.body (t E'))
    (hN : Ng[0]? = some a) (hv : Vis sg a) (hd : (a == ("__debug__" : Str)) = false) (hcd : (a == ("__classdict__" : Str)) = false) :
    PE ((cxOf CXg P w K mg base Ng qg sg g cdg A outer s H Eg).tr pn xe) (.Call (.Name a p1) [] [] p2)
      (fun σZ HZ Q => σZ[0]? = some (some (.ref fl)) ∧ HZ fl = some (LamO fl c l) ∧ HZ c = some (LamX.CodeO c l.q) ∧ t E σ HZ Q) := by
  refine ⟨fun pinsZ sZ σZ HZ Q IZ ⟨hs, hF, hC, ht⟩ => ?_⟩
  refine wpAny_Call_Name_kw (thn ((pe_var (X := (cxOf CXg P w K mg base Ng qg sg g cdg A outer s H Eg).tr pn xe) (pos := p1) (i := 0) hN hv hd hcd).run pinsZ sZ σZ HZ (fun v H1 => v = .ref fl ∧ H1 = HZ) IZ ⟨.ref fl, hs, rfl, rfl⟩) fun u s1 ⟨v, H1, I1, r1, ev, eH⟩ => ?_)
  subst ev
  rw [eH] at I1
  obtain rfl : u = Value.ref fl := r1
  obtain ⟨⟨pm, ctv, of1⟩, _, _⟩ := I1.hok fl _ hF
  refine PySem.W.callWith_F0 ⟨_, _, _, _, of1⟩ ?_
  have un : Un (frs outer) [] H HZ s.heap s1.heap := I1.base
  obtain ⟨⟨oc, vs, t', hoc, hdc, hvc⟩, _, _⟩ := I1.hok c _ hC
  have cap1 := cap.un un fun _ _ _ z => nomatch z
  have rc : codeAny (model P w) (A.deeper (envOfC qg sg s.heap.objs.size g cdg)) (.call (.ref fl) ⟨[], []⟩) (CR (L2.CX P w) (envOfC qg sg s.heap.objs.size g cdg :: outer) P w HZ s1 Q E) s1 := by
    refine PySem.W.kla_callFunE hr.depth of1 rfl lt.co lt.gen rfl ⟨c, oc, vs, t', rfl, hoc, hdc, hvc⟩ ?_
    rw [lt.bind]
    refine wpAny_pure (wpAny_newFunctionEnv (fun y hy => (lt.own y hy).2) (fun y hy => absurd hy (by simp)) (fun h₁ hns hsb => ⟨I1.nolimit.fresh _ hsb, ?_⟩) lt.kind)
    show codeAny _ _ (.expr l.body (lamE l s1.heap.objs.size fl c)) _ _
    have kp : ∀ b o, s1.heap.get? b = some o → h₁.get? b = some o := fun b o e => hsb.extBut b o (Nat.ne_of_lt (Heap.lt_size e)) (Heap.get?_push_of_some _ e)
    have J := lam_start (f := fl) (c := c) (E := E) (tk := s1.toks + ([] : List (Str × Value)).length) lt cap1 hl I1.env0 hr.hd hns kp
    refine PySem.W.kla_codeExpr (wpAny_mono ((bd _ _ s1 HZ E (hr.deeper _) (deeper_guards hg)).run [] _ σ HZ Q J ht) (fun v s' hq => ?_) fun e s' hq => hq)
    obtain ⟨w', H', J', rv, q⟩ := hq
    exact ⟨w', H', J'.os, J'.bare, J'.base, J'.hok, rv, q⟩
  refine wpAny_call (codeAny_mono rc fun r s' hq => ?_)
  match r, hq with
  | .error e, hq => exact passes_call (Takes.len tk) (fun cls d σ' H' h e => hW cls d σ' H' h e) pinsZ σZ HZ s1 e s' I1 hq
  | .ok (.ret u), hq => exact I1.after hq
  | .ok .next, hq => exact hq.elim
  | .ok .brk, hq => exact hq.elim
  | .ok .cont, hq => exact hq.elim
end
end EV
set_option Elab.async false
set_option linter.all false
set_option maxRecDepth 100000
set_option maxHeartbeats 4000000
/-! EV22: a def of the form try: work() / except C as n: return (..) / return None keeps HandOk. -/
namespace EV
open PySem PySem.Spec PyProof.Rows L2
def okHF (N : List Str) (sc : Scope) : HF → Expr → Bool
  | .txt x, .Constant (.str y) _ _ => decide (x = y)
  | .fld f, .Attribute o g _ => decide (f = g) && okName N sc 1 o
  | _, _ => false
def okHFs (N : List Str) (sc : Scope) : List HF → List Expr → Bool
  | [], [] => true
  | h :: hs, e :: es => okHF N sc h e && okHFs N sc hs es
  | _, _ => false
def okHand (N : List Str) (sc : Scope) : List (Str × List HF) → List ExceptHandler → Bool
  | [], [] => true
  | (C, fs) :: r, .ExceptHandler (some (.Name x _)) (some n) [.Return (some (.Tuple es _ _)) _] _ :: hs => decide (C = x) && glb sc x && !(x == ("__debug__" : Str)) && decide (N[1]? = some n) && okHFs N sc fs es && okHand N sc r hs
  | _, _ => false
def okErrB (N : List Str) (sc : Scope) (hs : List (Str × List HF)) : List Stmt → Bool
  | [.Try [.Expr (.Call (.Name a _) [] [] _) _] hds [] [] _, .Return (some (.Constant .none _ _)) _] => decide (N[0]? = some a) && vis sc a && !(a == ("__debug__" : Str)) && !(a == ("__classdict__" : Str)) && decide (N.length = 2) && loc sc (N.getD 1 Str.empty) && okHand N sc hs hds && !hds.isEmpty
  | _ => false
def fieldsV (fs : List (Str × V)) : List HF → Option (List V)
  | [] => some []
  | .txt x :: r => (fieldsV fs r).map (.str x :: ·)
  | .fld f :: r => match fs.lookup f, fieldsV fs r with
    | some d, some ds => some (d :: ds)
    | _, _ => none
def caOf (mg : Mg) (C : Str) : Addr := match mg C with
  | some (.ref a) => a
  | _ => 0
/-- what a handler's suite does -/
def tSuite (Ca : Addr) (hf : List HF) : SuiteT := fun a cls d D σ H => σ[1]? = some (some (.ref a)) ∧ cls = .ref Ca ∧ ∃ (dd : Addr) (fs : List (Str × V)) (vs : List V), d = some dd ∧ H dd = some (.xd fs) ∧ fieldsV fs hf = some vs ∧ vs.length ≤ sizeLine ∧ ∀ p, H p = none → D.rt (.ref p) (upd H p (.tup vs))
def tHFs (Ca : Addr) (hf : List HF) (a : Addr) (cls : Value) (d : Option Addr) : TA := fun σ H Q => σ[1]? = some (some (.ref a)) ∧ cls = .ref Ca ∧ ∃ (dd : Addr) (fs : List (Str × V)) (vs : List V), d = some dd ∧ H dd = some (.xd fs) ∧ fieldsV fs hf = some vs ∧ Q vs H
def suitesOf (mg : Mg) (hs : List (Str × List HF)) : List (Value × SuiteT) := hs.map fun p => (.ref (caOf mg p.1), tSuite (caOf mg p.1) p.2)
structure HandF (K : PySem.W.Frag) (mg : Mg) (hs : List (Str × List HF)) : Prop where
  cls : ∀ p ∈ hs, mg p.1 = some (.ref (caOf mg p.1)) ∧ XfC K (caOf mg p.1) ∧ ∀ f, .fld f ∈ p.2 → PySem.W.findIn K (.ref (caOf mg p.1)) f = some none
  exm : ∀ p ∈ hs, ∀ q ∈ hs, PySem.W.exmOne K (.ref (caOf mg p.1)) (.ref (caOf mg q.1)) = some (decide (p.1 = q.1))
section
variable {X : Cx}
theorem pa_HFs {Ca a : Addr} {cls : Value} {d : Option Addr} {oe : Obj} {pn : List (Addr × Obj)} (T : XfC X.K Ca) (hz : Zc cls d oe) (hf : ∃ vs, oe.data = .fields vs) : ∀ (hs : List HF) (es : List Expr), (∀ f, .fld f ∈ hs → PySem.W.findIn X.K (.ref Ca) f = some none) → okHFs X.N X.env.scope hs es = true →
    PA (X.suite a ((a, oe) :: pn)) es (tHFs Ca hs a cls d)
  | [], [], _, _ => paI pa_nil fun σ H Q ⟨h1, h2, dd, fs, vs, e1, e2, e3, q⟩ => by
      cases e3; exact q
  | .txt x :: hs, e :: es, hno, h => by
    simp only [okHFs, Bool.and_eq_true] at h
    have h1 := h.1
    unfold okHF at h1
    split at h1
    · rename_i x' y j p e'
      cases e'
      rw [of_decide_eq_true h1]
      refine paI (pa_cons pe_str (pa_HFs T hz hf hs es (fun f m => hno f (List.mem_cons_of_mem _ m)) h.2)) ?_
      rintro σ H Q ⟨g1, g2, dd, fs, vs, e1, e2, e3, q⟩
      simp only [fieldsV, Option.map_eq_some_iff] at e3
      obtain ⟨ws, e4, rfl⟩ := e3
      have hx := of_decide_eq_true h1
      subst hx
      exact ⟨g1, g2, dd, fs, ws, e1, e2, e4, q⟩
    · rename_i e'
      cases e'
    · cases h1
  | .fld f :: hs, e :: es, hno, h => by
    simp only [okHFs, Bool.and_eq_true] at h
    have h1 := h.1
    unfold okHF at h1
    split at h1
    · rename_i e'
      cases e'
    · rename_i f' o g p e'
      cases e'
      simp only [Bool.and_eq_true, decide_eq_true_eq] at h1
      obtain ⟨rfl, h2⟩ := h1
      have pv : PE (X.suite a ((a, oe) :: pn)) o (tVar 1) := by
        obtain ⟨n, zp, rfl, n1, n2, n3, n4⟩ := name_of h2
        exact pe_var (X := X.suite a ((a, oe) :: pn)) n1 n2 n3 n4
      refine paI (pa_cons (pe_xf (pos := p) T (hno _ List.mem_cons_self) hz hf pv (base_name h2)) (pa_HFs T hz hf hs es (fun f m => hno f (List.mem_cons_of_mem _ m)) h.2) rfl) ?_
      rintro σ H Q ⟨g1, g2, dd, fs, vs, e1, e2, e3, q⟩
      simp only [fieldsV] at e3
      split at e3
      · rename_i d' ds' q1 q2
        cases e3
        exact ⟨.ref a, g1, rfl, g2, dd, fs, d', e1, e2, q1, g1, g2, dd, fs, ds', e1, e2, q2, q⟩
      · cases e3
    · cases h1
  | [], _ :: _, _, h => by simp [okHFs] at h
  | _ :: _, [], _, h => by simp [okHFs] at h
theorem hdsA_of {n : Str} (hn : X.N[1]? = some n) : ∀ (hs : List (Str × List HF)) (hds : List ExceptHandler), (∀ p ∈ hs, X.mg p.1 = some (.ref (caOf X.mg p.1)) ∧ XfC X.K (caOf X.mg p.1) ∧ ∀ f, .fld f ∈ p.2 → PySem.W.findIn X.K (.ref (caOf X.mg p.1)) f = some none) →
    okHand X.N X.env.scope hs hds = true → HdsA X n hds (suitesOf X.mg hs)
  | [], [], _, _ => .nil
  | (C, fs) :: r, hd :: hds, F, h => by
    unfold okHand at h
    split at h
    · rename_i e1 e2; cases e1
    · rename_i C' fs' r' x xp n' es k1 tp rp hp hds' e1 e2
      cases e1
      cases e2
      simp only [Bool.and_eq_true, decide_eq_true_eq, Bool.not_eq_true'] at h
      obtain ⟨⟨⟨⟨⟨rfl, h2⟩, h3⟩, h4⟩, h5⟩, h6⟩ := h
      obtain rfl : n' = n := Option.some.inj (h4.symm.trans hn)
      obtain ⟨f1, f2, f3⟩ := F (C, fs) List.mem_cons_self
      refine .cons ⟨gl_of h2, h3, .inl f1⟩ (fun a oe cls d pn hz hf => ?_) (hdsA_of hn r _ (fun p hp => F p (List.mem_cons_of_mem _ hp)) h6)
      exact pssI (pss_one (ps_ret (pe_tup (pa_HFs f2 hz hf fs es f3 h5)))) fun D σ H ⟨g1, g2, dd, gs, vs, e1, e2, e3, e4, q⟩ => ⟨g1, g2, dd, gs, vs, e1, e2, e3, e4, fun p hp => q p hp⟩
    · cases h
  | [], _ :: _, _, h => by simp [okHand] at h
  | (C, fs) :: r, [], _, h => by simp [okHand] at h
end
section
variable {K : PySem.W.Frag} {mg : Mg}
theorem fields_rep {Hs : Hp} {ks : List Str} {vs : List V} {ds : List D} (hl : ks.length = vs.length) (r : Reps K mg Hs vs ds) : ∀ {hf : List HF} {es : List D}, fieldsD (ks.zip ds) hf = some es → ∃ ws, fieldsV (ks.zip vs) hf = some ws ∧ Reps K mg Hs ws es
  | [], es, h => by cases h; exact ⟨[], rfl, .nil⟩
  | .txt x :: hf, es, h => by
    simp only [fieldsD, Option.map_eq_some_iff] at h
    obtain ⟨es', h1, rfl⟩ := h
    obtain ⟨ws, h2, h3⟩ := fields_rep hl r h1
    exact ⟨.str x :: ws, by simp [fieldsV, h2], .cons (.str x) h3⟩
  | .fld f :: hf, es, h => by
    simp only [fieldsD] at h
    split at h
    · rename_i d' ds' q1 q2
      cases h
      obtain ⟨ws, h2, h3⟩ := fields_rep hl r q2
      obtain ⟨v, h4, h5⟩ := zip_lookup hl r q1
      exact ⟨v :: ws, by simp [fieldsV, h2, h4], .cons h5 h3⟩
    · cases h
theorem catch_mem {x : Exc} : ∀ {hs : List (Str × List HF)} {d : D}, catchD x hs = some d → ∃ p ∈ hs, x.C = p.1 ∧ ∃ ds, fieldsD x.fs p.2 = some ds ∧ d = .tup ds
  | [], _, h => by cases h
  | (C, hf) :: r, d, h => by
    simp only [catchD] at h
    split at h
    · rename_i e
      obtain ⟨ds, h1, h2⟩ := Option.map_eq_some_iff.mp h
      exact ⟨(C, hf), List.mem_cons_self, e, ds, h1, h2.symm⟩
    · obtain ⟨p, h1, h2⟩ := catch_mem h
      exact ⟨p, List.mem_cons_of_mem _ h1, h2⟩
theorem fieldsD_len {fs : List (Str × D)} : ∀ {hf : List HF} {ds : List D}, fieldsD fs hf = some ds → ds.length = hf.length
  | [], _, h => by cases h; rfl
  | .txt x :: hf, _, h => by
    simp only [fieldsD, Option.map_eq_some_iff] at h
    obtain ⟨es', h1, rfl⟩ := h
    exact congrArg Nat.succ (fieldsD_len h1)
  | .fld f :: hf, _, h => by
    simp only [fieldsD] at h
    split at h
    · rename_i d' ds' q1 q2
      cases h
      exact congrArg Nat.succ (fieldsD_len q2)
    · cases h
/-- an exception that the handlers know -/
theorem wAs_of {hs : List (Str × List HF)} (F : HandF K mg hs) {En0 : Ends} {x : Exc} {Hs H : Hp} {cls : Value} {a : Option Addr} (R : ExcR K mg Hs H x cls a) {d : D} {σ : L2.St} (hσ : σ.length = 2)
    (h64 : ∀ p ∈ hs, p.2.length ≤ 64) (hq : ∀ p ws ds, d = .tup ds → Reps K mg Hs ws ds → H p = none → En0.rt (.ref p) (upd H p (.tup ws))) (hx : ∃ p ∈ hs, x.C = p.1) :
    ∀ {hs' : List (Str × List HF)}, (∀ p ∈ hs', p ∈ hs) → catchD x hs' = some d → wAsM K 1 En0 (suitesOf mg hs') cls a σ H
  | [], _, h => by cases h
  | (C, hf) :: r, sub, h => by
    obtain ⟨Cx, dd, ks, vs, ds, m1, rfl, rfl, e1, e2, e3, e4⟩ := R
    obtain ⟨q, hq1, hq2⟩ := hx
    obtain ⟨g1, _, _⟩ := F.cls q hq1
    obtain ⟨f1, f2, f3⟩ := F.cls (C, hf) (sub _ List.mem_cons_self)
    have ex := F.exm q hq1 (C, hf) (sub _ List.mem_cons_self)
    have eC : caOf mg q.1 = Cx := by
      rw [hq2, g1] at m1
      exact Value.ref.inj (Option.some.inj m1)
    rw [eC, ← hq2] at ex
    refine ⟨_, ex, fun hb => ?_, fun hb => ?_⟩
    · have hC : x.C = C := of_decide_eq_true hb
      simp only [catchD, if_pos hC, Option.map_eq_some_iff] at h
      obtain ⟨es, h1, rfl⟩ := h
      rw [e3] at h1
      obtain ⟨ws, h2, h3⟩ := fields_rep e2 e4 h1
      intro a' ha'
      refine ⟨?_, ?_, dd, ks.zip vs, ws, rfl, e1, h2, ?_, fun p hp => hq p ws es rfl h3 hp⟩
      · rw [List.getElem?_set_self (by omega)]
      · rw [hC, f1] at m1
        exact congrArg Value.ref (Value.ref.inj (Option.some.inj m1)).symm
      · rw [h3.length, fieldsD_len h1]
        have := h64 _ (sub _ List.mem_cons_self)
        have h' : hf.length ≤ 64 := this
        unfold sizeLine
        omega
    · have hC : ¬ x.C = C := of_decide_eq_false hb
      simp only [catchD, if_neg hC] at h
      exact wAs_of F ⟨Cx, dd, ks, vs, ds, m1, rfl, rfl, e1, e2, e3, e4⟩ hσ h64 hq ⟨q, hq1, hq2⟩ (fun p hp => sub p (List.mem_cons_of_mem _ hp)) h
end
section
variable {P : Program} {w : World} {K : PySem.W.Frag} {mg : Mg} {base : Heap} {k : Nat}
theorem hand_ok {N ps : List Str} {name : Str} {params : Arguments} {body : List Stmt} {scope : Scope} {g : Addr} {fd : FuncData} {hs : List (Str × List HF)} (hm : mg name = some (.ref g)) (hk : PySem.W.keepIn K (.ref g) = true)
    (F : FunD K name name params body scope [] [] g fd) (S : FnScope N ps scope) (hps : ps.length = 1) (hb : Binds K fd ps []) (hok : okErrB N scope hs body = true) (HF : HandF K mg hs) (h64 : ∀ p ∈ hs, p.2.length ≤ 64) : HandOk P w K mg base k name hs := by
  refine ⟨g, hm, hk, ?_⟩
  intro A outer s H Hs fl c l Nl σ ρ Z wb Kd Q hr hg e0 lt ndl hl hfl hc cap bd SRl hw hq
  obtain ⟨oc, od, dV, kV, doc, pm, an, cdv, ct, osl, rfl, lk, hcd, _, _⟩ := F.ex
  have KX : K.In s.heap := e0.mod.kin.keeps fun b o e => (e0.bs b o e).1
  have hb' := hb s [.ref fl] KX (by simp [hps])
  rw [List.append_nil] at hb'
  refine LamX.run_ofS (CX := L2.CX P w) (N := N) (us := [.ref fl]) (vs := [.ref fl]) lk hcd S hr e0 hb' (.cons rfl .nil) (by simp [hps]) fun hr' => ?_
  unfold okErrB at hok
  split at hok
  · rename_i a ap cp ep hds tp k0 np rp
    simp only [Bool.and_eq_true, decide_eq_true_eq, Bool.not_eq_true'] at hok
    obtain ⟨⟨⟨⟨⟨⟨⟨h1, h2⟩, h3⟩, h4⟩, h5⟩, h6⟩, h7⟩, h8⟩ := hok
    obtain ⟨n, hn⟩ : ∃ n, N[1]? = some n := ⟨_, List.getElem?_eq_getElem (by omega)⟩
    have hloc : scope.names.lookup n = some .local := by
      unfold loc at h6
      rw [List.getD_eq_getElem?_getD, hn] at h6
      have h6 : (match scope.names.lookup n with | some .local => true | _ => false) = true := h6
      split at h6
      · assumption
      · cases h6
    have hvis : Vis scope a := by
      unfold vis at h2
      split at h2
      · rename_i q; exact .inl q
      · rename_i q; exact .inr (.inl q)
      · rename_i q; exact .inr (.inr q)
      · cases h2
    cases hds with
    | nil => cases h8
    | cons h0 hds =>
      have hA := hdsA_of (X := cxOf (L2.CX P w) P w K mg base N name scope g cdv A outer s H (fun _ _ _ => False)) hn hs (h0 :: hds) HF.cls h7
      refine ⟨_, pss_cons (ps_try_asM (X := cxOf (L2.CX P w) P w K mg base N name scope g cdv A outer s H (fun _ _ _ => False)) (i := 1) rfl rfl S.nd hn hloc
        (tb := fun W D0 σ0 H0 => ∃ E : XK, (∀ cls d σ' H', E cls d H' → σ'.length = N.length → W cls d σ' H') ∧ σ0[0]? = some (some (.ref fl)) ∧ H0 fl = some (LamO fl c l) ∧ H0 c = some (LamX.CodeO c l.q) ∧ tE K mg Z (fun cls d _ H => E cls d H) wb σ H0 (fun _ H1 => D0.nx σ0 H1))
        (fun W pn xe tk _ => ⟨fun pins s' σ0 H0 D0 I ⟨E, e1, e2, e3, e4, e5⟩ => ?_⟩) hA) (pss_one (ps_ret pe_non)), ?_⟩
      · have hp := pe_actF (p1 := ap) (p2 := cp) (t := fun E => tE K mg Z (fun cls d _ H => E cls d H) wb) lt hl cap hg tk e1 hr' (fun A' outer' s' H' E' r g => bd A' outer' s' H' E' r g) h1 hvis h3 h4
        exact (pss_one (ps_expr (pos := ep) hp)).run pins s' σ0 H0 D0 I ⟨e2, e3, e4, e5⟩
      · refine ⟨fun cls d H' => ∀ σ' : L2.St, σ'.length = 2 → wAsM K 1 _ (suitesOf mg hs) cls d σ' H', fun cls d σ' H' h e => h σ' (by omega), by unfold L2.start; rfl, hfl, hc, Hs, ρ, SRl, _, _, hw, fun d ρ' Hs' H' v a b c r => ?_, fun x ρ' Hs' H' cls b r S2 e R σ' hσ' => ?_⟩
        · exact hq .non ρ' Hs' H' .non a b c .non
        · obtain ⟨d, h9, h10⟩ := r
          obtain ⟨p, hp1, hp2, _⟩ := catch_mem h9
          refine wAs_of HF R hσ' h64 (fun p ws ds ed rs hp => ?_) ⟨p, hp1, hp2⟩ (fun _ h => h) h9
          subst ed
          have gr : Same Hs' (upd Hs' p (.tup ws)) := fun b u e => by rw [upd_ne (ne_of_none e (S2.fresh hp).1)]; exact e
          exact hq _ ρ' _ _ _ h10 (S2.laid hp) (e.trans gr) (.tup upd_same (rs.mono gr))
  · cases hok
end
end EV
set_option Elab.async false
set_option linter.all false
set_option maxRecDepth 100000
set_option maxHeartbeats 4000000
/-! EV23: a law's end where its def makes lambdas: the tables of its code objects. -/
namespace EV
open PySem PySem.Spec PyProof.Rows L2
/-! ### the Hook: facts, a Bool, the tables -/
structure SaysE (fa : List He.Fa) (fn : List He.DefD) (tf : List He.Defn) (ex : PySem.W.Frag → Bool) (h : Heap) (K : PySem.W.Frag) : Prop where
  t : He.SaysD fa fn K
  more : ex K = true
  hd : ∀ p ∈ tf, PySem.W.codeHdIn K (He.cT K p).1 (He.cT K p).2 = true
  out : ∀ p ∈ tf, K.lookup (He.cT K p).2 = none
  empty : ∀ p ∈ tf, h.get? (He.cT K p).2 = some { cls := .none, data := .fields #[] }
def obsE (n : Nat) (fa : List He.Fa) (fn : List He.DefD) (tf : List He.Defn) (ex : PySem.W.Frag → Bool) (g : Addr → Option Obj) : He.AlD × Bool :=
  (He.obsD fa fn (He.frT g (asC g n)), ex (He.frT g (asC g n)) && He.tabsB g tf (He.frT g (asC g n)))
theorem saysE_of {n : Nat} {fa : List He.Fa} {fn : List He.DefD} {tf : List He.Defn} {ex : PySem.W.Frag → Bool} {h : Heap} (e : obsE n fa fn tf ex h.get? = (He.valD fn, true)) : SaysE fa fn tf ex h (He.frT h.get? (asC h.get? n)) := by
  generalize hK : He.frT h.get? (asC h.get? n) = K
  have e1 : He.obsD fa fn K = He.valD fn := by rw [← hK]; exact congrArg Prod.fst e
  have e2 : (ex K && He.tabsB h.get? tf K) = true := by rw [← hK]; exact congrArg Prod.snd e
  obtain ⟨h1, h2⟩ := Bool.and_eq_true_iff.mp e2
  have at_ : ∀ p ∈ tf, PySem.W.codeHdIn K (He.cT K p).1 (He.cT K p).2 = true ∧ ∃ o, h.get? (He.cT K p).2 = some o ∧ He.emptyTab o = true := fun p hp => by
    obtain ⟨h3, h4⟩ := Bool.and_eq_true_iff.mp (List.all_eq_true.mp h2 p hp)
    refine ⟨h3, ?_⟩
    split at h4
    · rename_i o q; exact ⟨o, q, h4⟩
    · cases h4
  refine ⟨e1, h1, fun p hp => (at_ p hp).1, fun p hp => ?_, fun p hp => ?_⟩
  · obtain ⟨_, o, q, z⟩ := at_ p hp
    rw [← hK] at q ⊢
    exact He.frT_none q z
  · obtain ⟨_, o, q, z⟩ := at_ p hp
    rw [q, He.emptyTab_eq z]
def hookE (n : Nat) (fa : List He.Fa) (fn : List He.DefD) (tf : List He.Defn) (ex : PySem.W.Frag → Bool) : PySem.W.Hook where
  α := He.AlD × Bool
  obs := fun s => obsE n fa fn tf ex s.heap.get?
  val := fun _ => (He.valD fn, true)
  says := fun _ h => ∃ K : PySem.W.Frag, K.In h ∧ SaysE fa fn tf ex h K
  of := fun _ _ e => ⟨_, He.frT_in, saysE_of e⟩
  keeps := fun _ _ _ ⟨K, hK, c⟩ k => ⟨K, PySem.W.Frag.In.keeps hK k, ⟨c.t, c.more, c.hd, c.out, fun p hp => k _ _ (c.empty p hp)⟩⟩
theorem obsE_eq {n : Nat} {fa : List He.Fa} {fn : List He.DefD} {tf : List He.Defn} {ex : PySem.W.Frag → Bool} {g : Addr → Option Obj} {s : Shared} (h : ∀ a, g a = s.heap.get? a) : obsE n fa fn tf ex g = (hookE n fa fn tf ex).obs s := by
  have e : g = s.heap.get? := funext h
  rw [e] <;> rfl
/-! ### the end -/
theorem law_callTG {P : Program} {w : World} {K : PySem.W.Frag} {mg mb : Str → Option Value} {k : Nat} {fa a : Addr} {cs : List (Addr × Addr)} {fd : FuncData} {x : Str} {sp : Sp} {s₁ : Shared} {us : List Value} {ns : List Int}
    (KX : K.In s₁.heap) (hns : s₁.heap.Ns mainGlobals mg) (hb : s₁.heap.Ns builtinsNs mb) (hbb : ∀ x : Str, x ≠ "__name__" → mb x = bootBuiltins x) (hlim : s₁.heap.NoLimit) (hg : s₁.gens = #[])
    (hT : ∀ p ∈ cs, s₁.heap.get? p.2 = some { cls := .none, data := .fields #[] }) (nT : ∀ p ∈ cs, K.lookup p.2 = none) (C : ∀ p ∈ cs, PySem.W.CodeHd s₁.heap p.1 p.2)
    (hbm : ∃ (bm : Addr) (ob : Obj), mg "__builtins__" = some (.ref bm) ∧ bm ≠ builtinsNs ∧ s₁.heap.get? bm = some ob ∧ ob.cls = .type "module" ∧ ob.dict = some builtinsNs ∧ ob.data = .plain)
    (ha : s₁.heap.get? a = some { cls := .type "list", data := .seq us.toArray }) (hi : IntsAre us ns) (hl : ns.length ≤ sizeLine) (hr : Room k callerA)
    (F : ∀ base : Heap, K.In base → base.Ns mainGlobals mg → (∀ p ∈ cs, LamX.TabB base mg p.1 p.2) → FnG P w K mg base k fa fd [x] sp) (hbind : ∀ (s : Shared) (u : Value), BindsTo s fd ⟨[u], []⟩ [(x, u)])
    (hsp : ∀ H : Hp, (∀ p ∈ cs, H p.2 = some (.tbl #[])) → SqL K H a (ns.map V.int) → sp [.ref a] H (fun v _ => v = .bl true) fun _ _ _ => False) :
    codeAny (model P w) callerA (.call (.ref fa) ⟨[.ref a], []⟩) (fun r s' => r = .ok (.ret (.bool true)) ∧ OldK s₁.heap s'.heap ∧ s'.os = s₁.os ∧ AllBare s'.gens) s₁ := by
  obtain ⟨H0, hO, hS0, hok0, hA0⟩ := script_heap (P := P) (w := w) KX ha hi hl
  have isT : ∀ b : Addr, b ∈ cs.map (·.2) → s₁.heap.get? b = some { cls := .none, data := .fields #[] } := fun b hb => by
    obtain ⟨p, hp, e⟩ := List.mem_map.mp hb
    rw [← e]
    exact hT p hp
  have aT : a ∉ cs.map (·.2) := fun z => by
    have q := isT a z
    rw [ha] at q
    cases congrArg Obj.data (Option.some.inj q)
  obtain ⟨H, eH⟩ : ∃ H : Hp, H = fun b => if b ∈ cs.map (·.2) then some (HO.tbl #[]) else H0 b := ⟨_, rfl⟩
  have inT : ∀ {b}, b ∈ cs.map (·.2) → H b = some (.tbl #[]) := fun {b} hb => by rw [eH]; exact if_pos hb
  have outT : ∀ {b}, b ∉ cs.map (·.2) → H b = H0 b := fun {b} hb => by rw [eH]; exact if_neg hb
  have hH : ∀ p ∈ cs, H p.2 = some (.tbl #[]) := fun p hp => inT (List.mem_map.mpr ⟨p, hp, rfl⟩)
  have hS : SqL K H a (ns.map V.int) := by
    rcases hS0 with (z | ⟨o, z⟩) | z
    · exact .inl (.inl (by rw [outT aT]; exact z))
    · exact .inl (.inr ⟨o, by rw [outT aT]; exact z⟩)
    · exact .inr z
  have hok : HOk P w H s₁.heap := fun b u e => by
    by_cases hb : b ∈ cs.map (·.2)
    · rw [inT hb] at e
      cases e
      exact isT b hb
    · rw [outT hb] at e
      have z := hok0 b u e
      rcases hO b with q | ⟨o, xs, q⟩
      · rw [q] at e; cases e
      · rw [q] at e
        cases e
        exact z
  have hid : ∀ {b : Addr} {o : Obj}, s₁.heap.get? b = some o → H b = none → (hidT s₁.heap H).get? b = some o := fun {b o} e n => hidT_get e n
  -- what is neither the script's list nor a table is outside H
  have free : ∀ {b : Addr} {o : Obj}, s₁.heap.get? b = some o → (b = a → K.lookup b = none → False) → o.data ≠ .fields #[] → (hidT s₁.heap H).get? b = some o := fun {b o} e n nd => by
    refine hid e ?_
    by_cases hb : b ∈ cs.map (·.2)
    · rw [isT b hb] at e
      cases e
      exact absurd rfl nd
    · rw [outT hb]
      cases q : H0 b with
      | none => rfl
      | some u =>
        obtain ⟨e1, e2⟩ := hA0 b (by rw [q]; simp)
        exact (n e1 e2).elim
  have nsB : ∀ {b : Addr} {m : Str → Option Value}, s₁.heap.Ns b m → (hidT s₁.heap H).Ns b m := fun {b m} ⟨o, es, ep, e, d, r⟩ => ⟨o, es, ep, free e (fun z _ => by
    subst z
    rw [ha] at e
    cases e
    cases d) (by rw [d]; intro z; cases z), d, r⟩
  have kB : K.In (hidT s₁.heap H) := fun b o e => hid (KX b o e) (by
    by_cases hb : b ∈ cs.map (·.2)
    · obtain ⟨p, hp, ep⟩ := List.mem_map.mp hb
      rw [← ep, nT p hp] at e
      cases e
    · rw [outT hb]
      cases q : H0 b with
      | none => rfl
      | some u =>
        obtain ⟨_, e2⟩ := hA0 b (by rw [q]; simp)
        rw [e2] at e; cases e)
  have md : Mod K mg (hidT s₁.heap H) := ⟨kB, nsB hns, ⟨mb, nsB hb, hbb⟩, let ⟨mc, h1, h2⟩ := hlim; ⟨mc, nsB h1, h2⟩⟩
  have TB : ∀ p ∈ cs, LamX.TabB (hidT s₁.heap H) mg p.1 p.2 := fun p hp => by
    have hTp := hT p hp
    refine ⟨?_, ?_, fun z => ?_⟩
    · obtain ⟨o, vs, file, tf, flags, tg, inF, text, tt, e1, r1, r2, r3, r⟩ := C p hp
      refine ⟨o, vs, file, tf, flags, tg, inF, text, tt, free e1 (fun z _ => ?_) (fun z => ?_), r1, r2, r3, r⟩
      · subst z
        rw [ha] at e1
        cases e1
        cases r2
      · rw [r2] at z
        cases z
        simp at r3
    · obtain ⟨bm, ob, b1, b2, b3, b4, b5, b6⟩ := hbm
      have nG : bm ≠ mainGlobals := fun q => by
        obtain ⟨o, es, ep, e, hd, _⟩ := hns
        rw [q, e] at b3
        cases b3
        rw [hd] at b6
        cases b6
      have nP : bm ≠ p.2 := fun q => by
        rw [q, hTp] at b3
        cases b3
        cases b6
      refine ⟨bm, ob, b1, b2, nG, nP, free b3 (fun z _ => ?_) (fun z => ?_), b4, b5, b6⟩
      · subst z
        rw [ha] at b3
        cases b3
        cases b6
      · rw [b6] at z
        cases z
    · obtain ⟨o, es, ep, e, hd, _⟩ := hns
      rw [z, hTp] at e
      cases e
      cases hd
  have e0 : Env0 P w K mg (hidT s₁.heap H) callerA [] s₁ H := ⟨rfl, md, fun b o e => of_hidT e, Nat.le_of_eq (hidT_size _ _), trivial, (fun b hb => by cases hb), hok, .of_eq hg⟩
  refine codeAny_mono ((F _ kB (nsB hns) TB).run callerA [] s₁ H ⟨[.ref a], []⟩ [.ref a] [.ref a] _ _ hr rfl e0 (hbind s₁ (.ref a)) (.cons rfl .nil) (hsp H hH hS)) fun r s' h => ?_
  match r, h with
  | .error e, ⟨_, _, _, _, _, _, _, _, _, _, _, _, z⟩ => exact z.elim
  | .ok .next, h => exact False.elim h
  | .ok .brk, h => exact False.elim h
  | .ok .cont, h => exact False.elim h
  | .ok (.ret u), ⟨v, H', os, bare, un, hok', rv, q⟩ =>
    have q : v = .bl true := q
    subst q
    obtain rfl : u = Value.bool true := rv
    have key : ∀ b o, b ∉ cs.map (·.2) → s₁.heap.get? b = some o → s'.heap.get? b = some o := fun b o nb e => by
      rcases hO b with z | ⟨ob, xs, z⟩
      · exact un.keep b o e (by rw [outT nb]; exact z) (fun m => by cases m) (by simp)
      · have z' : H b = some (.frz ob (.lst xs)) := by rw [outT nb]; exact z
        obtain ⟨e1, _⟩ := hok b _ z'
        obtain ⟨e2, _⟩ := hok' b _ (un.frzs b ob _ z')
        rw [e] at e1
        rw [e2, ← e1]
    have grown : ∀ p ∈ cs, ∃ more : Array Value, s'.heap.get? p.2 = some { cls := .none, data := .fields more } := fun p hp => by
      obtain ⟨more, z⟩ := un.tbls p.2 #[] (hH p hp)
      exact ⟨_, hok' p.2 _ z⟩
    refine ⟨rfl, ⟨fun b o e => ?_, fun b o e => ?_⟩, os, bare⟩
    · by_cases hb : b ∈ cs.map (·.2)
      · obtain ⟨p, hp, ep⟩ := List.mem_map.mp hb
        obtain ⟨more, hm⟩ := grown p hp
        rw [← ep] at e ⊢
        rw [hT p hp] at e
        cases e
        exact .inr (.inl ⟨((C p hp).tab (hT p hp)).isCodeTable, rfl, #[], more, rfl, by rw [Array.empty_append]; exact hm⟩)
      · exact .inl (key b o hb e)
    · by_cases hb : b ∈ cs.map (·.2)
      · obtain ⟨p, hp, ep⟩ := List.mem_map.mp hb
        obtain ⟨more, hm⟩ := grown p hp
        rw [← ep]
        exact ⟨_, hm⟩
      · exact ⟨o, key b o hb e⟩
theorem walk_ofTG {l : PySem.W.OpenLaw} {n k : Nat} {q : Program} {loose : List Str} {XP : (Str → Option Value) → Heap → Prop} {YP : World → Heap → Prop} {d : DefRec} {x : Str}
    (hn : l.most = some n) (hn2 : n ≤ sizeLine) (hdf : d.params.defaults = []) (hr : Room k callerA)
    (F : ∀ (w : World) (mg : Str → Option Value) (fa : Addr) (h : Heap), YP w h → h.Ns mainGlobals mg → mg d.name = some (.ref fa) →
      ∃ (K : PySem.W.Frag) (fd : FuncData) (cs : List (Addr × Addr)) (sp : Sp), K.In h ∧ (∀ p ∈ cs, h.get? p.2 = some { cls := .none, data := .fields #[] }) ∧ (∀ p ∈ cs, K.lookup p.2 = none) ∧ (∀ p ∈ cs, PySem.W.CodeHd h p.1 p.2) ∧ (∀ (s : Shared) (u : Value), BindsTo s fd ⟨[u], []⟩ [(x, u)]) ∧
        (∀ (H : Hp) (a : Addr) (ns : List Int), ns.length ≤ n → (∀ p ∈ cs, H p.2 = some (.tbl #[])) → SqL K H a (ns.map V.int) → sp [.ref a] H (fun v _ => v = .bl true) fun _ _ _ => False) ∧
        ∀ base : Heap, K.In base → base.Ns mainGlobals mg → (∀ p ∈ cs, LamX.TabB base mg p.1 p.2) → FnG l.prog w K mg base k fa fd [x] sp) :
    PySem.W.WalkO q loose XP YP l.row.toRowW d [] (fun f vs => PySem.call f vs) :=
  Att.attach_call hn hdf fun w s₀ s₁ mg mb fa o pm cd doc a vs ns G Y ho hd hcd hmg hobj hints hlen hg => by
    obtain ⟨K, fd, cs, sp, KX, hT, nT, C, hb, hsp, hF⟩ := F w mg fa _ Y G.T.g hmg
    exact law_callTG KX G.T.g G.T.b G.T.builtins G.T.nolimit hg hT nT C G.T.bmain hobj hints (Nat.le_trans hlen hn2) hr hF hb fun H hH hS => hsp H a ns hlen hH hS
end EV
set_option Elab.async false
set_option linter.all false
set_option maxRecDepth 100000
set_option maxHeartbeats 4000000
/-! EV24: a law's def. -/
namespace EV
open PySem PySem.Spec PyProof.Rows L2
def Tb.on (T : Tb) (bodies : Nat → E) (lam : LamD → Prop) (tbl : Addr → Str → Prop) : Tb := { T with lmk := true, lam := lam, tbl := tbl, body := bodies, run := fun n => wE T.bare (bodies n) }
/-- a law tells True -/
def wEndL : WK := { nx := fun _ => False, rt := fun d _ => d = .bl true, R := fun _ _ => False }
def spLaw (K : PySem.W.Frag) (Pt : Addr) : Sp := fun vs H Q _ => ∃ (a : Addr) (ns : List Int), vs = [.ref a] ∧ ns.length ≤ 63 ∧ SqL K H a (ns.map V.int) ∧ H Pt = some (.tbl #[]) ∧ ∀ H', Q (.bl true) H'
/-- the slots at a law's start: the script, the table of its lambdas at the slot j -/
def lawIn (m j : Nat) (ns : List Int) (Pt : Addr) (q : Str) : En := (wIn m [.fz (.gl (ns.map .int))]).set j (.tb Pt q)
section
variable {P : Program} {w : World} {K : PySem.W.Frag} {mg : Mg} {base : Heap} {k : Nat} {T : Tb} {X : Cx}
theorem bd_of (fine : Fine P w K mg base k T) (nd : X.N.Nodup) {l : LamD} {e : E} (ft : FitX X l e) (fl c : Addr) (Z : Zn) (A : Around) (outer : List Env) (s : Shared) (H : Hp) (E : XK) (hr : Room k (A.deeper (lamE l s.heap.objs.size fl c))) (hg : A.guards = some []) :
    PE (lamC P w K mg base X.N A outer s H E l fl c) l.body (tE K mg Z (fun cls d _ H => E cls d H) (wE T.bare e)) := by
  have o : Ok P w K mg base k T.bare (lamC P w K mg base X.N A outer s H E l fl c) (fun cls d _ H => E cls d H) :=
    ⟨⟨rfl, rfl, rfl, rfl, rfl, hr, deeper_guards hg⟩, fine.bare, takes_of (X := lamC P w K mg base X.N A outer s H E l fl c) (E := E) (E₁ := fun e' s'' => L2.CX P w outer H s E e' s'') rfl rfl rfl rfl, rfl, nd, fun e => nomatch e⟩
  exact (s_E e o l.body ft.ok).1 Z
theorem reps_ints {Hs : Hp} : ∀ ns : List Int, Reps K mg Hs (ns.map V.int) (ns.map D.int)
  | [] => .nil
  | n :: ns => .cons (.int n) (reps_ints ns)
theorem law_sound {N ps : List Str} {name qual : Str} {params : Arguments} {body : List Stmt} {scope : Scope} {f c Pt : Addr} {fd : FuncData} {ss : Ss} {j : Nat} {bodies : Nat → E}
    (F : FunD K name qual params body scope [] [] f fd) (S : FnScope N ps scope) (fine : Fine P w K mg base k T) (fx : FineX P w K mg base k T) (hcd : fd.code = .ref c) (TB : LamX.TabB base mg c Pt) (nT : K.lookup Pt = none) (hps : ps.length = 1) (hj : 0 < j) (hj2 : j < N.length)
    (hok : okSs N scope ss body = true) (hF : ∀ (lam : LamD → Prop) (tbl : Addr → Str → Prop) (q : Str) (ns : List Int), tbl Pt q → ns.length ≤ 63 → wSs (T.on bodies lam tbl) ss wEndL (lawIn N.length j ns Pt q)) : FnG P w K mg base (k + 3) f fd ps (spLaw K Pt) := by
  refine fnG_of F S (fun vs H Q E ⟨a, ns, e, _⟩ => by rw [e, hps]; rfl) ?_
  rintro cdv A outer s H vs Q E hc hr hg ⟨a, ns, rfl, hn, hS, hP, hq⟩
  rw [hcd] at hc
  subst hc
  obtain ⟨X, hX⟩ : ∃ X : Cx, X = cxOf (L2.CX P w) P w K mg base N qual scope f (.ref c) A outer s H E := ⟨_, rfl⟩
  obtain ⟨q0, hq0⟩ : ∃ q0 : Str, q0 = X.env.qual ++ "<lambda>" := ⟨_, rfl⟩
  have fine1 : Fine P w K mg base k (T.on bodies (fun l => FitX X l (bodies l.n)) (fun P' q' => P' = Pt ∧ q' = q0)) := ⟨fine.fn, fine.gl, fine.ca, fine.bi, fine.ty, fine.ff, fun l _ => rfl, fine.hd⟩
  have fx1 : FineX P w K mg base k (T.on bodies (fun l => FitX X l (bodies l.n)) (fun P' q' => P' = Pt ∧ q' = q0)) := ⟨fx.ex⟩
  have lm : LamOk P w K mg base k (T.on bodies (fun l => FitX X l (bodies l.n)) (fun P' q' => P' = Pt ∧ q' = q0)) X := by
    refine ⟨by subst hX; exact hr, fun l => Iff.rfl, fun P' q' ⟨e1, e2⟩ => ?_, fun l hl fl c' Z A' outer' s' H' E' r g => bd_of fine (by subst hX; exact S.nd) hl fl c' Z A' outer' s' H' E' r g⟩
    rw [e1, e2]
    exact ⟨c, by subst hX; rfl, by subst hX; exact TB, hq0⟩
  have ok : OkS P w K mg base k (T.on bodies (fun l => FitX X l (bodies l.n)) (fun P' q' => P' = Pt ∧ q' = q0)) X (fun cls d _ H => E cls d H) := by
    subst hX
    exact ⟨⟨⟨rfl, rfl, rfl, rfl, rfl, hr.mono (by omega), deeper_guards hg⟩, fine1, takes_of (E := E) (E₁ := fun e' s'' => L2.CX P w outer H s E e' s'') rfl rfl rfl rfl, rfl, S.nd, fun _ => lm⟩, fx1, passes_of (K := L2.CX P w outer H s E) (E₁ := fun e' s'' => L2.CX P w outer H s E e' s'') rfl, fun _ _ => rfl⟩
  have hw := hF (fun l => FitX X l (bodies l.n)) (fun P' q' => P' = Pt ∧ q' = q0) q0 ns ⟨rfl, rfl⟩ hn
  -- the still part: the script, where it is tracked
  obtain ⟨Hs, sub, hSs, nPs, hnew⟩ : ∃ Hs : Hp, Same Hs H ∧ SqL K Hs a (ns.map V.int) ∧ Hs Pt = none ∧ True := by
    rcases hS with z | z
    · refine ⟨fun b => if b = a then H b else none, fun b o (e : (if b = a then H b else none) = some o) => ?_, .inl ?_, ?_, trivial⟩
      · by_cases hb : b = a
        · rw [if_pos hb] at e; exact e
        · rw [if_neg hb] at e; cases e
      · rcases z with z | ⟨o, z⟩
        · exact .inl (by show (if a = a then H a else none) = _; rw [if_pos rfl]; exact z)
        · exact .inr ⟨o, by show (if a = a then H a else none) = _; rw [if_pos rfl]; exact z⟩
      · show (if Pt = a then H Pt else none) = none
        rw [if_neg]
        intro e
        rw [e] at hP
        rcases z with z | ⟨o, z⟩ <;> (rw [hP] at z; cases z)
    · exact ⟨fun _ => none, ⟨(fun b o e => by cases e), .inr z, rfl, trivial⟩⟩
  have S0 : SR K mg ⟨fun _ => none, fun _ => none, []⟩ Hs H (L2.start N [.ref a]) (lawIn N.length j ns Pt q0) := by
    have at0 : ∀ i, (lawIn N.length j ns Pt q0).at i = if i = j then .tb Pt q0 else if i = 0 then .fz (.gl (ns.map .int)) else .un := fun i => by
      unfold lawIn
      rw [at_set]
      by_cases hij : i = j
      · rw [if_pos hij, if_pos ⟨hij, by unfold wIn; simp; omega⟩]
      · rw [if_neg hij, if_neg (fun z => hij z.1), in_at]
        by_cases h0 : i = 0
        · rw [if_pos h0, h0]; rfl
        · rw [if_neg h0]
          cases i with
          | zero => exact absurd rfl h0
          | succ i => rfl
    have now : ∀ i b, ¬ Owns (L2.start N [.ref a]) (lawIn N.length j ns Pt q0) i b := fun i b ⟨_, h2⟩ => by
      rw [at0] at h2
      split at h2
      · cases h2
      · split at h2 <;> cases h2
    refine ⟨sub, fun b o e => (by cases e), fun b o e _ => (by cases e), fun b e => absurd rfl e, fun b _ => .inr rfl, ?_, fun i => ?_, fun i i' b h => absurd h (now i b), fun i b h => absurd h (now i b), fun q hq => (by cases hq), fun _ _ _ _ => rfl⟩
    · unfold lawIn L2.start wIn; simp
    · rw [at0]
      by_cases hij : i = j
      · rw [if_pos hij]
        exact ⟨nPs, #[], hP, True.intro, fun pos cv hcv => by
          have z : codeAmong pos [] = some cv := hcv
          simp [codeAmong] at z⟩
      · rw [if_neg hij]
        by_cases h0 : i = 0
        · rw [if_pos h0, h0]
          exact ⟨.ref a, by unfold L2.start; rfl, .gl hSs (reps_ints ns)⟩
        · rw [if_neg h0]; trivial
  have run := s_Ss ok ss body (by subst hX; exact hok) ⟨fun _ => none, fun _ => none, []⟩
  subst hX
  refine ⟨_, run, Hs, _, wEndL, S0, hw, ?_⟩
  exact ⟨fun _ _ _ _ a _ _ => a.elim, fun d σ' ρ' Hs' H' v e _ _ r => by
    have e : d = .bl true := e
    subst e
    cases r
    exact hq H', fun _ _ _ _ _ _ _ a _ _ _ => a.elim, fun _ _ _ _ a _ _ => a.elim, fun _ _ _ _ a _ _ => a.elim, fun _ _ _ _ _ _ a _ _ _ => a.elim⟩
end
end EV
set_option Elab.async false
set_option linter.all false
set_option maxRecDepth 100000
set_option maxHeartbeats 4000000
/-! EV25: the meanings, unfolded (for simp); promises of pure defs. -/
namespace EV
open PySem PySem.Spec PyProof.Rows L2
/-! ### slots -/
@[simp] theorem at_zero {s : Slot} {r : En} : En.at (s :: r) 0 = s := rfl
@[simp] theorem at_succ {s : Slot} {r : En} {i : Nat} : En.at (s :: r) (i + 1) = En.at r i := rfl
@[simp] theorem peek_inl {ρ : En} {d : D} : LD.peek ρ (.inl d) = some d := rfl
@[simp] theorem peek_inr {ρ : En} {i : Nat} : LD.peek ρ (.inr i) = (ρ.at i).peek := rfl
@[simp] theorem slot_inl {ρ : En} {d : D} : LD.slot ρ (.inl d) = .fz d := rfl
@[simp] theorem slot_inr {ρ : En} {i : Nat} : LD.slot ρ (.inr i) = (ρ.at i).lend := rfl
@[simp] theorem peek_fz {d : D} : (Slot.fz d).peek = some d := rfl
@[simp] theorem peek_ol {d : List D} : (Slot.ol d).peek = some (.lst d) := rfl
@[simp] theorem peek_bl {d : List D} : (Slot.bl d).peek = some (.lst d) := rfl
@[simp] theorem peek_oK {d} : (Slot.oK d).peek = some (.dK d) := rfl
@[simp] theorem peek_bK {d} : (Slot.bK d).peek = some (.dK d) := rfl
@[simp] theorem peek_oT {d} : (Slot.oT d).peek = some (.dT d) := rfl
@[simp] theorem peek_bT {d} : (Slot.bT d).peek = some (.dT d) := rfl
@[simp] theorem set_fz {d : D} : (Slot.fz d).set = true := rfl
@[simp] theorem set_ol {d : List D} : (Slot.ol d).set = true := rfl
@[simp] theorem set_bl {d : List D} : (Slot.bl d).set = true := rfl
@[simp] theorem set_oK {d} : (Slot.oK d).set = true := rfl
@[simp] theorem set_bK {d} : (Slot.bK d).set = true := rfl
@[simp] theorem set_oT {d} : (Slot.oT d).set = true := rfl
@[simp] theorem set_bT {d} : (Slot.bT d).set = true := rfl
@[simp] theorem set_pn {d} : (Slot.pn d).set = true := rfl
@[simp] theorem lent_un : Slot.un.lent = false := rfl
@[simp] theorem lent_fz {d : D} : (Slot.fz d).lent = false := rfl
@[simp] theorem lent_ol {d : List D} : (Slot.ol d).lent = false := rfl
@[simp] theorem lent_oK {d} : (Slot.oK d).lent = false := rfl
@[simp] theorem lent_oT {d} : (Slot.oT d).lent = false := rfl
@[simp] theorem lend_fz {d : D} : (Slot.fz d).lend = .fz d := rfl
@[simp] theorem lend_ol {d : List D} : (Slot.ol d).lend = .bl d := rfl
@[simp] theorem lend_bl {d : List D} : (Slot.bl d).lend = .bl d := rfl
@[simp] theorem lend_oK {d} : (Slot.oK d).lend = .bK d := rfl
@[simp] theorem lend_oT {d} : (Slot.oT d).lend = .bT d := rfl
@[simp] theorem lend_bK {d} : (Slot.bK d).lend = .bK d := rfl
@[simp] theorem lend_bT {d} : (Slot.bT d).lend = .bT d := rfl
@[simp] theorem lend_pn {n} : (Slot.pn n).lend = .pn n := rfl
@[simp] theorem back_fz {d : D} {t : Slot} : (Slot.fz d).back t = .fz d := rfl
@[simp] theorem back_un {t : Slot} : Slot.un.back t = .un := rfl
@[simp] theorem back_ol {d} {t : Slot} : (Slot.ol d).back t = t.unlend := rfl
@[simp] theorem back_oK {d} {t : Slot} : (Slot.oK d).back t = t.unlend := rfl
@[simp] theorem back_oT {d} {t : Slot} : (Slot.oT d).back t = t.unlend := rfl
@[simp] theorem back_bl {d} {t : Slot} : (Slot.bl d).back t = t := rfl
@[simp] theorem back_bK {d} {t : Slot} : (Slot.bK d).back t = t := rfl
@[simp] theorem back_bT {d} {t : Slot} : (Slot.bT d).back t = t := rfl
@[simp] theorem back_pn {d} {t : Slot} : (Slot.pn d).back t = t := rfl
@[simp] theorem unlend_bl {d} : (Slot.bl d).unlend = .ol d := rfl
@[simp] theorem unlend_bK {d} : (Slot.bK d).unlend = .oK d := rfl
@[simp] theorem unlend_bT {d} : (Slot.bT d).unlend = .oT d := rfl
@[simp] theorem backs_inr {i : Nat} {r : List LD} {s : Slot} {ss : List Slot} {ρ : En} : backs (.inr i :: r) (s :: ss) ρ = backs r ss (ρ.set i ((ρ.at i).back s)) := rfl
@[simp] theorem backs_inl {d : D} {r : List LD} {s : Slot} {ss : List Slot} {ρ : En} : backs (.inl d :: r) (s :: ss) ρ = backs r ss ρ := rfl
@[simp] theorem backs_nil {ss : List Slot} {ρ : En} : backs [] ss ρ = ρ := by cases ss <;> rfl
@[simp] theorem lentIx_nil : lentIx [] = [] := rfl
@[simp] theorem lentIx_inl {d : D} {r : List LD} : lentIx (.inl d :: r) = lentIx r := rfl
@[simp] theorem lentIx_inr {i : Nat} {r : List LD} : lentIx (.inr i :: r) = i :: lentIx r := rfl
@[simp] theorem lst_ol {d : List D} : (Slot.ol d).lst? = some d := rfl
@[simp] theorem lst_bl {d : List D} : (Slot.bl d).lst? = some d := rfl
@[simp] theorem putL_ol {d e : List D} : (Slot.ol d).putL e = .ol e := rfl
@[simp] theorem putL_bl {d e : List D} : (Slot.bl d).putL e = .bl e := rfl
@[simp] theorem tk_eq {n : Nat} {ρ : En} : tk n ρ = (List.range n).map ρ.at := rfl
/-! ### meanings -/
section
variable {T : Tb} {Q : D → En → Prop} {R : Exc → En → Prop} {ρ : En}
@[simp] theorem wE_lit {l : Lit} : wE T (.lit l) Q R ρ = Q l.d ρ := rfl
@[simp] theorem wE_v {i : Nat} : wE T (.v i) Q R ρ = wV i Q R ρ := rfl
@[simp] theorem wE_g {x : Str} : wE T (.g x) Q R ρ = ∃ d, T.G x = some d ∧ Q d ρ := rfl
@[simp] theorem wE_op1 {k : O1} {a : A} : wE T (.op1 k a) Q R ρ = wOp1 k (wA T a) Q R ρ := rfl
@[simp] theorem wE_op2 {k : O2} {a b : A} : wE T (.op2 k a b) Q R ρ = wOp2 k (wA T a) (wA T b) Q R ρ := rfl
@[simp] theorem wE_ch {k j : O2} {a b c : A} : wE T (.ch k j a b c) Q R ρ = wCh k j (wA T a) (wA T b) (wA T c) Q R ρ := rfl
@[simp] theorem wE_slc {a : A} {lo hi : OE} : wE T (.slc a lo hi) Q R ρ = wSlc (wA T a) (wOE T lo) (wOE T hi) Q R ρ := rfl
@[simp] theorem wE_and {es : Es} : wE T (.and es) Q R ρ = wAnds T es Q R ρ := rfl
@[simp] theorem wE_or {es : Es} : wE T (.or es) Q R ρ = wOrs T es Q R ρ := rfl
@[simp] theorem wE_not {e : E} : wE T (.not e) Q R ρ = wNot (wE T e) Q R ρ := rfl
@[simp] theorem wE_ite {t a b : E} : wE T (.ite t a b) Q R ρ = wIte (wE T t) (wE T a) (wE T b) Q R ρ := rfl
@[simp] theorem wE_tup {es : Es} : wE T (.tup es) Q R ρ = wEs T es (fun ds ρ1 => ds.length ≤ sizeLine ∧ Q (.tup ds) ρ1) R ρ := rfl
@[simp] theorem wE_fz {f : F} : wE T (.fz f) Q R ρ = wF T f Q R ρ := rfl
@[simp] theorem wE_att {a : A} {x : Str} : wE T (.att a x) Q R ρ = wAtt T (wA T a) x Q R ρ := rfl
@[simp] theorem wE_call {f : Str} {bs : Bs} : wE T (.call f bs) Q R ρ = wCall T f (wBs T bs) Q R ρ := rfl
@[simp] theorem wE_isi {a : A} {ts : List Ty} : wE T (.isi a ts) Q R ρ = wIsi T (wA T a) ts Q R ρ := rfl
@[simp] theorem wE_app {i : Nat} {e : E} : wE T (.app i e) Q R ρ = wApp i (wE T e) Q R ρ := rfl
@[simp] theorem wE_popL {i : Nat} : wE T (.popL i) Q R ρ = wPopL i Q R ρ := rfl
@[simp] theorem wE_popAt {i : Nat} {e : E} : wE T (.popAt i e) Q R ρ = wPopAt i (wE T e) Q R ρ := rfl
@[simp] theorem wE_rem {i : Nat} {e : E} : wE T (.rem i e) Q R ρ = wRem i (wE T e) Q R ρ := rfl
@[simp] theorem wE_lam {n : Nat} {e : E} : wE T (.lam n e) Q R ρ = wLam T n e Q R ρ := rfl
@[simp] theorem wE_err {f : Str} {a : A} : wE T (.err f a) Q R ρ = wErr T f (wA T a) Q R ρ := rfl
@[simp] theorem wA_e {e : E} {Q : LD → En → Prop} : wA T (.e e) Q R ρ = wE T e (fun d ρ1 => Q (.inl d) ρ1) R ρ := rfl
@[simp] theorem wA_pk {i : Nat} {Q : LD → En → Prop} : wA T (.pk i) Q R ρ = ((ρ.at i).set = true ∧ Q (.inr i) ρ) := rfl
@[simp] theorem wOE_no {Q : Option Int → En → Prop} : wOE T .no Q R ρ = Q none ρ := rfl
@[simp] theorem wOE_so {e : E} {Q : Option Int → En → Prop} : wOE T (.so e) Q R ρ = wE T e (fun d ρ1 => ∃ i, d = .int i ∧ Q (some i) ρ1) R ρ := rfl
@[simp] theorem wEs_nil {Q : List D → En → Prop} : wEs T .nil Q R ρ = Q [] ρ := rfl
@[simp] theorem wEs_cons {e : E} {es : Es} {Q : List D → En → Prop} : wEs T (.cons e es) Q R ρ = wE T e (fun d ρ1 => wEs T es (fun ds ρ2 => Q (d :: ds) ρ2) R ρ1) R ρ := rfl
@[simp] theorem wAnds_one {e : E} : wAnds T (.cons e .nil) Q R ρ = wE T e Q R ρ := rfl
@[simp] theorem wAnds_cons {e e' : E} {es : Es} : wAnds T (.cons e (.cons e' es)) Q R ρ = wE T e (fun d ρ1 => ∃ b, d = .bl b ∧ if b = true then wAnds T (.cons e' es) Q R ρ1 else Q (.bl false) ρ1) R ρ := rfl
@[simp] theorem wOrs_one {e : E} : wOrs T (.cons e .nil) Q R ρ = wE T e Q R ρ := rfl
@[simp] theorem wOrs_cons {e e' : E} {es : Es} : wOrs T (.cons e (.cons e' es)) Q R ρ = wE T e (fun d ρ1 => ∃ b, d = .bl b ∧ if b = true then Q (.bl true) ρ1 else wOrs T (.cons e' es) Q R ρ1) R ρ := rfl
@[simp] theorem wBs_nil {Q : List LD → En → Prop} : wBs T .nil Q R ρ = Q [] ρ := rfl
@[simp] theorem wBs_cons {b : A} {bs : Bs} {Q : List LD → En → Prop} : wBs T (.cons b bs) Q R ρ = wA T b (fun l ρ1 => wBs T bs (fun ls ρ2 => Q (l :: ls) ρ2) R ρ1) R ρ := rfl
@[simp] theorem wF_lst {es : Es} : wF T (.lst es) Q R ρ = wEs T es (fun ds ρ1 => ds.length ≤ sizeLine ∧ Q (.lst ds) ρ1) R ρ := rfl
@[simp] theorem wF_op1 {k : O1} {a : A} : wF T (.op1 k a) Q R ρ = wOp1 k (wA T a) Q R ρ := rfl
@[simp] theorem wF_op2 {k : O2} {a b : A} : wF T (.op2 k a b) Q R ρ = wOp2 k (wA T a) (wA T b) Q R ρ := rfl
@[simp] theorem wF_slc {a : A} {lo hi : OE} : wF T (.slc a lo hi) Q R ρ = wSlc (wA T a) (wOE T lo) (wOE T hi) Q R ρ := rfl
@[simp] theorem wF_dK : wF T .dK Q R ρ = Q (.dK []) ρ := rfl
@[simp] theorem wF_dT : wF T .dT Q R ρ = Q (.dT []) ρ := rfl
@[simp] theorem wF_rng {e : E} : wF T (.rng e) Q R ρ = wRng (wE T e) Q R ρ := rfl
@[simp] theorem wF_callF {f : Str} {bs : Bs} : wF T (.callF f bs) Q R ρ = wCallF T f (wBs T bs) Q R ρ := rfl
@[simp] theorem wF_disp {ks : List Str} {es : Es} : wF T (.disp ks es) Q R ρ = wEs T es (fun ds ρ1 => ks.length = ds.length ∧ ks.Nodup ∧ Q (.dK ((ks.map Sum.inr).zip ds)) ρ1) R ρ := rfl
@[simp] theorem wOp1_eq {k : O1} {wa : WA} : wOp1 k wa Q R ρ = wa (fun l ρ1 => ∃ d z, l.peek ρ1 = some d ∧ o1 k d = some z ∧ Q z ρ1) R ρ := rfl
@[simp] theorem wOp2_eq {k : O2} {wa wb : WA} : wOp2 k wa wb Q R ρ = wa (fun l ρ1 => wb (fun m ρ2 => ∃ d e z, l.peek ρ2 = some d ∧ m.peek ρ2 = some e ∧ o2 k d e = some z ∧ Q z ρ2) R ρ1) R ρ := rfl
@[simp] theorem wCh_eq {k j : O2} {wa wb wc : WA} : wCh k j wa wb wc Q R ρ = wa (fun l ρ1 => wb (fun m ρ2 => ∃ d e b, l.peek ρ2 = some d ∧ m.peek ρ2 = some e ∧ o2 k d e = some (.bl b) ∧
  if b = true then wc (fun n ρ3 => ∃ e' c z, m.peek ρ3 = some e' ∧ n.peek ρ3 = some c ∧ o2 j e' c = some z ∧ Q z ρ3) R ρ2 else Q (.bl false) ρ2) R ρ1) R ρ := rfl
@[simp] theorem wSlc_eq {wa : WA} {wl wh : WO} : wSlc wa wl wh Q R ρ = wa (fun l ρ1 => wl (fun lo ρ2 => wh (fun hi ρ3 => ∃ d z, l.peek ρ3 = some d ∧ o3 d lo hi = some z ∧ Q z ρ3) R ρ2) R ρ1) R ρ := rfl
@[simp] theorem wIte_eq {wt wa wb : WE} : wIte wt wa wb Q R ρ = wt (fun d ρ1 => ∃ b, d = .bl b ∧ if b = true then wa Q R ρ1 else wb Q R ρ1) R ρ := rfl
@[simp] theorem wNot_eq {wa : WE} : wNot wa Q R ρ = wa (fun d ρ1 => ∃ b, d = .bl b ∧ Q (.bl (!b)) ρ1) R ρ := rfl
@[simp] theorem wAtt_eq {wa : WA} {x : Str} : wAtt T wa x Q R ρ = wa (fun l ρ1 => ∃ C fs d, l.peek ρ1 = some (.obj C fs) ∧ (C, x) ∈ T.ats ∧ fs.lookup x = some d ∧ Q d ρ1) R ρ := rfl
@[simp] theorem wCall_eq {f : Str} {wb : WB} : wCall T f wb Q R ρ = ∃ F, T.Γ f = some F ∧ wb (fun ls ρ1 => (lentIx ls).Nodup ∧ F (ls.map (LD.slot ρ1)) (fun d ss => Q d (backs ls ss ρ1)) (fun c ss => R c (backs ls ss ρ1))) R ρ := rfl
@[simp] theorem wCallF_eq {f : Str} {wb : WB} : wCallF T f wb Q R ρ = ∃ F, T.Γf f = some F ∧ wb (fun ls ρ1 => (lentIx ls).Nodup ∧ F (ls.map (LD.slot ρ1)) (fun d ss => Q d (backs ls ss ρ1)) (fun c ss => R c (backs ls ss ρ1))) R ρ := rfl
@[simp] theorem wIsi_eq {wa : WA} {ts : List Ty} : wIsi T wa ts Q R ρ = (isiOk T.cls ts = true ∧ wa (fun l ρ1 => ∃ d b, l.peek ρ1 = some d ∧ isTys T.cls d ts = some b ∧ Q (.bl b) ρ1) R ρ) := rfl
@[simp] theorem wApp_eq {i : Nat} {we : WE} : wApp i we Q R ρ = ((∃ es, (ρ.at i).lst? = some es) ∧ we (fun d ρ1 => ∃ ds, (ρ1.at i).lst? = some ds ∧ ds.length < sizeLine ∧ Q .non (ρ1.set i ((ρ1.at i).putL (ds ++ [d])))) R ρ) := rfl
@[simp] theorem wPopL_eq {i : Nat} : wPopL i Q R ρ = ∃ ds d, (ρ.at i).lst? = some ds ∧ ds[ds.length - 1]? = some d ∧ Q d (ρ.set i ((ρ.at i).putL ds.dropLast)) := rfl
@[simp] theorem wPopAt_eq {i : Nat} {we : WE} : wPopAt i we Q R ρ = ((∃ es, (ρ.at i).lst? = some es) ∧ we (fun d ρ1 => ∃ ds, (ρ1.at i).lst? = some ds ∧ ∃ j k z, d = .int j ∧ -(2 ^ 63) ≤ j ∧ j < 2 ^ 63 ∧ seqIndex? j ds.length = some k ∧ ds[k]? = some z ∧
  Q z (ρ1.set i ((ρ1.at i).putL (ds.eraseIdx k)))) R ρ) := rfl
@[simp] theorem wRem_eq {i : Nat} {we : WE} : wRem i we Q R ρ = ((∃ es, (ρ.at i).lst? = some es) ∧ we (fun d ρ1 => ∃ ds, (ρ1.at i).lst? = some ds ∧ ∃ j, remD ds d = some j ∧ Q .non (ρ1.set i ((ρ1.at i).putL (ds.eraseIdx j)))) R ρ) := rfl
@[simp] theorem wRng_eq {we : WE} : wRng we Q R ρ = we (fun d ρ1 => ∃ j, d = .int j ∧ -(2 ^ 62) ≤ j ∧ j < 2 ^ 62 ∧ j.toNat ≤ 2 ^ 24 ∧ Q (.lst (upTo j.toNat 0)) ρ1) R ρ := rfl
def wVs (s : Slot) (i : Nat) : WE := fun Q _ ρ => match s with
  | .fz d => Q d ρ
  | .ol ds => Q (.lst ds) (ρ.set i (.fz (.lst ds)))
  | .oK kvs => Q (.dK kvs) (ρ.set i (.fz (.dK kvs)))
  | .oT kvs => Q (.dT kvs) (ρ.set i (.fz (.dT kvs)))
  | _ => False
@[simp] theorem wV_eq {i : Nat} : wV i Q R ρ = wVs (ρ.at i) i Q R ρ := rfl
@[simp] theorem wVs_fz {i : Nat} {d : D} : wVs (.fz d) i Q R ρ = Q d ρ := rfl
@[simp] theorem wVs_ol {i : Nat} {ds} : wVs (.ol ds) i Q R ρ = Q (.lst ds) (ρ.set i (.fz (.lst ds))) := rfl
@[simp] theorem wVs_oK {i : Nat} {ds} : wVs (.oK ds) i Q R ρ = Q (.dK ds) (ρ.set i (.fz (.dK ds))) := rfl
@[simp] theorem wVs_oT {i : Nat} {ds} : wVs (.oT ds) i Q R ρ = Q (.dT ds) (ρ.set i (.fz (.dT ds))) := rfl
/-- a slot's value is taken -/
theorem wV_fz {i : Nat} {d : D} (h : ρ.at i = .fz d) : wV i Q R ρ = Q d ρ := by unfold wV; rw [h]
theorem wV_ol {i : Nat} {ds : List D} (h : ρ.at i = .ol ds) : wV i Q R ρ = Q (.lst ds) (ρ.set i (.fz (.lst ds))) := by unfold wV; rw [h]
@[simp] theorem lit_int {i : Int} : (Lit.int i).d = .int i := rfl
@[simp] theorem lit_bl {i : Bool} : (Lit.bl i).d = .bl i := rfl
@[simp] theorem lit_str {i : Str} : (Lit.str i).d = .str i := rfl
@[simp] theorem lit_non : Lit.non.d = .non := rfl
end
section
variable {T : Tb} {k : WK} {ρ : En}
@[simp] theorem wSs_nil : wSs T .nil k ρ = k.nx ρ := rfl
@[simp] theorem wSs_cons {s : S} {ss : Ss} : wSs T (.cons s ss) k ρ = wS T s { k with nx := fun ρ1 => wSs T ss k ρ1 } ρ := rfl
@[simp] theorem wS_asg {t : Tg} {e : E} : wS T (.asg t e) k ρ = wE T e (fun d ρ1 => wTG t d k.nx ρ1) k.R ρ := rfl
@[simp] theorem wS_own {i : Nat} {f : F} : wS T (.own i f) k ρ = wF T f (fun d ρ1 => (ρ1.at i).lent = false ∧ k.nx (ρ1.set i (ownOf d))) k.R ρ := rfl
@[simp] theorem wS_par {is : List Nat} {rs : List RE} : wS T (.par is rs) k ρ = wREs T rs (fun ds ρ1 => wSets is rs ds k.nx ρ1) k.R ρ := rfl
@[simp] theorem wS_put {i : Nat} {a : A} {e : E} : wS T (.put i a e) k ρ = wE T e (fun d ρ1 => (ρ1.at i).set = true ∧ wA T a (fun l ρ2 => ∃ x s, l.peek ρ2 = some x ∧ putS (ρ2.at i) x d = some s ∧ k.nx (ρ2.set i s)) k.R ρ1) k.R ρ := rfl
@[simp] theorem wS_ex {e : E} : wS T (.ex e) k ρ = wE T e (fun _ ρ => k.nx ρ) k.R ρ := rfl
@[simp] theorem wS_ret {e : E} : wS T (.ret e) k ρ = wE T e k.rt k.R ρ := rfl
@[simp] theorem wS_retF {f : F} : wS T (.retF f) k ρ = wF T f k.rf k.R ρ := rfl
@[simp] theorem wS_pen {i : Nat} {f : F} : wS T (.pen i f) k ρ = wF T f (fun d ρ1 => (ρ1.at i).lent = false ∧ (∃ cells a dg c fo n, d = .dK (penK cells a dg c fo) ∧ penOk n cells a dg c fo ∧ k.nx (ρ1.set i (.pn n)))) k.R ρ := rfl
@[simp] theorem wS_retN : wS T .retN k ρ = k.rt .non ρ := rfl
@[simp] theorem wS_iff {c : E} {a b : Ss} : wS T (.iff c a b) k ρ = wE T c (fun d ρ1 => ∃ v, d = .bl v ∧ (if v = true then wSs T a k ρ1 else wSs T b k ρ1)) k.R ρ := rfl
@[simp] theorem wS_brk : wS T .brk k ρ = k.br ρ := rfl
@[simp] theorem wS_cnt : wS T .cnt k ρ = k.ct ρ := rfl
@[simp] theorem wS_pas : wS T .pas k ρ = k.nx ρ := rfl
@[simp] theorem wS_st {i : Nat} {f : Str} {e : E} : wS T (.st i f e) k ρ = wE T e (fun d ρ1 => ∃ C fs, ρ1.at i = .mk C fs ∧ (C, f) ∈ T.ats ∧ fs.length < 1000 ∧ k.nx (ρ1.set i (.mk C (putFD f d fs)))) k.R ρ := rfl
@[simp] theorem wS_rse {C : Str} {es : Es} : wS T (.rse C es) k ρ = ∃ ns, T.exc C = some ns ∧ wEs T es (fun ds ρ1 => ns.length = ds.length ∧ k.R ⟨C, (ns.zip ds).reverse⟩ ρ1) k.R ρ := rfl
@[simp] theorem wTG_n {i : Nat} {d : D} {Q : En → Prop} : wTG (.n i) d Q ρ = ((ρ.at i).lent = false ∧ Q (ρ.set i (.fz d))) := rfl
@[simp] theorem wTG_t {ts : Tgs} {ds : List D} {Q : En → Prop} : wTG (.t ts) (.tup ds) Q ρ ↔ ds.length = ts.len ∧ wTGs ts ds Q ρ := by
  constructor
  · rintro ⟨ds', h | h, h2⟩
    · cases h; exact h2
    · cases h
  · exact fun h => ⟨ds, .inl rfl, h⟩
@[simp] theorem wTGs_nil {Q : En → Prop} : wTGs .nil [] Q ρ ↔ Q ρ := ⟨fun h => h.2, fun h => ⟨rfl, h⟩⟩
@[simp] theorem wTGs_cons {t : Tg} {ts : Tgs} {x : D} {r : List D} {Q : En → Prop} : wTGs (.cons t ts) (x :: r) Q ρ ↔ wTG t x (wTGs ts r Q) ρ := by
  constructor
  · rintro ⟨x', r', h, h2⟩
    cases h; exact h2
  · exact fun h => ⟨x, r, rfl, h⟩
@[simp] theorem len_nil : Tgs.len .nil = 0 := rfl
@[simp] theorem len_cons {t : Tg} {ts : Tgs} : Tgs.len (.cons t ts) = ts.len + 1 := rfl
@[simp] theorem wREs_nil {Q : List D → En → Prop} {R : Exc → En → Prop} : wREs T [] Q R ρ = Q [] ρ := rfl
@[simp] theorem wREs_e {e : E} {rs : List RE} {Q : List D → En → Prop} {R : Exc → En → Prop} : wREs T (.e e :: rs) Q R ρ = wE T e (fun d ρ1 => wREs T rs (fun ds ρ2 => Q (d :: ds) ρ2) R ρ1) R ρ := rfl
@[simp] theorem wREs_f {f : F} {rs : List RE} {Q : List D → En → Prop} {R : Exc → En → Prop} : wREs T (.f f :: rs) Q R ρ = wF T f (fun d ρ1 => wREs T rs (fun ds ρ2 => Q (d :: ds) ρ2) R ρ1) R ρ := rfl
@[simp] theorem wSets_nil {Q : En → Prop} : wSets [] [] [] Q ρ = Q ρ := rfl
@[simp] theorem wSets_cons {i : Nat} {is : List Nat} {r : RE} {rs : List RE} {d : D} {ds : List D} {Q : En → Prop} : wSets (i :: is) (r :: rs) (d :: ds) Q ρ = ((ρ.at i).lent = false ∧ wSets is rs ds Q (ρ.set i (r.slot d))) := rfl
@[simp] theorem slot_e {e : E} {d : D} : (RE.e e).slot d = .fz d := rfl
@[simp] theorem slot_f {f : F} {d : D} : (RE.f f).slot d = ownOf d := rfl
@[simp] theorem own_lst {ds : List D} : ownOf (.lst ds) = .ol ds := rfl
@[simp] theorem own_dK {ds} : ownOf (.dK ds) = .oK ds := rfl
@[simp] theorem own_dT {ds} : ownOf (.dT ds) = .oT ds := rfl
@[simp] theorem off_Γ : T.off.Γ = T.Γ := rfl
@[simp] theorem off_G : T.off.G = T.G := rfl
@[simp] theorem off_ats : T.off.ats = T.ats := rfl
@[simp] theorem off_cls : T.off.cls = T.cls := rfl
@[simp] theorem off_exc : T.off.exc = T.exc := rfl
@[simp] theorem off_Γf : T.off.Γf = T.Γf := rfl
@[simp] theorem off_off : T.off.off = T.off := rfl
@[simp] theorem bare_Γ : T.bare.Γ = T.Γ := rfl
@[simp] theorem bare_G : T.bare.G = T.G := rfl
@[simp] theorem bare_ats : T.bare.ats = T.ats := rfl
@[simp] theorem bare_cls : T.bare.cls = T.cls := rfl
@[simp] theorem bare_exc : T.bare.exc = T.exc := rfl
end
/-! ### pure defs -/
inductive Res where
  | ok (d : D) | er (x : Exc)
def Res.go (r : Res) (Q : D → Prop) (R : Exc → Prop) : Prop := match r with
  | .ok d => Q d
  | .er x => R x
@[simp] theorem go_ok {d : D} {Q : D → Prop} {R : Exc → Prop} : (Res.ok d).go Q R = Q d := rfl
@[simp] theorem go_er {d : Exc} {Q : D → Prop} {R : Exc → Prop} : (Res.er d).go Q R = R d := rfl
/-- a def of n arguments that looks at still data alone -/
def P1 (f : D → Option Res) : FS := fun sl Qd R => ∃ a, sl = [.fz a] ∧ ∃ r, f a = some r ∧ r.go (fun d => Qd d sl) (fun x => R x sl)
def P2 (f : D → D → Option Res) : FS := fun sl Qd R => ∃ a b, sl = [.fz a, .fz b] ∧ ∃ r, f a b = some r ∧ r.go (fun d => Qd d sl) (fun x => R x sl)
def P3 (f : D → D → D → Option Res) : FS := fun sl Qd R => ∃ a b c, sl = [.fz a, .fz b, .fz c] ∧ ∃ r, f a b c = some r ∧ r.go (fun d => Qd d sl) (fun x => R x sl)
def P4 (f : D → D → D → D → Option Res) : FS := fun sl Qd R => ∃ a b c d, sl = [.fz a, .fz b, .fz c, .fz d] ∧ ∃ r, f a b c d = some r ∧ r.go (fun d => Qd d sl) (fun x => R x sl)
@[simp] theorem P1_at {f : D → Option Res} {a : D} {Qd : D → List Slot → Prop} {R : Exc → List Slot → Prop} : P1 f [.fz a] Qd R ↔ ∃ r, f a = some r ∧ r.go (fun d => Qd d [.fz a]) (fun x => R x [.fz a]) := by
  constructor
  · rintro ⟨a', h, h2⟩; cases h; exact h2
  · exact fun h => ⟨a, rfl, h⟩
@[simp] theorem P2_at {f : D → D → Option Res} {a b : D} {Qd : D → List Slot → Prop} {R : Exc → List Slot → Prop} : P2 f [.fz a, .fz b] Qd R ↔ ∃ r, f a b = some r ∧ r.go (fun d => Qd d [.fz a, .fz b]) (fun x => R x [.fz a, .fz b]) := by
  constructor
  · rintro ⟨a', b', h, h2⟩; cases h; exact h2
  · exact fun h => ⟨a, b, rfl, h⟩
@[simp] theorem P3_at {f : D → D → D → Option Res} {a b c : D} {Qd : D → List Slot → Prop} {R : Exc → List Slot → Prop} : P3 f [.fz a, .fz b, .fz c] Qd R ↔ ∃ r, f a b c = some r ∧ r.go (fun d => Qd d [.fz a, .fz b, .fz c]) (fun x => R x [.fz a, .fz b, .fz c]) := by
  constructor
  · rintro ⟨a', b', c', h, h2⟩; cases h; exact h2
  · exact fun h => ⟨a, b, c, rfl, h⟩
@[simp] theorem P4_at {f : D → D → D → D → Option Res} {a b c d : D} {Qd : D → List Slot → Prop} {R : Exc → List Slot → Prop} : P4 f [.fz a, .fz b, .fz c, .fz d] Qd R ↔ ∃ r, f a b c d = some r ∧ r.go (fun e => Qd e [.fz a, .fz b, .fz c, .fz d]) (fun x => R x [.fz a, .fz b, .fz c, .fz d]) := by
  constructor
  · rintro ⟨a', b', c', d', h, h2⟩; cases h; exact h2
  · exact fun h => ⟨a, b, c, d, rfl, h⟩
@[simp] theorem ex_not {a : Bool} {P : Bool → Prop} : (∃ v, a = !v ∧ P v) ↔ P (!a) := by
  constructor
  · rintro ⟨v, h, p⟩
    rw [h, Bool.not_not]
    exact p
  · exact fun h => ⟨!a, by simp, h⟩
@[simp] theorem ex_not' {a : Bool} {P : Bool → Prop} : (∃ v, (!v) = a ∧ P v) ↔ P (!a) := by
  constructor
  · rintro ⟨v, h, p⟩
    rw [← h, Bool.not_not]
    exact p
  · exact fun h => ⟨!a, by simp, h⟩
@[simp] theorem if_not {a : Bool} {A B : Prop} : (if (!a) = true then A else B) = if a = true then B else A := by cases a <;> simp
@[simp] theorem if_eqf {a : Bool} {A B : Prop} : (if a = false then A else B) = if a = true then B else A := by cases a <;> simp
end EV
set_option Elab.async false
set_option linter.all false
set_option maxRecDepth 100000
set_option maxHeartbeats 4000000
/-! EV26: operations on written data (for simp); loops. -/
namespace EV
open PySem PySem.Spec PyProof.Rows L2
/-! ### operations -/
@[simp] theorem o1_len_lst {ds : List D} : o1 .len (.lst ds) = some (.int ds.length) := rfl
@[simp] theorem o1_len_tup {ds : List D} : o1 .len (.tup ds) = some (.int ds.length) := rfl
@[simp] theorem o1_tup_lst {ds : List D} : o1 .tup (.lst ds) = some (.tup ds) := rfl
@[simp] theorem o1_tup_tup {ds : List D} : o1 .tup (.tup ds) = some (.tup ds) := rfl
@[simp] theorem o1_list_lst {ds : List D} : o1 .list (.lst ds) = some (.lst ds) := rfl
@[simp] theorem o1_list_tup {ds : List D} : o1 .list (.tup ds) = some (.lst ds) := rfl
@[simp] theorem o1_list_gl {ds : List D} : o1 .list (.gl ds) = some (.lst ds) := rfl
theorem o1_all {ds : List D} : o1 .all (.lst ds) = (asBls ds).map fun bs => .bl (bs.all id) := rfl
theorem o1_any {ds : List D} : o1 .any (.lst ds) = (asBls ds).map fun bs => .bl (bs.any id) := rfl
@[simp] theorem o1_all_map {α : Type} {f : α → Bool} {xs : List α} : o1 .all (.lst (xs.map fun x => .bl (f x))) = some (.bl (xs.all f)) := by
  have e : (xs.map fun x => D.bl (f x)) = (xs.map f).map D.bl := by rw [List.map_map]; rfl
  rw [o1_all, e, asBls_map]
  simp [List.all_map, Function.comp_def]
@[simp] theorem o1_any_map {α : Type} {f : α → Bool} {xs : List α} : o1 .any (.lst (xs.map fun x => .bl (f x))) = some (.bl (xs.any f)) := by
  have e : (xs.map fun x => D.bl (f x)) = (xs.map f).map D.bl := by rw [List.map_map]; rfl
  rw [o1_any, e, asBls_map]
  simp [List.any_map, Function.comp_def]
@[simp] theorem o1_int {i : Int} : o1 .int (.int i) = some (.int i) := rfl
@[simp] theorem o1_neg {i : Int} : o1 .neg (.int i) = some (.int (-i)) := rfl
@[simp] theorem o1_repr {d : D} : o1 .repr d = (reprD d).map .str := by cases d <;> rfl
@[simp] theorem o1_sorted {ds : List D} : o1 .sorted (.lst ds) = (sortD ds).map .lst := rfl
@[simp] theorem o2_add_int {i j : Int} : o2 .add (.int i) (.int j) = some (.int (i + j)) := rfl
@[simp] theorem o2_add_tup {xs ys : List D} : o2 .add (.tup xs) (.tup ys) = if xs.length + ys.length ≤ sizeLine then some (.tup (xs ++ ys)) else none := rfl
@[simp] theorem o2_add_lst {xs ys : List D} : o2 .add (.lst xs) (.lst ys) = if xs.length + ys.length ≤ sizeLine then some (.lst (xs ++ ys)) else none := rfl
@[simp] theorem o2_sub {i j : Int} : o2 .sub (.int i) (.int j) = some (.int (i - j)) := rfl
@[simp] theorem o2_mul_int {i j : Int} : o2 .mul (.int i) (.int j) = if i.natAbs.log2 + j.natAbs.log2 < 1000000 then some (.int (i * j)) else none := rfl
@[simp] theorem o2_mul_lst {xs : List D} {k : Int} : o2 .mul (.lst xs) (.int k) = if -(2 ^ 63) ≤ k ∧ k < 2 ^ 63 ∧ xs.length * k.toNat ≤ sizeLine then some (.lst (List.replicate k.toNat xs).flatten) else none := rfl
@[simp] theorem o2_fdiv {i j : Int} : o2 .fdiv (.int i) (.int j) = if 0 < j ∧ j.natAbs.log2 < 9000 then some (.int (i / j)) else none := rfl
@[simp] theorem o2_mod {i j : Int} : o2 .mod (.int i) (.int j) = if 0 < j then some (.int (i % j)) else none := rfl
@[simp] theorem o2_pow {i j : Int} : o2 .pow (.int i) (.int j) = if 0 ≤ j ∧ j ≤ 1000000 ∧ i.natAbs < 2 ^ 64 then some (.int (i ^ j.toNat)) else none := rfl
@[simp] theorem o2_eq {d e : D} : o2 .eq d e = (eqD d e).map .bl := by cases d <;> cases e <;> rfl
@[simp] theorem o2_ne {d e : D} : o2 .ne d e = (eqD d e).map fun b => .bl (!b) := by cases d <;> cases e <;> rfl
@[simp] theorem o2_lt {i j : Int} : o2 .lt (.int i) (.int j) = some (.bl (decide (i < j))) := rfl
@[simp] theorem o2_le {i j : Int} : o2 .le (.int i) (.int j) = some (.bl (decide (i ≤ j))) := rfl
@[simp] theorem o2_gt {i j : Int} : o2 .gt (.int i) (.int j) = some (.bl (decide (j < i))) := rfl
@[simp] theorem o2_ge {i j : Int} : o2 .ge (.int i) (.int j) = some (.bl (decide (j ≤ i))) := rfl
@[simp] theorem o2_in {d e : D} : o2 .in_ d e = (inD d e).map .bl := by cases d <;> cases e <;> rfl
@[simp] theorem o2_nin {d e : D} : o2 .nin d e = (inD d e).map fun b => .bl (!b) := by cases d <;> cases e <;> rfl
@[simp] theorem o2_is {d : D} : o2 .is_ d .non = some (.bl (isNon d)) := by cases d <;> rfl
@[simp] theorem o2_isn {d : D} : o2 .isn d .non = some (.bl (!isNon d)) := by cases d <;> rfl
@[simp] theorem isNon_non : isNon .non = true := rfl
@[simp] theorem isNon_int {i : Int} : isNon (.int i) = false := rfl
@[simp] theorem isNon_tup {i : List D} : isNon (.tup i) = false := rfl
@[simp] theorem o2_item_lst {ds : List D} {i : Int} : o2 .item (.lst ds) (.int i) = atI ds i := rfl
@[simp] theorem o2_item_tup {ds : List D} {i : Int} : o2 .item (.tup ds) (.int i) = atI ds i := rfl
@[simp] theorem o2_item_dK {kvs} {x : Str} : o2 .item (.dK kvs) (.str x) = valD kvs (.inr x) := rfl
@[simp] theorem o2_min {i j : Int} : o2 .min2 (.int i) (.int j) = some (.int (if j < i then j else i)) := rfl
@[simp] theorem o2_max {i j : Int} : o2 .max2 (.int i) (.int j) = some (.int (if j > i then j else i)) := rfl
@[simp] theorem o3_lst {ds : List D} {lo hi : Option Int} : o3 (.lst ds) lo hi = some (.lst (cutD ds lo hi)) := rfl
@[simp] theorem o3_tup {ds : List D} {lo hi : Option Int} : o3 (.tup ds) lo hi = some (.tup (cutD ds lo hi)) := rfl
theorem eqD_int {i j : Int} : eqD (.int i) (.int j) = some (decide (i = j)) := by
  have h : ∀ i : Int, SeqAt.shaped (.int i) = true := fun i => by simp [SeqAt.shaped, PyData.canLay0, PyData.depth]
  simp only [eqD, txtEq, eqP, toP, h, and_self, if_true, PyData.eqv]
  rfl
theorem atI_nat {α : Type} {xs : List α} {i : Int} {x : α} (h0 : 0 ≤ i) (h : xs[i.toNat]? = some x) : atI xs i = some x := by
  have lt := (List.getElem?_eq_some_iff.mp h).1
  unfold atI ixN
  rw [if_pos h0, if_pos (by omega)]
  exact h
theorem atI_last {α : Type} {xs : List α} {x : α} (h : xs[xs.length - 1]? = some x) : atI xs (-1) = some x := by
  have lt := (List.getElem?_eq_some_iff.mp h).1
  unfold atI ixN
  rw [if_neg (by omega), if_pos (by omega)]
  show xs[((-1 : Int) + xs.length).toNat]? = _
  rw [show ((-1 : Int) + xs.length).toNat = xs.length - 1 by omega]
  exact h
theorem cutD_to {ds : List D} {k : Int} (h : 0 ≤ k) : cutD ds none (some k) = ds.take k.toNat := by
  unfold cutD HT.sIx
  simp only [if_neg (show ¬ k < 0 by omega), List.drop_zero, Nat.sub_zero]
  rw [List.take_eq_take_iff]
  omega
theorem cutD_from {ds : List D} {k : Int} (h : 0 ≤ k) : cutD ds (some k) none = ds.drop k.toNat := by
  unfold cutD HT.sIx
  simp only [if_neg (show ¬ k < 0 by omega)]
  by_cases hk : k.toNat ≤ ds.length
  · rw [Nat.min_eq_left hk, List.take_of_length_le (by rw [List.length_drop]; omega)]
  · rw [Nat.min_eq_right (by omega), List.drop_length, List.take_nil, List.drop_eq_nil_of_le (by omega)]
/-! ### instance checks -/
/-- data whose type is a built-in one -/
def okD (d : D) : Bool := (tyB d).isSome
@[simp] theorem okD_int {i : Int} : okD (.int i) = true := by simp [okD, tyB]
@[simp] theorem okD_bl {i : Bool} : okD (.bl i) = true := by simp [okD, tyB]
@[simp] theorem okD_non : okD .non = true := by simp [okD, tyB]
@[simp] theorem okD_str {i : Str} : okD (.str i) = true := by simp [okD, tyB]
@[simp] theorem okD_tup {i : List D} : okD (.tup i) = true := by simp [okD, tyB]
@[simp] theorem okD_lst {i : List D} : okD (.lst i) = true := by simp [okD, tyB]
@[simp] theorem okD_dK {i} : okD (.dK i) = true := by simp [okD, tyB]
@[simp] theorem okD_dT {i} : okD (.dT i) = true := by simp [okD, tyB]
def isI : D → Bool
  | .int _ | .bl _ => true
  | _ => false
def isBo : D → Bool
  | .bl _ => true
  | _ => false
def isT : D → Bool
  | .tup _ | .gt _ => true
  | _ => false
def isL : D → Bool
  | .lst _ => true
  | _ => false
def isSt : D → Bool
  | .str _ => true
  | _ => false
def isW : D → Bool
  | .int _ => true
  | _ => false
@[simp] theorem isW_int {i : Int} : isW (.int i) = true := rfl
@[simp] theorem isW_bl {i : Bool} : isW (.bl i) = false := rfl
@[simp] theorem isW_non : isW .non = false := rfl
@[simp] theorem isW_tup {i : List D} : isW (.tup i) = false := rfl
@[simp] theorem isW_lst {i : List D} : isW (.lst i) = false := rfl
@[simp] theorem isW_str {i : Str} : isW (.str i) = false := rfl
theorem kits : (∀ n ∈ tyNames, kitB "NoneType" n = some false) ∧ (∀ n ∈ tyNames, kitB "bool" n = some (decide (n = "bool") || decide (n = "int"))) ∧ (∀ n ∈ tyNames, kitB "int" n = some (decide (n = "int"))) ∧
    (∀ n ∈ tyNames, kitB "str" n = some (decide (n = "str"))) ∧ (∀ n ∈ tyNames, kitB "tuple" n = some (decide (n = "tuple"))) ∧ (∀ n ∈ tyNames, kitB "list" n = some (decide (n = "list"))) ∧ (∀ n ∈ tyNames, kitB "dict" n = some (decide (n = "dict"))) := by decide +kernel
theorem isTy_b {cls : List Str} {d : D} {n : String} (h : okD d = true) : isTy cls d (.b n) = (tyB d).bind fun t => kitB t n := by
  cases d <;> first | rfl | (simp [okD, tyB] at h)
section
variable {cls : List Str} {d : D}
@[simp] theorem isTy_int (h : okD d = true) : isTy cls d (.b "int") = some (isI d) := by
  rw [isTy_b h]
  obtain ⟨k1, k2, k3, k4, k5, k6, k7⟩ := kits
  cases d <;> simp only [tyB, Option.bind_some, isI] <;> first | exact k1 _ (by decide) | exact k2 _ (by decide) | exact k3 _ (by decide) | exact k4 _ (by decide) | exact k5 _ (by decide) | exact k6 _ (by decide) | exact k7 _ (by decide) | (simp [okD, tyB] at h)
@[simp] theorem isTy_bool (h : okD d = true) : isTy cls d (.b "bool") = some (isBo d) := by
  rw [isTy_b h]
  obtain ⟨k1, k2, k3, k4, k5, k6, k7⟩ := kits
  cases d <;> simp only [tyB, Option.bind_some, isBo] <;> first | exact k1 _ (by decide) | exact k2 _ (by decide) | exact k3 _ (by decide) | exact k4 _ (by decide) | exact k5 _ (by decide) | exact k6 _ (by decide) | exact k7 _ (by decide) | (simp [okD, tyB] at h)
@[simp] theorem isTy_tuple (h : okD d = true) : isTy cls d (.b "tuple") = some (isT d) := by
  rw [isTy_b h]
  obtain ⟨k1, k2, k3, k4, k5, k6, k7⟩ := kits
  cases d <;> simp only [tyB, Option.bind_some, isT] <;> first | exact k1 _ (by decide) | exact k2 _ (by decide) | exact k3 _ (by decide) | exact k4 _ (by decide) | exact k5 _ (by decide) | exact k6 _ (by decide) | exact k7 _ (by decide) | (simp [okD, tyB] at h)
@[simp] theorem isTy_list (h : okD d = true) : isTy cls d (.b "list") = some (isL d) := by
  rw [isTy_b h]
  obtain ⟨k1, k2, k3, k4, k5, k6, k7⟩ := kits
  cases d <;> simp only [tyB, Option.bind_some, isL] <;> first | exact k1 _ (by decide) | exact k2 _ (by decide) | exact k3 _ (by decide) | exact k4 _ (by decide) | exact k5 _ (by decide) | exact k6 _ (by decide) | exact k7 _ (by decide) | (simp [okD, tyB] at h)
@[simp] theorem isTy_str (h : okD d = true) : isTy cls d (.b "str") = some (isSt d) := by
  rw [isTy_b h]
  obtain ⟨k1, k2, k3, k4, k5, k6, k7⟩ := kits
  cases d <;> simp only [tyB, Option.bind_some, isSt] <;> first | exact k1 _ (by decide) | exact k2 _ (by decide) | exact k3 _ (by decide) | exact k4 _ (by decide) | exact k5 _ (by decide) | exact k6 _ (by decide) | exact k7 _ (by decide) | (simp [okD, tyB] at h)
theorem isTy_c {C : Str} (h : okD d = true) (hC : C ∈ cls) : isTy cls d (.c C) = some false := by
  cases d <;> first | (simp [isTy, tyB, hC]; done) | (simp [okD, tyB] at h)
theorem isTy_obj {C : Str} {fs} (hC : C ∈ cls) : isTy cls (.obj C fs) (.c C) = some true := by simp [isTy, hC]
@[simp] theorem isTys_one {t : Ty} : isTys cls d [t] = isTy cls d t := by
  unfold isTys
  cases isTy cls d t with
  | none => rfl
  | some b => cases b <;> rfl
theorem isTys_two {t u : Ty} : isTys cls d [t, u] = match isTy cls d t with | some true => some true | some false => isTy cls d u | none => none := by
  have e : isTys cls d [t, u] = (match isTy cls d t with | some true => some true | some false => isTys cls d [u] | none => none) := rfl
  rw [isTys_one (t := u)] at e
  exact e
@[simp] theorem isTys_row (h : okD d = true) : isTys cls d [.b "tuple", .b "list"] = some (isT d || isL d) := by
  rw [isTys_two, isTy_tuple h, isTy_list h]
  cases isT d <;> rfl
@[simp] theorem isiOk_b {n : String} : isiOk cls [.b n] = true := by simp [isiOk]
@[simp] theorem isiOk_bb {n m : String} : isiOk cls [.b n, .b m] = true := by simp [isiOk]
theorem isiOk_c {C : Str} (hC : C ∈ cls) : isiOk cls [.c C] = true := by simp [isiOk, hC]
end
/-! ### loops -/
/-- a comprehension whose turns change no slot -/
theorem loop_pure {fd : D → (En → Prop) → En → Prop} {vs : List Nat} {lk : En → Prop} {c : (Bool → En → Prop) → (Exc → En → Prop) → En → Prop} {e : WE} {Q : List D → En → Prop} {ρ : En} {f : D → Option D} (hlk : lk ρ) :
    ∀ {ds acc : List D}, (∀ x ∈ ds, ∀ G : Option D → En → Prop, G (f x) ρ → fd x (fun ρ1 => c (fun b ρ2 => if b = true then e (fun y ρ3 => lentFree ρ3 vs ∧ G (some y) (wipeE ρ3 vs)) (fun _ _ => False) ρ2 else lentFree ρ2 vs ∧ G none (wipeE ρ2 vs)) (fun _ _ => False) ρ1) ρ) →
      Q (acc ++ ds.filterMap f) ρ → wLoop fd vs lk c e Q ds acc ρ
  | [], acc, _, hq => ⟨hlk, by simpa using hq⟩
  | x :: xs, acc, h, hq => by
    refine ⟨hlk, h x List.mem_cons_self (fun r ρ' => wLoop fd vs lk c e Q xs (match r with | some y => acc ++ [y] | none => acc) ρ') ?_⟩
    refine loop_pure hlk (fun z hz => h z (List.mem_cons_of_mem _ hz)) ?_
    cases hf : f x with
    | none => rw [List.filterMap_cons_none hf] at hq; exact hq
    | some y => rw [List.filterMap_cons_some hf] at hq; simpa using hq
/-- without a test -/
theorem loop_map {fd : D → (En → Prop) → En → Prop} {vs : List Nat} {lk : En → Prop} {T : Tb} {e : WE} {Q : List D → En → Prop} {ρ : En} {α : Type} {enc f : α → D} (hlk : lk ρ) {xs : List α}
    (h : ∀ x ∈ xs, ∀ G : D → En → Prop, G (f x) ρ → fd (enc x) (fun ρ1 => e (fun y ρ3 => lentFree ρ3 vs ∧ G y (wipeE ρ3 vs)) (fun _ _ => False) ρ1) ρ)
    (hq : Q (xs.map f) ρ) : wLoop fd vs lk (wCond T .no) e Q (xs.map enc) [] ρ := by
  have key : ∀ (xs : List α) (acc : List D), (∀ x ∈ xs, ∀ G : D → En → Prop, G (f x) ρ → fd (enc x) (fun ρ1 => e (fun y ρ3 => lentFree ρ3 vs ∧ G y (wipeE ρ3 vs)) (fun _ _ => False) ρ1) ρ) → Q (acc ++ xs.map f) ρ → wLoop fd vs lk (wCond T .no) e Q (xs.map enc) acc ρ := by
    intro xs
    induction xs with
    | nil => exact fun acc _ hq => ⟨hlk, by simpa using hq⟩
    | cons x xs ih =>
      intro acc h hq
      refine ⟨hlk, ?_⟩
      have := h x List.mem_cons_self (fun y ρ' => wLoop fd vs lk (wCond T .no) e Q (xs.map enc) (acc ++ [y]) ρ') (ih _ (fun z hz => h z (List.mem_cons_of_mem _ hz)) (by simpa using hq))
      simpa [wCond] using this
  exact key xs [] h (by simpa using hq)
/-- with a test -/
theorem loop_if {fd : D → (En → Prop) → En → Prop} {vs : List Nat} {lk : En → Prop} {T : Tb} {t : E} {e : WE} {Q : List D → En → Prop} {ρ : En} {α : Type} {enc f : α → D} {p : α → Bool} (hlk : lk ρ) {xs : List α}
    (h : ∀ x ∈ xs, ∀ G : D → En → Prop, ∀ N : En → Prop, (p x = true → G (f x) ρ) → (p x = false → N ρ) → fd (enc x) (fun ρ1 => wE T t (fun d ρ2 => ∃ b, d = .bl b ∧ if b = true then e (fun y ρ3 => lentFree ρ3 vs ∧ G y (wipeE ρ3 vs)) (fun _ _ => False) ρ2 else lentFree ρ2 vs ∧ N (wipeE ρ2 vs)) (fun _ _ => False) ρ1) ρ)
    (hq : Q ((xs.filter p).map f) ρ) : wLoop fd vs lk (wCond T (.so t)) e Q (xs.map enc) [] ρ := by
  have key : ∀ (xs : List α) (acc : List D), (∀ x ∈ xs, ∀ G : D → En → Prop, ∀ N : En → Prop, (p x = true → G (f x) ρ) → (p x = false → N ρ) → fd (enc x) (fun ρ1 => wE T t (fun d ρ2 => ∃ b, d = .bl b ∧ if b = true then e (fun y ρ3 => lentFree ρ3 vs ∧ G y (wipeE ρ3 vs)) (fun _ _ => False) ρ2 else lentFree ρ2 vs ∧ N (wipeE ρ2 vs)) (fun _ _ => False) ρ1) ρ) → Q (acc ++ (xs.filter p).map f) ρ → wLoop fd vs lk (wCond T (.so t)) e Q (xs.map enc) acc ρ := by
    intro xs
    induction xs with
    | nil => exact fun acc _ hq => ⟨hlk, by simpa using hq⟩
    | cons x xs ih =>
      intro acc h hq
      refine ⟨hlk, ?_⟩
      have hh := fun z hz => h z (List.mem_cons_of_mem _ hz)
      refine h x List.mem_cons_self (fun y ρ' => wLoop fd vs lk (wCond T (.so t)) e Q (xs.map enc) (acc ++ [y]) ρ') (fun ρ' => wLoop fd vs lk (wCond T (.so t)) e Q (xs.map enc) acc ρ') (fun hp => ih _ hh ?_) (fun hp => ih _ hh ?_)
      · simpa [List.filter_cons, hp] using hq
      · simpa [List.filter_cons, hp] using hq
  exact key xs [] h (by simpa using hq)
/-- a for statement by an invariant -/
theorem for_ind {fd : D → (En → Prop) → En → Prop} {body : WS} {k : WK} {ds : List D} {ρ : En} (Iv : Nat → En → Prop) (h0 : Iv 0 ρ)
    (hs : ∀ i x ρ, ds[i]? = some x → Iv i ρ → ∀ next : En → Prop, (∀ ρ', Iv (i + 1) ρ' → next ρ') → fd x (fun ρ1 => body { k with nx := next, ct := next, br := k.nx } ρ1) ρ)
    (he : ∀ ρ, Iv ds.length ρ → k.nx ρ) : wFor fd body k ds ρ := by
  have key : ∀ (n : Nat) (i : Nat) (ρ : En), ds.length - i = n → i ≤ ds.length → Iv i ρ → wFor fd body k (ds.drop i) ρ := by
    intro n
    induction n with
    | zero =>
      intro i ρ hn hi iv
      have e : i = ds.length := by omega
      subst e
      rw [List.drop_length]
      exact he ρ iv
    | succ n ih =>
      intro i ρ hn hi iv
      have lt : i < ds.length := by omega
      rw [List.drop_eq_getElem_cons lt]
      exact hs i ds[i] ρ (List.getElem?_eq_getElem lt) iv _ fun ρ' iv' => ih (i + 1) ρ' (by omega) (by omega) iv'
  have := key ds.length 0 ρ (by omega) (by omega) h0
  rwa [List.drop_zero] at this
@[simp] theorem wS_fr {T : Tb} {vs : List Nat} {t : Tg} {it : IT} {b : Ss} {k : WK} {ρ : En} : wS T (.fr vs t it b) k ρ = wIT T it (fun ds lk ρ1 => (∀ ρ2, lk ρ2) ∧ wFor (wTG t) (wSs T b) k ds ρ1) k.R ρ := rfl
@[simp] theorem wF_comp {T : Tb} {vs : List Nat} {t : Tg} {it : IT} {c : OE} {e : E} {Q : D → En → Prop} {R : Exc → En → Prop} {ρ : En} : wF T (.comp vs t it c e) Q R ρ = wIT T it (fun ds lk ρ1 => lentFree ρ1 vs ∧ wLoop (wTG t) vs (fun ρ => lk (unwipe ρ1 ρ vs)) (wCond T.off c) (wE T.off e) (fun acc ρ2 => Q (.lst acc) (unwipe ρ1 ρ2 vs)) ds [] (wipeE ρ1 vs)) R ρ := rfl
section
variable {T : Tb} {Q : List D → (En → Prop) → En → Prop} {R : Exc → En → Prop} {ρ : En}
@[simp] theorem wIT_seq {a : A} : wIT T (.seq a) Q R ρ = wA T a (fun l ρ1 => ∃ d ds, l.peek ρ1 = some d ∧ items d = some ds ∧ Q ds (lkOf l ρ1) ρ1) R ρ := rfl
@[simp] theorem wIT_r1 {e : E} : wIT T (.r1 e) Q R ρ = wE T e (fun d ρ1 => ∃ j, d = .int j ∧ -(2 ^ 62) ≤ j ∧ j < 2 ^ 62 ∧ j.toNat ≤ sizeLine ∧ Q (upTo j.toNat 0) (fun _ => True) ρ1) R ρ := rfl
@[simp] theorem wIT_r2 {a b : E} : wIT T (.r2 a b) Q R ρ = wE T a (fun d ρ1 => wE T b (fun e ρ2 => ∃ i j, d = .int i ∧ e = .int j ∧ (-(2 ^ 62) ≤ i ∧ i < 2 ^ 62 ∧ -(2 ^ 62) ≤ j ∧ j < 2 ^ 62) ∧ (j - i).toNat ≤ sizeLine ∧ Q (upTo (j - i).toNat i) (fun _ => True) ρ2) R ρ1) R ρ := rfl
@[simp] theorem wIT_zip {a b : A} : wIT T (.zip a b) Q R ρ = wA T a (fun l ρ1 => wA T b (fun m ρ2 => ∃ d e, l.peek ρ2 = some d ∧ m.peek ρ2 = some e ∧
  ∃ xs ys, ((d = .lst xs ∧ e = .lst ys) ∨ (d = .tup xs ∧ e = .tup ys) ∨ (d = .tup xs ∧ e = .lst ys)) ∧ (tups xs ys).length ≤ sizeLine ∧ Q (tups xs ys) (fun ρ => lkOf l ρ2 ρ ∧ lkOf m ρ2 ρ) ρ2) R ρ1) R ρ := rfl
@[simp] theorem items_lst {ds : List D} : items (.lst ds) = some ds := rfl
@[simp] theorem items_tup {ds : List D} : items (.tup ds) = some ds := rfl
@[simp] theorem items_gl {ds : List D} : items (.gl ds) = some ds := rfl
@[simp] theorem lkOf_inl {d : D} {ρ ρ' : En} : lkOf (.inl d) ρ ρ' = True := rfl
theorem lkOf_inr {i : Nat} {ρ ρ' : En} : lkOf (.inr i) ρ ρ' = (match ρ.at i with | .fz _ => True | s => ρ'.at i = s) := rfl
@[simp] theorem wipeE_nil : wipeE ρ [] = ρ := rfl
@[simp] theorem wipeE_cons {v : Nat} {vs : List Nat} : wipeE ρ (v :: vs) = (wipeE ρ vs).set v .un := rfl
@[simp] theorem unwipe_nil {ρ0 : En} : unwipe ρ0 ρ [] = ρ := rfl
@[simp] theorem unwipe_cons {ρ0 : En} {v : Nat} {vs : List Nat} : unwipe ρ0 ρ (v :: vs) = (unwipe ρ0 ρ vs).set v ((ρ0.at v).fixed) := rfl
@[simp] theorem fixed_fz {d : D} : (Slot.fz d).fixed = .fz d := rfl
@[simp] theorem fixed_un : Slot.un.fixed = .un := rfl
theorem lentFree_cons {v : Nat} {vs : List Nat} : lentFree ρ (v :: vs) ↔ (ρ.at v).lent = false ∧ lentFree ρ vs := by simp [lentFree]
@[simp] theorem lentFree_one {v : Nat} : lentFree ρ [v] ↔ (ρ.at v).lent = false := by simp [lentFree]
@[simp] theorem lentFree_two {v u : Nat} : lentFree ρ [v, u] ↔ (ρ.at v).lent = false ∧ (ρ.at u).lent = false := by simp [lentFree]
end
theorem upTo_map (n : Nat) (lo : Int) : upTo n lo = (List.range n).map fun (k : Nat) => D.int (lo + (k : Int)) := rfl
end EV
set_option Elab.async false
set_option linter.all false
set_option maxRecDepth 100000
set_option maxHeartbeats 4000000
/-! PR: the defs of the program, of the laws' helpers, in the IR (written by genpr.py). -/
namespace PR
open PySem PySem.Spec PyProof.Rows L2 EV
/-- is_whole -/
def N_is_whole : List Str := [("value" : Str)]
def ir_is_whole : Ss := (.cons (.ret (.and (.cons (.isi (.pk 0) [.b "int"]) (.cons (.not (.isi (.pk 0) [.b "bool"])) .nil)))) .nil)
/-- is_row -/
def N_is_row : List Str := [("value" : Str)]
def ir_is_row : Ss := (.cons (.ret (.isi (.pk 0) [.b "tuple", .b "list"])) .nil)
/-- in_tuples -/
def N_in_tuples : List Str := [("value" : Str), ("item" : Str)]
def ir_in_tuples : Ss := (.cons (.iff (.not (.call "is_row" (.cons (.e (.v 0)) .nil))) (.cons (.ret (.v 0)) .nil) .nil) (.cons (.ret (.op1 .tup (.e (.fz (.comp [1] (.n 1) (.seq (.pk 0)) .no (.call "in_tuples" (.cons (.e (.v 1)) .nil))))))) .nil))
/-- is_tuple_of -/
def N_is_tuple_of : List Str := [("value" : Str), ("many" : Str)]
def ir_is_tuple_of : Ss := (.cons (.ret (.and (.cons (.isi (.pk 0) [.b "tuple"]) (.cons (.op2 .eq (.e (.op1 .len (.pk 0))) (.pk 1)) .nil)))) .nil)
/-- need_between -/
def N_need_between : List Str := [("what" : Str), ("number" : Str), ("low" : Str), ("high" : Str)]
def ir_need_between : Ss := (.cons (.iff (.not (.call "is_whole" (.cons (.e (.v 1)) .nil))) (.cons (.rse "BadNumber" (.cons (.v 0) (.cons (.v 1) .nil))) .nil) .nil) (.cons (.iff (.or (.cons (.and (.cons (.op2 .isn (.pk 2) (.e (.lit .non))) (.cons (.op2 .lt (.pk 1) (.pk 2)) .nil))) (.cons (.and (.cons (.op2 .isn (.pk 3) (.e (.lit .non))) (.cons (.op2 .gt (.pk 1) (.pk 3)) .nil))) .nil))) (.cons (.rse "BadNumber" (.cons (.v 0) (.cons (.v 1) .nil))) .nil) .nil) .nil))
/-- is_face -/
def N_is_face : List Str := [("value" : Str), ("k" : Str), ("corner" : Str)]
def ir_is_face : Ss := (.cons (.iff (.or (.cons (.not (.isi (.pk 0) [.b "tuple"])) (.cons (.not (.ch .le .le (.e (.lit (.int 1))) (.e (.op1 .len (.pk 0))) (.e (.g "MOST_CORNERS")))) .nil))) (.cons (.ret (.lit (.bl false))) .nil) .nil) (.cons (.iff (.not (.op1 .all (.e (.fz (.comp [2] (.n 2) (.seq (.pk 0)) .no (.and (.cons (.call "is_whole" (.cons (.e (.v 2)) .nil)) (.cons (.ch .le .le (.e (.lit (.int 0))) (.pk 2) (.e (.g "MOST_CORNER"))) .nil)))))))) (.cons (.ret (.lit (.bl false))) .nil) .nil) (.cons (.ret (.op1 .all (.e (.fz (.comp [1] (.n 1) (.r1 (.op2 .sub (.e (.op1 .len (.pk 0))) (.e (.lit (.int 1))))) .no (.op2 .lt (.e (.op2 .item (.pk 0) (.pk 1))) (.e (.op2 .item (.pk 0) (.e (.op2 .add (.pk 1) (.e (.lit (.int 1))))))))))))) .nil)))
/-- sides_of -/
def N_sides_of : List Str := [("face" : Str), ("k" : Str)]
def ir_sides_of : Ss := (.cons (.iff (.op2 .eq (.e (.op1 .len (.pk 0))) (.e (.lit (.int 1)))) (.cons (.ret (.tup .nil)) .nil) .nil) (.cons (.ret (.op1 .tup (.e (.fz (.comp [1] (.n 1) (.r1 (.op1 .len (.pk 0))) .no (.tup (.cons (.op2 .add (.e (.slc (.pk 0) .no (.so (.v 1)))) (.e (.slc (.pk 0) (.so (.op2 .add (.pk 1) (.e (.lit (.int 1))))) .no))) (.cons (.ite (.op2 .eq (.e (.op2 .mod (.pk 1) (.e (.lit (.int 2))))) (.e (.lit (.int 0)))) (.lit (.int 1)) (.op1 .neg (.e (.lit (.int 1))))) .nil)))))))) .nil))
/-- sides -/
def N_sides : List Str := [("face" : Str), ("made" : Str)]
def ir_sides : Ss := (.cons (.asg (.n 1) (.call "in_tuples" (.cons (.e (.v 0)) .nil))) (.cons (.iff (.not (.call "is_face" (.cons (.e (.v 1)) .nil))) (.cons (.rse "BadFace" (.cons (.v 0) .nil)) .nil) .nil) (.cons (.ret (.call "sides_of" (.cons (.e (.v 1)) .nil))) .nil)))
/-- is_step -/
def N_is_step : List Str := [("made" : Str), ("numbers" : Str), ("last" : Str), ("side" : Str), ("sign" : Str)]
def ir_is_step : Ss := (.cons (.iff (.or (.cons (.not (.call "is_face" (.cons (.e (.op2 .item (.pk 0) (.e (.lit (.int 0))))) .nil))) (.cons (.not (.call "is_whole" (.cons (.e (.op2 .item (.pk 0) (.e (.lit (.int 1))))) .nil))) (.cons (.not (.ch .le .le (.pk 2) (.e (.op2 .item (.pk 0) (.e (.lit (.int 1))))) (.e (.g "MOST_TIME")))) .nil)))) (.cons (.ret (.lit (.bl false))) .nil) .nil) (.cons (.ret (.and (.cons (.op2 .nin (.e (.op2 .item (.pk 0) (.e (.lit (.int 0))))) (.pk 1)) (.cons (.op1 .all (.e (.fz (.comp [3, 4] (.t (.cons (.n 3) (.cons (.n 4) .nil))) (.seq (.e (.call "sides_of" (.cons (.e (.op2 .item (.pk 0) (.e (.lit (.int 0))))) .nil)))) .no (.op2 .in_ (.pk 3) (.pk 1)))))) .nil)))) .nil))
/-- Growth.__init__ -/
def N_Growth___init__ : List Str := [("self" : Str), ("steps" : Str), ("made" : Str), ("k" : Str), ("numbers" : Str), ("last" : Str), ("pair" : Str)]
def ir_Growth___init__ : Ss := (.cons (.asg (.n 2) (.call "in_tuples" (.cons (.e (.v 1)) .nil))) (.cons (.iff (.or (.cons (.not (.isi (.pk 2) [.b "tuple"])) (.cons (.not (.ch .le .le (.e (.lit (.int 1))) (.e (.op1 .len (.pk 2))) (.e (.g "MOST_STEPS")))) .nil))) (.cons (.rse "BadRow" (.cons (.v 1) .nil)) .nil) .nil) (.cons (.iff (.not (.op1 .all (.e (.fz (.comp [6] (.n 6) (.seq (.pk 2)) .no (.call "is_tuple_of" (.cons (.e (.v 6)) (.cons (.e (.lit (.int 2))) .nil)))))))) (.cons (.rse "BadRow" (.cons (.v 1) .nil)) .nil) .nil) (.cons (.par [4, 5] [.f (.dT), .e (.lit (.int 0))]) (.cons (.fr [3] (.n 3) (.r1 (.op1 .len (.pk 2))) (.cons (.iff (.not (.call "is_step" (.cons (.e (.op2 .item (.pk 2) (.pk 3))) (.cons (.pk 4) (.cons (.e (.v 5)) .nil))))) (.cons (.rse "BadGrowth" (.cons (.v 3) .nil)) .nil) .nil) (.cons (.put 4 (.e (.op2 .item (.e (.op2 .item (.pk 2) (.pk 3))) (.e (.lit (.int 0))))) (.v 3)) (.cons (.asg (.n 5) (.op2 .item (.e (.op2 .item (.pk 2) (.pk 3))) (.e (.lit (.int 1))))) .nil)))) (.cons (.st 0 "steps" (.v 2)) .nil))))))
/-- Growth.__eq__ -/
def N_Growth___eq__ : List Str := [("self" : Str), ("other" : Str)]
def ir_Growth___eq__ : Ss := (.cons (.iff (.not (.isi (.pk 1) [.c "Growth"])) (.cons (.ret (.lit (.bl false))) .nil) .nil) (.cons (.ret (.op2 .eq (.e (.att (.pk 0) "steps")) (.e (.att (.pk 1) "steps")))) .nil))
/-- Growth.__ne__ -/
def N_Growth___ne__ : List Str := [("self" : Str), ("other" : Str)]
def ir_Growth___ne__ : Ss := (.cons (.ret (.not (.op2 .eq (.pk 0) (.pk 1)))) .nil)
/-- need_growth -/
def N_need_growth : List Str := [("growth" : Str)]
def ir_need_growth : Ss := (.cons (.iff (.not (.isi (.pk 0) [.c "Growth"])) (.cons (.rse "Unlike" (.cons (.lit (.str "growth")) .nil)) .nil) .nil) .nil)
/-- is_side -/
def N_is_side : List Str := [("face" : Str), ("other" : Str), ("side" : Str), ("sign" : Str)]
def ir_is_side : Ss := (.cons (.ret (.op2 .in_ (.pk 0) (.e (.fz (.comp [2, 3] (.t (.cons (.n 2) (.cons (.n 3) .nil))) (.seq (.e (.call "sides" (.cons (.e (.v 1)) .nil)))) .no (.v 2)))))) .nil)
/-- need_exchange -/
def N_need_exchange : List Str := [("growth" : Str), ("k" : Str)]
def ir_need_exchange : Ss := (.cons (.iff (.or (.cons (.not (.call "is_whole" (.cons (.e (.v 1)) .nil))) (.cons (.not (.ch .le .lt (.e (.lit (.int 0))) (.pk 1) (.e (.op2 .sub (.e (.op1 .len (.e (.att (.pk 0) "steps")))) (.e (.lit (.int 1))))))) .nil))) (.cons (.rse "BadNumber" (.cons (.lit (.str "step")) (.cons (.v 1) .nil))) .nil) .nil) (.cons (.iff (.call "is_side" (.cons (.e (.op2 .item (.e (.op2 .item (.e (.att (.pk 0) "steps")) (.pk 1))) (.e (.lit (.int 0))))) (.cons (.e (.op2 .item (.e (.op2 .item (.e (.att (.pk 0) "steps")) (.e (.op2 .add (.pk 1) (.e (.lit (.int 1))))))) (.e (.lit (.int 0))))) .nil))) (.cons (.rse "Unlike" (.cons (.lit (.str "steps")) .nil)) .nil) .nil) .nil))
/-- exchanged_at -/
def N_exchanged_at : List Str := [("growth" : Str), ("k" : Str), ("one" : Str), ("first" : Str), ("other" : Str), ("second" : Str)]
def ir_exchanged_at : Ss := (.cons (.asg (.t (.cons (.t (.cons (.n 2) (.cons (.n 3) .nil))) (.cons (.t (.cons (.n 4) (.cons (.n 5) .nil))) .nil))) (.tup (.cons (.op2 .item (.e (.att (.pk 0) "steps")) (.pk 1)) (.cons (.op2 .item (.e (.att (.pk 0) "steps")) (.e (.op2 .add (.pk 1) (.e (.lit (.int 1)))))) .nil)))) (.cons (.ret (.call "Growth" (.cons (.e (.op2 .add (.e (.op2 .add (.e (.slc (.e (.att (.pk 0) "steps")) .no (.so (.v 1)))) (.e (.tup (.cons (.tup (.cons (.v 4) (.cons (.v 3) .nil))) (.cons (.tup (.cons (.v 2) (.cons (.v 5) .nil))) .nil)))))) (.e (.slc (.e (.att (.pk 0) "steps")) (.so (.op2 .add (.pk 1) (.e (.lit (.int 2))))) .no)))) .nil))) .nil))
/-- exchanged -/
def N_exchanged : List Str := [("growth" : Str), ("k" : Str)]
def ir_exchanged : Ss := (.cons (.ex (.call "need_growth" (.cons (.e (.v 0)) .nil))) (.cons (.ex (.call "need_exchange" (.cons (.e (.v 0)) (.cons (.e (.v 1)) .nil)))) (.cons (.ret (.call "exchanged_at" (.cons (.e (.v 0)) (.cons (.e (.v 1)) .nil)))) .nil)))
/-- timed_anew -/
def N_timed_anew : List Str := [("growth" : Str), ("times" : Str), ("row" : Str), ("time" : Str), ("k" : Str), ("step" : Str)]
def ir_timed_anew : Ss := (.cons (.ex (.call "need_growth" (.cons (.e (.v 0)) .nil))) (.cons (.asg (.n 2) (.call "in_tuples" (.cons (.e (.v 1)) .nil))) (.cons (.iff (.or (.cons (.not (.isi (.pk 2) [.b "tuple"])) (.cons (.op2 .ne (.e (.op1 .len (.pk 2))) (.e (.op1 .len (.e (.att (.pk 0) "steps"))))) .nil))) (.cons (.rse "BadRow" (.cons (.v 1) .nil)) .nil) .nil) (.cons (.iff (.not (.op1 .all (.e (.fz (.comp [3] (.n 3) (.seq (.pk 2)) .no (.and (.cons (.call "is_whole" (.cons (.e (.v 3)) .nil)) (.cons (.ch .le .le (.e (.lit (.int 0))) (.pk 3) (.e (.g "LAST_TIME"))) .nil)))))))) (.cons (.rse "BadRow" (.cons (.v 1) .nil)) .nil) .nil) (.cons (.iff (.not (.op1 .all (.e (.fz (.comp [4] (.n 4) (.r1 (.op2 .sub (.e (.op1 .len (.pk 2))) (.e (.lit (.int 1))))) .no (.op2 .le (.e (.op2 .item (.pk 2) (.pk 4))) (.e (.op2 .item (.pk 2) (.e (.op2 .add (.pk 4) (.e (.lit (.int 1))))))))))))) (.cons (.rse "BadRow" (.cons (.v 1) .nil)) .nil) .nil) (.cons (.ret (.call "Growth" (.cons (.e (.op1 .tup (.e (.fz (.comp [3, 5] (.t (.cons (.n 5) (.cons (.n 3) .nil))) (.zip (.e (.att (.pk 0) "steps")) (.pk 2)) .no (.tup (.cons (.op2 .item (.pk 5) (.e (.lit (.int 0)))) (.cons (.v 3) .nil)))))))) .nil))) .nil))))))
/-- put_in -/
def N_put_in : List Str := [("growth" : Str), ("k" : Str), ("face" : Str), ("time" : Str)]
def ir_put_in : Ss := (.cons (.ex (.call "need_growth" (.cons (.e (.v 0)) .nil))) (.cons (.ex (.call "need_between" (.cons (.e (.lit (.str "step"))) (.cons (.e (.v 1)) (.cons (.e (.lit (.int 0))) (.cons (.e (.op1 .len (.e (.att (.pk 0) "steps")))) .nil)))))) (.cons (.ret (.call "Growth" (.cons (.e (.op2 .add (.e (.op2 .add (.e (.slc (.e (.att (.pk 0) "steps")) .no (.so (.v 1)))) (.e (.tup (.cons (.tup (.cons (.v 2) (.cons (.v 3) .nil))) .nil))))) (.e (.slc (.e (.att (.pk 0) "steps")) (.so (.v 1)) .no)))) .nil))) .nil)))
/-- taken_out -/
def N_taken_out : List Str := [("growth" : Str), ("k" : Str), ("face" : Str), ("time" : Str)]
def ir_taken_out : Ss := (.cons (.ex (.call "need_growth" (.cons (.e (.v 0)) .nil))) (.cons (.ex (.call "need_between" (.cons (.e (.lit (.str "step"))) (.cons (.e (.v 1)) (.cons (.e (.lit (.int 0))) (.cons (.e (.op2 .sub (.e (.op1 .len (.e (.att (.pk 0) "steps")))) (.e (.lit (.int 1))))) .nil)))))) (.cons (.iff (.op2 .eq (.e (.op1 .len (.e (.att (.pk 0) "steps")))) (.e (.lit (.int 1)))) (.cons (.rse "Unlike" (.cons (.lit (.str "last")) .nil)) .nil) .nil) (.cons (.iff (.op1 .any (.e (.fz (.comp [2, 3] (.t (.cons (.n 2) (.cons (.n 3) .nil))) (.seq (.e (.slc (.e (.att (.pk 0) "steps")) (.so (.op2 .add (.pk 1) (.e (.lit (.int 1))))) .no))) .no (.call "is_side" (.cons (.e (.op2 .item (.e (.op2 .item (.e (.att (.pk 0) "steps")) (.pk 1))) (.e (.lit (.int 0))))) (.cons (.e (.v 2)) .nil))))))) (.cons (.rse "Unlike" (.cons (.lit (.str "steps")) .nil)) .nil) .nil) (.cons (.ret (.call "Growth" (.cons (.e (.op2 .add (.e (.slc (.e (.att (.pk 0) "steps")) .no (.so (.v 1)))) (.e (.slc (.e (.att (.pk 0) "steps")) (.so (.op2 .add (.pk 1) (.e (.lit (.int 1))))) .no)))) .nil))) .nil)))))
/-- _law_pen -/
def N__law_pen : List Str := [("script" : Str), ("fold" : Str), ("cell" : Str)]
def ir__law_pen : Ss := (.cons (.asg (.n 1) (.lit (.int 0))) (.cons (.fr [2] (.n 2) (.seq (.e (.v 0))) (.cons (.asg (.n 1) (.op2 .mod (.e (.op1 .int (.e (.op2 .add (.e (.op2 .mul (.pk 1) (.e (.lit (.int 61))))) (.pk 2))))) (.e (.lit (.int 998244353))))) .nil)) (.cons (.retF (.disp ["cells", "at", "digits", "count", "fold"] (.cons (.op1 .list (.pk 0)) (.cons (.lit (.int 0)) (.cons (.lit (.int 0)) (.cons (.lit (.int 0)) (.cons (.v 1) .nil))))))) .nil)))
/-- _law_draw -/
def N__law_draw : List Str := [("pen" : Str), ("many" : Str), ("blend" : Str), ("cell" : Str), ("digit" : Str)]
def ir__law_draw : Ss := (.cons (.put 0 (.e (.lit (.str "count"))) (.op2 .add (.e (.op2 .item (.pk 0) (.e (.lit (.str "count"))))) (.e (.lit (.int 1))))) (.cons (.iff (.and (.cons (.op2 .eq (.e (.op2 .item (.pk 0) (.e (.lit (.str "digits"))))) (.e (.lit (.int 0)))) (.cons (.op2 .lt (.e (.op2 .item (.pk 0) (.e (.lit (.str "at"))))) (.e (.op1 .len (.e (.op2 .item (.pk 0) (.e (.lit (.str "cells")))))))) .nil))) (.cons (.asg (.n 3) (.op2 .item (.e (.op2 .item (.pk 0) (.e (.lit (.str "cells"))))) (.e (.op2 .item (.pk 0) (.e (.lit (.str "at"))))))) (.cons (.put 0 (.e (.lit (.str "at"))) (.op2 .add (.e (.op2 .item (.pk 0) (.e (.lit (.str "at"))))) (.e (.lit (.int 1))))) (.cons (.iff (.op2 .ge (.pk 3) (.e (.op2 .pow (.e (.lit (.int 10))) (.e (.lit (.int 18)))))) (.cons (.put 0 (.e (.lit (.str "digits"))) (.op2 .sub (.pk 3) (.e (.op2 .pow (.e (.lit (.int 10))) (.e (.lit (.int 18))))))) .nil) (.cons (.put 0 (.e (.lit (.str "fold"))) (.op2 .mod (.e (.op1 .int (.e (.op2 .add (.e (.op2 .mul (.e (.op2 .item (.pk 0) (.e (.lit (.str "fold"))))) (.e (.lit (.int 40692))))) (.pk 3))))) (.e (.lit (.int 2147483399))))) .nil)) .nil))) .nil) (.cons (.iff (.op2 .gt (.e (.op2 .item (.pk 0) (.e (.lit (.str "digits"))))) (.e (.lit (.int 0)))) (.cons (.asg (.n 4) (.op2 .mod (.e (.op1 .int (.e (.op2 .item (.pk 0) (.e (.lit (.str "digits"))))))) (.pk 1))) (.cons (.put 0 (.e (.lit (.str "digits"))) (.op2 .fdiv (.e (.op2 .item (.pk 0) (.e (.lit (.str "digits"))))) (.pk 1))) (.cons (.ret (.v 4)) .nil))) .nil) (.cons (.asg (.n 2) (.op2 .add (.e (.op2 .add (.e (.op2 .item (.pk 0) (.e (.lit (.str "fold"))))) (.e (.op2 .mul (.e (.op2 .item (.pk 0) (.e (.lit (.str "count"))))) (.e (.lit (.int 9173))))))) (.e (.lit (.int 37))))) (.cons (.ret (.op2 .mod (.e (.op2 .fdiv (.e (.op1 .int (.e (.op2 .mod (.e (.op2 .pow (.pk 2) (.e (.lit (.int 23))))) (.e (.lit (.int 2305843009213693951))))))) (.e (.lit (.int 512))))) (.pk 1))) .nil)))))
/-- _law_pick -/
def N__law_pick : List Str := [("pen" : Str), ("some" : Str)]
def ir__law_pick : Ss := (.cons (.ret (.op2 .item (.pk 1) (.e (.call "_law_draw" (.cons (.pk 0) (.cons (.e (.op1 .len (.pk 1))) .nil)))))) .nil)
/-- _law_shuffled -/
def N__law_shuffled : List Str := [("pen" : Str), ("some" : Str), ("lap" : Str), ("left" : Str), ("found" : Str)]
def ir__law_shuffled : Ss := (.cons (.par [3, 4] [.f (.op1 .list (.pk 1)), .f (.lst .nil)]) (.cons (.fr [2] (.n 2) (.r1 (.op1 .len (.pk 1))) (.cons (.ex (.app 4 (.popAt 3 (.call "_law_draw" (.cons (.pk 0) (.cons (.e (.op1 .len (.pk 3))) .nil)))))) .nil)) (.cons (.ret (.v 4)) .nil)))
/-- _law_is_int -/
def N__law_is_int : List Str := [("thing" : Str)]
def ir__law_is_int : Ss := (.cons (.ret (.and (.cons (.isi (.pk 0) [.b "int"]) (.cons (.not (.isi (.pk 0) [.b "bool"])) .nil)))) .nil)
/-- _law_sides -/
def N__law_sides : List Str := [("face" : Str), ("k" : Str)]
def ir__law_sides : Ss := (.cons (.iff (.op2 .eq (.e (.op1 .len (.pk 0))) (.e (.lit (.int 1)))) (.cons (.ret (.fz (.lst .nil))) .nil) .nil) (.cons (.ret (.fz (.comp [1] (.n 1) (.r1 (.op1 .len (.pk 0))) .no (.tup (.cons (.op2 .add (.e (.slc (.pk 0) .no (.so (.v 1)))) (.e (.slc (.pk 0) (.so (.op2 .add (.pk 1) (.e (.lit (.int 1))))) .no))) (.cons (.ite (.op2 .eq (.e (.op2 .mod (.e (.op1 .int (.pk 1))) (.e (.lit (.int 2))))) (.e (.lit (.int 0)))) (.lit (.int 1)) (.op1 .neg (.e (.lit (.int 1))))) .nil)))))) .nil))
/-- _law_growth -/
def N__law_growth : List Str := [("pen" : Str), ("corners" : Str), ("most" : Str), ("turn" : Str), ("face" : Str), ("faces" : Str), ("steps" : Str), ("time" : Str), ("size" : Str), ("new" : Str), ("one" : Str)]
def ir__law_growth : Ss := (.cons (.par [5, 6, 7] [.f (.lst (.cons (.tup (.cons (.call "_law_draw" (.cons (.pk 0) (.cons (.e (.v 1)) .nil))) .nil)) .nil)), .f (.lst .nil), .e (.lit (.int 0))]) (.cons (.fr [3] (.n 3) (.r1 (.op2 .mul (.pk 2) (.e (.lit (.int 3))))) (.cons (.asg (.n 8) (.op2 .add (.e (.lit (.int 1))) (.e (.call "_law_pick" (.cons (.pk 0) (.cons (.e (.fz (.lst (.cons (.lit (.int 0)) (.cons (.lit (.int 1)) (.cons (.lit (.int 1)) (.cons (.lit (.int 2)) (.cons (.lit (.int 2)) (.cons (.lit (.int 3)) .nil))))))))) .nil)))))) (.cons (.asg (.n 4) (.op1 .tup (.e (.op1 .sorted (.e (.slc (.e (.call "_law_shuffled" (.cons (.pk 0) (.cons (.e (.fz (.rng (.v 1)))) .nil)))) .no (.so (.v 8)))))))) (.cons (.own 9 (.comp [10] (.n 10) (.seq (.e (.call "_law_parts" (.cons (.e (.v 4)) .nil)))) (.so (.op2 .nin (.pk 10) (.pk 5))) (.v 10))) (.cons (.iff (.and (.cons (.op2 .ne (.pk 9) (.e (.fz (.lst .nil)))) (.cons (.op2 .le (.e (.op2 .add (.e (.op1 .len (.pk 5))) (.e (.op1 .len (.pk 9))))) (.pk 2)) .nil))) (.cons (.own 5 (.op2 .add (.pk 5) (.pk 9))) .nil) .nil) .nil))))) (.cons (.fr [4] (.n 4) (.seq (.e (.call "_law_woven" (.cons (.pk 0) (.cons (.e (.v 5)) .nil))))) (.cons (.asg (.n 7) (.op2 .add (.pk 7) (.e (.call "_law_pick" (.cons (.pk 0) (.cons (.e (.fz (.lst (.cons (.lit (.int 0)) (.cons (.lit (.int 0)) (.cons (.lit (.int 1)) (.cons (.lit (.int 1)) (.cons (.lit (.int 2)) .nil)))))))) .nil)))))) (.cons (.ex (.app 6 (.tup (.cons (.v 4) (.cons (.v 7) .nil))))) .nil))) (.cons (.ret (.op1 .tup (.pk 6))) .nil))))
/-- _law_parts -/
def N__law_parts : List Str := [("face" : Str), ("found" : Str), ("corner" : Str), ("sized" : Str), ("one" : Str), ("size" : Str)]
def ir__law_parts : Ss := (.cons (.own 1 (.lst (.cons (.tup .nil) .nil))) (.cons (.fr [2] (.n 2) (.seq (.e (.v 0))) (.cons (.own 1 (.op2 .add (.pk 1) (.e (.fz (.comp [4] (.n 4) (.seq (.pk 1)) .no (.op2 .add (.pk 4) (.e (.tup (.cons (.v 2) .nil))))))))) .nil)) (.cons (.own 3 (.op1 .sorted (.e (.fz (.comp [4] (.n 4) (.seq (.pk 1)) (.so (.op2 .ne (.pk 4) (.e (.tup .nil)))) (.tup (.cons (.op1 .len (.pk 4)) (.cons (.v 4) .nil)))))))) (.cons (.ret (.fz (.comp [4, 5] (.t (.cons (.n 5) (.cons (.n 4) .nil))) (.seq (.pk 3)) .no (.v 4)))) .nil))))
/-- _law_woven -/
def N__law_woven : List Str := [("pen" : Str), ("faces" : Str), ("lap" : Str), ("left" : Str), ("found" : Str), ("free" : Str), ("one" : Str), ("face" : Str), ("side" : Str), ("sign" : Str)]
def ir__law_woven : Ss := (.cons (.par [3, 4] [.f (.op1 .list (.pk 1)), .f (.lst .nil)]) (.cons (.fr [2] (.n 2) (.r1 (.op1 .len (.pk 1))) (.cons (.own 5 (.comp [7] (.n 7) (.seq (.pk 3)) (.so (.op1 .all (.e (.fz (.comp [8, 9] (.t (.cons (.n 8) (.cons (.n 9) .nil))) (.seq (.e (.call "_law_sides" (.cons (.e (.v 7)) .nil)))) .no (.op2 .in_ (.pk 8) (.pk 4))))))) (.v 7))) (.cons (.asg (.n 6) (.call "_law_pick" (.cons (.pk 0) (.cons (.e (.v 5)) .nil)))) (.cons (.ex (.rem 3 (.v 6))) (.cons (.ex (.app 4 (.v 6))) .nil))))) (.cons (.ret (.v 4)) .nil)))
/-- _law_is_side -/
def N__law_is_side : List Str := [("face" : Str), ("other" : Str), ("corner" : Str)]
def ir__law_is_side : Ss := (.cons (.ret (.and (.cons (.op2 .eq (.e (.op1 .len (.pk 1))) (.e (.op2 .add (.e (.op1 .len (.pk 0))) (.e (.lit (.int 1)))))) (.cons (.op1 .all (.e (.fz (.comp [2] (.n 2) (.seq (.pk 0)) .no (.op2 .in_ (.pk 2) (.pk 1)))))) .nil)))) .nil)
/-- _law_turned -/
def N__law_turned : List Str := [("steps" : Str), ("k" : Str), ("one" : Str), ("other" : Str)]
def ir__law_turned : Ss := (.cons (.par [2, 3] [.e (.tup (.cons (.op2 .item (.e (.op2 .item (.pk 0) (.e (.op2 .add (.pk 1) (.e (.lit (.int 1))))))) (.e (.lit (.int 0)))) (.cons (.op2 .item (.e (.op2 .item (.pk 0) (.pk 1))) (.e (.lit (.int 1)))) .nil))), .e (.tup (.cons (.op2 .item (.e (.op2 .item (.pk 0) (.pk 1))) (.e (.lit (.int 0)))) (.cons (.op2 .item (.e (.op2 .item (.pk 0) (.e (.op2 .add (.pk 1) (.e (.lit (.int 1))))))) (.e (.lit (.int 1)))) .nil)))]) (.cons (.ret (.op2 .add (.e (.op2 .add (.e (.slc (.pk 0) .no (.so (.v 1)))) (.e (.tup (.cons (.v 2) (.cons (.v 3) .nil)))))) (.e (.slc (.pk 0) (.so (.op2 .add (.pk 1) (.e (.lit (.int 2))))) .no)))) .nil))
/-- _law_first_wrong -/
def N__law_first_wrong : List Str := [("steps" : Str), ("k" : Str), ("ahead" : Str), ("face" : Str), ("time" : Str), ("one" : Str), ("old" : Str), ("n" : Str), ("c" : Str), ("side" : Str), ("sign" : Str)]
def ir__law_first_wrong : Ss := (.cons (.fr [1] (.n 1) (.r1 (.op1 .len (.pk 0))) (.cons (.asg (.t (.cons (.n 3) (.cons (.n 4) .nil))) (.op2 .item (.pk 0) (.pk 1))) (.cons (.iff (.or (.cons (.not (.isi (.pk 3) [.b "tuple"])) (.cons (.not (.ch .le .le (.e (.lit (.int 1))) (.e (.op1 .len (.pk 3))) (.e (.lit (.int 5))))) (.cons (.not (.op1 .all (.e (.fz (.comp [8] (.n 8) (.seq (.pk 3)) .no (.call "_law_is_int" (.cons (.e (.v 8)) .nil))))))) .nil)))) (.cons (.ret (.v 1)) .nil) .nil) (.cons (.iff (.or (.cons (.not (.op1 .all (.e (.fz (.comp [8] (.n 8) (.seq (.pk 3)) .no (.ch .le .le (.e (.lit (.int 0))) (.pk 8) (.e (.lit (.int 11))))))))) (.cons (.op1 .any (.e (.fz (.comp [7] (.n 7) (.r1 (.op2 .sub (.e (.op1 .len (.pk 3))) (.e (.lit (.int 1))))) .no (.op2 .ge (.e (.op2 .item (.pk 3) (.pk 7))) (.e (.op2 .item (.pk 3) (.e (.op2 .add (.pk 7) (.e (.lit (.int 1)))))))))))) .nil))) (.cons (.ret (.v 1)) .nil) .nil) (.cons (.iff (.or (.cons (.not (.call "_law_is_int" (.cons (.e (.v 4)) .nil))) (.cons (.not (.ch .le .le (.e (.lit (.int 0))) (.pk 4) (.e (.lit (.int 999))))) (.cons (.and (.cons (.op2 .gt (.pk 1) (.e (.lit (.int 0)))) (.cons (.op2 .lt (.pk 4) (.e (.op2 .item (.e (.op2 .item (.pk 0) (.e (.op2 .sub (.pk 1) (.e (.lit (.int 1))))))) (.e (.lit (.int 1)))))) .nil))) .nil)))) (.cons (.ret (.v 1)) .nil) .nil) (.cons (.own 2 (.comp [5, 6] (.t (.cons (.n 5) (.cons (.n 6) .nil))) (.seq (.e (.slc (.pk 0) .no (.so (.v 1))))) .no (.v 5))) (.cons (.iff (.or (.cons (.op2 .in_ (.pk 3) (.pk 2)) (.cons (.not (.op1 .all (.e (.fz (.comp [9, 10] (.t (.cons (.n 9) (.cons (.n 10) .nil))) (.seq (.e (.call "_law_sides" (.cons (.e (.v 3)) .nil)))) .no (.op2 .in_ (.pk 9) (.pk 2))))))) .nil))) (.cons (.ret (.v 1)) .nil) .nil) .nil))))))) (.cons (.ret (.lit .non)) .nil))
/-- law -/
def N_law_k79 : List Str := [("script" : Str), ("pen" : Str), ("steps" : Str), ("turn" : Str), ("k" : Str), ("found" : Str), ("odd" : Str), ("bad" : Str), ("tries" : Str), ("growth" : Str), ("many" : Str), ("due" : Str), ("times" : Str), ("time" : Str), ("face" : Str), ("new" : Str), ("wrong" : Str), ("place" : Str), ("some" : Str), ("work" : Str), ("step" : Str), ("one" : Str), ("old" : Str), ("<lambda>" : Str)]
def ir_law_k79 : Ss := (.cons (.pen 1 (.callF "_law_pen" (.cons (.e (.v 0)) .nil))) (.cons (.asg (.n 2) (.call "_law_growth" (.cons (.pk 1) (.cons (.e (.op2 .add (.e (.lit (.int 3))) (.e (.call "_law_draw" (.cons (.pk 1) (.cons (.e (.lit (.int 4))) .nil)))))) (.cons (.e (.op2 .add (.e (.lit (.int 1))) (.e (.call "_law_draw" (.cons (.pk 1) (.cons (.e (.lit (.int 20))) .nil)))))) .nil))))) (.cons (.par [9, 10] [.e (.call "Growth" (.cons (.e (.v 2)) .nil)), .e (.op1 .len (.pk 2))]) (.cons (.fr [3] (.n 3) (.r1 (.lit (.int 4))) (.cons (.asg (.n 4) (.op2 .sub (.e (.call "_law_draw" (.cons (.pk 1) (.cons (.e (.op2 .add (.pk 10) (.e (.lit (.int 2))))) .nil)))) (.e (.lit (.int 1))))) (.cons (.asg (.n 11) (.lit .non)) (.cons (.iff (.not (.ch .le .lt (.e (.lit (.int 0))) (.pk 4) (.e (.op2 .sub (.pk 10) (.e (.lit (.int 1))))))) (.cons (.asg (.n 11) (.tup (.cons (.lit (.str "number")) (.cons (.lit (.str "step")) (.cons (.v 4) .nil))))) .nil) (.cons (.iff (.call "_law_is_side" (.cons (.e (.op2 .item (.e (.op2 .item (.pk 2) (.pk 4))) (.e (.lit (.int 0))))) (.cons (.e (.op2 .item (.e (.op2 .item (.pk 2) (.e (.op2 .add (.pk 4) (.e (.lit (.int 1))))))) (.e (.lit (.int 0))))) .nil))) (.cons (.asg (.n 11) (.tup (.cons (.lit (.str "unlike")) (.cons (.lit (.str "steps")) .nil)))) .nil) .nil) .nil)) (.cons (.iff (.op2 .is_ (.pk 11) (.e (.lit .non))) (.cons (.iff (.op2 .ne (.e (.op1 .repr (.e (.att (.e (.call "exchanged" (.cons (.e (.v 9)) (.cons (.e (.v 4)) .nil)))) "steps")))) (.e (.op1 .repr (.e (.call "_law_turned" (.cons (.e (.v 2)) (.cons (.e (.v 4)) .nil))))))) (.cons (.ret (.lit (.bl false))) .nil) .nil) .nil) (.cons (.iff (.op2 .ne (.e (.op1 .repr (.e (.err "_law_error" (.e (.lam 10 (.call "exchanged" (.cons (.e (.v 9)) (.cons (.e (.v 4)) .nil))))))))) (.e (.op1 .repr (.pk 11)))) (.cons (.ret (.lit (.bl false))) .nil) .nil) .nil)) .nil))))) (.cons (.par [12, 13] [.f (.lst .nil), .e (.call "_law_draw" (.cons (.pk 1) (.cons (.e (.lit (.int 3))) .nil)))]) (.cons (.fr [4] (.n 4) (.r1 (.v 10)) (.cons (.ex (.app 12 (.v 13))) (.cons (.asg (.n 13) (.op2 .add (.pk 13) (.e (.call "_law_pick" (.cons (.pk 1) (.cons (.e (.fz (.lst (.cons (.lit (.int 0)) (.cons (.lit (.int 1)) (.cons (.lit (.int 5)) .nil)))))) .nil)))))) .nil))) (.cons (.asg (.n 5) (.call "timed_anew" (.cons (.e (.v 9)) (.cons (.e (.call "_law_pick" (.cons (.pk 1) (.cons (.e (.fz (.lst (.cons (.v 12) (.cons (.op1 .tup (.pk 12)) .nil))))) .nil)))) .nil)))) (.cons (.iff (.op2 .ne (.e (.op1 .repr (.e (.att (.pk 5) "steps")))) (.e (.op1 .repr (.e (.op1 .tup (.e (.fz (.comp [13, 20] (.t (.cons (.n 20) (.cons (.n 13) .nil))) (.zip (.pk 2) (.pk 12)) .no (.tup (.cons (.op2 .item (.pk 20) (.e (.lit (.int 0)))) (.cons (.v 13) .nil))))))))))) (.cons (.ret (.lit (.bl false))) .nil) .nil) (.cons (.asg (.n 4) (.call "_law_draw" (.cons (.pk 1) (.cons (.e (.v 10)) .nil)))) (.cons (.own 6 (.op2 .add (.e (.op2 .add (.e (.slc (.pk 12) .no (.so (.v 4)))) (.e (.fz (.lst (.cons (.lit (.bl true)) .nil)))))) (.e (.slc (.pk 12) (.so (.op2 .add (.pk 4) (.e (.lit (.int 1))))) .no)))) (.cons (.asg (.n 7) (.call "_law_pick" (.cons (.pk 1) (.cons (.e (.fz (.lst (.cons (.slc (.pk 12) .no (.so (.op1 .neg (.e (.lit (.int 1)))))) (.cons (.op2 .add (.pk 12) (.e (.fz (.lst (.cons (.lit (.int 999)) .nil))))) (.cons (.v 6) (.cons (.op2 .mul (.e (.fz (.lst (.cons (.op1 .neg (.e (.lit (.int 1)))) .nil)))) (.pk 10)) (.cons (.op2 .mul (.e (.fz (.lst (.cons (.lit (.int 1000)) .nil)))) (.pk 10)) (.cons (.lit .non) .nil))))))))) .nil)))) (.cons (.iff (.op2 .ne (.e (.op1 .repr (.e (.err "_law_error" (.e (.lam 9 (.call "timed_anew" (.cons (.e (.v 9)) (.cons (.e (.v 7)) .nil))))))))) (.e (.op1 .repr (.e (.tup (.cons (.lit (.str "row")) (.cons (.v 7) .nil))))))) (.cons (.ret (.lit (.bl false))) .nil) .nil) (.cons (.iff (.and (.cons (.op2 .gt (.pk 10) (.e (.lit (.int 1)))) (.cons (.op2 .ne (.e (.err "_law_error" (.e (.lam 8 (.call "timed_anew" (.cons (.e (.v 9)) (.cons (.e (.op2 .add (.e (.fz (.lst (.cons (.lit (.int 5)) .nil)))) (.e (.op2 .mul (.e (.fz (.lst (.cons (.lit (.int 4)) .nil)))) (.e (.op2 .sub (.pk 10) (.e (.lit (.int 1))))))))) .nil))))))) (.e (.tup (.cons (.lit (.str "row")) (.cons (.op2 .add (.e (.fz (.lst (.cons (.lit (.int 5)) .nil)))) (.e (.op2 .mul (.e (.fz (.lst (.cons (.lit (.int 4)) .nil)))) (.e (.op2 .sub (.pk 10) (.e (.lit (.int 1)))))))) .nil))))) .nil))) (.cons (.ret (.lit (.bl false))) .nil) .nil) (.cons (.fr [3] (.n 3) (.r1 (.lit (.int 4))) (.cons (.par [17, 18] [.e (.call "_law_draw" (.cons (.pk 1) (.cons (.e (.op2 .add (.pk 10) (.e (.lit (.int 1))))) .nil))), .e (.call "_law_shuffled" (.cons (.pk 1) (.cons (.e (.fz (.rng (.lit (.int 6))))) .nil)))]) (.cons (.asg (.n 14) (.op1 .tup (.e (.op1 .sorted (.e (.slc (.pk 18) .no (.so (.op2 .add (.e (.lit (.int 1))) (.e (.call "_law_draw" (.cons (.pk 1) (.cons (.e (.lit (.int 3))) .nil)))))))))))) (.cons (.asg (.n 14) (.call "_law_pick" (.cons (.pk 1) (.cons (.e (.fz (.lst (.cons (.v 14) (.cons (.v 14) (.cons (.tup (.cons (.lit (.int 0)) (.cons (.lit (.int 0)) .nil))) (.cons (.tup (.cons (.lit (.int 12)) .nil)) (.cons (.tup .nil) (.cons (.lit .non) (.cons (.tup (.cons (.lit (.int 0)) (.cons (.lit (.int 1)) (.cons (.lit (.int 2)) (.cons (.lit (.int 3)) (.cons (.lit (.int 4)) (.cons (.lit (.int 5)) .nil))))))) .nil)))))))))) .nil)))) (.cons (.asg (.n 13) (.call "_law_pick" (.cons (.pk 1) (.cons (.e (.fz (.lst (.cons (.op2 .item (.e (.op2 .item (.pk 2) (.e (.op2 .min2 (.pk 17) (.e (.op2 .sub (.pk 10) (.e (.lit (.int 1))))))))) (.e (.lit (.int 1)))) (.cons (.op2 .item (.e (.op2 .item (.pk 2) (.e (.op1 .neg (.e (.lit (.int 1))))))) (.e (.lit (.int 1)))) (.cons (.lit (.int 0)) (.cons (.lit (.int 1000)) (.cons (.lit (.bl true)) .nil)))))))) .nil)))) (.cons (.asg (.n 15) (.op2 .add (.e (.op2 .add (.e (.slc (.pk 2) .no (.so (.v 17)))) (.e (.tup (.cons (.tup (.cons (.v 14) (.cons (.v 13) .nil))) .nil))))) (.e (.slc (.pk 2) (.so (.v 17)) .no)))) (.cons (.asg (.n 16) (.call "_law_first_wrong" (.cons (.e (.v 15)) .nil))) (.cons (.iff (.op2 .is_ (.pk 16) (.e (.lit .non))) (.cons (.iff (.op2 .ne (.e (.op1 .repr (.e (.att (.e (.call "put_in" (.cons (.e (.v 9)) (.cons (.e (.v 17)) (.cons (.e (.v 14)) (.cons (.e (.v 13)) .nil)))))) "steps")))) (.e (.op1 .repr (.pk 15)))) (.cons (.ret (.lit (.bl false))) .nil) .nil) .nil) (.cons (.iff (.op2 .ne (.e (.op1 .repr (.e (.err "_law_error" (.e (.lam 7 (.call "put_in" (.cons (.e (.v 9)) (.cons (.e (.v 17)) (.cons (.e (.v 14)) (.cons (.e (.v 13)) .nil))))))))))) (.e (.op1 .repr (.e (.tup (.cons (.lit (.str "growth")) (.cons (.v 16) .nil))))))) (.cons (.ret (.lit (.bl false))) .nil) .nil) .nil)) (.cons (.asg (.n 4) (.op2 .sub (.e (.call "_law_draw" (.cons (.pk 1) (.cons (.e (.op2 .add (.pk 10) (.e (.lit (.int 2))))) .nil)))) (.e (.lit (.int 1))))) (.cons (.asg (.n 11) (.ite (.op2 .eq (.pk 10) (.e (.lit (.int 1)))) (.tup (.cons (.lit (.str "unlike")) (.cons (.lit (.str "last")) .nil))) (.lit .non))) (.cons (.iff (.not (.ch .le .lt (.e (.lit (.int 0))) (.pk 4) (.pk 10))) (.cons (.asg (.n 11) (.tup (.cons (.lit (.str "number")) (.cons (.lit (.str "step")) (.cons (.v 4) .nil))))) .nil) (.cons (.iff (.and (.cons (.op2 .is_ (.pk 11) (.e (.lit .non))) (.cons (.op1 .any (.e (.fz (.comp [21, 22] (.t (.cons (.n 21) (.cons (.n 22) .nil))) (.seq (.e (.slc (.pk 2) (.so (.op2 .add (.pk 4) (.e (.lit (.int 1))))) .no))) .no (.call "_law_is_side" (.cons (.e (.op2 .item (.e (.op2 .item (.pk 2) (.pk 4))) (.e (.lit (.int 0))))) (.cons (.e (.v 21)) .nil))))))) .nil))) (.cons (.asg (.n 11) (.tup (.cons (.lit (.str "unlike")) (.cons (.lit (.str "steps")) .nil)))) .nil) .nil) .nil)) (.cons (.iff (.op2 .is_ (.pk 11) (.e (.lit .non))) (.cons (.iff (.op2 .ne (.e (.op1 .repr (.e (.att (.e (.call "taken_out" (.cons (.e (.v 9)) (.cons (.e (.v 4)) .nil)))) "steps")))) (.e (.op1 .repr (.e (.op2 .add (.e (.slc (.pk 2) .no (.so (.v 4)))) (.e (.slc (.pk 2) (.so (.op2 .add (.pk 4) (.e (.lit (.int 1))))) .no))))))) (.cons (.ret (.lit (.bl false))) .nil) .nil) .nil) (.cons (.iff (.op2 .ne (.e (.op1 .repr (.e (.err "_law_error" (.e (.lam 6 (.call "taken_out" (.cons (.e (.v 9)) (.cons (.e (.v 4)) .nil))))))))) (.e (.op1 .repr (.pk 11)))) (.cons (.ret (.lit (.bl false))) .nil) .nil) .nil)) .nil)))))))))))) (.cons (.own 8 (.lst (.cons (.tup (.cons (.lam 5 (.call "exchanged" (.cons (.e (.v 2)) (.cons (.e (.lit (.int 0))) .nil)))) (.cons (.tup (.cons (.lit (.str "unlike")) (.cons (.lit (.str "growth")) .nil))) .nil))) .nil))) (.cons (.ex (.app 8 (.tup (.cons (.lam 4 (.call "timed_anew" (.cons (.e (.lit .non)) (.cons (.e (.lit .non)) .nil)))) (.cons (.tup (.cons (.lit (.str "unlike")) (.cons (.lit (.str "growth")) .nil))) .nil))))) (.cons (.ex (.app 8 (.tup (.cons (.lam 3 (.call "put_in" (.cons (.e (.lit (.int 5))) (.cons (.e (.lit (.int 0))) (.cons (.e (.tup (.cons (.lit (.int 0)) .nil))) (.cons (.e (.lit (.int 0))) .nil)))))) (.cons (.tup (.cons (.lit (.str "unlike")) (.cons (.lit (.str "growth")) .nil))) .nil))))) (.cons (.ex (.app 8 (.tup (.cons (.lam 2 (.call "taken_out" (.cons (.e (.lit (.str "growth"))) (.cons (.e (.lit (.int 0))) .nil)))) (.cons (.tup (.cons (.lit (.str "unlike")) (.cons (.lit (.str "growth")) .nil))) .nil))))) (.cons (.ex (.app 8 (.tup (.cons (.lam 1 (.call "put_in" (.cons (.e (.v 9)) (.cons (.e (.op2 .add (.pk 10) (.e (.lit (.int 1))))) (.cons (.e (.lit .non)) (.cons (.e (.lit .non)) .nil)))))) (.cons (.tup (.cons (.lit (.str "number")) (.cons (.lit (.str "step")) (.cons (.op2 .add (.pk 10) (.e (.lit (.int 1)))) .nil)))) .nil))))) (.cons (.ex (.app 8 (.tup (.cons (.lam 0 (.call "exchanged" (.cons (.e (.v 9)) (.cons (.e (.lit (.bl true))) .nil)))) (.cons (.tup (.cons (.lit (.str "number")) (.cons (.lit (.str "step")) (.cons (.lit (.bl true)) .nil)))) .nil))))) (.cons (.ret (.and (.cons (.op2 .eq (.e (.op1 .repr (.e (.att (.pk 9) "steps")))) (.e (.op1 .repr (.pk 2)))) (.cons (.op1 .all (.e (.fz (.tries "_law_error" 8 19 11)))) .nil)))) .nil)))))))))))))))))))))
def bodies_law_k79 : Nat → E
  | 0 => .call "exchanged" (.cons (.e (.v 9)) (.cons (.e (.lit (.bl true))) .nil))
  | 1 => .call "put_in" (.cons (.e (.v 9)) (.cons (.e (.op2 .add (.pk 10) (.e (.lit (.int 1))))) (.cons (.e (.lit .non)) (.cons (.e (.lit .non)) .nil))))
  | 2 => .call "taken_out" (.cons (.e (.lit (.str "growth"))) (.cons (.e (.lit (.int 0))) .nil))
  | 3 => .call "put_in" (.cons (.e (.lit (.int 5))) (.cons (.e (.lit (.int 0))) (.cons (.e (.tup (.cons (.lit (.int 0)) .nil))) (.cons (.e (.lit (.int 0))) .nil))))
  | 4 => .call "timed_anew" (.cons (.e (.lit .non)) (.cons (.e (.lit .non)) .nil))
  | 5 => .call "exchanged" (.cons (.e (.v 2)) (.cons (.e (.lit (.int 0))) .nil))
  | 6 => .call "taken_out" (.cons (.e (.v 9)) (.cons (.e (.v 4)) .nil))
  | 7 => .call "put_in" (.cons (.e (.v 9)) (.cons (.e (.v 17)) (.cons (.e (.v 14)) (.cons (.e (.v 13)) .nil))))
  | 8 => .call "timed_anew" (.cons (.e (.v 9)) (.cons (.e (.op2 .add (.e (.fz (.lst (.cons (.lit (.int 5)) .nil)))) (.e (.op2 .mul (.e (.fz (.lst (.cons (.lit (.int 4)) .nil)))) (.e (.op2 .sub (.pk 10) (.e (.lit (.int 1))))))))) .nil))
  | 9 => .call "timed_anew" (.cons (.e (.v 9)) (.cons (.e (.v 7)) .nil))
  | 10 => .call "exchanged" (.cons (.e (.v 9)) (.cons (.e (.v 4)) .nil))
  | _ => .lit .non
end PR
set_option Elab.async false
set_option linter.all false
set_option maxRecDepth 100000
set_option maxHeartbeats 4000000
namespace K79
open PySem PySem.Spec PyProof.Rows L2 EV PR
def top (i : Nat) : Stmt := (PySem.W.OpenLaw.row PySem.Challenge.rw_holelives_k79_steps_exchanged_put_in_tak).prog.main.body.getD i (.Pass ⟨0, 0, 0, 0⟩)
def meth (i j : Nat) : Stmt := match top i with
  | .ClassDef _ _ _ body .. => body.getD j (.Pass ⟨0, 0, 0, 0⟩)
  | _ => .Pass ⟨0, 0, 0, 0⟩
-- BadNumber.__init__: not covered: call HoleError.__init__(self, 'A number that is not allowed here.')
abbrev st_BadNumber___init__ : Stmt := meth 2 0
theorem ok_BadNumber___init__ : okInit [("self" : Str), ("what" : Str), ("number" : Str)] (defScope st_BadNumber___init__) "HoleError" ["what", "number"] (defBody st_BadNumber___init__) = true := by kernel_rfl
-- BadRow.__init__: not covered: call HoleError.__init__(self, 'A value that is no such row.')
abbrev st_BadRow___init__ : Stmt := meth 3 0
theorem ok_BadRow___init__ : okInit [("self" : Str), ("row" : Str)] (defScope st_BadRow___init__) "HoleError" ["row"] (defBody st_BadRow___init__) = true := by kernel_rfl
-- BadFace.__init__: not covered: call HoleError.__init__(self, 'A value that is no such face.')
abbrev st_BadFace___init__ : Stmt := meth 4 0
theorem ok_BadFace___init__ : okInit [("self" : Str), ("face" : Str)] (defScope st_BadFace___init__) "HoleError" ["face"] (defBody st_BadFace___init__) = true := by kernel_rfl
-- BadGrowth.__init__: not covered: call HoleError.__init__(self, 'A step that cannot be in a growth.')
abbrev st_BadGrowth___init__ : Stmt := meth 5 0
theorem ok_BadGrowth___init__ : okInit [("self" : Str), ("step" : Str)] (defScope st_BadGrowth___init__) "HoleError" ["step"] (defBody st_BadGrowth___init__) = true := by kernel_rfl
-- Unlike.__init__: not covered: call HoleError.__init__(self, 'Things that do not fit together.')
abbrev st_Unlike___init__ : Stmt := meth 6 0
theorem ok_Unlike___init__ : okInit [("self" : Str), ("what" : Str)] (defScope st_Unlike___init__) "HoleError" ["what"] (defBody st_Unlike___init__) = true := by kernel_rfl
abbrev st_is_whole : Stmt := top 8
theorem ok_is_whole : okSs N_is_whole (defScope st_is_whole) ir_is_whole (defBody st_is_whole) = true := by kernel_rfl
abbrev st_is_row : Stmt := top 9
theorem ok_is_row : okSs N_is_row (defScope st_is_row) ir_is_row (defBody st_is_row) = true := by kernel_rfl
abbrev st_in_tuples : Stmt := top 10
theorem ok_in_tuples : okSs N_in_tuples (defScope st_in_tuples) ir_in_tuples (defBody st_in_tuples) = true := by kernel_rfl
abbrev st_is_tuple_of : Stmt := top 11
theorem ok_is_tuple_of : okSs N_is_tuple_of (defScope st_is_tuple_of) ir_is_tuple_of (defBody st_is_tuple_of) = true := by kernel_rfl
abbrev st_need_between : Stmt := top 12
theorem ok_need_between : okSs N_need_between (defScope st_need_between) ir_need_between (defBody st_need_between) = true := by kernel_rfl
abbrev st_is_face : Stmt := top 18
theorem ok_is_face : okSs N_is_face (defScope st_is_face) ir_is_face (defBody st_is_face) = true := by kernel_rfl
abbrev st_sides_of : Stmt := top 19
theorem ok_sides_of : okSs N_sides_of (defScope st_sides_of) ir_sides_of (defBody st_sides_of) = true := by kernel_rfl
abbrev st_sides : Stmt := top 20
theorem ok_sides : okSs N_sides (defScope st_sides) ir_sides (defBody st_sides) = true := by kernel_rfl
abbrev st_is_step : Stmt := top 21
theorem ok_is_step : okSs N_is_step (defScope st_is_step) ir_is_step (defBody st_is_step) = true := by kernel_rfl
abbrev st_Growth___init__ : Stmt := meth 22 0
theorem ok_Growth___init__ : okSs N_Growth___init__ (defScope st_Growth___init__) ir_Growth___init__ (defBody st_Growth___init__) = true := by kernel_rfl
abbrev st_Growth___eq__ : Stmt := meth 22 1
theorem ok_Growth___eq__ : okSs N_Growth___eq__ (defScope st_Growth___eq__) ir_Growth___eq__ (defBody st_Growth___eq__) = true := by kernel_rfl
abbrev st_Growth___ne__ : Stmt := meth 22 2
theorem ok_Growth___ne__ : okSs N_Growth___ne__ (defScope st_Growth___ne__) ir_Growth___ne__ (defBody st_Growth___ne__) = true := by kernel_rfl
abbrev st_need_growth : Stmt := top 25
theorem ok_need_growth : okSs N_need_growth (defScope st_need_growth) ir_need_growth (defBody st_need_growth) = true := by kernel_rfl
abbrev st_is_side : Stmt := top 26
theorem ok_is_side : okSs N_is_side (defScope st_is_side) ir_is_side (defBody st_is_side) = true := by kernel_rfl
abbrev st_need_exchange : Stmt := top 27
theorem ok_need_exchange : okSs N_need_exchange (defScope st_need_exchange) ir_need_exchange (defBody st_need_exchange) = true := by kernel_rfl
abbrev st_exchanged_at : Stmt := top 28
theorem ok_exchanged_at : okSs N_exchanged_at (defScope st_exchanged_at) ir_exchanged_at (defBody st_exchanged_at) = true := by kernel_rfl
abbrev st_exchanged : Stmt := top 29
theorem ok_exchanged : okSs N_exchanged (defScope st_exchanged) ir_exchanged (defBody st_exchanged) = true := by kernel_rfl
abbrev st_timed_anew : Stmt := top 30
theorem ok_timed_anew : okSs N_timed_anew (defScope st_timed_anew) ir_timed_anew (defBody st_timed_anew) = true := by kernel_rfl
abbrev st_put_in : Stmt := top 31
theorem ok_put_in : okSs N_put_in (defScope st_put_in) ir_put_in (defBody st_put_in) = true := by kernel_rfl
abbrev st_taken_out : Stmt := top 32
theorem ok_taken_out : okSs N_taken_out (defScope st_taken_out) ir_taken_out (defBody st_taken_out) = true := by kernel_rfl
abbrev st__law_pen : Stmt := top 34
theorem ok__law_pen : okSs N__law_pen (defScope st__law_pen) ir__law_pen (defBody st__law_pen) = true := by kernel_rfl
abbrev st__law_draw : Stmt := top 35
theorem ok__law_draw : okSs N__law_draw (defScope st__law_draw) ir__law_draw (defBody st__law_draw) = true := by kernel_rfl
abbrev st__law_pick : Stmt := top 36
theorem ok__law_pick : okSs N__law_pick (defScope st__law_pick) ir__law_pick (defBody st__law_pick) = true := by kernel_rfl
abbrev st__law_shuffled : Stmt := top 37
theorem ok__law_shuffled : okSs N__law_shuffled (defScope st__law_shuffled) ir__law_shuffled (defBody st__law_shuffled) = true := by kernel_rfl
abbrev st__law_is_int : Stmt := top 38
theorem ok__law_is_int : okSs N__law_is_int (defScope st__law_is_int) ir__law_is_int (defBody st__law_is_int) = true := by kernel_rfl
abbrev st__law_sides : Stmt := top 39
theorem ok__law_sides : okSs N__law_sides (defScope st__law_sides) ir__law_sides (defBody st__law_sides) = true := by kernel_rfl
abbrev st__law_growth : Stmt := top 40
theorem ok__law_growth : okSs N__law_growth (defScope st__law_growth) ir__law_growth (defBody st__law_growth) = true := by kernel_rfl
abbrev st__law_parts : Stmt := top 41
theorem ok__law_parts : okSs N__law_parts (defScope st__law_parts) ir__law_parts (defBody st__law_parts) = true := by kernel_rfl
abbrev st__law_woven : Stmt := top 42
theorem ok__law_woven : okSs N__law_woven (defScope st__law_woven) ir__law_woven (defBody st__law_woven) = true := by kernel_rfl
-- _law_error: not covered: try:
abbrev st__law_error : Stmt := top 43
def hs__law_error : List (Str × List HF) := [("BadGrowth", [.txt "growth", .fld "step"]), ("BadNumber", [.txt "number", .fld "what", .fld "number"]), ("BadRow", [.txt "row", .fld "row"]), ("Unlike", [.txt "unlike", .fld "what"])]
theorem ok__law_error : okErrB [("work" : Str), ("fault" : Str)] (defScope st__law_error) hs__law_error (defBody st__law_error) = true := by kernel_rfl
abbrev st__law_is_side : Stmt := top 44
theorem ok__law_is_side : okSs N__law_is_side (defScope st__law_is_side) ir__law_is_side (defBody st__law_is_side) = true := by kernel_rfl
abbrev st__law_turned : Stmt := top 45
theorem ok__law_turned : okSs N__law_turned (defScope st__law_turned) ir__law_turned (defBody st__law_turned) = true := by kernel_rfl
abbrev st__law_first_wrong : Stmt := top 46
theorem ok__law_first_wrong : okSs N__law_first_wrong (defScope st__law_first_wrong) ir__law_first_wrong (defBody st__law_first_wrong) = true := by kernel_rfl
abbrev st_law : Stmt := top 47
theorem ok_law : okSs N_law_k79 (defScope st_law) ir_law_k79 (defBody st_law) = true := by kernel_rfl
end K79
set_option Elab.async false
set_option linter.all false
set_option maxRecDepth 100000
set_option maxHeartbeats 4000000
/-! G1: what the program's defs about faces and growths tell. -/
namespace PR
open PySem PySem.Spec PyProof.Rows L2 EV
def whole (d : D) : Option Res := if okD d = true then some (.ok (.bl (isW d))) else none
def rowF (d : D) : Option Res := if okD d = true then some (.ok (.bl (isT d || isL d))) else none
/-- lists as tuples, n deep -/
def tupz : Nat → D → D
  | n + 1, .tup ds => .tup (ds.map (tupz n))
  | n + 1, .lst ds => .tup (ds.map (tupz n))
  | _, d => d
def dep : Nat → D → Bool
  | 0, .tup _ | 0, .lst _ => false
  | n + 1, .tup ds | n + 1, .lst ds => decide (ds.length ≤ sizeLine) && ds.all (dep n)
  | _, .non | _, .int _ | _, .bl _ | _, .str _ => true
  | _, _ => false
def inT (n : Nat) (d : D) : Option Res := if dep n d = true then some (.ok (tupz n d)) else none
def tupOf (d m : D) : Option Res := match d, m with
  | .gt _, _ => none
  | d, .int m => if okD d = true then some (.ok (.bl (match d with | .tup ds => decide ((ds.length : Int) = m) | _ => false))) else none
  | _, _ => none
section
variable {T : Tb} {Q : WK}
theorem m_is_whole {a : D} (h : okD a = true) (q : Q.rt (.bl (isW a)) [.fz a]) : wSs T ir_is_whole Q [.fz a] := by
  unfold ir_is_whole
  simp [-Bool.exists_bool, -List.all_eq_true, -List.any_eq_true, h]
  cases a <;> simp [isI, isBo, isW] at q ⊢ <;> simp [*]
theorem m_is_row {a : D} (h : okD a = true) (q : Q.rt (.bl (isT a || isL a)) [.fz a]) : wSs T ir_is_row Q [.fz a] := by
  unfold ir_is_row
  simp [-Bool.exists_bool, -List.all_eq_true, -List.any_eq_true, h]
  exact q
theorem dep_okD {n : Nat} {d : D} (h : dep n d = true) : okD d = true := by
  cases n <;> cases d <;> simp [dep] at h <;> simp
theorem m_in_tuples {n : Nat} {d : D} (hr : T.Γ "is_row" = some (P1 rowF)) (hi : T.Γ "in_tuples" = some (P1 (inT n))) (h : dep (n + 1) d = true) (q : Q.rt (tupz (n + 1) d) [.fz d, .un]) : wSs T ir_in_tuples Q [.fz d, .un] := by
  unfold ir_in_tuples
  have hd := dep_okD h
  simp [-Bool.exists_bool, -List.all_eq_true, -List.any_eq_true, hr, rowF, hd]
  cases d with
  | tup ds =>
    simp [dep] at h
    simp [-Bool.exists_bool, -List.all_eq_true, -List.any_eq_true, isT]
    have e : ds = ds.map id := by simp
    rw [e]
    refine loop_map (f := tupz n) (enc := id) (by simp [lkOf_inr]) (fun c hc G hG => ?_) ?_
    · simp [-Bool.exists_bool, -List.all_eq_true, -List.any_eq_true, hi, inT, h.2 c hc]
      simpa using hG
    · simpa [tupz] using q
  | lst ds =>
    simp [dep] at h
    simp [-Bool.exists_bool, -List.all_eq_true, -List.any_eq_true, isT, isL]
    have e : ds = ds.map id := by simp
    rw [e]
    refine loop_map (f := tupz n) (enc := id) (by simp [lkOf_inr]) (fun c hc G hG => ?_) ?_
    · simp [-Bool.exists_bool, -List.all_eq_true, -List.any_eq_true, hi, inT, h.2 c hc]
      simpa using hG
    · simpa [tupz] using q
  | _ => first | (simp [isT, isL, tupz] at q ⊢; exact q) | (simp [dep] at h)
theorem m_is_tuple_of {d : D} {m : Int} (h : okD d = true) (q : Q.rt (.bl (match d with | .tup ds => decide ((ds.length : Int) = m) | _ => false)) [.fz d, .fz (.int m)]) (ng : ∀ ds, d ≠ .gt ds) : wSs T ir_is_tuple_of Q [.fz d, .fz (.int m)] := by
  unfold ir_is_tuple_of
  simp [-Bool.exists_bool, -List.all_eq_true, -List.any_eq_true, h]
  cases d with
  | tup ds => simp [-Bool.exists_bool, -List.all_eq_true, -List.any_eq_true, isT, eqD_int]; exact q
  | gt ds => exact absurd rfl (ng ds)
  | _ => simp [isT] at q ⊢; exact q
theorem m_in_tuples0 {d : D} (hr : T.Γ "is_row" = some (P1 rowF)) (h : dep 0 d = true) (q : Q.rt d [.fz d, .un]) : wSs T ir_in_tuples Q [.fz d, .un] := by
  unfold ir_in_tuples
  have hd := dep_okD h
  simp [-Bool.exists_bool, -List.all_eq_true, -List.any_eq_true, hr, rowF, hd]
  cases d <;> first | (simp [isT, isL] at q ⊢; exact q) | (simp [dep] at h)
end
/-- 0 ≤ n ≤ hi, and a whole number -/
def btw (n : D) (hi : Int) : Bool := match n with
  | .int n => decide (0 ≤ n) && decide (n ≤ hi)
  | _ => false
def badNum (w n : D) : Exc := ⟨"BadNumber", [("number", n), ("what", w)]⟩
def needF (w n lo hi : D) : Option Res := match lo, hi with
  | .int 0, .int hi => if okD n = true then some (if btw n hi = true then .ok .non else .er (badNum w n)) else none
  | _, _ => none
section
variable {T : Tb} {Q : WK}
theorem m_need_between {w n : D} {hi : Int} (hw : T.Γ "is_whole" = some (P1 whole)) (hx : T.exc "BadNumber" = some [("what" : Str), "number"]) (h : okD n = true) (q : btw n hi = true → Q.nx [.fz w, .fz n, .fz (.int 0), .fz (.int hi)]) (r : btw n hi = false → Q.R (badNum w n) [.fz w, .fz n, .fz (.int 0), .fz (.int hi)]) :
    wSs T ir_need_between Q [.fz w, .fz n, .fz (.int 0), .fz (.int hi)] := by
  unfold ir_need_between
  simp [-Bool.exists_bool, -List.all_eq_true, -List.any_eq_true, hw, whole, h, hx]
  cases n <;> simp [-Bool.exists_bool, -List.all_eq_true, -List.any_eq_true, isW, btw, badNum] at * <;> first | exact r | skip
  rename_i i
  by_cases h1 : i < 0
  · simp [h1]
    exact r (fun z => by omega)
  · simp [h1]
    by_cases h2 : hi < i
    · simp [h2]
      exact r (fun z => by omega)
    · simp [h2]
      exact q (by omega) (by omega)
end
/-! ### faces -/
/-- a face as data -/
def dF (f : List Int) : D := .tup (f.map .int)
def okC (c : Int) : Bool := decide (0 ≤ c) && decide (c ≤ 11)
def asc (f : List Int) : Bool := (List.range (f.length - 1)).all fun k => decide (f.getD k 0 < f.getD (k + 1) 0)
def okFace (f : List Int) : Bool := decide (1 ≤ f.length) && decide (f.length ≤ 5) && f.all okC && asc f
theorem at_ints {f : List Int} {k : Nat} (h : k < f.length) : atI (f.map D.int) (k : Int) = some (.int (f.getD k 0)) := by
  refine atI_nat (by omega) ?_
  rw [Int.toNat_natCast, List.getElem?_map, List.getElem?_eq_getElem h, List.getD_eq_getElem?_getD, List.getElem?_eq_getElem h]
  rfl
structure FaceT (T : Tb) : Prop where
  w : T.Γ "is_whole" = some (P1 whole)
  g1 : T.G "MOST_CORNERS" = some (.int 5)
  g2 : T.G "MOST_CORNER" = some (.int 11)
section
variable {T : Tb} {Q : WK}
theorem m_is_face {f : List Int} (t : FaceT T) (hz : f.length ≤ 1000) (q : Q.rt (.bl (okFace f)) [.fz (dF f), .un, .un]) : wSs T ir_is_face Q [.fz (dF f), .un, .un] := by
  obtain ⟨hw, g1, g2⟩ := t
  unfold ir_is_face
  simp [-Bool.exists_bool, -List.all_eq_true, -List.any_eq_true, dF, hw, g1, g2, isT]
  by_cases h1 : 1 ≤ f.length
  · by_cases h2 : f.length ≤ 5
    · simp [-Bool.exists_bool, -List.all_eq_true, -List.any_eq_true, h1, h2, show (1 : Int) ≤ f.length by omega, show (f.length : Int) ≤ 5 by omega]
      refine loop_map (f := fun c => .bl (okC c)) (by simp [lkOf_inr]) (fun c hc G hG => ?_) ?_
      · simp [-Bool.exists_bool, -List.all_eq_true, -List.any_eq_true, hw, g2, whole]
        by_cases h3 : 0 ≤ c
        · simpa [h3, okC] using hG
        · simpa [h3, okC] using hG
      · simp [-Bool.exists_bool, -List.all_eq_true, -List.any_eq_true]
        by_cases h4 : f.all okC = true
        · rw [if_pos h4, upTo_map]
          refine ⟨by omega, by omega, by unfold sizeLine; omega, loop_map (f := fun k : Nat => .bl (decide (f.getD k 0 < f.getD (k + 1) 0))) trivial (fun k hk G hG => ?_) ?_⟩
          · have hk' : k < f.length - 1 := List.mem_range.mp hk
            have e1 := at_ints (f := f) (k := k) (by omega)
            have e2 := at_ints (f := f) (k := k + 1) (by omega)
            rw [Int.natCast_add, Int.natCast_one] at e2
            simp [-Bool.exists_bool, -List.all_eq_true, -List.any_eq_true, e1, e2]
            simpa using hG
          · simp [-Bool.exists_bool, -List.all_eq_true, -List.any_eq_true]
            simpa [okFace, h1, h2, h4, asc, dF] using q
        · have h4' : f.all okC = false := by simpa using h4
          rw [if_neg h4]
          simpa [okFace, h1, h2, h4', dF] using q
    · simp [-Bool.exists_bool, -List.all_eq_true, -List.any_eq_true, h1, h2, show (1 : Int) ≤ f.length by omega, show ¬ (f.length : Int) ≤ 5 by omega]
      simpa [okFace, h2, dF] using q
  · simp [-Bool.exists_bool, -List.all_eq_true, -List.any_eq_true, h1, show ¬ (1 : Int) ≤ f.length by omega]
    simpa [okFace, h1, dF] using q
theorem m_is_face_non (t : FaceT T) (q : Q.rt (.bl false) [.fz .non, .un, .un]) : wSs T ir_is_face Q [.fz .non, .un, .un] := by
  unfold ir_is_face
  simp [-Bool.exists_bool, -List.all_eq_true, -List.any_eq_true, isT]
  exact q
end
end PR
set_option Elab.async false
set_option linter.all false
set_option maxRecDepth 100000
set_option maxHeartbeats 4000000
/-! G2: sides, steps, growths. -/
namespace PR
open PySem PySem.Spec PyProof.Rows L2 EV
/-- the sides of a face with their signs -/
def sidesL (f : List Int) : List (List Int × Int) := if f.length = 1 then [] else (List.range f.length).map fun k => (f.take k ++ f.drop (k + 1), if k % 2 = 0 then 1 else -1)
def encS (s : List Int × Int) : D := .tup [dF s.1, .int s.2]
theorem len_dF {f : List Int} : (f.map D.int).length = f.length := by simp
theorem cut_to {f : List Int} {k : Nat} : cutD (f.map D.int) none (some (k : Int)) = (f.take k).map D.int := by
  rw [cutD_to (by omega), Int.toNat_natCast, List.map_take]
theorem cut_from {f : List Int} {k : Nat} : cutD (f.map D.int) (some (k : Int)) none = (f.drop k).map D.int := by
  rw [cutD_from (by omega), Int.toNat_natCast, List.map_drop]
section
variable {T : Tb} {Q : WK}
theorem m_sides_of {f : List Int} (hz : f.length ≤ 1000) (q : Q.rt (.tup ((sidesL f).map encS)) [.fz (dF f), .un]) : wSs T ir_sides_of Q [.fz (dF f), .un] := by
  unfold ir_sides_of
  simp [-Bool.exists_bool, -List.all_eq_true, -List.any_eq_true, dF, eqD_int]
  by_cases h1 : f.length = 1
  · simp [-Bool.exists_bool, -List.all_eq_true, -List.any_eq_true, h1, show ((f.length : Nat) : Int) = 1 by omega]
    simpa [sidesL, h1, dF] using q
  · simp [-Bool.exists_bool, -List.all_eq_true, -List.any_eq_true, h1, show ¬ ((f.length : Nat) : Int) = 1 by omega]
    refine ⟨by omega, by unfold sizeLine; omega, ?_⟩
    rw [upTo_map]
    refine loop_map (f := fun k : Nat => encS (f.take k ++ f.drop (k + 1), if k % 2 = 0 then 1 else -1)) trivial (fun k hk G hG => ?_) ?_
    · have hk' : k < f.length := List.mem_range.mp hk
      have c1 := cut_to (f := f) (k := k)
      have c2 := cut_from (f := f) (k := k + 1)
      rw [Int.natCast_add, Int.natCast_one] at c2
      have e1 : min k f.length + (f.length - (k + 1)) ≤ sizeLine := by unfold sizeLine; omega
      have e2 : (2 : Nat) ≤ sizeLine := by unfold sizeLine; omega
      simp [-Bool.exists_bool, -List.all_eq_true, -List.any_eq_true, c1, c2, eqD_int, e1, e2]
      by_cases h2 : k % 2 = 0
      · have h3 : (k : Int) % 2 = 0 := by omega
        simp [h3, e2]
        simpa [h2, encS, dF] using hG
      · have h3 : ¬ (k : Int) % 2 = 0 := by omega
        have h4 : ¬ (2 : Int) ∣ k := by omega
        simp [h3, h4, e2]
        simpa [h2, encS, dF] using hG
    · simp [-Bool.exists_bool, -List.all_eq_true, -List.any_eq_true]
      simpa [sidesL, h1, dF, List.map_map, Function.comp_def] using q
end
/-! ### steps -/
/-- a face or None, a time or a bool -/
abbrev Cand := Option (List Int) × (Int ⊕ Bool)
def fcD : Option (List Int) → D
  | some f => dF f
  | none => .non
def tcD : Int ⊕ Bool → D
  | .inl t => .int t
  | .inr b => .bl b
def encC (c : Cand) : D := .tup [fcD c.1, tcD c.2]
@[simp] theorem okD_fc {c : Option (List Int)} : okD (fcD c) = true := by cases c <;> simp [fcD, dF]
@[simp] theorem okD_tc {c : Int ⊕ Bool} : okD (tcD c) = true := by cases c <;> simp [tcD]
@[simp] theorem okD_dF {f : List Int} : okD (dF f) = true := by simp [dF]
def kF (f : List Int) : List Key := f.map Sum.inl
theorem keys_ints (f : List Int) : keysOf (f.map D.int) = some (kF f) := by
  induction f with
  | nil => rfl
  | cons a f ih => simp [keysOf, keyOf, ih, kF]
theorem kF_inj {f g : List Int} (h : kF f = kF g) : f = g := by
  have : Function.Injective (Sum.inl : Int → Key) := fun a b e => Sum.inl.inj e
  exact (List.map_inj_right this).mp h
/-- the faces told, with their places -/
def numsFrom (n : Nat) : List (List Int) → List (List Key × D)
  | [] => []
  | f :: fs => (kF f, .int n) :: numsFrom (n + 1) fs
def nums (fs : List (List Int)) : List (List Key × D) := numsFrom 0 fs
theorem numsFrom_find {n : Nat} {fs : List (List Int)} {f : List Int} : (valD (numsFrom n fs) (kF f)).isSome = decide (f ∈ fs) := by
  induction fs generalizing n with
  | nil => simp [valD, numsFrom]
  | cons g fs ih =>
    have ih' := ih (n := n + 1)
    unfold valD at ih' ⊢
    simp only [numsFrom, List.find?_cons]
    by_cases h : kF g = kF f
    · have e := kF_inj h
      subst e
      simp
    · have ne : f ≠ g := fun e => h (by rw [e])
      simp only [h, decide_false]
      rw [ih']
      simp [ne]
theorem nums_in {fs : List (List Int)} {f : List Int} : inD (dF f) (.dT (nums fs)) = some (decide (f ∈ fs)) := by
  show (keysOf (f.map D.int)).map (fun k => (valD (nums fs) k).isSome) = _
  rw [keys_ints]
  simp [nums, numsFrom_find]
theorem numsFrom_len {n : Nat} {fs : List (List Int)} : (numsFrom n fs).length = fs.length := by
  induction fs generalizing n with
  | nil => rfl
  | cons f fs ih => simp [numsFrom, ih]
theorem numsFrom_append {n : Nat} {fs gs : List (List Int)} : numsFrom n (fs ++ gs) = numsFrom n fs ++ numsFrom (n + fs.length) gs := by
  induction fs generalizing n with
  | nil => simp [numsFrom]
  | cons f fs ih =>
    simp only [List.cons_append, numsFrom, ih, List.length_cons]
    rw [show n + 1 + fs.length = n + (fs.length + 1) by omega]
theorem nums_put {fs : List (List Int)} {f : List Int} (h : f ∉ fs) : putD (nums fs) (kF f) (.int fs.length) = nums (fs ++ [f]) := by
  have e : ((nums fs).any fun kv => decide (kv.1 = kF f)) = false := by
    have q := numsFrom_find (n := 0) (fs := fs) (f := f)
    rw [decide_eq_false h] at q
    unfold valD at q
    rw [Option.isSome_map] at q
    rw [List.any_eq_false]
    intro x hx
    have := (List.find?_eq_none.mp (Option.not_isSome_iff_eq_none.mp (by unfold nums; rw [q]; simp))) x hx
    exact this
  unfold putD
  rw [if_neg (by rw [e]; simp), nums, nums, numsFrom_append]
  simp [numsFrom]
def okStep (prev : List (List Int)) (last : Int) : Cand → Bool
  | (some f, .inl t) => okFace f && decide (last ≤ t) && decide (t ≤ 999) && !decide (f ∈ prev) && (sidesL f).all fun s => decide (s.1 ∈ prev)
  | _ => false
def faceF (n : Nat) : D → Option Res := fun d => match d with
  | .non => some (.ok (.bl false))
  | .tup ds => (asInts ds).bind fun f => if f.length ≤ n then some (.ok (.bl (okFace f))) else none
  | _ => none
def sidesF (n : Nat) : D → Option Res := fun d => match d with
  | .tup ds => (asInts ds).bind fun f => if f.length ≤ n then some (.ok (.tup ((sidesL f).map encS))) else none
  | _ => none
@[simp] theorem faceF_dF {f : List Int} {n : Nat} : faceF n (dF f) = if f.length ≤ n then some (.ok (.bl (okFace f))) else none := by simp [faceF, dF, asInts_map]
@[simp] theorem faceF_non {n : Nat} : faceF n .non = some (.ok (.bl false)) := rfl
@[simp] theorem sidesF_dF {f : List Int} {n : Nat} : sidesF n (dF f) = if f.length ≤ n then some (.ok (.tup ((sidesL f).map encS))) else none := by simp [sidesF, dF, asInts_map]
structure StepT (T : Tb) : Prop where
  w : T.Γ "is_whole" = some (P1 whole)
  f : T.Γ "is_face" = some (P1 (faceF 1000))
  s : T.Γ "sides_of" = some (P1 (sidesF 1000))
  g : T.G "MOST_TIME" = some (.int 999)
@[simp] theorem at_pair0 {a b : D} : atI [a, b] 0 = some a := rfl
@[simp] theorem at_pair1 {a b : D} : atI [a, b] 1 = some b := rfl
def fcLen : Option (List Int) → Nat
  | some f => f.length
  | none => 0
section
variable {T : Tb} {Q : WK}
theorem m_is_step {c : Cand} {prev : List (List Int)} {last : Int} (t : StepT T) (hz : fcLen c.1 ≤ 1000) (q : Q.rt (.bl (okStep prev last c)) [.fz (encC c), .bT (nums prev), .fz (.int last), .un, .un]) :
    wSs T ir_is_step Q [.fz (encC c), .bT (nums prev), .fz (.int last), .un, .un] := by
  obtain ⟨hw, hf, hs, hg⟩ := t
  unfold ir_is_step
  obtain ⟨fc, tc⟩ := c
  cases fc with
  | none =>
    simp [-Bool.exists_bool, -List.all_eq_true, -List.any_eq_true, encC, hf, at_pair0, fcD]
    simpa [okStep, encC, fcD] using q
  | some f =>
    simp [fcLen] at hz
    simp [-Bool.exists_bool, -List.all_eq_true, -List.any_eq_true, encC, hf, at_pair0, at_pair1, fcD, hz]
    by_cases h1 : okFace f = true
    · cases tc with
      | inr b =>
        simp [-Bool.exists_bool, -List.all_eq_true, -List.any_eq_true, h1, hw, whole, tcD]
        simpa [okStep, encC, fcD, tcD] using q
      | inl t =>
        simp [-Bool.exists_bool, -List.all_eq_true, -List.any_eq_true, h1, hw, whole, tcD, hg]
        by_cases h2 : last ≤ t
        · by_cases h3 : t ≤ 999
          · simp [-Bool.exists_bool, -List.all_eq_true, -List.any_eq_true, h2, h3, nums_in]
            by_cases h4 : f ∈ prev
            · simp [h4]
              simpa [okStep, encC, fcD, tcD, h4] using q
            · simp [-Bool.exists_bool, -List.all_eq_true, -List.any_eq_true, h4, hs, hz]
              refine loop_map (f := fun s => .bl (decide (s.1 ∈ prev))) trivial (fun s hs' G hG => ?_) ?_
              · simp [-Bool.exists_bool, -List.all_eq_true, -List.any_eq_true, encS, nums_in]
                simpa using hG
              · simp [-Bool.exists_bool, -List.all_eq_true, -List.any_eq_true]
                simpa [okStep, encC, fcD, tcD, h4, h1, h2, h3] using q
          · simp [-Bool.exists_bool, -List.all_eq_true, -List.any_eq_true, h2, h3]
            simpa [okStep, encC, fcD, tcD, h3] using q
        · simp [-Bool.exists_bool, -List.all_eq_true, -List.any_eq_true, h2]
          simpa [okStep, encC, fcD, tcD, h2] using q
    · simp [h1]
      cases tc <;> simpa [okStep, encC, fcD, tcD, h1] using q
end
end PR
set_option Elab.async false
set_option linter.all false
set_option maxRecDepth 100000
set_option maxHeartbeats 4000000
/-! G3: growths are made. -/
namespace PR
open PySem PySem.Spec PyProof.Rows L2 EV
def dC (cs : List Cand) : D := .tup (cs.map encC)
def fbad : List (List Int) → Int → Nat → List Cand → Option Nat
  | _, _, _, [] => none
  | prev, last, k, c :: r => if okStep prev last c = true then (match c with
    | (some f, .inl t) => fbad (prev ++ [f]) t (k + 1) r
    | _ => some k) else some k
/-- the first step that is wrong -/
def firstBad (cs : List Cand) : Option Nat := fbad [] 0 0 cs
def okCs (cs : List Cand) : Prop := 1 ≤ cs.length ∧ cs.length ≤ 64 ∧ ∀ c ∈ cs, fcLen c.1 ≤ 1000
def gObj (cs : List Cand) : D := .obj "Growth" [("steps", dC cs)]
def badG (k : Nat) : Exc := ⟨"BadGrowth", [("step", .int k)]⟩
def growC : FS := fun sl Qd R => ∃ cs, sl = [.fz (dC cs)] ∧ okCs cs ∧ (match firstBad cs with
  | none => Qd (gObj cs) sl
  | some k => R (badG k) sl)
theorem dep_dF {n : Nat} {f : List Int} (h : f.length ≤ 1000) : dep (n + 1) (dF f) = true := by
  simp only [dep, dF, List.length_map, List.all_map, Bool.and_eq_true, decide_eq_true_eq, List.all_eq_true]
  exact ⟨by unfold sizeLine; omega, fun x _ => by cases n <;> rfl⟩
theorem dep_encC {n : Nat} {c : Cand} (h : fcLen c.1 ≤ 1000) : dep (n + 2) (encC c) = true := by
  obtain ⟨fc, tc⟩ := c
  have e : (2 : Nat) ≤ sizeLine := by unfold sizeLine; omega
  cases fc with
  | none => cases tc <;> simp [encC, fcD, tcD, dep, e]
  | some f =>
    have := dep_dF (n := n) (f := f) h
    cases tc <;> simp [encC, fcD, tcD, dep, e, this]
theorem tupz_dF {n : Nat} {f : List Int} : tupz n (dF f) = dF f := by
  cases n with
  | zero => rfl
  | succ n =>
    simp only [dF, tupz, List.map_map]
    congr 1
    refine List.map_congr_left fun x _ => ?_
    cases n <;> rfl
theorem tupz_atom {n : Nat} {c : Int ⊕ Bool} : tupz n (tcD c) = tcD c := by cases n <;> cases c <;> rfl
theorem tupz_fc {n : Nat} {c : Option (List Int)} : tupz n (fcD c) = fcD c := by
  cases c with
  | none => cases n <;> rfl
  | some f => exact tupz_dF
theorem tupz_encC {n : Nat} {c : Cand} : tupz n (encC c) = encC c := by
  cases n with
  | zero => rfl
  | succ n => simp [encC, tupz, tupz_fc, tupz_atom]
theorem tupz_dC {n : Nat} {cs : List Cand} : tupz n (dC cs) = dC cs := by
  cases n with
  | zero => rfl
  | succ n => simp [dC, tupz, List.map_map, tupz_encC]
theorem dep_dC {n : Nat} {cs : List Cand} (h : okCs cs) : dep (n + 3) (dC cs) = true := by
  obtain ⟨_, h2, h3⟩ := h
  simp only [dep, dC, List.length_map, List.all_map, Bool.and_eq_true, decide_eq_true_eq, List.all_eq_true]
  exact ⟨by unfold sizeLine; omega, fun c hc => dep_encC (h3 c hc)⟩
def stepF : FS := fun sl Qd R => ∃ (c : Cand) (prev : List (List Int)) (last : Int), sl = [.fz (encC c), .bT (nums prev), .fz (.int last)] ∧ fcLen c.1 ≤ 1000 ∧ Qd (.bl (okStep prev last c)) sl
@[simp] theorem stepF_at {c : Cand} {prev : List (List Int)} {last : Int} {Qd : D → List Slot → Prop} {R : Exc → List Slot → Prop} (h : fcLen c.1 ≤ 1000) (q : Qd (.bl (okStep prev last c)) [.fz (encC c), .bT (nums prev), .fz (.int last)]) :
    stepF [.fz (encC c), .bT (nums prev), .fz (.int last)] Qd R := ⟨c, prev, last, rfl, h, q⟩
structure GrowT (T : Tb) : Prop where
  i : T.Γ "in_tuples" = some (P1 (inT 3))
  o : T.Γ "is_tuple_of" = some (P2 tupOf)
  s : T.Γ "is_step" = some stepF
  g : T.G "MOST_STEPS" = some (.int 64)
  e1 : T.exc "BadRow" = some [("row" : Str)]
  e2 : T.exc "BadGrowth" = some [("step" : Str)]
  a : (("Growth" : Str), ("steps" : Str)) ∈ T.ats
theorem at_cs {cs : List Cand} {i : Nat} (h : i < cs.length) : atI (cs.map encC) (i : Int) = some (encC cs[i]) := by
  refine atI_nat (by omega) ?_
  rw [Int.toNat_natCast, List.getElem?_map, List.getElem?_eq_getElem h]
  rfl
theorem fbad_cons {prev : List (List Int)} {last : Int} {k : Nat} {c : Cand} {r : List Cand} : (∃ f t, c = (some f, .inl t) ∧ okStep prev last c = true ∧ fbad prev last k (c :: r) = fbad (prev ++ [f]) t (k + 1) r) ∨ (okStep prev last c = false ∧ fbad prev last k (c :: r) = some k) := by
  cases h : okStep prev last c with
  | false => exact .inr ⟨rfl, by simp [fbad, h]⟩
  | true =>
    obtain ⟨fc, tc⟩ := c
    cases fc with
    | none => cases tc <;> simp [okStep] at h
    | some f =>
      cases tc with
      | inr b => simp [okStep] at h
      | inl t => exact .inl ⟨f, t, rfl, rfl, by simp [fbad, h]⟩
section
variable {T : Tb} {Q : WK}
theorem m_growth {cs : List Cand} (t : GrowT T) (h : okCs cs) (q : firstBad cs = none → ∀ ρ : List Slot, Q.nx (.mk "Growth" [("steps", dC cs)] :: .fz (dC cs) :: ρ)) (r : ∀ k, firstBad cs = some k → ∀ ρ : List Slot, Q.R (badG k) (.mk "Growth" [] :: .fz (dC cs) :: ρ)) :
    wSs T ir_Growth___init__ Q [.mk "Growth" [], .fz (dC cs), .un, .un, .un, .un, .un] := by
  obtain ⟨hi, ho, hs, hg, e1, e2, ha⟩ := t
  have hd := dep_dC (n := 0) h
  have ht := tupz_dC (n := 3) (cs := cs)
  obtain ⟨z1, z2, z3⟩ := h
  unfold ir_Growth___init__
  simp [-Bool.exists_bool, -List.all_eq_true, -List.any_eq_true, hi, inT, hd, ht, hg]
  simp [-Bool.exists_bool, -List.all_eq_true, -List.any_eq_true, dC, isT, show (1 : Int) ≤ cs.length by omega, show (cs.length : Int) ≤ 64 by omega]
  refine loop_map (f := fun _ => .bl true) (by simp [lkOf_inr]) (fun c hc G hG => ?_) ?_
  · simp [-Bool.exists_bool, -List.all_eq_true, -List.any_eq_true, ho, tupOf, encC]
    simpa [encC] using hG
  · have al : (cs.all fun _ => true) = true := by simp
    simp [-Bool.exists_bool, -List.all_eq_true, -List.any_eq_true, al]
    refine ⟨by omega, by unfold sizeLine; omega, ?_⟩
    refine for_ind (fun i ρ => ∃ prev last ks, prev.length = i ∧ i ≤ cs.length ∧ fbad prev last i (cs.drop i) = firstBad cs ∧ Slot.lent ks = false ∧ ρ = [.mk "Growth" [], .fz (.tup (cs.map encC)), .fz (.tup (cs.map encC)), ks, .oT (nums prev), .fz (.int last), .un])
      ⟨[], 0, .un, rfl, Nat.zero_le _, by rw [List.drop_zero]; rfl, rfl, rfl⟩ ?_ ?_
    · rintro i x ρ hx ⟨prev, last, ks, p1, p2, p3, p4, rfl⟩ next hn
      have hi' : i < cs.length := by
        have := (List.getElem?_eq_some_iff.mp hx).1
        simpa [EV.upTo] using this
      have ex : x = .int i := by
        rw [upTo_map, List.getElem?_map, List.getElem?_range hi'] at hx
        simpa using (Option.some.inj hx).symm
      subst ex
      have ac := at_cs hi'
      have zc := z3 _ (List.getElem_mem hi')
      have ed : cs.drop i = cs[i] :: cs.drop (i + 1) := List.drop_eq_getElem_cons hi'
      rw [ed] at p3
      simp [-Bool.exists_bool, -List.all_eq_true, -List.any_eq_true, p4, hs, ac]
      refine stepF_at zc ?_
      rcases fbad_cons (prev := prev) (last := last) (k := i) (c := cs[i]) (r := cs.drop (i + 1)) with ⟨f, t, ec, ho', eb⟩ | ⟨ho', eb⟩
      · simp [-Bool.exists_bool, -List.all_eq_true, -List.any_eq_true, ho', ac, ec, encC, fcD, tcD]
        rw [ec] at ho'
        have nf : f ∉ prev := by
          intro m
          simp [okStep, m] at ho'
        have ep : putS (.oT (nums prev)) (dF f) (.int i) = some (.oT (nums (prev ++ [f]))) := by
          show (keysOf (f.map D.int)).bind _ = _
          rw [keys_ints]
          simp only [Option.bind_some]
          rw [if_pos (by rw [nums, numsFrom_len]; unfold sizeLine; omega), ← p1, nums_put nf]
        rw [if_pos ho', ep]
        exact ⟨_, rfl, hn _ ⟨prev ++ [f], t, .fz (.int i), by simp [p1], hi', by rw [← eb, p3], rfl, rfl⟩⟩
      · simp [-Bool.exists_bool, -List.all_eq_true, -List.any_eq_true, ho', e2]
        have := r i (by rw [← p3, eb])
        simpa [badG, dC] using this _
    · rintro ρ ⟨prev, last, ks, p1, p2, p3, p4, rfl⟩
      have e : fbad prev last (EV.upTo cs.length 0).length (List.drop (EV.upTo cs.length 0).length cs) = none := by
        rw [show (EV.upTo cs.length 0).length = cs.length by simp [EV.upTo], List.drop_length]; rfl
      rw [e] at p3
      simp [-Bool.exists_bool, -List.all_eq_true, -List.any_eq_true]
      refine ⟨_, _, ⟨rfl, rfl⟩, ha, by simp, ?_⟩
      have := q p3.symm
      simpa [putFD, dC] using this _
end
end PR
set_option Elab.async false
set_option linter.all false
set_option maxRecDepth 100000
set_option maxHeartbeats 4000000
/-! G4: growths that are changed. -/
namespace PR
open PySem PySem.Spec PyProof.Rows L2 EV
abbrev St := List Int × Int
def toC (s : St) : Cand := (some s.1, .inl s.2)
def encSt (s : St) : D := .tup [dF s.1, .int s.2]
def dS (ss : List St) : D := .tup (ss.map encSt)
theorem dC_toC {ss : List St} : dC (ss.map toC) = dS ss := by
  simp [dC, dS, List.map_map, Function.comp_def, encC, toC, fcD, tcD, encSt]
def gO (ss : List St) : D := .obj "Growth" [("steps", dS ss)]
theorem gObj_toC {ss : List St} : gObj (ss.map toC) = gO ss := by rw [gObj, dC_toC]; rfl
def valid (ss : List St) : Prop := firstBad (ss.map toC) = none
def okSt (ss : List St) : Prop := 1 ≤ ss.length ∧ ss.length ≤ 64 ∧ valid ss
theorem fbad_mem {prev : List (List Int)} {last : Int} {k : Nat} {ss : List St} (h : fbad prev last k (ss.map toC) = none) : ∀ s ∈ ss, okFace s.1 = true := by
  induction ss generalizing prev last k with
  | nil => simp
  | cons s ss ih =>
    rw [List.map_cons] at h
    rcases fbad_cons (prev := prev) (last := last) (k := k) (c := toC s) (r := ss.map toC) with ⟨f, t, ec, ho, eb⟩ | ⟨ho, eb⟩
    · rw [eb] at h
      have e : s.1 = f := by
        have := congrArg Prod.fst ec
        simpa [toC] using this
      intro x hx
      rcases List.mem_cons.mp hx with rfl | hx
      · rw [ec] at ho
        rw [e]
        simp only [okStep, Bool.and_eq_true] at ho
        exact ho.1.1.1.1
      · exact ih h x hx
    · rw [eb] at h; cases h
theorem okFace_len {f : List Int} (h : okFace f = true) : 1 ≤ f.length ∧ f.length ≤ 5 := by
  simp only [okFace, Bool.and_eq_true, decide_eq_true_eq] at h
  exact ⟨h.1.1.1, h.1.1.2⟩
theorem okSt.cs {ss : List St} (h : okSt ss) : okCs (ss.map toC) := by
  obtain ⟨h1, h2, h3⟩ := h
  refine ⟨by simpa using h1, by simpa using h2, fun c hc => ?_⟩
  obtain ⟨s, hs, rfl⟩ := List.mem_map.mp hc
  have := okFace_len (fbad_mem h3 s hs)
  simp only [toC, fcLen]
  omega
def unlike (x : Str) : Exc := ⟨"Unlike", [("what", .str x)]⟩
def badRow (d : D) : Exc := ⟨"BadRow", [("row", d)]⟩
def isG : D → Bool
  | .obj C _ => decide (C = "Growth")
  | _ => false
def needG (d : D) : Option Res := match d with
  | .obj C fs => if C = "Growth" then some (.ok .non) else none
  | d => if okD d = true then some (.er (unlike "growth")) else none
@[simp] theorem needG_gO {ss : List St} : needG (gO ss) = some (.ok .non) := by simp [needG, gO]
theorem needG_ok {d : D} (h : okD d = true) : needG d = some (.er (unlike "growth")) := by
  cases d <;> first | (simp [needG]; done) | (simp [needG, h]; done) | (simp [okD, tyB] at h)
structure ChT (T : Tb) : Prop where
  cl : ("Growth" : Str) ∈ T.cls
  a : (("Growth" : Str), ("steps" : Str)) ∈ T.ats
  e1 : T.exc "Unlike" = some [("what" : Str)]
  e2 : T.exc "BadNumber" = some [("what" : Str), "number"]
  e3 : T.exc "BadRow" = some [("row" : Str)]
  e4 : T.exc "BadFace" = some [("face" : Str)]
section
variable {T : Tb} {Q : WK}
theorem m_need_growth_ok {ss : List St} (t : ChT T) (q : Q.nx [.fz (gO ss)]) : wSs T ir_need_growth Q [.fz (gO ss)] := by
  unfold ir_need_growth
  simp [-Bool.exists_bool, -List.all_eq_true, -List.any_eq_true, gO, isTy_obj t.cl, isiOk_c t.cl]
  simpa [gO] using q
theorem m_need_growth_no {d : D} (t : ChT T) (h : okD d = true) (r : Q.R (unlike "growth") [.fz d]) : wSs T ir_need_growth Q [.fz d] := by
  unfold ir_need_growth
  simp [-Bool.exists_bool, -List.all_eq_true, -List.any_eq_true, isTy_c h t.cl, isiOk_c t.cl, t.e1]
  simpa [unlike] using r
end
/-! ### sides, looked at -/
def sidesV : D → Option Res := fun d => match d with
  | .tup ds => (asInts ds).bind fun f => if okFace f = true then some (.ok (.tup ((sidesL f).map encS))) else none
  | _ => none
@[simp] theorem sidesV_dF {f : List Int} : sidesV (dF f) = if okFace f = true then some (.ok (.tup ((sidesL f).map encS))) else none := by simp [sidesV, dF, asInts_map]
structure SideT (T : Tb) : Prop where
  i : T.Γ "in_tuples" = some (P1 (inT 3))
  f : T.Γ "is_face" = some (P1 (faceF 1000))
  s : T.Γ "sides_of" = some (P1 (sidesF 1000))
theorem toP_dF (f : List Int) : toP (dF f) = some (.tuple (f.map .int)) := by
  have h : ∀ f : List Int, toPs (f.map D.int) = some (f.map .int) := fun f => by
    induction f with
    | nil => rfl
    | cons a f ih => simp [toPs, toP, ih]
  simp [dF, toP, h]
theorem shaped_ints (f : List Int) : PyData.canLayAll0 (f.map .int) = true ∧ PyData.depthAll (f.map .int) = 0 := by
  induction f with
  | nil => simp [PyData.canLayAll0, PyData.depthAll]
  | cons a f ih => simp [PyData.canLayAll0, PyData.depthAll, PyData.canLay0, PyData.depth, ih.1, ih.2]
theorem shaped_dF (f : List Int) : SeqAt.shaped (.tuple (f.map .int)) = true := by
  obtain ⟨h1, h2⟩ := shaped_ints f
  simp [SeqAt.shaped, PyData.canLay0, PyData.depth, h1, h2]
theorem shaped_dFs (fs : List (List Int)) : SeqAt.shaped (.list (fs.map fun f => .tuple (f.map .int))) = true := by
  have h : PyData.canLayAll0 (fs.map fun f => PyData.tuple (f.map .int)) = true ∧ PyData.depthAll (fs.map fun f => PyData.tuple (f.map .int)) ≤ 1 := by
    induction fs with
    | nil => simp [PyData.canLayAll0, PyData.depthAll]
    | cons f fs ih =>
      obtain ⟨h1, h2⟩ := shaped_ints f
      simp only [List.map_cons, PyData.canLayAll0, PyData.depthAll, PyData.canLay0, PyData.depth, h1, h2, ih.1]
      exact ⟨rfl, by omega⟩
  refine Bool.and_eq_true_iff.mpr ⟨by simpa [PyData.canLay0] using h.1, decide_eq_true ?_⟩
  have e : PyData.depth (.list (fs.map fun f => PyData.tuple (f.map .int))) = PyData.depthAll (fs.map fun f => PyData.tuple (f.map .int)) + 1 := by simp [PyData.depth]
  have h2 := h.2
  rw [e]
  omega
theorem eqv_ints : ∀ f g : List Int, PyData.eqvAll (f.map .int) (g.map .int) = decide (f = g)
  | [], [] => by simp [PyData.eqvAll]
  | [], _ :: _ => by simp [PyData.eqvAll]
  | _ :: _, [] => by simp [PyData.eqvAll]
  | a :: f, b :: g => by
    simp only [List.map_cons, PyData.eqvAll, PyData.eqv, eqv_ints f g]
    by_cases h : a = b <;> by_cases h2 : f = g <;> simp [h, h2]
theorem toPs_dFs (fs : List (List Int)) : toPs (fs.map dF) = some (fs.map fun f => .tuple (f.map .int)) := by
  induction fs with
  | nil => rfl
  | cons f fs ih => simp [toPs, toP_dF, ih]
theorem in_dFs {f : List Int} {fs : List (List Int)} : inD (dF f) (.lst (fs.map dF)) = some (decide (f ∈ fs)) := by
  show (match toP (dF f), toPs (fs.map dF) with
    | some p, some ps => if SeqAt.shaped p = true ∧ SeqAt.shaped (.list ps) = true then some (ps.any fun z => PyData.eqv z p) else none
    | _, _ => none) = _
  rw [toP_dF, toPs_dFs]
  simp only [shaped_dF, shaped_dFs, and_self, if_true, List.any_map, Function.comp_def, PyData.eqv, eqv_ints]
  congr 1
  rw [Bool.eq_iff_iff]
  simp only [List.any_eq_true, decide_eq_true_eq]
  exact ⟨fun ⟨x, hx, e⟩ => e ▸ hx, fun h => ⟨f, h, rfl⟩⟩
section
variable {T : Tb} {Q : WK}
theorem m_sides {f : List Int} (t : SideT T) (h : okFace f = true) (q : Q.rt (.tup ((sidesL f).map encS)) [.fz (dF f), .fz (dF f)]) : wSs T ir_sides Q [.fz (dF f), .un] := by
  obtain ⟨hi, hf, hs⟩ := t
  have hl := okFace_len h
  have hd : dep 3 (dF f) = true := dep_dF (n := 2) (by omega)
  unfold ir_sides
  simp [-Bool.exists_bool, -List.all_eq_true, -List.any_eq_true, hi, inT, hd, tupz_dF, hf, hs, h, show f.length ≤ 1000 by omega]
  exact q
theorem m_is_side {f g : List Int} (hs : T.Γ "sides" = some (P1 sidesV)) (h : okFace g = true) (q : Q.rt (.bl (decide (f ∈ (sidesL g).map (·.1)))) [.fz (dF f), .fz (dF g), .un, .un]) : wSs T ir_is_side Q [.fz (dF f), .fz (dF g), .un, .un] := by
  unfold ir_is_side
  simp [-Bool.exists_bool, -List.all_eq_true, -List.any_eq_true, hs, h]
  refine loop_map (f := fun s => dF s.1) trivial (fun s hs' G hG => ?_) ?_
  · simp [-Bool.exists_bool, -List.all_eq_true, -List.any_eq_true, encS]
    simpa using hG
  · have e : ((sidesL g).map fun s => dF s.1) = ((sidesL g).map (·.1)).map dF := by simp [List.map_map, Function.comp_def]
    rw [e]
    simp [-Bool.exists_bool, -List.all_eq_true, -List.any_eq_true, in_dFs, -List.map_map]
    simpa using q
end
end PR
set_option Elab.async false
set_option linter.all false
set_option maxRecDepth 100000
set_option maxHeartbeats 4000000
/-! G5: plain facts about valid steps. -/
namespace PR
open PySem PySem.Spec PyProof.Rows L2 EV
def VV : List (List Int) → Int → List St → Prop
  | _, _, [] => True
  | P, l, s :: r => okStep P l (toC s) = true ∧ VV (P ++ [s.1]) s.2 r
theorem fbad_none {P : List (List Int)} {l : Int} {k : Nat} {ss : List St} : fbad P l k (ss.map toC) = none ↔ VV P l ss := by
  induction ss generalizing P l k with
  | nil => simp [fbad, VV]
  | cons s ss ih =>
    rw [List.map_cons]
    rcases fbad_cons (prev := P) (last := l) (k := k) (c := toC s) (r := ss.map toC) with ⟨f, t, ec, ho, eb⟩ | ⟨ho, eb⟩
    · rw [eb, ih]
      have e1 : s.1 = f := by simpa [toC] using congrArg Prod.fst ec
      have e2 : s.2 = t := by simpa [toC] using congrArg Prod.snd ec
      simp [VV, ho, e1, e2]
    · rw [eb]
      simp [VV, ho]
theorem valid_iff {ss : List St} : valid ss ↔ VV [] 0 ss := fbad_none
theorem okStep_iff {P : List (List Int)} {l : Int} {s : St} : okStep P l (toC s) = true ↔ okFace s.1 = true ∧ l ≤ s.2 ∧ s.2 ≤ 999 ∧ s.1 ∉ P ∧ ∀ x ∈ sidesL s.1, x.1 ∈ P := by
  simp only [okStep, toC, Bool.and_eq_true, decide_eq_true_eq, Bool.not_eq_true', decide_eq_false_iff_not, List.all_eq_true]
  exact ⟨fun ⟨⟨⟨⟨a, b⟩, c⟩, d⟩, e⟩ => ⟨a, b, c, d, e⟩, fun ⟨a, b, c, d, e⟩ => ⟨⟨⟨⟨a, b⟩, c⟩, d⟩, e⟩⟩
theorem VV_sub {P P' : List (List Int)} {l l' : Int} {b : List St} (h : VV P l b) (hl : l' ≤ l) (h1 : ∀ f, f ∈ P' → f ∈ P) (h2 : ∀ y ∈ b, ∀ x ∈ sidesL y.1, x.1 ∈ P → x.1 ∈ P') : VV P' l' b := by
  induction b generalizing P P' l l' with
  | nil => trivial
  | cons y b ih =>
    obtain ⟨a1, a2⟩ := h
    obtain ⟨b1, b2, b3, b4, b5⟩ := okStep_iff.mp a1
    refine ⟨okStep_iff.mpr ⟨b1, by omega, b3, fun m => b4 (h1 _ m), fun x hx => h2 y List.mem_cons_self x hx (b5 x hx)⟩, ih a2 (Int.le_refl _) (fun f hf => ?_) (fun z hz x hx m => ?_)⟩
    · rcases List.mem_append.mp hf with m | m
      · exact List.mem_append_left _ (h1 f m)
      · exact List.mem_append_right _ m
    · rcases List.mem_append.mp m with m | m
      · exact List.mem_append_left _ (h2 z (List.mem_cons_of_mem _ hz) x hx m)
      · exact List.mem_append_right _ m
def lastOf (l : Int) (a : List St) : Int := match a.getLast? with
  | some s => s.2
  | none => l
theorem VV_append {P : List (List Int)} {l : Int} {a b : List St} : VV P l (a ++ b) ↔ VV P l a ∧ VV (P ++ a.map (·.1)) (lastOf l a) b := by
  induction a generalizing P l with
  | nil => simp [VV, lastOf]
  | cons s a ih =>
    have e : lastOf s.2 a = lastOf l (s :: a) := by
      cases a with
      | nil => rfl
      | cons x a =>
        unfold lastOf
        rw [List.getLast?_cons_cons]
        cases h : (x :: a).getLast? with
        | none => simp at h
        | some v => rfl
    simp only [List.cons_append, VV, ih, e, List.map_cons, List.append_assoc, and_assoc]
    rfl
theorem VV_swap {P : List (List Int)} {l : Int} {x y : St} {b : List St} (h : VV P l (x :: y :: b)) (hn : ∀ s ∈ sidesL y.1, s.1 ≠ x.1) : VV P l ((y.1, x.2) :: (x.1, y.2) :: b) := by
  obtain ⟨a1, a2, a3⟩ := h
  obtain ⟨b1, b2, b3, b4, b5⟩ := okStep_iff.mp a1
  obtain ⟨c1, c2, c3, c4, c5⟩ := okStep_iff.mp a2
  have n1 : y.1 ∉ P := fun m => c4 (List.mem_append_left _ m)
  have n2 : x.1 ≠ y.1 := fun e => c4 (by rw [e]; exact List.mem_append_right _ List.mem_cons_self)
  refine ⟨okStep_iff.mpr ⟨c1, b2, b3, n1, fun s hs => ?_⟩, okStep_iff.mpr ⟨b1, c2, c3, fun m => ?_, fun s hs => List.mem_append_left _ (b5 s hs)⟩, VV_sub a3 (Int.le_refl _) (fun f hf => ?_) fun z hz s hs m => ?_⟩
  · rcases List.mem_append.mp (c5 s hs) with m | m
    · exact m
    · simp at m; exact absurd m (hn s hs)
  · rcases List.mem_append.mp m with m | m
    · exact b4 m
    · simp at m; exact n2 m
  · simp only [List.mem_append, List.mem_singleton] at hf ⊢
    rcases hf with (h | h) | h
    · exact .inl (.inl h)
    · exact .inr h
    · exact .inl (.inr h)
  · simp only [List.mem_append, List.mem_singleton] at m ⊢
    rcases m with (h | h) | h
    · exact .inl (.inl h)
    · exact .inr h
    · exact .inl (.inr h)
theorem VV_drop {P : List (List Int)} {l : Int} {x : St} {b : List St} (h : VV P l (x :: b)) (hn : ∀ y ∈ b, ∀ s ∈ sidesL y.1, s.1 ≠ x.1) : VV P l b := by
  obtain ⟨a1, a2⟩ := h
  obtain ⟨b1, b2, b3, b4, b5⟩ := okStep_iff.mp a1
  refine VV_sub a2 b2 (fun f hf => List.mem_append_left _ hf) fun y hy s hs m => ?_
  rcases List.mem_append.mp m with m | m
  · exact m
  · simp at m; exact absurd m (hn y hy s hs)
/-- times that never fall, from l on, none above 999 -/
def upT : Int → List Int → Prop
  | _, [] => True
  | l, t :: r => l ≤ t ∧ t ≤ 999 ∧ upT t r
def retime (ss : List St) (ts : List Int) : List St := (ss.zip ts).map fun p => (p.1.1, p.2)
theorem VV_retime {P : List (List Int)} {l l' : Int} {ss : List St} {ts : List Int} (h : VV P l ss) (ht : upT l' ts) (hl : ss.length = ts.length) : VV P l' (retime ss ts) := by
  induction ss generalizing P l l' ts with
  | nil => simp [retime, VV]
  | cons s ss ih =>
    cases ts with
    | nil => cases hl
    | cons t ts =>
      obtain ⟨a1, a2⟩ := h
      obtain ⟨b1, b2, b3, b4, b5⟩ := okStep_iff.mp a1
      obtain ⟨c1, c2, c3⟩ := ht
      exact ⟨okStep_iff.mpr ⟨b1, c1, c2, b4, b5⟩, ih a2 c3 (Nat.succ.inj hl)⟩
theorem retime_len {ss : List St} {ts : List Int} (hl : ss.length = ts.length) : (retime ss ts).length = ss.length := by simp [retime, hl]
/-- two steps behind one another, their faces exchanged -/
def swapS (ss : List St) (k : Nat) : List St := match ss[k]?, ss[k + 1]? with
  | some x, some y => ss.take k ++ [(y.1, x.2), (x.1, y.2)] ++ ss.drop (k + 2)
  | _, _ => ss
theorem split2 {α : Type} {ss : List α} {k : Nat} (h : k + 1 < ss.length) : ss = ss.take k ++ (ss[k] :: ss[k + 1] :: ss.drop (k + 2)) := by
  have e1 : ss.drop k = ss[k] :: ss.drop (k + 1) := List.drop_eq_getElem_cons (by omega)
  have e2 : ss.drop (k + 1) = ss[k + 1] :: ss.drop (k + 2) := List.drop_eq_getElem_cons h
  rw [← e2, ← e1, List.take_append_drop]
theorem swapS_eq {ss : List St} {k : Nat} (h : k + 1 < ss.length) : swapS ss k = ss.take k ++ [(ss[k + 1].1, ss[k].2), (ss[k].1, ss[k + 1].2)] ++ ss.drop (k + 2) := by
  unfold swapS
  rw [List.getElem?_eq_getElem (show k < ss.length by omega), List.getElem?_eq_getElem h]
theorem valid_swap {ss : List St} {k : Nat} (h : valid ss) (hk : k + 1 < ss.length) (hn : ∀ s ∈ sidesL ss[k + 1].1, s.1 ≠ ss[k].1) : valid (swapS ss k) := by
  rw [valid_iff] at h ⊢
  rw [swapS_eq hk, List.append_assoc]
  have e := split2 hk
  rw [e] at h
  obtain ⟨h1, h2⟩ := VV_append.mp h
  exact VV_append.mpr ⟨h1, VV_swap h2 hn⟩
theorem valid_out {ss : List St} {k : Nat} (h : valid ss) (hk : k < ss.length) (hn : ∀ y ∈ ss.drop (k + 1), ∀ s ∈ sidesL y.1, s.1 ≠ ss[k].1) : valid (ss.take k ++ ss.drop (k + 1)) := by
  rw [valid_iff] at h ⊢
  have e : ss = ss.take k ++ (ss[k] :: ss.drop (k + 1)) := by
    rw [← List.drop_eq_getElem_cons hk, List.take_append_drop]
  rw [e] at h
  obtain ⟨h1, h2⟩ := VV_append.mp h
  exact VV_append.mpr ⟨h1, VV_drop h2 hn⟩
theorem valid_times {ss : List St} {ts : List Int} (h : valid ss) (ht : upT 0 ts) (hl : ss.length = ts.length) : valid (retime ss ts) := by
  rw [valid_iff] at h ⊢
  exact VV_retime h ht hl
end PR
set_option Elab.async false
set_option linter.all false
set_option maxRecDepth 100000
set_option maxHeartbeats 4000000
/-! G6: growths are exchanged, timed anew, put in, taken out. -/
namespace PR
open PySem PySem.Spec PyProof.Rows L2 EV
theorem okSt.len {ss : List St} (h : okSt ss) : 1 ≤ ss.length := h.1
theorem at_st {ss : List St} {k : Nat} (h : k < ss.length) : atI (ss.map encSt) (k : Int) = some (encSt ss[k]) := by
  refine atI_nat (by omega) ?_
  rw [Int.toNat_natCast, List.getElem?_map, List.getElem?_eq_getElem h]
  rfl
theorem at_st1 {ss : List St} {k : Nat} (h : k + 1 < ss.length) : atI (ss.map encSt) ((k : Int) + 1) = some (encSt ss[k + 1]) := by
  have := at_st h
  rwa [Int.natCast_add, Int.natCast_one] at this
theorem cutS_to {ss : List St} {k : Nat} : cutD (ss.map encSt) none (some (k : Int)) = (ss.take k).map encSt := by
  rw [cutD_to (by omega), Int.toNat_natCast, List.map_take]
theorem cutS_from {ss : List St} {k : Nat} : cutD (ss.map encSt) (some (k : Int)) none = (ss.drop k).map encSt := by
  rw [cutD_from (by omega), Int.toNat_natCast, List.map_drop]
theorem okSt.face {ss : List St} (h : okSt ss) {k : Nat} (hk : k < ss.length) : okFace ss[k].1 = true := fbad_mem h.2.2 _ (List.getElem_mem hk)
def sideOf (f g : List Int) : Bool := decide (f ∈ (sidesL g).map (·.1))
def isSideV (a b : D) : Option Res := match a, b with
  | .tup ds, .tup es => (asInts ds).bind fun f => (asInts es).bind fun g => if okFace g = true then some (.ok (.bl (sideOf f g))) else none
  | _, _ => none
@[simp] theorem isSideV_dF {f g : List Int} : isSideV (dF f) (dF g) = if okFace g = true then some (.ok (.bl (sideOf f g))) else none := by simp [isSideV, dF, asInts_map]
def stepK : D := .str "step"
/-- may the steps k and k + 1 be exchanged? -/
def exB (ss : List St) (kd : D) : Option Exc := match kd with
  | .int k => if 0 ≤ k ∧ k + 1 < ss.length then (match ss[k.toNat]?, ss[k.toNat + 1]? with
      | some x, some y => if sideOf x.1 y.1 = true then some (unlike "steps") else none
      | _, _ => none) else some (badNum stepK kd)
  | _ => some (badNum stepK kd)
def needExF : FS := fun sl Qd R => ∃ ss kd, sl = [.fz (gO ss), .fz kd] ∧ okSt ss ∧ okD kd = true ∧ (match exB ss kd with
  | some x => R x sl
  | none => Qd .non sl)
def exAtF : FS := fun sl Qd R => ∃ (ss : List St) (k : Nat), sl = [.fz (gO ss), .fz (.int k)] ∧ okSt ss ∧ k + 1 < ss.length ∧ exB ss (.int k) = none ∧ Qd (gO (swapS ss k)) sl
def exF : FS := fun sl Qd R => (∃ ss kd, sl = [.fz (gO ss), .fz kd] ∧ okSt ss ∧ okD kd = true ∧ (match exB ss kd, kd with
  | some x, _ => R x sl
  | none, .int k => Qd (gO (swapS ss k.toNat)) sl
  | none, _ => False)) ∨ ∃ d e, sl = [.fz d, .fz e] ∧ okD d = true ∧ R (unlike "growth") sl
@[simp] theorem att_elim {α β : Type} {C0 : α} {f0 : β} {p : α → β → Prop} : (∃ C fs, (C0 = C ∧ f0 = fs) ∧ p C fs) ↔ p C0 f0 :=
  ⟨fun ⟨_, _, ⟨rfl, rfl⟩, h⟩ => h, fun h => ⟨_, _, ⟨rfl, rfl⟩, h⟩⟩
structure ChX0 (T : Tb) : Prop extends ChT T where
  w : T.Γ "is_whole" = some (P1 whole)
  ng : T.Γ "need_growth" = some (P1 needG)
  sd : T.Γ "is_side" = some (P2 isSideV)
  gr : T.Γ "Growth" = some growC
  nb : T.Γ "need_between" = some (P4 needF)
  it : T.Γ "in_tuples" = some (P1 (inT 3))
  lt : T.G "LAST_TIME" = some (.int 999)
structure ChX (T : Tb) : Prop extends ChX0 T where
  ne : T.Γ "need_exchange" = some needExF
  ea : T.Γ "exchanged_at" = some exAtF
section
variable {T : Tb} {Q : WK}
theorem exB_in {ss : List St} {k : Int} (h0 : 0 ≤ k) (h1 : k + 1 < ss.length) : ∃ n : Nat, k = n ∧ ∃ h : n + 1 < ss.length, exB ss (.int k) = if sideOf ss[n].1 ss[n + 1].1 = true then some (unlike "steps") else none := by
  refine ⟨k.toNat, (Int.toNat_of_nonneg h0).symm, by omega, ?_⟩
  show (if 0 ≤ k ∧ k + 1 < (ss.length : Int) then _ else _) = _
  rw [if_pos ⟨h0, h1⟩, List.getElem?_eq_getElem (show k.toNat < ss.length by omega), List.getElem?_eq_getElem (show k.toNat + 1 < ss.length by omega)]
theorem exB_out {ss : List St} {k : Int} (h : ¬ (0 ≤ k ∧ k + 1 < ss.length)) : exB ss (.int k) = some (badNum stepK (.int k)) := by
  show (if 0 ≤ k ∧ k + 1 < (ss.length : Int) then _ else _) = _
  rw [if_neg h]
theorem m_need_exchange {ss : List St} {kd : D} (t : ChX0 T) (hs : okSt ss) (hk : okD kd = true) (q : exB ss kd = none → Q.nx [.fz (gO ss), .fz kd]) (r : ∀ x, exB ss kd = some x → Q.R x [.fz (gO ss), .fz kd]) :
    wSs T ir_need_exchange Q [.fz (gO ss), .fz kd] := by
  unfold ir_need_exchange
  have l := hs.len
  have a := t.a
  simp [-Bool.exists_bool, -List.all_eq_true, -List.any_eq_true, gO, dS, t.w, whole, hk, t.e2, a]
  cases kd with
  | int k =>
    simp [-Bool.exists_bool, -List.all_eq_true, -List.any_eq_true, gO, dS, a]
    by_cases h0 : 0 ≤ k
    · by_cases h1 : k + 1 < ss.length
      · obtain ⟨n, en, hn, e⟩ := exB_in h0 h1
        subst en
        have f1 := at_st (ss := ss) (k := n) (by omega)
        have f2 := at_st1 hn
        have g2 := hs.face hn
        simp [-Bool.exists_bool, -List.all_eq_true, -List.any_eq_true, show (n : Int) < (ss.length : Int) - 1 by omega, f1, f2, encSt, t.sd, g2, t.e1]
        by_cases h2 : sideOf ss[n].1 ss[n + 1].1 = true
        · rw [if_pos h2] at e
          simp [-Bool.exists_bool, -List.all_eq_true, -List.any_eq_true, h2]
          exact r _ e
        · rw [if_neg h2] at e
          simp [-Bool.exists_bool, -List.all_eq_true, -List.any_eq_true, h2]
          exact q e
      · simp [-Bool.exists_bool, -List.all_eq_true, -List.any_eq_true, h0, show ¬ k < (ss.length : Int) - 1 by omega]
        exact r _ (exB_out (by omega))
    · simp [-Bool.exists_bool, -List.all_eq_true, -List.any_eq_true, h0]
      exact r _ (exB_out (by omega))
  | _ => first | (simp [-Bool.exists_bool, -List.all_eq_true, -List.any_eq_true, isW]; exact r _ rfl) | (simp [okD, tyB] at hk)
theorem okSt.swap {ss : List St} {k : Nat} (h : okSt ss) (hk : k + 1 < ss.length) (e : exB ss (.int k) = none) : okSt (swapS ss k) ∧ (swapS ss k).length = ss.length := by
  obtain ⟨n, en, hn, e'⟩ := exB_in (ss := ss) (k := k) (by omega) (by omega)
  have en : k = n := by omega
  subst en
  rw [e'] at e
  have hs : ¬ sideOf ss[k].1 ss[k + 1].1 = true := fun z => by rw [if_pos z] at e; cases e
  have l : (swapS ss k).length = ss.length := by rw [swapS_eq hk]; simp; omega
  refine ⟨⟨by rw [l]; exact h.1, by rw [l]; exact h.2.1, valid_swap h.2.2 hk fun s m z => hs ?_⟩, l⟩
  unfold sideOf
  rw [decide_eq_true_eq, ← z]
  exact List.mem_map_of_mem m
theorem growC_ok {ss : List St} {Qd : D → List Slot → Prop} {R : Exc → List Slot → Prop} (h : okSt ss) (q : Qd (gO ss) [.fz (dS ss)]) : growC [.fz (dS ss)] Qd R := by
  refine ⟨ss.map toC, by rw [dC_toC], h.cs, ?_⟩
  have e : firstBad (ss.map toC) = none := h.2.2
  rw [e, gObj_toC]
  exact q
theorem m_exchanged_at {ss : List St} {k : Nat} (t : ChX0 T) (hs : okSt ss) (hk : k + 1 < ss.length) (e : exB ss (.int k) = none) (q : ∀ ρ : List Slot, Q.rt (gO (swapS ss k)) (.fz (gO ss) :: .fz (.int k) :: ρ)) :
    wSs T ir_exchanged_at Q [.fz (gO ss), .fz (.int k), .un, .un, .un, .un] := by
  unfold ir_exchanged_at
  have a := t.a
  have f1 := at_st (ss := ss) (k := k) (by omega)
  have f2 := at_st1 hk
  have c1 := cutS_to (ss := ss) (k := k)
  have c2 := cutS_from (ss := ss) (k := k + 2)
  rw [show ((k + 2 : Nat) : Int) = (k : Int) + 2 by omega] at c2
  obtain ⟨ok, l⟩ := hs.swap hk e
  have e1 : ss.length ≤ 64 := hs.2.1
  have e2 : min k ss.length + 2 ≤ sizeLine := by unfold sizeLine; omega
  have e3 : min k ss.length + 2 + (ss.length - (k + 2)) ≤ sizeLine := by unfold sizeLine; omega
  have e4 : (2 : Nat) ≤ sizeLine := by unfold sizeLine; omega
  have ed : D.tup ((ss.take k).map encSt ++ ([D.tup [dF ss[k + 1].1, .int ss[k].2], .tup [dF ss[k].1, .int ss[k + 1].2]] ++ (ss.drop (k + 2)).map encSt)) = dS (swapS ss k) := by
    rw [dS, swapS_eq hk]
    simp [encSt]
  simp [-Bool.exists_bool, -List.all_eq_true, -List.any_eq_true, gO, dS, a, f1, f2, encSt, t.gr, c1, c2, e2, e3, e4]
  simp only [List.cons_append, List.nil_append, List.append_assoc, List.map_take, List.map_drop] at ed ⊢
  rw [ed]
  refine growC_ok ok ?_
  exact q _
theorem m_exchanged {ss : List St} {kd : D} (t : ChX T) (hs : okSt ss) (hk : okD kd = true) (q : exB ss kd = none → ∀ k : Nat, kd = .int k → k + 1 < ss.length → Q.rt (gO (swapS ss k)) [.fz (gO ss), .fz kd]) (r : ∀ x, exB ss kd = some x → Q.R x [.fz (gO ss), .fz kd]) :
    wSs T ir_exchanged Q [.fz (gO ss), .fz kd] := by
  unfold ir_exchanged
  simp [-Bool.exists_bool, -List.all_eq_true, -List.any_eq_true, t.ng, t.ne]
  refine ⟨ss, kd, rfl, hs, hk, ?_⟩
  cases e : exB ss kd with
  | some x => exact r x e
  | none =>
    have ek : ∃ k : Nat, kd = .int k ∧ k + 1 < ss.length := by
      cases kd with
      | int k =>
        by_cases hh : 0 ≤ k ∧ k + 1 < ss.length
        · exact ⟨k.toNat, by rw [Int.toNat_of_nonneg hh.1], by omega⟩
        · rw [exB_out hh] at e; cases e
      | _ => simp [exB] at e
    obtain ⟨k, rfl, hl⟩ := ek
    simp [-Bool.exists_bool, -List.all_eq_true, -List.any_eq_true, t.ea]
    exact ⟨ss, k, rfl, hs, hl, e, q e k rfl hl⟩
theorem m_exchanged_no {d e : D} (t : ChX0 T) (h : okD d = true) (r : Q.R (unlike "growth") [.fz d, .fz e]) : wSs T ir_exchanged Q [.fz d, .fz e] := by
  unfold ir_exchanged
  simp [-Bool.exists_bool, -List.all_eq_true, -List.any_eq_true, t.ng, needG_ok h]
  exact r
end
end PR
set_option Elab.async false
set_option linter.all false
set_option maxRecDepth 100000
set_option maxHeartbeats 4000000
/-! G7: growths timed anew, put in, taken out. -/
namespace PR
open PySem PySem.Spec PyProof.Rows L2 EV
/-! ### timed anew -/
def wOk : Int ⊕ Bool → Bool
  | .inl t => decide (0 ≤ t) && decide (t ≤ 999)
  | .inr _ => false
def ascE (ts : List Int) : Bool := (List.range (ts.length - 1)).all fun k => decide (ts.getD k 0 ≤ ts.getD (k + 1) 0)
def toI : Int ⊕ Bool → Int
  | .inl t => t
  | .inr _ => 0
def rowD (b : Bool) (xs : List (Int ⊕ Bool)) : D := if b = true then .lst (xs.map tcD) else .tup (xs.map tcD)
def okTs (n : Nat) (xs : List (Int ⊕ Bool)) : Bool := decide (xs.length = n) && xs.all wOk && ascE (xs.map toI)
theorem all_wOk {xs : List (Int ⊕ Bool)} (h : xs.all wOk = true) : xs = (xs.map toI).map Sum.inl ∧ ∀ t ∈ xs.map toI, 0 ≤ t ∧ t ≤ 999 := by
  induction xs with
  | nil => simp
  | cons x xs ih =>
    simp only [List.all_cons, Bool.and_eq_true] at h
    obtain ⟨h1, h2⟩ := h
    obtain ⟨i1, i2⟩ := ih h2
    cases x with
    | inr b => simp [wOk] at h1
    | inl t =>
      simp only [wOk, Bool.and_eq_true, decide_eq_true_eq] at h1
      refine ⟨?_, fun u hu => ?_⟩
      · rw [List.map_cons, List.map_cons, ← i1]; rfl
      · rcases List.mem_cons.mp hu with e | m
        · rw [e]; exact h1
        · exact i2 u m
theorem upT_of {l : Int} {ts : List Int} (h : ∀ t ∈ ts, t ≤ 999) (h0 : ∀ t ∈ ts.head?, l ≤ t) (ha : ascE ts = true) : upT l ts := by
  induction ts generalizing l with
  | nil => trivial
  | cons t ts ih =>
    refine ⟨h0 t rfl, h t List.mem_cons_self, ih (fun u hu => h u (List.mem_cons_of_mem _ hu)) (fun u hu => ?_) ?_⟩
    · cases ts with
      | nil => simp at hu
      | cons v ts =>
        simp at hu
        subst hu
        simp only [ascE, List.all_eq_true, List.mem_range, List.length_cons] at ha
        have := ha 0 (by omega)
        simpa using this
    · simp only [ascE, List.all_eq_true, List.mem_range, List.length_cons, decide_eq_true_eq] at ha ⊢
      intro k hk
      have := ha (k + 1) (by omega)
      simpa using this
def anewR (ss : List St) (td : D) (xs : List (Int ⊕ Bool)) (Qd : D → Prop) (R : Exc → Prop) : Prop := if okTs ss.length xs = true then Qd (gO (retime ss (xs.map toI))) else R (badRow td)
def anewF : FS := fun sl Qd R => (∃ ss b xs, sl = [.fz (gO ss), .fz (rowD b xs)] ∧ okSt ss ∧ xs.length ≤ 1000 ∧ anewR ss (rowD b xs) xs (fun d => Qd d sl) (fun x => R x sl)) ∨ (∃ ss, sl = [.fz (gO ss), .fz .non] ∧ okSt ss ∧ R (badRow .non) sl) ∨
  ∃ d e, sl = [.fz d, .fz e] ∧ okD d = true ∧ R (unlike "growth") sl
theorem tupz_row {n : Nat} {b : Bool} {xs : List (Int ⊕ Bool)} : tupz (n + 1) (rowD b xs) = .tup (xs.map tcD) := by
  cases b <;> simp [rowD, tupz, List.map_map, Function.comp_def, tupz_atom]
theorem dep_row {n : Nat} {b : Bool} {xs : List (Int ⊕ Bool)} (h : xs.length ≤ 1000) : dep (n + 1) (rowD b xs) = true := by
  have e : xs.length ≤ sizeLine := by unfold sizeLine; omega
  have a : ∀ x ∈ xs, dep n (tcD x) = true := fun x _ => by cases n <;> cases x <;> rfl
  cases b <;> simpa [rowD, dep, e] using a
@[simp] theorem okD_row {b : Bool} {xs : List (Int ⊕ Bool)} : okD (rowD b xs) = true := by cases b <;> simp [rowD]
theorem at_ts {ts : List Int} {k : Nat} (h : k < ts.length) : atI (ts.map D.int) (k : Int) = some (.int (ts.getD k 0)) := at_ints h
section
variable {T : Tb} {Q : WK}
theorem m_timed_no {d e : D} (t : ChX0 T) (h : okD d = true) (r : Q.R (unlike "growth") [.fz d, .fz e, .un, .un, .un, .un]) : wSs T ir_timed_anew Q [.fz d, .fz e, .un, .un, .un, .un] := by
  unfold ir_timed_anew
  simp [-Bool.exists_bool, -List.all_eq_true, -List.any_eq_true, t.ng, needG_ok h]
  exact r
theorem m_timed_non {ss : List St} (t : ChX0 T) (hs : okSt ss) (r : ∀ ρ : List Slot, Q.R (badRow .non) (.fz (gO ss) :: .fz .non :: ρ)) : wSs T ir_timed_anew Q [.fz (gO ss), .fz .non, .un, .un, .un, .un] := by
  unfold ir_timed_anew
  have hd : dep 3 D.non = true := rfl
  simp [-Bool.exists_bool, -List.all_eq_true, -List.any_eq_true, t.ng, t.it, inT, hd, tupz, isT, t.e3]
  exact r _
theorem m_timed {ss : List St} {b : Bool} {xs : List (Int ⊕ Bool)} (t : ChX0 T) (hs : okSt ss) (hl : xs.length ≤ 1000) (q : okTs ss.length xs = true → ∀ ρ : List Slot, Q.rt (gO (retime ss (xs.map toI))) (.fz (gO ss) :: .fz (rowD b xs) :: ρ)) (r : okTs ss.length xs = false → ∀ ρ : List Slot, Q.R (badRow (rowD b xs)) (.fz (gO ss) :: .fz (rowD b xs) :: ρ)) :
    wSs T ir_timed_anew Q [.fz (gO ss), .fz (rowD b xs), .un, .un, .un, .un] := by
  unfold ir_timed_anew
  have hd := dep_row (n := 2) (b := b) hl
  have a := t.a
  have l1 := hs.1
  have l2 := hs.2.1
  simp [-Bool.exists_bool, -List.all_eq_true, -List.any_eq_true, t.ng, t.it, inT, hd, tupz_row, isT, t.e3]
  simp [-Bool.exists_bool, -List.all_eq_true, -List.any_eq_true, gO, dS, a, eqD_int]
  by_cases h1 : xs.length = ss.length
  · simp [-Bool.exists_bool, -List.all_eq_true, -List.any_eq_true, h1]
    refine loop_map (f := fun x => .bl (wOk x)) (by simp [lkOf_inr]) (fun x hx G hG => ?_) ?_
    · simp [-Bool.exists_bool, -List.all_eq_true, -List.any_eq_true, t.w, whole, t.lt]
      cases x with
      | inr b => simp [-Bool.exists_bool, -List.all_eq_true, -List.any_eq_true, tcD]; simpa [wOk] using hG
      | inl n =>
        simp [-Bool.exists_bool, -List.all_eq_true, -List.any_eq_true, tcD]
        by_cases h3 : 0 ≤ n
        · simpa [h3, wOk] using hG
        · simpa [h3, wOk] using hG
    · simp [-Bool.exists_bool, -List.all_eq_true, -List.any_eq_true]
      by_cases h4 : xs.all wOk = true
      · obtain ⟨ex, ht⟩ := all_wOk h4
        rw [if_pos h4]
        generalize ets : xs.map toI = ts at ex ht
        have lt : ts.length = ss.length := by rw [← ets]; simpa using h1
        have em : xs.map tcD = ts.map D.int := by rw [ex, List.map_map]; rfl
        rw [em]
        rw [upTo_map]
        refine ⟨by omega, by omega, by unfold sizeLine; omega, loop_map (f := fun k : Nat => .bl (decide (ts.getD k 0 ≤ ts.getD (k + 1) 0))) trivial (fun k hk G hG => ?_) ?_⟩
        · have hk' : k < ts.length - 1 := by have := List.mem_range.mp hk; omega
          have e1 := at_ts (ts := ts) (k := k) (by omega)
          have e2 := at_ts (ts := ts) (k := k + 1) (by omega)
          rw [Int.natCast_add, Int.natCast_one] at e2
          simp [-Bool.exists_bool, -List.all_eq_true, -List.any_eq_true, e1, e2]
          simpa using hG
        · simp [-Bool.exists_bool, -List.all_eq_true, -List.any_eq_true]
          have e5 : ((List.range (xs.length - 1)).all fun x => decide (ts[x]?.getD 0 ≤ ts[x + 1]?.getD 0)) = ascE ts := by rw [show xs.length = ts.length by omega]; rfl
          rw [e5]
          by_cases h6 : ascE ts = true
          · have ok : okTs ss.length xs = true := by simp [okTs, h1, h4, ets, h6]
            have up : upT 0 ts := upT_of (fun t m => (ht t m).2) (fun t m => (ht t (List.mem_of_mem_head? m)).1) h6
            have vr : okSt (retime ss ts) := ⟨by rw [retime_len lt.symm]; exact l1, by rw [retime_len lt.symm]; exact l2, valid_times hs.2.2 up lt.symm⟩
            rw [if_pos h6]
            simp [-Bool.exists_bool, -List.all_eq_true, -List.any_eq_true, t.gr, a]
            have ez : tups (ss.map encSt) (ts.map D.int) = (ss.zip ts).map fun p => D.tup [encSt p.1, .int p.2] := by
              simp [tups, List.zip_map, List.map_map, Function.comp_def]
            refine ⟨by rw [zip_len]; unfold sizeLine; simp; omega, ?_⟩
            rw [ez]
            refine loop_map (f := fun p => encSt (p.1.1, p.2)) (by simp [lkOf_inr]) (fun p hp G hG => ?_) ?_
            · simp [-Bool.exists_bool, -List.all_eq_true, -List.any_eq_true, encSt, show (2 : Nat) ≤ sizeLine by unfold sizeLine; omega]
              simpa [encSt] using hG
            · have er : (ss.zip ts).map (fun p => encSt (p.1.1, p.2)) = (retime ss ts).map encSt := by simp [retime, List.map_map, Function.comp_def]
              rw [er]
              simp [-Bool.exists_bool, -List.all_eq_true, -List.any_eq_true]
              refine growC_ok vr ?_
              have := q ok [.fz (.tup (ts.map .int)), .un, .un, .un]
              rw [ets] at this
              simpa [gO, dS] using this
          · have h6' : ascE ts = false := by simpa using h6
            rw [if_neg h6]
            exact r (by simp [okTs, ets, h6']) _
      · rw [if_neg h4]
        have h4' : xs.all wOk = false := by simpa using h4
        exact r (by simp [okTs, h4']) _
  · simp [-Bool.exists_bool, -List.all_eq_true, -List.any_eq_true, h1, show ¬ (xs.length : Int) = ss.length by omega]
    exact r (by simp [okTs, h1]) _
end
end PR
set_option Elab.async false
set_option linter.all false
set_option maxRecDepth 100000
set_option maxHeartbeats 4000000
/-! G8: steps put in, steps taken out. -/
namespace PR
open PySem PySem.Spec PyProof.Rows L2 EV
/-- the steps with c at k -/
def putC (ss : List St) (k : Nat) (c : Cand) : List Cand := (ss.take k).map toC ++ c :: (ss.drop k).map toC
def dropS (ss : List St) (k : Nat) : List St := ss.take k ++ ss.drop (k + 1)
theorem putC_len {ss : List St} {k : Nat} {c : Cand} (h : k ≤ ss.length) : (putC ss k c).length = ss.length + 1 := by simp [putC]; omega
theorem putC_ok {ss : List St} {k : Nat} {c : Cand} (hs : okSt ss) (h : k ≤ ss.length) (hl : ss.length ≤ 63) (hc : fcLen c.1 ≤ 1000) : okCs (putC ss k c) := by
  refine ⟨by rw [putC_len h]; omega, by rw [putC_len h]; omega, fun d hd => ?_⟩
  have hss := hs.cs.2.2
  unfold putC at hd
  rcases List.mem_append.mp hd with m | m
  · obtain ⟨s, m', rfl⟩ := List.mem_map.mp m
    exact hss _ (List.mem_map_of_mem (List.mem_of_mem_take m'))
  · rcases List.mem_cons.mp m with rfl | m
    · exact hc
    · obtain ⟨s, m', rfl⟩ := List.mem_map.mp m
      exact hss _ (List.mem_map_of_mem (List.mem_of_mem_drop m'))
theorem encC_toC {s : St} : encC (toC s) = encSt s := rfl
theorem dC_put {ss : List St} {k : Nat} {c : Cand} : dC (putC ss k c) = .tup ((ss.take k).map encSt ++ encC c :: (ss.drop k).map encSt) := by
  simp [dC, putC, List.map_map, Function.comp_def, encC_toC]
/-- what comes of a growth's making -/
def grR (cs : List Cand) (Qd : D → Prop) (R : Exc → Prop) : Prop := match firstBad cs with
  | none => Qd (gObj cs)
  | some i => R (badG i)
theorem growC_of {cs : List Cand} {Qd : D → List Slot → Prop} {R : Exc → List Slot → Prop} (h : okCs cs) (q : grR cs (fun d => Qd d [.fz (dC cs)]) (fun x => R x [.fz (dC cs)])) : growC [.fz (dC cs)] Qd R := by
  refine ⟨cs, rfl, h, ?_⟩
  unfold grR at q
  cases e : firstBad cs with
  | none => rw [e] at q; exact q
  | some i => rw [e] at q; exact q
def putF : FS := fun sl Qd R => (∃ (ss : List St) (k : Int) (f : Option (List Int)) (t : Int ⊕ Bool), sl = [.fz (gO ss), .fz (.int k), .fz (fcD f), .fz (tcD t)] ∧ okSt ss ∧ ss.length ≤ 63 ∧ fcLen f ≤ 1000 ∧ 0 ≤ k ∧ k ≤ ss.length ∧ grR (putC ss k.toNat (f, t)) (fun d => Qd d sl) (fun x => R x sl)) ∨
  (∃ (ss : List St) (k : Int) (a b : D), sl = [.fz (gO ss), .fz (.int k), .fz a, .fz b] ∧ okSt ss ∧ ¬ (0 ≤ k ∧ k ≤ ss.length) ∧ R (badNum stepK (.int k)) sl) ∨
  ∃ d a b c, sl = [.fz d, .fz a, .fz b, .fz c] ∧ okD d = true ∧ R (unlike "growth") sl
/-- may the step k be taken out? -/
def takB (ss : List St) (k : Int) : Option Exc := if 0 ≤ k ∧ k < ss.length then (if ss.length = 1 then some (unlike "last") else match ss[k.toNat]? with
    | some x => if ((ss.drop (k.toNat + 1)).any fun s => sideOf x.1 s.1) = true then some (unlike "steps") else none
    | none => none) else some (badNum stepK (.int k))
def takF : FS := fun sl Qd R => (∃ (ss : List St) (k : Int), sl = [.fz (gO ss), .fz (.int k)] ∧ okSt ss ∧ (match takB ss k with
    | some x => R x sl
    | none => Qd (gO (dropS ss k.toNat)) sl)) ∨ ∃ d a, sl = [.fz d, .fz a] ∧ okD d = true ∧ R (unlike "growth") sl
theorem takB_in {ss : List St} {k : Int} (h0 : 0 ≤ k) (h1 : k < ss.length) : ∃ n : Nat, k = n ∧ ∃ h : n < ss.length, takB ss k = if ss.length = 1 then some (unlike "last") else if ((ss.drop (n + 1)).any fun s => sideOf ss[n].1 s.1) = true then some (unlike "steps") else none := by
  refine ⟨k.toNat, (Int.toNat_of_nonneg h0).symm, by omega, ?_⟩
  unfold takB
  rw [if_pos ⟨h0, h1⟩, List.getElem?_eq_getElem (show k.toNat < ss.length by omega)]
theorem okSt.drop {ss : List St} {k : Int} (h : okSt ss) (e : takB ss k = none) : 0 ≤ k ∧ k < ss.length ∧ okSt (dropS ss k.toNat) := by
  by_cases hk : 0 ≤ k ∧ k < ss.length
  · obtain ⟨n, en, hn, e'⟩ := takB_in hk.1 hk.2
    subst en
    rw [e'] at e
    have h1 : ¬ ss.length = 1 := fun z => by rw [if_pos z] at e; cases e
    rw [if_neg h1] at e
    have h2 : ¬ ((ss.drop (n + 1)).any fun s => sideOf ss[n].1 s.1) = true := fun z => by rw [if_pos z] at e; cases e
    have l1 := h.1
    have l2 := h.2.1
    refine ⟨hk.1, hk.2, ?_⟩
    rw [Int.toNat_natCast]
    refine ⟨by simp [dropS]; omega, by simp [dropS]; omega, valid_out h.2.2 hn fun y hy s hs z => h2 ?_⟩
    rw [List.any_eq_true]
    refine ⟨y, hy, ?_⟩
    unfold sideOf
    rw [decide_eq_true_eq, ← z]
    exact List.mem_map_of_mem hs
  · unfold takB at e
    rw [if_neg hk] at e; cases e
section
variable {T : Tb} {Q : WK}
theorem m_put_no {d a b c : D} (t : ChX0 T) (h : okD d = true) (r : Q.R (unlike "growth") [.fz d, .fz a, .fz b, .fz c]) : wSs T ir_put_in Q [.fz d, .fz a, .fz b, .fz c] := by
  unfold ir_put_in
  simp [-Bool.exists_bool, -List.all_eq_true, -List.any_eq_true, t.ng, needG_ok h]
  exact r
theorem m_put_out {ss : List St} {k : Int} {a b : D} (t : ChX0 T) (hs : okSt ss) (hk : ¬ (0 ≤ k ∧ k ≤ ss.length)) (r : Q.R (badNum stepK (.int k)) [.fz (gO ss), .fz (.int k), .fz a, .fz b]) : wSs T ir_put_in Q [.fz (gO ss), .fz (.int k), .fz a, .fz b] := by
  unfold ir_put_in
  have z : btw (.int k) ss.length = false := by simp only [btw, Bool.and_eq_false_iff, decide_eq_false_iff_not]; omega
  simp [-Bool.exists_bool, -List.all_eq_true, -List.any_eq_true, t.ng]
  simp [-Bool.exists_bool, -List.all_eq_true, -List.any_eq_true, gO, dS, t.a, t.nb, needF, z]
  exact r
theorem m_put_in {ss : List St} {k : Int} {f : Option (List Int)} {tt : Int ⊕ Bool} (t : ChX0 T) (hs : okSt ss) (hl : ss.length ≤ 63) (hf : fcLen f ≤ 1000) (h0 : 0 ≤ k) (h1 : k ≤ ss.length)
    (q : grR (putC ss k.toNat (f, tt)) (fun d => Q.rt d [.fz (gO ss), .fz (.int k), .fz (fcD f), .fz (tcD tt)]) (fun x => Q.R x [.fz (gO ss), .fz (.int k), .fz (fcD f), .fz (tcD tt)])) : wSs T ir_put_in Q [.fz (gO ss), .fz (.int k), .fz (fcD f), .fz (tcD tt)] := by
  unfold ir_put_in
  obtain ⟨n, en⟩ : ∃ n : Nat, k = n := ⟨k.toNat, (Int.toNat_of_nonneg h0).symm⟩
  subst en
  rw [Int.toNat_natCast] at q
  have z : btw (.int n) ss.length = true := by simp only [btw, Bool.and_eq_true, decide_eq_true_eq]; omega
  have c1 := cutS_to (ss := ss) (k := n)
  have c2 := cutS_from (ss := ss) (k := n)
  have e2 : min n ss.length + 1 ≤ sizeLine := by unfold sizeLine; omega
  have e3 : min n ss.length + 1 + (ss.length - n) ≤ sizeLine := by unfold sizeLine; omega
  have e4 : (2 : Nat) ≤ sizeLine := by unfold sizeLine; omega
  have e5 : (1 : Nat) ≤ sizeLine := by unfold sizeLine; omega
  have ok := putC_ok (c := (f, tt)) hs (show n ≤ ss.length by omega) hl hf
  have ed := dC_put (ss := ss) (k := n) (c := (f, tt))
  simp [-Bool.exists_bool, -List.all_eq_true, -List.any_eq_true, t.ng]
  simp [-Bool.exists_bool, -List.all_eq_true, -List.any_eq_true, gO, dS, t.a, t.nb, needF, z, c1, c2, e2, e3, e4, e5, t.gr]
  simp only [encC, List.map_take, List.map_drop] at ed ⊢
  rw [← ed]
  refine growC_of ok ?_
  exact q
theorem m_taken_no {d a : D} (t : ChX0 T) (h : okD d = true) (r : Q.R (unlike "growth") [.fz d, .fz a, .un, .un]) : wSs T ir_taken_out Q [.fz d, .fz a, .un, .un] := by
  unfold ir_taken_out
  simp [-Bool.exists_bool, -List.all_eq_true, -List.any_eq_true, t.ng, needG_ok h]
  exact r
theorem m_taken {ss : List St} {k : Int} (t : ChX0 T) (hs : okSt ss) (q : takB ss k = none → Q.rt (gO (dropS ss k.toNat)) [.fz (gO ss), .fz (.int k), .un, .un]) (r : ∀ x, takB ss k = some x → Q.R x [.fz (gO ss), .fz (.int k), .un, .un]) :
    wSs T ir_taken_out Q [.fz (gO ss), .fz (.int k), .un, .un] := by
  unfold ir_taken_out
  have l1 := hs.1
  have l2 := hs.2.1
  simp [-Bool.exists_bool, -List.all_eq_true, -List.any_eq_true, t.ng]
  by_cases hk : 0 ≤ k ∧ k < ss.length
  · have z : btw (.int k) ((ss.length : Int) - 1) = true := by simp only [btw, Bool.and_eq_true, decide_eq_true_eq]; omega
    obtain ⟨n, en, hn, e⟩ := takB_in hk.1 hk.2
    subst en
    have f1 := at_st hn
    have c1 := cutS_to (ss := ss) (k := n)
    have c2 := cutS_from (ss := ss) (k := n + 1)
    rw [Int.natCast_add, Int.natCast_one] at c2
    have e3 : min n ss.length + (ss.length - (n + 1)) ≤ sizeLine := by unfold sizeLine; omega
    simp [-Bool.exists_bool, -List.all_eq_true, -List.any_eq_true, gO, dS, t.a, t.nb, needF, z, eqD_int, t.e1]
    by_cases h1 : ss.length = 1
    · rw [if_pos h1] at e
      simp [-Bool.exists_bool, -List.all_eq_true, -List.any_eq_true, h1, show ((ss.length : Nat) : Int) = 1 by omega]
      exact r _ e
    · rw [if_neg h1] at e
      simp [-Bool.exists_bool, -List.all_eq_true, -List.any_eq_true, h1, show ¬ ((ss.length : Nat) : Int) = 1 by omega, c2]
      rw [← List.map_drop]
      refine loop_map (f := fun s => .bl (sideOf ss[n].1 s.1)) trivial (fun s hs' G hG => ?_) ?_
      · have hf : okFace s.1 = true := fbad_mem hs.2.2 _ (List.mem_of_mem_drop hs')
        simp [-Bool.exists_bool, -List.all_eq_true, -List.any_eq_true, encSt, t.a, f1, t.sd, hf]
        simpa [dS, encSt] using hG
      · simp [-Bool.exists_bool, -List.all_eq_true, -List.any_eq_true, -List.map_drop]
        by_cases h2 : ((ss.drop (n + 1)).any fun s => sideOf ss[n].1 s.1) = true
        · rw [if_pos h2] at e ⊢
          exact r _ e
        · rw [if_neg h2] at e ⊢
          have ok := (hs.drop e).2.2
          have ed : D.tup ((ss.take n).map encSt ++ (ss.drop (n + 1)).map encSt) = dS (dropS ss n) := by simp [dS, dropS]
          rw [Int.toNat_natCast] at ok
          have q' := q e
          rw [Int.toNat_natCast] at q'
          simp [-Bool.exists_bool, -List.all_eq_true, -List.any_eq_true, t.a, c1, c2, e3, t.gr]
          simp only [List.map_take, List.map_drop] at ed ⊢
          rw [ed]
          exact growC_ok ok q'
  · have z : btw (.int k) ((ss.length : Int) - 1) = false := by simp only [btw, Bool.and_eq_false_iff, decide_eq_false_iff_not]; omega
    have e : takB ss k = some (badNum stepK (.int k)) := by unfold takB; rw [if_neg hk]
    simp [-Bool.exists_bool, -List.all_eq_true, -List.any_eq_true, gO, dS, t.a, t.nb, needF, z]
    exact r _ e
end
end PR
set_option Elab.async false
set_option linter.all false
set_option maxRecDepth 100000
set_option maxHeartbeats 4000000
/-! G9: the law's pen. -/
namespace PR
open PySem PySem.Spec PyProof.Rows L2 EV
section
variable {cells : List Int} {a d c f x : Int}
@[simp] theorem val_cells : valD (penK cells a d c f) (.inr "cells") = some (.lst (cells.map .int)) := by unfold valD; rfl
@[simp] theorem val_at : valD (penK cells a d c f) (.inr "at") = some (.int a) := by unfold valD; rfl
@[simp] theorem val_digits : valD (penK cells a d c f) (.inr "digits") = some (.int d) := by unfold valD; rfl
@[simp] theorem val_count : valD (penK cells a d c f) (.inr "count") = some (.int c) := by unfold valD; rfl
@[simp] theorem val_fold : valD (penK cells a d c f) (.inr "fold") = some (.int f) := by unfold valD; rfl
@[simp] theorem put_at : putS (.bK (penK cells a d c f)) (.str "at") (.int x) = some (.bK (penK cells x d c f)) := by unfold putS; rfl
@[simp] theorem put_digits : putS (.bK (penK cells a d c f)) (.str "digits") (.int x) = some (.bK (penK cells a x c f)) := by unfold putS; rfl
@[simp] theorem put_count : putS (.bK (penK cells a d c f)) (.str "count") (.int x) = some (.bK (penK cells a d x f)) := by unfold putS; rfl
@[simp] theorem put_fold : putS (.bK (penK cells a d c f)) (.str "fold") (.int x) = some (.bK (penK cells a d c x)) := by unfold putS; rfl
end
def hdS : Ss → S
  | .cons s _ => s
  | .nil => .pas
def tlS : Ss → Ss
  | .cons _ r => r
  | .nil => .nil
theorem draw_eq : ir__law_draw = .cons (hdS ir__law_draw) (.cons (hdS (tlS ir__law_draw)) (tlS (tlS ir__law_draw))) := rfl
theorem log_lt {n k : Nat} (h : n < 2 ^ k) (hk : 0 < k := by omega) : n.log2 < k := by
  by_cases z : n = 0
  · subst z; simpa using hk
  · exact (Nat.log2_lt z).mpr h
section
variable {T : Tb} {Q : WK}
theorem m_draw_tail {cells : List Int} {a d c f m : Int} {n : Nat} {s : Slot} (hs : s.lent = false) (h : penOk n cells a d c f) (hn : n < 2 ^ 41) (m0 : 0 < m) (m1 : m ≤ 2 ^ 40)
    (q : ∀ r a' d' c' f', 0 ≤ r → r < m → penOk n cells a' d' c' f' → ∀ ρ : List Slot, Q.rt (.int r) (.bK (penK cells a' d' c' f') :: .fz (.int m) :: ρ)) :
    wSs T (tlS (tlS ir__law_draw)) Q [.bK (penK cells a d c f), .fz (.int m), .un, s, .un] := by
  obtain ⟨h1, h2, h3, h4, h5, h6, h7, h8⟩ := h
  unfold ir__law_draw tlS
  have lm : m.natAbs.log2 < 9000 := Nat.lt_trans (log_lt (k := 64) (by omega)) (by omega)
  simp [-Bool.exists_bool, -List.all_eq_true, -List.any_eq_true, tlS, m0, lm]
  by_cases hd : 0 < d
  · simp [-Bool.exists_bool, -List.all_eq_true, -List.any_eq_true, hd]
    exact q _ _ _ _ _ (Int.emod_nonneg _ (by omega)) (Int.emod_lt_of_pos _ m0) ⟨h1, h2, h3, Int.ediv_nonneg h4 (by omega), h5, h6, h7, h8⟩ _
  · have b1 : c.natAbs.log2 + Nat.log2 9173 < 1000000 := by
      have e1 : c.natAbs.log2 < 64 := log_lt (by omega)
      have e2 : Nat.log2 9173 < 64 := log_lt (by omega)
      omega
    have b2 : (f + c * 9173 + 37).natAbs < 2 ^ 64 := by omega
    simp [-Bool.exists_bool, -List.all_eq_true, -List.any_eq_true, hd, b1, b2, m0, lm, show Nat.log2 512 < 9000 from by decide]
    exact q _ _ _ _ _ (Int.emod_nonneg _ (by omega)) (Int.emod_lt_of_pos _ m0) ⟨h1, h2, h3, h4, h5, h6, h7, h8⟩ _
theorem m_draw {cells : List Int} {a d c f m : Int} {n : Nat} (h : penOk n cells a d c f) (hn : n < 2 ^ 40) (m0 : 0 < m) (m1 : m ≤ 2 ^ 40)
    (q : ∀ r a' d' c' f', 0 ≤ r → r < m → penOk (n + 1) cells a' d' c' f' → ∀ ρ : List Slot, Q.rt (.int r) (.bK (penK cells a' d' c' f') :: .fz (.int m) :: ρ)) :
    wSs T ir__law_draw Q [.bK (penK cells a d c f), .fz (.int m), .un, .un, .un] := by
  have ht := fun (a' d' c' f' : Int) (s : Slot) (hs : s.lent = false) (h : penOk (n + 1) cells a' d' c' f') => m_draw_tail (T := T) (Q := Q) hs h (by omega) m0 m1 q
  obtain ⟨h1, h2, h3, h4, h5, h6, h7, h8⟩ := h
  rw [draw_eq]
  generalize tlS (tlS ir__law_draw) = tl at ht ⊢
  unfold ir__law_draw
  have l1 : (1 : Nat) < sizeLine := by unfold sizeLine; omega
  by_cases hd : d = 0
  · by_cases ha : a < cells.length
    · have at1 : atI (cells.map D.int) a = some (.int (cells.getD a.toNat 0)) := by
        have := at_ints (f := cells) (k := a.toNat) (by omega)
        rwa [Int.toNat_of_nonneg h2] at this
      generalize cells.getD a.toNat 0 = x at at1
      have b1 : f.natAbs.log2 + Nat.log2 40692 < 1000000 := by
        have e1 : f.natAbs.log2 < 64 := log_lt (by omega)
        have e2 : Nat.log2 40692 < 64 := log_lt (by omega)
        omega
      simp [-Bool.exists_bool, -List.all_eq_true, -List.any_eq_true, hdS, tlS, eqD_int, hd, ha, at1]
      by_cases hc : (1000000000000000000 : Int) ≤ x
      · rw [if_pos hc]
        exact ht _ _ _ _ _ rfl ⟨h1, by omega, by omega, by omega, by omega, by omega, h7, h8⟩
      · rw [if_neg hc]
        simp [-Bool.exists_bool, -List.all_eq_true, -List.any_eq_true, b1]
        exact ht _ _ _ _ _ rfl ⟨h1, by omega, by omega, by omega, by omega, by omega, Int.emod_nonneg _ (by omega), Int.lt_trans (Int.emod_lt_of_pos _ (by omega)) (by omega)⟩
    · simp [-Bool.exists_bool, -List.all_eq_true, -List.any_eq_true, hdS, tlS, eqD_int, hd, ha]
      exact ht _ _ _ _ _ rfl ⟨h1, h2, h3, by omega, by omega, by omega, h7, h8⟩
  · simp [-Bool.exists_bool, -List.all_eq_true, -List.any_eq_true, hdS, tlS, eqD_int, hd]
    exact ht _ _ _ _ _ rfl ⟨h1, h2, h3, h4, by omega, by omega, h7, h8⟩
def drawK : FS := fun sl Qd R => ∃ (cells : List Int) (a d c f m : Int) (n : Nat), sl = [.bK (penK cells a d c f), .fz (.int m)] ∧ penOk n cells a d c f ∧ n < 2 ^ 40 ∧ 0 < m ∧ m ≤ 2 ^ 40 ∧ ∀ r a' d' c' f', 0 ≤ r → r < m → penOk (n + 1) cells a' d' c' f' → Qd (.int r) [.bK (penK cells a' d' c' f'), .fz (.int m)]
/-- a draw, of any number in range -/
def drawF : FS := fun sl Qd R => ∃ (m : Int) (n : Nat), sl = [.pn n, .fz (.int m)] ∧ n < 2 ^ 40 ∧ 0 < m ∧ m ≤ 2 ^ 40 ∧ ∀ r, 0 ≤ r → r < m → Qd (.int r) [.pn (n + 1), .fz (.int m)]
/-! ### the pen is made -/
theorem m_pen {xs : List Int} (h : xs.length ≤ 63) (q : ∀ f ρ, 0 ≤ f → f < 2 ^ 32 → Q.rf (.dK (penK xs 0 0 0 f)) ρ) : wSs T ir__law_pen Q [.fz (.gl (xs.map .int)), .un, .un] := by
  unfold ir__law_pen
  have e2 : Nat.log2 61 < 64 := log_lt (by omega)
  simp [-Bool.exists_bool, -List.all_eq_true, -List.any_eq_true]
  refine for_ind (fun i ρ => ∃ f s, 0 ≤ f ∧ f < 998244353 ∧ Slot.lent s = false ∧ ρ = [.fz (.gl (xs.map .int)), .fz (.int f), s]) ⟨0, .un, by omega, by omega, rfl, rfl⟩ ?_ ?_
  · rintro i x ρ hx ⟨f, s, f0, f1, hs, rfl⟩ next hn
    rw [List.getElem?_map] at hx
    cases hi : xs[i]? with
    | none => rw [hi] at hx; cases hx
    | some y =>
      rw [hi] at hx
      have ex := (Option.some.inj hx).symm
      subst ex
      have b1 : f.natAbs.log2 + Nat.log2 61 < 1000000 := by
        have e1 : f.natAbs.log2 < 64 := log_lt (by omega)
        omega
      simp [-Bool.exists_bool, -List.all_eq_true, -List.any_eq_true, hs, b1]
      exact hn _ ⟨_, _, Int.emod_nonneg _ (by omega), Int.emod_lt_of_pos _ (by omega), rfl, rfl⟩
  · rintro ρ ⟨f, s, f0, f1, hs, rfl⟩
    simp [-Bool.exists_bool, -List.all_eq_true, -List.any_eq_true]
    exact ⟨by decide, q f _ f0 (by omega)⟩
end
end PR
set_option Elab.async false
set_option linter.all false
set_option maxRecDepth 100000
set_option maxHeartbeats 4000000
/-! G10: the law's draws. -/
namespace PR
open PySem PySem.Spec PyProof.Rows L2 EV
theorem toPs_ints (xs : List Int) : toPs (xs.map D.int) = some (xs.map .int) := by
  induction xs with
  | nil => rfl
  | cons a f ih => simp [toPs, toP, ih]
theorem sortD_ints {xs : List Int} (h : xs.length ≤ sizeLine) : ∃ ys : List Int, sortD (xs.map D.int) = some (ys.map D.int) ∧ ys.Perm xs ∧ ys.Pairwise (· ≤ ·) := by
  refine ⟨xs.mergeSort fun a b => decide (a ≤ b), ?_, List.mergeSort_perm _ _, ?_⟩
  · unfold sortD
    rw [toPs_ints, Option.bind_some, if_pos]
    · rw [List.map_mergeSort (s := PySem.W.dataLe false pOf)]
      intro a _ b _
      have e := congrFun (congrFun (PySem.W.dataLe_int (fun x : Int => x)) a) b
      exact e.symm
    · refine ⟨PySem.W.AllAlike.of fun _ _ => by simp [PySem.W.alike], PySem.W.Sortable.others fun b => ⟨by simp, by simp⟩, ?_, by simpa using h⟩
      intro p hp
      obtain ⟨x, _, rfl⟩ := List.mem_map.mp hp
      simp [PyData.depth]
  · have := List.pairwise_mergeSort (le := fun a b : Int => decide (a ≤ b)) (fun a b c h1 h2 => by simp at h1 h2 ⊢; omega) (fun a b => by simp; omega) xs
    exact this.imp fun h => by simpa using h
def encP (p : Int × List Int) : D := .tup [.int p.1, dF p.2]
def encQ (p : Int × List Int) : PyData := .tuple [.int p.1, .tuple (p.2.map .int)]
theorem toPs_encP (ps : List (Int × List Int)) : toPs (ps.map encP) = some (ps.map encQ) := by
  induction ps with
  | nil => rfl
  | cons a f ih => simp [toPs, toP, ih, encP, encQ, toP_dF]
theorem sortD_tups {ps : List (Int × List Int)} (h : ps.length ≤ sizeLine) : ∃ qs : List (Int × List Int), sortD (ps.map encP) = some (qs.map encP) ∧ qs.Perm ps := by
  refine ⟨ps.mergeSort fun a b => PySem.W.dataLe false pOf (encP a) (encP b), ?_, List.mergeSort_perm _ _⟩
  unfold sortD
  rw [toPs_encP, Option.bind_some, if_pos]
  · rw [List.map_mergeSort (s := PySem.W.dataLe false pOf)]
    intro a _ b _
    rfl
  · refine ⟨PySem.W.AllAlike.of fun a b => ?_, PySem.W.Sortable.tuples fun b => ⟨_, _, rfl⟩, ?_, by simpa using h⟩
    · simp [encQ, PySem.W.alike, PySem.W.alikeAll, PySem.W.alike_ints]
    · intro p hp
      obtain ⟨x, _, rfl⟩ := List.mem_map.mp hp
      simp [encQ, PyData.depth, PyData.depthAll, PySem.W.depth_ints]
def pickF : FS := fun sl Qd R => ∃ (ds : List D) (n : Nat), sl = [.pn n, .fz (.lst ds)] ∧ n < 2 ^ 40 ∧ 0 < ds.length ∧ ds.length ≤ 1000 ∧ ∀ d ∈ ds, Qd d [.pn (n + 1), .fz (.lst ds)]
def shufF : FS := fun sl Qd R => ∃ (ds : List D) (n : Nat), sl = [.pn n, .fz (.lst ds)] ∧ n < 2 ^ 39 ∧ ds.length ≤ 1000 ∧ ∀ es, es.Perm ds → Qd (.lst es) [.pn (n + ds.length), .fz (.lst ds)]
theorem perm_erase {α : Type} {ds : List α} {k : Nat} (h : k < ds.length) : (ds[k] :: ds.eraseIdx k).Perm ds := by
  rw [List.eraseIdx_eq_take_drop_succ]
  have e : ds = ds.take k ++ ds[k] :: ds.drop (k + 1) := by
    rw [← List.drop_eq_getElem_cons h, List.take_append_drop]
  conv => rhs; rw [e]
  exact List.perm_middle.symm
section
variable {T : Tb} {Q : WK}
theorem m_pick {ds : List D} {n : Nat} (hd : T.Γ "_law_draw" = some drawF) (hn : n < 2 ^ 40) (h0 : 0 < ds.length) (h1 : ds.length ≤ 1000) (q : ∀ d ∈ ds, Q.rt d [.pn (n + 1), .fz (.lst ds)]) : wSs T ir__law_pick Q [.pn n, .fz (.lst ds)] := by
  unfold ir__law_pick
  simp [-Bool.exists_bool, -List.all_eq_true, -List.any_eq_true, hd]
  refine ⟨ds.length, n, rfl, hn, by omega, by omega, fun r r0 r1 => ?_⟩
  have hk : r.toNat < ds.length := by omega
  have e : atI ds r = some ds[r.toNat] := atI_nat r0 (List.getElem?_eq_getElem hk)
  simp [-Bool.exists_bool, -List.all_eq_true, -List.any_eq_true, e]
  exact q _ (List.getElem_mem hk)
theorem m_shuffled {ds : List D} {n : Nat} (hd : T.Γ "_law_draw" = some drawF) (hn : n < 2 ^ 39) (h1 : ds.length ≤ 1000) (q : ∀ es, es.Perm ds → ∀ ρ : List Slot, Q.rt (.lst es) (.pn (n + ds.length) :: .fz (.lst ds) :: ρ)) : wSs T ir__law_shuffled Q [.pn n, .fz (.lst ds), .un, .un, .un] := by
  unfold ir__law_shuffled
  simp [-Bool.exists_bool, -List.all_eq_true, -List.any_eq_true]
  refine ⟨by omega, by unfold sizeLine; omega, ?_⟩
  refine for_ind (fun i ρ => ∃ (L G : List D) (s : Slot), Slot.lent s = false ∧ ρ = [.pn (n + i), .fz (.lst ds), s, .ol L, .ol G] ∧ i ≤ ds.length ∧ L.length = ds.length - i ∧ G.length = i ∧ (G ++ L).Perm ds) ⟨ds, [], .un, rfl, rfl, by omega, rfl, rfl, by simp⟩ ?_ ?_
  · rintro i x ρ hx ⟨L, G, s, hs, rfl, hi, hL, hG, hp⟩ next hn'
    have hi' : i < ds.length := by
      have := (List.getElem?_eq_some_iff.mp hx).1
      simpa [EV.upTo] using this
    have ex : x = .int i := by
      rw [upTo_map, List.getElem?_map, List.getElem?_range hi'] at hx
      simpa using (Option.some.inj hx).symm
    subst ex
    simp [-Bool.exists_bool, -List.all_eq_true, -List.any_eq_true, hs, hd]
    refine ⟨L.length, n + i, rfl, by omega, by omega, by omega, fun r r0 r1 => ?_⟩
    have hk : r.toNat < L.length := by omega
    have es : seqIndex? r L.length = some r.toNat := seqIndex_of r0 r1
    simp [-Bool.exists_bool, -List.all_eq_true, -List.any_eq_true, es, hk]
    refine ⟨by omega, by omega, by unfold sizeLine; omega, hn' _ ⟨L.eraseIdx r.toNat, G ++ [L[r.toNat]], .fz (.int i), rfl, rfl, by omega, ?_, ?_, ?_⟩⟩
    · rw [List.length_eraseIdx_of_lt hk]; omega
    · simp; omega
    · rw [List.append_assoc]
      exact (List.Perm.append_left G (perm_erase hk)).trans hp
  · rintro ρ ⟨L, G, s, hs, rfl, hi, hL, hG, hp⟩
    have e : (EV.upTo ds.length 0).length = ds.length := by simp [EV.upTo]
    rw [e] at hL hG ⊢
    have eL : L = [] := List.eq_nil_of_length_eq_zero (by omega)
    subst eL
    simp [-Bool.exists_bool, -List.all_eq_true, -List.any_eq_true]
    exact q G (by simpa using hp) _
end
end PR
set_option Elab.async false
set_option linter.all false
set_option maxRecDepth 100000
set_option maxHeartbeats 4000000
/-! G11: sides and parts, by the law. -/
namespace PR
open PySem PySem.Spec PyProof.Rows L2 EV
section
variable {T : Tb} {Q : WK}
theorem m_law_is_int {a : D} (h : okD a = true) (q : Q.rt (.bl (isW a)) [.fz a]) : wSs T ir__law_is_int Q [.fz a] := by
  unfold ir__law_is_int
  simp [-Bool.exists_bool, -List.all_eq_true, -List.any_eq_true, h]
  cases a <;> simp [isI, isBo, isW] at q ⊢ <;> simp [*]
theorem m_law_sides {f : List Int} (hz : f.length ≤ 1000) (q : Q.rt (.lst ((sidesL f).map encS)) [.fz (dF f), .un]) : wSs T ir__law_sides Q [.fz (dF f), .un] := by
  unfold ir__law_sides
  simp [-Bool.exists_bool, -List.all_eq_true, -List.any_eq_true, dF, eqD_int]
  by_cases h1 : f.length = 1
  · simp [-Bool.exists_bool, -List.all_eq_true, -List.any_eq_true, h1, show ((f.length : Nat) : Int) = 1 by omega]
    simpa [sidesL, h1, dF] using q
  · simp [-Bool.exists_bool, -List.all_eq_true, -List.any_eq_true, h1, show ¬ ((f.length : Nat) : Int) = 1 by omega]
    refine ⟨by omega, by unfold sizeLine; omega, ?_⟩
    rw [upTo_map]
    refine loop_map (f := fun k : Nat => encS (f.take k ++ f.drop (k + 1), if k % 2 = 0 then 1 else -1)) trivial (fun k hk G hG => ?_) ?_
    · have hk' : k < f.length := List.mem_range.mp hk
      have c1 := cut_to (f := f) (k := k)
      have c2 := cut_from (f := f) (k := k + 1)
      rw [Int.natCast_add, Int.natCast_one] at c2
      have e1 : min k f.length + (f.length - (k + 1)) ≤ sizeLine := by unfold sizeLine; omega
      have e2 : (2 : Nat) ≤ sizeLine := by unfold sizeLine; omega
      simp [-Bool.exists_bool, -List.all_eq_true, -List.any_eq_true, c1, c2, eqD_int, e1, e2]
      by_cases h2 : k % 2 = 0
      · have h3 : (k : Int) % 2 = 0 := by omega
        simp [h3, e2]
        simpa [h2, encS, dF] using hG
      · have h3 : ¬ (k : Int) % 2 = 0 := by omega
        have h4 : ¬ (2 : Int) ∣ k := by omega
        simp [h3, h4, e2]
        simpa [h2, encS, dF] using hG
    · simp [-Bool.exists_bool, -List.all_eq_true, -List.any_eq_true]
      simpa [sidesL, h1, dF, List.map_map, Function.comp_def] using q
end
/-! ### parts -/
def subs (f : List Int) : List (List Int) := f.foldl (fun acc c => acc ++ acc.map (· ++ [c])) [[]]
theorem subs_snoc (f : List Int) (c : Int) : subs (f ++ [c]) = subs f ++ (subs f).map (· ++ [c]) := by simp [subs]
theorem snocInd {α : Type} {p : List α → Prop} (h0 : p []) (h1 : ∀ l a, p l → p (l ++ [a])) : ∀ l, p l := fun l => by
  have key : ∀ (n : Nat) (l : List α), l.length = n → p l := by
    intro n
    induction n with
    | zero => intro l hl; rw [List.eq_nil_of_length_eq_zero hl]; exact h0
    | succ n ih =>
      intro l hl
      have hne : l ≠ [] := fun z => by rw [z] at hl; cases hl
      rw [← List.dropLast_concat_getLast hne]
      exact h1 _ _ (ih _ (by simp [hl]))
  exact key l.length l rfl
theorem subs_len : ∀ f : List Int, (subs f).length = 2 ^ f.length := by
  refine snocInd rfl fun l a ih => ?_
  rw [subs_snoc]
  simp [ih, Nat.pow_succ]
  omega
theorem mem_subs : ∀ (f g : List Int), g ∈ subs f ↔ g.Sublist f := by
  refine snocInd (fun g => ?_) fun l a ih g => ?_
  · simp [subs]
  · rw [subs_snoc, List.mem_append, List.mem_map, ih, List.sublist_append_iff]
    constructor
    · rintro (h | ⟨x, hx, rfl⟩)
      · exact ⟨g, [], by simp, h, by simp⟩
      · exact ⟨x, [a], rfl, (ih x).mp hx, List.Sublist.refl _⟩
    · rintro ⟨l1, l2, rfl, h1, h2⟩
      have h2' : l2 = [] ∨ l2 = [a] := by
        have hl := h2.length_le
        match l2, h2, hl with
        | [], _, _ => exact .inl rfl
        | [x], h2, _ => exact .inr (h2.eq_of_length rfl)
      rcases h2' with rfl | rfl
      · exact .inl (by simpa using h1)
      · exact .inr ⟨l1, (ih l1).mpr h1, rfl⟩
theorem subs_nodup : ∀ f : List Int, f.Nodup → (subs f).Nodup := by
  refine snocInd (fun _ => by simp [subs]) fun l a ih h => ?_
  rw [List.nodup_append] at h
  obtain ⟨h1, _, h3⟩ := h
  rw [subs_snoc, List.nodup_append]
  refine ⟨ih h1, ?_, fun x hx y hy e => ?_⟩
  · refine List.Pairwise.map _ (fun x y hne z => hne ?_) (ih h1)
    exact List.append_cancel_right z
  · obtain ⟨z, _, rfl⟩ := List.mem_map.mp hy
    have hs := (mem_subs l x).mp hx
    have : a ∈ l := hs.subset (by rw [e]; simp)
    exact h3 a this a (by simp) rfl
def partsL (f : List Int) : List (List Int) := (subs f).filter fun x => decide (x ≠ [])
def partsF : FS := fun sl Qd R => ∃ f, sl = [.fz (dF f)] ∧ f.length ≤ 10 ∧ ∀ es : List (List Int), es.Perm (partsL f) → Qd (.lst (es.map dF)) sl
theorem toP_eq {f : List Int} : toP (D.tup (f.map D.int)) = some (.tuple (f.map .int)) := toP_dF f
theorem eqD_dF {f g : List Int} : eqD (dF f) (dF g) = some (decide (f = g)) := by
  have e : eqD (dF f) (dF g) = eqP (dF f) (dF g) := by
    unfold eqD dF
    rfl
  rw [e]
  unfold eqP
  rw [toP_dF, toP_dF]
  simp [shaped_dF, PyData.eqv, eqv_ints]
section
variable {T : Tb} {Q : WK}
theorem m_law_parts {f : List Int} (hz : f.length ≤ 10) (q : ∀ es : List (List Int), es.Perm (partsL f) → ∀ ρ : List Slot, Q.rt (.lst (es.map dF)) (.fz (dF f) :: ρ)) : wSs T ir__law_parts Q [.fz (dF f), .un, .un, .un, .un, .un] := by
  unfold ir__law_parts
  simp [-Bool.exists_bool, -List.all_eq_true, -List.any_eq_true, dF]
  refine ⟨by unfold sizeLine; omega, ?_⟩
  refine for_ind (fun i ρ => ∃ s, Slot.lent s = false ∧ i ≤ f.length ∧ ρ = [.fz (dF f), .ol ((subs (f.take i)).map dF), s, .un, .un, .un]) ⟨.un, rfl, by omega, rfl⟩ ?_ ?_
  · rintro i x ρ hx ⟨s, hs, hi, rfl⟩ next hn
    rw [List.getElem?_map] at hx
    have hi' : i < f.length := by
      refine Nat.lt_of_not_le fun z => ?_
      rw [List.getElem?_eq_none z] at hx; cases hx
    rw [List.getElem?_eq_getElem hi'] at hx
    have ex := (Option.some.inj hx).symm
    subst ex
    have hl : (subs (f.take i)).length ≤ 1024 := by
      rw [subs_len]
      calc 2 ^ (f.take i).length ≤ 2 ^ 10 := Nat.pow_le_pow_right (by omega) (by simp; omega)
        _ = 1024 := rfl
    have e5 : (1 : Nat) ≤ sizeLine := by unfold sizeLine; omega
    simp [-Bool.exists_bool, -List.all_eq_true, -List.any_eq_true, hs]
    refine loop_map (f := fun x => dF (x ++ [f[i]])) (by simp [lkOf_inr]) (fun x hx' G hG => ?_) ?_
    · have hm : x.length + 1 ≤ sizeLine := by
        have := ((mem_subs _ _).mp hx').length_le
        simp at this
        unfold sizeLine; omega
      simp [-Bool.exists_bool, -List.all_eq_true, -List.any_eq_true, dF, e5, hm]
      simpa [dF] using hG
    · have e6 : (subs (f.take i)).length + (subs (f.take i)).length ≤ sizeLine := by unfold sizeLine; omega
      simp [-Bool.exists_bool, -List.all_eq_true, -List.any_eq_true, e6]
      refine hn _ ⟨.fz (.int f[i]), rfl, by omega, ?_⟩
      rw [List.take_succ_eq_append_getElem hi', subs_snoc]
      simp [List.map_map, Function.comp_def]
  · rintro ρ ⟨s, hs, hi, rfl⟩
    have e : (f.map D.int).length = f.length := by simp
    rw [e, List.take_length]
    have hl : (subs f).length ≤ 1024 := by
      rw [subs_len]
      calc 2 ^ f.length ≤ 2 ^ 10 := Nat.pow_le_pow_right (by omega) hz
        _ = 1024 := rfl
    have e2 : (2 : Nat) ≤ sizeLine := by unfold sizeLine; omega
    simp [-Bool.exists_bool, -List.all_eq_true, -List.any_eq_true]
    refine loop_if (p := fun x => decide (x ≠ [])) (f := fun x => encP ((x.length : Int), x)) (by simp [lkOf_inr]) (fun x hx' G N hG hN => ?_) ?_
    · have e1 := eqD_dF (f := x) (g := [])
      simp [-Bool.exists_bool, -List.all_eq_true, -List.any_eq_true, dF] at e1
      simp [-Bool.exists_bool, -List.all_eq_true, -List.any_eq_true, dF, e1]
      by_cases hx0 : x = []
      · simp [hx0]
        exact hN (by simp [hx0])
      · simp [-Bool.exists_bool, -List.all_eq_true, -List.any_eq_true, hx0, e2]
        simpa [encP, dF, hx0] using hG (by simp [hx0])
    · have hq : ((subs f).filter fun x => decide (x ≠ [])).map (fun x => encP ((x.length : Int), x)) = (((subs f).filter fun x => decide (x ≠ [])).map fun x => ((x.length : Int), x)).map encP := by simp [List.map_map, Function.comp_def]
      obtain ⟨qs, e1, e3⟩ := sortD_tups (ps := ((subs f).filter fun x => decide (x ≠ [])).map fun x => ((x.length : Int), x)) (by
        have := List.length_filter_le (fun x => decide (x ≠ [])) (subs f)
        unfold sizeLine
        simp only [List.length_map]
        omega)
      rw [hq]
      have hp : (qs.map (·.2)).Perm (partsL f) := by
        have := e3.map (fun p : Int × List Int => p.2)
        simpa [List.map_map, Function.comp_def, partsL] using this
      generalize (((subs f).filter fun x => decide (x ≠ [])).map fun x => ((x.length : Int), x)) = ps at e1
      simp [-Bool.exists_bool, -List.all_eq_true, -List.any_eq_true, e1, EV.ownOf]
      refine loop_map (f := fun p => dF p.2) (by simp [lkOf_inr]) (fun p _ G hG => ?_) ?_
      · simp [-Bool.exists_bool, -List.all_eq_true, -List.any_eq_true, encP]
        simpa using hG
      · simp [-Bool.exists_bool, -List.all_eq_true, -List.any_eq_true]
        have := q _ hp [.ol ((subs f).map dF), s, .ol (qs.map encP), .un, .un]
        simpa [List.map_map, Function.comp_def] using this
end
end PR
set_option Elab.async false
set_option linter.all false
set_option maxRecDepth 100000
set_option maxHeartbeats 4000000
/-! G12: the law's own sides, turns and first wrong step. -/
namespace PR
open PySem PySem.Spec PyProof.Rows L2 EV
def lawSide (f g : List Int) : Bool := decide (g.length = f.length + 1) && f.all fun c => decide (c ∈ g)
def lawSideV (a b : D) : Option Res := match a, b with
  | .tup ds, .tup es => (asInts ds).bind fun f => (asInts es).bind fun g => if f.length ≤ 1000 ∧ g.length ≤ 1000 then some (.ok (.bl (lawSide f g))) else none
  | _, _ => none
@[simp] theorem lawSideV_dF {f g : List Int} : lawSideV (dF f) (dF g) = if f.length ≤ 1000 ∧ g.length ≤ 1000 then some (.ok (.bl (lawSide f g))) else none := by simp [lawSideV, dF, asInts_map]
theorem in_tup {c : Int} {g : List Int} : inD (.int c) (.tup (g.map D.int)) = some (decide (c ∈ g)) := by
  have e : (g.map D.int).all flatD = true := by simp [flatD]
  show (if flatD (.int c) = true ∧ (g.map D.int).all flatD = true then some ((g.map D.int).any fun y => eqF y (.int c)) else none) = _
  rw [if_pos ⟨rfl, e⟩]
  congr 1
  rw [Bool.eq_iff_iff]
  simp only [List.any_map, List.any_eq_true, Function.comp_apply, eqF, beq_iff_eq, decide_eq_true_eq]
  exact ⟨fun ⟨x, hx, e⟩ => e ▸ hx, fun h => ⟨c, h, rfl⟩⟩
def turnF : FS := fun sl Qd R => ∃ (ss : List St) (k : Nat), sl = [.fz (dS ss), .fz (.int k)] ∧ k + 1 < ss.length ∧ ss.length ≤ 1000 ∧ Qd (dS (swapS ss k)) sl
def lawSidesV (d : D) : Option Res := match d with
  | .tup ds => (asInts ds).bind fun f => if f.length ≤ 1000 then some (.ok (.lst ((sidesL f).map encS))) else none
  | _ => none
@[simp] theorem lawSidesV_dF {f : List Int} : lawSidesV (dF f) = if f.length ≤ 1000 then some (.ok (.lst ((sidesL f).map encS))) else none := by simp [lawSidesV, dF, asInts_map]
def firstD (cs : List Cand) : D := match firstBad cs with
  | some k => .int k
  | none => .non
def firstF : FS := fun sl Qd R => ∃ cs : List Cand, sl = [.fz (dC cs)] ∧ cs.length ≤ 1000 ∧ (∀ c ∈ cs, fcLen c.1 ≤ 1000) ∧ Qd (firstD cs) sl
structure LawT (T : Tb) : Prop where
  i : T.Γ "_law_is_int" = some (P1 whole)
  s : T.Γ "_law_sides" = some (P1 lawSidesV)
section
variable {T : Tb} {Q : WK}
theorem m_law_is_side {f g : List Int} (hz : f.length ≤ 1000 ∧ g.length ≤ 1000) (q : Q.rt (.bl (lawSide f g)) [.fz (dF f), .fz (dF g), .un]) : wSs T ir__law_is_side Q [.fz (dF f), .fz (dF g), .un] := by
  unfold ir__law_is_side
  simp [-Bool.exists_bool, -List.all_eq_true, -List.any_eq_true, dF, eqD_int]
  by_cases h1 : g.length = f.length + 1
  · simp [-Bool.exists_bool, -List.all_eq_true, -List.any_eq_true, h1, show (g.length : Int) = (f.length : Int) + 1 by omega]
    refine loop_map (f := fun c => .bl (decide (c ∈ g))) (by simp [lkOf_inr]) (fun c hc G hG => ?_) ?_
    · simp [-Bool.exists_bool, -List.all_eq_true, -List.any_eq_true, in_tup]
      exact hG
    · simp [-Bool.exists_bool, -List.all_eq_true, -List.any_eq_true]
      simpa [lawSide, h1, dF] using q
  · simp [-Bool.exists_bool, -List.all_eq_true, -List.any_eq_true, h1, show ¬ (g.length : Int) = (f.length : Int) + 1 by omega]
    simpa [lawSide, h1, dF] using q
theorem m_law_turned {ss : List St} {k : Nat} (hk : k + 1 < ss.length) (hz : ss.length ≤ 1000) (q : ∀ ρ : List Slot, Q.rt (dS (swapS ss k)) (.fz (dS ss) :: .fz (.int k) :: ρ)) : wSs T ir__law_turned Q [.fz (dS ss), .fz (.int k), .un, .un] := by
  unfold ir__law_turned
  have f1 := at_st (ss := ss) (k := k) (by omega)
  have f2 := at_st1 hk
  have c1 := cutS_to (ss := ss) (k := k)
  have c2 := cutS_from (ss := ss) (k := k + 2)
  rw [show ((k + 2 : Nat) : Int) = (k : Int) + 2 by omega] at c2
  have e2 : min k ss.length + 2 ≤ sizeLine := by unfold sizeLine; omega
  have e3 : min k ss.length + 2 + (ss.length - (k + 2)) ≤ sizeLine := by unfold sizeLine; omega
  have e4 : (2 : Nat) ≤ sizeLine := by unfold sizeLine; omega
  have ed : D.tup ((ss.take k).map encSt ++ ([D.tup [dF ss[k + 1].1, .int ss[k].2], .tup [dF ss[k].1, .int ss[k + 1].2]] ++ (ss.drop (k + 2)).map encSt)) = dS (swapS ss k) := by
    rw [dS, swapS_eq hk]
    simp [encSt]
  simp [-Bool.exists_bool, -List.all_eq_true, -List.any_eq_true, dS, f1, f2, encSt, c1, c2, e2, e3, e4]
  simp only [List.cons_append, List.nil_append, List.append_assoc, List.map_take, List.map_drop] at ed ⊢
  rw [ed]
  have := q [.fz (.tup [dF ss[k + 1].1, .int ss[k].2]), .fz (.tup [dF ss[k].1, .int ss[k + 1].2])]
  simpa [dS] using this
theorem m_law_first {cs : List Cand} (t : LawT T) (h1 : cs.length ≤ 1000) (h2 : ∀ c ∈ cs, fcLen c.1 ≤ 1000) (q : ∀ ρ : List Slot, Q.rt (firstD cs) (.fz (dC cs) :: ρ)) : wSs T ir__law_first_wrong Q [.fz (dC cs), .un, .un, .un, .un, .un, .un, .un, .un, .un, .un] := by
  unfold ir__law_first_wrong
  simp [-Bool.exists_bool, -List.all_eq_true, -List.any_eq_true, dC]
  refine ⟨by omega, by unfold sizeLine; omega, ?_⟩
  refine for_ind (fun i ρ => ∃ (ss : List St) (s1 s2 s3 s4 : Slot), s1.lent = false ∧ s2.lent = false ∧ s3.lent = false ∧ s4.lent = false ∧ i ≤ cs.length ∧ cs.take i = ss.map toC ∧ fbad (ss.map (·.1)) (lastOf 0 ss) i (cs.drop i) = firstBad cs ∧ 0 ≤ lastOf 0 ss ∧ ρ = [.fz (.tup (cs.map encC)), s1, s2, s3, s4, .un, .un, .un, .un, .un, .un])
    ⟨[], .un, .un, .un, .un, rfl, rfl, rfl, rfl, Nat.zero_le _, rfl, rfl, Int.le_refl _, rfl⟩ ?_ ?_
  · rintro i x ρ hx ⟨ss, s1, s2, s3, s4, u1, u2, u3, u4, hi, p1, p2, p3, rfl⟩ next hn
    have hi' : i < cs.length := by
      have := (List.getElem?_eq_some_iff.mp hx).1
      simpa [EV.upTo] using this
    have ex : x = .int i := by
      rw [upTo_map, List.getElem?_map, List.getElem?_range hi'] at hx
      simpa using (Option.some.inj hx).symm
    subst ex
    have ac := at_cs hi'
    have zc := h2 _ (List.getElem_mem hi')
    have ed : cs.drop i = cs[i] :: cs.drop (i + 1) := List.drop_eq_getElem_cons hi'
    have et : cs.take (i + 1) = cs.take i ++ [cs[i]] := List.take_succ_eq_append_getElem hi'
    rw [ed] at p2
    have bad : okStep (ss.map (·.1)) (lastOf 0 ss) cs[i] = false → firstD cs = .int i := fun z => by
      unfold firstD
      rw [← p2]
      unfold fbad
      rw [if_neg (by rw [z]; simp)]
    generalize cs[i] = c at *
    obtain ⟨fc, tc⟩ := c
    simp [-Bool.exists_bool, -List.all_eq_true, -List.any_eq_true, u1, u2, u3, u4, ac, encC]
    cases fc with
    | none =>
      simp [-Bool.exists_bool, -List.all_eq_true, -List.any_eq_true, fcD, isT]
      rw [← bad (by cases tc <;> rfl)]
      exact q _
    | some f =>
      simp [fcLen] at zc
      have prevT : 0 < i → atI (cs.map encC) ((i : Int) - 1) = some (.tup [dF (ss.getD (i - 1) ([], 0)).1, .int (lastOf 0 ss)]) := fun hp => by
        have sl : ss.length = i := by have := congrArg List.length p1; simp at this; omega
        have g1 : cs[i - 1]? = some (toC (ss.getD (i - 1) ([], 0))) := by
          have e1 : (cs.take i)[i - 1]? = cs[i - 1]? := List.getElem?_take_of_lt (by omega)
          rw [← e1, p1, List.getElem?_map, List.getElem?_eq_getElem (show i - 1 < ss.length by omega), List.getD_eq_getElem?_getD, List.getElem?_eq_getElem (show i - 1 < ss.length by omega)]
          rfl
        have g2 : lastOf 0 ss = (ss.getD (i - 1) ([], 0)).2 := by
          unfold lastOf
          rw [List.getLast?_eq_getElem?, sl, List.getD_eq_getElem?_getD, List.getElem?_eq_getElem (show i - 1 < ss.length by omega)]
          rfl
        have g3 : (((i : Int) - 1).toNat) = i - 1 := by omega
        refine atI_nat (by omega) ?_
        rw [g3, List.getElem?_map, g1, g2]
        rfl
      simp [-Bool.exists_bool, -List.all_eq_true, -List.any_eq_true, fcD, dF, isT]
      have notF : okFace f = false → firstD cs = .int i := fun z => bad (by cases tc <;> simp [okStep, z])
      by_cases k1 : 1 ≤ f.length
      · by_cases k2 : f.length ≤ 5
        · simp [-Bool.exists_bool, -List.all_eq_true, -List.any_eq_true, k1, k2, show (1 : Int) ≤ f.length by omega, show (f.length : Int) ≤ 5 by omega]
          refine loop_map (f := fun _ => .bl true) (by simp [lkOf_inr]) (fun c hc G hG => ?_) ?_
          · simp [-Bool.exists_bool, -List.all_eq_true, -List.any_eq_true, t.i, whole]
            exact hG
          · have al : (f.all fun _ => true) = true := by simp
            simp [-Bool.exists_bool, -List.all_eq_true, -List.any_eq_true, al]
            refine loop_map (f := fun c => .bl (okC c)) (by simp [lkOf_inr]) (fun c hc G hG => ?_) ?_
            · simp [-Bool.exists_bool, -List.all_eq_true, -List.any_eq_true]
              by_cases h3 : 0 ≤ c
              · simpa [h3, okC] using hG
              · simpa [h3, okC] using hG
            · simp [-Bool.exists_bool, -List.all_eq_true, -List.any_eq_true]
              by_cases k3 : f.all okC = true
              · rw [if_pos k3, upTo_map]
                refine ⟨by omega, by omega, by unfold sizeLine; omega, loop_map (f := fun k : Nat => .bl (decide (f.getD (k + 1) 0 ≤ f.getD k 0))) trivial (fun k hk G hG => ?_) ?_⟩
                · have hk' : k < f.length - 1 := by have := List.mem_range.mp hk; omega
                  have e1 := at_ints (f := f) (k := k) (by omega)
                  have e2 := at_ints (f := f) (k := k + 1) (by omega)
                  rw [Int.natCast_add, Int.natCast_one] at e2
                  simp [-Bool.exists_bool, -List.all_eq_true, -List.any_eq_true, e1, e2]
                  simpa using hG
                · simp [-Bool.exists_bool, -List.all_eq_true, -List.any_eq_true]
                  have an : ((List.range (f.length - 1)).any fun x => decide (f[x + 1]?.getD 0 ≤ f[x]?.getD 0)) = !asc f := by
                    have ha : asc f = (List.range (f.length - 1)).all fun x => decide (f[x]?.getD 0 < f[x + 1]?.getD 0) := rfl
                    rw [ha, Bool.eq_iff_iff]
                    simp [List.any_eq_true, ← Int.not_lt]
                  rw [an]
                  by_cases k4 : asc f = true
                  · have okf : okFace f = true := by simp [okFace, k1, k2, k3, k4]
                    rw [k4]
                    simp [-Bool.exists_bool, -List.all_eq_true, -List.any_eq_true, t.i, whole]
                    cases tc with
                    | inr b =>
                      simp [-Bool.exists_bool, -List.all_eq_true, -List.any_eq_true, tcD]
                      rw [← bad (by simp [okStep])]
                      exact q _
                    | inl n =>
                      simp [-Bool.exists_bool, -List.all_eq_true, -List.any_eq_true, tcD]
                      have c1 : EV.cutD (cs.map encC) none (some (i : Int)) = ss.map encSt := by
                        rw [cutD_to (by omega), Int.toNat_natCast, ← List.map_take, p1, List.map_map]
                        rfl
                      by_cases m1 : 0 ≤ n
                      · by_cases m2 : n ≤ 999
                        · by_cases z : 0 < i
                          · have pz := prevT z
                            by_cases lt : n < lastOf 0 ss
                            · simp [-Bool.exists_bool, -List.all_eq_true, -List.any_eq_true, m1, m2, z, pz, lt]
                              have zb : okStep (ss.map (·.1)) (lastOf 0 ss) (some f, Sum.inl n) = false := by
                                simp only [okStep, Bool.and_eq_false_iff, decide_eq_false_iff_not]
                                exact .inl (.inl (.inl (.inr (by omega))))
                              rw [← bad zb]
                              exact q _
                            · have le : lastOf 0 ss ≤ n := by omega
                              simp [-Bool.exists_bool, -List.all_eq_true, -List.any_eq_true, m1, m2, z, pz, lt]
                              rw [c1]
                              refine loop_map (f := fun s : St => dF s.1) trivial (fun s hs' G hG => ?_) ?_
                              · simp [-Bool.exists_bool, -List.all_eq_true, -List.any_eq_true, encSt]
                                simpa using hG
                              · have ea : ss.map (fun s => dF s.1) = (ss.map (·.1)).map dF := by simp [List.map_map, Function.comp_def]
                                rw [ea]
                                rw [show D.tup (f.map D.int) = dF f from rfl]
                                simp [-Bool.exists_bool, -List.all_eq_true, -List.any_eq_true, EV.ownOf, -List.map_map, u2, in_dFs, t.s, zc]
                                by_cases mm : f ∈ ss.map (·.1)
                                · have zb : okStep (ss.map (·.1)) (lastOf 0 ss) (some f, Sum.inl n) = false := by simp only [okStep, mm]; simp
                                  rw [if_pos (decide_eq_true mm), ← bad zb]
                                  exact q _
                                · rw [if_neg (by simpa using mm)]
                                  refine loop_map (f := fun s => .bl (decide (s.1 ∈ ss.map (·.1)))) trivial (fun s hs' G hG => ?_) ?_
                                  · simp [-Bool.exists_bool, -List.all_eq_true, -List.any_eq_true, encS, in_dFs, -List.map_map, -List.mem_map]
                                    simpa using hG
                                  · simp [-Bool.exists_bool, -List.all_eq_true, -List.any_eq_true, -List.mem_map]
                                    by_cases m5 : ((sidesL f).all fun s => decide (s.1 ∈ ss.map (·.1))) = true
                                    · rw [if_pos m5]
                                      have okT : okStep (ss.map (·.1)) (lastOf 0 ss) (some f, Sum.inl n) = true := by
                                        simp only [okStep, Bool.and_eq_true, okf, m5, decide_eq_true_eq, true_and, and_true]
                                        exact ⟨⟨le, m2⟩, by simpa using mm⟩
                                      have e6 : fbad (ss.map (·.1)) (lastOf 0 ss) i ((some f, Sum.inl n) :: cs.drop (i + 1)) = fbad (ss.map (·.1) ++ [f]) n (i + 1) (cs.drop (i + 1)) := by
                                        conv => lhs; unfold fbad
                                        rw [if_pos okT]
                                      rw [e6] at p2
                                      have e7 : lastOf 0 (ss ++ [(f, n)]) = n := by simp [lastOf]
                                      refine hn _ ⟨ss ++ [(f, n)], .fz (.int i), .ol ((ss.map (·.1)).map dF), .fz (dF f), .fz (.int n), rfl, rfl, rfl, rfl, hi', ?_, ?_, ?_, ?_⟩
                                      · rw [et, p1]; simp [toC]
                                      · rw [e7]; simpa using p2
                                      · rw [e7]; exact m1
                                      · simp
                                    · rw [if_neg m5]
                                      have zb : okStep (ss.map (·.1)) (lastOf 0 ss) (some f, Sum.inl n) = false := by
                                        have m5' := Bool.eq_false_iff.mpr m5
                                        simp only [okStep, m5', Bool.and_false]
                                      rw [← bad zb]
                                      exact q _
                          · have le : lastOf 0 ss ≤ n := by
                              have sl : ss.length = i := by have := congrArg List.length p1; simp at this; omega
                              have e0 : ss = [] := List.eq_nil_of_length_eq_zero (by omega)
                              rw [e0]; exact m1
                            simp [-Bool.exists_bool, -List.all_eq_true, -List.any_eq_true, m1, m2, z]
                            rw [c1]
                            refine loop_map (f := fun s : St => dF s.1) trivial (fun s hs' G hG => ?_) ?_
                            · simp [-Bool.exists_bool, -List.all_eq_true, -List.any_eq_true, encSt]
                              simpa using hG
                            · have ea : ss.map (fun s => dF s.1) = (ss.map (·.1)).map dF := by simp [List.map_map, Function.comp_def]
                              rw [ea]
                              rw [show D.tup (f.map D.int) = dF f from rfl]
                              simp [-Bool.exists_bool, -List.all_eq_true, -List.any_eq_true, EV.ownOf, -List.map_map, u2, in_dFs, t.s, zc]
                              by_cases mm : f ∈ ss.map (·.1)
                              · have zb : okStep (ss.map (·.1)) (lastOf 0 ss) (some f, Sum.inl n) = false := by simp only [okStep, mm]; simp
                                rw [if_pos (decide_eq_true mm), ← bad zb]
                                exact q _
                              · rw [if_neg (by simpa using mm)]
                                refine loop_map (f := fun s => .bl (decide (s.1 ∈ ss.map (·.1)))) trivial (fun s hs' G hG => ?_) ?_
                                · simp [-Bool.exists_bool, -List.all_eq_true, -List.any_eq_true, encS, in_dFs, -List.map_map, -List.mem_map]
                                  simpa using hG
                                · simp [-Bool.exists_bool, -List.all_eq_true, -List.any_eq_true, -List.mem_map]
                                  by_cases m5 : ((sidesL f).all fun s => decide (s.1 ∈ ss.map (·.1))) = true
                                  · rw [if_pos m5]
                                    have okT : okStep (ss.map (·.1)) (lastOf 0 ss) (some f, Sum.inl n) = true := by
                                      simp only [okStep, Bool.and_eq_true, okf, m5, decide_eq_true_eq, true_and, and_true]
                                      exact ⟨⟨le, m2⟩, by simpa using mm⟩
                                    have e6 : fbad (ss.map (·.1)) (lastOf 0 ss) i ((some f, Sum.inl n) :: cs.drop (i + 1)) = fbad (ss.map (·.1) ++ [f]) n (i + 1) (cs.drop (i + 1)) := by
                                      conv => lhs; unfold fbad
                                      rw [if_pos okT]
                                    rw [e6] at p2
                                    have e7 : lastOf 0 (ss ++ [(f, n)]) = n := by simp [lastOf]
                                    refine hn _ ⟨ss ++ [(f, n)], .fz (.int i), .ol ((ss.map (·.1)).map dF), .fz (dF f), .fz (.int n), rfl, rfl, rfl, rfl, hi', ?_, ?_, ?_, ?_⟩
                                    · rw [et, p1]; simp [toC]
                                    · rw [e7]; simpa using p2
                                    · rw [e7]; exact m1
                                    · simp
                                  · rw [if_neg m5]
                                    have zb : okStep (ss.map (·.1)) (lastOf 0 ss) (some f, Sum.inl n) = false := by
                                      have m5' := Bool.eq_false_iff.mpr m5
                                      simp only [okStep, m5', Bool.and_false]
                                    rw [← bad zb]
                                    exact q _
                        · simp [-Bool.exists_bool, -List.all_eq_true, -List.any_eq_true, m1, m2]
                          have zb : okStep (ss.map (·.1)) (lastOf 0 ss) (some f, Sum.inl n) = false := by
                            simp only [okStep, Bool.and_eq_false_iff, decide_eq_false_iff_not]
                            exact .inl (.inl (.inr m2))
                          rw [← bad zb]
                          exact q _
                      · simp [-Bool.exists_bool, -List.all_eq_true, -List.any_eq_true, m1]
                        have zb : okStep (ss.map (·.1)) (lastOf 0 ss) (some f, Sum.inl n) = false := by
                          simp only [okStep, Bool.and_eq_false_iff, decide_eq_false_iff_not]
                          exact .inl (.inl (.inl (.inr (by omega))))
                        rw [← bad zb]
                        exact q _
                  · have k4' : asc f = false := by simpa using k4
                    rw [k4', ← notF (by simp [okFace, k4'])]
                    exact q _
              · rw [if_neg k3]
                have k3' : f.all okC = false := by simpa using k3
                rw [← notF (by simp [okFace, k3'])]
                exact q _
        · simp [-Bool.exists_bool, -List.all_eq_true, -List.any_eq_true, k1, k2, show (1 : Int) ≤ f.length by omega, show ¬ (f.length : Int) ≤ 5 by omega]
          rw [← notF (by simp [okFace, k2])]
          exact q _
      · simp [-Bool.exists_bool, -List.all_eq_true, -List.any_eq_true, k1, show ¬ (1 : Int) ≤ f.length by omega]
        rw [← notF (by simp [okFace, k1])]
        exact q _
  · rintro ρ ⟨ss, s1, s2, s3, s4, u1, u2, u3, u4, hi, p1, p2, p3, rfl⟩
    have e : fbad (ss.map (·.1)) (lastOf 0 ss) (EV.upTo cs.length 0).length (List.drop (EV.upTo cs.length 0).length cs) = none := by
      rw [show (EV.upTo cs.length 0).length = cs.length by simp [EV.upTo], List.drop_length]; rfl
    rw [e] at p2
    simp [-Bool.exists_bool, -List.all_eq_true, -List.any_eq_true]
    have z : firstD cs = .non := by unfold firstD; rw [← p2]
    rw [← z]
    exact q _
end
end PR
set_option Elab.async false
set_option linter.all false
set_option maxRecDepth 100000
set_option maxHeartbeats 4000000
/-! G13: faces woven, each behind its sides. -/
namespace PR
open PySem PySem.Spec PyProof.Rows L2 EV
theorem plain_ints (f : List Int) : PyData.plainAll (f.map .int) = true := by
  induction f with
  | nil => simp [PyData.plainAll]
  | cons a f ih => simp [PyData.plainAll, PyData.plain, ih]
theorem plain_faces (fs : List (List Int)) : PyData.plainAll (fs.map fun f => .tuple (f.map .int)) = true := by
  induction fs with
  | nil => simp [PyData.plainAll]
  | cons f fs ih => simp [PyData.plainAll, PyData.plain, plain_ints, ih]
theorem remD_faces {fs : List (List Int)} {f : List Int} (h : f ∈ fs) : ∃ j, ∃ hj : j < fs.length, fs[j] = f ∧ remD (fs.map dF) (dF f) = some j := by
  unfold remD
  rw [toP_dF, toPs_dFs]
  have e1 : PyData.plain (.tuple (f.map .int)) = true := by simp [PyData.plain, plain_ints]
  simp only [plain_faces, e1, shaped_dF, and_self, if_true]
  have e2 : SeqAt.dataPlace (fs.map fun f => PyData.tuple (f.map .int)) (.tuple (f.map .int)) = fs.findIdx? fun g => decide (g = f) := by
    unfold SeqAt.dataPlace
    rw [List.findIdx?_map]
    congr 1
    funext g
    simp [PyData.eqv, eqv_ints]
  rw [e2]
  cases hf : fs.findIdx? fun g => decide (g = f) with
  | none =>
    rw [List.findIdx?_eq_none_iff] at hf
    have := hf f h
    simp at this
  | some j =>
    rw [List.findIdx?_eq_some_iff_getElem] at hf
    obtain ⟨hj, e, _⟩ := hf
    exact ⟨j, hj, by simpa using e, rfl⟩
/-- with a face, its sides -/
def closedL (fs : List (List Int)) : Prop := ∀ f ∈ fs, ∀ s ∈ sidesL f, s.1 ∈ fs
/-- each face behind its sides -/
def ordd : List (List Int) → List (List Int) → Prop
  | _, [] => True
  | P, g :: r => (∀ s ∈ sidesL g, s.1 ∈ P) ∧ ordd (P ++ [g]) r
theorem ordd_snoc {P gs : List (List Int)} {g : List Int} (h : ordd P gs) (hg : ∀ s ∈ sidesL g, s.1 ∈ P ++ gs) : ordd P (gs ++ [g]) := by
  induction gs generalizing P with
  | nil => exact ⟨by simpa using hg, trivial⟩
  | cons x gs ih => exact ⟨h.1, ih h.2 (by simpa using hg)⟩
theorem least_len : ∀ {L : List (List Int)}, L ≠ [] → ∃ x ∈ L, ∀ y ∈ L, x.length ≤ y.length
  | [], h => absurd rfl h
  | [x], _ => ⟨x, by simp, by simp⟩
  | x :: y :: L, _ => by
    obtain ⟨z, hz, hm⟩ := least_len (L := y :: L) (by simp)
    by_cases h : x.length ≤ z.length
    · refine ⟨x, by simp, fun u hu => ?_⟩
      rcases List.mem_cons.mp hu with rfl | hu
      · exact Nat.le_refl _
      · exact Nat.le_trans h (hm u hu)
    · refine ⟨z, List.mem_cons_of_mem _ hz, fun u hu => ?_⟩
      rcases List.mem_cons.mp hu with rfl | hu
      · omega
      · exact hm u hu
theorem side_len {f : List Int} {s : List Int × Int} (h : s ∈ sidesL f) : s.1.length + 1 = f.length := by
  unfold sidesL at h
  split at h
  · cases h
  · obtain ⟨k, hk, rfl⟩ := List.mem_map.mp h
    have := List.mem_range.mp hk
    simp
    omega
def wovenF : FS := fun sl Qd R => ∃ (fs : List (List Int)) (n : Nat), sl = [.pn n, .fz (.lst (fs.map dF))] ∧ n < 2 ^ 39 ∧ fs.length ≤ 100 ∧ closedL fs ∧ (∀ f ∈ fs, f.length ≤ 10) ∧ ∀ gs : List (List Int), gs.Perm fs → ordd [] gs → Qd (.lst (gs.map dF)) [.pn (n + fs.length), .fz (.lst (fs.map dF))]
structure WovT (T : Tb) : Prop where
  s : T.Γ "_law_sides" = some (P1 lawSidesV)
  p : T.Γ "_law_pick" = some pickF
section
variable {T : Tb} {Q : WK}
theorem m_woven {fs : List (List Int)} {n : Nat} (t : WovT T) (hn : n < 2 ^ 39) (hl : fs.length ≤ 100) (hc : closedL fs) (hz : ∀ f ∈ fs, f.length ≤ 10)
    (q : ∀ gs : List (List Int), gs.Perm fs → ordd [] gs → ∀ ρ : List Slot, Q.rt (.lst (gs.map dF)) (.pn (n + fs.length) :: .fz (.lst (fs.map dF)) :: ρ)) : wSs T ir__law_woven Q [.pn n, .fz (.lst (fs.map dF)), .un, .un, .un, .un, .un, .un, .un, .un] := by
  unfold ir__law_woven
  simp [-Bool.exists_bool, -List.all_eq_true, -List.any_eq_true]
  refine ⟨by omega, by unfold sizeLine; omega, ?_⟩
  refine for_ind (fun i ρ => ∃ (L G : List (List Int)) (s2 s5 s6 : Slot), s2.lent = false ∧ s5.lent = false ∧ s6.lent = false ∧ ρ = [.pn (n + i), .fz (.lst (fs.map dF)), s2, .ol (L.map dF), .ol (G.map dF), s5, s6, .un, .un, .un] ∧ i ≤ fs.length ∧ G.length = i ∧ (G ++ L).Perm fs ∧ ordd [] G)
    ⟨fs, [], .un, .un, .un, rfl, rfl, rfl, rfl, by omega, rfl, by simp, trivial⟩ ?_ ?_
  · rintro i x ρ hx ⟨L, G, s2, s5, s6, u2, u5, u6, rfl, hi, hG, hp, ho⟩ next hn'
    have hi' : i < fs.length := by
      have := (List.getElem?_eq_some_iff.mp hx).1
      simpa [EV.upTo] using this
    have ex : x = .int i := by
      rw [upTo_map, List.getElem?_map, List.getElem?_range hi'] at hx
      simpa using (Option.some.inj hx).symm
    subst ex
    have hL : L.length = fs.length - i := by
      have := hp.length_eq
      simp at this
      omega
    have hmem : ∀ g, g ∈ L → g ∈ fs := fun g hg => hp.mem_iff.mp (List.mem_append_right _ hg)
    let p : List Int → Bool := fun g => (sidesL g).all fun s => decide (s.1 ∈ G)
    have hfree : L.filter p ≠ [] := by
      obtain ⟨m, hm, hmin⟩ := least_len (L := L) (fun z => by rw [z] at hL; simp at hL; omega)
      intro z
      have : m ∈ L.filter p := by
        refine List.mem_filter.mpr ⟨hm, ?_⟩
        simp only [p, List.all_eq_true, decide_eq_true_eq]
        intro s hs
        have h1 := hc m (hmem m hm) s hs
        rcases List.mem_append.mp (hp.mem_iff.mpr h1) with h | h
        · exact h
        · have := hmin _ h
          have := side_len hs
          omega
      rw [z] at this; cases this
    have lp : 0 < (L.filter p).length := List.length_pos_iff.mpr hfree
    have lq : (L.filter p).length ≤ L.length := List.length_filter_le _ _
    simp [-Bool.exists_bool, -List.all_eq_true, -List.any_eq_true, u2, u5, u6]
    refine loop_if (p := p) (f := dF) (by simp [lkOf_inr]) (fun g hg G' N hG' hN => ?_) ?_
    · have zg := hz g (hmem g hg)
      simp [-Bool.exists_bool, -List.all_eq_true, -List.any_eq_true, t.s, show g.length ≤ 1000 by omega]
      refine loop_map (f := fun s => .bl (decide (s.1 ∈ G))) trivial (fun s hs' G2 hG2 => ?_) ?_
      · simp [-Bool.exists_bool, -List.all_eq_true, -List.any_eq_true, encS, in_dFs]
        simpa using hG2
      · simp [-Bool.exists_bool, -List.all_eq_true, -List.any_eq_true]
        by_cases hp' : p g = true
        · have hp2 : ((sidesL g).all fun s => decide (s.1 ∈ G)) = true := hp'
          rw [if_pos hp2]
          simpa using hG' hp'
        · have hp2 : ((sidesL g).all fun s => decide (s.1 ∈ G)) = false := by simpa [p] using hp'
          rw [if_neg (by rw [hp2]; simp)]
          simpa using hN (by simpa using hp')
    · generalize hfr : L.filter p = fr at hfree lp lq
      have hfm : ∀ g ∈ fr, g ∈ L ∧ p g = true := fun g hg => List.mem_filter.mp (by rw [hfr]; exact hg)
      simp [-Bool.exists_bool, -List.all_eq_true, -List.any_eq_true, EV.ownOf, t.p, u5]
      refine ⟨fr.map dF, n + i, rfl, by omega, by simpa using lp, by simp; omega, fun d hd => ?_⟩
      obtain ⟨g, hg, rfl⟩ := List.mem_map.mp hd
      obtain ⟨gL, gp⟩ := hfm g hg
      obtain ⟨j, hj, ej, er⟩ := remD_faces gL
      simp [-Bool.exists_bool, -List.all_eq_true, -List.any_eq_true, er, u6]
      refine ⟨by unfold sizeLine; omega, hn' _ ⟨L.eraseIdx j, G ++ [g], .fz (.int i), .fz (.lst (fr.map dF)), .fz (dF g), rfl, rfl, rfl, ?_, hi', by simp [hG], ?_, ?_⟩⟩
      · simp [List.eraseIdx_eq_take_drop_succ, Nat.add_assoc]
      · rw [List.append_assoc, ← ej]
        exact (List.Perm.append_left G (perm_erase hj)).trans hp
      · refine ordd_snoc ho fun s hs => ?_
        have : ((sidesL g).all fun s => decide (s.1 ∈ G)) = true := gp
        simp only [List.all_eq_true, decide_eq_true_eq] at this
        exact this s hs
  · rintro ρ ⟨L, G, s2, s5, s6, u2, u5, u6, rfl, hi, hG, hp, ho⟩
    have e : (EV.upTo fs.length 0).length = fs.length := by simp [EV.upTo]
    rw [e] at hG ⊢
    have eL : L = [] := by
      have := hp.length_eq
      simp at this
      exact List.eq_nil_of_length_eq_zero (by omega)
    subst eL
    simp [-Bool.exists_bool, -List.all_eq_true, -List.any_eq_true]
    exact q G (by simpa using hp) ho _
end
end PR
set_option Elab.async false
set_option linter.all false
set_option maxRecDepth 100000
set_option maxHeartbeats 4000000
/-! G14: plain facts of growths that the law makes. -/
namespace PR
open PySem PySem.Spec PyProof.Rows L2 EV
def unI : D → Int
  | .int i => i
  | _ => 0
theorem perm_ints {es : List D} {xs : List Int} (h : es.Perm (xs.map D.int)) : ∃ zs : List Int, es = zs.map D.int ∧ zs.Perm xs := by
  refine ⟨es.map unI, ?_, ?_⟩
  · rw [List.map_map]
    have : ∀ d ∈ es, d = (D.int ∘ unI) d := fun d hd => by
      obtain ⟨i, _, rfl⟩ := List.mem_map.mp (h.mem_iff.mp hd)
      rfl
    conv => lhs; rw [← List.map_id es]
    exact List.map_congr_left this
  · have := h.map unI
    rwa [List.map_map, show (unI ∘ D.int) = id from rfl, List.map_id] at this
theorem pw_lt {ys : List Int} (h : ys.Pairwise (· ≤ ·)) (hn : ys.Nodup) : ys.Pairwise (· < ·) := by
  refine (List.pairwise_and_iff.mpr ⟨h, hn⟩).imp ?_
  rintro a b ⟨h1, h2⟩
  omega
theorem asc_of {f : List Int} (h : f.Pairwise (· < ·)) : asc f = true := by
  simp only [asc, List.all_eq_true, List.mem_range, decide_eq_true_eq]
  intro k hk
  have h1 : k < f.length := by omega
  have h2 : k + 1 < f.length := by omega
  rw [List.getD_eq_getElem?_getD, List.getD_eq_getElem?_getD, List.getElem?_eq_getElem h1, List.getElem?_eq_getElem h2]
  exact List.pairwise_iff_getElem.mp h k (k + 1) h1 h2 (by omega)
theorem okFace_of {f : List Int} (h : f.Pairwise (· < ·)) (h1 : 1 ≤ f.length) (h2 : f.length ≤ 5) (h3 : ∀ c ∈ f, 0 ≤ c ∧ c ≤ 11) : okFace f = true := by
  have : f.all okC = true := by
    simp only [List.all_eq_true, okC, Bool.and_eq_true, decide_eq_true_eq]
    exact h3
  simp [okFace, h1, h2, this, asc_of h]
/-- faces, with their sides, no two alike -/
structure FOk (m : Nat) (F : List (List Int)) : Prop where
  nd : F.Nodup
  cl : closedL F
  ok : ∀ f ∈ F, okFace f = true
  len : F.length ≤ m
  ne : 1 ≤ F.length
theorem side_sub {f : List Int} {s : List Int × Int} (h : s ∈ sidesL f) : s.1.Sublist f ∧ s.1 ≠ [] := by
  have hl := side_len h
  unfold sidesL at h
  split at h
  · cases h
  · rename_i h1
    obtain ⟨k, hk, rfl⟩ := List.mem_map.mp h
    refine ⟨?_, fun z => ?_⟩
    · show (f.take k ++ f.drop (k + 1)).Sublist f
      rw [← List.eraseIdx_eq_take_drop_succ]
      exact List.eraseIdx_sublist f k
    · have : f.length = 1 := by
        rw [← hl]
        simp only at z
        rw [z]; rfl
      exact h1 this
theorem mem_parts {f g : List Int} : g ∈ partsL f ↔ g.Sublist f ∧ g ≠ [] := by
  unfold partsL
  rw [List.mem_filter, mem_subs]
  simp
/-- the face of a turn -/
structure YOk (ys : List Int) : Prop where
  pw : ys.Pairwise (· < ·)
  h1 : 1 ≤ ys.length
  h2 : ys.length ≤ 4
  h3 : ∀ c ∈ ys, 0 ≤ c ∧ c ≤ 11
theorem FOk.grow {m : Nat} {F es : List (List Int)} {ys : List Int} (h : FOk m F) (y : YOk ys) (he : es.Perm (partsL ys)) (hl : F.length + (es.filter fun x => !decide (x ∈ F)).length ≤ m) : FOk m (F ++ es.filter fun x => !decide (x ∈ F)) := by
  have hm : ∀ x, x ∈ es ↔ x.Sublist ys ∧ x ≠ [] := fun x => he.mem_iff.trans mem_parts
  have hn : ∀ x, (x ∈ es.filter fun x => !decide (x ∈ F)) ↔ x ∈ es ∧ x ∉ F := fun x => by rw [List.mem_filter]; simp
  have nd : es.Nodup := he.nodup_iff.mpr ((subs_nodup ys (y.pw.imp fun h => by omega)).filter _)
  refine ⟨?_, ?_, ?_, by simpa using hl, by have := h.ne; simp; omega⟩
  · rw [List.nodup_append]
    refine ⟨h.nd, nd.filter _, fun a ha b hb e => ?_⟩
    subst e
    exact ((hn a).mp hb).2 ha
  · intro f hf s hs
    rcases List.mem_append.mp hf with hf | hf
    · exact List.mem_append_left _ (h.cl f hf s hs)
    · obtain ⟨h1, h2⟩ := (hn f).mp hf
      obtain ⟨s1, s2⟩ := side_sub hs
      by_cases z : s.1 ∈ F
      · exact List.mem_append_left _ z
      · exact List.mem_append_right _ ((hn _).mpr ⟨(hm _).mpr ⟨s1.trans ((hm f).mp h1).1, s2⟩, z⟩)
  · intro f hf
    rcases List.mem_append.mp hf with hf | hf
    · exact h.ok f hf
    · obtain ⟨h1, _⟩ := (hn f).mp hf
      obtain ⟨s1, s2⟩ := (hm f).mp h1
      refine okFace_of (List.Pairwise.sublist s1 y.pw) (List.length_pos_iff.mpr s2) ?_ fun c hc => y.h3 c (s1.subset hc)
      have := s1.length_le
      have := y.h2
      omega
theorem YOk.of {ys zs xs : List Int} {k c : Nat} (h1 : ys.Perm (zs.take k)) (h2 : ys.Pairwise (· ≤ ·)) (h3 : zs.Perm xs) (hx : xs = (List.range c).map fun i : Nat => (i : Int)) (hk : 1 ≤ k) (hk4 : k ≤ 4) (hc : 1 ≤ c) (hc2 : c ≤ 12) : YOk ys := by
  have nx : xs.Nodup := by
    rw [hx]
    refine List.Pairwise.map _ (fun a b hne e => hne ?_) List.nodup_range
    exact Int.ofNat.inj e
  have nz : zs.Nodup := h3.nodup_iff.mpr nx
  have ny : ys.Nodup := h1.nodup_iff.mpr (List.Pairwise.sublist (List.take_sublist k zs) nz)
  have hl : ys.length = min k c := by
    rw [h1.length_eq, List.length_take, h3.length_eq, hx]
    simp
  refine ⟨pw_lt h2 ny, by omega, by omega, fun a ha => ?_⟩
  have : a ∈ xs := h3.mem_iff.mp (List.mem_of_mem_take (h1.mem_iff.mp ha))
  rw [hx] at this
  obtain ⟨i, hi, rfl⟩ := List.mem_map.mp this
  have := List.mem_range.mp hi
  omega
theorem ordd_at {P gs : List (List Int)} (h : ordd P gs) {i : Nat} (hi : i < gs.length) : ∀ s ∈ sidesL gs[i], s.1 ∈ P ++ gs.take i := by
  induction gs generalizing P i with
  | nil => cases hi
  | cons g gs ih =>
    cases i with
    | zero => simpa using h.1
    | succ i =>
      intro s hs
      have := ih h.2 (i := i) (by simpa using hi) s (by simpa using hs)
      simpa using this
theorem VV_snoc {st : List St} {f : List Int} {t : Int} (h : VV [] 0 st) (hf : okFace f = true) (h1 : lastOf 0 st ≤ t) (h2 : t ≤ 999) (h3 : f ∉ st.map (·.1)) (h4 : ∀ s ∈ sidesL f, s.1 ∈ st.map (·.1)) : VV [] 0 (st ++ [(f, t)]) := by
  refine VV_append.mpr ⟨h, okStep_iff.mpr ⟨hf, h1, h2, by simpa using h3, by simpa using h4⟩, trivial⟩
theorem eqD_nil {fs : List (List Int)} : eqD (.lst (fs.map dF)) (.lst []) = some (decide (fs = [])) := by
  have e : eqD (.lst (fs.map dF)) (.lst []) = eqP (.lst (fs.map dF)) (.lst []) := by unfold eqD; rfl
  rw [e]
  have e1 : toP (.lst (fs.map dF)) = some (.list (fs.map fun f => .tuple (f.map .int))) := by simp [toP, toPs_dFs]
  have e2 : toP (.lst []) = some (.list []) := by simp [toP, toPs]
  have e3 : SeqAt.shaped (.list []) = true := shaped_dFs []
  unfold eqP
  rw [e1, e2]
  simp only [shaped_dFs, e3, and_self, if_true, PyData.eqv]
  cases fs <;> simp [PyData.eqvAll]
end PR
set_option Elab.async false
set_option linter.all false
set_option maxRecDepth 100000
set_option maxHeartbeats 4000000
/-! G15: the law makes a growth. -/
namespace PR
open PySem PySem.Spec PyProof.Rows L2 EV
def lgF : FS := fun sl Qd R => ∃ (n c m : Nat), sl = [.pn n, .fz (.int c), .fz (.int m)] ∧ n < 2 ^ 30 ∧ 3 ≤ c ∧ c ≤ 6 ∧ 1 ≤ m ∧ m ≤ 20 ∧ ∀ ss n', okSt ss → ss.length ≤ m → n' ≤ n + 2000 → Qd (dS ss) [.pn n', .fz (.int c), .fz (.int m)]
structure LgT (T : Tb) : Prop where
  d : T.Γ "_law_draw" = some drawF
  p : T.Γ "_law_pick" = some pickF
  s : T.Γ "_law_shuffled" = some shufF
  a : T.Γ "_law_parts" = some partsF
  w : T.Γ "_law_woven" = some wovenF
theorem pick_ints {xs : List Int} {n : Nat} {Qd : D → List Slot → Prop} {R : Exc → List Slot → Prop} (hn : n < 2 ^ 40) (h0 : 0 < xs.length) (h1 : xs.length ≤ 1000) (q : ∀ x ∈ xs, Qd (.int x) [.pn (n + 1), .fz (.lst (xs.map .int))]) : pickF [.pn n, .fz (.lst (xs.map .int))] Qd R := by
  refine ⟨xs.map .int, n, rfl, hn, by simpa using h0, by simpa using h1, fun d hd => ?_⟩
  obtain ⟨x, hx, rfl⟩ := List.mem_map.mp hd
  exact q x hx
section
variable {T : Tb} {Q : WK}
theorem m_law_growth {n c m : Nat} (t : LgT T) (hn : n < 2 ^ 30) (hc : 3 ≤ c) (hc2 : c ≤ 6) (hm : 1 ≤ m) (hm2 : m ≤ 20)
    (q : ∀ ss n', okSt ss → ss.length ≤ m → n' ≤ n + 2000 → ∀ ρ : List Slot, Q.rt (dS ss) (.pn n' :: .fz (.int c) :: .fz (.int m) :: ρ)) : wSs T ir__law_growth Q [.pn n, .fz (.int c), .fz (.int m), .un, .un, .un, .un, .un, .un, .un, .un] := by
  unfold ir__law_growth
  have sz : sizeLine = 16777216 := rfl
  have b1 : m.log2 + Nat.log2 3 < 1000000 := by
    have e1 : m.log2 < 64 := log_lt (by omega)
    have e2 : Nat.log2 3 < 64 := log_lt (by omega)
    omega
  simp [-Bool.exists_bool, -List.all_eq_true, -List.any_eq_true, t.d, sz]
  refine ⟨c, n, rfl, by omega, by omega, by omega, fun r r0 r1 => ?_⟩
  simp [-Bool.exists_bool, -List.all_eq_true, -List.any_eq_true, sz, b1]
  refine ⟨by omega, by omega, by omega, ?_⟩
  refine for_ind (fun i ρ => ∃ (k : Nat) (F : List (List Int)) (s3 s4 s8 s9 : Slot), s3.lent = false ∧ s4.lent = false ∧ s8.lent = false ∧ s9.lent = false ∧ k ≤ n + 1 + 7 * i ∧ i ≤ 60 ∧ FOk m F ∧ ρ = [.pn k, .fz (.int c), .fz (.int m), s3, s4, .ol (F.map dF), .ol [], .fz (.int 0), s8, s9, .un])
    ⟨n + 1, [[r]], .un, .un, .un, .un, rfl, rfl, rfl, rfl, by omega, by omega, ?_, rfl⟩ ?_ ?_
  · refine ⟨by simp, ?_, ?_, by simpa using hm, by simp⟩
    · intro f hf s hs
      have : f = [r] := by simpa using hf
      subst this
      simp [sidesL] at hs
    · intro f hf
      have : f = [r] := by simpa using hf
      subst this
      exact okFace_of (by simp) (by simp) (by simp) (fun c hc => by simp at hc; omega)
  · rintro i x ρ hx ⟨k, F, s3, s4, s8, s9, u3, u4, u8, u9, hk, hi, hF, rfl⟩ next hn'
    have hi' : i < m * 3 := by
      have := (List.getElem?_eq_some_iff.mp hx).1
      simp [EV.upTo] at this
      omega
    have ex : x = .int i := by
      rw [upTo_map, List.getElem?_map, List.getElem?_range (by omega)] at hx
      simpa using (Option.some.inj hx).symm
    subst ex
    simp [-Bool.exists_bool, -List.all_eq_true, -List.any_eq_true, u3, t.p, sz]
    refine pick_ints (n := k) (xs := [0, 1, 1, 2, 2, 3]) (by omega) (by simp) (by simp) fun w hw => ?_
    have hs0 : 0 ≤ w ∧ w ≤ 3 := by
      simp at hw
      omega
    simp [-Bool.exists_bool, -List.all_eq_true, -List.any_eq_true, u8, t.s, sz]
    have eu : EV.upTo c 0 = ((List.range c).map fun i : Nat => (i : Int)).map D.int := by simp [EV.upTo, List.map_map, Function.comp_def]
    refine ⟨by omega, by omega, EV.upTo c 0, k + 1, rfl, by omega, by simp [EV.upTo]; omega, fun es he => ?_⟩
    rw [eu] at he
    obtain ⟨zs, rfl, hz⟩ := perm_ints he
    have lu : (EV.upTo c 0).length = c := by simp [EV.upTo]
    have lz : zs.length = c := by rw [hz.length_eq]; simp
    have c1 : EV.cutD (zs.map D.int) none (some (1 + w)) = (zs.take (1 + w).toNat).map D.int := by
      rw [cutD_to (by omega), List.map_take]
    obtain ⟨ys, y1, y2, y3⟩ := sortD_ints (xs := zs.take (1 + w).toNat) (by rw [sz, List.length_take]; omega)
    have yo : YOk ys := YOk.of (k := (1 + w).toNat) (c := c) y2 y3 hz rfl (by omega) (by omega) (by omega) (by omega)
    simp [-Bool.exists_bool, -List.all_eq_true, -List.any_eq_true, c1, y1, u4, t.a, -List.map_take, sz, lu]
    refine ⟨ys, rfl, by have := yo.h2; omega, fun ps hps => ?_⟩
    have lp : ps.length ≤ 100 := by
      rw [hps.length_eq]
      refine Nat.le_trans (List.length_filter_le _ _) ?_
      rw [subs_len]
      calc 2 ^ ys.length ≤ 2 ^ 4 := Nat.pow_le_pow_right (by omega) yo.h2
        _ ≤ 100 := by decide
    have lf := hF.len
    simp [-Bool.exists_bool, -List.all_eq_true, -List.any_eq_true, sz]
    refine loop_if (p := fun x => !decide (x ∈ F)) (f := dF) (by simp [lkOf_inr]) (fun x hx' G' N hG' hN => ?_) ?_
    · simp [-Bool.exists_bool, -List.all_eq_true, -List.any_eq_true, in_dFs]
      by_cases hxF : x ∈ F
      · simp [hxF]
        exact hN (by simp [hxF])
      · simp [hxF]
        exact hG' (by simp [hxF])
    · have hg := hF.grow yo hps
      generalize (ps.filter fun x => !decide (x ∈ F)) = new at hg
      simp [-Bool.exists_bool, -List.all_eq_true, -List.any_eq_true, u9, eqD_nil, sz]
      have go : ∀ F' : List (List Int), FOk m F' → next [.pn (k + 1 + c), .fz (.int c), .fz (.int m), .fz (.int i), .fz (.tup (ys.map .int)), .ol (F'.map dF), .ol [], .fz (.int 0), .fz (.int (1 + w)), .ol (new.map dF), .un] := fun F' h' =>
        hn' _ ⟨k + 1 + c, F', _, _, _, _, rfl, rfl, rfl, rfl, by omega, by omega, h', rfl⟩
      by_cases n0 : new = []
      · rw [if_pos n0]
        exact go F hF
      · rw [if_neg n0]
        by_cases n1 : F.length + new.length ≤ m
        · have := go _ (hg n1)
          simp [-Bool.exists_bool, -List.all_eq_true, -List.any_eq_true, show (F.length : Int) + new.length ≤ m by omega, show F.length + new.length ≤ 16777216 by omega, EV.ownOf]
          simpa using this
        · rw [if_neg (by omega)]
          exact go F hF
  · rintro ρ ⟨k, F, s3, s4, s8, s9, u3, u4, u8, u9, hk, hi, hF, rfl⟩
    have lf := hF.len
    simp [-Bool.exists_bool, -List.all_eq_true, -List.any_eq_true, t.w]
    refine ⟨F, k, rfl, by omega, by omega, hF.cl, fun f hf => by have := (okFace_len (hF.ok f hf)).2; omega, fun gs hp ho => ?_⟩
    have lg : gs.length = F.length := hp.length_eq
    simp [-Bool.exists_bool, -List.all_eq_true, -List.any_eq_true]
    refine for_ind (fun j ρ => ∃ (k' : Nat) (st : List St) (tm : Int) (s4 : Slot), s4.lent = false ∧ k' = k + F.length + j ∧ j ≤ gs.length ∧ st.map (·.1) = gs.take j ∧ VV [] 0 st ∧ lastOf 0 st ≤ tm ∧ tm ≤ 2 * j ∧ ρ = [.pn k', .fz (.int c), .fz (.int m), s3, s4, .fz (.lst (F.map dF)), .ol (st.map encSt), .fz (.int tm), s8, s9, .un])
      ⟨k + F.length, [], 0, s4, u4, rfl, Nat.zero_le _, rfl, trivial, Int.le_refl _, by omega, rfl⟩ ?_ ?_
    · rintro j x ρ hx ⟨k', st, tm, s4, u4, rfl, hj, hst, hv, hlt, htm, rfl⟩ next hn'
      rw [List.getElem?_map] at hx
      have hj' : j < gs.length := by
        refine Nat.lt_of_not_le fun z => ?_
        rw [List.getElem?_eq_none z] at hx; cases hx
      rw [List.getElem?_eq_getElem hj'] at hx
      have ex := (Option.some.inj hx).symm
      subst ex
      simp [-Bool.exists_bool, -List.all_eq_true, -List.any_eq_true, u4, t.p, sz]
      refine pick_ints (n := k + F.length + j) (xs := [0, 0, 1, 1, 2]) (by omega) (by simp) (by simp) fun w hw => ?_
      have hw0 : 0 ≤ w ∧ w ≤ 2 := by
        simp at hw
        omega
      have ls : st.length = j := by have := congrArg List.length hst; simp at this; omega
      have nd : gs.Nodup := hp.nodup_iff.mpr hF.nd
      have nm : gs[j] ∉ gs.take j := by
        have e : gs = gs.take j ++ gs[j] :: gs.drop (j + 1) := by rw [← List.drop_eq_getElem_cons hj', List.take_append_drop]
        rw [e, List.nodup_append] at nd
        exact fun z => nd.2.2 _ z _ List.mem_cons_self rfl
      have sd := ordd_at ho hj'
      have e7 : lastOf 0 (st ++ [(gs[j], tm + w)]) = tm + w := by simp [lastOf]
      simp [-Bool.exists_bool, -List.all_eq_true, -List.any_eq_true, sz, ls, show j < 16777216 by omega]
      refine hn' _ ⟨_, st ++ [(gs[j], tm + w)], tm + w, .fz (dF gs[j]), rfl, rfl, hj', ?_, ?_, by rw [e7]; exact Int.le_refl _, by omega, by simp [encSt, Nat.add_assoc]⟩
      · rw [List.map_append, hst, List.take_succ_eq_append_getElem hj']
        rfl
      · refine VV_snoc hv (hF.ok _ (hp.mem_iff.mp (List.getElem_mem hj'))) (by omega) (by omega) (by rw [hst]; exact nm) (fun s hs => by rw [hst]; simpa using sd s hs)
    · rintro ρ ⟨k', st, tm, s4, u4, rfl, hj, hst, hv, hlt, htm, rfl⟩
      rw [show (gs.map dF).length = gs.length by simp, List.take_length] at hst
      have ls : st.length = gs.length := by have := congrArg List.length hst; simpa using this
      simp [-Bool.exists_bool, -List.all_eq_true, -List.any_eq_true]
      have ne := hF.ne
      refine q st _ ⟨by omega, by omega, valid_iff.mpr hv⟩ (by omega) (by omega) _
end
end PR
set_option Elab.async false
set_option linter.all false
set_option maxRecDepth 100000
set_option maxHeartbeats 4000000
/-! G16: what the law's texts hold; sides, told both ways. -/
namespace PR
open PySem PySem.Spec PyProof.Rows L2 EV
/-! ### texts of data -/
structure RB (p : PyData) (c k : Nat) : Prop where
  s : p.showable = true
  d : p.hasDict = false
  k : p.depth ≤ k
  c : p.shown.length ≤ c
theorem RB.int {i : Int} (h : i.natAbs < 2 ^ 100) : RB (.int i) 1921 0 := by
  have hl : i.natAbs.log2 < 1920 := Nat.lt_trans (log_lt (k := 100) h) (by omega)
  exact ⟨by simp [PyData.showable, hl], by simp [PyData.hasDict], by simp [PyData.depth], by
    show (PySem.Str.ofString (toString i)).length ≤ 1921
    exact PyProof.Rows.int_text_len_1921 hl⟩
theorem RB.bool {b : Bool} : RB (.bool b) 1921 0 := ⟨by simp [PyData.showable], by simp [PyData.hasDict], by simp [PyData.depth], by
  cases b
  · show ((("False" : String) : Str)).length ≤ 1921
    decide
  · show ((("True" : String) : Str)).length ≤ 1921
    decide⟩
theorem RB.non : RB .none 1921 0 := ⟨by simp [PyData.showable], by simp [PyData.hasDict], by simp [PyData.depth], by
  show ((("None" : String) : Str)).length ≤ 1921
  decide⟩
theorem RB.str {x : Str} (h : (reprText x).length ≤ 1921) : RB (.str x) 1921 0 := ⟨by simp [PyData.showable], by simp [PyData.hasDict], by simp [PyData.depth], h⟩
theorem RB.mono {p : PyData} {c k c' k' : Nat} (h : RB p c k) (h1 : c ≤ c') (h2 : k ≤ k') : RB p c' k' := ⟨h.s, h.d, Nat.le_trans h.k h2, Nat.le_trans h.c h1⟩
theorem rb_all {xs : List PyData} {c k : Nat} (h : ∀ x ∈ xs, RB x c k) : PyData.showableAll xs = true ∧ PyData.hasDictAll xs = false ∧ PyData.depthAll xs ≤ k ∧ piled (PyData.shownAll xs) ≤ xs.length * (c + 2) := by
  induction xs with
  | nil => simp [PyData.showableAll, PyData.hasDictAll, PyData.depthAll, PyData.shownAll, piled_nil]
  | cons x xs ih =>
    obtain ⟨h1, h2, h3, h4⟩ := ih fun y hy => h y (List.mem_cons_of_mem _ hy)
    have hx := h x List.mem_cons_self
    refine ⟨by simp [PyData.showableAll, hx.s, h1], by simp [PyData.hasDictAll, hx.d, h2], ?_, ?_⟩
    · simp only [PyData.depthAll]
      exact Nat.max_le.mpr ⟨hx.k, h3⟩
    · rw [PyData.shownAll, piled_cons, List.length_cons, Nat.succ_mul]
      have := hx.c
      omega
theorem tupleText_le (ts : List Str) : (tupleText ts).length ≤ piled ts + 3 := by
  unfold tupleText
  rw [Str.length_append, Str.length_append]
  have e1 : ((("(" : String) : Str)).length = 1 := rfl
  have e3 : (((if ts.length == 1 then ",)" else ")" : String) : Str)).length ≤ 2 := by split <;> decide
  have e2 : (Str.join ", " ts).length ≤ piled ts := by
    by_cases h : ts = []
    · subst h; decide
    · have := join_length_add ts h
      omega
  omega
theorem listText_le (ts : List Str) : (listText ts).length ≤ piled ts + 3 := by
  unfold listText
  rw [Str.length_append]
  have e1 : ((("]" : String) : Str)).length = 1 := rfl
  cases ts with
  | nil => decide
  | cons t r =>
    have h := textFrom_length_pos r 1 (("[" : Str) ++ (if (0 : Nat) > 0 then ", " else "" : String) ++ t) (Nat.succ_pos 0)
    have e : ((("[" : Str) ++ (if (0 : Nat) > 0 then ", " else "" : String) ++ t)).length = 1 + t.length := by
      rw [Str.length_append, Str.length_append]; rfl
    have h' : (textFrom 0 "[" (t :: r)).length = 1 + t.length + piled r := by rw [← e]; exact h
    rw [h', piled_cons, e1]
    omega
theorem RB.tup {xs : List PyData} {n c k : Nat} (h : ∀ x ∈ xs, RB x c k) (hn : xs.length ≤ n) : RB (.tuple xs) (n * (c + 2) + 3) (k + 1) := by
  obtain ⟨h1, h2, h3, h4⟩ := rb_all h
  refine ⟨by simpa [PyData.showable] using h1, by simpa [PyData.hasDict] using h2, by simp [PyData.depth]; omega, ?_⟩
  show (tupleText (PyData.shownAll xs)).length ≤ _
  have := tupleText_le (PyData.shownAll xs)
  have := Nat.mul_le_mul_right (c + 2) hn
  omega
theorem RB.lst {xs : List PyData} {n c k : Nat} (h : ∀ x ∈ xs, RB x c k) (hn : xs.length ≤ n) : RB (.list xs) (n * (c + 2) + 3) (k + 1) := by
  obtain ⟨h1, h2, h3, h4⟩ := rb_all h
  refine ⟨by simpa [PyData.showable] using h1, by simpa [PyData.hasDict] using h2, by simp [PyData.depth]; omega, ?_⟩
  show (listText (PyData.shownAll xs)).length ≤ _
  have := listText_le (PyData.shownAll xs)
  have := Nat.mul_le_mul_right (c + 2) hn
  omega
theorem reprD_tup {ds : List D} {xs : List PyData} {c k : Nat} (e : toP (.tup ds) = some (.tuple xs)) (h : RB (.tuple xs) c k) (hc : c ≤ sizeLine) (hk : k ≤ 64) : ∃ z, reprD (.tup ds) = some z := by
  unfold reprD
  rw [e]
  exact ⟨_, if_pos ⟨h.s, h.d, Nat.le_trans h.k hk, Nat.le_trans h.c hc⟩⟩
/-- data that have a text -/
structure RD (d : D) (c k : Nat) : Prop where
  h : ∃ p, toP d = some p ∧ RB p c k
theorem toPs_rd {ds : List D} {c k : Nat} (h : ∀ d ∈ ds, RD d c k) : ∃ xs, toPs ds = some xs ∧ xs.length = ds.length ∧ ∀ x ∈ xs, RB x c k := by
  induction ds with
  | nil => exact ⟨[], rfl, rfl, by simp⟩
  | cons d ds ih =>
    obtain ⟨xs, e1, e2, e3⟩ := ih fun y hy => h y (List.mem_cons_of_mem _ hy)
    obtain ⟨p, e4, e5⟩ := (h d List.mem_cons_self).h
    refine ⟨p :: xs, by simp [toPs, e1, e4], by simp [e2], fun x hx => ?_⟩
    rcases List.mem_cons.mp hx with rfl | hx
    · exact e5
    · exact e3 x hx
theorem RD.int {i : Int} (h : i.natAbs < 2 ^ 100) : RD (.int i) 1921 0 := ⟨⟨_, rfl, RB.int h⟩⟩
theorem RD.bl {b : Bool} : RD (.bl b) 1921 0 := ⟨⟨_, rfl, RB.bool⟩⟩
theorem RD.non : RD .non 1921 0 := ⟨⟨_, rfl, RB.non⟩⟩
theorem RD.str {x : Str} (h : (reprText x).length ≤ 1921) : RD (.str x) 1921 0 := ⟨⟨_, rfl, RB.str h⟩⟩
theorem RD.mono {p : D} {c k c' k' : Nat} (h : RD p c k) (h1 : c ≤ c') (h2 : k ≤ k') : RD p c' k' := by
  obtain ⟨p, e, r⟩ := h.h
  exact ⟨⟨p, e, r.mono h1 h2⟩⟩
theorem RD.tup {ds : List D} {n c k : Nat} (h : ∀ d ∈ ds, RD d c k) (hn : ds.length ≤ n) : RD (.tup ds) (n * (c + 2) + 3) (k + 1) := by
  obtain ⟨xs, e1, e2, e3⟩ := toPs_rd h
  exact ⟨⟨.tuple xs, by simp [toP, e1], RB.tup e3 (by omega)⟩⟩
theorem RD.lst {ds : List D} {n c k : Nat} (h : ∀ d ∈ ds, RD d c k) (hn : ds.length ≤ n) : RD (.lst ds) (n * (c + 2) + 3) (k + 1) := by
  obtain ⟨xs, e1, e2, e3⟩ := toPs_rd h
  exact ⟨⟨.list xs, by simp [toP, e1], RB.lst e3 (by omega)⟩⟩
theorem reprD_of {ds : List D} {c k : Nat} (h : RD (.tup ds) c k) (hc : c ≤ 16000000) (hk : k ≤ 64) : ∃ z, reprD (.tup ds) = some z := by
  obtain ⟨p, e, r⟩ := h.h
  have e' : ∃ xs, p = .tuple xs := by
    simp only [toP] at e
    cases hx : toPs ds with
    | none => rw [hx] at e; cases e
    | some xs => rw [hx] at e; exact ⟨xs, (Option.some.inj e).symm⟩
  obtain ⟨xs, rfl⟩ := e'
  exact reprD_tup e r (Nat.le_trans hc (by unfold sizeLine; omega)) hk
theorem RD.face {f : List Int} (h : f.length ≤ 6) (h1 : ∀ c ∈ f, c.natAbs < 2 ^ 100) : RD (dF f) 11541 1 := by
  refine RD.tup (n := 6) (c := 1921) (fun d hd => ?_) (by simpa using h)
  obtain ⟨c, hc, rfl⟩ := List.mem_map.mp hd
  exact RD.int (h1 c hc)
theorem RD.cand {c : Cand} (h : fcLen c.1 ≤ 6) (h1 : ∀ f, c.1 = some f → ∀ x ∈ f, x.natAbs < 2 ^ 100) (h2 : ∀ t, c.2 = .inl t → t.natAbs < 2 ^ 100) : RD (encC c) 23089 2 := by
  refine RD.tup (n := 2) (c := 11541) (fun d hd => ?_) (by simp)
  obtain ⟨fc, tc⟩ := c
  simp only [List.mem_cons, List.not_mem_nil, or_false] at hd
  rcases hd with rfl | rfl
  · cases fc with
    | none => exact RD.non.mono (by omega) (by omega)
    | some f => exact RD.face h (h1 f rfl)
  · cases tc with
    | inl t => exact (RD.int (h2 t rfl)).mono (by omega) (by omega)
    | inr b => exact RD.bl.mono (by omega) (by omega)
theorem RD.cands {cs : List Cand} (hl : cs.length ≤ 64) (h : ∀ c ∈ cs, fcLen c.1 ≤ 6 ∧ (∀ f, c.1 = some f → ∀ x ∈ f, x.natAbs < 2 ^ 100) ∧ ∀ t, c.2 = .inl t → t.natAbs < 2 ^ 100) : RD (dC cs) 1477827 3 := by
  refine RD.tup (n := 64) (c := 23089) (fun d hd => ?_) (by simpa using hl)
  obtain ⟨c, hc, rfl⟩ := List.mem_map.mp hd
  obtain ⟨h1, h2, h3⟩ := h c hc
  exact RD.cand h1 h2 h3
theorem okFace_small {f : List Int} (h : okFace f = true) : ∀ x ∈ f, 0 ≤ x ∧ x ≤ 11 := by
  simp only [okFace, Bool.and_eq_true, List.all_eq_true, okC, decide_eq_true_eq] at h
  exact h.1.2
theorem VV_times {P : List (List Int)} {l : Int} {ss : List St} (h : VV P l ss) (hl : 0 ≤ l) : ∀ s ∈ ss, 0 ≤ s.2 ∧ s.2 ≤ 999 := by
  induction ss generalizing P l with
  | nil => simp
  | cons s ss ih =>
    obtain ⟨a1, a2⟩ := h
    obtain ⟨_, b2, b3, _⟩ := okStep_iff.mp a1
    intro x hx
    rcases List.mem_cons.mp hx with rfl | hx
    · exact ⟨by omega, b3⟩
    · exact ih a2 (by omega) x hx
theorem RD.steps {ss : List St} (h : okSt ss) : RD (dS ss) 1477827 3 := by
  rw [← dC_toC]
  refine RD.cands (by simpa using h.2.1) fun c hc => ?_
  obtain ⟨s, hs, rfl⟩ := List.mem_map.mp hc
  have hf := fbad_mem h.2.2 s hs
  have ht := VV_times (valid_iff.mp h.2.2) (Int.le_refl 0) s hs
  refine ⟨by have := (okFace_len hf).2; simp [toC, fcLen]; omega, fun f e x hx => ?_, fun t e => ?_⟩
  · have e : s.1 = f := by simpa [toC] using e
    subst e
    have := okFace_small hf x hx
    omega
  · have e : s.2 = t := by simpa [toC] using e
    subst e
    omega
theorem repr_steps {ss : List St} (h : okSt ss) : ∃ z, reprD (dS ss) = some z := reprD_of (RD.steps h) (by omega) (by omega)
/-! ### sides, both ways -/
theorem pw_of_asc {f : List Int} (h : asc f = true) : f.Pairwise (· < ·) := by
  simp only [asc, List.all_eq_true, List.mem_range, decide_eq_true_eq] at h
  rw [List.pairwise_iff_getElem]
  intro i j hi hj hij
  have key : ∀ d, ∀ hj : i + 1 + d < f.length, f[i] < f[i + 1 + d] := by
    intro d
    induction d with
    | zero =>
      intro hj
      have := h i (by omega)
      rw [List.getD_eq_getElem?_getD, List.getD_eq_getElem?_getD, List.getElem?_eq_getElem hi, List.getElem?_eq_getElem (show i + 1 < f.length by omega)] at this
      exact this
    | succ d ih =>
      intro hj
      have h1 := ih (by omega)
      have := h (i + 1 + d) (by omega)
      rw [List.getD_eq_getElem?_getD, List.getD_eq_getElem?_getD, List.getElem?_eq_getElem (show i + 1 + d < f.length by omega), List.getElem?_eq_getElem (show i + 1 + d + 1 < f.length by omega)] at this
      simp only [Option.getD_some] at this
      have e : f[i + 1 + (d + 1)] = f[i + 1 + d + 1] := rfl
      omega
  have := key (j - i - 1) (by omega)
  have e : i + 1 + (j - i - 1) = j := by omega
  simpa [e] using this
theorem okFace_pw {f : List Int} (h : okFace f = true) : f.Pairwise (· < ·) := by
  simp only [okFace, Bool.and_eq_true] at h
  exact pw_of_asc h.2
theorem sub_of_mem : ∀ {g f : List Int}, f.Pairwise (· < ·) → g.Pairwise (· < ·) → (∀ x ∈ f, x ∈ g) → f.Sublist g
  | [], [], _, _, _ => .slnil
  | [], a :: f, _, _, h => by have := h a List.mem_cons_self; simp at this
  | b :: g, [], _, _, _ => List.nil_sublist _
  | b :: g, a :: f, hf, hg, h => by
    have hf' := List.pairwise_cons.mp hf
    have hg' := List.pairwise_cons.mp hg
    by_cases e : a = b
    · subst e
      refine List.Sublist.cons_cons _ (sub_of_mem hf'.2 hg'.2 fun x hx => ?_)
      have h1 := hf'.1 x hx
      rcases List.mem_cons.mp (h x (List.mem_cons_of_mem _ hx)) with z | z
      · omega
      · exact z
    · have ha : a ∈ g := by
        rcases List.mem_cons.mp (h a List.mem_cons_self) with z | z
        · exact absurd z e
        · exact z
      have h2 := hg'.1 a ha
      refine List.Sublist.cons _ (sub_of_mem hf hg'.2 fun x hx => ?_)
      rcases List.mem_cons.mp (h x hx) with z | z
      · rcases List.mem_cons.mp hx with z' | z'
        · omega
        · have := hf'.1 x z'
          omega
      · exact z
theorem erase_of_sub {f g : List Int} (h : f.Sublist g) (hl : g.length = f.length + 1) : ∃ k, k < g.length ∧ f = g.eraseIdx k := by
  induction h with
  | slnil => simp at hl
  | cons a h ih =>
    rename_i l1 l2
    have : l1 = l2 := h.eq_of_length (by simpa using hl.symm)
    subst this
    exact ⟨0, by simp, rfl⟩
  | cons_cons a h ih =>
    obtain ⟨k, hk, e⟩ := ih (by simpa using hl)
    exact ⟨k + 1, by simpa using hk, by simp [← e]⟩
theorem side_eq {f g : List Int} (hf : okFace f = true) (hg : okFace g = true) : lawSide f g = sideOf f g := by
  rw [Bool.eq_iff_iff]
  unfold lawSide sideOf
  simp only [Bool.and_eq_true, decide_eq_true_eq, List.all_eq_true]
  constructor
  · rintro ⟨h1, h2⟩
    obtain ⟨k, hk, e⟩ := erase_of_sub (sub_of_mem (okFace_pw hf) (okFace_pw hg) h2) h1
    have hg1 : ¬ g.length = 1 := by have := (okFace_len hf).1; omega
    rw [List.mem_map]
    refine ⟨(g.take k ++ g.drop (k + 1), if k % 2 = 0 then 1 else -1), ?_, ?_⟩
    · unfold sidesL
      rw [if_neg hg1]
      exact List.mem_map.mpr ⟨k, List.mem_range.mpr hk, rfl⟩
    · rw [e, List.eraseIdx_eq_take_drop_succ]
  · intro h
    obtain ⟨s, hs, rfl⟩ := List.mem_map.mp h
    exact ⟨(side_len hs).symm, fun x hx => (side_sub hs).1.subset hx⟩
end PR
set_option Elab.async false
set_option linter.all false
set_option maxRecDepth 100000
set_option maxHeartbeats 4000000
/-! G17: the law, its start and the exchanges. -/
namespace PR
open PySem PySem.Spec PyProof.Rows L2 EV
def tlN : Nat → Ss → Ss
  | 0, s => s
  | n + 1, s => tlS (tlN n s)
section
variable {T : Tb} {bodies : Nat → E} {lam : LamD → Prop} {tbl : Addr → Str → Prop}
@[simp] theorem on_Γ : (T.on bodies lam tbl).Γ = T.Γ := rfl
@[simp] theorem on_G : (T.on bodies lam tbl).G = T.G := rfl
@[simp] theorem on_ats : (T.on bodies lam tbl).ats = T.ats := rfl
@[simp] theorem on_cls : (T.on bodies lam tbl).cls = T.cls := rfl
@[simp] theorem on_exc : (T.on bodies lam tbl).exc = T.exc := rfl
@[simp] theorem on_Γf : (T.on bodies lam tbl).Γf = T.Γf := rfl
@[simp] theorem on_hand : (T.on bodies lam tbl).hand = T.hand := rfl
@[simp] theorem bare_Γ : T.bare.Γ = T.Γ := rfl
@[simp] theorem bare_G : T.bare.G = T.G := rfl
@[simp] theorem bare_ats : T.bare.ats = T.ats := rfl
@[simp] theorem bare_cls : T.bare.cls = T.cls := rfl
@[simp] theorem bare_exc : T.bare.exc = T.exc := rfl
end
/-- a slot of plain data -/
structure Pl (s : Slot) : Prop where
  l : s.lent = false
  t : s.isTb = false
theorem Pl.fz {d : D} : Pl (.fz d) := ⟨rfl, rfl⟩
theorem Pl.un : Pl .un := ⟨rfl, rfl⟩
theorem tbOnly_of {P : Addr} {q : Str} : ∀ {ρ : En}, (∀ s ∈ ρ, s = .tb P q ∨ s.isTb = false) → tbOnly P q ρ
  | [], _ => trivial
  | s :: r, h => by
    refine ⟨?_, tbOnly_of fun x hx => h x (List.mem_cons_of_mem _ hx)⟩
    rcases h s List.mem_cons_self with e | e
    · subst e; exact fun _ => rfl
    · cases s <;> first | trivial | (simp [Slot.isTb] at e)
theorem err_lam {T : Tb} {bodies : Nat → E} {lam : LamD → Prop} {tbl : Addr → Str → Prop} {n : Nat} {e : E} {f : Str} {hs : List (Str × List HF)} {P : Addr} {q : Str} {Q : D → En → Prop} {R : Exc → En → Prop} {ρ : En} (hh : T.hand f = some hs) (ht : tbl P q) (hb : bodies n = e) (hj : ∃ j, ρ.at j = .tb P q) (ho : tbOnly P q ρ)
    (hr : wE T.bare e (fun _ ρ1 => Q .non ρ1) (fun c ρ1 => ∃ d, catchD c hs = some d ∧ Q d ρ1) ρ) : wErr (T.on bodies lam tbl) f (wA (T.on bodies lam tbl) (.e (.lam n e))) Q R ρ := by
  obtain ⟨j, ej⟩ := hj
  refine ⟨rfl, hs, hh, ⟨rfl, hb, ⟨j, P, q, ej, ht, ho⟩, fun l hl hn => ⟨l, rfl, hl, ?_⟩⟩⟩
  rw [hn]
  show wE T.bare (bodies n) _ _ ρ
  rw [hb]
  exact hr
def handE : List (Str × List HF) := [("BadGrowth", [.txt "growth", .fld "step"]), ("BadNumber", [.txt "number", .fld "what", .fld "number"]), ("BadRow", [.txt "row", .fld "row"]), ("Unlike", [.txt "unlike", .fld "what"])]
def dNum (k : D) : D := .tup [.str "number", stepK, k]
def dUn (x : Str) : D := .tup [.str "unlike", .str x]
def dRow (d : D) : D := .tup [.str "row", d]
def dGr (k : D) : D := .tup [.str "growth", k]
theorem catch_num {k : D} : catchD (badNum stepK k) handE = some (dNum k) := by rfl
theorem catch_un {x : Str} : catchD (unlike x) handE = some (dUn x) := by rfl
theorem catch_row {d : D} : catchD (badRow d) handE = some (dRow d) := by rfl
theorem catch_gr {k : Nat} : catchD (badG k) handE = some (dGr (.int k)) := by rfl
def penF : FS := fun sl Qd R => ∃ xs : List Int, sl = [.fz (.gl (xs.map .int))] ∧ xs.length ≤ 63 ∧ ∀ f, 0 ≤ f → f < 2 ^ 32 → Qd (.dK (penK xs 0 0 0 f)) sl
structure LawX (T : Tb) : Prop where
  pen : T.Γf "_law_pen" = some penF
  gw : T.Γ "_law_growth" = some lgF
  dr : T.Γ "_law_draw" = some drawF
  pk : T.Γ "_law_pick" = some pickF
  sh : T.Γ "_law_shuffled" = some shufF
  ex : T.Γ "exchanged" = some exF
  ta : T.Γ "timed_anew" = some anewF
  pu : T.Γ "put_in" = some putF
  tk : T.Γ "taken_out" = some takF
  gr : T.Γ "Growth" = some growC
  sd : T.Γ "_law_is_side" = some (P2 lawSideV)
  tu : T.Γ "_law_turned" = some turnF
  fw : T.Γ "_law_first_wrong" = some firstF
  a : (("Growth" : Str), ("steps" : Str)) ∈ T.ats
  hd : T.hand "_law_error" = some handE
theorem rep_num {k : D} (h : RD k 1921 0) : ∃ z, reprD (dNum k) = some z := by
  refine reprD_of (RD.tup (n := 3) (c := 1921) (k := 0) (fun d hd => ?_) (by simp)) (by omega) (by omega)
  simp only [List.mem_cons, List.not_mem_nil, or_false] at hd
  rcases hd with rfl | rfl | rfl
  · exact RD.str (by decide +kernel)
  · exact RD.str (by decide +kernel)
  · exact h
theorem rep_un {x : Str} (h : (reprText x).length ≤ 1921) : ∃ z, reprD (dUn x) = some z := by
  refine reprD_of (RD.tup (n := 2) (c := 1921) (k := 0) (fun d hd => ?_) (by simp)) (by omega) (by omega)
  simp only [List.mem_cons, List.not_mem_nil, or_false] at hd
  rcases hd with rfl | rfl
  · exact RD.str (by decide +kernel)
  · exact RD.str h
theorem rep_gr {k : D} (h : RD k 1921 0) : ∃ z, reprD (dGr k) = some z := by
  refine reprD_of (RD.tup (n := 2) (c := 1921) (k := 0) (fun d hd => ?_) (by simp)) (by omega) (by omega)
  simp only [List.mem_cons, List.not_mem_nil, or_false] at hd
  rcases hd with rfl | rfl
  · exact RD.str (by decide +kernel)
  · exact h
theorem rep_row {d : D} {c k : Nat} (h : RD d c k) (hc : c ≤ 1000000) (hk : k ≤ 10) (h0 : 1921 ≤ c) : ∃ z, reprD (dRow d) = some z := by
  refine reprD_of (RD.tup (n := 2) (c := c) (k := k) (fun d' hd => ?_) (by simp)) (by omega) (by omega)
  simp only [List.mem_cons, List.not_mem_nil, or_false] at hd
  rcases hd with rfl | rfl
  · exact (RD.str (by decide +kernel)).mono h0 (by omega)
  · exact h
@[simp] theorem eqD_str {x : Str} : eqD (.str x) (.str x) = some true := by
  unfold eqD txtEq
  simp
end PR
set_option Elab.async false
set_option linter.all false
set_option maxRecDepth 100000
set_option maxHeartbeats 4000000
/-! G18: the law's start, its exchanges. -/
namespace PR
open PySem PySem.Spec PyProof.Rows L2 EV
abbrev LW : Ss := ir_law_k79
theorem seg0 : LW = .cons (hdS LW) (.cons (hdS (tlN 1 LW)) (.cons (hdS (tlN 2 LW)) (tlN 3 LW))) := rfl
def frB : S → Ss
  | .fr _ _ _ b => b
  | _ => .nil
def B3 : Ss := frB (hdS (tlN 3 LW))
theorem seg3 : tlN 3 LW = .cons (.fr [3] (.n 3) (.r1 (.lit (.int 4))) B3) (tlN 4 LW) := rfl
theorem segB3 : B3 = .cons (hdS B3) (.cons (hdS (tlN 1 B3)) (.cons (hdS (tlN 2 B3)) (tlN 3 B3))) := rfl
/-- the slots at the first loop -/
abbrev stA (ns : List Int) (P : Addr) (q : Str) (n : Nat) (ss : List St) (s3 s4 s11 : Slot) : En :=
  [.fz (.gl (ns.map .int)), .pn n, .fz (dS ss), s3, s4, .un, .un, .un, .un, .fz (gO ss), .fz (.int ss.length), s11, .un, .un, .un, .un, .un, .un, .un, .un, .un, .un, .un, .tb P q]
section
variable {T : Tb} {lam : LamD → Prop} {tbl : Addr → Str → Prop} {P : Addr} {q : Str} {ns : List Int}
theorem law0 (t : LawX T) (ht : tbl P q) (hn : ns.length ≤ 63) (next : ∀ n ss, n ≤ 2010 → okSt ss → ss.length ≤ 20 → wSs (T.on bodies_law_k79 lam tbl) (tlN 3 LW) wEndL (stA ns P q n ss .un .un .un)) :
    wSs (T.on bodies_law_k79 lam tbl) LW wEndL (lawIn 24 23 ns P q) := by
  rw [seg0]
  generalize tlN 3 LW = tl at next ⊢
  show wSs _ _ _ [.fz (.gl (ns.map .int)), .un, .un, .un, .un, .un, .un, .un, .un, .un, .un, .un, .un, .un, .un, .un, .un, .un, .un, .un, .un, .un, .un, .tb P q]
  unfold LW ir_law_k79
  simp [-Bool.exists_bool, -List.all_eq_true, -List.any_eq_true, hdS, tlN, tlS, t.pen]
  refine ⟨ns, rfl, hn, fun f f0 f1 => ?_⟩
  simp [-Bool.exists_bool, -List.all_eq_true, -List.any_eq_true]
  refine ⟨ns, 0, 0, 0, f, rfl, 0, ⟨hn, by omega, by omega, by omega, by omega, by omega, f0, f1⟩, ?_⟩
  simp [-Bool.exists_bool, -List.all_eq_true, -List.any_eq_true, t.gw, t.dr]
  refine ⟨4, 0, rfl, by omega, by omega, by omega, fun r1 r10 r11 => ?_⟩
  simp [-Bool.exists_bool, -List.all_eq_true, -List.any_eq_true]
  refine ⟨20, 1, rfl, by omega, by omega, by omega, fun r2 r20 r21 => ?_⟩
  simp [-Bool.exists_bool, -List.all_eq_true, -List.any_eq_true]
  refine ⟨2, (3 + r1).toNat, (1 + r2).toNat, ?_, by omega, by omega, by omega, by omega, by omega, fun ss n' hs hl hn' => ?_⟩
  · rw [Int.toNat_of_nonneg (by omega), Int.toNat_of_nonneg (by omega)]
  · simp [-Bool.exists_bool, -List.all_eq_true, -List.any_eq_true, t.gr]
    refine growC_ok hs ?_
    simp [-Bool.exists_bool, -List.all_eq_true, -List.any_eq_true, dS]
    exact next n' ss (by omega) hs (by omega)
theorem onlyA {n : Nat} {ss : List St} {s3 s4 s11 : Slot} (u3 : Pl s3) (u4 : Pl s4) (u11 : Pl s11) : tbOnly P q (stA ns P q n ss s3 s4 s11) := by
  refine tbOnly_of fun s hs => ?_
  simp only [stA, List.mem_cons, List.not_mem_nil, or_false] at hs
  rcases hs with h | h | h | h | h | h | h | h | h | h | h | h | h | h | h | h | h | h | h | h | h | h | h | h <;> subst h <;> first | exact .inl rfl | exact .inr rfl | exact .inr u3.t | exact .inr u4.t | exact .inr u11.t
theorem law3b (t : LawX T) (ht : tbl P q) {Q : WK} {n : Nat} {ss : List St} {kk : Int} {s3 : Slot} {due : D} (hs : okSt ss) (u3 : Pl s3) (hd : match exB ss (.int kk) with
    | some x => due ≠ .non ∧ catchD x handE = some due ∧ ∃ z, reprD due = some z
    | none => due = .non) (next : Q.nx (stA ns P q n ss s3 (.fz (.int kk)) (.fz due))) : wSs (T.on bodies_law_k79 lam tbl) (tlN 3 B3) Q (stA ns P q n ss s3 (.fz (.int kk)) (.fz due)) := by
  unfold B3 LW ir_law_k79
  cases he : exB ss (.int kk) with
  | none =>
    rw [he] at hd
    subst hd
    have hk : ∃ k : Nat, kk = k ∧ k + 1 < ss.length := by
      by_cases hh : 0 ≤ kk ∧ kk + 1 < ss.length
      · exact ⟨kk.toNat, by omega, by omega⟩
      · rw [exB_out hh] at he; cases he
    obtain ⟨k, rfl, hk⟩ := hk
    obtain ⟨z, hz⟩ := repr_steps (hs.swap hk he).1
    simp [-Bool.exists_bool, -List.all_eq_true, -List.any_eq_true, hdS, tlN, tlS, frB, t.ex]
    refine .inl ⟨ss, .int k, rfl, hs, rfl, ?_⟩
    rw [he]
    simp [-Bool.exists_bool, -List.all_eq_true, -List.any_eq_true, gO, t.a, t.tu, hz]
    refine ⟨ss, k, rfl, hk, by have := hs.2.1; omega, ?_⟩
    simp [-Bool.exists_bool, -List.all_eq_true, -List.any_eq_true, hz]
    exact next
  | some x =>
    rw [he] at hd
    obtain ⟨h1, h2, z, hz⟩ := hd
    have hn : isNon due = false := by cases due <;> first | rfl | exact absurd rfl h1
    simp [-Bool.exists_bool, -List.all_eq_true, -List.any_eq_true, hdS, tlN, tlS, frB, hn]
    refine err_lam t.hd ht rfl ⟨23, rfl⟩ (onlyA u3 Pl.fz Pl.fz) ?_
    simp [-Bool.exists_bool, -List.all_eq_true, -List.any_eq_true, t.ex]
    refine .inl ⟨ss, .int kk, rfl, hs, rfl, ?_⟩
    rw [he]
    simp [-Bool.exists_bool, -List.all_eq_true, -List.any_eq_true, h2, hz]
    exact next
theorem law3 (t : LawX T) (ht : tbl P q) {n : Nat} {ss : List St} (hn : n ≤ 2010) (hs : okSt ss) (hl : ss.length ≤ 20) (next : ∀ n' s3 s4 s11, n' ≤ n + 4 → Pl s3 → Pl s4 → Pl s11 → wSs (T.on bodies_law_k79 lam tbl) (tlN 4 LW) wEndL (stA ns P q n' ss s3 s4 s11)) :
    wSs (T.on bodies_law_k79 lam tbl) (tlN 3 LW) wEndL (stA ns P q n ss .un .un .un) := by
  rw [seg3]
  generalize tlN 4 LW = tl at next ⊢
  have sz : sizeLine = 16777216 := rfl
  simp [-Bool.exists_bool, -List.all_eq_true, -List.any_eq_true, sz]
  refine for_ind (fun i ρ => ∃ s3 s4 s11, Pl s3 ∧ Pl s4 ∧ Pl s11 ∧ i ≤ 4 ∧ ρ = stA ns P q (n + i) ss s3 s4 s11) ⟨.un, .un, .un, .un, .un, .un, by omega, rfl⟩ ?_ ?_
  · rintro i x ρ hx ⟨s3, s4, s11, u3, u4, u11, hi, rfl⟩ nxt hn'
    have hi' : i < 4 := by
      have := (List.getElem?_eq_some_iff.mp hx).1
      simpa [EV.upTo] using this
    have ex : x = .int i := by
      rw [upTo_map, List.getElem?_map, List.getElem?_range hi'] at hx
      simpa using (Option.some.inj hx).symm
    subst ex
    have l3 := u3.l
    have l4 := u4.l
    have l11 := u11.l
    rw [segB3]
    generalize htb : tlN 3 B3 = tb
    have tail := fun {Q : WK} {n : Nat} {kk : Int} {s3 : Slot} {due : D} => law3b (lam := lam) (ns := ns) t ht (Q := Q) (n := n) (kk := kk) (s3 := s3) (due := due) hs
    rw [htb] at tail
    unfold B3 LW ir_law_k79
    simp [-Bool.exists_bool, -List.all_eq_true, -List.any_eq_true, hdS, tlN, tlS, frB, l3, l4, l11, t.dr, sz]
    refine ⟨(ss.length : Int) + 2, n + i, rfl, by omega, by omega, by omega, fun r r0 r1 => ?_⟩
    by_cases c1 : 1 ≤ r
    · by_cases c2 : r < ss.length
      · obtain ⟨k, ek⟩ : ∃ k : Nat, r = k + 1 := ⟨(r - 1).toNat, by omega⟩
        subst ek
        have hk : k + 1 < ss.length := by omega
        have f1 := at_st (ss := ss) (k := k) (by omega)
        have f2 := at_st1 hk
        obtain ⟨n', en', hk', e⟩ := exB_in (ss := ss) (k := k) (by omega) (by omega)
        have en' : k = n' := by omega
        subst en'
        have g1 := hs.face (k := k) (by omega)
        have g2 := hs.face hk
        have z1 := (okFace_len g1).2
        have z2 := (okFace_len g2).2
        have se := side_eq g1 g2
        have b1 : (0 : Int) ≤ (k : Int) := by omega
        simp [-Bool.exists_bool, -List.all_eq_true, -List.any_eq_true, l3, l4, l11, sz, c1, c2, dS, f1, f2, encSt, t.sd, show ss[k].1.length ≤ 1000 by omega, show ss[k + 1].1.length ≤ 1000 by omega, se, show (k : Int) + 1 < ss.length by omega, show (k : Int) < (ss.length : Int) - 1 by omega]
        by_cases sd : sideOf ss[k].1 ss[k + 1].1 = true
        · rw [if_pos sd] at e ⊢
          have := tail (Q := { nx := nxt, rt := wEndL.rt, R := wEndL.R, br := fun ρ1 => wSs (T.on bodies_law_k79 lam tbl) tl wEndL ρ1, ct := nxt, rf := wEndL.rf }) (n := n + i + 1) (kk := k) (s3 := .fz (.int i)) (due := dUn "steps") Pl.fz (by rw [e]; exact ⟨by simp [dUn], catch_un, rep_un (by decide +kernel)⟩) (hn' _ ⟨_, _, _, Pl.fz, Pl.fz, Pl.fz, by omega, rfl⟩)
          exact this
        · rw [if_neg sd] at e ⊢
          have := tail (Q := { nx := nxt, rt := wEndL.rt, R := wEndL.R, br := fun ρ1 => wSs (T.on bodies_law_k79 lam tbl) tl wEndL ρ1, ct := nxt, rf := wEndL.rf }) (n := n + i + 1) (kk := k) (s3 := .fz (.int i)) (due := .non) Pl.fz (by rw [e]) (hn' _ ⟨_, _, _, Pl.fz, Pl.fz, Pl.fz, by omega, rfl⟩)
          exact this
      · simp [-Bool.exists_bool, -List.all_eq_true, -List.any_eq_true, l3, l4, l11, sz, c1, c2]
        have := tail (Q := { nx := nxt, rt := wEndL.rt, R := wEndL.R, br := fun ρ1 => wSs (T.on bodies_law_k79 lam tbl) tl wEndL ρ1, ct := nxt, rf := wEndL.rf }) (n := n + i + 1) (kk := r - 1) (s3 := .fz (.int i)) (due := dNum (.int (r - 1))) Pl.fz (by rw [exB_out (by omega)]; exact ⟨by simp [dNum], catch_num, rep_num (RD.int (by omega))⟩) (hn' _ ⟨_, _, _, Pl.fz, Pl.fz, Pl.fz, by omega, rfl⟩)
        exact this
    · simp [-Bool.exists_bool, -List.all_eq_true, -List.any_eq_true, l3, l4, l11, sz, c1]
      have := tail (Q := { nx := nxt, rt := wEndL.rt, R := wEndL.R, br := fun ρ1 => wSs (T.on bodies_law_k79 lam tbl) tl wEndL ρ1, ct := nxt, rf := wEndL.rf }) (n := n + i + 1) (kk := r - 1) (s3 := .fz (.int i)) (due := dNum (.int (r - 1))) Pl.fz (by rw [exB_out (by omega)]; exact ⟨by simp [dNum], catch_num, rep_num (RD.int (by omega))⟩) (hn' _ ⟨_, _, _, Pl.fz, Pl.fz, Pl.fz, by omega, rfl⟩)
      exact this
  · rintro ρ ⟨s3, s4, s11, u3, u4, u11, hi, rfl⟩
    exact next _ s3 s4 s11 (by omega) u3 u4 u11
end
end PR
set_option Elab.async false
set_option linter.all false
set_option maxRecDepth 100000
set_option maxHeartbeats 4000000
/-! G19: the law's times. -/
namespace PR
open PySem PySem.Spec PyProof.Rows L2 EV
theorem seg4 : tlN 4 LW = .cons (hdS (tlN 4 LW)) (tlN 5 LW) := rfl
def B5 : Ss := frB (hdS (tlN 5 LW))
theorem seg5 : tlN 5 LW = .cons (.fr [4] (.n 4) (.r1 (.v 10)) B5) (tlN 6 LW) := rfl
theorem seg6 : tlN 6 LW = .cons (hdS (tlN 6 LW)) (tlN 7 LW) := rfl
theorem seg7 : tlN 7 LW = .cons (hdS (tlN 7 LW)) (tlN 8 LW) := rfl
abbrev stB (ns : List Int) (P : Addr) (q : Str) (n : Nat) (ss : List St) (s3 s4 s5 s6 s7 s11 s12 s13 : Slot) : En :=
  [.fz (.gl (ns.map .int)), .pn n, .fz (dS ss), s3, s4, s5, s6, s7, .un, .fz (gO ss), .fz (.int ss.length), s11, s12, s13, .un, .un, .un, .un, .un, .un, .un, .un, .un, .tb P q]
structure TsOk (n : Nat) (ts : List Int) : Prop where
  l : ts.length = n
  b : ∀ t ∈ ts, 0 ≤ t ∧ t ≤ 200
  p : ts.Pairwise (· ≤ ·)
theorem ascE_of {f : List Int} (h : f.Pairwise (· ≤ ·)) : ascE f = true := by
  simp only [ascE, List.all_eq_true, List.mem_range, decide_eq_true_eq]
  intro k hk
  have h1 : k < f.length := by omega
  have h2 : k + 1 < f.length := by omega
  rw [List.getD_eq_getElem?_getD, List.getD_eq_getElem?_getD, List.getElem?_eq_getElem h1, List.getElem?_eq_getElem h2]
  exact List.pairwise_iff_getElem.mp h k (k + 1) h1 h2 (by omega)
theorem TsOk.ok {n : Nat} {ts : List Int} (h : TsOk n ts) : okTs n (ts.map .inl) = true := by
  have e : (ts.map Sum.inl).map toI = ts := by rw [List.map_map]; exact List.map_id _
  simp only [okTs, e, ascE_of h.p, List.length_map, h.l, Bool.and_eq_true, decide_eq_true_eq, and_true, true_and, List.all_map, List.all_eq_true, Function.comp_apply, wOk]
  intro t ht
  have := h.b t ht
  omega
theorem toI_inl (ts : List Int) : (ts.map Sum.inl).map toI = ts := by rw [List.map_map]; exact List.map_id _
theorem TsOk.up {n : Nat} {ts : List Int} (h : TsOk n ts) : upT 0 ts := upT_of (fun t m => by have := h.b t m; omega) (fun t m => (h.b t (List.mem_of_mem_head? m)).1) (ascE_of h.p)
theorem okSt.retime {ss : List St} {ts : List Int} (h : okSt ss) (t : TsOk ss.length ts) : okSt (retime ss ts) :=
  ⟨by rw [retime_len t.l.symm]; exact h.1, by rw [retime_len t.l.symm]; exact h.2.1, valid_times h.2.2 t.up t.l.symm⟩
theorem row_l (ts : List Int) : D.lst (ts.map D.int) = rowD true (ts.map .inl) := by simp [rowD, List.map_map, Function.comp_def, tcD]
theorem row_t (ts : List Int) : D.tup (ts.map D.int) = rowD false (ts.map .inl) := by simp [rowD, List.map_map, Function.comp_def, tcD]
section
variable {T : Tb} {lam : LamD → Prop} {tbl : Addr → Str → Prop} {P : Addr} {q : Str} {ns : List Int}
theorem law7 (t : LawX T) {n : Nat} {ss : List St} {s3 s4 s11 : Slot} {d13 : D} {ts : List Int} (hs : okSt ss) (ht : TsOk ss.length ts) (next : wSs (T.on bodies_law_k79 lam tbl) (tlN 8 LW) wEndL (stB ns P q n ss s3 s4 (.fz (gO (retime ss ts))) .un .un s11 (.fz (.lst (ts.map .int))) (.fz d13))) :
    wSs (T.on bodies_law_k79 lam tbl) (tlN 7 LW) wEndL (stB ns P q n ss s3 s4 (.fz (gO (retime ss ts))) .un .un s11 (.fz (.lst (ts.map .int))) (.fz d13)) := by
  rw [seg7]
  generalize tlN 8 LW = tl at next ⊢
  unfold LW ir_law_k79
  have sz : sizeLine = 16777216 := rfl
  have l2 := hs.2.1
  have l3 := ht.l
  obtain ⟨z, hz⟩ := repr_steps (hs.retime ht)
  simp [-Bool.exists_bool, -List.all_eq_true, -List.any_eq_true, hdS, tlN, tlS, gO, t.a, hz]
  have ez : tups (ss.map encSt) (ts.map D.int) = (ss.zip ts).map fun p => D.tup [encSt p.1, .int p.2] := by
    simp [tups, List.zip_map, List.map_map, Function.comp_def]
  refine ⟨ss.map encSt, ts.map D.int, .inr ⟨rfl, rfl⟩, by rw [zip_len, sz]; simp; omega, ?_⟩
  rw [ez]
  refine loop_map (f := fun p => encSt (p.1.1, p.2)) (by simp [lkOf_inr]) (fun p hp G hG => ?_) ?_
  · simp [-Bool.exists_bool, -List.all_eq_true, -List.any_eq_true, encSt, sz]
    simpa [encSt] using hG
  · have er : (ss.zip ts).map (fun p => encSt (p.1.1, p.2)) = (retime ss ts).map encSt := by simp [retime, List.map_map, Function.comp_def]
    rw [er]
    have hz' : reprD (D.tup ((retime ss ts).map encSt)) = some z := hz
    simp [-Bool.exists_bool, -List.all_eq_true, -List.any_eq_true, hz']
    exact next
theorem law6 (t : LawX T) {n : Nat} {ss : List St} {s3 s4 s11 s13 : Slot} {ts : List Int} (hs : okSt ss) (hn : n ≤ 3000) (ht : TsOk ss.length ts) (next : wSs (T.on bodies_law_k79 lam tbl) (tlN 7 LW) wEndL (stB ns P q (n + 1) ss s3 s4 (.fz (gO (retime ss ts))) .un .un s11 (.fz (.lst (ts.map .int))) s13)) :
    wSs (T.on bodies_law_k79 lam tbl) (tlN 6 LW) wEndL (stB ns P q n ss s3 s4 .un .un .un s11 (.ol (ts.map .int)) s13) := by
  rw [seg6]
  generalize tlN 7 LW = tl at next ⊢
  unfold LW ir_law_k79
  have sz : sizeLine = 16777216 := rfl
  have l2 := hs.2.1
  have l3 := ht.l
  simp [-Bool.exists_bool, -List.all_eq_true, -List.any_eq_true, hdS, tlN, tlS, t.ta, t.pk, sz]
  refine ⟨_, n, rfl, by omega, by simp, by simp, fun d hd => ?_⟩
  have hd' : ∃ b, d = rowD b (ts.map .inl) := by
    simp only [List.mem_cons, List.not_mem_nil, or_false] at hd
    rcases hd with rfl | rfl
    · exact ⟨true, row_l ts⟩
    · exact ⟨false, row_t ts⟩
  obtain ⟨b, eb⟩ := hd'
  subst eb
  simp [-Bool.exists_bool, -List.all_eq_true, -List.any_eq_true]
  refine .inl ⟨ss, b, ts.map .inl, rfl, hs, by simp; omega, ?_⟩
  unfold anewR
  rw [if_pos ht.ok, toI_inl]
  exact ⟨rfl, next⟩
theorem law4 (t : LawX T) {n : Nat} {ss : List St} {s3 s4 s11 : Slot} (hs : okSt ss) (hl : ss.length ≤ 20) (hn : n ≤ 2900) (u4 : Pl s4) (next : ∀ n' s4 ts d13, n' ≤ n + 22 → Pl s4 → TsOk ss.length ts → wSs (T.on bodies_law_k79 lam tbl) (tlN 8 LW) wEndL (stB ns P q n' ss s3 s4 (.fz (gO (retime ss ts))) .un .un s11 (.fz (.lst (ts.map .int))) (.fz d13))) :
    wSs (T.on bodies_law_k79 lam tbl) (tlN 4 LW) wEndL (stA ns P q n ss s3 s4 s11) := by
  have c7 := fun (n' : Nat) (s4 : Slot) (ts : List Int) (d13 : D) (h1 : n' ≤ n + 22) (h2 : Pl s4) (h4 : TsOk ss.length ts) => law7 (lam := lam) (tbl := tbl) (ns := ns) (P := P) (q := q) (n := n') (s3 := s3) (s4 := s4) (s11 := s11) (d13 := d13) t hs h4 (next n' s4 ts d13 h1 h2 h4)
  have c6 := fun (n' : Nat) (s4 : Slot) (ts : List Int) (d13 : D) (h1 : n' + 1 ≤ n + 22) (h2 : Pl s4) (h4 : TsOk ss.length ts) => law6 (lam := lam) (tbl := tbl) (ns := ns) (P := P) (q := q) (n := n') (s3 := s3) (s4 := s4) (s11 := s11) (s13 := .fz d13) t hs (by omega) h4 (c7 (n' + 1) s4 ts d13 h1 h2 h4)
  rw [seg4, seg5]
  generalize tlN 6 LW = tl at c6 ⊢
  unfold LW ir_law_k79
  have sz : sizeLine = 16777216 := rfl
  simp [-Bool.exists_bool, -List.all_eq_true, -List.any_eq_true, hdS, tlN, tlS, t.dr, sz]
  refine ⟨3, n, rfl, by omega, by omega, by omega, fun r r0 r1 => ?_⟩
  simp [-Bool.exists_bool, -List.all_eq_true, -List.any_eq_true, sz]
  refine ⟨by omega, by omega, ?_⟩
  refine for_ind (fun i ρ => ∃ s4 ts cur, Pl s4 ∧ i ≤ ss.length ∧ TsOk i ts ∧ (∀ t ∈ ts, t ≤ cur) ∧ 0 ≤ cur ∧ cur ≤ 2 + 5 * i ∧ ρ = stB ns P q (n + 1 + i) ss s3 s4 .un .un .un s11 (.ol (ts.map .int)) (.fz (.int cur))) ⟨s4, [], r, u4, Nat.zero_le _, ⟨rfl, by simp, List.Pairwise.nil⟩, by simp, by omega, by omega, rfl⟩ ?_ ?_
  · rintro i x ρ hx ⟨s4, ts, cur, u4, hi, ht, hc, hc0, hc1, rfl⟩ nxt hn'
    have hi' : i < ss.length := by
      have := (List.getElem?_eq_some_iff.mp hx).1
      simpa [EV.upTo] using this
    have ex : x = .int i := by
      rw [upTo_map, List.getElem?_map, List.getElem?_range (by omega)] at hx
      simpa using (Option.some.inj hx).symm
    subst ex
    have l4 := u4.l
    have lt := ht.l
    unfold B5 LW ir_law_k79
    simp [-Bool.exists_bool, -List.all_eq_true, -List.any_eq_true, hdS, tlN, tlS, frB, l4, t.pk, sz, lt]
    refine ⟨by omega, pick_ints (n := n + 1 + i) (xs := [0, 1, 5]) (by omega) (by simp) (by simp) fun w hw => ?_⟩
    have hw0 : 0 ≤ w ∧ w ≤ 5 := by
      simp at hw
      omega
    simp [-Bool.exists_bool, -List.all_eq_true, -List.any_eq_true]
    refine hn' _ ⟨.fz (.int i), ts ++ [cur], cur + w, Pl.fz, hi', ⟨by simp [lt], fun t ht' => ?_, ?_⟩, fun t ht' => ?_, by omega, by omega, by simp [Nat.add_assoc]⟩
    · rcases List.mem_append.mp ht' with m | m
      · exact ht.b t m
      · simp at m; omega
    · rw [List.pairwise_append]
      exact ⟨ht.p, by simp, fun a ha b hb => by simp at hb; rw [hb]; exact hc a ha⟩
    · rcases List.mem_append.mp ht' with m | m
      · have := hc t m; omega
      · simp at m; omega
  · rintro ρ ⟨s4, ts, cur, u4, hi, ht, hc, hc0, hc1, rfl⟩
    have e : (EV.upTo ss.length 0).length = ss.length := by simp [EV.upTo]
    exact c6 _ s4 ts _ (by omega) u4 (e ▸ ht)
end
end PR
set_option Elab.async false
set_option linter.all false
set_option maxRecDepth 100000
set_option maxHeartbeats 4000000
/-! G20: times that are wrong. -/
namespace PR
open PySem PySem.Spec PyProof.Rows L2 EV
theorem seg8 : tlN 8 LW = .cons (hdS (tlN 8 LW)) (.cons (hdS (tlN 9 LW)) (.cons (hdS (tlN 10 LW)) (tlN 11 LW))) := rfl
theorem seg11 : tlN 11 LW = .cons (hdS (tlN 11 LW)) (tlN 12 LW) := rfl
theorem seg12 : tlN 12 LW = .cons (hdS (tlN 12 LW)) (tlN 13 LW) := rfl
inductive BadT (n : Nat) : D → Prop
  | non : BadT n .non
  | row {xs : List (Int ⊕ Bool)} (h : okTs n xs = false) (hl : xs.length ≤ 30) (hb : ∀ x ∈ xs, (toI x).natAbs ≤ 1000) : BadT n (rowD true xs)
theorem BadT.of {n : Nat} {d : D} {xs : List (Int ⊕ Bool)} (e : d = .lst (xs.map tcD)) (h : okTs n xs = false) (hl : xs.length ≤ 30) (hb : ∀ x ∈ xs, (toI x).natAbs ≤ 1000) : BadT n d := by
  have e' : d = rowD true xs := e
  rw [e']
  exact .row h hl hb
theorem onlyB {P : Addr} {q : Str} {ns : List Int} {n : Nat} {ss : List St} {s3 s4 s5 s6 s7 s11 s12 s13 : Slot} (u3 : Pl s3) (u4 : Pl s4) (u5 : Pl s5) (u6 : Pl s6) (u7 : Pl s7) (u11 : Pl s11) (u12 : Pl s12) (u13 : Pl s13) : tbOnly P q (stB ns P q n ss s3 s4 s5 s6 s7 s11 s12 s13) := by
  refine tbOnly_of fun s hs => ?_
  simp only [stB, List.mem_cons, List.not_mem_nil, or_false] at hs
  rcases hs with h | h | h | h | h | h | h | h | h | h | h | h | h | h | h | h | h | h | h | h | h | h | h | h <;> subst h <;> first | exact .inl rfl | exact .inr rfl | exact .inr u3.t | exact .inr u4.t | exact .inr u5.t | exact .inr u6.t | exact .inr u7.t | exact .inr u11.t | exact .inr u12.t | exact .inr u13.t
theorem BadT.rep {n : Nat} {d : D} (h : BadT n d) : ∃ z, reprD (dRow d) = some z := by
  cases h with
  | non => exact rep_row (c := 1921) (k := 0) RD.non (by omega) (by omega) (by omega)
  | row h hl hb =>
    rename_i xs
    refine rep_row (c := 30 * 1923 + 3) (k := 1) (RD.lst (n := 30) (c := 1921) (k := 0) (fun d hd => ?_) (by simpa using hl)) (by omega) (by omega) (by omega)
    obtain ⟨x, hx, rfl⟩ := List.mem_map.mp hd
    cases x with
    | inl t => exact RD.int (by have : t.natAbs ≤ 1000 := hb _ hx; omega)
    | inr b => exact RD.bl
theorem BadT.anew {d : D} {ss : List St} (h : BadT ss.length d) (hs : okSt ss) {Qd : D → List Slot → Prop} {R : Exc → List Slot → Prop} (r : R (badRow d) [.fz (gO ss), .fz d]) : anewF [.fz (gO ss), .fz d] Qd R := by
  cases h with
  | non => exact .inr (.inl ⟨ss, rfl, hs, r⟩)
  | row h hl hb =>
    refine .inl ⟨ss, true, _, rfl, hs, by omega, ?_⟩
    unfold anewR
    rw [if_neg (by rw [h]; simp)]
    exact r
theorem eqP_row {xs : List Int} : eqD (dRow (.lst (xs.map D.int))) (dRow (.lst (xs.map D.int))) = some true := by
  have e : eqD (dRow (.lst (xs.map D.int))) (dRow (.lst (xs.map D.int))) = eqP (dRow (.lst (xs.map D.int))) (dRow (.lst (xs.map D.int))) := by
    unfold eqD dRow; rfl
  rw [e]
  have e1 : toP (dRow (.lst (xs.map D.int))) = some (.tuple [.str "row", .list (xs.map .int)]) := by simp [dRow, toP, toPs, toPs_ints]
  obtain ⟨h1, h2⟩ := shaped_ints xs
  have e2 : SeqAt.shaped (.tuple [.str "row", .list (xs.map .int)]) = true := by
    have e3 : PyData.strOk "row" = true := by decide +kernel
    simp [SeqAt.shaped, PyData.canLay0, PyData.canLayAll0, PyData.depth, PyData.depthAll, h1, h2, e3]
  unfold eqP
  rw [e1]
  simp only [e2, and_self, if_true]
  simp [PyData.eqv, PyData.eqvAll, eqv_ints]
section
variable {T : Tb} {lam : LamD → Prop} {tbl : Addr → Str → Prop} {P : Addr} {q : Str} {ns : List Int}
theorem law11 (t : LawX T) (ht : tbl P q) {n : Nat} {ss : List St} {s3 s4 s5 s6 s11 s12 s13 : Slot} {bad : D} (hs : okSt ss) (hb : BadT ss.length bad) (u3 : Pl s3) (u4 : Pl s4) (u5 : Pl s5) (u6 : Pl s6) (u11 : Pl s11) (u12 : Pl s12) (u13 : Pl s13)
    (next : wSs (T.on bodies_law_k79 lam tbl) (tlN 12 LW) wEndL (stB ns P q n ss s3 s4 s5 s6 (.fz bad) s11 s12 s13)) : wSs (T.on bodies_law_k79 lam tbl) (tlN 11 LW) wEndL (stB ns P q n ss s3 s4 s5 s6 (.fz bad) s11 s12 s13) := by
  rw [seg11]
  generalize tlN 12 LW = tl at next ⊢
  unfold LW ir_law_k79
  have sz : sizeLine = 16777216 := rfl
  obtain ⟨z, hz⟩ := hb.rep
  simp [-Bool.exists_bool, -List.all_eq_true, -List.any_eq_true, hdS, tlN, tlS]
  refine err_lam t.hd ht rfl ⟨23, rfl⟩ (onlyB u3 u4 u5 u6 Pl.fz u11 u12 u13) ?_
  simp [-Bool.exists_bool, -List.all_eq_true, -List.any_eq_true, t.ta]
  refine hb.anew hs ?_
  have hz' : reprD (.tup [.str "row", bad]) = some z := hz
  simp [-Bool.exists_bool, -List.all_eq_true, -List.any_eq_true, catch_row, hz, sz, hz']
  exact next
theorem law12 (t : LawX T) (ht : tbl P q) {n : Nat} {ss : List St} {s3 s4 s5 s6 s7 s11 s12 s13 : Slot} (hs : okSt ss) (hl : ss.length ≤ 20) (u3 : Pl s3) (u4 : Pl s4) (u5 : Pl s5) (u6 : Pl s6) (u7 : Pl s7) (u11 : Pl s11) (u12 : Pl s12) (u13 : Pl s13)
    (next : wSs (T.on bodies_law_k79 lam tbl) (tlN 13 LW) wEndL (stB ns P q n ss s3 s4 s5 s6 s7 s11 s12 s13)) : wSs (T.on bodies_law_k79 lam tbl) (tlN 12 LW) wEndL (stB ns P q n ss s3 s4 s5 s6 s7 s11 s12 s13) := by
  rw [seg12]
  generalize tlN 13 LW = tl at next ⊢
  unfold LW ir_law_k79
  have sz : sizeLine = 16777216 := rfl
  simp [-Bool.exists_bool, -List.all_eq_true, -List.any_eq_true, hdS, tlN, tlS]
  by_cases h1 : 1 < ss.length
  · simp [-Bool.exists_bool, -List.all_eq_true, -List.any_eq_true, h1, show (1 : Int) < ss.length by omega]
    refine err_lam t.hd ht rfl ⟨23, rfl⟩ (onlyB u3 u4 u5 u6 u7 u11 u12 u13) ?_
    have a1 : -9223372036854775808 ≤ (ss.length : Int) - 1 := by omega
    have a2 : (ss.length : Int) - 1 < 9223372036854775808 := by omega
    have a3 : ss.length ≤ 16777217 := by omega
    have a4 : 1 + (ss.length - 1) ≤ 16777216 := by omega
    obtain ⟨xs, hxs⟩ : ∃ xs : List Int, xs = 5 :: List.replicate (ss.length - 1) 4 := ⟨_, rfl⟩
    have ex : D.int 5 :: List.replicate (ss.length - 1) (D.int 4) = xs.map D.int := by rw [hxs]; simp
    have er : D.lst (xs.map D.int) = rowD true (xs.map .inl) := row_l xs
    have hb : BadT ss.length (rowD true (xs.map .inl)) := by
      refine .row ?_ (by rw [hxs]; simp; omega) (fun x hx => ?_)
      · have ha : ascE xs = false := by
          rw [Bool.eq_false_iff]
          intro z
          simp only [ascE, List.all_eq_true, List.mem_range, decide_eq_true_eq] at z
          have := z 0 (by rw [hxs]; simp; omega)
          rw [hxs, show ss.length - 1 = ss.length - 2 + 1 by omega, List.replicate_succ] at this
          simp at this
        rw [okTs, toI_inl, ha, Bool.and_false]
      · obtain ⟨y, hy, rfl⟩ := List.mem_map.mp hx
        rw [hxs] at hy
        rcases List.mem_cons.mp hy with z | z
        · rw [z]; decide
        · rw [List.eq_of_mem_replicate z]; decide
    have e1 := eqP_row (xs := xs)
    unfold dRow at e1
    simp [-Bool.exists_bool, -List.all_eq_true, -List.any_eq_true, a1, a2, a3, a4, t.ta, sz, ex, er]
    refine hb.anew hs ?_
    rw [er] at e1
    simp [-Bool.exists_bool, -List.all_eq_true, -List.any_eq_true, catch_row, a1, a2, a3, a4, sz, ex, er, dRow, e1]
    exact next
  · simp [-Bool.exists_bool, -List.all_eq_true, -List.any_eq_true, h1, show ¬ (1 : Int) < ss.length by omega]
    exact next
theorem cutD_neg1 {ts : List Int} (h : 1 ≤ ts.length) : EV.cutD (ts.map D.int) none (some (-1)) = (ts.take (ts.length - 1)).map D.int := by
  unfold EV.cutD HT.sIx
  rw [List.map_take]
  simp only [List.drop_zero, Nat.sub_zero, List.length_map]
  rw [if_pos (by omega)]
  rw [List.take_eq_take_iff]
  simp
  omega
theorem law8 (t : LawX T) {n : Nat} {ss : List St} {s3 s4 s5 s11 s13 : Slot} {ts : List Int} (hs : okSt ss) (hl : ss.length ≤ 20) (hn : n ≤ 3000) (ht : TsOk ss.length ts) (u4 : Pl s4)
    (next : ∀ k odd bad, BadT ss.length bad → wSs (T.on bodies_law_k79 lam tbl) (tlN 11 LW) wEndL (stB ns P q (n + 2) ss s3 (.fz (.int k)) s5 (.fz odd) (.fz bad) s11 (.fz (.lst (ts.map .int))) s13)) : wSs (T.on bodies_law_k79 lam tbl) (tlN 8 LW) wEndL (stB ns P q n ss s3 s4 s5 .un .un s11 (.fz (.lst (ts.map .int))) s13) := by
  rw [seg8]
  generalize tlN 11 LW = tl at next ⊢
  unfold LW ir_law_k79
  have sz : sizeLine = 16777216 := rfl
  have l4 := u4.l
  have l1 := hs.1
  simp [-Bool.exists_bool, -List.all_eq_true, -List.any_eq_true, hdS, tlN, tlS, t.dr, sz]
  refine ⟨ss.length, n, rfl, by omega, by omega, by omega, fun r r0 r1 => ?_⟩
  obtain ⟨k, rfl⟩ : ∃ k : Nat, r = k := ⟨r.toNat, by omega⟩
  have c1 := cut_to (f := ts) (k := k)
  have c2 := cut_from (f := ts) (k := k + 1)
  rw [Int.natCast_add, Int.natCast_one] at c2
  have lt := ht.l
  have c3 := cutD_neg1 (ts := ts) (by omega)
  have a1 : (ss.length : Int) < 9223372036854775808 := by omega
  have a2 : ss.length ≤ 16777216 := by omega
  have a3 : min k ss.length + 1 + (ss.length - (k + 1)) ≤ 16777216 := by omega
  have a4 : ss.length ≤ 16777215 := by omega
  have a5 : min k ss.length ≤ 16777215 := by omega
  simp [-Bool.exists_bool, -List.all_eq_true, -List.any_eq_true, l4, c1, c2, c3, t.pk, sz, lt, a1, a2, a3, a4, a5, EV.ownOf]
  refine ⟨_, n + 1, rfl, by omega, by simp, by simp, fun d hd => ?_⟩
  have tb : ∀ t ∈ ts, (toI (.inl t)).natAbs ≤ 1000 := fun t m => by
    have := ht.b t m
    simp only [toI]
    omega
  have hb : BadT ss.length d := by
    simp only [List.mem_cons, List.not_mem_nil, or_false] at hd
    rcases hd with e | e | e | e | e | e
    · refine BadT.of (xs := (ts.take (ss.length - 1)).map .inl) (by rw [e]; simp [List.map_map, Function.comp_def, tcD]) ?_ (by simp; omega) (fun x hx => ?_)
      · have : decide (((ts.take (ss.length - 1)).map (Sum.inl : Int → Int ⊕ Bool)).length = ss.length) = false := by simp; omega
        rw [okTs, this]; rfl
      · obtain ⟨y, hy, rfl⟩ := List.mem_map.mp hx
        exact tb y (List.mem_of_mem_take hy)
    · refine BadT.of (xs := ts.map .inl ++ [.inl 999]) (by rw [e]; simp [List.map_map, Function.comp_def, tcD]) ?_ (by simp; omega) (fun x hx => ?_)
      · have : decide ((ts.map (Sum.inl : Int → Int ⊕ Bool) ++ [Sum.inl 999]).length = ss.length) = false := by simp; omega
        rw [okTs, this]; rfl
      · rcases List.mem_append.mp hx with hx | hx
        · obtain ⟨y, hy, rfl⟩ := List.mem_map.mp hx
          exact tb y hy
        · have : x = .inl 999 := by simpa using hx
          rw [this]; decide
    · refine BadT.of (xs := (ts.take k).map .inl ++ .inr true :: (ts.drop (k + 1)).map .inl) (by rw [e]; simp [List.map_map, Function.comp_def, tcD]) ?_ (by simp; omega) (fun x hx => ?_)
      · have : ((ts.take k).map (Sum.inl : Int → Int ⊕ Bool) ++ Sum.inr true :: (ts.drop (k + 1)).map Sum.inl).all wOk = false := by
          rw [List.all_append, List.all_cons, show wOk (Sum.inr true) = false from rfl, Bool.false_and, Bool.and_false]
        rw [okTs, this, Bool.and_false]; rfl
      · rcases List.mem_append.mp hx with hx | hx
        · obtain ⟨y, hy, rfl⟩ := List.mem_map.mp hx
          exact tb y (List.mem_of_mem_take hy)
        · rcases List.mem_cons.mp hx with hx | hx
          · rw [hx]; decide
          · obtain ⟨y, hy, rfl⟩ := List.mem_map.mp hx
            exact tb y (List.mem_of_mem_drop hy)
    · refine BadT.of (xs := List.replicate ss.length (.inl (-1))) (by rw [e]; simp [tcD]) ?_ (by simp; omega) (fun x hx => ?_)
      · have : (List.replicate ss.length (Sum.inl (-1) : Int ⊕ Bool)).all wOk = false := by
          rw [show ss.length = (ss.length - 1) + 1 by omega, List.replicate_succ, List.all_cons, show wOk (Sum.inl (-1)) = false from by decide, Bool.false_and]
        rw [okTs, this, Bool.and_false]; rfl
      · rw [List.eq_of_mem_replicate hx]; decide
    · refine BadT.of (xs := List.replicate ss.length (.inl 1000)) (by rw [e]; simp [tcD]) ?_ (by simp; omega) (fun x hx => ?_)
      · have : (List.replicate ss.length (Sum.inl 1000 : Int ⊕ Bool)).all wOk = false := by
          rw [show ss.length = (ss.length - 1) + 1 by omega, List.replicate_succ, List.all_cons, show wOk (Sum.inl 1000) = false from by decide, Bool.false_and]
        rw [okTs, this, Bool.and_false]; rfl
      · rw [List.eq_of_mem_replicate hx]; decide
    · rw [e]; exact .non
  exact ⟨rfl, next _ _ d hb⟩
end
end PR
set_option Elab.async false
set_option linter.all false
set_option maxRecDepth 100000
set_option maxHeartbeats 4000000
/-! G21: the law's steps, put in and taken out (the ends of a turn). -/
namespace PR
open PySem PySem.Spec PyProof.Rows L2 EV
def B13 : Ss := frB (hdS (tlN 13 LW))
theorem seg13 : tlN 13 LW = .cons (.fr [3] (.n 3) (.r1 (.lit (.int 4))) B13) (tlN 14 LW) := rfl
theorem segC0 : B13 = .cons (hdS B13) (.cons (hdS (tlN 1 B13)) (.cons (hdS (tlN 2 B13)) (.cons (hdS (tlN 3 B13)) (.cons (hdS (tlN 4 B13)) (.cons (hdS (tlN 5 B13)) (tlN 6 B13)))))) := rfl
theorem segC6 : tlN 6 B13 = .cons (hdS (tlN 6 B13)) (tlN 7 B13) := rfl
theorem segC7 : tlN 7 B13 = .cons (hdS (tlN 7 B13)) (.cons (hdS (tlN 8 B13)) (.cons (hdS (tlN 9 B13)) (tlN 10 B13))) := rfl
abbrev stC (ns : List Int) (P : Addr) (q : Str) (n : Nat) (ss : List St) (s3 s4 s5 s6 s7 s11 s12 s13 s14 s15 s16 s17 s18 : Slot) : En :=
  [.fz (.gl (ns.map .int)), .pn n, .fz (dS ss), s3, s4, s5, s6, s7, .un, .fz (gO ss), .fz (.int ss.length), s11, s12, s13, s14, s15, s16, s17, s18, .un, .un, .un, .un, .tb P q]
theorem onlyC {P : Addr} {q : Str} {ns : List Int} {n : Nat} {ss : List St} {s3 s4 s5 s6 s7 s11 s12 s13 s14 s15 s16 s17 s18 : Slot} (u3 : Pl s3) (u4 : Pl s4) (u5 : Pl s5) (u6 : Pl s6) (u7 : Pl s7) (u11 : Pl s11) (u12 : Pl s12) (u13 : Pl s13) (u14 : Pl s14) (u15 : Pl s15) (u16 : Pl s16) (u17 : Pl s17) (u18 : Pl s18) : tbOnly P q (stC ns P q n ss s3 s4 s5 s6 s7 s11 s12 s13 s14 s15 s16 s17 s18) := by
  refine tbOnly_of fun s hs => ?_
  simp only [stC, List.mem_cons, List.not_mem_nil, or_false] at hs
  rcases hs with h | h | h | h | h | h | h | h | h | h | h | h | h | h | h | h | h | h | h | h | h | h | h | h <;> subst h <;> first | exact .inl rfl | exact .inr rfl | exact .inr u3.t | exact .inr u4.t | exact .inr u5.t | exact .inr u6.t | exact .inr u7.t | exact .inr u11.t | exact .inr u12.t | exact .inr u13.t | exact .inr u14.t | exact .inr u15.t | exact .inr u16.t | exact .inr u17.t | exact .inr u18.t
theorem fbad_lt {P : List (List Int)} {l : Int} {k i : Nat} {cs : List Cand} (h : fbad P l k cs = some i) : i < k + cs.length := by
  induction cs generalizing P l k with
  | nil => cases h
  | cons c cs ih =>
    rcases fbad_cons (prev := P) (last := l) (k := k) (c := c) (r := cs) with ⟨f, t, ec, ho, eb⟩ | ⟨ho, eb⟩
    · rw [eb] at h
      have := ih h
      simp only [List.length_cons]
      omega
    · rw [eb] at h
      cases h
      simp
structure CandOk (c : Cand) : Prop where
  l : fcLen c.1 ≤ 6
  f : ∀ f, c.1 = some f → ∀ x ∈ f, x.natAbs < 2 ^ 100
  t : ∀ t, c.2 = .inl t → t.natAbs < 2 ^ 100
theorem rep_put {ss : List St} {k : Nat} {c : Cand} (hs : okSt ss) (hk : k ≤ ss.length) (hl : ss.length ≤ 20) (hc : CandOk c) : ∃ z, reprD (dC (putC ss k c)) = some z := by
  refine reprD_of (RD.cands (by rw [putC_len hk]; omega) fun d hd => ?_) (by omega) (by omega)
  have old : ∀ s ∈ ss, fcLen (toC s).1 ≤ 6 ∧ (∀ f, (toC s).1 = some f → ∀ x ∈ f, x.natAbs < 2 ^ 100) ∧ ∀ t, (toC s).2 = .inl t → t.natAbs < 2 ^ 100 := fun s hs' => by
    have hf := fbad_mem hs.2.2 s hs'
    have ht := VV_times (valid_iff.mp hs.2.2) (Int.le_refl 0) s hs'
    refine ⟨by have := (okFace_len hf).2; simp [toC, fcLen]; omega, fun f e x hx => ?_, fun t e => ?_⟩
    · have e : s.1 = f := by simpa [toC] using e
      subst e
      have := okFace_small hf x hx
      omega
    · have e : s.2 = t := by simpa [toC] using e
      subst e
      omega
  unfold putC at hd
  rcases List.mem_append.mp hd with m | m
  · obtain ⟨s, m', rfl⟩ := List.mem_map.mp m
    exact old s (List.mem_of_mem_take m')
  · rcases List.mem_cons.mp m with rfl | m
    · exact ⟨hc.l, hc.f, hc.t⟩
    · obtain ⟨s, m', rfl⟩ := List.mem_map.mp m
      exact old s (List.mem_of_mem_drop m')
section
variable {T : Tb} {lam : LamD → Prop} {tbl : Addr → Str → Prop} {P : Addr} {q : Str} {ns : List Int}
theorem lawC10 (t : LawX T) (ht : tbl P q) {Q : WK} {n : Nat} {ss : List St} {kk : Int} {s3 s5 s6 s7 s12 s13 s14 s15 s16 s17 s18 : Slot} {due : D} (hs : okSt ss) (u3 : Pl s3) (u5 : Pl s5) (u6 : Pl s6) (u7 : Pl s7) (u12 : Pl s12) (u13 : Pl s13) (u14 : Pl s14) (u15 : Pl s15) (u16 : Pl s16) (u17 : Pl s17) (u18 : Pl s18)
    (hd : match takB ss kk with
    | some x => due ≠ .non ∧ catchD x handE = some due ∧ ∃ z, reprD due = some z
    | none => due = .non) (next : Q.nx (stC ns P q n ss s3 (.fz (.int kk)) s5 s6 s7 (.fz due) s12 s13 s14 s15 s16 s17 s18)) : wSs (T.on bodies_law_k79 lam tbl) (tlN 10 B13) Q (stC ns P q n ss s3 (.fz (.int kk)) s5 s6 s7 (.fz due) s12 s13 s14 s15 s16 s17 s18) := by
  unfold B13 LW ir_law_k79
  have sz : sizeLine = 16777216 := rfl
  cases he : takB ss kk with
  | none =>
    rw [he] at hd
    subst hd
    obtain ⟨h0, h1, ok⟩ := hs.drop he
    obtain ⟨k, rfl⟩ : ∃ k : Nat, kk = k := ⟨kk.toNat, by omega⟩
    obtain ⟨z, hz⟩ := repr_steps ok
    rw [Int.toNat_natCast] at hz
    have l2 := hs.2.1
    have c1 := cutS_to (ss := ss) (k := k)
    have c2 := cutS_from (ss := ss) (k := k + 1)
    rw [Int.natCast_add, Int.natCast_one] at c2
    have e3 : min k ss.length + (ss.length - (k + 1)) ≤ 16777216 := by omega
    simp [-Bool.exists_bool, -List.all_eq_true, -List.any_eq_true, hdS, tlN, tlS, frB, t.tk]
    refine .inl ⟨ss, k, rfl, hs, ?_⟩
    rw [he]
    have hz' : reprD (.tup ((ss.take k).map encSt ++ (ss.drop (k + 1)).map encSt)) = some z := by
      rw [← List.map_append]; exact hz
    have hz2 : reprD (dS (dropS ss k)) = some z := hz
    simp only [List.map_take, List.map_drop] at hz'
    simp [-Bool.exists_bool, -List.all_eq_true, -List.any_eq_true, gO, t.a, hz2, sz]
    have o1 : ∀ lo hi, o3 (dS ss) lo hi = some (.tup (EV.cutD (ss.map encSt) lo hi)) := fun _ _ => rfl
    simp [-Bool.exists_bool, -List.all_eq_true, -List.any_eq_true, o1, c1, c2, e3, hz', sz]
    exact next
  | some x =>
    rw [he] at hd
    obtain ⟨h1, h2, z, hz⟩ := hd
    have hn : isNon due = false := by cases due <;> first | rfl | exact absurd rfl h1
    simp [-Bool.exists_bool, -List.all_eq_true, -List.any_eq_true, hdS, tlN, tlS, frB, hn]
    refine err_lam t.hd ht rfl ⟨23, rfl⟩ (onlyC u3 Pl.fz u5 u6 u7 Pl.fz u12 u13 u14 u15 u16 u17 u18) ?_
    simp [-Bool.exists_bool, -List.all_eq_true, -List.any_eq_true, t.tk]
    refine .inl ⟨ss, kk, rfl, hs, ?_⟩
    rw [he]
    simp [-Bool.exists_bool, -List.all_eq_true, -List.any_eq_true, h2, hz]
    exact next
theorem lawC6 (t : LawX T) (ht : tbl P q) {Q : WK} {n k : Nat} {ss : List St} {f : Option (List Int)} {tt : Int ⊕ Bool} {s3 s4 s5 s6 s7 s11 s12 s18 : Slot} (hs : okSt ss) (hk : k ≤ ss.length) (hl : ss.length ≤ 20) (hc : CandOk (f, tt)) (u3 : Pl s3) (u4 : Pl s4) (u5 : Pl s5) (u6 : Pl s6) (u7 : Pl s7) (u11 : Pl s11) (u12 : Pl s12) (u18 : Pl s18)
    (next : wSs (T.on bodies_law_k79 lam tbl) (tlN 7 B13) Q (stC ns P q n ss s3 s4 s5 s6 s7 s11 s12 (.fz (tcD tt)) (.fz (fcD f)) (.fz (dC (putC ss k (f, tt)))) (.fz (firstD (putC ss k (f, tt)))) (.fz (.int k)) s18)) :
    wSs (T.on bodies_law_k79 lam tbl) (tlN 6 B13) Q (stC ns P q n ss s3 s4 s5 s6 s7 s11 s12 (.fz (tcD tt)) (.fz (fcD f)) (.fz (dC (putC ss k (f, tt)))) (.fz (firstD (putC ss k (f, tt)))) (.fz (.int k)) s18) := by
  rw [segC6]
  generalize tlN 7 B13 = tl at next ⊢
  unfold B13 LW ir_law_k79
  have sz : sizeLine = 16777216 := rfl
  obtain ⟨z, hz⟩ := rep_put hs hk hl hc
  cases he : firstBad (putC ss k (f, tt)) with
  | none =>
    have hw : firstD (putC ss k (f, tt)) = .non := by unfold firstD; rw [he]
    rw [hw] at next ⊢
    simp [-Bool.exists_bool, -List.all_eq_true, -List.any_eq_true, hdS, tlN, tlS, frB, t.pu]
    refine .inl ⟨ss, k, f, tt, rfl, hs, by omega, by have := hc.l; exact Nat.le_trans this (by omega), by omega, by omega, ?_⟩
    rw [Int.toNat_natCast]
    unfold grR
    rw [he]
    simp [-Bool.exists_bool, -List.all_eq_true, -List.any_eq_true, gObj, t.a, hz]
    exact next
  | some i =>
    have hw : firstD (putC ss k (f, tt)) = .int i := by unfold firstD; rw [he]
    rw [hw] at next ⊢
    obtain ⟨z, hz⟩ := rep_gr (k := .int i) (RD.int (by
      have h1 := fbad_lt he
      rw [putC_len hk] at h1
      omega))
    have hz' : reprD (.tup [.str "growth", .int i]) = some z := hz
    simp [-Bool.exists_bool, -List.all_eq_true, -List.any_eq_true, hdS, tlN, tlS, frB]
    refine err_lam t.hd ht rfl ⟨23, rfl⟩ (onlyC u3 u4 u5 u6 u7 u11 u12 Pl.fz Pl.fz Pl.fz Pl.fz Pl.fz u18) ?_
    simp [-Bool.exists_bool, -List.all_eq_true, -List.any_eq_true, t.pu]
    refine .inl ⟨ss, k, f, tt, rfl, hs, by omega, by have := hc.l; exact Nat.le_trans this (by omega), by omega, by omega, ?_⟩
    rw [Int.toNat_natCast]
    unfold grR
    rw [he]
    simp [-Bool.exists_bool, -List.all_eq_true, -List.any_eq_true, catch_gr, hz, sz, hz']
    exact next
theorem lawC7 (t : LawX T) (ht : tbl P q) {Q : WK} {n : Nat} {ss : List St} {s3 s4 s5 s6 s7 s11 s12 s13 s14 s15 s16 s17 s18 : Slot} (hs : okSt ss) (hl : ss.length ≤ 20) (hn : n ≤ 4000) (u3 : Pl s3) (u4 : Pl s4) (u5 : Pl s5) (u6 : Pl s6) (u7 : Pl s7) (u11 : Pl s11) (u12 : Pl s12) (u13 : Pl s13) (u14 : Pl s14) (u15 : Pl s15) (u16 : Pl s16) (u17 : Pl s17) (u18 : Pl s18)
    (next : ∀ k due, Q.nx (stC ns P q (n + 1) ss s3 (.fz (.int k)) s5 s6 s7 (.fz due) s12 s13 s14 s15 s16 s17 s18)) : wSs (T.on bodies_law_k79 lam tbl) (tlN 7 B13) Q (stC ns P q n ss s3 s4 s5 s6 s7 s11 s12 s13 s14 s15 s16 s17 s18) := by
  rw [segC7]
  generalize htb : tlN 10 B13 = tb
  have tail : ∀ {kk : Int} {due : D}, (match takB ss kk with
    | some x => due ≠ .non ∧ catchD x handE = some due ∧ ∃ z, reprD due = some z
    | none => due = .non) → wSs (T.on bodies_law_k79 lam tbl) tb Q (stC ns P q (n + 1) ss s3 (.fz (.int kk)) s5 s6 s7 (.fz due) s12 s13 s14 s15 s16 s17 s18) := fun {kk due} hd => by
    rw [← htb]
    exact lawC10 t ht hs u3 u5 u6 u7 u12 u13 u14 u15 u16 u17 u18 hd (next kk due)
  unfold B13 LW ir_law_k79
  have sz : sizeLine = 16777216 := rfl
  have l4 := u4.l
  have l11 := u11.l
  have l1 := hs.1
  simp [-Bool.exists_bool, -List.all_eq_true, -List.any_eq_true, hdS, tlN, tlS, frB, t.dr, sz]
  refine ⟨(ss.length : Int) + 2, n, rfl, by omega, by omega, by omega, fun r r0 r1 => ?_⟩
  by_cases c1 : 1 ≤ r
  · by_cases c2 : r - 1 < ss.length
    · obtain ⟨k, ek⟩ : ∃ k : Nat, r = k + 1 := ⟨(r - 1).toNat, by omega⟩
      subst ek
      obtain ⟨n', en', hk', e⟩ := takB_in (ss := ss) (k := k) (by omega) (by omega)
      have en' : k = n' := by omega
      subst en'
      by_cases h1 : ss.length = 1
      · rw [if_pos h1] at e
        simp [-Bool.exists_bool, -List.all_eq_true, -List.any_eq_true, l4, l11, sz, c1, c2, eqD_int, h1, show ((ss.length : Nat) : Int) = 1 by omega]
        rw [if_pos (by omega)]
        have tl := tail (kk := k) (due := dUn "last") (by rw [e]; exact ⟨by simp [dUn], catch_un, rep_un (by decide +kernel)⟩)
        simp [-Bool.exists_bool, -List.all_eq_true, -List.any_eq_true, stC, h1, dUn] at tl
        exact tl
      · rw [if_neg h1] at e
        have f1 := at_st (ss := ss) (k := k) (by omega)
        have c3 := cutS_from (ss := ss) (k := k + 1)
        rw [Int.natCast_add, Int.natCast_one] at c3
        simp [-Bool.exists_bool, -List.all_eq_true, -List.any_eq_true, l4, l11, sz, c1, c2, eqD_int, h1, show ¬ ((ss.length : Nat) : Int) = 1 by omega]
        rw [if_pos hk']
        have o1 : o3 (dS ss) (some ((k : Int) + 1)) none = some (.tup ((ss.drop (k + 1)).map encSt)) := by rw [← c3]; rfl
        have o2' : o2 .item (dS ss) (.int k) = some (encSt ss[k]) := f1
        have g1 := hs.face hk'
        simp [-Bool.exists_bool, -List.all_eq_true, -List.any_eq_true, o1, -List.map_drop]
        refine loop_map (f := fun s => .bl (sideOf ss[k].1 s.1)) trivial (fun s hs' G hG => ?_) ?_
        · have g2 : okFace s.1 = true := fbad_mem hs.2.2 _ (List.mem_of_mem_drop hs')
          have z1 := (okFace_len g1).2
          have z2 := (okFace_len g2).2
          simp [-Bool.exists_bool, -List.all_eq_true, -List.any_eq_true, o2', encSt, t.sd, show ss[k].1.length ≤ 1000 by omega, show s.1.length ≤ 1000 by omega, side_eq g1 g2]
          simpa [encSt] using hG
        · simp [-Bool.exists_bool, -List.all_eq_true, -List.any_eq_true, -List.map_drop]
          by_cases h2 : ((ss.drop (k + 1)).any fun s => sideOf ss[k].1 s.1) = true
          · rw [if_pos h2] at e ⊢
            exact tail (kk := k) (due := dUn "steps") (by rw [e]; exact ⟨by simp [dUn], catch_un, rep_un (by decide +kernel)⟩)
          · rw [if_neg h2] at e ⊢
            exact tail (kk := k) (due := .non) (by rw [e])
    · have e : takB ss (r - 1) = some (badNum stepK (.int (r - 1))) := by unfold takB; rw [if_neg (by omega)]
      simp [-Bool.exists_bool, -List.all_eq_true, -List.any_eq_true, l4, l11, sz, c1, c2, eqD_int]
      exact tail (kk := r - 1) (due := dNum (.int (r - 1))) (by rw [e]; exact ⟨by simp [dNum], catch_num, rep_num (RD.int (by omega))⟩)
  · simp [-Bool.exists_bool, -List.all_eq_true, -List.any_eq_true, l4, l11, sz, c1, eqD_int]
    have e : takB ss (r - 1) = some (badNum stepK (.int (r - 1))) := by unfold takB; rw [if_neg (by omega)]
    exact tail (kk := r - 1) (due := dNum (.int (r - 1))) (by rw [e]; exact ⟨by simp [dNum], catch_num, rep_num (RD.int (by omega))⟩)
end
end PR
set_option Elab.async false
set_option linter.all false
set_option maxRecDepth 100000
set_option maxHeartbeats 4000000
/-! G22: the law's steps, put in and taken out (the turn, the loop). -/
namespace PR
open PySem PySem.Spec PyProof.Rows L2 EV
theorem cutS_to' {ss : List St} {k : Nat} : o3 (dS ss) none (some (k : Int)) = some (.tup ((ss.take k).map encSt)) := by
  show some (D.tup (EV.cutD (ss.map encSt) none (some (k : Int)))) = _
  rw [cutS_to]
theorem cutS_from' {ss : List St} {k : Nat} : o3 (dS ss) (some (k : Int)) none = some (.tup ((ss.drop k).map encSt)) := by
  show some (D.tup (EV.cutD (ss.map encSt) (some (k : Int)) none)) = _
  rw [cutS_from]
section
variable {T : Tb} {lam : LamD → Prop} {tbl : Addr → Str → Prop} {P : Addr} {q : Str} {ns : List Int}
theorem lawC0 (t : LawX T) (ht : tbl P q) {Q : WK} {n : Nat} {ss : List St} {s3 s4 s5 s6 s7 s11 s12 s13 s14 s15 s16 s17 s18 : Slot} (hs : okSt ss) (hl : ss.length ≤ 20) (hn : n ≤ 3900) (u3 : Pl s3) (u4 : Pl s4) (u5 : Pl s5) (u6 : Pl s6) (u7 : Pl s7) (u11 : Pl s11) (u12 : Pl s12) (u13 : Pl s13) (u14 : Pl s14) (u15 : Pl s15) (u16 : Pl s16) (u17 : Pl s17) (u18 : Pl s18)
    (next : ∀ s4 s11 s13 s14 s15 s16 s17 s18, Pl s4 → Pl s11 → Pl s13 → Pl s14 → Pl s15 → Pl s16 → Pl s17 → Pl s18 → Q.nx (stC ns P q (n + 11) ss s3 s4 s5 s6 s7 s11 s12 s13 s14 s15 s16 s17 s18)) : wSs (T.on bodies_law_k79 lam tbl) B13 Q (stC ns P q n ss s3 s4 s5 s6 s7 s11 s12 s13 s14 s15 s16 s17 s18) := by
  rw [segC0]
  generalize htb : tlN 6 B13 = tb
  have tail : ∀ {k : Nat} {f : Option (List Int)} {tt : Int ⊕ Bool} {s18 : Slot}, k ≤ ss.length → CandOk (f, tt) → Pl s18 → wSs (T.on bodies_law_k79 lam tbl) tb Q (stC ns P q (n + 10) ss s3 s4 s5 s6 s7 s11 s12 (.fz (tcD tt)) (.fz (fcD f)) (.fz (dC (putC ss k (f, tt)))) (.fz (firstD (putC ss k (f, tt)))) (.fz (.int k)) s18) := fun {k f tt s18} hk hc u18 => by
    rw [← htb]
    exact lawC6 t ht hs hk hl hc u3 u4 u5 u6 u7 u11 u12 u18 (lawC7 t ht hs hl (by omega) u3 u4 u5 u6 u7 u11 u12 Pl.fz Pl.fz Pl.fz Pl.fz Pl.fz u18 fun k due => next _ _ _ _ _ _ _ _ Pl.fz Pl.fz Pl.fz Pl.fz Pl.fz Pl.fz Pl.fz u18)
  unfold B13 LW ir_law_k79
  have sz : sizeLine = 16777216 := rfl
  have l13 := u13.l
  have l14 := u14.l
  have l15 := u15.l
  have l16 := u16.l
  have l17 := u17.l
  have l18 := u18.l
  have l1 := hs.1
  simp [-Bool.exists_bool, -List.all_eq_true, -List.any_eq_true, hdS, tlN, tlS, frB, t.dr, sz]
  refine ⟨(ss.length : Int) + 1, n, rfl, by omega, by omega, by omega, fun r r0 r1 => ?_⟩
  obtain ⟨k, rfl⟩ : ∃ k : Nat, r = k := ⟨r.toNat, by omega⟩
  have hk : k ≤ ss.length := by omega
  simp [-Bool.exists_bool, -List.all_eq_true, -List.any_eq_true, l17, l18, t.sh, sz]
  have eu : EV.upTo 6 0 = ([0, 1, 2, 3, 4, 5] : List Int).map D.int := by rfl
  have lu : (EV.upTo 6 0).length = 6 := by rfl
  refine ⟨EV.upTo 6 0, n + 1, rfl, by omega, by rw [lu]; omega, fun es he => ?_⟩
  rw [eu] at he
  obtain ⟨zs, rfl, hz⟩ := perm_ints he
  have lz : zs.length = 6 := by rw [hz.length_eq]; rfl
  simp [-Bool.exists_bool, -List.all_eq_true, -List.any_eq_true, lu, l17, l18]
  refine ⟨3, n + 1 + 6, rfl, by omega, by omega, by omega, fun w w0 w1 => ?_⟩
  have c1 : EV.cutD (zs.map D.int) none (some (1 + w)) = (zs.take (1 + w).toNat).map D.int := by
    rw [cutD_to (by omega), List.map_take]
  obtain ⟨ys, y1, y2, y3⟩ := sortD_ints (xs := zs.take (1 + w).toNat) (by rw [sz, List.length_take]; omega)
  have yl : ys.length ≤ 6 := by rw [y2.length_eq, List.length_take]; omega
  have ym : ∀ x ∈ ys, x.natAbs < 2 ^ 100 := fun x hx => by
    have : x ∈ ([0, 1, 2, 3, 4, 5] : List Int) := hz.mem_iff.mp (List.mem_of_mem_take (y2.mem_iff.mp hx))
    simp at this
    omega
  simp [-Bool.exists_bool, -List.all_eq_true, -List.any_eq_true, c1, y1, l14, t.pk, -List.map_take, sz]
  refine ⟨_, n + 1 + 6 + 1, rfl, by omega, by simp, by simp, fun d hd => ?_⟩
  have hf : ∃ f : Option (List Int), d = fcD f ∧ fcLen f ≤ 6 ∧ ∀ g, f = some g → ∀ x ∈ g, x.natAbs < 2 ^ 100 := by
    have sm : ∀ g : List Int, (∀ x ∈ g, 0 ≤ x ∧ x ≤ 12) → ∀ g', some g = some g' → ∀ x ∈ g', x.natAbs < 2 ^ 100 := fun g h g' e x hx => by
      cases e
      have := h x hx
      omega
    simp only [List.mem_cons, List.not_mem_nil, or_false] at hd
    rcases hd with e | e | e | e | e | e | e
    · exact ⟨some ys, e, yl, fun g e => by cases e; exact ym⟩
    · exact ⟨some ys, e, yl, fun g e => by cases e; exact ym⟩
    · exact ⟨some [0, 0], e, by decide, sm _ (by simp)⟩
    · exact ⟨some [12], e, by decide, sm _ (by simp)⟩
    · exact ⟨some [], e, by decide, sm _ (by simp)⟩
    · exact ⟨none, e, by decide, fun g e => by cases e⟩
    · exact ⟨some [0, 1, 2, 3, 4, 5], e, by decide, sm _ (by simp)⟩
  obtain ⟨f, rfl, f1, f2⟩ := hf
  have tm : ∀ s ∈ ss, 0 ≤ s.2 ∧ s.2 ≤ 999 := VV_times (valid_iff.mp hs.2.2) (Int.le_refl 0)
  have i1 : ∃ s ∈ ss, o2 .item (dS ss) (.int (if (ss.length : Int) - 1 < k then (ss.length : Int) - 1 else k)) = some (encSt s) := by
    by_cases hh : (ss.length : Int) - 1 < k
    · rw [if_pos hh, show (ss.length : Int) - 1 = ((ss.length - 1 : Nat) : Int) by omega]
      exact ⟨_, List.getElem_mem (show ss.length - 1 < ss.length by omega), at_st (by omega)⟩
    · rw [if_neg hh]
      exact ⟨_, List.getElem_mem (show k < ss.length by omega), at_st (by omega)⟩
  have i2 : ∃ s ∈ ss, o2 .item (dS ss) (.int (-1)) = some (encSt s) := by
    refine ⟨_, List.getElem_mem (show ss.length - 1 < ss.length by omega), ?_⟩
    show atI (ss.map encSt) (-1) = _
    refine atI_last ?_
    rw [List.length_map, List.getElem?_map, List.getElem?_eq_getElem (show ss.length - 1 < ss.length by omega)]
    rfl
  obtain ⟨sa, ma, i1⟩ := i1
  obtain ⟨sb, mb, i2⟩ := i2
  simp [-Bool.exists_bool, -List.all_eq_true, -List.any_eq_true, i1, i2, encSt, sz]
  refine ⟨_, n + 1 + 6 + 1 + 1, rfl, by omega, by simp, by simp, fun d hd => ?_⟩
  have htt : ∃ tt : Int ⊕ Bool, d = tcD tt ∧ ∀ t, tt = .inl t → t.natAbs < 2 ^ 100 := by
    simp only [List.mem_cons, List.not_mem_nil, or_false] at hd
    rcases hd with e | e | e | e | e
    · exact ⟨.inl sa.2, e, fun t e => by cases e; have := tm sa ma; omega⟩
    · exact ⟨.inl sb.2, e, fun t e => by cases e; have := tm sb mb; omega⟩
    · exact ⟨.inl 0, e, fun t e => by cases e; decide⟩
    · exact ⟨.inl 1000, e, fun t e => by cases e; decide⟩
    · exact ⟨.inr true, e, fun t e => by cases e⟩
  obtain ⟨tt, rfl, f3⟩ := htt
  have co : CandOk (f, tt) := ⟨f1, f2, f3⟩
  have tl := tail (s18 := .fz (.lst (zs.map .int))) hk co Pl.fz
  have ed := dC_put (ss := ss) (k := k) (c := (f, tt))
  have e1 : min k ss.length + 1 ≤ 16777216 := by omega
  have e2 : min k ss.length + 1 + (ss.length - k) ≤ 16777216 := by omega
  simp [-Bool.exists_bool, -List.all_eq_true, -List.any_eq_true, l13, l15, cutS_to', cutS_from', e1, e2, sz]
  simp only [encC, List.map_take, List.map_drop] at ed
  rw [← ed]
  simp [-Bool.exists_bool, -List.all_eq_true, -List.any_eq_true, t.fw, l16]
  refine ⟨putC ss k (f, tt), rfl, by rw [putC_len hk]; omega, (putC_ok hs hk (by omega) (Nat.le_trans f1 (by omega))).2.2, ?_⟩
  simp [-Bool.exists_bool, -List.all_eq_true, -List.any_eq_true, l16]
  exact tl
theorem law13 (t : LawX T) (ht : tbl P q) {n : Nat} {ss : List St} {s3 s4 s5 s6 s7 s11 s12 s13 : Slot} (hs : okSt ss) (hl : ss.length ≤ 20) (hn : n ≤ 3000) (u3 : Pl s3) (u4 : Pl s4) (u5 : Pl s5) (u6 : Pl s6) (u7 : Pl s7) (u11 : Pl s11) (u12 : Pl s12) (u13 : Pl s13)
    (next : ∀ n' s3 s4 s11 s13 s14 s15 s16 s17 s18, Pl s3 → Pl s4 → Pl s11 → Pl s13 → Pl s14 → Pl s15 → Pl s16 → Pl s17 → Pl s18 → wSs (T.on bodies_law_k79 lam tbl) (tlN 14 LW) wEndL (stC ns P q n' ss s3 s4 s5 s6 s7 s11 s12 s13 s14 s15 s16 s17 s18)) :
    wSs (T.on bodies_law_k79 lam tbl) (tlN 13 LW) wEndL (stB ns P q n ss s3 s4 s5 s6 s7 s11 s12 s13) := by
  rw [seg13]
  generalize tlN 14 LW = tl at next ⊢
  have sz : sizeLine = 16777216 := rfl
  simp [-Bool.exists_bool, -List.all_eq_true, -List.any_eq_true, sz]
  refine for_ind (fun i ρ => ∃ s3 s4 s11 s13 s14 s15 s16 s17 s18, Pl s3 ∧ Pl s4 ∧ Pl s11 ∧ Pl s13 ∧ Pl s14 ∧ Pl s15 ∧ Pl s16 ∧ Pl s17 ∧ Pl s18 ∧ i ≤ 4 ∧ ρ = stC ns P q (n + 11 * i) ss s3 s4 s5 s6 s7 s11 s12 s13 s14 s15 s16 s17 s18) ⟨s3, s4, s11, s13, .un, .un, .un, .un, .un, u3, u4, u11, u13, .un, .un, .un, .un, .un, by omega, rfl⟩ ?_ ?_
  · rintro i x ρ hx ⟨s3, s4, s11, s13, s14, s15, s16, s17, s18, u3, u4, u11, u13, u14, u15, u16, u17, u18, hi, rfl⟩ nxt hn'
    have hi' : i < 4 := by
      have := (List.getElem?_eq_some_iff.mp hx).1
      simpa [EV.upTo] using this
    have l3 := u3.l
    have ex : x = .int i := by
      rw [upTo_map, List.getElem?_map, List.getElem?_range hi'] at hx
      simpa using (Option.some.inj hx).symm
    subst ex
    simp [-Bool.exists_bool, -List.all_eq_true, -List.any_eq_true, l3]
    have := lawC0 (lam := lam) (ns := ns) (P := P) (q := q) (n := n + 11 * i) (s3 := .fz (.int i)) (Q := { nx := nxt, rt := wEndL.rt, R := wEndL.R, br := fun ρ1 => wSs (T.on bodies_law_k79 lam tbl) tl wEndL ρ1, ct := nxt, rf := wEndL.rf }) t ht hs hl (by omega) Pl.fz u4 u5 u6 u7 u11 u12 u13 u14 u15 u16 u17 u18 (fun s4 s11 s13 s14 s15 s16 s17 s18 v4 v11 v13 v14 v15 v16 v17 v18 => hn' _ ⟨_, _, _, _, _, _, _, _, _, Pl.fz, v4, v11, v13, v14, v15, v16, v17, v18, by omega, rfl⟩)
    exact this
  · rintro ρ ⟨s3, s4, s11, s13, s14, s15, s16, s17, s18, u3, u4, u11, u13, u14, u15, u16, u17, u18, hi, rfl⟩
    exact next _ s3 s4 s11 s13 s14 s15 s16 s17 s18 u3 u4 u11 u13 u14 u15 u16 u17 u18
end
end PR
set_option Elab.async false
set_option linter.all false
set_option maxRecDepth 100000
set_option maxHeartbeats 400000
/-! G23: the law's last tries. -/
namespace PR
open PySem PySem.Spec PyProof.Rows L2 EV
abbrev stD (ns : List Int) (P : Addr) (q : Str) (n : Nat) (ss : List St) (s3 s4 s5 s6 s7 s8 s11 s12 s13 s14 s15 s16 s17 s18 s19 : Slot) : En :=
  [.fz (.gl (ns.map .int)), .pn n, .fz (dS ss), s3, s4, s5, s6, s7, s8, .fz (gO ss), .fz (.int ss.length), s11, s12, s13, s14, s15, s16, s17, s18, s19, .un, .un, .un, .tb P q]
theorem seg14 : tlN 14 LW = .cons (hdS (tlN 14 LW)) (tlN 15 LW) := rfl
theorem seg15 : tlN 15 LW = .cons (hdS (tlN 15 LW)) (tlN 16 LW) := rfl
theorem seg16 : tlN 16 LW = .cons (hdS (tlN 16 LW)) (tlN 17 LW) := rfl
theorem seg17 : tlN 17 LW = .cons (hdS (tlN 17 LW)) (tlN 18 LW) := rfl
theorem seg18 : tlN 18 LW = .cons (hdS (tlN 18 LW)) (tlN 19 LW) := rfl
theorem seg19 : tlN 19 LW = .cons (hdS (tlN 19 LW)) (tlN 20 LW) := rfl
structure PlD (s3 s4 s5 s6 s7 s11 s12 s13 s14 s15 s16 s17 s18 : Slot) : Prop where
  u3 : Pl s3
  u4 : Pl s4
  u5 : Pl s5
  u6 : Pl s6
  u7 : Pl s7
  u11 : Pl s11
  u12 : Pl s12
  u13 : Pl s13
  u14 : Pl s14
  u15 : Pl s15
  u16 : Pl s16
  u17 : Pl s17
  u18 : Pl s18
theorem onlyD {P : Addr} {q : Str} {ns : List Int} {n : Nat} {ss : List St} {s3 s4 s5 s6 s7 s8 s11 s12 s13 s14 s15 s16 s17 s18 s19 : Slot} (u : PlD s3 s4 s5 s6 s7 s11 s12 s13 s14 s15 s16 s17 s18) (u8 : Pl s8) (u19 : Pl s19) : tbOnly P q (stD ns P q n ss s3 s4 s5 s6 s7 s8 s11 s12 s13 s14 s15 s16 s17 s18 s19) := by
  obtain ⟨u3, u4, u5, u6, u7, u11, u12, u13, u14, u15, u16, u17, u18⟩ := u
  refine tbOnly_of fun s hs => ?_
  simp only [stD, List.mem_cons, List.not_mem_nil, or_false] at hs
  rcases hs with h | h | h | h | h | h | h | h | h | h | h | h | h | h | h | h | h | h | h | h | h | h | h | h <;> subst h <;> first | exact .inl rfl | exact .inr rfl | exact .inr u3.t | exact .inr u4.t | exact .inr u5.t | exact .inr u6.t | exact .inr u7.t | exact .inr u8.t | exact .inr u11.t | exact .inr u12.t | exact .inr u13.t | exact .inr u14.t | exact .inr u15.t | exact .inr u16.t | exact .inr u17.t | exact .inr u18.t | exact .inr u19.t
theorem Pl.ol {ds : List D} : Pl (.ol ds) := ⟨rfl, rfl⟩
theorem lam_mk {T : Tb} {bodies : Nat → E} {lam : LamD → Prop} {tbl : Addr → Str → Prop} {n : Nat} {e : E} {P : Addr} {q : Str} {Q : D → En → Prop} {R : Exc → En → Prop} {ρ : En} (ht : tbl P q) (hb : bodies n = e) (hj : ∃ j, ρ.at j = .tb P q) (ho : tbOnly P q ρ)
    (h : ∀ l, lam l → l.n = n → Q (.fn l) ρ) : wLam (T.on bodies lam tbl) n e Q R ρ := by
  obtain ⟨j, ej⟩ := hj
  exact ⟨rfl, hb, ⟨j, P, q, ej, ht, ho⟩, h⟩
section
variable {T : Tb} {lam : LamD → Prop} {tbl : Addr → Str → Prop} {P : Addr} {q : Str} {ns : List Int}
theorem law14 (t : LawX T) (ht : tbl P q) {n : Nat} {ss : List St} {s3 s4 s5 s6 s7 s11 s12 s13 s14 s15 s16 s17 s18 : Slot} (u : PlD s3 s4 s5 s6 s7 s11 s12 s13 s14 s15 s16 s17 s18)
    (next : ∀ l5 l4 l3 l2 l1 l0 : LamD, lam l5 → l5.n = 5 → lam l4 → l4.n = 4 → lam l3 → l3.n = 3 → lam l2 → l2.n = 2 → lam l1 → l1.n = 1 → lam l0 → l0.n = 0 → wSs (T.on bodies_law_k79 lam tbl) (tlN 20 LW) wEndL
      (stD ns P q n ss s3 s4 s5 s6 s7 (.ol [.tup [.fn l5, dUn "growth"], .tup [.fn l4, dUn "growth"], .tup [.fn l3, dUn "growth"], .tup [.fn l2, dUn "growth"], .tup [.fn l1, dNum (.int ((ss.length : Int) + 1))], .tup [.fn l0, dNum (.bl true)]]) s11 s12 s13 s14 s15 s16 s17 s18 .un)) :
    wSs (T.on bodies_law_k79 lam tbl) (tlN 14 LW) wEndL (stD ns P q n ss s3 s4 s5 s6 s7 .un s11 s12 s13 s14 s15 s16 s17 s18 .un) := by
  have sz : sizeLine = 16777216 := rfl
  rw [seg14]
  generalize h15 : tlN 15 LW = t15
  unfold LW ir_law_k79
  simp [-Bool.exists_bool, -List.all_eq_true, -List.any_eq_true, hdS, tlN, tlS, EV.ownOf]
  refine lam_mk ht rfl ⟨23, rfl⟩ (onlyD u Pl.un Pl.un) fun l5 m5 n5 => ?_
  simp [-Bool.exists_bool, -List.all_eq_true, -List.any_eq_true, sz]
  rw [← h15, seg15]
  generalize h16 : tlN 16 LW = t16
  unfold LW ir_law_k79
  simp [-Bool.exists_bool, -List.all_eq_true, -List.any_eq_true, hdS, tlN, tlS]
  refine lam_mk ht rfl ⟨23, rfl⟩ (onlyD u Pl.ol Pl.un) fun l4 m4 n4 => ?_
  simp [-Bool.exists_bool, -List.all_eq_true, -List.any_eq_true, sz]
  rw [← h16, seg16]
  generalize h17 : tlN 17 LW = t17
  unfold LW ir_law_k79
  simp [-Bool.exists_bool, -List.all_eq_true, -List.any_eq_true, hdS, tlN, tlS]
  refine lam_mk ht rfl ⟨23, rfl⟩ (onlyD u Pl.ol Pl.un) fun l3 m3 n3 => ?_
  simp [-Bool.exists_bool, -List.all_eq_true, -List.any_eq_true, sz]
  rw [← h17, seg17]
  generalize h18 : tlN 18 LW = t18
  unfold LW ir_law_k79
  simp [-Bool.exists_bool, -List.all_eq_true, -List.any_eq_true, hdS, tlN, tlS]
  refine lam_mk ht rfl ⟨23, rfl⟩ (onlyD u Pl.ol Pl.un) fun l2 m2 n2 => ?_
  simp [-Bool.exists_bool, -List.all_eq_true, -List.any_eq_true, sz]
  rw [← h18, seg18]
  generalize h19 : tlN 19 LW = t19
  unfold LW ir_law_k79
  simp [-Bool.exists_bool, -List.all_eq_true, -List.any_eq_true, hdS, tlN, tlS]
  refine lam_mk ht rfl ⟨23, rfl⟩ (onlyD u Pl.ol Pl.un) fun l1 m1 n1 => ?_
  simp [-Bool.exists_bool, -List.all_eq_true, -List.any_eq_true, sz]
  rw [← h19, seg19]
  generalize h20 : tlN 20 LW = t20
  unfold LW ir_law_k79
  simp [-Bool.exists_bool, -List.all_eq_true, -List.any_eq_true, hdS, tlN, tlS]
  refine lam_mk ht rfl ⟨23, rfl⟩ (onlyD u Pl.ol Pl.un) fun l0 m0 n0 => ?_
  simp [-Bool.exists_bool, -List.all_eq_true, -List.any_eq_true, sz]
  rw [← h20]
  exact next l5 l4 l3 l2 l1 l0 m5 n5 m4 n4 m3 n3 m2 n2 m1 n1 m0 n0
theorem try_one {bodies : Nat → E} {hs : List (Str × List HF)} {u v : Nat} {lk : En → Prop} {Q : En → Prop} {xs : List D} {l : LamD} {due : D} {ρ : En} {c : Exc} (hl : lam l) (hlk : lk ρ) (hf : lentFree ρ [u, v]) (hc : catchD c hs = some due) (hr : ∃ z, reprD due = some z)
    (hg : lentFree ((ρ.set u (.fz (.fn l))).set v (.fz due)) [u, v]) (run : ∀ (K : D → En → Prop) (R' : Exc → En → Prop), R' c ((ρ.set u (.fz (.fn l))).set v (.fz due)) → wE T.bare (bodies l.n) K R' ((ρ.set u (.fz (.fn l))).set v (.fz due)))
    (next : wTryL (T.on bodies lam tbl) hs u v lk Q xs (wipeE ((ρ.set u (.fz (.fn l))).set v (.fz due)) [u, v])) : wTryL (T.on bodies lam tbl) hs u v lk Q (.tup [.fn l, due] :: xs) ρ := by
  obtain ⟨z, hz⟩ := hr
  exact ⟨hlk, hf, l, due, rfl, hl, run _ _ ⟨due, hc, z, hz, hz, hg, next⟩⟩
theorem law20 (t : LawX T) {n : Nat} {ss : List St} {s3 s4 s5 s6 s7 s11 s12 s13 s14 s15 s16 s17 s18 : Slot} (hs : okSt ss) (hl : ss.length ≤ 20) (u : PlD s3 s4 s5 s6 s7 s11 s12 s13 s14 s15 s16 s17 s18) {l5 l4 l3 l2 l1 l0 : LamD} (m5 : lam l5) (n5 : l5.n = 5) (m4 : lam l4) (n4 : l4.n = 4) (m3 : lam l3) (n3 : l3.n = 3) (m2 : lam l2) (n2 : l2.n = 2) (m1 : lam l1) (n1 : l1.n = 1) (m0 : lam l0) (n0 : l0.n = 0) :
    wSs (T.on bodies_law_k79 lam tbl) (tlN 20 LW) wEndL
      (stD ns P q n ss s3 s4 s5 s6 s7 (.ol [.tup [.fn l5, dUn "growth"], .tup [.fn l4, dUn "growth"], .tup [.fn l3, dUn "growth"], .tup [.fn l2, dUn "growth"], .tup [.fn l1, dNum (.int ((ss.length : Int) + 1))], .tup [.fn l0, dNum (.bl true)]]) s11 s12 s13 s14 s15 s16 s17 s18 .un) := by
  unfold LW ir_law_k79
  have l11 := u.u11.l
  obtain ⟨z, hz⟩ := repr_steps hs
  simp [-Bool.exists_bool, -List.all_eq_true, -List.any_eq_true, hdS, tlN, tlS, gO, t.a, hz]
  refine ⟨rfl, handE, _, t.hd, rfl, ?_, ?_⟩
  · simp [-Bool.exists_bool, -List.all_eq_true, -List.any_eq_true, l11]
  have rg : ∃ z, reprD (dUn "growth") = some z := rep_un (by decide +kernel)
  have r1 : ∃ z, reprD (dNum (.int ((ss.length : Int) + 1))) = some z := rep_num (RD.int (by omega))
  have r2 : ∃ z, reprD (dNum (.bl true)) = some z := rep_num RD.bl
  simp [-Bool.exists_bool, -List.all_eq_true, -List.any_eq_true, l11]
  refine try_one (c := unlike "growth") m5 (by simp [lkOf_inr, l11]) (by simp) catch_un rg (by simp) (fun K R' hR => ?_) ?_
  · rw [n5]
    unfold bodies_law_k79
    simp [-Bool.exists_bool, -List.all_eq_true, -List.any_eq_true, t.ex]
    refine .inr ⟨dS ss, _, rfl, rfl, ?_⟩
    exact hR
  simp [-Bool.exists_bool, -List.all_eq_true, -List.any_eq_true, l11]
  refine try_one (c := unlike "growth") m4 (by simp [lkOf_inr, l11]) (by simp) catch_un rg (by simp) (fun K R' hR => ?_) ?_
  · rw [n4]
    unfold bodies_law_k79
    simp [-Bool.exists_bool, -List.all_eq_true, -List.any_eq_true, t.ta]
    refine .inr (.inr ⟨.non, _, rfl, rfl, ?_⟩)
    exact hR
  simp [-Bool.exists_bool, -List.all_eq_true, -List.any_eq_true, l11]
  refine try_one (c := unlike "growth") m3 (by simp [lkOf_inr, l11]) (by simp) catch_un rg (by simp) (fun K R' hR => ?_) ?_
  · rw [n3]
    unfold bodies_law_k79
    simp [-Bool.exists_bool, -List.all_eq_true, -List.any_eq_true, t.pu, show (1 : Nat) ≤ sizeLine from by decide]
    refine .inr (.inr ⟨.int 5, _, _, _, rfl, rfl, ?_⟩)
    exact hR
  simp [-Bool.exists_bool, -List.all_eq_true, -List.any_eq_true, l11]
  refine try_one (c := unlike "growth") m2 (by simp [lkOf_inr, l11]) (by simp) catch_un rg (by simp) (fun K R' hR => ?_) ?_
  · rw [n2]
    unfold bodies_law_k79
    simp [-Bool.exists_bool, -List.all_eq_true, -List.any_eq_true, t.tk]
    refine .inr ⟨.str "growth", _, rfl, rfl, ?_⟩
    exact hR
  simp [-Bool.exists_bool, -List.all_eq_true, -List.any_eq_true, l11]
  refine try_one (c := badNum stepK (.int ((ss.length : Int) + 1))) m1 (by simp [lkOf_inr, l11]) (by simp) catch_num r1 (by simp) (fun K R' hR => ?_) ?_
  · rw [n1]
    unfold bodies_law_k79
    simp [-Bool.exists_bool, -List.all_eq_true, -List.any_eq_true, t.pu]
    refine .inr (.inl ⟨ss, _, _, _, rfl, hs, by omega, ?_⟩)
    exact hR
  simp [-Bool.exists_bool, -List.all_eq_true, -List.any_eq_true, l11]
  refine try_one (c := badNum stepK (.bl true)) m0 (by simp [lkOf_inr, l11]) (by simp) catch_num r2 (by simp) (fun K R' hR => ?_) ?_
  · rw [n0]
    unfold bodies_law_k79
    simp [-Bool.exists_bool, -List.all_eq_true, -List.any_eq_true, t.ex]
    refine .inl ⟨ss, .bl true, rfl, hs, rfl, ?_⟩
    exact hR
  refine ⟨by simp [lkOf_inr, l11], _, rfl, rfl⟩
end
end PR
set_option Elab.async false
set_option linter.all false
set_option maxRecDepth 100000
set_option maxHeartbeats 1000000
/-! G24: the law, joined. -/
namespace PR
open PySem PySem.Spec PyProof.Rows L2 EV
theorem law_all {T : Tb} (t : LawX T) {lam : LamD → Prop} {tbl : Addr → Str → Prop} {P : Addr} {q : Str} {ns : List Int} (ht : tbl P q) (hn : ns.length ≤ 63) : wSs (T.on bodies_law_k79 lam tbl) LW wEndL (lawIn 24 23 ns P q) := by
  refine law0 t ht hn fun n ss hn1 hs hl => ?_
  refine law3 t ht hn1 hs hl fun n2 s3 s4 s11 hn2 u3 u4 u11 => ?_
  refine law4 t hs hl (by omega) u4 fun n3 s4 ts d13 hn3 u4 hts => ?_
  refine law8 t hs hl (by omega) hts u4 fun k odd bad hb => ?_
  refine law11 t ht hs hb u3 Pl.fz Pl.fz Pl.fz u11 Pl.fz Pl.fz ?_
  refine law12 t ht hs hl u3 Pl.fz Pl.fz Pl.fz Pl.fz u11 Pl.fz Pl.fz ?_
  refine law13 t ht hs hl (by omega) u3 Pl.fz Pl.fz Pl.fz Pl.fz u11 Pl.fz Pl.fz fun n5 s3 s4 s11 s13 s14 s15 s16 s17 s18 u3 u4 u11 u13 u14 u15 u16 u17 u18 => ?_
  exact law14 t ht ⟨u3, u4, Pl.fz, Pl.fz, Pl.fz, u11, Pl.fz, u13, u14, u15, u16, u17, u18⟩ fun l5 l4 l3 l2 l1 l0 m5 n5 m4 n4 m3 n3 m2 n2 m1 n1 m0 n0 => law20 t hs hl ⟨u3, u4, Pl.fz, Pl.fz, Pl.fz, u11, Pl.fz, u13, u14, u15, u16, u17, u18⟩ m5 n5 m4 n4 m3 n3 m2 n2 m1 n1 m0 n0
end PR
set_option Elab.async false
set_option linter.all false
set_option maxRecDepth 100000
set_option maxHeartbeats 1000000
/-! G25: each def's promise, from its meaning. -/
namespace PR
open PySem PySem.Spec PyProof.Rows L2 EV
def HFn (T : Tb) (F0 : FS) (n m : Nat) (ss : Ss) : Prop := ∀ sl Qd R, F0 sl Qd R → sl.length = n ∧ sl.all (fun s => !s.isTb) = true ∧ wSs T ss (wEnd n Qd R) (wIn m sl)
section
variable {T : Tb}
theorem hF_is_whole : HFn T (P1 whole) 1 1 ir_is_whole := by
  rintro sl Qd R ⟨a, rfl, r, hr, hq⟩
  refine ⟨rfl, rfl, ?_⟩
  unfold whole at hr
  split at hr
  · rename_i h; cases hr; exact m_is_whole (Q := wEnd 1 Qd R) h hq
  · cases hr
theorem hF_law_is_int : HFn T (P1 whole) 1 1 ir__law_is_int := by
  rintro sl Qd R ⟨a, rfl, r, hr, hq⟩
  refine ⟨rfl, rfl, ?_⟩
  unfold whole at hr
  split at hr
  · rename_i h; cases hr; exact m_law_is_int (Q := wEnd 1 Qd R) h hq
  · cases hr
theorem hF_is_row : HFn T (P1 rowF) 1 1 ir_is_row := by
  rintro sl Qd R ⟨a, rfl, r, hr, hq⟩
  refine ⟨rfl, rfl, ?_⟩
  unfold rowF at hr
  split at hr
  · rename_i h; cases hr; exact m_is_row (Q := wEnd 1 Qd R) h hq
  · cases hr
theorem hF_in_tuples0 (h1 : T.Γ "is_row" = some (P1 rowF)) : HFn T (P1 (inT 0)) 1 2 ir_in_tuples := by
  rintro sl Qd R ⟨a, rfl, r, hr, hq⟩
  refine ⟨rfl, rfl, ?_⟩
  unfold inT at hr
  split at hr
  · rename_i h; cases hr
    refine m_in_tuples0 (Q := wEnd 1 Qd R) h1 h ?_
    have e : tupz 0 a = a := by cases a <;> rfl
    rw [e] at hq
    exact hq
  · cases hr
theorem hF_in_tuples {n : Nat} (h1 : T.Γ "is_row" = some (P1 rowF)) (h2 : T.Γ "in_tuples" = some (P1 (inT n))) : HFn T (P1 (inT (n + 1))) 1 2 ir_in_tuples := by
  rintro sl Qd R ⟨a, rfl, r, hr, hq⟩
  refine ⟨rfl, rfl, ?_⟩
  unfold inT at hr
  split at hr
  · rename_i h; cases hr; exact m_in_tuples (Q := wEnd 1 Qd R) h1 h2 h hq
  · cases hr
theorem hF_need_between (hw : T.Γ "is_whole" = some (P1 whole)) (hx : T.exc "BadNumber" = some [("what" : Str), "number"]) : HFn T (P4 needF) 4 4 ir_need_between := by
  rintro sl Qd R ⟨a, b, c, d, rfl, r, hr, hq⟩
  refine ⟨rfl, rfl, ?_⟩
  unfold needF at hr
  split at hr
  · rename_i hi
    split at hr
    · rename_i h
      cases hr
      refine m_need_between (Q := wEnd 4 Qd R) hw hx h (fun z => ?_) (fun z => ?_)
      · rw [z] at hq; exact hq
      · rw [z] at hq; exact hq
    · cases hr
  · cases hr
theorem asInts_dF {ds : List D} {f : List Int} (h : asInts ds = some f) : ds = f.map D.int := by
  induction ds generalizing f with
  | nil => cases h; rfl
  | cons d ds ih =>
    cases d <;> simp [asInts] at h
    obtain ⟨g, hg, rfl⟩ := h
    rw [ih hg]
    rfl
theorem hF_is_face (t : FaceT T) : HFn T (P1 (faceF 1000)) 1 3 ir_is_face := by
  rintro sl Qd R ⟨a, rfl, r, hr, hq⟩
  refine ⟨rfl, rfl, ?_⟩
  cases a with
  | non => cases hr; exact m_is_face_non (Q := wEnd 1 Qd R) t hq
  | tup ds =>
    obtain ⟨f, hf, hr1⟩ := Option.bind_eq_some_iff.mp hr
    have e := asInts_dF hf
    subst e
    split at hr1
    · rename_i h; cases hr1; exact m_is_face (Q := wEnd 1 Qd R) t h hq
    · cases hr1
  | _ => cases hr
theorem hF_sides_of : HFn T (P1 (sidesF 1000)) 1 2 ir_sides_of := by
  rintro sl Qd R ⟨a, rfl, r, hr, hq⟩
  refine ⟨rfl, rfl, ?_⟩
  cases a with
  | tup ds =>
    obtain ⟨f, hf, hr1⟩ := Option.bind_eq_some_iff.mp hr
    have e := asInts_dF hf
    subst e
    split at hr1
    · rename_i h; cases hr1; exact m_sides_of (Q := wEnd 1 Qd R) h hq
    · cases hr1
  | _ => cases hr
theorem hF_is_step (t : StepT T) : HFn T stepF 3 5 ir_is_step := by
  rintro sl Qd R ⟨c, prev, last, rfl, h, hq⟩
  exact ⟨rfl, rfl, m_is_step (Q := wEnd 3 Qd R) t h hq⟩
theorem hF_sides (t : SideT T) : HFn T (P1 sidesV) 1 2 ir_sides := by
  rintro sl Qd R ⟨a, rfl, r, hr, hq⟩
  refine ⟨rfl, rfl, ?_⟩
  cases a with
  | tup ds =>
    obtain ⟨f, hf, hr1⟩ := Option.bind_eq_some_iff.mp hr
    have e := asInts_dF hf
    subst e
    split at hr1
    · rename_i h; cases hr1; exact m_sides (Q := wEnd 1 Qd R) t h hq
    · cases hr1
  | _ => cases hr
theorem hF_is_side (hs : T.Γ "sides" = some (P1 sidesV)) : HFn T (P2 isSideV) 2 4 ir_is_side := by
  rintro sl Qd R ⟨a, b, rfl, r, hr, hq⟩
  refine ⟨rfl, rfl, ?_⟩
  unfold isSideV at hr
  split at hr
  · obtain ⟨f, hf, hr1⟩ := Option.bind_eq_some_iff.mp hr
    obtain ⟨g, hg, hr2⟩ := Option.bind_eq_some_iff.mp hr1
    have e1 := asInts_dF hf
    have e2 := asInts_dF hg
    subst e1 e2
    split at hr2
    · rename_i h; cases hr2; exact m_is_side (Q := wEnd 2 Qd R) hs h hq
    · cases hr2
  · cases hr
theorem hF_law_is_side : HFn T (P2 lawSideV) 2 3 ir__law_is_side := by
  rintro sl Qd R ⟨a, b, rfl, r, hr, hq⟩
  refine ⟨rfl, rfl, ?_⟩
  unfold lawSideV at hr
  split at hr
  · obtain ⟨f, hf, hr1⟩ := Option.bind_eq_some_iff.mp hr
    obtain ⟨g, hg, hr2⟩ := Option.bind_eq_some_iff.mp hr1
    have e1 := asInts_dF hf
    have e2 := asInts_dF hg
    subst e1 e2
    split at hr2
    · rename_i h; cases hr2; exact m_law_is_side (Q := wEnd 2 Qd R) h hq
    · cases hr2
  · cases hr
theorem hF_law_sides : HFn T (P1 lawSidesV) 1 2 ir__law_sides := by
  rintro sl Qd R ⟨a, rfl, r, hr, hq⟩
  refine ⟨rfl, rfl, ?_⟩
  cases a with
  | tup ds =>
    obtain ⟨f, hf, hr1⟩ := Option.bind_eq_some_iff.mp hr
    have e := asInts_dF hf
    subst e
    split at hr1
    · rename_i h; cases hr1; exact m_law_sides (Q := wEnd 1 Qd R) h hq
    · cases hr1
  | _ => cases hr
theorem hF_law_turned : HFn T turnF 2 4 ir__law_turned := by
  rintro sl Qd R ⟨ss, k, rfl, hk, hz, hq⟩
  exact ⟨rfl, rfl, m_law_turned (Q := wEnd 2 Qd R) hk hz fun _ => hq⟩
theorem hF_law_first (t : LawT T) : HFn T firstF 1 11 ir__law_first_wrong := by
  rintro sl Qd R ⟨cs, rfl, h1, h2, hq⟩
  exact ⟨rfl, rfl, m_law_first (Q := wEnd 1 Qd R) t h1 h2 fun _ => hq⟩
theorem hF_need_exchange (t : ChX0 T) : HFn T needExF 2 2 ir_need_exchange := by
  rintro sl Qd R ⟨ss, kd, rfl, hs, hk, hq⟩
  refine ⟨rfl, rfl, m_need_exchange (Q := wEnd 2 Qd R) t hs hk (fun e => ?_) (fun x e => ?_)⟩
  · rw [e] at hq; exact hq
  · rw [e] at hq; exact hq
theorem hF_exchanged_at (t : ChX0 T) : HFn T exAtF 2 6 ir_exchanged_at := by
  rintro sl Qd R ⟨ss, k, rfl, hs, hk, e, hq⟩
  exact ⟨rfl, rfl, m_exchanged_at (Q := wEnd 2 Qd R) t hs hk e fun _ => hq⟩
theorem hF_draw : HFn T drawK 2 5 ir__law_draw := by
  rintro sl Qd R ⟨cells, a, d, c, f, m, n, rfl, h, hn, m0, m1, hq⟩
  exact ⟨rfl, rfl, m_draw (Q := wEnd 2 Qd R) h hn m0 m1 fun r a' d' c' f' r0 r1 ok _ => hq r a' d' c' f' r0 r1 ok⟩
theorem hF_pick (h : T.Γ "_law_draw" = some drawF) : HFn T pickF 2 2 ir__law_pick := by
  rintro sl Qd R ⟨ds, n, rfl, hn, h0, h1, hq⟩
  exact ⟨rfl, rfl, m_pick (Q := wEnd 2 Qd R) h hn h0 h1 hq⟩
theorem hF_shuffled (h : T.Γ "_law_draw" = some drawF) : HFn T shufF 2 5 ir__law_shuffled := by
  rintro sl Qd R ⟨ds, n, rfl, hn, h1, hq⟩
  exact ⟨rfl, rfl, m_shuffled (Q := wEnd 2 Qd R) h hn h1 fun es he _ => hq es he⟩
theorem hF_parts : HFn T partsF 1 6 ir__law_parts := by
  rintro sl Qd R ⟨f, rfl, hz, hq⟩
  exact ⟨rfl, rfl, m_law_parts (Q := wEnd 1 Qd R) hz fun es he _ => hq es he⟩
theorem hF_woven (t : WovT T) : HFn T wovenF 2 10 ir__law_woven := by
  rintro sl Qd R ⟨fs, n, rfl, hn, hl, hc, hz, hq⟩
  exact ⟨rfl, rfl, m_woven (Q := wEnd 2 Qd R) t hn hl hc hz fun gs h1 h2 _ => hq gs h1 h2⟩
theorem hF_law_growth (t : LgT T) : HFn T lgF 3 11 ir__law_growth := by
  rintro sl Qd R ⟨n, c, m, rfl, hn, h1, h2, h3, h4, hq⟩
  exact ⟨rfl, rfl, m_law_growth (Q := wEnd 3 Qd R) t hn h1 h2 h3 h4 fun ss n' a b c _ => hq ss n' a b c⟩
end
end PR
set_option Elab.async false
set_option linter.all false
set_option maxRecDepth 100000
set_option maxHeartbeats 1000000
/-! G26: each def's promise, from its meaning (the rest). -/
namespace PR
open PySem PySem.Spec PyProof.Rows L2 EV
section
variable {T : Tb}
theorem hF_need_growth (t : ChT T) : HFn T (P1 needG) 1 1 ir_need_growth := by
  rintro sl Qd R ⟨a, rfl, r, hr, hq⟩
  refine ⟨rfl, rfl, ?_⟩
  by_cases h : okD a = true
  · rw [needG_ok h] at hr
    cases hr
    exact m_need_growth_no (Q := wEnd 1 Qd R) t h hq
  · cases a with
    | obj C fs =>
      simp only [needG] at hr
      split at hr
      · rename_i e
        cases hr
        subst e
        show wSs T ir_need_growth (wEnd 1 Qd R) [.fz (.obj "Growth" fs)]
        unfold ir_need_growth
        simp [-Bool.exists_bool, -List.all_eq_true, -List.any_eq_true, isTy_obj t.cl, isiOk_c t.cl]
        exact hq
      · cases hr
    | _ => simp only [needG] at hr; rw [if_neg h] at hr; cases hr
theorem hF_exchanged (t : ChX T) : HFn T exF 2 2 ir_exchanged := by
  rintro sl Qd R (⟨ss, kd, rfl, hs, hk, hq⟩ | ⟨d, e, rfl, h, hq⟩)
  · refine ⟨rfl, rfl, m_exchanged (Q := wEnd 2 Qd R) t hs hk (fun e k ek hl => ?_) (fun x e => ?_)⟩
    · subst ek
      rw [e] at hq
      exact hq
    · rw [e] at hq; exact hq
  · exact ⟨rfl, rfl, m_exchanged_no (Q := wEnd 2 Qd R) t.toChX0 h hq⟩
theorem hF_timed (t : ChX0 T) : HFn T anewF 2 6 ir_timed_anew := by
  rintro sl Qd R (⟨ss, b, xs, rfl, hs, hl, hq⟩ | ⟨ss, rfl, hs, hq⟩ | ⟨d, e, rfl, h, hq⟩)
  · unfold anewR at hq
    refine ⟨rfl, rfl, m_timed (Q := wEnd 2 Qd R) t hs hl (fun e _ => ?_) (fun e _ => ?_)⟩
    · rw [if_pos e] at hq; exact hq
    · rw [if_neg (by rw [e]; simp)] at hq; exact hq
  · exact ⟨rfl, rfl, m_timed_non (Q := wEnd 2 Qd R) t hs fun _ => hq⟩
  · exact ⟨rfl, rfl, m_timed_no (Q := wEnd 2 Qd R) t h hq⟩
theorem hF_put (t : ChX0 T) : HFn T putF 4 4 ir_put_in := by
  rintro sl Qd R (⟨ss, k, f, tt, rfl, hs, hl, hf, h0, h1, hq⟩ | ⟨ss, k, a, b, rfl, hs, hk, hq⟩ | ⟨d, a, b, c, rfl, h, hq⟩)
  · exact ⟨rfl, rfl, m_put_in (Q := wEnd 4 Qd R) t hs hl hf h0 h1 hq⟩
  · exact ⟨rfl, rfl, m_put_out (Q := wEnd 4 Qd R) t hs hk hq⟩
  · exact ⟨rfl, rfl, m_put_no (Q := wEnd 4 Qd R) t h hq⟩
theorem hF_taken (t : ChX0 T) : HFn T takF 2 4 ir_taken_out := by
  rintro sl Qd R (⟨ss, k, rfl, hs, hq⟩ | ⟨d, a, rfl, h, hq⟩)
  · refine ⟨rfl, rfl, m_taken (Q := wEnd 2 Qd R) t hs (fun e => ?_) (fun x e => ?_)⟩
    · rw [e] at hq; exact hq
    · rw [e] at hq; exact hq
  · exact ⟨rfl, rfl, m_taken_no (Q := wEnd 2 Qd R) t h hq⟩
def initF : FS := fun sl Qd R => ∃ cs, sl = [.mk "Growth" [], .fz (dC cs)] ∧ okCs cs ∧ (match firstBad cs with
  | none => Qd .non [.mk "Growth" [("steps", dC cs)], .fz (dC cs)]
  | some k => R (badG k) [.mk "Growth" [], .fz (dC cs)])
theorem hF_growth (t : GrowT T) : HFn T initF 2 7 ir_Growth___init__ := by
  rintro sl Qd R ⟨cs, rfl, h, hq⟩
  refine ⟨rfl, rfl, m_growth (Q := wEnd 2 Qd R) t h (fun e _ => ?_) (fun k e _ => ?_)⟩
  · rw [e] at hq; exact hq
  · rw [e] at hq; exact hq
theorem growC_init {sl : List Slot} {Qd : D → List Slot → Prop} {R : Exc → List Slot → Prop} (h : growC sl Qd R) : FCls "Growth" initF sl Qd R := by
  obtain ⟨cs, rfl, h1, hq⟩ := h
  refine ⟨cs, rfl, h1, ?_⟩
  cases e : firstBad cs with
  | none => rw [e] at hq; exact ⟨rfl, _, _, rfl, hq⟩
  | some k => rw [e] at hq; exact ⟨_, _, rfl, hq⟩
def HFnF (T : Tb) (F0 : FS) (n m : Nat) (ss : Ss) : Prop := ∀ sl Qd R, F0 sl Qd R → sl.length = n ∧ sl.all (fun s => !s.isTb) = true ∧ wSs T ss (wEndF n Qd R) (wIn m sl)
theorem hF_pen : HFnF T penF 1 3 ir__law_pen := by
  rintro sl Qd R ⟨xs, rfl, h, hq⟩
  refine ⟨rfl, rfl, ?_⟩
  show wSs T ir__law_pen (wEndF 1 Qd R) [.fz (.gl (xs.map .int)), .un, .un]
  unfold ir__law_pen
  have e2 : Nat.log2 61 < 64 := log_lt (by omega)
  simp [-Bool.exists_bool, -List.all_eq_true, -List.any_eq_true]
  refine for_ind (fun i ρ => ∃ f s, 0 ≤ f ∧ f < 998244353 ∧ Slot.lent s = false ∧ ρ = [.fz (.gl (xs.map .int)), .fz (.int f), s]) ⟨0, .un, by omega, by omega, rfl, rfl⟩ ?_ ?_
  · rintro i x ρ hx ⟨f, s, f0, f1, hs, rfl⟩ next hn
    rw [List.getElem?_map] at hx
    cases hi : xs[i]? with
    | none => rw [hi] at hx; cases hx
    | some y =>
      rw [hi] at hx
      have ex := (Option.some.inj hx).symm
      subst ex
      have b1 : f.natAbs.log2 + Nat.log2 61 < 1000000 := by
        have e1 : f.natAbs.log2 < 64 := log_lt (by omega)
        omega
      simp [-Bool.exists_bool, -List.all_eq_true, -List.any_eq_true, hs, b1]
      exact hn _ ⟨_, _, Int.emod_nonneg _ (by omega), Int.emod_lt_of_pos _ (by omega), rfl, rfl⟩
  · rintro ρ ⟨f, s, f0, f1, hs, rfl⟩
    simp [-Bool.exists_bool, -List.all_eq_true, -List.any_eq_true]
    exact ⟨by decide, rfl, hq f f0 (by omega)⟩
end
/-! ### a draw, of a pen that is seen as one -/
theorem draw_imp {K : PySem.W.Frag} {mg : Mg} {vs : List V} {H : Hp} {Q : VK} {E : XK} (h : spF K mg drawF vs H Q E) : spF K mg drawK vs H Q E := by
  obtain ⟨Hs, ss, Qd, R, h1, h2, h3, h4, h5, ⟨m, n, rfl, hn, m0, m1, hq⟩, h7, h8⟩ := h
  have l2 : vs.length = 2 := h2
  obtain ⟨a, ea, na, l, cells, at_, dg, ct, fo, p1, p2, p3⟩ := h3 0 (by omega)
  have s0 : ∀ {Hs' H' : Hp}, (∃ (l : Addr) (cells : List Int) (at_ digits count fold : Int), True) → True := fun _ => trivial
  refine ⟨Hs, [.bK (penK cells at_ dg ct fo), .fz (.int m)], fun d ss' => ∃ r a' d' c' f', d = .int r ∧ 0 ≤ r ∧ r < m ∧ penOk (n + 1) cells a' d' c' f' ∧ ss' = [.bK (penK cells a' d' c' f'), .fz (.int m)], fun _ _ => False, h1, h2, fun i hi => ?_, fun i hi => ?_, fun i j b e1 e2 o1 o2 => ?_, ⟨cells, at_, dg, ct, fo, m, n, rfl, p3, hn, m0, m1, fun r a' d' c' f' r0 r1 ok => ⟨r, a', d', c', f', rfl, r0, r1, ok, rfl⟩⟩, ?_, fun _ _ _ _ _ _ z => z.elim⟩
  · cases i with
    | zero =>
      refine ⟨a, [.inr "cells", .inr "at", .inr "digits", .inr "count", .inr "fold"], [.ref l, .int at_, .int dg, .int ct, .int fo], [.lst (cells.map .int), .int at_, .int dg, .int ct, .int fo], ea, na, p1, rfl, rfl, ?_⟩
      exact .cons p2 (.cons (.int _) (.cons (.int _) (.cons (.int _) (.cons (.int _) .nil))))
    | succ i =>
      have := h3 (i + 1) hi
      cases i with
      | zero => exact this
      | succ i => omega
  · cases i with
    | zero => rfl
    | succ i => cases i with
      | zero => rfl
      | succ i => omega
  · have z : ∀ i, (([.bK (penK cells at_ dg ct fo), .fz (.int m)] : List Slot).getD i .un).owned = true → i = 0 := fun i e => by
      match i, e with
      | 0, _ => rfl
      | 1, e => cases e
      | _ + 2, e => cases e
    rw [z i o1, z j o2]
  · rintro d ss' Hs' H' v ⟨r, a', d', c', f', rfl, r0, r1, ok, rfl⟩ g1 g2 g3 g4 g5 g6 g7 rv
    refine h7 (.int r) [.pn (n + 1), .fz (.int m)] Hs' H' v (hq r r0 r1) g1 g2 (fun b o e hb => g3 b o e fun i hi => ?_) g4 g5 rfl (fun i hi ho => ?_) rv
    · have := hb i hi
      match i, this with
      | 0, e => cases e
      | 1, _ => rfl
      | _ + 2, _ => rfl
    · have hi0 : i = 0 := by
        match i, ho with
        | 0, _ => rfl
        | 1, e => cases e
        | _ + 2, e => cases e
      subst hi0
      obtain ⟨_, b, ks, vs', ds, e1, e2, e3, e4, e5, e6⟩ := g7 0 hi rfl
      refine ⟨rfl, b, e1, e2, ?_⟩
      have hl : ks.length = ds.length := by rw [e4, e6.length]
      have ek : ks = (penK cells a' d' c' f').map (·.1) := by rw [e5, List.map_fst_zip (by omega)]
      have ed : ds = (penK cells a' d' c' f').map (·.2) := by rw [e5, List.map_snd_zip (by omega)]
      rw [ed] at e6
      cases e6 with
      | cons q0 t0 =>
        cases t0 with
        | cons q1 t1 =>
          cases t1 with
          | cons q2 t2 =>
            cases t2 with
            | cons q3 t3 =>
              cases t3 with
              | cons q4 t4 =>
                cases t4
                cases q1
                cases q2
                cases q3
                cases q4
                cases q0 with
                | lst e r => exact ⟨_, cells, a', d', c', f', by rw [e3, ek]; rfl, .lst e r, ok⟩
theorem spF_imp {K : PySem.W.Frag} {mg : Mg} {F F' : FS} (hf : ∀ sl Qd R, F' sl Qd R → F sl Qd R) {vs : List V} {H : Hp} {Q : VK} {E : XK} (h : spF K mg F' vs H Q E) : spF K mg F vs H Q E := by
  obtain ⟨Hs, ss, Qd, R, h1, h2, h3, h4, h5, h6, h7, h8⟩ := h
  exact ⟨Hs, ss, Qd, R, h1, h2, h3, h4, h5, hf _ _ _ h6, h7, h8⟩
end PR
set_option Elab.async false
set_option linter.all false
set_option maxRecDepth 100000
set_option maxHeartbeats 1000000
/-! G27: is_tuple_of. -/
namespace PR
open PySem PySem.Spec PyProof.Rows L2 EV
theorem hF_is_tuple_of {T : Tb} : HFn T (P2 tupOf) 2 2 ir_is_tuple_of := by
  rintro sl Qd R ⟨a, b, rfl, r, hr, hq⟩
  refine ⟨rfl, rfl, ?_⟩
  cases b with
  | int m =>
    cases a with
    | gt ds => cases hr
    | _ =>
      simp only [tupOf] at hr
      split at hr
      · rename_i h; cases hr; exact m_is_tuple_of (Q := wEnd 2 Qd R) h hq (fun ds e => nomatch e)
      · cases hr
  | _ => cases a <;> cases hr
end PR
set_option Elab.async false
set_option linter.all false
set_option maxRecDepth 100000
set_option maxHeartbeats 1000000
/-! G28: tables that grow. -/
namespace PR
open PySem PySem.Spec PyProof.Rows L2 EV
def add (T : Tb) (x : Str) (F : FS) : Tb := { T with Γ := fun y => if y = x then some F else T.Γ y }
/-- the table T holds at the level k, nothing is lent in it -/
structure Hold (P : Program) (w : World) (K : PySem.W.Frag) (mg : Mg) (base : Heap) (k : Nat) (T : Tb) : Prop where
  f : Fine P w K mg base k T
  x : FineX P w K mg base k T
  m : T.lmk = false
  l : ∀ l, ¬ T.lam l
  h : ∀ f, T.hand f = none
section
variable {P : Program} {w : World} {K : PySem.W.Frag} {mg : Mg} {base : Heap} {k : Nat} {T : Tb}
theorem Hold.add_cal (H : Hold P w K mg base k T) {x : Str} {u : Value} {F0 : FS} (hm : mg x = some u) (hk : PySem.W.keepIn K u = true) (c : Cal P w K mg base (k + 1) u (spF K mg F0)) : Hold P w K mg base (k + 1) (add T x F0) := by
  refine ⟨⟨fun y F e => ?_, H.f.gl, H.f.ca, H.f.bi, H.f.ty, fun y F e => ?_, fun l hl => (H.l l hl).elim, fun f hs e => ?_⟩, ⟨fun C ns e => ?_⟩, H.m, H.l, H.h⟩
  · by_cases hy : y = x
    · subst hy
      have e : (if y = y then some F0 else T.Γ y) = some F := e
      rw [if_pos rfl] at e
      cases e
      exact ⟨u, hm, hk, c⟩
    · have e : (if y = x then some F0 else T.Γ y) = some F := e
      rw [if_neg hy] at e
      obtain ⟨v, h1, h2, h3⟩ := H.f.fn y F e
      exact ⟨v, h1, h2, h3.mono (Nat.le_succ k)⟩
  · obtain ⟨v, h1, h2, h3⟩ := H.f.ff y F e
    exact ⟨v, h1, h2, h3.mono (Nat.le_succ k)⟩
  · have := H.h f
    have e : T.hand f = some hs := e
    rw [this] at e; cases e
  · obtain ⟨Ca, h1, h2, h3, h4, h5, h6⟩ := H.x.ex C ns e
    exact ⟨Ca, h1, h2, h3, h4, h5, h6.mono (Nat.le_succ k)⟩
theorem Hold.up (H : Hold P w K mg base k T) : Hold P w K mg base (k + 1) T := by
  refine ⟨⟨fun y F e => ?_, H.f.gl, H.f.ca, H.f.bi, H.f.ty, fun y F e => ?_, fun l hl => (H.l l hl).elim, fun f hs e => ?_⟩, ⟨fun C ns e => ?_⟩, H.m, H.l, H.h⟩
  · obtain ⟨v, h1, h2, h3⟩ := H.f.fn y F e
    exact ⟨v, h1, h2, h3.mono (Nat.le_succ k)⟩
  · obtain ⟨v, h1, h2, h3⟩ := H.f.ff y F e
    exact ⟨v, h1, h2, h3.mono (Nat.le_succ k)⟩
  · have := H.h f
    rw [this] at e; cases e
  · obtain ⟨Ca, h1, h2, h3, h4, h5, h6⟩ := H.x.ex C ns e
    exact ⟨Ca, h1, h2, h3, h4, h5, h6.mono (Nat.le_succ k)⟩
theorem Hold.cal (H : Hold P w K mg base k T) {N ps : List Str} {name qual : Str} {params : Arguments} {body : List Stmt} {scope : Scope} {f : Addr} {fd : FuncData} {ss : Ss} {F0 : FS}
    (F : FunD K name qual params body scope [] [] f fd) (S : FnScope N ps scope) (hok : okSs N scope ss body = true) (hb : Binds K fd ps []) (hF : HFn T F0 ps.length N.length ss) : Cal P w K mg base (k + 1) (.ref f) (spF K mg F0) :=
  (fn_sound F S H.f H.x H.m hok hF).cal hb
/-- a def is added -/
theorem Hold.add (H : Hold P w K mg base k T) {N ps : List Str} {x name qual : Str} {params : Arguments} {body : List Stmt} {scope : Scope} {f : Addr} {fd : FuncData} {ss : Ss} {F0 : FS}
    (hm : mg x = some (.ref f)) (F : FunD K name qual params body scope [] [] f fd) (S : FnScope N ps scope) (hok : okSs N scope ss body = true) (hb : Binds K fd ps []) (hF : HFn T F0 ps.length N.length ss) : Hold P w K mg base (k + 1) (PR.add T x F0) :=
  H.add_cal hm F.kp (H.cal F S hok hb hF)
def addF (T : Tb) (x : Str) (F : FS) : Tb := { T with Γf := fun y => if y = x then some F else T.Γf y }
theorem Hold.addF (H : Hold P w K mg base k T) {N ps : List Str} {x name qual : Str} {params : Arguments} {body : List Stmt} {scope : Scope} {f : Addr} {fd : FuncData} {ss : Ss} {F0 : FS}
    (hm : mg x = some (.ref f)) (F : FunD K name qual params body scope [] [] f fd) (S : FnScope N ps scope) (hok : okSs N scope ss body = true) (hb : Binds K fd ps []) (hF : HFnF T F0 ps.length N.length ss) : Hold P w K mg base (k + 1) (PR.addF T x F0) := by
  have c := (fn_soundF F S H.f H.x H.m hok hF).cal hb
  refine ⟨⟨fun y F e => ?_, H.f.gl, H.f.ca, H.f.bi, H.f.ty, fun y F' e => ?_, fun l hl => (H.l l hl).elim, fun f hs e => ?_⟩, ⟨fun C ns e => ?_⟩, H.m, H.l, H.h⟩
  · obtain ⟨v, h1, h2, h3⟩ := H.f.fn y F e
    exact ⟨v, h1, h2, h3.mono (Nat.le_succ k)⟩
  · by_cases hy : y = x
    · subst hy
      have e : (if y = y then some F0 else T.Γf y) = some F' := e
      rw [if_pos rfl] at e
      cases e
      exact ⟨_, hm, F.kp, c⟩
    · have e : (if y = x then some F0 else T.Γf y) = some F' := e
      rw [if_neg hy] at e
      obtain ⟨v, h1, h2, h3⟩ := H.f.ff y F' e
      exact ⟨v, h1, h2, h3.mono (Nat.le_succ k)⟩
  · have := H.h f
    have e : T.hand f = some hs := e
    rw [this] at e; cases e
  · obtain ⟨Ca, h1, h2, h3, h4, h5, h6⟩ := H.x.ex C ns e
    exact ⟨Ca, h1, h2, h3, h4, h5, h6.mono (Nat.le_succ k)⟩
end
end PR
set_option Elab.async false
set_option linter.all false
set_option maxRecDepth 100000
set_option maxHeartbeats 0
namespace K79H
open PySem PySem.Spec PyProof.Rows L2
def top (i : Nat) : Stmt := (PySem.W.OpenLaw.row PySem.Challenge.rw_holelives_k79_steps_exchanged_put_in_tak).prog.main.body.getD i (.Pass ⟨0, 0, 0, 0⟩)
def meth (i j : Nat) : Stmt := match top i with
  | .ClassDef _ _ _ body .. => body.getD j (.Pass ⟨0, 0, 0, 0⟩)
  | _ => .Pass ⟨0, 0, 0, 0⟩
def d_BadNumber___init__ : He.DefD := ⟨("BadNumber", some "__init__"), "__init__", "BadNumber.__init__", defArgs (meth 2 0), defBody (meth 2 0), defScope (meth 2 0), [], []⟩
def d_BadRow___init__ : He.DefD := ⟨("BadRow", some "__init__"), "__init__", "BadRow.__init__", defArgs (meth 3 0), defBody (meth 3 0), defScope (meth 3 0), [], []⟩
def d_BadFace___init__ : He.DefD := ⟨("BadFace", some "__init__"), "__init__", "BadFace.__init__", defArgs (meth 4 0), defBody (meth 4 0), defScope (meth 4 0), [], []⟩
def d_BadGrowth___init__ : He.DefD := ⟨("BadGrowth", some "__init__"), "__init__", "BadGrowth.__init__", defArgs (meth 5 0), defBody (meth 5 0), defScope (meth 5 0), [], []⟩
def d_Unlike___init__ : He.DefD := ⟨("Unlike", some "__init__"), "__init__", "Unlike.__init__", defArgs (meth 6 0), defBody (meth 6 0), defScope (meth 6 0), [], []⟩
def d_is_whole : He.DefD := ⟨("is_whole", none), "is_whole", "is_whole", defArgs (top 8), defBody (top 8), defScope (top 8), [], []⟩
def d_is_row : He.DefD := ⟨("is_row", none), "is_row", "is_row", defArgs (top 9), defBody (top 9), defScope (top 9), [], []⟩
def d_in_tuples : He.DefD := ⟨("in_tuples", none), "in_tuples", "in_tuples", defArgs (top 10), defBody (top 10), defScope (top 10), [], []⟩
def d_is_tuple_of : He.DefD := ⟨("is_tuple_of", none), "is_tuple_of", "is_tuple_of", defArgs (top 11), defBody (top 11), defScope (top 11), [], []⟩
def d_need_between : He.DefD := ⟨("need_between", none), "need_between", "need_between", defArgs (top 12), defBody (top 12), defScope (top 12), [], []⟩
def d_is_face : He.DefD := ⟨("is_face", none), "is_face", "is_face", defArgs (top 18), defBody (top 18), defScope (top 18), [], []⟩
def d_sides_of : He.DefD := ⟨("sides_of", none), "sides_of", "sides_of", defArgs (top 19), defBody (top 19), defScope (top 19), [], []⟩
def d_sides : He.DefD := ⟨("sides", none), "sides", "sides", defArgs (top 20), defBody (top 20), defScope (top 20), [], []⟩
def d_is_step : He.DefD := ⟨("is_step", none), "is_step", "is_step", defArgs (top 21), defBody (top 21), defScope (top 21), [], []⟩
def d_Growth___init__ : He.DefD := ⟨("Growth", some "__init__"), "__init__", "Growth.__init__", defArgs (meth 22 0), defBody (meth 22 0), defScope (meth 22 0), [], []⟩
def d_Growth___eq__ : He.DefD := ⟨("Growth", some "__eq__"), "__eq__", "Growth.__eq__", defArgs (meth 22 1), defBody (meth 22 1), defScope (meth 22 1), [], []⟩
def d_Growth___ne__ : He.DefD := ⟨("Growth", some "__ne__"), "__ne__", "Growth.__ne__", defArgs (meth 22 2), defBody (meth 22 2), defScope (meth 22 2), [], []⟩
def d_need_growth : He.DefD := ⟨("need_growth", none), "need_growth", "need_growth", defArgs (top 25), defBody (top 25), defScope (top 25), [], []⟩
def d_is_side : He.DefD := ⟨("is_side", none), "is_side", "is_side", defArgs (top 26), defBody (top 26), defScope (top 26), [], []⟩
def d_need_exchange : He.DefD := ⟨("need_exchange", none), "need_exchange", "need_exchange", defArgs (top 27), defBody (top 27), defScope (top 27), [], []⟩
def d_exchanged_at : He.DefD := ⟨("exchanged_at", none), "exchanged_at", "exchanged_at", defArgs (top 28), defBody (top 28), defScope (top 28), [], []⟩
def d_exchanged : He.DefD := ⟨("exchanged", none), "exchanged", "exchanged", defArgs (top 29), defBody (top 29), defScope (top 29), [], []⟩
def d_timed_anew : He.DefD := ⟨("timed_anew", none), "timed_anew", "timed_anew", defArgs (top 30), defBody (top 30), defScope (top 30), [], []⟩
def d_put_in : He.DefD := ⟨("put_in", none), "put_in", "put_in", defArgs (top 31), defBody (top 31), defScope (top 31), [], []⟩
def d_taken_out : He.DefD := ⟨("taken_out", none), "taken_out", "taken_out", defArgs (top 32), defBody (top 32), defScope (top 32), [], []⟩
def d__law_pen : He.DefD := ⟨("_law_pen", none), "_law_pen", "_law_pen", defArgs (top 34), defBody (top 34), defScope (top 34), [], []⟩
def d__law_draw : He.DefD := ⟨("_law_draw", none), "_law_draw", "_law_draw", defArgs (top 35), defBody (top 35), defScope (top 35), [], []⟩
def d__law_pick : He.DefD := ⟨("_law_pick", none), "_law_pick", "_law_pick", defArgs (top 36), defBody (top 36), defScope (top 36), [], []⟩
def d__law_shuffled : He.DefD := ⟨("_law_shuffled", none), "_law_shuffled", "_law_shuffled", defArgs (top 37), defBody (top 37), defScope (top 37), [], []⟩
def d__law_is_int : He.DefD := ⟨("_law_is_int", none), "_law_is_int", "_law_is_int", defArgs (top 38), defBody (top 38), defScope (top 38), [], []⟩
def d__law_sides : He.DefD := ⟨("_law_sides", none), "_law_sides", "_law_sides", defArgs (top 39), defBody (top 39), defScope (top 39), [], []⟩
def d__law_growth : He.DefD := ⟨("_law_growth", none), "_law_growth", "_law_growth", defArgs (top 40), defBody (top 40), defScope (top 40), [], []⟩
def d__law_parts : He.DefD := ⟨("_law_parts", none), "_law_parts", "_law_parts", defArgs (top 41), defBody (top 41), defScope (top 41), [], []⟩
def d__law_woven : He.DefD := ⟨("_law_woven", none), "_law_woven", "_law_woven", defArgs (top 42), defBody (top 42), defScope (top 42), [], []⟩
def d__law_error : He.DefD := ⟨("_law_error", none), "_law_error", "_law_error", defArgs (top 43), defBody (top 43), defScope (top 43), [], []⟩
def d__law_is_side : He.DefD := ⟨("_law_is_side", none), "_law_is_side", "_law_is_side", defArgs (top 44), defBody (top 44), defScope (top 44), [], []⟩
def d__law_turned : He.DefD := ⟨("_law_turned", none), "_law_turned", "_law_turned", defArgs (top 45), defBody (top 45), defScope (top 45), [], []⟩
def d__law_first_wrong : He.DefD := ⟨("_law_first_wrong", none), "_law_first_wrong", "_law_first_wrong", defArgs (top 46), defBody (top 46), defScope (top 46), [], []⟩
def d_law : He.DefD := ⟨("law", none), "law", "law", defArgs (top 47), defBody (top 47), defScope (top 47), [], []⟩
def fn_0 : List He.DefD := [d_BadNumber___init__, d_BadRow___init__, d_BadFace___init__, d_BadGrowth___init__, d_Unlike___init__, d_is_whole, d_is_row, d_in_tuples, d_is_tuple_of, d_need_between]
def fn_1 : List He.DefD := [d_is_face, d_sides_of, d_sides, d_is_step, d_Growth___init__, d_Growth___eq__, d_Growth___ne__, d_need_growth, d_is_side, d_need_exchange]
def fn_2 : List He.DefD := [d_exchanged_at, d_exchanged, d_timed_anew, d_put_in, d_taken_out, d__law_pen, d__law_draw, d__law_pick, d__law_shuffled, d__law_is_int]
def fn_3 : List He.DefD := [d__law_sides, d__law_growth, d__law_parts, d__law_woven, d__law_error, d__law_is_side, d__law_turned, d__law_first_wrong, d_law]
def fn : List He.DefD := fn_0 ++ fn_1 ++ fn_2 ++ fn_3
def fa_0 : List He.Fa := [.glo "HoleError", .glo "BadNumber", .glo "BadRow", .glo "BadFace", .glo "BadGrowth", .glo "Unlike", .glo "is_whole", .glo "is_row", .glo "in_tuples", .glo "is_tuple_of"]
def fa_1 : List He.Fa := [.glo "need_between", .int "MOST_STEPS" 64, .int "MOST_CORNER" 11, .int "MOST_CORNERS" 5, .int "MOST_TIME" 999, .glo "is_face", .glo "sides_of", .glo "sides", .glo "is_step", .glo "Growth"]
def fa_2 : List He.Fa := [.int "LAST_TIME" 999, .glo "need_growth", .glo "is_side", .glo "need_exchange", .glo "exchanged_at", .glo "exchanged", .glo "timed_anew", .glo "put_in", .glo "taken_out", .glo "_law_pen"]
def fa_3 : List He.Fa := [.glo "_law_draw", .glo "_law_pick", .glo "_law_shuffled", .glo "_law_is_int", .glo "_law_sides", .glo "_law_growth", .glo "_law_parts", .glo "_law_woven", .glo "_law_error", .glo "_law_is_side"]
def fa_4 : List He.Fa := [.glo "_law_turned", .glo "_law_first_wrong", .glo "law", .free "len", .free "tuple", .free "list", .free "all", .free "any", .free "sum", .free "int"]
def fa_5 : List He.Fa := [.free "max", .free "min", .free "abs", .free "range", .free "zip", .free "isinstance", .free "bool", .free "str", .free "dict", .free "repr"]
def fa_6 : List He.Fa := [.free "sorted", .free "set", .free "reversed", .noat "BadNumber" "what", .noat "BadNumber" "number", .noat "BadRow" "row", .noat "BadFace" "face", .noat "BadGrowth" "step", .noat "Unlike" "what", .cls "Growth"]
def fa_7 : List He.Fa := [.mkr "Growth", .noat "Growth" "steps", .exm "BadNumber" "BadNumber" true, .exm "BadNumber" "BadRow" false, .exm "BadNumber" "BadFace" false, .exm "BadNumber" "BadGrowth" false, .exm "BadNumber" "Unlike" false, .exm "BadRow" "BadNumber" false, .exm "BadRow" "BadRow" true, .exm "BadRow" "BadFace" false]
def fa_8 : List He.Fa := [.exm "BadRow" "BadGrowth" false, .exm "BadRow" "Unlike" false, .exm "BadFace" "BadNumber" false, .exm "BadFace" "BadRow" false, .exm "BadFace" "BadFace" true, .exm "BadFace" "BadGrowth" false, .exm "BadFace" "Unlike" false, .exm "BadGrowth" "BadNumber" false, .exm "BadGrowth" "BadRow" false, .exm "BadGrowth" "BadFace" false]
def fa_9 : List He.Fa := [.exm "BadGrowth" "BadGrowth" true, .exm "BadGrowth" "Unlike" false, .exm "Unlike" "BadNumber" false, .exm "Unlike" "BadRow" false, .exm "Unlike" "BadFace" false, .exm "Unlike" "BadGrowth" false, .exm "Unlike" "Unlike" true]
def fa : List He.Fa := fa_0 ++ fa_1 ++ fa_2 ++ fa_3 ++ fa_4 ++ fa_5 ++ fa_6 ++ fa_7 ++ fa_8 ++ fa_9
abbrev R : PySem.W.OpenRow := PySem.W.OpenLaw.row PySem.Challenge.rw_holelives_k79_steps_exchanged_put_in_tak
def excs : List (Str × List Str) := [("BadNumber", ["what", "number"]), ("BadRow", ["row"]), ("BadFace", ["face"]), ("BadGrowth", ["step"]), ("Unlike", ["what"])]
def clss : List Str := ["Growth"]
def ex (K : PySem.W.Frag) : Bool := EV.excsB "HoleError" excs K && EV.tysB clss K
def tf : List He.Defn := [("law", none)]
abbrev hk : PySem.W.Hook := EV.hookE 5 fa fn tf ex
def ob (s : PySem.W.SharedT) : He.AlD × Bool := EV.obsE 5 fa fn tf ex (HandSHeadRun.getT s)
theorem ob_eq (s : PySem.W.SharedT) : ob s = hk.obs s.abs := EV.obsE_eq (HandSHeadRun.getT_eq s)
def nm_0 : List PySem.Str := [("HoleError" : PySem.Str), ("BadNumber" : PySem.Str), ("BadRow" : PySem.Str), ("BadFace" : PySem.Str), ("BadGrowth" : PySem.Str), ("Unlike" : PySem.Str), ("is_whole" : PySem.Str), ("is_row" : PySem.Str), ("in_tuples" : PySem.Str), ("is_tuple_of" : PySem.Str)]
def nm_1 : List PySem.Str := [("need_between" : PySem.Str), ("MOST_STEPS" : PySem.Str), ("MOST_CORNER" : PySem.Str), ("MOST_CORNERS" : PySem.Str), ("MOST_TIME" : PySem.Str), ("is_face" : PySem.Str), ("sides_of" : PySem.Str), ("sides" : PySem.Str), ("is_step" : PySem.Str), ("Growth" : PySem.Str)]
def nm_2 : List PySem.Str := [("LAST_TIME" : PySem.Str), ("need_growth" : PySem.Str), ("is_side" : PySem.Str), ("need_exchange" : PySem.Str), ("exchanged_at" : PySem.Str), ("exchanged" : PySem.Str), ("timed_anew" : PySem.Str), ("put_in" : PySem.Str), ("taken_out" : PySem.Str), ("_law_pen" : PySem.Str)]
def nm_3 : List PySem.Str := [("_law_draw" : PySem.Str), ("_law_pick" : PySem.Str), ("_law_shuffled" : PySem.Str), ("_law_is_int" : PySem.Str), ("_law_sides" : PySem.Str), ("_law_growth" : PySem.Str), ("_law_parts" : PySem.Str), ("_law_woven" : PySem.Str), ("_law_error" : PySem.Str), ("_law_is_side" : PySem.Str)]
def nm_4 : List PySem.Str := [("_law_turned" : PySem.Str), ("_law_first_wrong" : PySem.Str)]
theorem run (w : World) : HandSHeadRun.RunEq R (PySem.W.view R.prog [47]) hk ob 20000 (nm_0 ++ nm_1 ++ nm_2 ++ nm_3 ++ nm_4) w := by
  intro os
  kernel_rfl
end K79H
set_option Elab.async false
set_option linter.all false
set_option maxRecDepth 100000
set_option maxHeartbeats 1000000
/-! K79F: each def's scope and binding (written by genfn.py). -/
namespace K79
open PySem PySem.Spec PyProof.Rows L2 EV PR
abbrev FD (K : PySem.W.Frag) (d : He.DefD) (f : Addr) (fd : FuncData) : Prop := FunD K d.name d.qual d.params d.body d.scope [] [] f fd
theorem sc_is_whole : FnScope N_is_whole (N_is_whole.take 1) (K79H.d_is_whole).scope := ⟨by kernel_rfl, by kernel_rfl, by kernel_rfl, by decide +kernel, rfl, by decide +kernel, by decide +kernel⟩
theorem bi_is_whole {K : PySem.W.Frag} {f : Addr} {fd : FuncData} (F : FD K K79H.d_is_whole f fd) : Binds K fd (N_is_whole.take 1) [] := F.bindsN fun _ _ _ _ _ _ us hl => match us, hl with | [_], _ => rfl
theorem sc_is_row : FnScope N_is_row (N_is_row.take 1) (K79H.d_is_row).scope := ⟨by kernel_rfl, by kernel_rfl, by kernel_rfl, by decide +kernel, rfl, by decide +kernel, by decide +kernel⟩
theorem bi_is_row {K : PySem.W.Frag} {f : Addr} {fd : FuncData} (F : FD K K79H.d_is_row f fd) : Binds K fd (N_is_row.take 1) [] := F.bindsN fun _ _ _ _ _ _ us hl => match us, hl with | [_], _ => rfl
theorem sc_in_tuples : FnScope N_in_tuples (N_in_tuples.take 1) (K79H.d_in_tuples).scope := ⟨by kernel_rfl, by kernel_rfl, by kernel_rfl, by decide +kernel, rfl, by decide +kernel, by decide +kernel⟩
theorem bi_in_tuples {K : PySem.W.Frag} {f : Addr} {fd : FuncData} (F : FD K K79H.d_in_tuples f fd) : Binds K fd (N_in_tuples.take 1) [] := F.bindsN fun _ _ _ _ _ _ us hl => match us, hl with | [_], _ => rfl
theorem sc_is_tuple_of : FnScope N_is_tuple_of (N_is_tuple_of.take 2) (K79H.d_is_tuple_of).scope := ⟨by kernel_rfl, by kernel_rfl, by kernel_rfl, by decide +kernel, rfl, by decide +kernel, by decide +kernel⟩
theorem bi_is_tuple_of {K : PySem.W.Frag} {f : Addr} {fd : FuncData} (F : FD K K79H.d_is_tuple_of f fd) : Binds K fd (N_is_tuple_of.take 2) [] := F.bindsN fun _ _ _ _ _ _ us hl => match us, hl with | [_, _], _ => rfl
theorem sc_need_between : FnScope N_need_between (N_need_between.take 4) (K79H.d_need_between).scope := ⟨by kernel_rfl, by kernel_rfl, by kernel_rfl, by decide +kernel, rfl, by decide +kernel, by decide +kernel⟩
theorem bi_need_between {K : PySem.W.Frag} {f : Addr} {fd : FuncData} (F : FD K K79H.d_need_between f fd) : Binds K fd (N_need_between.take 4) [] := F.bindsN fun _ _ _ _ _ _ us hl => match us, hl with | [_, _, _, _], _ => rfl
theorem sc_is_face : FnScope N_is_face (N_is_face.take 1) (K79H.d_is_face).scope := ⟨by kernel_rfl, by kernel_rfl, by kernel_rfl, by decide +kernel, rfl, by decide +kernel, by decide +kernel⟩
theorem bi_is_face {K : PySem.W.Frag} {f : Addr} {fd : FuncData} (F : FD K K79H.d_is_face f fd) : Binds K fd (N_is_face.take 1) [] := F.bindsN fun _ _ _ _ _ _ us hl => match us, hl with | [_], _ => rfl
theorem sc_sides_of : FnScope N_sides_of (N_sides_of.take 1) (K79H.d_sides_of).scope := ⟨by kernel_rfl, by kernel_rfl, by kernel_rfl, by decide +kernel, rfl, by decide +kernel, by decide +kernel⟩
theorem bi_sides_of {K : PySem.W.Frag} {f : Addr} {fd : FuncData} (F : FD K K79H.d_sides_of f fd) : Binds K fd (N_sides_of.take 1) [] := F.bindsN fun _ _ _ _ _ _ us hl => match us, hl with | [_], _ => rfl
theorem sc_sides : FnScope N_sides (N_sides.take 1) (K79H.d_sides).scope := ⟨by kernel_rfl, by kernel_rfl, by kernel_rfl, by decide +kernel, rfl, by decide +kernel, by decide +kernel⟩
theorem bi_sides {K : PySem.W.Frag} {f : Addr} {fd : FuncData} (F : FD K K79H.d_sides f fd) : Binds K fd (N_sides.take 1) [] := F.bindsN fun _ _ _ _ _ _ us hl => match us, hl with | [_], _ => rfl
theorem sc_is_step : FnScope N_is_step (N_is_step.take 3) (K79H.d_is_step).scope := ⟨by kernel_rfl, by kernel_rfl, by kernel_rfl, by decide +kernel, rfl, by decide +kernel, by decide +kernel⟩
theorem bi_is_step {K : PySem.W.Frag} {f : Addr} {fd : FuncData} (F : FD K K79H.d_is_step f fd) : Binds K fd (N_is_step.take 3) [] := F.bindsN fun _ _ _ _ _ _ us hl => match us, hl with | [_, _, _], _ => rfl
theorem sc_Growth___init__ : FnScope N_Growth___init__ (N_Growth___init__.take 2) (K79H.d_Growth___init__).scope := ⟨by kernel_rfl, by kernel_rfl, by kernel_rfl, by decide +kernel, rfl, by decide +kernel, by decide +kernel⟩
theorem bi_Growth___init__ {K : PySem.W.Frag} {f : Addr} {fd : FuncData} (F : FD K K79H.d_Growth___init__ f fd) : Binds K fd (N_Growth___init__.take 2) [] := F.bindsN fun _ _ _ _ _ _ us hl => match us, hl with | [_, _], _ => rfl
theorem sc_need_growth : FnScope N_need_growth (N_need_growth.take 1) (K79H.d_need_growth).scope := ⟨by kernel_rfl, by kernel_rfl, by kernel_rfl, by decide +kernel, rfl, by decide +kernel, by decide +kernel⟩
theorem bi_need_growth {K : PySem.W.Frag} {f : Addr} {fd : FuncData} (F : FD K K79H.d_need_growth f fd) : Binds K fd (N_need_growth.take 1) [] := F.bindsN fun _ _ _ _ _ _ us hl => match us, hl with | [_], _ => rfl
theorem sc_is_side : FnScope N_is_side (N_is_side.take 2) (K79H.d_is_side).scope := ⟨by kernel_rfl, by kernel_rfl, by kernel_rfl, by decide +kernel, rfl, by decide +kernel, by decide +kernel⟩
theorem bi_is_side {K : PySem.W.Frag} {f : Addr} {fd : FuncData} (F : FD K K79H.d_is_side f fd) : Binds K fd (N_is_side.take 2) [] := F.bindsN fun _ _ _ _ _ _ us hl => match us, hl with | [_, _], _ => rfl
theorem sc_need_exchange : FnScope N_need_exchange (N_need_exchange.take 2) (K79H.d_need_exchange).scope := ⟨by kernel_rfl, by kernel_rfl, by kernel_rfl, by decide +kernel, rfl, by decide +kernel, by decide +kernel⟩
theorem bi_need_exchange {K : PySem.W.Frag} {f : Addr} {fd : FuncData} (F : FD K K79H.d_need_exchange f fd) : Binds K fd (N_need_exchange.take 2) [] := F.bindsN fun _ _ _ _ _ _ us hl => match us, hl with | [_, _], _ => rfl
theorem sc_exchanged_at : FnScope N_exchanged_at (N_exchanged_at.take 2) (K79H.d_exchanged_at).scope := ⟨by kernel_rfl, by kernel_rfl, by kernel_rfl, by decide +kernel, rfl, by decide +kernel, by decide +kernel⟩
theorem bi_exchanged_at {K : PySem.W.Frag} {f : Addr} {fd : FuncData} (F : FD K K79H.d_exchanged_at f fd) : Binds K fd (N_exchanged_at.take 2) [] := F.bindsN fun _ _ _ _ _ _ us hl => match us, hl with | [_, _], _ => rfl
theorem sc_exchanged : FnScope N_exchanged (N_exchanged.take 2) (K79H.d_exchanged).scope := ⟨by kernel_rfl, by kernel_rfl, by kernel_rfl, by decide +kernel, rfl, by decide +kernel, by decide +kernel⟩
theorem bi_exchanged {K : PySem.W.Frag} {f : Addr} {fd : FuncData} (F : FD K K79H.d_exchanged f fd) : Binds K fd (N_exchanged.take 2) [] := F.bindsN fun _ _ _ _ _ _ us hl => match us, hl with | [_, _], _ => rfl
theorem sc_timed_anew : FnScope N_timed_anew (N_timed_anew.take 2) (K79H.d_timed_anew).scope := ⟨by kernel_rfl, by kernel_rfl, by kernel_rfl, by decide +kernel, rfl, by decide +kernel, by decide +kernel⟩
theorem bi_timed_anew {K : PySem.W.Frag} {f : Addr} {fd : FuncData} (F : FD K K79H.d_timed_anew f fd) : Binds K fd (N_timed_anew.take 2) [] := F.bindsN fun _ _ _ _ _ _ us hl => match us, hl with | [_, _], _ => rfl
theorem sc_put_in : FnScope N_put_in (N_put_in.take 4) (K79H.d_put_in).scope := ⟨by kernel_rfl, by kernel_rfl, by kernel_rfl, by decide +kernel, rfl, by decide +kernel, by decide +kernel⟩
theorem bi_put_in {K : PySem.W.Frag} {f : Addr} {fd : FuncData} (F : FD K K79H.d_put_in f fd) : Binds K fd (N_put_in.take 4) [] := F.bindsN fun _ _ _ _ _ _ us hl => match us, hl with | [_, _, _, _], _ => rfl
theorem sc_taken_out : FnScope N_taken_out (N_taken_out.take 2) (K79H.d_taken_out).scope := ⟨by kernel_rfl, by kernel_rfl, by kernel_rfl, by decide +kernel, rfl, by decide +kernel, by decide +kernel⟩
theorem bi_taken_out {K : PySem.W.Frag} {f : Addr} {fd : FuncData} (F : FD K K79H.d_taken_out f fd) : Binds K fd (N_taken_out.take 2) [] := F.bindsN fun _ _ _ _ _ _ us hl => match us, hl with | [_, _], _ => rfl
theorem sc__law_pen : FnScope N__law_pen (N__law_pen.take 1) (K79H.d__law_pen).scope := ⟨by kernel_rfl, by kernel_rfl, by kernel_rfl, by decide +kernel, rfl, by decide +kernel, by decide +kernel⟩
theorem bi__law_pen {K : PySem.W.Frag} {f : Addr} {fd : FuncData} (F : FD K K79H.d__law_pen f fd) : Binds K fd (N__law_pen.take 1) [] := F.bindsN fun _ _ _ _ _ _ us hl => match us, hl with | [_], _ => rfl
theorem sc__law_draw : FnScope N__law_draw (N__law_draw.take 2) (K79H.d__law_draw).scope := ⟨by kernel_rfl, by kernel_rfl, by kernel_rfl, by decide +kernel, rfl, by decide +kernel, by decide +kernel⟩
theorem bi__law_draw {K : PySem.W.Frag} {f : Addr} {fd : FuncData} (F : FD K K79H.d__law_draw f fd) : Binds K fd (N__law_draw.take 2) [] := F.bindsN fun _ _ _ _ _ _ us hl => match us, hl with | [_, _], _ => rfl
theorem sc__law_pick : FnScope N__law_pick (N__law_pick.take 2) (K79H.d__law_pick).scope := ⟨by kernel_rfl, by kernel_rfl, by kernel_rfl, by decide +kernel, rfl, by decide +kernel, by decide +kernel⟩
theorem bi__law_pick {K : PySem.W.Frag} {f : Addr} {fd : FuncData} (F : FD K K79H.d__law_pick f fd) : Binds K fd (N__law_pick.take 2) [] := F.bindsN fun _ _ _ _ _ _ us hl => match us, hl with | [_, _], _ => rfl
theorem sc__law_shuffled : FnScope N__law_shuffled (N__law_shuffled.take 2) (K79H.d__law_shuffled).scope := ⟨by kernel_rfl, by kernel_rfl, by kernel_rfl, by decide +kernel, rfl, by decide +kernel, by decide +kernel⟩
theorem bi__law_shuffled {K : PySem.W.Frag} {f : Addr} {fd : FuncData} (F : FD K K79H.d__law_shuffled f fd) : Binds K fd (N__law_shuffled.take 2) [] := F.bindsN fun _ _ _ _ _ _ us hl => match us, hl with | [_, _], _ => rfl
theorem sc__law_is_int : FnScope N__law_is_int (N__law_is_int.take 1) (K79H.d__law_is_int).scope := ⟨by kernel_rfl, by kernel_rfl, by kernel_rfl, by decide +kernel, rfl, by decide +kernel, by decide +kernel⟩
theorem bi__law_is_int {K : PySem.W.Frag} {f : Addr} {fd : FuncData} (F : FD K K79H.d__law_is_int f fd) : Binds K fd (N__law_is_int.take 1) [] := F.bindsN fun _ _ _ _ _ _ us hl => match us, hl with | [_], _ => rfl
theorem sc__law_sides : FnScope N__law_sides (N__law_sides.take 1) (K79H.d__law_sides).scope := ⟨by kernel_rfl, by kernel_rfl, by kernel_rfl, by decide +kernel, rfl, by decide +kernel, by decide +kernel⟩
theorem bi__law_sides {K : PySem.W.Frag} {f : Addr} {fd : FuncData} (F : FD K K79H.d__law_sides f fd) : Binds K fd (N__law_sides.take 1) [] := F.bindsN fun _ _ _ _ _ _ us hl => match us, hl with | [_], _ => rfl
theorem sc__law_growth : FnScope N__law_growth (N__law_growth.take 3) (K79H.d__law_growth).scope := ⟨by kernel_rfl, by kernel_rfl, by kernel_rfl, by decide +kernel, rfl, by decide +kernel, by decide +kernel⟩
theorem bi__law_growth {K : PySem.W.Frag} {f : Addr} {fd : FuncData} (F : FD K K79H.d__law_growth f fd) : Binds K fd (N__law_growth.take 3) [] := F.bindsN fun _ _ _ _ _ _ us hl => match us, hl with | [_, _, _], _ => rfl
theorem sc__law_parts : FnScope N__law_parts (N__law_parts.take 1) (K79H.d__law_parts).scope := ⟨by kernel_rfl, by kernel_rfl, by kernel_rfl, by decide +kernel, rfl, by decide +kernel, by decide +kernel⟩
theorem bi__law_parts {K : PySem.W.Frag} {f : Addr} {fd : FuncData} (F : FD K K79H.d__law_parts f fd) : Binds K fd (N__law_parts.take 1) [] := F.bindsN fun _ _ _ _ _ _ us hl => match us, hl with | [_], _ => rfl
theorem sc__law_woven : FnScope N__law_woven (N__law_woven.take 2) (K79H.d__law_woven).scope := ⟨by kernel_rfl, by kernel_rfl, by kernel_rfl, by decide +kernel, rfl, by decide +kernel, by decide +kernel⟩
theorem bi__law_woven {K : PySem.W.Frag} {f : Addr} {fd : FuncData} (F : FD K K79H.d__law_woven f fd) : Binds K fd (N__law_woven.take 2) [] := F.bindsN fun _ _ _ _ _ _ us hl => match us, hl with | [_, _], _ => rfl
theorem sc__law_is_side : FnScope N__law_is_side (N__law_is_side.take 2) (K79H.d__law_is_side).scope := ⟨by kernel_rfl, by kernel_rfl, by kernel_rfl, by decide +kernel, rfl, by decide +kernel, by decide +kernel⟩
theorem bi__law_is_side {K : PySem.W.Frag} {f : Addr} {fd : FuncData} (F : FD K K79H.d__law_is_side f fd) : Binds K fd (N__law_is_side.take 2) [] := F.bindsN fun _ _ _ _ _ _ us hl => match us, hl with | [_, _], _ => rfl
theorem sc__law_turned : FnScope N__law_turned (N__law_turned.take 2) (K79H.d__law_turned).scope := ⟨by kernel_rfl, by kernel_rfl, by kernel_rfl, by decide +kernel, rfl, by decide +kernel, by decide +kernel⟩
theorem bi__law_turned {K : PySem.W.Frag} {f : Addr} {fd : FuncData} (F : FD K K79H.d__law_turned f fd) : Binds K fd (N__law_turned.take 2) [] := F.bindsN fun _ _ _ _ _ _ us hl => match us, hl with | [_, _], _ => rfl
theorem sc__law_first_wrong : FnScope N__law_first_wrong (N__law_first_wrong.take 1) (K79H.d__law_first_wrong).scope := ⟨by kernel_rfl, by kernel_rfl, by kernel_rfl, by decide +kernel, rfl, by decide +kernel, by decide +kernel⟩
theorem bi__law_first_wrong {K : PySem.W.Frag} {f : Addr} {fd : FuncData} (F : FD K K79H.d__law_first_wrong f fd) : Binds K fd (N__law_first_wrong.take 1) [] := F.bindsN fun _ _ _ _ _ _ us hl => match us, hl with | [_], _ => rfl
theorem sc_law : FnScope N_law_k79 (N_law_k79.take 1) (K79H.d_law).scope := ⟨by kernel_rfl, by kernel_rfl, by kernel_rfl, by decide +kernel, rfl, by decide +kernel, by decide +kernel⟩
theorem bi_law {K : PySem.W.Frag} {f : Addr} {fd : FuncData} (F : FD K K79H.d_law f fd) : Binds K fd (N_law_k79.take 1) [] := F.bindsN fun _ _ _ _ _ _ us hl => match us, hl with | [_], _ => rfl
end K79
set_option Elab.async false
set_option linter.all false
set_option maxRecDepth 100000
set_option maxHeartbeats 1000000
/-! K79T: the base table (written by gentab.py). -/
namespace K79
open PySem PySem.Spec PyProof.Rows L2 EV PR
def T0 : Tb := { Γ := fun _ => none, G := fun x => if x = ("MOST_STEPS" : Str) then some (.int 64) else if x = ("MOST_CORNER" : Str) then some (.int 11) else if x = ("MOST_CORNERS" : Str) then some (.int 5) else if x = ("MOST_TIME" : Str) then some (.int 999) else if x = ("LAST_TIME" : Str) then some (.int 999) else none, ats := [(("Growth" : Str), ("steps" : Str))], cls := [("Growth" : Str)], exc := fun x => if x = ("BadNumber" : Str) then some [("what" : Str), ("number" : Str)] else if x = ("BadRow" : Str) then some [("row" : Str)] else if x = ("BadFace" : Str) then some [("face" : Str)] else if x = ("BadGrowth" : Str) then some [("step" : Str)] else if x = ("Unlike" : Str) then some [("what" : Str)] else none }
section
variable {P : Program} {w : World} {K : PySem.W.Frag} {mg : Mg} {h base : Heap}
theorem fine0 (Xb : K.In base) (Gb : base.Ns mainGlobals mg) (c : SaysE K79H.fa K79H.fn K79H.tf K79H.ex h K) : Fine P w K mg base 2 T0 := by
  refine ⟨(fun x F (e : (none : Option FS) = some F) => nomatch e), fun x d e => ?_, fun C x m => ?_, fun n hn => ?_, fun C hC => ?_, (fun x F (e : (none : Option FS) = some F) => nomatch e), (fun l (z : False) => z.elim), (fun f hs (e : (none : Option (List (Str × List HF))) = some hs) => nomatch e)⟩
  · have e : (if x = ("MOST_STEPS" : Str) then some (.int 64) else if x = ("MOST_CORNER" : Str) then some (.int 11) else if x = ("MOST_CORNERS" : Str) then some (.int 5) else if x = ("MOST_TIME" : Str) then some (.int 999) else if x = ("LAST_TIME" : Str) then some (.int 999) else none) = some d := e
    split at e
    · rename_i hx
      subst hx
      cases e
      obtain ⟨t, ht⟩ := He.int_ok Xb Gb (c.t.fact 11 (f := .int "MOST_STEPS" 64) rfl)
      exact ⟨_, .int 64, ht, ⟨t, rfl⟩, .int _⟩
    split at e
    · rename_i hx
      subst hx
      cases e
      obtain ⟨t, ht⟩ := He.int_ok Xb Gb (c.t.fact 12 (f := .int "MOST_CORNER" 11) rfl)
      exact ⟨_, .int 11, ht, ⟨t, rfl⟩, .int _⟩
    split at e
    · rename_i hx
      subst hx
      cases e
      obtain ⟨t, ht⟩ := He.int_ok Xb Gb (c.t.fact 13 (f := .int "MOST_CORNERS" 5) rfl)
      exact ⟨_, .int 5, ht, ⟨t, rfl⟩, .int _⟩
    split at e
    · rename_i hx
      subst hx
      cases e
      obtain ⟨t, ht⟩ := He.int_ok Xb Gb (c.t.fact 14 (f := .int "MOST_TIME" 999) rfl)
      exact ⟨_, .int 999, ht, ⟨t, rfl⟩, .int _⟩
    split at e
    · rename_i hx
      subst hx
      cases e
      obtain ⟨t, ht⟩ := He.int_ok Xb Gb (c.t.fact 20 (f := .int "LAST_TIME" 999) rfl)
      exact ⟨_, .int 999, ht, ⟨t, rfl⟩, .int _⟩
    cases e
  · have m : (C, x) = (("Growth" : Str), ("steps" : Str)) := by simpa [T0] using m
    cases m
    exact ⟨_, He.glo_ok Xb Gb (c.t.fact 19 (f := .glo "Growth") rfl), He.cls_ok (c.t.fact 69 (f := .cls "Growth") rfl), He.noat_ok (c.t.fact 71 (f := .noat "Growth" "steps") rfl)⟩
  · simp only [bnames, List.mem_cons, List.not_mem_nil, or_false] at hn
    rcases hn with rfl | rfl | rfl | rfl | rfl | rfl | rfl | rfl | rfl | rfl | rfl | rfl | rfl | rfl | rfl | rfl | rfl | rfl | rfl | rfl
    · exact He.free_ok Xb Gb (c.t.fact 43 (f := .free "len") rfl)
    · exact He.free_ok Xb Gb (c.t.fact 44 (f := .free "tuple") rfl)
    · exact He.free_ok Xb Gb (c.t.fact 45 (f := .free "list") rfl)
    · exact He.free_ok Xb Gb (c.t.fact 46 (f := .free "all") rfl)
    · exact He.free_ok Xb Gb (c.t.fact 47 (f := .free "any") rfl)
    · exact He.free_ok Xb Gb (c.t.fact 48 (f := .free "sum") rfl)
    · exact He.free_ok Xb Gb (c.t.fact 49 (f := .free "int") rfl)
    · exact He.free_ok Xb Gb (c.t.fact 50 (f := .free "max") rfl)
    · exact He.free_ok Xb Gb (c.t.fact 51 (f := .free "min") rfl)
    · exact He.free_ok Xb Gb (c.t.fact 52 (f := .free "abs") rfl)
    · exact He.free_ok Xb Gb (c.t.fact 53 (f := .free "range") rfl)
    · exact He.free_ok Xb Gb (c.t.fact 54 (f := .free "zip") rfl)
    · exact He.free_ok Xb Gb (c.t.fact 55 (f := .free "isinstance") rfl)
    · exact He.free_ok Xb Gb (c.t.fact 56 (f := .free "bool") rfl)
    · exact He.free_ok Xb Gb (c.t.fact 57 (f := .free "str") rfl)
    · exact He.free_ok Xb Gb (c.t.fact 58 (f := .free "dict") rfl)
    · exact He.free_ok Xb Gb (c.t.fact 59 (f := .free "repr") rfl)
    · exact He.free_ok Xb Gb (c.t.fact 60 (f := .free "sorted") rfl)
    · exact He.free_ok Xb Gb (c.t.fact 61 (f := .free "set") rfl)
    · exact He.free_ok Xb Gb (c.t.fact 62 (f := .free "reversed") rfl)
  · have hC : C = ("Growth" : Str) := by simpa [T0] using hC
    subst hC
    have ty : tysB K79H.clss K = true := (Bool.and_eq_true_iff.mp c.more).2
    obtain ⟨t1, t2, t3, t4⟩ := tysB_ok ty (C := "Growth") (by simp [K79H.clss])
    have cl := He.cls_ok (c.t.fact 69 (f := .cls "Growth") rfl)
    refine ⟨_, He.glo_ok Xb Gb (c.t.fact 19 (f := .glo "Growth") rfl), fun H a dx fs e => insB_ok t1 cl e, t2, t3, fun C' hC' Cb hm => ?_⟩
    have hC' : C' = ("Growth" : Str) := by simpa [T0] using hC'
    subst hC'
    have e := (He.glo_ok Xb Gb (c.t.fact 19 (f := .glo "Growth") rfl)).symm.trans hm
    cases e
    exact t4 _ (by simp [K79H.clss])
theorem finex0 (Xb : K.In base) (Gb : base.Ns mainGlobals mg) (c : SaysE K79H.fa K79H.fn K79H.tf K79H.ex h K) : FineX P w K mg base 2 T0 := by
  have ex : excsB "HoleError" K79H.excs K = true := (Bool.and_eq_true_iff.mp c.more).1
  obtain ⟨bas, exs⟩ := excsB_ok ex
  refine ⟨fun C ns e => ?_⟩
  have e : (if C = ("BadNumber" : Str) then some [("what" : Str), ("number" : Str)] else if C = ("BadRow" : Str) then some [("row" : Str)] else if C = ("BadFace" : Str) then some [("face" : Str)] else if C = ("BadGrowth" : Str) then some [("step" : Str)] else if C = ("Unlike" : Str) then some [("what" : Str)] else none) = some ns := e
  split at e
  · rename_i hx
    subst hx
    cases e
    obtain ⟨o1, ⟨o2, o3⟩, o4⟩ := exs (("BadNumber" : Str), [("what" : Str), ("number" : Str)]) (by simp [K79H.excs])
    obtain ⟨fd, F⟩ := c.t.def_ 0 (d := K79H.d_BadNumber___init__) rfl
    have S : FnScope [("self" : Str), ("what" : Str), ("number" : Str)] [("self" : Str), ("what" : Str), ("number" : Str)] (K79H.d_BadNumber___init__).scope := ⟨by kernel_rfl, by kernel_rfl, by kernel_rfl, by decide +kernel, rfl, by decide +kernel, by decide +kernel⟩
    have ok := exc_init (C := He.ga K ("BadNumber" : Str)) (P := P) (w := w) (mg := mg) (base := base) F S (fields := [("what" : Str), ("number" : Str)]) rfl ok_BadNumber___init__ (He.glo_ok Xb Gb (c.t.fact 0 (f := .glo "HoleError") rfl)) bas
    refine ⟨_, He.glo_ok Xb Gb (c.t.fact 1 (f := .glo "BadNumber") rfl), o1, fun f hf => ?_, by simp, by simp, mk_of o1 o2 o3 ok (FunD.bindsN F fun _ _ _ _ _ _ us hl => match us, hl with | [_, _, _], _ => rfl) (He.glo_ok Xb Gb (c.t.fact 1 (f := .glo "BadNumber") rfl))⟩
    simp only [List.mem_cons, List.not_mem_nil, or_false] at hf
    rcases hf with rfl | rfl
    · exact He.noat_ok (c.t.fact 63 (f := .noat "BadNumber" "what") rfl)
    · exact He.noat_ok (c.t.fact 64 (f := .noat "BadNumber" "number") rfl)
  split at e
  · rename_i hx
    subst hx
    cases e
    obtain ⟨o1, ⟨o2, o3⟩, o4⟩ := exs (("BadRow" : Str), [("row" : Str)]) (by simp [K79H.excs])
    obtain ⟨fd, F⟩ := c.t.def_ 1 (d := K79H.d_BadRow___init__) rfl
    have S : FnScope [("self" : Str), ("row" : Str)] [("self" : Str), ("row" : Str)] (K79H.d_BadRow___init__).scope := ⟨by kernel_rfl, by kernel_rfl, by kernel_rfl, by decide +kernel, rfl, by decide +kernel, by decide +kernel⟩
    have ok := exc_init (C := He.ga K ("BadRow" : Str)) (P := P) (w := w) (mg := mg) (base := base) F S (fields := [("row" : Str)]) rfl ok_BadRow___init__ (He.glo_ok Xb Gb (c.t.fact 0 (f := .glo "HoleError") rfl)) bas
    refine ⟨_, He.glo_ok Xb Gb (c.t.fact 2 (f := .glo "BadRow") rfl), o1, fun f hf => ?_, by simp, by simp, mk_of o1 o2 o3 ok (FunD.bindsN F fun _ _ _ _ _ _ us hl => match us, hl with | [_, _], _ => rfl) (He.glo_ok Xb Gb (c.t.fact 2 (f := .glo "BadRow") rfl))⟩
    simp only [List.mem_cons, List.not_mem_nil, or_false] at hf
    rcases hf with rfl
    · exact He.noat_ok (c.t.fact 65 (f := .noat "BadRow" "row") rfl)
  split at e
  · rename_i hx
    subst hx
    cases e
    obtain ⟨o1, ⟨o2, o3⟩, o4⟩ := exs (("BadFace" : Str), [("face" : Str)]) (by simp [K79H.excs])
    obtain ⟨fd, F⟩ := c.t.def_ 2 (d := K79H.d_BadFace___init__) rfl
    have S : FnScope [("self" : Str), ("face" : Str)] [("self" : Str), ("face" : Str)] (K79H.d_BadFace___init__).scope := ⟨by kernel_rfl, by kernel_rfl, by kernel_rfl, by decide +kernel, rfl, by decide +kernel, by decide +kernel⟩
    have ok := exc_init (C := He.ga K ("BadFace" : Str)) (P := P) (w := w) (mg := mg) (base := base) F S (fields := [("face" : Str)]) rfl ok_BadFace___init__ (He.glo_ok Xb Gb (c.t.fact 0 (f := .glo "HoleError") rfl)) bas
    refine ⟨_, He.glo_ok Xb Gb (c.t.fact 3 (f := .glo "BadFace") rfl), o1, fun f hf => ?_, by simp, by simp, mk_of o1 o2 o3 ok (FunD.bindsN F fun _ _ _ _ _ _ us hl => match us, hl with | [_, _], _ => rfl) (He.glo_ok Xb Gb (c.t.fact 3 (f := .glo "BadFace") rfl))⟩
    simp only [List.mem_cons, List.not_mem_nil, or_false] at hf
    rcases hf with rfl
    · exact He.noat_ok (c.t.fact 66 (f := .noat "BadFace" "face") rfl)
  split at e
  · rename_i hx
    subst hx
    cases e
    obtain ⟨o1, ⟨o2, o3⟩, o4⟩ := exs (("BadGrowth" : Str), [("step" : Str)]) (by simp [K79H.excs])
    obtain ⟨fd, F⟩ := c.t.def_ 3 (d := K79H.d_BadGrowth___init__) rfl
    have S : FnScope [("self" : Str), ("step" : Str)] [("self" : Str), ("step" : Str)] (K79H.d_BadGrowth___init__).scope := ⟨by kernel_rfl, by kernel_rfl, by kernel_rfl, by decide +kernel, rfl, by decide +kernel, by decide +kernel⟩
    have ok := exc_init (C := He.ga K ("BadGrowth" : Str)) (P := P) (w := w) (mg := mg) (base := base) F S (fields := [("step" : Str)]) rfl ok_BadGrowth___init__ (He.glo_ok Xb Gb (c.t.fact 0 (f := .glo "HoleError") rfl)) bas
    refine ⟨_, He.glo_ok Xb Gb (c.t.fact 4 (f := .glo "BadGrowth") rfl), o1, fun f hf => ?_, by simp, by simp, mk_of o1 o2 o3 ok (FunD.bindsN F fun _ _ _ _ _ _ us hl => match us, hl with | [_, _], _ => rfl) (He.glo_ok Xb Gb (c.t.fact 4 (f := .glo "BadGrowth") rfl))⟩
    simp only [List.mem_cons, List.not_mem_nil, or_false] at hf
    rcases hf with rfl
    · exact He.noat_ok (c.t.fact 67 (f := .noat "BadGrowth" "step") rfl)
  split at e
  · rename_i hx
    subst hx
    cases e
    obtain ⟨o1, ⟨o2, o3⟩, o4⟩ := exs (("Unlike" : Str), [("what" : Str)]) (by simp [K79H.excs])
    obtain ⟨fd, F⟩ := c.t.def_ 4 (d := K79H.d_Unlike___init__) rfl
    have S : FnScope [("self" : Str), ("what" : Str)] [("self" : Str), ("what" : Str)] (K79H.d_Unlike___init__).scope := ⟨by kernel_rfl, by kernel_rfl, by kernel_rfl, by decide +kernel, rfl, by decide +kernel, by decide +kernel⟩
    have ok := exc_init (C := He.ga K ("Unlike" : Str)) (P := P) (w := w) (mg := mg) (base := base) F S (fields := [("what" : Str)]) rfl ok_Unlike___init__ (He.glo_ok Xb Gb (c.t.fact 0 (f := .glo "HoleError") rfl)) bas
    refine ⟨_, He.glo_ok Xb Gb (c.t.fact 5 (f := .glo "Unlike") rfl), o1, fun f hf => ?_, by simp, by simp, mk_of o1 o2 o3 ok (FunD.bindsN F fun _ _ _ _ _ _ us hl => match us, hl with | [_, _], _ => rfl) (He.glo_ok Xb Gb (c.t.fact 5 (f := .glo "Unlike") rfl))⟩
    simp only [List.mem_cons, List.not_mem_nil, or_false] at hf
    rcases hf with rfl
    · exact He.noat_ok (c.t.fact 68 (f := .noat "Unlike" "what") rfl)
  cases e
end
end K79
set_option Elab.async false
set_option linter.all false
set_option maxRecDepth 100000
set_option maxHeartbeats 1000000
/-! K79U: the chain of tables (written by genchain.py). -/
namespace K79
open PySem PySem.Spec PyProof.Rows L2 EV PR
def T1 : Tb := PR.add T0 "is_whole" (P1 whole)
def T2 : Tb := PR.add T1 "is_row" (P1 rowF)
def T3 : Tb := PR.add T2 "in_tuples" (P1 (inT 0))
def T4 : Tb := PR.add T3 "in_tuples" (P1 (inT 1))
def T5 : Tb := PR.add T4 "in_tuples" (P1 (inT 2))
def T6 : Tb := PR.add T5 "in_tuples" (P1 (inT 3))
def T7 : Tb := PR.add T6 "is_tuple_of" (P2 tupOf)
def T8 : Tb := PR.add T7 "need_between" (P4 needF)
def T9 : Tb := PR.add T8 "is_face" (P1 (faceF 1000))
def T10 : Tb := PR.add T9 "sides_of" (P1 (sidesF 1000))
def T11 : Tb := PR.add T10 "sides" (P1 sidesV)
def T12 : Tb := PR.add T11 "is_step" (stepF)
def T13 : Tb := PR.add T12 "Growth" (growC)
def T14 : Tb := PR.add T13 "need_growth" (P1 needG)
def T15 : Tb := PR.add T14 "is_side" (P2 isSideV)
def T16 : Tb := PR.add T15 "need_exchange" (needExF)
def T17 : Tb := PR.add T16 "exchanged_at" (exAtF)
def T18 : Tb := PR.add T17 "exchanged" (exF)
def T19 : Tb := PR.add T18 "timed_anew" (anewF)
def T20 : Tb := PR.add T19 "put_in" (putF)
def T21 : Tb := PR.add T20 "taken_out" (takF)
def T22 : Tb := PR.add T21 "_law_draw" (drawF)
def T23 : Tb := PR.add T22 "_law_pick" (pickF)
def T24 : Tb := PR.add T23 "_law_shuffled" (shufF)
def T25 : Tb := PR.add T24 "_law_is_int" (P1 whole)
def T26 : Tb := PR.add T25 "_law_sides" (P1 lawSidesV)
def T27 : Tb := PR.add T26 "_law_parts" (partsF)
def T28 : Tb := PR.add T27 "_law_woven" (wovenF)
def T29 : Tb := PR.add T28 "_law_growth" (lgF)
def T30 : Tb := PR.add T29 "_law_is_side" (P2 lawSideV)
def T31 : Tb := PR.add T30 "_law_turned" (turnF)
def T32 : Tb := PR.add T31 "_law_first_wrong" (firstF)
def T33 : Tb := PR.addF T32 "_law_pen" (penF)
section
variable {P : Program} {w : World} {K : PySem.W.Frag} {mg : Mg} {h base : Heap}
theorem hold0 (Xb : K.In base) (Gb : base.Ns mainGlobals mg) (c : SaysE K79H.fa K79H.fn K79H.tf K79H.ex h K) : Hold P w K mg base 2 T0 := ⟨fine0 Xb Gb c, finex0 Xb Gb c, rfl, fun _ z => z, fun _ => rfl⟩
theorem hold1 (Xb : K.In base) (Gb : base.Ns mainGlobals mg) (c : SaysE K79H.fa K79H.fn K79H.tf K79H.ex h K) : Hold P w K mg base 3 T1 := by
  have H := hold0 (P := P) (w := w) Xb Gb c
  obtain ⟨fd, F⟩ := c.t.def_ 5 (d := K79H.d_is_whole) rfl
  exact H.add (He.glo_ok Xb Gb (c.t.fact 6 (f := .glo "is_whole") rfl)) F sc_is_whole ok_is_whole (bi_is_whole F) hF_is_whole
theorem hold2 (Xb : K.In base) (Gb : base.Ns mainGlobals mg) (c : SaysE K79H.fa K79H.fn K79H.tf K79H.ex h K) : Hold P w K mg base 4 T2 := by
  have H := hold1 (P := P) (w := w) Xb Gb c
  obtain ⟨fd, F⟩ := c.t.def_ 6 (d := K79H.d_is_row) rfl
  exact H.add (He.glo_ok Xb Gb (c.t.fact 7 (f := .glo "is_row") rfl)) F sc_is_row ok_is_row (bi_is_row F) hF_is_row
theorem hold3 (Xb : K.In base) (Gb : base.Ns mainGlobals mg) (c : SaysE K79H.fa K79H.fn K79H.tf K79H.ex h K) : Hold P w K mg base 5 T3 := by
  have H := hold2 (P := P) (w := w) Xb Gb c
  obtain ⟨fd, F⟩ := c.t.def_ 7 (d := K79H.d_in_tuples) rfl
  exact H.add (He.glo_ok Xb Gb (c.t.fact 8 (f := .glo "in_tuples") rfl)) F sc_in_tuples ok_in_tuples (bi_in_tuples F) (hF_in_tuples0 rfl)
theorem hold4 (Xb : K.In base) (Gb : base.Ns mainGlobals mg) (c : SaysE K79H.fa K79H.fn K79H.tf K79H.ex h K) : Hold P w K mg base 6 T4 := by
  have H := hold3 (P := P) (w := w) Xb Gb c
  obtain ⟨fd, F⟩ := c.t.def_ 7 (d := K79H.d_in_tuples) rfl
  exact H.add (He.glo_ok Xb Gb (c.t.fact 8 (f := .glo "in_tuples") rfl)) F sc_in_tuples ok_in_tuples (bi_in_tuples F) (hF_in_tuples (n := 0) rfl rfl)
theorem hold5 (Xb : K.In base) (Gb : base.Ns mainGlobals mg) (c : SaysE K79H.fa K79H.fn K79H.tf K79H.ex h K) : Hold P w K mg base 7 T5 := by
  have H := hold4 (P := P) (w := w) Xb Gb c
  obtain ⟨fd, F⟩ := c.t.def_ 7 (d := K79H.d_in_tuples) rfl
  exact H.add (He.glo_ok Xb Gb (c.t.fact 8 (f := .glo "in_tuples") rfl)) F sc_in_tuples ok_in_tuples (bi_in_tuples F) (hF_in_tuples (n := 1) rfl rfl)
theorem hold6 (Xb : K.In base) (Gb : base.Ns mainGlobals mg) (c : SaysE K79H.fa K79H.fn K79H.tf K79H.ex h K) : Hold P w K mg base 8 T6 := by
  have H := hold5 (P := P) (w := w) Xb Gb c
  obtain ⟨fd, F⟩ := c.t.def_ 7 (d := K79H.d_in_tuples) rfl
  exact H.add (He.glo_ok Xb Gb (c.t.fact 8 (f := .glo "in_tuples") rfl)) F sc_in_tuples ok_in_tuples (bi_in_tuples F) (hF_in_tuples (n := 2) rfl rfl)
theorem hold7 (Xb : K.In base) (Gb : base.Ns mainGlobals mg) (c : SaysE K79H.fa K79H.fn K79H.tf K79H.ex h K) : Hold P w K mg base 9 T7 := by
  have H := hold6 (P := P) (w := w) Xb Gb c
  obtain ⟨fd, F⟩ := c.t.def_ 8 (d := K79H.d_is_tuple_of) rfl
  exact H.add (He.glo_ok Xb Gb (c.t.fact 9 (f := .glo "is_tuple_of") rfl)) F sc_is_tuple_of ok_is_tuple_of (bi_is_tuple_of F) hF_is_tuple_of
theorem hold8 (Xb : K.In base) (Gb : base.Ns mainGlobals mg) (c : SaysE K79H.fa K79H.fn K79H.tf K79H.ex h K) : Hold P w K mg base 10 T8 := by
  have H := hold7 (P := P) (w := w) Xb Gb c
  obtain ⟨fd, F⟩ := c.t.def_ 9 (d := K79H.d_need_between) rfl
  exact H.add (He.glo_ok Xb Gb (c.t.fact 10 (f := .glo "need_between") rfl)) F sc_need_between ok_need_between (bi_need_between F) (hF_need_between rfl rfl)
theorem hold9 (Xb : K.In base) (Gb : base.Ns mainGlobals mg) (c : SaysE K79H.fa K79H.fn K79H.tf K79H.ex h K) : Hold P w K mg base 11 T9 := by
  have H := hold8 (P := P) (w := w) Xb Gb c
  obtain ⟨fd, F⟩ := c.t.def_ 10 (d := K79H.d_is_face) rfl
  exact H.add (He.glo_ok Xb Gb (c.t.fact 15 (f := .glo "is_face") rfl)) F sc_is_face ok_is_face (bi_is_face F) (hF_is_face ⟨rfl, rfl, rfl⟩)
theorem hold10 (Xb : K.In base) (Gb : base.Ns mainGlobals mg) (c : SaysE K79H.fa K79H.fn K79H.tf K79H.ex h K) : Hold P w K mg base 12 T10 := by
  have H := hold9 (P := P) (w := w) Xb Gb c
  obtain ⟨fd, F⟩ := c.t.def_ 11 (d := K79H.d_sides_of) rfl
  exact H.add (He.glo_ok Xb Gb (c.t.fact 16 (f := .glo "sides_of") rfl)) F sc_sides_of ok_sides_of (bi_sides_of F) hF_sides_of
theorem hold11 (Xb : K.In base) (Gb : base.Ns mainGlobals mg) (c : SaysE K79H.fa K79H.fn K79H.tf K79H.ex h K) : Hold P w K mg base 13 T11 := by
  have H := hold10 (P := P) (w := w) Xb Gb c
  obtain ⟨fd, F⟩ := c.t.def_ 12 (d := K79H.d_sides) rfl
  exact H.add (He.glo_ok Xb Gb (c.t.fact 17 (f := .glo "sides") rfl)) F sc_sides ok_sides (bi_sides F) (hF_sides ⟨rfl, rfl, rfl⟩)
theorem hold12 (Xb : K.In base) (Gb : base.Ns mainGlobals mg) (c : SaysE K79H.fa K79H.fn K79H.tf K79H.ex h K) : Hold P w K mg base 14 T12 := by
  have H := hold11 (P := P) (w := w) Xb Gb c
  obtain ⟨fd, F⟩ := c.t.def_ 13 (d := K79H.d_is_step) rfl
  exact H.add (He.glo_ok Xb Gb (c.t.fact 18 (f := .glo "is_step") rfl)) F sc_is_step ok_is_step (bi_is_step F) (hF_is_step ⟨rfl, rfl, rfl, rfl⟩)
theorem hold13 (Xb : K.In base) (Gb : base.Ns mainGlobals mg) (c : SaysE K79H.fa K79H.fn K79H.tf K79H.ex h K) : Hold P w K mg base 16 T13 := by
  have H := hold12 (P := P) (w := w) Xb Gb c
  obtain ⟨fd, F⟩ := c.t.def_ 14 (d := K79H.d_Growth___init__) rfl
  exact H.up.add_cal (He.glo_ok Xb Gb (c.t.fact 19 (f := .glo "Growth") rfl)) (He.mkr_ok (c.t.fact 70 (f := .mkr "Growth") rfl)).kp ((cls_sound (C := "Growth") (He.mkr_ok (c.t.fact 70 (f := .mkr "Growth") rfl)) (fn_sound (F0 := initF) F sc_Growth___init__ H.f H.x H.m ok_Growth___init__ (hF_growth ⟨rfl, rfl, rfl, rfl, rfl, rfl, List.mem_cons_self⟩)) (bi_Growth___init__ F) (He.glo_ok Xb Gb (c.t.fact 19 (f := .glo "Growth") rfl))).imp fun _ _ _ _ h => spF_imp (fun _ _ _ h => growC_init h) h)
theorem hold14 (Xb : K.In base) (Gb : base.Ns mainGlobals mg) (c : SaysE K79H.fa K79H.fn K79H.tf K79H.ex h K) : Hold P w K mg base 17 T14 := by
  have H := hold13 (P := P) (w := w) Xb Gb c
  obtain ⟨fd, F⟩ := c.t.def_ 17 (d := K79H.d_need_growth) rfl
  exact H.add (He.glo_ok Xb Gb (c.t.fact 21 (f := .glo "need_growth") rfl)) F sc_need_growth ok_need_growth (bi_need_growth F) (hF_need_growth ⟨List.mem_cons_self, List.mem_cons_self, rfl, rfl, rfl, rfl⟩)
theorem hold15 (Xb : K.In base) (Gb : base.Ns mainGlobals mg) (c : SaysE K79H.fa K79H.fn K79H.tf K79H.ex h K) : Hold P w K mg base 18 T15 := by
  have H := hold14 (P := P) (w := w) Xb Gb c
  obtain ⟨fd, F⟩ := c.t.def_ 18 (d := K79H.d_is_side) rfl
  exact H.add (He.glo_ok Xb Gb (c.t.fact 22 (f := .glo "is_side") rfl)) F sc_is_side ok_is_side (bi_is_side F) (hF_is_side rfl)
theorem hold16 (Xb : K.In base) (Gb : base.Ns mainGlobals mg) (c : SaysE K79H.fa K79H.fn K79H.tf K79H.ex h K) : Hold P w K mg base 19 T16 := by
  have H := hold15 (P := P) (w := w) Xb Gb c
  obtain ⟨fd, F⟩ := c.t.def_ 19 (d := K79H.d_need_exchange) rfl
  exact H.add (He.glo_ok Xb Gb (c.t.fact 23 (f := .glo "need_exchange") rfl)) F sc_need_exchange ok_need_exchange (bi_need_exchange F) (hF_need_exchange ⟨⟨List.mem_cons_self, List.mem_cons_self, rfl, rfl, rfl, rfl⟩, rfl, rfl, rfl, rfl, rfl, rfl, rfl⟩)
theorem hold17 (Xb : K.In base) (Gb : base.Ns mainGlobals mg) (c : SaysE K79H.fa K79H.fn K79H.tf K79H.ex h K) : Hold P w K mg base 20 T17 := by
  have H := hold16 (P := P) (w := w) Xb Gb c
  obtain ⟨fd, F⟩ := c.t.def_ 20 (d := K79H.d_exchanged_at) rfl
  exact H.add (He.glo_ok Xb Gb (c.t.fact 24 (f := .glo "exchanged_at") rfl)) F sc_exchanged_at ok_exchanged_at (bi_exchanged_at F) (hF_exchanged_at ⟨⟨List.mem_cons_self, List.mem_cons_self, rfl, rfl, rfl, rfl⟩, rfl, rfl, rfl, rfl, rfl, rfl, rfl⟩)
theorem hold18 (Xb : K.In base) (Gb : base.Ns mainGlobals mg) (c : SaysE K79H.fa K79H.fn K79H.tf K79H.ex h K) : Hold P w K mg base 21 T18 := by
  have H := hold17 (P := P) (w := w) Xb Gb c
  obtain ⟨fd, F⟩ := c.t.def_ 21 (d := K79H.d_exchanged) rfl
  exact H.add (He.glo_ok Xb Gb (c.t.fact 25 (f := .glo "exchanged") rfl)) F sc_exchanged ok_exchanged (bi_exchanged F) (hF_exchanged ⟨⟨⟨List.mem_cons_self, List.mem_cons_self, rfl, rfl, rfl, rfl⟩, rfl, rfl, rfl, rfl, rfl, rfl, rfl⟩, rfl, rfl⟩)
theorem hold19 (Xb : K.In base) (Gb : base.Ns mainGlobals mg) (c : SaysE K79H.fa K79H.fn K79H.tf K79H.ex h K) : Hold P w K mg base 22 T19 := by
  have H := hold18 (P := P) (w := w) Xb Gb c
  obtain ⟨fd, F⟩ := c.t.def_ 22 (d := K79H.d_timed_anew) rfl
  exact H.add (He.glo_ok Xb Gb (c.t.fact 26 (f := .glo "timed_anew") rfl)) F sc_timed_anew ok_timed_anew (bi_timed_anew F) (hF_timed ⟨⟨List.mem_cons_self, List.mem_cons_self, rfl, rfl, rfl, rfl⟩, rfl, rfl, rfl, rfl, rfl, rfl, rfl⟩)
theorem hold20 (Xb : K.In base) (Gb : base.Ns mainGlobals mg) (c : SaysE K79H.fa K79H.fn K79H.tf K79H.ex h K) : Hold P w K mg base 23 T20 := by
  have H := hold19 (P := P) (w := w) Xb Gb c
  obtain ⟨fd, F⟩ := c.t.def_ 23 (d := K79H.d_put_in) rfl
  exact H.add (He.glo_ok Xb Gb (c.t.fact 27 (f := .glo "put_in") rfl)) F sc_put_in ok_put_in (bi_put_in F) (hF_put ⟨⟨List.mem_cons_self, List.mem_cons_self, rfl, rfl, rfl, rfl⟩, rfl, rfl, rfl, rfl, rfl, rfl, rfl⟩)
theorem hold21 (Xb : K.In base) (Gb : base.Ns mainGlobals mg) (c : SaysE K79H.fa K79H.fn K79H.tf K79H.ex h K) : Hold P w K mg base 24 T21 := by
  have H := hold20 (P := P) (w := w) Xb Gb c
  obtain ⟨fd, F⟩ := c.t.def_ 24 (d := K79H.d_taken_out) rfl
  exact H.add (He.glo_ok Xb Gb (c.t.fact 28 (f := .glo "taken_out") rfl)) F sc_taken_out ok_taken_out (bi_taken_out F) (hF_taken ⟨⟨List.mem_cons_self, List.mem_cons_self, rfl, rfl, rfl, rfl⟩, rfl, rfl, rfl, rfl, rfl, rfl, rfl⟩)
theorem hold22 (Xb : K.In base) (Gb : base.Ns mainGlobals mg) (c : SaysE K79H.fa K79H.fn K79H.tf K79H.ex h K) : Hold P w K mg base 25 T22 := by
  have H := hold21 (P := P) (w := w) Xb Gb c
  obtain ⟨fd, F⟩ := c.t.def_ 26 (d := K79H.d__law_draw) rfl
  exact H.add_cal (He.glo_ok Xb Gb (c.t.fact 30 (f := .glo "_law_draw") rfl)) F.kp ((H.cal F sc__law_draw ok__law_draw (bi__law_draw F) (F0 := drawK) hF_draw).imp fun _ _ _ _ h => draw_imp h)
theorem hold23 (Xb : K.In base) (Gb : base.Ns mainGlobals mg) (c : SaysE K79H.fa K79H.fn K79H.tf K79H.ex h K) : Hold P w K mg base 26 T23 := by
  have H := hold22 (P := P) (w := w) Xb Gb c
  obtain ⟨fd, F⟩ := c.t.def_ 27 (d := K79H.d__law_pick) rfl
  exact H.add (He.glo_ok Xb Gb (c.t.fact 31 (f := .glo "_law_pick") rfl)) F sc__law_pick ok__law_pick (bi__law_pick F) (hF_pick rfl)
theorem hold24 (Xb : K.In base) (Gb : base.Ns mainGlobals mg) (c : SaysE K79H.fa K79H.fn K79H.tf K79H.ex h K) : Hold P w K mg base 27 T24 := by
  have H := hold23 (P := P) (w := w) Xb Gb c
  obtain ⟨fd, F⟩ := c.t.def_ 28 (d := K79H.d__law_shuffled) rfl
  exact H.add (He.glo_ok Xb Gb (c.t.fact 32 (f := .glo "_law_shuffled") rfl)) F sc__law_shuffled ok__law_shuffled (bi__law_shuffled F) (hF_shuffled rfl)
theorem hold25 (Xb : K.In base) (Gb : base.Ns mainGlobals mg) (c : SaysE K79H.fa K79H.fn K79H.tf K79H.ex h K) : Hold P w K mg base 28 T25 := by
  have H := hold24 (P := P) (w := w) Xb Gb c
  obtain ⟨fd, F⟩ := c.t.def_ 29 (d := K79H.d__law_is_int) rfl
  exact H.add (He.glo_ok Xb Gb (c.t.fact 33 (f := .glo "_law_is_int") rfl)) F sc__law_is_int ok__law_is_int (bi__law_is_int F) hF_law_is_int
theorem hold26 (Xb : K.In base) (Gb : base.Ns mainGlobals mg) (c : SaysE K79H.fa K79H.fn K79H.tf K79H.ex h K) : Hold P w K mg base 29 T26 := by
  have H := hold25 (P := P) (w := w) Xb Gb c
  obtain ⟨fd, F⟩ := c.t.def_ 30 (d := K79H.d__law_sides) rfl
  exact H.add (He.glo_ok Xb Gb (c.t.fact 34 (f := .glo "_law_sides") rfl)) F sc__law_sides ok__law_sides (bi__law_sides F) hF_law_sides
theorem hold27 (Xb : K.In base) (Gb : base.Ns mainGlobals mg) (c : SaysE K79H.fa K79H.fn K79H.tf K79H.ex h K) : Hold P w K mg base 30 T27 := by
  have H := hold26 (P := P) (w := w) Xb Gb c
  obtain ⟨fd, F⟩ := c.t.def_ 32 (d := K79H.d__law_parts) rfl
  exact H.add (He.glo_ok Xb Gb (c.t.fact 36 (f := .glo "_law_parts") rfl)) F sc__law_parts ok__law_parts (bi__law_parts F) hF_parts
theorem hold28 (Xb : K.In base) (Gb : base.Ns mainGlobals mg) (c : SaysE K79H.fa K79H.fn K79H.tf K79H.ex h K) : Hold P w K mg base 31 T28 := by
  have H := hold27 (P := P) (w := w) Xb Gb c
  obtain ⟨fd, F⟩ := c.t.def_ 33 (d := K79H.d__law_woven) rfl
  exact H.add (He.glo_ok Xb Gb (c.t.fact 37 (f := .glo "_law_woven") rfl)) F sc__law_woven ok__law_woven (bi__law_woven F) (hF_woven ⟨rfl, rfl⟩)
theorem hold29 (Xb : K.In base) (Gb : base.Ns mainGlobals mg) (c : SaysE K79H.fa K79H.fn K79H.tf K79H.ex h K) : Hold P w K mg base 32 T29 := by
  have H := hold28 (P := P) (w := w) Xb Gb c
  obtain ⟨fd, F⟩ := c.t.def_ 31 (d := K79H.d__law_growth) rfl
  exact H.add (He.glo_ok Xb Gb (c.t.fact 35 (f := .glo "_law_growth") rfl)) F sc__law_growth ok__law_growth (bi__law_growth F) (hF_law_growth ⟨rfl, rfl, rfl, rfl, rfl⟩)
theorem hold30 (Xb : K.In base) (Gb : base.Ns mainGlobals mg) (c : SaysE K79H.fa K79H.fn K79H.tf K79H.ex h K) : Hold P w K mg base 33 T30 := by
  have H := hold29 (P := P) (w := w) Xb Gb c
  obtain ⟨fd, F⟩ := c.t.def_ 35 (d := K79H.d__law_is_side) rfl
  exact H.add (He.glo_ok Xb Gb (c.t.fact 39 (f := .glo "_law_is_side") rfl)) F sc__law_is_side ok__law_is_side (bi__law_is_side F) hF_law_is_side
theorem hold31 (Xb : K.In base) (Gb : base.Ns mainGlobals mg) (c : SaysE K79H.fa K79H.fn K79H.tf K79H.ex h K) : Hold P w K mg base 34 T31 := by
  have H := hold30 (P := P) (w := w) Xb Gb c
  obtain ⟨fd, F⟩ := c.t.def_ 36 (d := K79H.d__law_turned) rfl
  exact H.add (He.glo_ok Xb Gb (c.t.fact 40 (f := .glo "_law_turned") rfl)) F sc__law_turned ok__law_turned (bi__law_turned F) hF_law_turned
theorem hold32 (Xb : K.In base) (Gb : base.Ns mainGlobals mg) (c : SaysE K79H.fa K79H.fn K79H.tf K79H.ex h K) : Hold P w K mg base 35 T32 := by
  have H := hold31 (P := P) (w := w) Xb Gb c
  obtain ⟨fd, F⟩ := c.t.def_ 37 (d := K79H.d__law_first_wrong) rfl
  exact H.add (He.glo_ok Xb Gb (c.t.fact 41 (f := .glo "_law_first_wrong") rfl)) F sc__law_first_wrong ok__law_first_wrong (bi__law_first_wrong F) (hF_law_first ⟨rfl, rfl⟩)
theorem hold33 (Xb : K.In base) (Gb : base.Ns mainGlobals mg) (c : SaysE K79H.fa K79H.fn K79H.tf K79H.ex h K) : Hold P w K mg base 36 T33 := by
  have H := hold32 (P := P) (w := w) Xb Gb c
  obtain ⟨fd, F⟩ := c.t.def_ 25 (d := K79H.d__law_pen) rfl
  exact H.addF (He.glo_ok Xb Gb (c.t.fact 29 (f := .glo "_law_pen") rfl)) F sc__law_pen ok__law_pen (bi__law_pen F) hF_pen
end
end K79
set_option Elab.async false
set_option linter.all false
set_option maxRecDepth 100000
set_option maxHeartbeats 1000000
/-! K79V: the law (written by genend.py). -/
namespace K79
open PySem PySem.Spec PyProof.Rows L2 EV PR
section
variable {P : Program} {w : World} {K : PySem.W.Frag} {mg : Mg} {h base : Heap}
theorem ca_of {x : Str} {a : Addr} (e : mg x = some (.ref a)) : caOf mg x = a := by unfold caOf; rw [e]
theorem hand0 (Xb : K.In base) (Gb : base.Ns mainGlobals mg) (c : SaysE K79H.fa K79H.fn K79H.tf K79H.ex h K) : HandF K mg handE := by
  have ex : excsB "HoleError" K79H.excs K = true := (Bool.and_eq_true_iff.mp c.more).1
  obtain ⟨bas, exs⟩ := excsB_ok ex
  have g_BadGrowth := (He.glo_ok Xb Gb (c.t.fact 4 (f := .glo "BadGrowth") rfl))
  have a_BadGrowth := ca_of g_BadGrowth
  have g_BadNumber := (He.glo_ok Xb Gb (c.t.fact 1 (f := .glo "BadNumber") rfl))
  have a_BadNumber := ca_of g_BadNumber
  have g_BadRow := (He.glo_ok Xb Gb (c.t.fact 2 (f := .glo "BadRow") rfl))
  have a_BadRow := ca_of g_BadRow
  have g_Unlike := (He.glo_ok Xb Gb (c.t.fact 5 (f := .glo "Unlike") rfl))
  have a_Unlike := ca_of g_Unlike
  refine ⟨fun p hp => ?_, fun p hp q hq => ?_⟩
  · simp only [handE, List.mem_cons, List.not_mem_nil, or_false] at hp
    rcases hp with rfl | rfl | rfl | rfl
    · show mg ("BadGrowth" : Str) = _ ∧ XfC K (caOf mg ("BadGrowth" : Str)) ∧ _
      rw [a_BadGrowth]
      refine ⟨g_BadGrowth, (exs (("BadGrowth" : Str), [("step" : Str)]) (by simp [K79H.excs])).2.2, fun f hf => ?_⟩
      simp only [List.mem_cons, List.not_mem_nil, or_false, reduceCtorEq, false_or, HF.fld.injEq] at hf
      rcases hf with rfl
      · exact He.noat_ok (c.t.fact 67 (f := .noat "BadGrowth" "step") rfl)
    · show mg ("BadNumber" : Str) = _ ∧ XfC K (caOf mg ("BadNumber" : Str)) ∧ _
      rw [a_BadNumber]
      refine ⟨g_BadNumber, (exs (("BadNumber" : Str), [("what" : Str), ("number" : Str)]) (by simp [K79H.excs])).2.2, fun f hf => ?_⟩
      simp only [List.mem_cons, List.not_mem_nil, or_false, reduceCtorEq, false_or, HF.fld.injEq] at hf
      rcases hf with rfl | rfl
      · exact He.noat_ok (c.t.fact 63 (f := .noat "BadNumber" "what") rfl)
      · exact He.noat_ok (c.t.fact 64 (f := .noat "BadNumber" "number") rfl)
    · show mg ("BadRow" : Str) = _ ∧ XfC K (caOf mg ("BadRow" : Str)) ∧ _
      rw [a_BadRow]
      refine ⟨g_BadRow, (exs (("BadRow" : Str), [("row" : Str)]) (by simp [K79H.excs])).2.2, fun f hf => ?_⟩
      simp only [List.mem_cons, List.not_mem_nil, or_false, reduceCtorEq, false_or, HF.fld.injEq] at hf
      rcases hf with rfl
      · exact He.noat_ok (c.t.fact 65 (f := .noat "BadRow" "row") rfl)
    · show mg ("Unlike" : Str) = _ ∧ XfC K (caOf mg ("Unlike" : Str)) ∧ _
      rw [a_Unlike]
      refine ⟨g_Unlike, (exs (("Unlike" : Str), [("what" : Str)]) (by simp [K79H.excs])).2.2, fun f hf => ?_⟩
      simp only [List.mem_cons, List.not_mem_nil, or_false, reduceCtorEq, false_or, HF.fld.injEq] at hf
      rcases hf with rfl
      · exact He.noat_ok (c.t.fact 68 (f := .noat "Unlike" "what") rfl)
  · simp only [handE, List.mem_cons, List.not_mem_nil, or_false] at hp hq
    rcases hp with rfl | rfl | rfl | rfl <;> rcases hq with rfl | rfl | rfl | rfl
    · show PySem.W.exmOne K (.ref (caOf mg ("BadGrowth" : Str))) (.ref (caOf mg ("BadGrowth" : Str))) = _
      rw [a_BadGrowth]
      exact (He.exm_ok (c.t.fact 90 (f := .exm "BadGrowth" "BadGrowth" true) rfl)).trans (by rfl)
    · show PySem.W.exmOne K (.ref (caOf mg ("BadGrowth" : Str))) (.ref (caOf mg ("BadNumber" : Str))) = _
      rw [a_BadGrowth, a_BadNumber]
      exact (He.exm_ok (c.t.fact 87 (f := .exm "BadGrowth" "BadNumber" false) rfl)).trans (by rfl)
    · show PySem.W.exmOne K (.ref (caOf mg ("BadGrowth" : Str))) (.ref (caOf mg ("BadRow" : Str))) = _
      rw [a_BadGrowth, a_BadRow]
      exact (He.exm_ok (c.t.fact 88 (f := .exm "BadGrowth" "BadRow" false) rfl)).trans (by rfl)
    · show PySem.W.exmOne K (.ref (caOf mg ("BadGrowth" : Str))) (.ref (caOf mg ("Unlike" : Str))) = _
      rw [a_BadGrowth, a_Unlike]
      exact (He.exm_ok (c.t.fact 91 (f := .exm "BadGrowth" "Unlike" false) rfl)).trans (by rfl)
    · show PySem.W.exmOne K (.ref (caOf mg ("BadNumber" : Str))) (.ref (caOf mg ("BadGrowth" : Str))) = _
      rw [a_BadNumber, a_BadGrowth]
      exact (He.exm_ok (c.t.fact 75 (f := .exm "BadNumber" "BadGrowth" false) rfl)).trans (by rfl)
    · show PySem.W.exmOne K (.ref (caOf mg ("BadNumber" : Str))) (.ref (caOf mg ("BadNumber" : Str))) = _
      rw [a_BadNumber]
      exact (He.exm_ok (c.t.fact 72 (f := .exm "BadNumber" "BadNumber" true) rfl)).trans (by rfl)
    · show PySem.W.exmOne K (.ref (caOf mg ("BadNumber" : Str))) (.ref (caOf mg ("BadRow" : Str))) = _
      rw [a_BadNumber, a_BadRow]
      exact (He.exm_ok (c.t.fact 73 (f := .exm "BadNumber" "BadRow" false) rfl)).trans (by rfl)
    · show PySem.W.exmOne K (.ref (caOf mg ("BadNumber" : Str))) (.ref (caOf mg ("Unlike" : Str))) = _
      rw [a_BadNumber, a_Unlike]
      exact (He.exm_ok (c.t.fact 76 (f := .exm "BadNumber" "Unlike" false) rfl)).trans (by rfl)
    · show PySem.W.exmOne K (.ref (caOf mg ("BadRow" : Str))) (.ref (caOf mg ("BadGrowth" : Str))) = _
      rw [a_BadRow, a_BadGrowth]
      exact (He.exm_ok (c.t.fact 80 (f := .exm "BadRow" "BadGrowth" false) rfl)).trans (by rfl)
    · show PySem.W.exmOne K (.ref (caOf mg ("BadRow" : Str))) (.ref (caOf mg ("BadNumber" : Str))) = _
      rw [a_BadRow, a_BadNumber]
      exact (He.exm_ok (c.t.fact 77 (f := .exm "BadRow" "BadNumber" false) rfl)).trans (by rfl)
    · show PySem.W.exmOne K (.ref (caOf mg ("BadRow" : Str))) (.ref (caOf mg ("BadRow" : Str))) = _
      rw [a_BadRow]
      exact (He.exm_ok (c.t.fact 78 (f := .exm "BadRow" "BadRow" true) rfl)).trans (by rfl)
    · show PySem.W.exmOne K (.ref (caOf mg ("BadRow" : Str))) (.ref (caOf mg ("Unlike" : Str))) = _
      rw [a_BadRow, a_Unlike]
      exact (He.exm_ok (c.t.fact 81 (f := .exm "BadRow" "Unlike" false) rfl)).trans (by rfl)
    · show PySem.W.exmOne K (.ref (caOf mg ("Unlike" : Str))) (.ref (caOf mg ("BadGrowth" : Str))) = _
      rw [a_Unlike, a_BadGrowth]
      exact (He.exm_ok (c.t.fact 95 (f := .exm "Unlike" "BadGrowth" false) rfl)).trans (by rfl)
    · show PySem.W.exmOne K (.ref (caOf mg ("Unlike" : Str))) (.ref (caOf mg ("BadNumber" : Str))) = _
      rw [a_Unlike, a_BadNumber]
      exact (He.exm_ok (c.t.fact 92 (f := .exm "Unlike" "BadNumber" false) rfl)).trans (by rfl)
    · show PySem.W.exmOne K (.ref (caOf mg ("Unlike" : Str))) (.ref (caOf mg ("BadRow" : Str))) = _
      rw [a_Unlike, a_BadRow]
      exact (He.exm_ok (c.t.fact 93 (f := .exm "Unlike" "BadRow" false) rfl)).trans (by rfl)
    · show PySem.W.exmOne K (.ref (caOf mg ("Unlike" : Str))) (.ref (caOf mg ("Unlike" : Str))) = _
      rw [a_Unlike]
      exact (He.exm_ok (c.t.fact 96 (f := .exm "Unlike" "Unlike" true) rfl)).trans (by rfl)
def TZ : Tb := { T33 with hand := fun f => if f = ("_law_error" : Str) then some handE else none }
theorem fineZ (Xb : K.In base) (Gb : base.Ns mainGlobals mg) (c : SaysE K79H.fa K79H.fn K79H.tf K79H.ex h K) : Fine P w K mg base 36 TZ ∧ FineX P w K mg base 36 TZ := by
  have H := hold33 (P := P) (w := w) Xb Gb c
  obtain ⟨fd, F⟩ := c.t.def_ 34 (d := K79H.d__law_error) rfl
  have S : FnScope [("work" : Str), ("fault" : Str)] [("work" : Str)] (K79H.d__law_error).scope := ⟨by kernel_rfl, by kernel_rfl, by kernel_rfl, by decide +kernel, rfl, by decide +kernel, by decide +kernel⟩
  refine ⟨⟨H.f.fn, H.f.gl, H.f.ca, H.f.bi, H.f.ty, H.f.ff, fun l z => (H.l l z).elim, fun f hs e => ?_⟩, ⟨H.x.ex⟩⟩
  have e : (if f = ("_law_error" : Str) then some handE else none) = some hs := e
  split at e
  · rename_i hf
    subst hf
    cases e
    exact hand_ok (He.glo_ok Xb Gb (c.t.fact 38 (f := .glo "_law_error") rfl)) F.kp F S rfl (FunD.bindsN F fun _ _ _ _ _ _ us hl => match us, hl with | [_], _ => rfl) ok__law_error (hand0 Xb Gb c) (by simp [handE])
  · cases e
theorem lawX : LawX TZ := ⟨rfl, rfl, rfl, rfl, rfl, rfl, rfl, rfl, rfl, rfl, rfl, rfl, rfl, List.mem_cons_self, rfl⟩
theorem law_fn (c : SaysE K79H.fa K79H.fn K79H.tf K79H.ex h K) : ∃ fd : FuncData, (∀ (s : Shared) (u : Value), BindsTo s fd ⟨[u], []⟩ [(("script" : Str), u)]) ∧ ∀ base : Heap, K.In base → base.Ns mainGlobals mg → LamX.TabB base mg (He.cT K ("law", none)).1 (He.cT K ("law", none)).2 →
    FnG P w K mg base 39 (He.fAd K ("law", none)) fd [("script" : Str)] (spLaw K (He.cT K ("law", none)).2) := by
  obtain ⟨fd, F⟩ := c.t.def_ 38 (d := K79H.d_law) rfl
  have hcd : fd.code = .ref (He.cT K ("law", none)).1 := by
    obtain ⟨oc, od, dV, kV, doc, pm, an, cdv, ct, osl, e, lk, hcd, _, _⟩ := F.ex
    obtain ⟨cc, rfl⟩ := He.codeIn_ref hcd
    have e2 : fd.code = .ref cc := by rw [e]
    rw [e2]
    exact congrArg Value.ref (He.codeOf_eq (p := ("law", none)) lk e2).symm
  have b := FunD.bindsA (ps := [("script" : Str)]) F fun _ _ _ _ _ _ us hl => match us, hl with | [_], _ => rfl
  refine ⟨fd, fun s v => b s [v] rfl, fun base Xb Gb TB => ?_⟩
  obtain ⟨f1, f2⟩ := fineZ (P := P) (w := w) Xb Gb c
  exact law_sound F sc_law f1 f2 hcd TB (c.out _ List.mem_cons_self) rfl (by decide) (by decide) ok_law fun lam tbl q ns ht hn => law_all lawX ht hn
end
end K79
open PySem PySem.W PySem.Calls PyProof.Rows
theorem PySem.Challenge.cw_holelives_k79_steps_exchanged_put_in_tak_holds : PySem.Challenge.rw_holelives_k79_steps_exchanged_put_in_tak.Holds := by
  w_on; o_law
  refine HandSHeadRun.head_any (r := OpenLaw.row PySem.Challenge.rw_holelives_k79_steps_exchanged_put_in_tak) (q := view (OpenLaw.row PySem.Challenge.rw_holelives_k79_steps_exchanged_put_in_tak).prog [47]) (H := K79H.hk) (ob := K79H.ob) (M := 20000) (loose := K79H.nm_0 ++ K79H.nm_1 ++ K79H.nm_2 ++ K79H.nm_3 ++ K79H.nm_4) (d := HandSHeadRun.topDef (OpenLaw.row PySem.Challenge.rw_holelives_k79_steps_exchanged_put_in_tak).prog 47) (kwd := []) K79H.ob_eq
    (by kernel_rfl) (fun s => by kernel_rfl) K79H.run (by kernel_rfl) (by kernel_rfl) (by kernel_rfl) (by rfl) (by first | assumption | decide +kernel) (by decide +kernel) ⟨rfl, rfl, rfl, rfl, rfl, by decide +kernel⟩ ?hw ?hc
  case hw => w_witness2
  case hc =>
    refine EV.walk_ofTG (l := PySem.Challenge.rw_holelives_k79_steps_exchanged_put_in_tak) (n := 63) (k := 39) (x := "script") rfl (by decide) (by kernel_rfl) ⟨rfl, by decide, by decide⟩ ?F
    intro w mg fa h Y G hmg0
    obtain ⟨K, KX, c⟩ := Y
    have hmg : mg ("law" : PySem.Str) = some (.ref fa) := by
      have e : (HandSHeadRun.topDef (OpenLaw.row PySem.Challenge.rw_holelives_k79_steps_exchanged_put_in_tak).prog 47).name = ("law" : PySem.Str) := by kernel_rfl
      rw [← e]
      exact hmg0
    have e := hmg.symm.trans (He.glo_ok KX G (c.t.fact 42 (f := .glo "law") rfl))
    cases e
    obtain ⟨fd, hb, hF⟩ := K79.law_fn (P := (PySem.Challenge.rw_holelives_k79_steps_exchanged_put_in_tak).prog) (w := w) (mg := mg) c
    refine ⟨K, fd, [He.cT K ("law", none)], EV.spLaw K (He.cT K ("law", none)).2, KX, fun p hp => ?_, fun p hp => ?_, fun p hp => ?_, hb, fun H a ns hl hT hS => ⟨a, ns, rfl, hl, hS, hT _ List.mem_cons_self, fun _ => rfl⟩, fun base Xb Gb TB => hF base Xb Gb (TB _ List.mem_cons_self)⟩
    · rw [List.mem_singleton.mp hp]
      exact c.empty ("law", none) List.mem_cons_self
    · rw [List.mem_singleton.mp hp]
      exact c.out ("law", none) List.mem_cons_self
    · rw [List.mem_singleton.mp hp]
      exact PySem.W.codeHd_of_K KX (c.hd ("law", none) List.mem_cons_self)
