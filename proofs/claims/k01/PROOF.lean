import PyProof.Rows.All
import Wide.All
import OpenK.AllK
import Wide.FinOn
import HandS.ForMost
import HandS.TupAny
import HandS.TupMul
import HandS.Strs
import HandS.Style
import HandS.Flow
import HandS.IsInst
import HandS.Walk
import HandS.Conv
import PyProof.DictKeyH
import PyProof.TupleKey
import KE.GoesMore
import PyProof.TupleOfStr
import PyProof.Rows.SortShellAny
import HandS.Zip
import HandS.Deep
import KE.KDictDisplayH
import PyProof.Rows.TupDisplay
import PyProof.Rows.TupTab
import HandS.TupLen
import HandS.SetFor
import KE.SortData
import KE.KDictSum
import KE.KDictWalk
import KE.KEqDict
import PyProof.WalksMore
import HandS.TryOnly
import PyProof.P3In
import PySem.Challenge.RW_layersteps_k01_order_and_script_values
set_option Elab.async false
set_option linter.all false
set_option maxRecDepth 100000
set_option maxHeartbeats 4000000
/-! The data layer: expressions and statements read as plain data. A state is a frozen part F of the heap H; what a name holds is data in F, or a list (dict) of one's own in H. -/
namespace DL
open PySem L2

abbrev D := PyData
abbrev Frag := PySem.W.Frag

/-! ### growth -/
structure Gr (F H F' H' : Hp) : Prop where
  f : Same F F'
  s : Same F' H'
  h : Same H H'
  n : ∀ b, H b ≠ none → F b = none → F' b = none
theorem Gr.refl {F H : Hp} (s : Same F H) : Gr F H F H := ⟨Same.refl _, s, Same.refl _, fun _ _ h => h⟩
theorem Same.some_ne {H H' : Hp} (e : Same H H') {b : Addr} (h : H b ≠ none) : H' b ≠ none := by
  cases q : H b with
  | none => exact absurd q h
  | some o => rw [e b o q]; exact fun z => nomatch z
theorem Gr.trans {F H F1 H1 F2 H2 : Hp} (a : Gr F H F1 H1) (b : Gr F1 H1 F2 H2) : Gr F H F2 H2 :=
  ⟨a.f.trans b.f, b.s, a.h.trans b.h, fun x h1 h2 => b.n x (Same.some_ne a.h h1) (a.n x h1 h2)⟩
theorem same_upd {H : Hp} {p : Addr} {o : HO} (h : H p = none) : Same H (upd H p o) := fun b x e => by
  rw [upd_ne (ne_of_none e h)]
  exact e
theorem same_upd2 {F H : Hp} {p : Addr} {o : HO} (s : Same F H) (h : H p = none) : Same (upd F p o) (upd H p o) := fun b x e => by
  by_cases hb : b = p
  · subst hb; rw [upd_same] at e ⊢; exact e
  · rw [upd_ne hb] at e ⊢; exact s b x e
/-- a new object, frozen at once -/
theorem Gr.new {F H : Hp} {p : Addr} {o : HO} (s : Same F H) (h : H p = none) : Gr F H (upd F p o) (upd H p o) :=
  ⟨same_upd (s.free h), same_upd2 s h, same_upd h, fun b h1 h2 => by
    have : b ≠ p := fun e => h1 (e ▸ h)
    rw [upd_ne this]; exact h2⟩
/-- a new object, not frozen -/
theorem Gr.newO {F H : Hp} {p : Addr} {o : HO} (s : Same F H) (h : H p = none) : Gr F H F (upd H p o) :=
  ⟨Same.refl _, fun b x e => by rw [upd_ne (ne_of_none (s b x e) h)]; exact s b x e, same_upd h, fun b h1 h2 => h2⟩

/-! ### data -/
mutual
/-- data that stands in H, every list tracked, every tuple with its very object -/
inductive Dd (H : Hp) : V → D → Prop
  | non : Dd H .non .none
  | bl (b : Bool) : Dd H (.bl b) (.bool b)
  | int (i : Int) : Dd H (.int i) (.int i)
  | str (x : Str) : Dd H (.str x) (.str x)
  | lst {a : Addr} {xs : List V} {ds : List D} : H a = some (.lst xs) → DdAll H xs ds → Dd H (.ref a) (.list ds)
  | tup {a : Addr} {o : Obj} {xs : List V} {ds : List D} : H a = some (.frz o (.tup xs)) → o.dict = none → DdAll H xs ds → Dd H (.ref a) (.tuple ds)
inductive DdAll (H : Hp) : List V → List D → Prop
  | nil : DdAll H [] []
  | cons {v : V} {vs : List V} {d : D} {ds : List D} : Dd H v d → DdAll H vs ds → DdAll H (v :: vs) (d :: ds)
end
mutual
theorem dd_mono {H H' : Hp} (e : Same H H') : ∀ {v : V} {d : D}, Dd H v d → Dd H' v d
  | _, _, .non => .non
  | _, _, .bl b => .bl b
  | _, _, .int i => .int i
  | _, _, .str x => .str x
  | _, _, .lst h q => .lst (e _ _ h) (dda_mono e q)
  | _, _, .tup h n q => .tup (e _ _ h) n (dda_mono e q)
theorem dda_mono {H H' : Hp} (e : Same H H') : ∀ {v : List V} {d : List D}, DdAll H v d → DdAll H' v d
  | _, _, .nil => .nil
  | _, _, .cons h q => .cons (dd_mono e h) (dda_mono e q)
end
mutual
theorem dd_dp {K : Frag} {H : Hp} : ∀ {v : V} {d : D}, Dd H v d → Dp K H v d
  | _, _, .non => .non
  | _, _, .bl b => .bl b
  | _, _, .int i => .int i
  | _, _, .str x => .str x
  | _, _, .lst h q => .lst (SqL.of h) (dda_dp q)
  | _, _, .tup h _ q => .tup (.inl (.inr ⟨_, h⟩)) (dda_dp q)
theorem dda_dp {K : Frag} {H : Hp} : ∀ {v : List V} {d : List D}, DdAll H v d → DpAll K H v d
  | _, _, .nil => .nil
  | _, _, .cons h q => .cons (dd_dp h) (dda_dp q)
end
theorem sql_mono {K : Frag} {H H' : Hp} (e : Same H H') {a : Addr} {xs : List V} (h : SqL K H a xs) : SqL K H' a xs := e.seq h
section
variable {H : Hp}
theorem dda_length : ∀ {vs : List V} {ds : List D}, DdAll H vs ds → vs.length = ds.length
  | _, _, .nil => rfl
  | _, _, .cons _ q => congrArg (· + 1) (dda_length q)
theorem dda_append : ∀ {vs us : List V} {ds es : List D}, DdAll H vs ds → DdAll H us es → DdAll H (vs ++ us) (ds ++ es)
  | _, _, _, _, .nil, h => h
  | _, _, _, _, .cons h q, r => .cons h (dda_append q r)
theorem dda_drop : ∀ {vs : List V} {ds : List D} (n : Nat), DdAll H vs ds → DdAll H (vs.drop n) (ds.drop n)
  | _, _, 0, h => h
  | _, _, _ + 1, .nil => .nil
  | _, _, n + 1, .cons _ q => dda_drop n q
theorem dda_take : ∀ {vs : List V} {ds : List D} (n : Nat), DdAll H vs ds → DdAll H (vs.take n) (ds.take n)
  | _, _, 0, h => .nil
  | _, _, _ + 1, .nil => .nil
  | _, _, n + 1, .cons h q => .cons h (dda_take n q)
theorem dda_get : ∀ {vs : List V} {ds : List D} {i : Nat} {d : D}, DdAll H vs ds → ds[i]? = some d → ∃ v, vs[i]? = some v ∧ Dd H v d
  | _, _, _, _, .nil, e => by simp at e
  | _, _, 0, _, .cons h _, e => by simp at e; subst e; exact ⟨_, rfl, h⟩
  | _, _, i + 1, d, .cons _ q, e => by
    obtain ⟨v, a, b⟩ := dda_get (i := i) (d := d) q (by simpa using e)
    exact ⟨v, by simpa using a, b⟩
theorem dda_getV : ∀ {vs : List V} {ds : List D} {i : Nat} {v : V}, DdAll H vs ds → vs[i]? = some v → ∃ d, ds[i]? = some d ∧ Dd H v d
  | _, _, _, _, .nil, e => by simp at e
  | _, _, 0, _, .cons h _, e => by simp at e; subst e; exact ⟨_, rfl, h⟩
  | _, _, i + 1, d, .cons _ q, e => by
    obtain ⟨v, a, b⟩ := dda_getV (i := i) (v := d) q (by simpa using e)
    exact ⟨v, by simpa using a, b⟩
theorem dda_snoc {vs : List V} {ds : List D} {v : V} {d : D} (h : DdAll H vs ds) (q : Dd H v d) : DdAll H (vs ++ [v]) (ds ++ [d]) := dda_append h (.cons q .nil)
theorem dda_rev : ∀ {vs : List V} {ds : List D}, DdAll H vs ds → DdAll H vs.reverse ds.reverse
  | _, _, .nil => .nil
  | _, _, .cons h q => by rw [List.reverse_cons, List.reverse_cons]; exact dda_snoc (dda_rev q) h
theorem dda_nil_iff {vs : List V} {ds : List D} (h : DdAll H vs ds) : vs = [] ↔ ds = [] := by
  cases h <;> simp
theorem dda_ints : ∀ {vs : List V} {ns : List Int}, DdAll H vs (ns.map PyData.int) → vs = ns.map V.int
  | _, [], .nil => rfl
  | _, n :: r, .cons h q => by cases h; rw [dda_ints q]; rfl
theorem dda_strs : ∀ {vs : List V} {ns : List Str}, DdAll H vs (ns.map PyData.str) → vs = ns.map V.str
  | _, [], .nil => rfl
  | _, n :: r, .cons h q => by cases h; rw [dda_strs q]; rfl
theorem dda_bools : ∀ {vs : List V} {ns : List Bool}, DdAll H vs (ns.map PyData.bool) → vs = ns.map V.bl
  | _, [], .nil => rfl
  | _, n :: r, .cons h q => by cases h; rw [dda_bools q]; rfl
theorem dda_ofInts : ∀ (ns : List Int), DdAll H (ns.map V.int) (ns.map PyData.int)
  | [] => .nil
  | n :: r => .cons (.int n) (dda_ofInts r)
theorem dda_ofStrs : ∀ (ns : List Str), DdAll H (ns.map V.str) (ns.map PyData.str)
  | [] => .nil
  | n :: r => .cons (.str n) (dda_ofStrs r)
end

/-! ### what a name holds -/
/-- a dict whose keys are tuples of texts, by its own object alone: (key, the key's tuple, value) -/
def DictR (P : Program) (w : World) (h : Heap) (a : Addr) (ws : List (List Str × Addr × V)) : Prop := ws.length ≤ sizeLine ∧ (a == sysModules) = false ∧ ∃ xs : List (List Key × Addr × Value),
  PySem.Paired (fun (p : List Str × Addr × V) (q : List Key × Addr × Value) => q.1 = p.1.map Sum.inr ∧ q.2.1 = p.2.1 ∧ RelV p.2.2 q.2.2) ws xs ∧
  ∃ o es ep, h.get? a = some o ∧ o.ExactDict ∧ o.data = .dict es ep ∧ es.toList = xs.map (entryOfKey (tupleKind (mixKind P w))) ∧ (xs.map (·.1)).Nodup
def DictO (P : Program) (w : World) (a : Addr) (ws : List (List Str × Addr × V)) : HO := .ext fun h => DictR P w h a ws
/-- d: frozen data; own: a list of one's own; dt, dk: a dict of one's own (keys: tuples of texts; texts); ft: a locked dict; fk: a frozen dict; scr: the script -/
inductive Sv where
  | d (x : D)
  | own (xs : List D)
  | dt (P : Program) (w : World) (kvs : List (List Str × D))
  | dk (kvs : List (Str × D))
  | ft (P : Program) (w : World) (kvs : List (List Str × D))
  | fk (kvs : List (Str × D))
  | scr (ns : List Int)
abbrev Env := List (Option Sv)
def Sv.isD : Sv → Bool
  | .d _ => true
  | .scr _ => true
  | .ft _ _ _ => true
  | .fk _ => true
  | _ => false
/-- the entries of a dict -/
inductive KvT (F : Hp) : List (List Str × Addr × V) → List (List Str × D) → Prop
  | nil : KvT F [] []
  | cons {k : List Str} {b : Addr} {v : V} {d : D} {r : List (List Str × Addr × V)} {q : List (List Str × D)} : Dd F (.ref b) (.tuple (k.map .str)) → Dd F v d → KvT F r q → KvT F ((k, b, v) :: r) ((k, d) :: q)
inductive KvK (F : Hp) : List (Key × V) → List (Str × D) → Prop
  | nil : KvK F [] []
  | cons {k : Str} {v : V} {d : D} {r : List (Key × V)} {q : List (Str × D)} : Dd F v d → KvK F r q → KvK F ((Sum.inr k, v) :: r) ((k, d) :: q)
theorem KvT.mono {F F' : Hp} (e : Same F F') : ∀ {a : List (List Str × Addr × V)} {b : List (List Str × D)}, KvT F a b → KvT F' a b
  | _, _, .nil => .nil
  | _, _, .cons h0 h q => .cons (dd_mono e h0) (dd_mono e h) (KvT.mono e q)
theorem KvK.mono {F F' : Hp} (e : Same F F') : ∀ {a : List (Key × V)} {b : List (Str × D)}, KvK F a b → KvK F' a b
  | _, _, .nil => .nil
  | _, _, .cons h q => .cons (dd_mono e h) (KvK.mono e q)
def SvOk (K : Frag) (H0 F H : Hp) (v : V) : Sv → Prop
  | .d x => Dd F v x
  | .own xs => ∃ a vs, v = .ref a ∧ H0 a = none ∧ F a = none ∧ H a = some (.lst vs) ∧ DdAll F vs xs
  | .dt P w kvs => ∃ a ws, v = .ref a ∧ H0 a = none ∧ F a = none ∧ H a = some (DictO P w a ws) ∧ KvT F ws kvs
  | .dk kvs => ∃ a ws, v = .ref a ∧ H0 a = none ∧ F a = none ∧ H a = some (.dK ws) ∧ KvK F ws kvs
  | .ft P w kvs => ∃ a ws o, v = .ref a ∧ F a = some (.frz o (DictO P w a ws)) ∧ KvT F ws kvs
  | .fk kvs => ∃ a ws, v = .ref a ∧ F a = some (.dK ws) ∧ KvK F ws kvs
  | .scr ns => ∃ a, v = .ref a ∧ SqL K F a (ns.map V.int)
theorem SvOk.gr {K : Frag} {H0 F H F' H' : Hp} {v : V} {s : Sv} (g : Gr F H F' H') (h : SvOk K H0 F H v s) : SvOk K H0 F' H' v s := by
  cases s with
  | d x => exact dd_mono g.f h
  | own xs =>
    obtain ⟨a, vs, e, h0, hf, hh, q⟩ := h
    exact ⟨a, vs, e, h0, g.n a (by rw [hh]; exact fun z => nomatch z) hf, g.h _ _ hh, dda_mono g.f q⟩
  | dt P w kvs =>
    obtain ⟨a, vs, e, h0, hf, hh, q⟩ := h
    exact ⟨a, vs, e, h0, g.n a (by rw [hh]; exact fun z => nomatch z) hf, g.h _ _ hh, q.mono g.f⟩
  | dk kvs =>
    obtain ⟨a, vs, e, h0, hf, hh, q⟩ := h
    exact ⟨a, vs, e, h0, g.n a (by rw [hh]; exact fun z => nomatch z) hf, g.h _ _ hh, q.mono g.f⟩
  | ft P w kvs => obtain ⟨a, ws, o, e, hf, q⟩ := h; exact ⟨a, ws, o, e, g.f _ _ hf, q.mono g.f⟩
  | fk kvs => obtain ⟨a, ws, e, hf, q⟩ := h; exact ⟨a, ws, e, g.f _ _ hf, q.mono g.f⟩
  | scr ns => obtain ⟨a, e, q⟩ := h; exact ⟨a, e, sql_mono g.f q⟩
/-- fresh behind H0 is fresh behind what came before H0 -/
theorem SvOk.base {K : Frag} {H0 H1 F H : Hp} {v : V} {s : Sv} (e : Same H0 H1) (h : SvOk K H1 F H v s) : SvOk K H0 F H v s := by
  cases s with
  | d x => exact h
  | own xs => obtain ⟨a, vs, e1, h0, r⟩ := h; exact ⟨a, vs, e1, e.free h0, r⟩
  | dt P w kvs => obtain ⟨a, vs, e1, h0, r⟩ := h; exact ⟨a, vs, e1, e.free h0, r⟩
  | dk kvs => obtain ⟨a, vs, e1, h0, r⟩ := h; exact ⟨a, vs, e1, e.free h0, r⟩
  | ft P w kvs => exact h
  | fk kvs => exact h
  | scr ns => exact h
/-- what holds of the frozen part holds in a larger one -/
theorem SvOk.frozen {K : Frag} {H0 H1 F H F' H' : Hp} {v : V} {s : Sv} (e : Same F F') (n : s.isD = true) (h : SvOk K H0 F H v s) : SvOk K H1 F' H' v s := by
  cases s with
  | d x => exact dd_mono e h
  | own xs => cases n
  | dt P w kvs => cases n
  | dk kvs => cases n
  | ft P w kvs => obtain ⟨a, ws, o, e1, hf, q⟩ := h; exact ⟨a, ws, o, e1, e _ _ hf, q.mono e⟩
  | fk kvs => obtain ⟨a, ws, e1, hf, q⟩ := h; exact ⟨a, ws, e1, e _ _ hf, q.mono e⟩
  | scr ns => obtain ⟨a, e1, q⟩ := h; exact ⟨a, e1, sql_mono e q⟩
/-- a thing of one's own stays where its object stays -/
theorem SvOk.ownStay {K : Frag} {H0 F H F' H' : Hp} {v : V} {s : Sv} (e : Same F F') (n : s.isD = false) (h : SvOk K H0 F H v s) (k : ∀ a, v = .ref a → H' a = H a) (k2 : ∀ a, v = .ref a → F a = none → F' a = none) : SvOk K H0 F' H' v s := by
  cases s with
  | d x => cases n
  | ft P w kvs => cases n
  | fk kvs => cases n
  | scr ns => cases n
  | own xs => obtain ⟨a, vs, e1, h0, hf, hh, q⟩ := h; exact ⟨a, vs, e1, h0, k2 a e1 hf, by rw [k a e1]; exact hh, dda_mono e q⟩
  | dt P w kvs => obtain ⟨a, vs, e1, h0, hf, hh, q⟩ := h; exact ⟨a, vs, e1, h0, k2 a e1 hf, by rw [k a e1]; exact hh, q.mono e⟩
  | dk kvs => obtain ⟨a, vs, e1, h0, hf, hh, q⟩ := h; exact ⟨a, vs, e1, h0, k2 a e1 hf, by rw [k a e1]; exact hh, q.mono e⟩

/-- the names: what each holds; those that hold things of their own hold different ones -/
structure StOk (K : Frag) (H0 F : Hp) (Γ : Env) (σ : St) (H : Hp) : Prop where
  sub : Same F H
  len : σ.length = Γ.length
  slot : ∀ (i : Nat) s, Γ[i]? = some (some s) → ∃ v, σ[i]? = some (some v) ∧ SvOk K H0 F H v s
  apart : ∀ (i j : Nat) s t a, Γ[i]? = some (some s) → Γ[j]? = some (some t) → s.isD = false → t.isD = false → σ[i]? = some (some (.ref a)) → σ[j]? = some (some (.ref a)) → i = j
theorem StOk.gr {K : Frag} {H0 F H F' H' : Hp} {Γ : Env} {σ : St} (g : Gr F H F' H') (h : StOk K H0 F Γ σ H) : StOk K H0 F' Γ σ H' :=
  ⟨g.s, h.len, fun i s e => let ⟨v, a, b⟩ := h.slot i s e; ⟨v, a, b.gr g⟩, h.apart⟩

/-! ### the judgements -/
def rdV (K : Frag) (Γ : Env) (s : Sv) : TE := fun σ H Q => ∃ H0 F, StOk K H0 F Γ σ H ∧ ∀ v F' H', Gr F H F' H' → SvOk K H F' H' v s → Q v H'
def rdT (K : Frag) (Γ : Env) (b : Bool) : TT := fun σ H Q => ∃ H0 F, StOk K H0 F Γ σ H ∧ ∀ F' H', Gr F H F' H' → Q b H'
def rdA (K : Frag) (Γ : Env) (ds : List D) : TA := fun σ H Q => ∃ H0 F, StOk K H0 F Γ σ H ∧ ∀ vs F' H', Gr F H F' H' → DdAll F' vs ds → Q vs H'
def rdO (K : Frag) (Γ : Env) (o : Option Int) : TO := fun σ H Q => ∃ H0 F, StOk K H0 F Γ σ H ∧ ∀ F' H', Gr F H F' H' → Q o H'
def DV (X : Cx) (e : Expr) (Γ : Env) (s : Sv) : Prop := PE X e (rdV X.K Γ s)
abbrev DE (X : Cx) (e : Expr) (Γ : Env) (d : D) : Prop := DV X e Γ (.d d)
def DT (X : Cx) (e : Expr) (Γ : Env) (b : Bool) : Prop := PT X e (rdT X.K Γ b)
def DW (X : Cx) (e : Expr) (Γ : Env) (b : Bool) : Prop := PW X e (rdT X.K Γ b)
def DA (X : Cx) (es : List Expr) (Γ : Env) (ds : List D) : Prop := PA X es (rdA X.K Γ ds)
def DO (X : Cx) (e : Option Expr) (Γ : Env) (o : Option Int) : Prop := PO X e (rdO X.K Γ o)

theorem pe_weak {X : Cx} {e : Expr} {t t' : TE} (h : PE X e t) (w : ∀ σ H Q, t' σ H Q → t σ H Q) : PE X e t' := ⟨fun pins s σ H Q I q => h.run pins s σ H Q I (w σ H Q q)⟩
theorem pt_weak {X : Cx} {e : Expr} {t t' : TT} (h : PT X e t) (w : ∀ σ H Q, t' σ H Q → t σ H Q) : PT X e t' := ⟨fun pins s σ H Q I q => h.run pins s σ H Q I (w σ H Q q)⟩
theorem pw_weak {X : Cx} {e : Expr} {t t' : TT} (h : PW X e t) (w : ∀ σ H Q, t' σ H Q → t σ H Q) : PW X e t' := ⟨fun wh pins s σ H Q I q => h.run wh pins s σ H Q I (w σ H Q q)⟩
theorem pa_weak {X : Cx} {e : List Expr} {t t' : TA} (h : PA X e t) (w : ∀ σ H Q, t' σ H Q → t σ H Q) : PA X e t' := ⟨fun pos pins s σ H Q I q => h.run pos pins s σ H Q I (w σ H Q q)⟩
theorem po_weak {X : Cx} {e : Option Expr} {t t' : TO} (h : PO X e t) (w : ∀ σ H Q, t' σ H Q → t σ H Q) : PO X e t' := ⟨fun pins s σ H Q I q => h.run pins s σ H Q I (w σ H Q q)⟩
theorem ps_weak {X : Cx} {e : Stmt} {t t' : TS} (h : PS X e t) (w : ∀ D σ H, t' D σ H → t D σ H) : PS X e t' := ⟨fun pins s σ H Q I q => h.run pins s σ H Q I (w Q σ H q)⟩
theorem pss_weak {X : Cx} {e : List Stmt} {t t' : TS} (h : PSs X e t) (w : ∀ D σ H, t' D σ H → t D σ H) : PSs X e t' := ⟨fun pins s σ H Q I q => h.run pins s σ H Q I (w Q σ H q)⟩
theorem pi_weak {X : Cx} {tg e : Expr} {t t' : TI} (h : PI X tg e t) (w : ∀ σ H Q, t' σ H Q → t σ H Q) : PI X tg e t' := ⟨fun pins s σ H Q I q => h.run pins s σ H Q I (w σ H Q q)⟩

section
variable {X : Cx} {Γ : Env} {a b c : Expr} {pos : Pos}
/-! ### names, constants -/
theorem dv_var (i : Nat) {x : Str} {d : D} (h : Γ[i]? = some (some (.d d)) := by rfl) (hN : X.N[i]? = some x := by rfl) (hv : Vis X.env.scope x := by first | exact Or.inl rfl | exact Or.inr (Or.inl rfl) | exact Or.inr (Or.inr rfl)) (hd : (x == ("__debug__" : Str)) = false := by decide)
    (hcd : (x == ("__classdict__" : Str)) = false := by decide) : DE X (.Name x pos) Γ d := pe_weak (pe_var hN hv hd hcd) fun σ H Q ⟨H0, F, st, q⟩ => by
  obtain ⟨v, e, ok⟩ := st.slot i _ h
  exact ⟨v, e, q v F H (Gr.refl st.sub) ok⟩
theorem dv_const {e : Expr} {v : V} {d : D} (h : PE X e (tC v)) (hd : ∀ H, Dd H v d) : DE X e Γ d := pe_weak h fun σ H Q ⟨H0, F, st, q⟩ => q v F H (Gr.refl st.sub) (hd _)
theorem dv_int {i : Int} {j} : DE X (.Constant (.int i) j pos) Γ (.int i) := dv_const pe_int fun _ => .int i
theorem dv_bl {i : Bool} {j} : DE X (.Constant (.bool i) j pos) Γ (.bool i) := dv_const pe_bl fun _ => .bl i
theorem dv_non {j} : DE X (.Constant .none j pos) Γ .none := dv_const pe_non fun _ => .non
theorem dv_str {i : Str} {j} : DE X (.Constant (.str i) j pos) Γ (.str i) := dv_const pe_str fun _ => .str i
/-- data in another form -/
theorem DV.cast {s s' : Sv} (h : DV X a Γ s) (e : s = s') : DV X a Γ s' := e ▸ h
theorem DV.eq {d d' : D} (h : DE X a Γ d) (e : d = d') : DE X a Γ d' := e ▸ h
/-- a new list is frozen -/
theorem DV.frz {xs : List D} (h : DV X a Γ (.own xs)) : DE X a Γ (.list xs) := pe_weak h fun σ H Q ⟨H0, F, st, q⟩ => ⟨H0, F, st, fun v F' H' g ok => by
  obtain ⟨p, vs, rfl, h0, hf, hh, r⟩ := ok
  have sF : Same F' (upd F' p (.lst vs)) := same_upd hf
  refine q _ (upd F' p (.lst vs)) H' ⟨g.f.trans sF, fun b o e => ?_, g.h, fun b h1 h2 => ?_⟩ (.lst upd_same (dda_mono sF r))
  · by_cases hb : b = p
    · subst hb; rw [upd_same] at e; rw [hh]; exact e
    · rw [upd_ne hb] at e; exact g.s b o e
  · have : b ≠ p := fun e => h1 (e ▸ h0)
    rw [upd_ne this]; exact g.n b h1 h2⟩
/-! ### argument lists -/
theorem da_nil : DA X [] Γ [] := pa_weak pa_nil fun σ H Q ⟨H0, F, st, q⟩ => q [] F H (Gr.refl st.sub) .nil
theorem da_cons {e : Expr} {es : List Expr} {d : D} {ds : List D} (h : DE X e Γ d) (r : DA X es Γ ds) (hs : starEach (e :: es) X.env = (false, eval e X.env) :: starEach es X.env := by rfl) : DA X (e :: es) Γ (d :: ds) :=
  pa_weak (pa_cons h r hs) fun σ H Q ⟨H0, F, st, q⟩ => ⟨H0, F, st, fun v F1 H1 g1 ok1 => ⟨H0, F1, st.gr g1, fun vs F2 H2 g2 ok2 => q (v :: vs) F2 H2 (g1.trans g2) (.cons (dd_mono g2.f ok1) ok2)⟩⟩
theorem da_one {e : Expr} {d : D} (h : DE X e Γ d) (hs : starEach [e] X.env = (false, eval e X.env) :: starEach [] X.env := by rfl) : DA X [e] Γ [d] := da_cons h da_nil hs
theorem da_two {e f : Expr} {d d2 : D} (h : DE X e Γ d) (h2 : DE X f Γ d2) (hs : starEach [e, f] X.env = (false, eval e X.env) :: starEach [f] X.env := by rfl) (hs2 : starEach [f] X.env = (false, eval f X.env) :: starEach [] X.env := by rfl) : DA X [e, f] Γ [d, d2] := da_cons h (da_one h2 hs2) hs
def tTupF (t : TA) : TE := fun σ H Q => t σ H fun xs H1 => xs.length ≤ sizeLine ∧ ∀ p o, H1 p = none → o.dict = none → Q (.ref p) (upd H1 p (.frz o (.tup xs)))
/-- a new tuple, its very object known -/
theorem tup_laid {pins : List (Addr × Obj)} {σ : St} {H : Hp} {s : Shared} {xs : List V} {us : List Value} (I : Inv X pins σ H s) (r : Vals xs us) (z : xs.length ≤ sizeLine) :
    Inv X pins σ (upd H s.heap.objs.size (.frz { cls := .type "tuple", data := .seq us.toArray } (.tup xs))) { s with heap := s.heap.push { cls := .type "tuple", data := .seq us.toArray } } := by
  have g : (s.heap.push { cls := .type "tuple", data := .seq us.toArray }).get? s.heap.objs.size = some { cls := .type "tuple", data := .seq us.toArray } := Heap.get?_push_size _ rfl
  exact I.laid (t' := s.toks) (fun b u e => Heap.get?_push_of_some _ e) (Nat.le_refl _) ⟨g, z, us, r, _, g, rfl, _, rfl⟩
theorem pe_tupF {es : List Expr} {t : TA} {k : Nat} (h : PA X es t) : PE X (.Tuple es k pos) (tTupF t) := ⟨fun pins s σ H Q I hq =>
  wpAny_Tuple_spliced (thn (h.run pos pins s σ H _ I hq) fun us s1 ⟨xs, H1, I1, r, z, q⟩ => ⟨by rw [← r.length]; exact z, .ref s1.heap.objs.size, _, tup_laid I1 r z, rfl, q _ _ I1.fresh rfl⟩)⟩
/-- data of a new tuple -/
theorem dd_tup {F : Hp} {p : Addr} {o : Obj} {vs : List V} {ds : List D} (n : F p = none) (ho : o.dict = none) (h : DdAll F vs ds) : Dd (upd F p (.frz o (.tup vs))) (.ref p) (.tuple ds) := .tup upd_same ho (dda_mono (same_upd n) h)
theorem dv_tup {es : List Expr} {ds : List D} {k} (h : DA X es Γ ds) (hz : ds.length ≤ sizeLine := by first | decide | (simp only [List.length_map, List.length_cons, List.length_nil, sizeLine_eq]; decide)) : DE X (.Tuple es k pos) Γ (.tuple ds) := pe_weak (pe_tupF h) fun σ H Q ⟨H0, F, st, q⟩ => ⟨H0, F, st, fun vs F1 H1 g1 ok =>
  ⟨by rw [dda_length ok]; exact hz, fun p o hp ho => q _ _ _ (g1.trans (Gr.new g1.s hp)) (dd_tup (g1.s.free hp) ho ok)⟩⟩
theorem dv_lst {es : List Expr} {ds : List D} (h : DA X es Γ ds) (hz : ds.length ≤ sizeLine := by first | decide | (simp only [List.length_map, List.length_cons, List.length_nil, sizeLine_eq]; decide)) : DV X (.List es pos) Γ (.own ds) := pe_weak (pe_lst h) fun σ H Q ⟨H0, F, st, q⟩ => ⟨H0, F, st, fun vs F1 H1 g1 ok =>
  ⟨by rw [dda_length ok]; exact hz, fun p hp => q _ _ _ (g1.trans (Gr.newO g1.s hp)) ⟨p, vs, rfl, g1.h.free hp, g1.s.free hp, upd_same, ok⟩⟩⟩
/-! ### operators by values -/
/-- a two-place operation gives data s on data d1, d2 -/
def R2D (K : Frag) (r : R2) (d1 d2 : D) (s : Sv) : Prop := ∀ F H x y, Same F H → Dd F x d1 → Dd F y d2 → ∀ Q : VK, (∀ v F' H', Gr F H F' H' → SvOk K H F' H' v s → Q v H') → r x y H Q
theorem dv_op2 {e : Expr} {r : R2} {d1 d2 : D} {s : Sv} (hp : PE X e (tOp r (rdV X.K Γ (.d d1)) (rdV X.K Γ (.d d2)))) (hr : R2D X.K r d1 d2 s) : DV X e Γ s := pe_weak hp fun σ H Q ⟨H0, F, st, q⟩ =>
  ⟨H0, F, st, fun v F1 H1 g1 ok1 => ⟨H0, F1, st.gr g1, fun u F2 H2 g2 ok2 => hr F2 H2 v u g2.s (dd_mono g2.f ok1) ok2 Q fun z F3 H3 g3 ok3 => q z F3 H3 ((g1.trans g2).trans g3) (ok3.base (g1.trans g2).h)⟩⟩
theorem dv_bin {op : Operator} {r : R2} {d1 d2 : D} {s : Sv} (ho : OpR X (binaryOp op) r) (ha : DE X a Γ d1) (hb : DE X b Γ d2) (hr : R2D X.K r d1 d2 s) : DV X (.BinOp a op b pos) Γ s := dv_op2 (pe_op ho ha hb) hr
theorem dv_cmp {op : CmpOp} {r : R2} {d1 d2 : D} {s : Sv} (ho : OpR X (compareOp op) r) (ha : DE X a Γ d1) (hb : DE X b Γ d2) (hr : R2D X.K r d1 d2 s) (hm : behindInMarks op b = false) : DV X (.Compare a [op] [b] pos) Γ s := dv_op2 (pe_cmpR ho ha hb hm) hr
/-- .. that leaves the heap as it is and hands back flat data -/
theorem R2D.flat {K : Frag} {r : R2} {d1 d2 d : D} (h : ∀ F H x y, Same F H → Dd F x d1 → Dd F y d2 → ∀ Q : VK, (∀ v, Dd F v d → Q v H) → r x y H Q) : R2D K r d1 d2 (.d d) :=
  fun F H x y s h1 h2 Q q => h F H x y s h1 h2 Q fun v hv => q v F H (Gr.refl s) hv
theorem r2_int {K : Frag} {C : Int → Int → Prop} {g : Int → Int → V} {i j : Int} {d : D} (hc : C i j) (hd : ∀ H, Dd H (g i j) d) : R2D K (rI C g) (.int i) (.int j) (.d d) :=
  .flat fun F H x y s h1 h2 Q q => by cases h1; cases h2; exact ⟨i, j, rfl, rfl, hc, q _ (hd _)⟩
theorem r2_int0 {K : Frag} {g : Int → Int → V} {i j : Int} {d : D} (hd : ∀ H, Dd H (g i j) d) : R2D K (rI0 g) (.int i) (.int j) (.d d) :=
  .flat fun F H x y s h1 h2 Q q => by cases h1; cases h2; exact ⟨i, j, rfl, rfl, q _ (hd _)⟩
variable {i j : Int}
theorem dv_add (ha : DE X a Γ (.int i)) (hb : DE X b Γ (.int j)) : DE X (.BinOp a .Add b pos) Γ (.int (i + j)) := dv_bin op_add ha hb (r2_int0 fun _ => .int _)
theorem dv_sub (ha : DE X a Γ (.int i)) (hb : DE X b Γ (.int j)) : DE X (.BinOp a .Sub b pos) Γ (.int (i - j)) := dv_bin op_sub ha hb (r2_int0 fun _ => .int _)
theorem dv_mod (ha : DE X a Γ (.int i)) (hb : DE X b Γ (.int j)) (h : 0 < j) : DE X (.BinOp a .Mod b pos) Γ (.int (i % j)) := dv_bin op_mod ha hb (r2_int h fun _ => .int _)
theorem dv_mul (ha : DE X a Γ (.int i)) (hb : DE X b Γ (.int j)) (h : (-(2 ^ 64) < i ∧ i < 2 ^ 64) ∨ (-(2 ^ 64) < j ∧ j < 2 ^ 64)) : DE X (.BinOp a .Mult b pos) Γ (.int (i * j)) := dv_bin op_mul ha hb (r2_int h fun _ => .int _)
theorem dv_fdiv (ha : DE X a Γ (.int i)) (hb : DE X b Γ (.int j)) (h : 0 < j ∧ j < 1073741824) : DE X (.BinOp a .FloorDiv b pos) Γ (.int (i / j)) := dv_bin op_fdiv ha hb (r2_int h fun _ => .int _)
theorem dv_pow (ha : DE X a Γ (.int i)) (hb : DE X b Γ (.int j)) (h : 0 ≤ j ∧ j ≤ 1000000 ∧ i.natAbs < 2 ^ 64) : DE X (.BinOp a .Pow b pos) Γ (.int (i ^ j.toNat)) := dv_bin op_pow ha hb (r2_int h fun _ => .int _)
theorem dv_lt (ha : DE X a Γ (.int i)) (hb : DE X b Γ (.int j)) : DE X (.Compare a [.Lt] [b] pos) Γ (.bool (decide (i < j))) := dv_cmp op_lt ha hb (r2_int0 fun _ => .bl _) (nomark _)
theorem dv_le (ha : DE X a Γ (.int i)) (hb : DE X b Γ (.int j)) : DE X (.Compare a [.LtE] [b] pos) Γ (.bool (decide (i ≤ j))) := dv_cmp op_le ha hb (r2_int0 fun _ => .bl _) (nomark _)
theorem dv_gt (ha : DE X a Γ (.int i)) (hb : DE X b Γ (.int j)) : DE X (.Compare a [.Gt] [b] pos) Γ (.bool (decide (j < i))) := dv_cmp op_gt ha hb (r2_int0 fun _ => .bl _) (nomark _)
theorem dv_ge (ha : DE X a Γ (.int i)) (hb : DE X b Γ (.int j)) : DE X (.Compare a [.GtE] [b] pos) Γ (.bool (decide (j ≤ i))) := dv_cmp op_ge ha hb (r2_int0 fun _ => .bl _) (nomark _)
end
end DL
namespace DL
open PySem L2
section
variable {X : Cx} {Γ : Env} {a b c : Expr} {pos : Pos}
/-! ### comparisons as values and as tests -/
/-- op on data d1, d2 answers k -/
def Cmp (X : Cx) (op : CmpOp) (d1 d2 : D) (k : Bool) : Prop := ∃ r, OpR X (compareOp op) r ∧ R2D X.K r d1 d2 (.d (.bool k))
theorem dv_cp {op : CmpOp} {d1 d2 : D} {k : Bool} (h : Cmp X op d1 d2 k) (ha : DE X a Γ d1) (hb : DE X b Γ d2) (hm : behindInMarks op b = false) : DE X (.Compare a [op] [b] pos) Γ (.bool k) := by
  obtain ⟨r, ho, hr⟩ := h
  exact dv_cmp ho ha hb hr hm
theorem dt_cp {op : CmpOp} {d1 d2 : D} {k : Bool} (h : Cmp X op d1 d2 k) (ha : DE X a Γ d1) (hb : DE X b Γ d2) (hm : behindInMarks op b = false) : DT X (.Compare a [op] [b] pos) Γ k := by
  obtain ⟨r, ho, hr⟩ := h
  refine pt_weak (pt_cmpR ho ha hb hm) fun σ H Q ⟨H0, F, st, q⟩ => ?_
  exact ⟨H0, F, st, fun v F1 H1 g1 ok1 => ⟨H0, F1, st.gr g1, fun u F2 H2 g2 ok2 => hr F2 H2 v u g2.s (dd_mono g2.f ok1) ok2 _ fun z F3 H3 g3 ok3 => by
    cases ok3
    exact ⟨k, rfl, q F3 H3 ((g1.trans g2).trans g3)⟩⟩⟩
theorem cp_int {op : CmpOp} {g : Int → Int → Bool} {i j : Int} (ho : OpR X (compareOp op) (rI0 fun i j => .bl (g i j))) : Cmp X op (.int i) (.int j) (g i j) := ⟨_, ho, r2_int0 fun _ => .bl _⟩
variable {i j : Int}
theorem cp_lt : Cmp X .Lt (.int i) (.int j) (decide (i < j)) := cp_int (g := fun i j => decide (i < j)) op_lt
theorem cp_le : Cmp X .LtE (.int i) (.int j) (decide (i ≤ j)) := cp_int (g := fun i j => decide (i ≤ j)) op_le
theorem cp_gt : Cmp X .Gt (.int i) (.int j) (decide (j < i)) := cp_int (g := fun i j => decide (j < i)) op_gt
theorem cp_ge : Cmp X .GtE (.int i) (.int j) (decide (j ≤ i)) := cp_int (g := fun i j => decide (j ≤ i)) op_ge
theorem cp_eq {d e : D} (hu : X.A.units + 64 < cLine) (h1 : SeqAt.shaped d = true) (h2 : SeqAt.shaped e = true) : Cmp X .Eq d e (PyData.eqv d e) :=
  ⟨_, op_eqD hu, .flat fun F H x y s q1 q2 Q q => ⟨d, e, dd_dp (dd_mono s q1), dd_dp (dd_mono s q2), h1, h2, q _ (.bl _)⟩⟩
theorem cp_ne {d e : D} (hu : X.A.units + 64 < cLine) (h1 : SeqAt.shaped d = true) (h2 : SeqAt.shaped e = true) : Cmp X .NotEq d e (!PyData.eqv d e) :=
  ⟨_, op_neD hu, .flat fun F H x y s q1 q2 Q q => ⟨d, e, dd_dp (dd_mono s q1), dd_dp (dd_mono s q2), h1, h2, q _ (.bl _)⟩⟩
theorem cp_eqS {x y : Str} : Cmp X .Eq (.str x) (.str y) (decide (x = y)) := ⟨_, op_eq, .flat fun F H u v s q1 q2 Q q => by
  cases q1; cases q2
  have e : decide (V.str x = V.str y) = decide (x = y) := by
    by_cases h : x = y
    · subst h; simp
    · rw [decide_eq_false h, decide_eq_false (fun z => h (V.str.inj z))]
  exact ⟨rfl, by rw [e]; exact q _ (.bl _)⟩⟩
theorem cp_neS {x y : Str} : Cmp X .NotEq (.str x) (.str y) (!decide (x = y)) := ⟨_, op_ne, .flat fun F H u v s q1 q2 Q q => by
  cases q1; cases q2
  have e : decide (V.str x = V.str y) = decide (x = y) := by
    by_cases h : x = y
    · subst h; simp
    · rw [decide_eq_false h, decide_eq_false (fun z => h (V.str.inj z))]
  exact ⟨rfl, by rw [e]; exact q _ (.bl _)⟩⟩
theorem cp_eqI : Cmp X .Eq (.int i) (.int j) (decide (i = j)) := ⟨_, op_eq, .flat fun F H u v s q1 q2 Q q => by
  cases q1; cases q2
  have e : decide (V.int i = V.int j) = decide (i = j) := by
    by_cases h : i = j
    · subst h; simp
    · rw [decide_eq_false h, decide_eq_false (fun z => h (V.int.inj z))]
  exact ⟨rfl, by rw [e]; exact q _ (.bl _)⟩⟩
theorem cp_neI : Cmp X .NotEq (.int i) (.int j) (!decide (i = j)) := ⟨_, op_ne, .flat fun F H u v s q1 q2 Q q => by
  cases q1; cases q2
  have e : decide (V.int i = V.int j) = decide (i = j) := by
    by_cases h : i = j
    · subst h; simp
    · rw [decide_eq_false h, decide_eq_false (fun z => h (V.int.inj z))]
  exact ⟨rfl, by rw [e]; exact q _ (.bl _)⟩⟩
theorem cp_eqB {p q : Bool} : Cmp X .Eq (.bool p) (.bool q) (p == q) := ⟨_, op_eq, .flat fun F H u v s q1 q2 Q k => by
  cases q1; cases q2
  have e : decide (V.bl p = V.bl q) = (p == q) := by cases p <;> cases q <;> rfl
  exact ⟨rfl, by rw [e]; exact k _ (.bl _)⟩⟩
theorem cp_neB {p q : Bool} : Cmp X .NotEq (.bool p) (.bool q) (!(p == q)) := ⟨_, op_ne, .flat fun F H u v s q1 q2 Q k => by
  cases q1; cases q2
  have e : decide (V.bl p = V.bl q) = (p == q) := by cases p <;> cases q <;> rfl
  exact ⟨rfl, by rw [e]; exact k _ (.bl _)⟩⟩
def isNon : D → Bool
  | .none => true
  | _ => false
theorem dd_non {F : Hp} {v : V} {d : D} (h : Dd F v d) : decide (v = .non) = isNon d := by
  cases h <;> first | rfl | (exact decide_eq_false (fun z => nomatch z))
theorem cp_isN {d : D} : Cmp X .Is d .none (isNon d) := ⟨_, op_isN, .flat fun F H u v s q1 q2 Q q => by
  cases q2
  exact ⟨rfl, by rw [dd_non q1]; exact q _ (.bl _)⟩⟩
theorem cp_notN {d : D} : Cmp X .IsNot d .none (!isNon d) := ⟨_, op_notN, .flat fun F H u v s q1 q2 Q q => by
  cases q2
  exact ⟨rfl, by rw [dd_non q1]; exact q _ (.bl _)⟩⟩
theorem cp_isB {p q : Bool} : Cmp X .Is (.bool p) (.bool q) (p == q) := ⟨_, op_isBl, .flat fun F H u v s q1 q2 Q k => by
  cases q1; cases q2
  have e : decide (p = q) = (p == q) := by cases p <;> cases q <;> rfl
  exact ⟨p, q, rfl, rfl, by rw [e]; exact k _ (.bl _)⟩⟩
theorem cp_notB {p q : Bool} : Cmp X .IsNot (.bool p) (.bool q) (!(p == q)) := ⟨_, op_notBl, .flat fun F H u v s q1 q2 Q k => by
  cases q1; cases q2
  have e : decide (p = q) = (p == q) := by cases p <;> cases q <;> rfl
  exact ⟨p, q, rfl, rfl, by rw [e]; exact k _ (.bl _)⟩⟩
/-! ### in, not in: texts in a list or tuple of texts; ints -/
theorem inV_str {x : Str} : ∀ {ss : List Str}, inV (.str x) (ss.map V.str) = decide (x ∈ ss)
  | [] => rfl
  | y :: r => by
    have ih := inV_str (x := x) (ss := r)
    have e : inV (.str x) ((y :: r).map V.str) = ((y == x) || inV (.str x) (r.map V.str)) := rfl
    rw [e, ih]
    by_cases h : y = x
    · subst h; simp
    · have h' : ¬ x = y := fun z => h z.symm
      simp [h, h']
theorem inV_int {x : Int} : ∀ {ss : List Int}, inV (.int x) (ss.map V.int) = decide (x ∈ ss)
  | [] => rfl
  | y :: r => by
    have ih := inV_int (x := x) (ss := r)
    have e : inV (.int x) ((y :: r).map V.int) = ((y == x) || inV (.int x) (r.map V.int)) := rfl
    rw [e, ih]
    by_cases h : y = x
    · subst h; simp
    · have h' : ¬ x = y := fun z => h z.symm
      simp [h, h']
theorem flat_strs (ys : List Str) : (ys.map V.str).all flatV = true := by simp [flatV]
theorem flat_ints (ys : List Int) : (ys.map V.int).all flatV = true := by simp [flatV]
/-- a list or tuple of these -/
def IsSeq (s : D) (ds : List D) : Prop := s = .list ds ∨ s = .tuple ds
theorem IsSeq.l {ds : List D} : IsSeq (.list ds) ds := .inl rfl
theorem IsSeq.t {ds : List D} : IsSeq (.tuple ds) ds := .inr rfl
theorem dd_seq {K : Frag} {F : Hp} {v : V} {s : D} {ds : List D} (h : Dd F v s) (e : IsSeq s ds) : ∃ p vs, v = .ref p ∧ (SqL K F p vs ∨ SqT K F p vs) ∧ DdAll F vs ds := by
  rcases e with rfl | rfl
  · cases h with
    | lst h q => exact ⟨_, _, rfl, .inl (SqL.of h), q⟩
  · cases h with
    | tup h n q => exact ⟨_, _, rfl, .inr (.inl (.inr ⟨_, h⟩)), q⟩
theorem sqt_mono {K : Frag} {H H' : Hp} (e : Same H H') {a : Addr} {xs : List V} (h : SqT K H a xs) : SqT K H' a xs := by
  rcases h with (h | ⟨o, h⟩) | h
  · exact .inl (.inl (e _ _ h))
  · exact .inl (.inr ⟨o, e _ _ h⟩)
  · exact .inr h
theorem seq_mono {K : Frag} {F H : Hp} (e : Same F H) {p : Addr} {vs : List V} (h : SqL K F p vs ∨ SqT K F p vs) : SqL K H p vs ∨ SqT K H p vs := h.imp (sql_mono e) (sqt_mono e)
theorem cp_inS {x : Str} {ss : List Str} {s : D} (e : IsSeq s (ss.map PyData.str)) : Cmp X .In (.str x) s (decide (x ∈ ss)) := ⟨_, op_in_seq, .flat fun F H u v sm q1 q2 Q q => by
  cases q1
  obtain ⟨p, vs, rfl, hs, hd⟩ := dd_seq (K := X.K) q2 e
  have ev := dda_strs hd
  subst ev
  refine ⟨p, _, rfl, seq_mono sm hs, rfl, flat_strs _, ?_⟩
  rw [show (if false = true then !inV (.str x) (ss.map V.str) else inV (.str x) (ss.map V.str)) = decide (x ∈ ss) by rw [← inV_str]; rfl]
  exact q _ (.bl _)⟩
theorem cp_ninS {x : Str} {ss : List Str} {s : D} (e : IsSeq s (ss.map PyData.str)) : Cmp X .NotIn (.str x) s (!decide (x ∈ ss)) := ⟨_, op_notIn_seq, .flat fun F H u v sm q1 q2 Q q => by
  cases q1
  obtain ⟨p, vs, rfl, hs, hd⟩ := dd_seq (K := X.K) q2 e
  have ev := dda_strs hd
  subst ev
  refine ⟨p, _, rfl, seq_mono sm hs, rfl, flat_strs _, ?_⟩
  rw [show (if true = true then !inV (.str x) (ss.map V.str) else inV (.str x) (ss.map V.str)) = !decide (x ∈ ss) by rw [← inV_str]; rfl]
  exact q _ (.bl _)⟩
theorem cp_ninI {x : Int} {ss : List Int} {s : D} (e : IsSeq s (ss.map PyData.int)) : Cmp X .NotIn (.int x) s (!decide (x ∈ ss)) := ⟨_, op_notIn_seq, .flat fun F H u v sm q1 q2 Q q => by
  cases q1
  obtain ⟨p, vs, rfl, hs, hd⟩ := dd_seq (K := X.K) q2 e
  have ev := dda_ints hd
  subst ev
  refine ⟨p, _, rfl, seq_mono sm hs, rfl, flat_ints _, ?_⟩
  rw [show (if true = true then !inV (.int x) (ss.map V.int) else inV (.int x) (ss.map V.int)) = !decide (x ∈ ss) by rw [← inV_int]; rfl]
  exact q _ (.bl _)⟩
/-! ### a < b < c -/
theorem dv_ch {op op' : CmpOp} {d1 d2 d3 : D} {k l : Bool} (h : Cmp X op d1 d2 k) (h' : Cmp X op' d2 d3 l) (ha : DE X a Γ d1) (hb : DE X b Γ d2) (hc : DE X c Γ d3) (hm : lastMarks [op, op'] [b, c] = false := by with_unfolding_all rfl) : DE X (.Compare a [op, op'] [b, c] pos) Γ (.bool (k && l)) := by
  obtain ⟨r, ho, hr⟩ := h
  obtain ⟨r', ho', hr'⟩ := h'
  refine pe_weak (pe_chain ho ho' ha hb hc hm) fun σ H Q ⟨H0, F, st, q⟩ => ?_
  refine ⟨H0, F, st, fun v F1 H1 g1 ok1 => ⟨H0, F1, st.gr g1, fun u F2 H2 g2 ok2 => hr F2 H2 v u g2.s (dd_mono g2.f ok1) ok2 _ fun z F3 H3 g3 ok3 => ?_⟩⟩
  cases ok3
  refine ⟨k, rfl, ?_⟩
  have g := (g1.trans g2).trans g3
  cases k with
  | true =>
    exact ⟨H0, F3, st.gr g, fun w F4 H4 g4 ok4 => hr' F4 H4 u w g4.s (dd_mono (g3.trans g4).f ok2) ok4 _ fun z F5 H5 g5 ok5 => q z F5 H5 ((g.trans g4).trans g5) (by cases ok5; exact .bl l)⟩
  | false => exact q _ F3 H3 g (.bl false)
theorem dt_ch {op op' : CmpOp} {d1 d2 d3 : D} {k l : Bool} (h : Cmp X op d1 d2 k) (h' : Cmp X op' d2 d3 l) (ha : DE X a Γ d1) (hb : DE X b Γ d2) (hc : DE X c Γ d3) (hm : lastMarks [op, op'] [b, c] = false := by with_unfolding_all rfl) : DT X (.Compare a [op, op'] [b, c] pos) Γ (k && l) := by
  obtain ⟨r, ho, hr⟩ := h
  obtain ⟨r', ho', hr'⟩ := h'
  refine pt_weak (pt_chain ho ho' ha hb hc hm) fun σ H Q ⟨H0, F, st, q⟩ => ?_
  refine ⟨H0, F, st, fun v F1 H1 g1 ok1 => ⟨H0, F1, st.gr g1, fun u F2 H2 g2 ok2 => hr F2 H2 v u g2.s (dd_mono g2.f ok1) ok2 _ fun z F3 H3 g3 ok3 => ?_⟩⟩
  cases ok3
  refine ⟨k, rfl, ?_⟩
  have g := (g1.trans g2).trans g3
  cases k with
  | true =>
    exact ⟨H0, F3, st.gr g, fun w F4 H4 g4 ok4 => hr' F4 H4 u w g4.s (dd_mono (g3.trans g4).f ok2) ok4 _ fun z F5 H5 g5 ok5 => by cases ok5; exact ⟨l, rfl, q F5 H5 ((g.trans g4).trans g5)⟩⟩
  | false => exact ⟨false, rfl, q F3 H3 g⟩
/-! ### tests -/
theorem dt_val {k : Bool} (h : DE X a Γ (.bool k)) (he : ∀ whole, isTrue a X.env whole = (do let v ← whole; standAt a.pos; holding [v] (truthy v)) := by intro _; rfl) : DT X a Γ k :=
  pt_weak (pt_val h he) fun σ H Q ⟨H0, F, st, q⟩ => ⟨H0, F, st, fun v F1 H1 g ok => by cases ok; exact ⟨k, rfl, q F1 H1 g⟩⟩
theorem dt_not {k : Bool} (h : DT X a Γ k) : DT X (.UnaryOp .Not a pos) Γ (!k) := pt_weak (pt_not h) fun σ H Q ⟨H0, F, st, q⟩ => ⟨H0, F, st, fun F1 H1 g => q F1 H1 g⟩
theorem DW.t {k : Bool} (h : DW X a Γ k) : DT X a Γ k := PW.pt h
theorem dw_and1 {k : Bool} (h : DT X a Γ k) : DW X (.BoolOp .And [a] pos) Γ k := pw_and1 h
theorem dw_or1 {k : Bool} (h : DT X a Γ k) : DW X (.BoolOp .Or [a] pos) Γ k := pw_or1 h
theorem dw_and {k l : Bool} {rest : List Expr} (h : DT X a Γ k) (h2 : k = true → DW X (.BoolOp .And (b :: rest) pos) Γ l) : DW X (.BoolOp .And (a :: b :: rest) pos) Γ (k && l) := by
  cases k with
  | true => exact pw_weak (pw_and h (h2 rfl)) fun σ H Q ⟨H0, F, st, q⟩ => ⟨H0, F, st, fun F1 H1 g => iteT ⟨H0, F1, st.gr g, fun F2 H2 g2 => q F2 H2 (g.trans g2)⟩⟩
  | false =>
    exact pw_weak (pw_and (tB' := fun _ _ _ => False) h ⟨fun _ _ _ _ _ _ _ f => f.elim⟩) fun σ H Q ⟨H0, F, st, q⟩ => ⟨H0, F, st, fun F1 H1 g => iteF (q F1 H1 g)⟩
theorem dw_or {k l : Bool} {rest : List Expr} (h : DT X a Γ k) (h2 : k = false → DW X (.BoolOp .Or (b :: rest) pos) Γ l) : DW X (.BoolOp .Or (a :: b :: rest) pos) Γ (k || l) := by
  cases k with
  | false => exact pw_weak (pw_or h (h2 rfl)) fun σ H Q ⟨H0, F, st, q⟩ => ⟨H0, F, st, fun F1 H1 g => iteF ⟨H0, F1, st.gr g, fun F2 H2 g2 => q F2 H2 (g.trans g2)⟩⟩
  | true =>
    exact pw_weak (pw_or (tB' := fun _ _ _ => False) h ⟨fun _ _ _ _ _ _ _ f => f.elim⟩) fun σ H Q ⟨H0, F, st, q⟩ => ⟨H0, F, st, fun F1 H1 g => iteT (q F1 H1 g)⟩
/-- and, or, not as values -/
theorem dv_one {op} {s : Sv} (h : DV X a Γ s) : DV X (.BoolOp op [a] pos) Γ s := pe_one h
theorem dv_and {k l : Bool} {rest : List Expr} (h : DE X a Γ (.bool k)) (h2 : k = true → DE X (.BoolOp .And (b :: rest) pos) Γ (.bool l)) : DE X (.BoolOp .And (a :: b :: rest) pos) Γ (.bool (k && l)) := by
  cases k with
  | true => exact pe_weak (pe_and h (h2 rfl)) fun σ H Q ⟨H0, F, st, q⟩ => ⟨H0, F, st, fun v F1 H1 g ok => by cases ok; exact ⟨true, rfl, iteT ⟨H0, F1, st.gr g, fun v2 F2 H2 g2 ok2 => q v2 F2 H2 (g.trans g2) (by cases ok2; exact .bl l)⟩⟩⟩
  | false =>
    exact pe_weak (pe_and (tb := fun _ _ _ => False) h ⟨fun _ _ _ _ _ _ f => f.elim⟩) fun σ H Q ⟨H0, F, st, q⟩ => ⟨H0, F, st, fun v F1 H1 g ok => by cases ok; exact ⟨false, rfl, iteF (q _ F1 H1 g (.bl false))⟩⟩
theorem dv_or {k l : Bool} {rest : List Expr} (h : DE X a Γ (.bool k)) (h2 : k = false → DE X (.BoolOp .Or (b :: rest) pos) Γ (.bool l)) : DE X (.BoolOp .Or (a :: b :: rest) pos) Γ (.bool (k || l)) := by
  cases k with
  | false => exact pe_weak (pe_or h (h2 rfl)) fun σ H Q ⟨H0, F, st, q⟩ => ⟨H0, F, st, fun v F1 H1 g ok => by cases ok; exact ⟨false, rfl, iteF ⟨H0, F1, st.gr g, fun v2 F2 H2 g2 ok2 => q v2 F2 H2 (g.trans g2) (by cases ok2; exact .bl l)⟩⟩⟩
  | true =>
    exact pe_weak (pe_or (tb := fun _ _ _ => False) h ⟨fun _ _ _ _ _ _ f => f.elim⟩) fun σ H Q ⟨H0, F, st, q⟩ => ⟨H0, F, st, fun v F1 H1 g ok => by cases ok; exact ⟨true, rfl, iteT (q _ F1 H1 g (.bl true))⟩⟩
theorem dv_not {k : Bool} (h : DE X a Γ (.bool k)) : DE X (.UnaryOp .Not a pos) Γ (.bool (!k)) := pe_weak (pe_not h) fun σ H Q ⟨H0, F, st, q⟩ => ⟨H0, F, st, fun v F1 H1 g ok => by cases ok; exact ⟨k, rfl, q _ F1 H1 g (.bl _)⟩⟩
theorem dv_if {k : Bool} {s : Sv} (hc : DT X c Γ k) (h1 : k = true → DV X a Γ s) (h2 : k = false → DV X b Γ s) : DV X (.IfExp c a b pos) Γ s := by
  cases k with
  | true =>
    exact pe_weak (pe_ifExp (tb := fun _ _ _ => False) hc (h1 rfl) ⟨fun _ _ _ _ _ _ f => f.elim⟩) fun σ H Q ⟨H0, F, st, q⟩ => ⟨H0, F, st, fun F1 H1 g => iteT ⟨H0, F1, st.gr g, fun v F2 H2 g2 ok => q v F2 H2 (g.trans g2) (ok.base g.h)⟩⟩
  | false =>
    exact pe_weak (pe_ifExp (ta := fun _ _ _ => False) hc ⟨fun _ _ _ _ _ _ f => f.elim⟩ (h2 rfl)) fun σ H Q ⟨H0, F, st, q⟩ => ⟨H0, F, st, fun F1 H1 g => iteF ⟨H0, F1, st.gr g, fun v F2 H2 g2 ok => q v F2 H2 (g.trans g2) (ok.base g.h)⟩⟩
/-- not in value's place -/
theorem dv_neg (h : DE X a Γ (.int i)) : DE X (.UnaryOp .USub a pos) Γ (.int (-i)) := pe_weak (pe_un un_neg h) fun σ H Q ⟨H0, F, st, q⟩ => ⟨H0, F, st, fun v F1 H1 g ok => by cases ok; exact ⟨i, rfl, q _ F1 H1 g (.int _)⟩⟩
/-! ### slices, items -/
def cut {α : Type} (xs : List α) (lo hi : Option Int) : List α := (xs.drop (HT.sIx xs.length 0 lo)).take (HT.sIx xs.length xs.length hi - HT.sIx xs.length 0 lo)
theorem cut_map {α β : Type} (f : α → β) (xs : List α) (lo hi : Option Int) : cut (xs.map f) lo hi = (cut xs lo hi).map f := by
  unfold cut; rw [List.length_map, List.map_take, List.map_drop]
theorem cut_dd {F : Hp} {vs : List V} {ds : List D} (h : DdAll F vs ds) (lo hi : Option Int) : DdAll F (cutV vs lo hi) (cut ds lo hi) := by
  unfold cutV cut; rw [dda_length h]; exact dda_take _ (dda_drop _ h)
theorem do_none : DO X none Γ none := po_weak po_none fun σ H Q ⟨H0, F, st, q⟩ => q F H (Gr.refl st.sub)
theorem do_some (h : DE X a Γ (.int i)) : DO X (some a) Γ (some i) := po_weak (po_some h) fun σ H Q ⟨H0, F, st, q⟩ => ⟨H0, F, st, fun v F1 H1 g ok => by cases ok; exact ⟨i, rfl, q F1 H1 g⟩⟩
theorem dv_slL {lo hi : Option Expr} {l u : Option Int} {ds : List D} {p2 : Pos} (h : DE X a Γ (.list ds)) (hl : DO X lo Γ l) (hu : DO X hi Γ u) : DV X (.Subscript a (.Slice lo hi none p2) pos) Γ (.own (cut ds l u)) :=
  pe_weak (pe_slice sl_list h hl hu) fun σ H Q ⟨H0, F, st, q⟩ => ⟨H0, F, st, fun v F1 H1 g1 ok => ⟨H0, F1, st.gr g1, fun F2 H2 g2 => ⟨H0, F2, st.gr (g1.trans g2), fun F3 H3 g3 => by
    cases dd_mono (g2.trans g3).f ok with
    | lst hh hd =>
      refine ⟨_, _, rfl, SqL.of (g3.s _ _ hh), fun p hp => ?_⟩
      have g := (g1.trans g2).trans g3
      exact q _ _ _ (g.trans (Gr.newO g.s hp)) ⟨p, _, rfl, g.h.free hp, g.s.free hp, upd_same, cut_dd hd l u⟩⟩⟩⟩
def rSlF (K : Frag) : V → Option Int → Option Int → Hp → VK → Prop := fun x lo hi H Q => ∃ t xs, x = .ref t ∧ SqT K H t xs ∧
  (cutV xs lo hi = xs → Q (.ref t) H) ∧ ∀ p o, H p = none → o.dict = none → Q (.ref p) (upd H p (.frz o (.tup (cutV xs lo hi))))
theorem sl_tupF : SlR X (rSlF X.K) := by
  intro pins s σ H x v vl vu lo hi sl Q I rx hs pl pu h
  obtain ⟨t, xs, rfl, hx, q1, q2⟩ := h
  cases rx
  obtain ⟨its, r, ht, hz⟩ := I.tuple hx
  have hlen : its.toArray.size = xs.length := by rw [List.size_toArray]; exact r.length.symm
  refine ⟨"tuple", _, PyProof.Rows.slot_tuple_getitem.lookup, ht.typeIs, ?_⟩
  by_cases hw : HT.sIx xs.length 0 lo = 0 ∧ HT.sIx xs.length xs.length hi = xs.length
  · refine L2.getItem_tuple_whole ht hs pl pu (by rw [hlen]; exact hw) ⟨.ref t, H, I, rfl, q1 ?_⟩
    unfold cutV
    rw [hw.1, hw.2]
    simp
  · refine HT.getItem_tuple_cut ht hs pl pu (by rw [hlen]; exact hw) ?_ (by rw [hlen]; exact hz)
    rw [hlen]
    have rc : Vals (cutV xs lo hi) ((its.drop (HT.sIx xs.length 0 lo)).take (HT.sIx xs.length xs.length hi - HT.sIx xs.length 0 lo)) := (r.drop _).take _
    exact ⟨.ref s.heap.objs.size, _, tup_laid I rc (Nat.le_trans (cutV_length xs lo hi) hz), rfl, q2 _ _ I.fresh rfl⟩
theorem dv_slT {lo hi : Option Expr} {l u : Option Int} {ds : List D} {p2 : Pos} (h : DE X a Γ (.tuple ds)) (hl : DO X lo Γ l) (hu : DO X hi Γ u) : DE X (.Subscript a (.Slice lo hi none p2) pos) Γ (.tuple (cut ds l u)) :=
  pe_weak (pe_slice sl_tupF h hl hu) fun σ H Q ⟨H0, F, st, q⟩ => ⟨H0, F, st, fun v F1 H1 g1 ok => ⟨H0, F1, st.gr g1, fun F2 H2 g2 => ⟨H0, F2, st.gr (g1.trans g2), fun F3 H3 g3 => by
    have g := (g1.trans g2).trans g3
    cases dd_mono (g2.trans g3).f ok with
    | tup hh hn hd =>
      refine ⟨_, _, rfl, .inl (.inr ⟨_, g3.s _ _ hh⟩), fun e => ?_, fun p o hp ho => ?_⟩
      · have hc := cut_dd hd l u
        rw [e] at hc
        exact q _ _ _ g (.tup hh hn hc)
      · exact q _ _ _ (g.trans (Gr.new g.s hp)) (dd_tup (g.s.free hp) ho (cut_dd hd l u))⟩⟩⟩
theorem atI_dd {F : Hp} {vs : List V} {ds : List D} {d : D} (h : DdAll F vs ds) (e : atI ds i = some d) : ∃ v, atI vs i = some v ∧ Dd F v d := by
  unfold atI at e ⊢
  rw [dda_length h]
  cases q : ixN ds.length i with
  | none => rw [q] at e; cases e
  | some j => rw [q] at e; exact dda_get h e
theorem dv_ixL {ds : List D} {d : D} (ha : DE X a Γ (.list ds)) (hb : DE X b Γ (.int i)) (e : atI ds i = some d) (hs : PlainIx b := by exact fun _ _ => rfl) : DE X (.Subscript a b pos) Γ d :=
  dv_op2 (pe_ix ix_list ha hb hs) (.flat fun F H x y s h1 h2 Q q => by
    cases h2
    cases h1 with
    | lst hh hd => obtain ⟨v, ev, hv⟩ := atI_dd hd e; exact ⟨_, _, i, v, rfl, rfl, SqL.of (s _ _ hh), ev, q v hv⟩)
theorem dv_ixT {ds : List D} {d : D} (ha : DE X a Γ (.tuple ds)) (hb : DE X b Γ (.int i)) (e : atI ds i = some d) (hs : PlainIx b := by exact fun _ _ => rfl) : DE X (.Subscript a b pos) Γ d :=
  dv_op2 (pe_ix ix_tup ha hb hs) (.flat fun F H x y s h1 h2 Q q => by
    cases h2
    cases h1 with
    | tup hh hn hd => obtain ⟨v, ev, hv⟩ := atI_dd hd e; exact ⟨_, _, i, v, rfl, rfl, .inl (.inr ⟨_, s _ _ hh⟩), ev, q v hv⟩)
theorem dv_ixS {z : Str} {n : Nat} (ha : DE X a Γ (.str z)) (hb : DE X b Γ (.int i)) (e : atI z.cps.toList i = some n) (hz : z.length ≤ sizeLine) (hs : PlainIx b := by exact fun _ _ => rfl) : DE X (.Subscript a b pos) Γ (.str ⟨#[n]⟩) :=
  dv_op2 (pe_ix ix_str ha hb hs) (.flat fun F H x y s h1 h2 Q q => by
    cases h1
    cases h2
    exact ⟨z, i, n, rfl, rfl, hz, e, q _ (.str _)⟩)
/-! ### + and * of lists, tuples, texts -/
theorem dv_catL {ds es : List D} (ha : DE X a Γ (.list ds)) (hb : DE X b Γ (.list es)) (hz : ds.length + es.length ≤ sizeLine) : DV X (.BinOp a .Add b pos) Γ (.own (ds ++ es)) :=
  dv_bin op_cat ha hb fun F H x y s h1 h2 Q q => by
    cases h1 with
    | lst hh hd => cases h2 with
      | lst gh gd => exact ⟨_, _, _, _, rfl, rfl, s _ _ hh, s _ _ gh, by rw [dda_length hd, dda_length gd]; exact hz, fun p hp => q _ _ _ (Gr.newO s hp) ⟨p, _, rfl, hp, s.free hp, upd_same, dda_append hd gd⟩⟩
def rCatF (K : Frag) : R2 := fun x y H Q => ∃ a b xs ys, x = .ref a ∧ y = .ref b ∧ SqT K H a xs ∧ SqT K H b ys ∧ xs.length + ys.length ≤ sizeLine ∧
  (xs = [] → Q (.ref b) H) ∧ (ys = [] → Q (.ref a) H) ∧ ∀ p o, H p = none → o.dict = none → Q (.ref p) (upd H p (.frz o (.tup (xs ++ ys))))
theorem op_catF : OpR X (binaryOp .Add) (rCatF X.K) := by
  intro pins s σ H x y v u Q I rx ry h
  obtain ⟨a, b, xs, ys, rfl, rfl, ha, hb, hz, q0, q1, q2⟩ := h
  cases rx
  cases ry
  obtain ⟨its, r1, p1, _⟩ := I.tuple ha
  obtain ⟨its2, r2, p2, _⟩ := I.tuple hb
  by_cases hx : xs = []
  · subst hx
    cases r1
    exact L2.cat_tup0 p1 p2 ⟨.ref b, H, I, rfl, q0 rfl⟩
  · have nx : its ≠ [] := fun z => by subst z; cases r1; exact hx rfl
    refine HT.cat_tup p1 p2 nx (fun z => ?_) (fun z => ?_) (by rw [← r1.length, ← r2.length]; exact hz)
    · subst z; cases r2; exact ⟨.ref a, H, I, rfl, q1 rfl⟩
    · exact ⟨.ref s.heap.objs.size, _, tup_laid I (r1.append r2) (by rw [List.length_append]; exact hz), rfl, q2 _ _ I.fresh rfl⟩
theorem dv_catT {ds es : List D} (ha : DE X a Γ (.tuple ds)) (hb : DE X b Γ (.tuple es)) (hz : ds.length + es.length ≤ sizeLine) : DE X (.BinOp a .Add b pos) Γ (.tuple (ds ++ es)) :=
  dv_bin op_catF ha hb fun F H x y s h1 h2 Q q => by
    cases h1 with
    | tup hh hn hd => cases h2 with
      | tup gh gn gd =>
        refine ⟨_, _, _, _, rfl, rfl, .inl (.inr ⟨_, s _ _ hh⟩), .inl (.inr ⟨_, s _ _ gh⟩), by rw [dda_length hd, dda_length gd]; exact hz, fun e => ?_, fun e => ?_, fun p o hp ho => ?_⟩
        · have e2 := (dda_nil_iff hd).mp e
          subst e2
          exact q _ _ _ (Gr.refl s) (.tup gh gn gd)
        · have e2 := (dda_nil_iff gd).mp e
          subst e2
          rw [List.append_nil] at q
          exact q _ _ _ (Gr.refl s) (.tup hh hn hd)
        · exact q _ _ _ (Gr.new s hp) (dd_tup (s.free hp) ho (dda_append hd gd))
theorem dv_catS {x y : Str} (ha : DE X a Γ (.str x)) (hb : DE X b Γ (.str y)) (hz : x.length + y.length ≤ sizeLine) : DE X (.BinOp a .Add b pos) Γ (.str (x ++ y)) :=
  dv_bin op_add_str ha hb (.flat fun F H u v s h1 h2 Q q => by cases h1; cases h2; exact ⟨x, y, rfl, rfl, hz, q _ (.str _)⟩)
theorem dda_rep {F : Hp} {vs : List V} {ds : List D} (h : DdAll F vs ds) : ∀ n, DdAll F (List.replicate n vs).flatten (List.replicate n ds).flatten
  | 0 => .nil
  | n + 1 => by rw [List.replicate_succ, List.replicate_succ, List.flatten_cons, List.flatten_cons]; exact dda_append h (dda_rep h n)
theorem dv_repL {ds : List D} (ha : DE X a Γ (.list ds)) (hb : DE X b Γ (.int i)) (h1 : -(2 ^ 63) ≤ i) (h2 : i < 2 ^ 63) (hz : ds.length * i.toNat ≤ sizeLine) : DV X (.BinOp a .Mult b pos) Γ (.own (List.replicate i.toNat ds).flatten) :=
  dv_bin op_rep ha hb fun F H x y s q1 q2 Q q => by
    cases q2
    cases q1 with
    | lst hh hd => exact ⟨_, i, _, rfl, rfl, s _ _ hh, h1, h2, by rw [dda_length hd]; exact hz, fun p hp => q _ _ _ (Gr.newO s hp) ⟨p, _, rfl, hp, s.free hp, upd_same, dda_rep hd _⟩⟩
end
end DL
namespace DL
open PySem L2
section
variable {X : Cx} {Γ : Env} {a b c e : Expr} {es : List Expr} {pos p : Pos} {i j : Int} {x : Str} {bid : String}
/-! ### calls of built-ins -/
def RCD (K : Frag) (r : List V → Hp → VK → Prop) (ds : List D) (s : Sv) : Prop := ∀ F H vs, Same F H → DdAll F vs ds → ∀ Q : VK, (∀ v F' H', Gr F H F' H' → SvOk K H F' H' v s → Q v H') → r vs H Q
theorem dv_cb {r : List V → Hp → VK → Prop} {ds : List D} {s : Sv} (hp : PE X a (tCB r (rdA X.K Γ ds))) (hr : RCD X.K r ds s) : DV X a Γ s := pe_weak hp fun σ H Q ⟨H0, F, st, q⟩ =>
  ⟨H0, F, st, fun vs F1 H1 g1 ok1 => hr F1 H1 vs g1.s ok1 Q fun z F3 H3 g3 ok3 => q z F3 H3 (g1.trans g3) (ok3.base g1.h)⟩
theorem RCD.flat {K : Frag} {r : List V → Hp → VK → Prop} {ds : List D} {d : D} (h : ∀ F H vs, Same F H → DdAll F vs ds → ∀ Q : VK, (∀ v, Dd F v d → Q v H) → r vs H Q) : RCD K r ds (.d d) :=
  fun F H vs s h1 Q q => h F H vs s h1 Q fun v hv => q v F H (Gr.refl s) hv
theorem dda_one {F : Hp} {vs : List V} {d : D} (h : DdAll F vs [d]) : ∃ v, vs = [v] ∧ Dd F v d := by
  cases h with
  | cons h q => cases q; exact ⟨_, rfl, h⟩
theorem dda_two {F : Hp} {vs : List V} {d d2 : D} (h : DdAll F vs [d, d2]) : ∃ v u, vs = [v, u] ∧ Dd F v d ∧ Dd F u d2 := by
  cases h with
  | cons h q => cases q with
    | cons h2 q => cases q; exact ⟨_, _, rfl, h, h2⟩
/-- what is asked of a built-in's name -/
structure Blt (X : Cx) (x : Str) (v : Value) : Prop where
  g : Gl X x
  m : X.mg x = none
  b : bootBuiltins x = some v
section
variable (e es)
/-- of its first argument (no star) -/
def Pl (X : Cx) (e : Expr) (es : List Expr) (pos : Pos) : Prop := starEach (e :: es) X.env = (false, eval e X.env) :: starEach es X.env ∧ (backTo pos (starEach es X.env)).any (·.1) = false
end
theorem dv_bl1 {r : List V → Hp → VK → Prop} {ds : List D} {s : Sv} (hc : CallR X (.builtin bid) r) (B : Blt X x (.builtin bid)) (ha : DA X (e :: es) Γ ds) (hr : RCD X.K r ds s) (pl : Pl X e es pos) (hn : x ≠ "__name__" := by decide) (hdb : (x == ("__debug__" : Str)) = false := by decide) : DV X (.Call (.Name x p) (e :: es) [] pos) Γ s :=
  dv_cb (pe_callB hc B.g B.m B.b ha hn hdb pl.1 pl.2) hr
theorem dv_ty1 {r : List V → Hp → VK → Prop} {ds : List D} {s : Sv} (hc : CallR X (.type bid) r) (B : Blt X x (.type bid)) (ha : DA X (e :: es) Γ ds) (hr : RCD X.K r ds s) (pl : Pl X e es pos) (hn : x ≠ "__name__" := by decide) (hdb : (x == ("__debug__" : Str)) = false := by decide) : DV X (.Call (.Name x p) (e :: es) [] pos) Γ s :=
  dv_cb (pe_callTy hc B.g B.m B.b ha hn hdb pl.1 pl.2) hr
theorem dv_len {s : D} {ds : List D} (B : Blt X "len" (.builtin "len")) (h : DE X e Γ s) (q : IsSeq s ds) (pl : Pl X e [] pos := by exact ⟨rfl, rfl⟩) : DE X (.Call (.Name "len" p) [e] [] pos) Γ (.int ds.length) :=
  dv_bl1 call_len_seq B (da_one h pl.1) (.flat fun F H vs s h1 Q k => by
    obtain ⟨v, rfl, hv⟩ := dda_one h1
    obtain ⟨p, us, rfl, hs, hd⟩ := dd_seq (K := X.K) hv q
    exact ⟨p, us, rfl, seq_mono s hs, by rw [dda_length hd]; exact k _ (.int _)⟩) pl
theorem dv_lenS {s : Str} (B : Blt X "len" (.builtin "len")) (h : DE X e Γ (.str s)) (hz : s.length ≤ sizeLine) (pl : Pl X e [] pos := by exact ⟨rfl, rfl⟩) : DE X (.Call (.Name "len" p) [e] [] pos) Γ (.int s.length) :=
  dv_bl1 call_len B (da_one h pl.1) (.flat fun F H vs s' h1 Q k => by
    obtain ⟨v, rfl, hv⟩ := dda_one h1
    cases hv
    exact ⟨_, _, rfl, ⟨hz, rfl⟩, k _ (.int _)⟩) pl
theorem dv_intB {k : Bool} (B : Blt X "int" (.type "int")) (h : DE X e Γ (.bool k)) (pl : Pl X e [] pos := by exact ⟨rfl, rfl⟩) : DE X (.Call (.Name "int" p) [e] [] pos) Γ (.int (if k then 1 else 0)) :=
  dv_ty1 call_int1 B (da_one h pl.1) (.flat fun F H vs s' h1 Q q => by
    obtain ⟨v, rfl, hv⟩ := dda_one h1
    cases hv
    exact .inr ⟨k, rfl, q _ (.int _)⟩) pl
theorem dv_boolI (B : Blt X "bool" (.type "bool")) (h : DE X e Γ (.int i)) (pl : Pl X e [] pos := by exact ⟨rfl, rfl⟩) : DE X (.Call (.Name "bool" p) [e] [] pos) Γ (.bool (i != 0)) :=
  dv_ty1 call_bool1 B (da_one h pl.1) (.flat fun F H vs s' h1 Q q => by
    obtain ⟨v, rfl, hv⟩ := dda_one h1
    cases hv
    exact .inl ⟨i, rfl, q _ (.bl _)⟩) pl
theorem dv_max2 (hc : X.calm = true) (B : Blt X "max" (.builtin "max")) (ha : DE X a Γ (.int i)) (hb : DE X b Γ (.int j)) (pl : Pl X a [b] pos := by exact ⟨rfl, rfl⟩) (pl2 : starEach [b] X.env = (false, eval b X.env) :: starEach [] X.env := by rfl) : DE X (.Call (.Name "max" p) [a, b] [] pos) Γ (.int (max i j)) :=
  dv_bl1 (call_max2 hc) B (da_two ha hb pl.1 pl2) (.flat fun F H vs s' h1 Q q => by
    obtain ⟨v, u, rfl, hv, hu⟩ := dda_two h1
    cases hv; cases hu
    refine ⟨i, j, rfl, q _ ?_⟩
    have e : (if j > i then j else i) = max i j := by split <;> omega
    rw [e]; exact .int _) pl
theorem dv_min2 (hc : X.calm = true) (B : Blt X "min" (.builtin "min")) (ha : DE X a Γ (.int i)) (hb : DE X b Γ (.int j)) (pl : Pl X a [b] pos := by exact ⟨rfl, rfl⟩) (pl2 : starEach [b] X.env = (false, eval b X.env) :: starEach [] X.env := by rfl) : DE X (.Call (.Name "min" p) [a, b] [] pos) Γ (.int (min i j)) :=
  dv_bl1 (call_min2 hc) B (da_two ha hb pl.1 pl2) (.flat fun F H vs s' h1 Q q => by
    obtain ⟨v, u, rfl, hv, hu⟩ := dda_two h1
    cases hv; cases hu
    refine ⟨i, j, rfl, q _ ?_⟩
    have e : (if j < i then j else i) = min i j := by split <;> omega
    rw [e]; exact .int _) pl
/-- the greatest, the least of a list of ints that is not empty -/
def maxI : List Int → Int
  | [] => 0
  | x :: r => r.foldl max x
def minI : List Int → Int
  | [] => 0
  | x :: r => r.foldl min x
theorem foldl_max_ge : ∀ (r : List Int) (x : Int), x ≤ r.foldl max x ∧ ∀ y ∈ r, y ≤ r.foldl max x
  | [], x => ⟨Int.le_refl _, fun y h => by cases h⟩
  | z :: r, x => by
    obtain ⟨h1, h2⟩ := foldl_max_ge r (max x z)
    rw [List.foldl_cons]
    refine ⟨by omega, fun y hy => ?_⟩
    rcases List.mem_cons.mp hy with rfl | hy
    · omega
    · exact h2 y hy
theorem foldl_max_mem : ∀ (r : List Int) (x : Int), r.foldl max x = x ∨ r.foldl max x ∈ r
  | [], x => .inl rfl
  | z :: r, x => by
    rw [List.foldl_cons]
    rcases foldl_max_mem r (max x z) with h | h
    · rcases Int.le_total x z with q | q
      · exact .inr (by rw [h, show max x z = z by omega]; exact List.mem_cons_self)
      · exact .inl (by rw [h]; omega)
    · exact .inr (List.mem_cons_of_mem _ h)
theorem foldl_min_le : ∀ (r : List Int) (x : Int), r.foldl min x ≤ x ∧ ∀ y ∈ r, r.foldl min x ≤ y
  | [], x => ⟨Int.le_refl _, fun y h => by cases h⟩
  | z :: r, x => by
    obtain ⟨h1, h2⟩ := foldl_min_le r (min x z)
    rw [List.foldl_cons]
    refine ⟨by omega, fun y hy => ?_⟩
    rcases List.mem_cons.mp hy with rfl | hy
    · omega
    · exact h2 y hy
theorem foldl_min_mem : ∀ (r : List Int) (x : Int), r.foldl min x = x ∨ r.foldl min x ∈ r
  | [], x => .inl rfl
  | z :: r, x => by
    rw [List.foldl_cons]
    rcases foldl_min_mem r (min x z) with h | h
    · rcases Int.le_total x z with q | q
      · exact .inl (by rw [h]; omega)
      · exact .inr (by rw [h, show min x z = z by omega]; exact List.mem_cons_self)
    · exact .inr (List.mem_cons_of_mem _ h)
theorem maxI_mem {ns : List Int} (h : ns ≠ []) : maxI ns ∈ ns := by
  cases ns with
  | nil => exact absurd rfl h
  | cons x r => rcases foldl_max_mem r x with q | q
                · show r.foldl max x ∈ _; rw [q]; exact List.mem_cons_self
                · exact List.mem_cons_of_mem _ q
theorem minI_mem {ns : List Int} (h : ns ≠ []) : minI ns ∈ ns := by
  cases ns with
  | nil => exact absurd rfl h
  | cons x r => rcases foldl_min_mem r x with q | q
                · show r.foldl min x ∈ _; rw [q]; exact List.mem_cons_self
                · exact List.mem_cons_of_mem _ q
theorem le_maxI {ns : List Int} {y : Int} (h : y ∈ ns) : y ≤ maxI ns := by
  cases ns with
  | nil => cases h
  | cons x r => rcases List.mem_cons.mp h with rfl | h
                · exact (foldl_max_ge r _).1
                · exact (foldl_max_ge r x).2 y h
theorem minI_le {ns : List Int} {y : Int} (h : y ∈ ns) : minI ns ≤ y := by
  cases ns with
  | nil => cases h
  | cons x r => rcases List.mem_cons.mp h with rfl | h
                · exact (foldl_min_le r _).1
                · exact (foldl_min_le r x).2 y h
theorem maxI_eq {ns : List Int} {m : Int} (h1 : m ∈ ns) (h2 : ∀ y ∈ ns, y ≤ m) : maxI ns = m :=
  Int.le_antisymm (h2 _ (maxI_mem (List.ne_nil_of_mem h1))) (le_maxI h1)
theorem minI_eq {ns : List Int} {m : Int} (h1 : m ∈ ns) (h2 : ∀ y ∈ ns, m ≤ y) : minI ns = m :=
  Int.le_antisymm (minI_le h1) (h2 _ (minI_mem (List.ne_nil_of_mem h1)))
theorem dd_listI {F : Hp} {v : V} {ns : List Int} (h : Dd F v (.list (ns.map PyData.int))) : ∃ a, v = .ref a ∧ F a = some (.lst (ns.map V.int)) := by
  cases h with
  | lst hh hd => have e := dda_ints hd; subst e; exact ⟨_, rfl, hh⟩
theorem dv_maxL {ns : List Int} (hc : X.calm = true) (B : Blt X "max" (.builtin "max")) (h : DE X e Γ (.list (ns.map PyData.int))) (hn : ns ≠ []) (pl : Pl X e [] pos := by exact ⟨rfl, rfl⟩) : DE X (.Call (.Name "max" p) [e] [] pos) Γ (.int (maxI ns)) :=
  dv_bl1 (cr_max hc) B (da_one h pl.1) (.flat fun F H vs s h1 Q k => by
    obtain ⟨v, rfl, hv⟩ := dda_one h1
    obtain ⟨l, rfl, hl⟩ := dd_listI hv
    exact ⟨l, ns, rfl, SqL.of (s _ _ hl), List.length_pos_iff.mpr hn, fun m h1 h2 => k _ (by rw [maxI_eq h1 h2]; exact .int _)⟩) pl
theorem dv_minL {ns : List Int} (hc : X.calm = true) (B : Blt X "min" (.builtin "min")) (h : DE X e Γ (.list (ns.map PyData.int))) (hn : ns ≠ []) (pl : Pl X e [] pos := by exact ⟨rfl, rfl⟩) : DE X (.Call (.Name "min" p) [e] [] pos) Γ (.int (minI ns)) :=
  dv_bl1 (cr_min hc) B (da_one h pl.1) (.flat fun F H vs s h1 Q k => by
    obtain ⟨v, rfl, hv⟩ := dda_one h1
    obtain ⟨l, rfl, hl⟩ := dd_listI hv
    exact ⟨l, ns, rfl, SqL.of (s _ _ hl), List.length_pos_iff.mpr hn, fun m h1 h2 => k _ (by rw [minI_eq h1 h2]; exact .int _)⟩) pl
theorem dv_sum {ns : List Int} (hc : X.calm = true) (B : Blt X "sum" (.builtin "sum")) (h : DE X e Γ (.list (ns.map PyData.int))) (pl : Pl X e [] pos := by exact ⟨rfl, rfl⟩) : DE X (.Call (.Name "sum" p) [e] [] pos) Γ (.int ns.sum) :=
  dv_bl1 (cr_sum hc) B (da_one h pl.1) (.flat fun F H vs s h1 Q k => by
    obtain ⟨v, rfl, hv⟩ := dda_one h1
    obtain ⟨l, rfl, hl⟩ := dd_listI hv
    exact ⟨l, ns, rfl, SqL.of (s _ _ hl), k _ (.int _)⟩) pl
theorem dv_all {bs : List Bool} (hc : X.calm = true) (B : Blt X "all" (.builtin "all")) (h : DE X e Γ (.list (bs.map PyData.bool))) (pl : Pl X e [] pos := by exact ⟨rfl, rfl⟩) : DE X (.Call (.Name "all" p) [e] [] pos) Γ (.bool (bs.all id)) :=
  dv_bl1 (cr_all hc) B (da_one h pl.1) (.flat fun F H vs s h1 Q k => by
    obtain ⟨v, rfl, hv⟩ := dda_one h1
    cases hv with
    | lst hh hd =>
      have e := dda_bools hd; subst e
      exact ⟨_, bs, rfl, SqL.of (s _ _ hh), k _ (.bl _)⟩) pl
/-- list(xs), tuple(xs) -/
theorem dv_list {s : D} {ds : List D} (B : Blt X "list" (.type "list")) (h : DE X e Γ s) (q : IsSeq s ds) (pl : Pl X e [] pos := by exact ⟨rfl, rfl⟩) : DV X (.Call (.Name "list" p) [e] [] pos) Γ (.own ds) :=
  dv_ty1 call_list_of B (da_one h pl.1) (fun F H vs s h1 Q k => by
    obtain ⟨v, rfl, hv⟩ := dda_one h1
    obtain ⟨p, us, rfl, hs, hd⟩ := dd_seq (K := X.K) hv q
    exact ⟨p, us, rfl, seq_mono s hs, fun l hl => k _ _ _ (Gr.newO s hl) ⟨l, us, rfl, hl, s.free hl, upd_same, hd⟩⟩) pl
theorem call_tupF : CallR X (.type "tuple") (fun xs H Q => ∃ q ys, xs = [.ref q] ∧ H q = some (.lst ys) ∧ ∀ l o, H l = none → o.dict = none → Q (.ref l) (upd H l (.frz o (.tup ys)))) := by
  intro pins s σ H xs us Q I r h
  obtain ⟨q, ys, rfl, hq, k⟩ := h
  obtain ⟨u, rfl, rx⟩ := Vals.one r
  cases rx
  obtain ⟨its, r', pl, hz⟩ := I.list (SqL.of hq)
  have hlen := r'.length
  refine call_tuple_list pl.isList (fun h' kp => ?_) (by simp only [List.size_toArray] <;> omega)
  have I1 : Inv X pins σ H { s with heap := h' } := I.kept (t' := s.toks) kp
  exact ⟨.ref h'.objs.size, _, tup_laid I1 r' hz, rfl, k _ _ I1.fresh rfl⟩
theorem dv_tupL {ds : List D} (B : Blt X "tuple" (.type "tuple")) (h : DE X e Γ (.list ds)) (pl : Pl X e [] pos := by exact ⟨rfl, rfl⟩) : DE X (.Call (.Name "tuple" p) [e] [] pos) Γ (.tuple ds) :=
  dv_ty1 call_tupF B (da_one h pl.1) (fun F H vs s h1 Q k => by
    obtain ⟨v, rfl, hv⟩ := dda_one h1
    cases hv with
    | lst hh hd => exact ⟨_, _, rfl, s _ _ hh, fun l o hl ho => k _ _ _ (Gr.new s hl) (dd_tup (s.free hl) ho hd)⟩) pl
/-- the script: its length, an item -/
theorem dv_lenScr {ns : List Int} {k : Nat} {y : Str} {q : Pos} (B : Blt X "len" (.builtin "len")) (h : Γ[k]? = some (some (.scr ns)) := by rfl) (hN : X.N[k]? = some y := by rfl) (hv : Vis X.env.scope y := by first | exact Or.inl rfl | exact Or.inr (Or.inl rfl) | exact Or.inr (Or.inr rfl))
    (hd : (y == ("__debug__" : Str)) = false := by decide) (hcd : (y == ("__classdict__" : Str)) = false := by decide) (pl : Pl X (.Name y q) [] pos := by exact ⟨rfl, rfl⟩) : DE X (.Call (.Name "len" p) [.Name y q] [] pos) Γ (.int ns.length) :=
  pe_weak (pe_callB call_len_seq B.g B.m B.b (pa_cons (pe_var hN hv hd hcd) pa_nil pl.1) (he := pl.1) (hpl := pl.2)) fun σ H Q ⟨H0, F, st, k⟩ => by
    obtain ⟨v, e, a, rfl, hs⟩ := st.slot _ _ h
    exact ⟨_, e, a, _, rfl, .inl (sql_mono st.sub hs), by rw [List.length_map]; exact k _ F H (Gr.refl st.sub) (.int _)⟩
theorem dv_ixScr {ns : List Int} {k : Nat} {y : Str} {q : Pos} {z : Int} (h : Γ[k]? = some (some (.scr ns))) (hb : DE X b Γ (.int i)) (hz : atI ns i = some z) (hN : X.N[k]? = some y := by rfl) (hv : Vis X.env.scope y := by first | exact Or.inl rfl | exact Or.inr (Or.inl rfl) | exact Or.inr (Or.inr rfl))
    (hd : (y == ("__debug__" : Str)) = false := by decide) (hcd : (y == ("__classdict__" : Str)) = false := by decide) (hs : PlainIx b := by exact fun _ _ => rfl) : DE X (.Subscript (.Name y q) b pos) Γ (.int z) :=
  pe_weak (pe_ix ix_list (pe_var hN hv hd hcd) hb hs) fun σ H Q ⟨H0, F, st, k⟩ => by
    obtain ⟨v, e, a, rfl, hq⟩ := st.slot _ _ h
    refine ⟨_, e, H0, F, st, fun v F1 H1 g ok => ?_⟩
    cases ok
    have ez : atI (ns.map V.int) i = some (.int z) := by
      unfold atI at hz ⊢
      rw [List.length_map]
      cases e : ixN ns.length i with
      | none => rw [e] at hz; cases hz
      | some j =>
        rw [e] at hz
        have hz : ns[j]? = some z := hz
        show (ns.map V.int)[j]? = _
        rw [List.getElem?_map, hz]; rfl
    exact ⟨a, _, i, _, rfl, rfl, sql_mono g.s (sql_mono g.f hq), ez, k _ F1 H1 g (.int _)⟩
/-! ### methods -/
/-- what is asked of the form of a method's call o.m(e) -/
structure MForm (X : Cx) (o : Expr) (name : Str) (e : Expr) (apos cpos : Pos) : Prop where
  base : attributeBase o name X.env (eval o X.env) = eval o X.env
  few : ((backTo cpos (starEach [e] X.env)).all (fun x => !x.1) && (backToKw cpos (keywordEach [] X.env)).all (fun x => x.1.isSome) && decide ([e].length + ([] : List Keyword).length + (if ([] : List Keyword).isEmpty then 0 else 1) < 30)) = true
  line : (apos.endLine == cpos.line) = true
  star : starEach [e] X.env = (false, eval e X.env) :: starEach [] X.env
  plain : (backTo cpos (starEach [] X.env)).any (·.1) = false
theorem dv_meth {o : Expr} {name : Str} {apos cpos : Pos} {T : String} {r : V → List V → Hp → VK → Prop} {d1 d2 : D} {s : Sv} (pa : PlainAttrs T) (slot : Slot T name bid) (hty : typeOf (.builtin bid) = pure (.type "method_descriptor")) (hm : MtR X bid r)
    (ho : DE X o Γ d1) (ha : DE X e Γ d2) (ty : ∀ F v, Dd F v d1 → tyV X.K T v F) (tym : ∀ F H v, Same F H → tyV X.K T v F → tyV X.K T v H)
    (hr : ∀ F H x y, Same F H → Dd F x d1 → Dd F y d2 → ∀ Q : VK, (∀ v F' H', Gr F H F' H' → SvOk X.K H F' H' v s → Q v H') → r x [y] H Q) (M : MForm X o name e apos cpos) : DV X (.Call (.Attribute o name apos) [e] [] cpos) Γ s :=
  pe_weak (pe_bm pa slot hty hm ho (da_one ha M.star) M.base M.few M.line M.star M.plain) fun σ H Q ⟨H0, F, st, q⟩ =>
    ⟨H0, F, st, fun v F1 H1 g1 ok1 => ⟨tym F1 H1 v g1.s (ty F1 v ok1), H0, F1, st.gr g1, fun us F2 H2 g2 ok2 => by
      obtain ⟨u, rfl, hu⟩ := dda_one ok2
      exact hr F2 H2 v u g2.s (dd_mono g2.f ok1) hu Q fun z F3 H3 g3 ok3 => q z F3 H3 ((g1.trans g2).trans g3) (ok3.base (g1.trans g2).h)⟩⟩
theorem tyL {F : Hp} {v : V} {ds : List D} (h : Dd F v (.list ds)) (K : Frag) : tyV K "list" v F := by
  cases h with
  | lst hh _ => exact .inl ⟨rfl, _, SqL.of hh⟩
theorem tyL_mono {K : Frag} {F H : Hp} {v : V} (s : Same F H) (h : tyV K "list" v F) : tyV K "list" v H := by
  cases v with
  | ref p =>
    rcases h with ⟨_, xs, h⟩ | ⟨h, _⟩ | ⟨h, _⟩ | ⟨h, _⟩
    · exact .inl ⟨rfl, xs, sql_mono s h⟩
    · exact absurd h (by decide)
    · exact absurd h (by decide)
    · exact absurd h (by decide)
  | str _ => exact absurd (show ("list" : String) = "str" from h) (by decide)
  | int _ => exact absurd (show ("list" : String) = "int" from h) (by decide)
  | _ => exact h.elim
/-- the first place of an item -/
def pos1 {α : Type} [DecidableEq α] (x : α) : List α → Nat
  | [] => 0
  | y :: r => if y = x then 0 else pos1 x r + 1
theorem pos1_lt {α : Type} [DecidableEq α] {x : α} : ∀ {l : List α}, x ∈ l → pos1 x l < l.length
  | y :: r, h => by
    unfold pos1
    by_cases e : y = x
    · rw [if_pos e]; exact Nat.zero_lt_succ _
    · rw [if_neg e]
      exact Nat.succ_lt_succ (pos1_lt ((List.mem_cons.mp h).resolve_left fun z => e z.symm))
theorem pos1_get {α : Type} [DecidableEq α] {x : α} : ∀ {l : List α}, x ∈ l → l[pos1 x l]? = some x
  | y :: r, h => by
    unfold pos1
    by_cases e : y = x
    · rw [if_pos e, e]; rfl
    · rw [if_neg e]
      exact pos1_get ((List.mem_cons.mp h).resolve_left fun z => e z.symm)
theorem pos1_first {α : Type} [DecidableEq α] {x : α} : ∀ {l : List α} {m : Nat}, m < pos1 x l → l[m]? ≠ some x
  | [], m, h => by exact absurd h (Nat.not_lt_zero _)
  | y :: r, m, h => by
    unfold pos1 at h
    by_cases e : y = x
    · rw [if_pos e] at h; exact absurd h (Nat.not_lt_zero _)
    · rw [if_neg e] at h
      cases m with
      | zero => exact fun z => e (Option.some.inj z)
      | succ m => exact pos1_first (l := r) (m := m) (by omega)
theorem dv_idxL {ss : List Str} {z : Str} {o : Expr} {apos cpos : Pos} (ho : DE X o Γ (.list (ss.map PyData.str))) (ha : DE X e Γ (.str z)) (hz : z ∈ ss) (M : MForm X o "index" e apos cpos := by exact ⟨rfl, rfl, rfl, rfl, rfl⟩) : DE X (.Call (.Attribute o "index" apos) [e] [] cpos) Γ (.int (pos1 z ss : Nat)) :=
  dv_meth PySem.F.plainAttrs_list PySem.F.slot_list_index PySem.F.type_list_index mt_index ho ha (fun _ _ h => tyL h _) (fun _ _ _ => tyL_mono) (fun F H x y s h1 h2 Q q => by
    cases h2
    cases h1 with
    | lst hh hd =>
      have e := dda_strs hd; subst e
      refine ⟨_, _, _, pos1 z ss, .str z, rfl, rfl, SqL.of (s _ _ hh), rfl, flat_strs _, ?_, ?_, fun m z' hm hz' => ?_, q _ F H (Gr.refl s) (.int _)⟩
      · rw [List.getElem?_map, pos1_get hz]; rfl
      · show (z == z) = true; exact beq_self_eq_true z
      · rw [List.getElem?_map] at hz'
        cases e : ss[m]? with
        | none => rw [e] at hz'; cases hz'
        | some y =>
          rw [e] at hz'
          cases hz'
          show (y == z) = false
          exact beq_eq_false_iff_ne.mpr fun w => pos1_first hm (w ▸ e)) M
theorem dv_idxLI {ss : List Int} {z : Int} {o : Expr} {apos cpos : Pos} (ho : DE X o Γ (.list (ss.map PyData.int))) (ha : DE X e Γ (.int z)) (hz : z ∈ ss) (M : MForm X o "index" e apos cpos := by exact ⟨rfl, rfl, rfl, rfl, rfl⟩) : DE X (.Call (.Attribute o "index" apos) [e] [] cpos) Γ (.int (pos1 z ss : Nat)) :=
  dv_meth PySem.F.plainAttrs_list PySem.F.slot_list_index PySem.F.type_list_index mt_index ho ha (fun _ _ h => tyL h _) (fun _ _ _ => tyL_mono) (fun F H x y s h1 h2 Q q => by
    cases h2
    cases h1 with
    | lst hh hd =>
      have e := dda_ints hd; subst e
      refine ⟨_, _, _, pos1 z ss, .int z, rfl, rfl, SqL.of (s _ _ hh), rfl, flat_ints _, ?_, ?_, fun m z' hm hz' => ?_, q _ F H (Gr.refl s) (.int _)⟩
      · rw [List.getElem?_map, pos1_get hz]; rfl
      · show (z == z) = true; exact beq_self_eq_true z
      · rw [List.getElem?_map] at hz'
        cases e : ss[m]? with
        | none => rw [e] at hz'; cases hz'
        | some y =>
          rw [e] at hz'
          cases hz'
          show (y == z) = false
          exact beq_eq_false_iff_ne.mpr fun w => pos1_first hm (w ▸ e)) M
/-- t.index(x), t a tuple of texts whose very object is known -/
def tTidx (to te : TE) : TE := fun σ H Q => to σ H fun x H1 => ∃ (t : Addr) (ob : Obj) (ss : List Str), x = .ref t ∧ H1 t = some (.frz ob (.tup (ss.map V.str))) ∧ ob.dict = none ∧
  te σ H1 fun y H2 => H2 t = some (.frz ob (.tup (ss.map V.str))) ∧ ∃ (z : Str) (j : Nat), y = .str z ∧ ss[j]? = some z ∧ (∀ m, m < j → ss[m]? ≠ some z) ∧ Q (.int (j : Nat)) H2
theorem pe_tidx {o : Expr} {to te : TE} {apos cpos : Pos} (ho : PE X o to) (ha : PE X e te) (M : MForm X o "index" e apos cpos) : PE X (.Call (.Attribute o "index" apos) [e] [] cpos) (tTidx to te) := by
  refine ⟨fun pins s σ H Q I h => wpAny_Call_method_late M.base M.few M.line rfl (thn (ho.run pins s σ H _ I h) fun v s1 ⟨x, H1, I1, r1, q1⟩ => ?_)⟩
  obtain ⟨t, ob, ss, rfl, h1, hn, q1⟩ := q1
  cases r1
  have hob := (I1.hok t _ h1).1
  obtain ⟨its, rv, ⟨o2, g1, g2, _⟩, _⟩ := I1.tuple (xs := ss.map V.str) (.inl (.inr ⟨ob, h1⟩))
  have eo : o2 = ob := Option.some.inj (g1.symm.trans hob)
  subst eo
  refine ⟨"tuple", "tuple.index", PySem.F.plainAttrs_tuple, PySem.F.slot_tuple_index, PySem.F.type_tuple_index, ⟨_, g1, g2⟩, fun a e => by cases e; exact ⟨_, g1, hn⟩, ?_⟩
  have hA := (pa_cons (X := X) ha pa_nil M.star).run cpos pins s1 σ H1 (fun us H2 => match us with
    | [y] => H2 t = some (.frz o2 (.tup (ss.map V.str))) ∧ ∃ (z : Str) (j : Nat), y = .str z ∧ ss[j]? = some z ∧ (∀ m, m < j → ss[m]? ≠ some z) ∧ Q (.int (j : Nat)) H2
    | _ => False) I1 q1
  rw [M.star] at hA ⊢
  refine Calls.callWith_builtin (by show (false || (backTo cpos (starEach [] X.env)).any (·.1)) = false; rw [M.plain] <;> rfl) (Calls.evalArgs_plain ?_)
  refine thn hA fun us s2 ⟨vs, H2, I2, r2, q2⟩ => ?_
  match vs, r2, q2 with
  | [y], r2, ⟨h2, z, j, ez, hj, hno, q2⟩ => exact mt_tup_index pins s2 σ H2 (.ref t) [y] (.ref t) us Q I2 rfl r2 ⟨t, ss, z, j, rfl, by rw [ez], .inl (.inr ⟨_, h2⟩), hj, hno, q2⟩
theorem dv_idxT {ss : List Str} {z : Str} {o : Expr} {apos cpos : Pos} (ho : DE X o Γ (.tuple (ss.map PyData.str))) (ha : DE X e Γ (.str z)) (hz : z ∈ ss) (M : MForm X o "index" e apos cpos := by exact ⟨rfl, rfl, rfl, rfl, rfl⟩) : DE X (.Call (.Attribute o "index" apos) [e] [] cpos) Γ (.int (pos1 z ss : Nat)) :=
  pe_weak (pe_tidx ho ha M) fun σ H Q ⟨H0, F, st, q⟩ => ⟨H0, F, st, fun v F1 H1 g1 ok1 => by
    cases ok1 with
    | tup hh hn hd =>
      have e := dda_strs hd; subst e
      refine ⟨_, _, ss, rfl, g1.s _ _ hh, hn, H0, F1, st.gr g1, fun v F2 H2 g2 ok2 => ?_⟩
      cases ok2
      exact ⟨g2.s _ _ (g2.f _ _ hh), z, pos1 z ss, rfl, pos1_get hz, fun m hm => pos1_first hm, q _ F2 H2 (g1.trans g2) (.int _)⟩⟩
end
end DL
namespace DL
open PySem L2
/-! ### names are stored -/
section
variable {K : Frag} {H0 F H : Hp} {Γ : Env} {σ : St}
theorem get_set_ne {α : Type} {l : List α} {i j : Nat} {x : α} (h : i ≠ j) : (l.set i x)[j]? = l[j]? := List.getElem?_set_ne h
theorem get_set_eq {α : Type} {l : List α} {i : Nat} {x y : α} (h : (l.set i x)[i]? = some y) : i < l.length ∧ y = x := by
  by_cases hi : i < l.length
  · rw [List.getElem?_set_self hi] at h; exact ⟨hi, (Option.some.inj h).symm⟩
  · rw [List.getElem?_eq_none (by rw [List.length_set]; omega)] at h; cases h
/-- a name gets a value that is not another name's own -/
theorem StOk.set (st : StOk K H0 F Γ σ H) (i : Nat) {v : V} {s : Sv} (ok : SvOk K H0 F H v s) (ne : s.isD = false → ∀ a, v = .ref a → ∀ (j : Nat) t, j ≠ i → Γ[j]? = some (some t) → t.isD = false → σ[j]? ≠ some (some (.ref a))) : StOk K H0 F (Γ.set i (some s)) (σ.set i (some v)) H := by
  refine ⟨st.sub, by rw [List.length_set, List.length_set]; exact st.len, fun j t e => ?_, fun j k t u a e1 e2 h1 h2 q1 q2 => ?_⟩
  · by_cases hj : i = j
    · subst hj
      obtain ⟨hl, e⟩ := get_set_eq e
      cases e
      exact ⟨v, List.getElem?_set_self (by rw [st.len]; exact hl), ok⟩
    · rw [get_set_ne hj] at e ⊢
      exact st.slot j t e
  · by_cases hj : i = j
    · subst hj
      by_cases hk : i = k
      · exact hk
      · exfalso
        rw [get_set_ne hk] at e2 q2
        have z1 := (get_set_eq e1).2
        have z2 := (get_set_eq q1).2
        cases z1; cases z2
        exact ne h1 a rfl k u (fun z => hk z.symm) e2 h2 q2
    · rw [get_set_ne hj] at e1 q1
      by_cases hk : i = k
      · exfalso
        subst hk
        have z1 := (get_set_eq e2).2
        have z2 := (get_set_eq q2).2
        cases z1; cases z2
        exact ne h2 a rfl j t (fun z => hj z.symm) e1 h1 q1
      · rw [get_set_ne hk] at e2 q2
        exact st.apart j k t u a e1 e2 h1 h2 q1 q2
theorem StOk.setD (st : StOk K H0 F Γ σ H) (i : Nat) {v : V} {d : D} (ok : Dd F v d) : StOk K H0 F (Γ.set i (some (.d d))) (σ.set i (some v)) H := st.set i (s := .d d) ok fun h => by cases h
/-- what a name's own thing is: tracked and not frozen -/
theorem SvOk.own_at {v : V} {s : Sv} (h : SvOk K H0 F H v s) (n : s.isD = false) : ∃ a, v = .ref a ∧ H0 a = none ∧ F a = none ∧ H a ≠ none := by
  cases s with
  | d x => cases n
  | scr ns => cases n
  | ft P w kvs => cases n
  | fk kvs => cases n
  | own xs => obtain ⟨a, vs, e, h0, hf, hh, _⟩ := h; exact ⟨a, e, h0, hf, by rw [hh]; exact fun z => nomatch z⟩
  | dt P w xs => obtain ⟨a, vs, e, h0, hf, hh, _⟩ := h; exact ⟨a, e, h0, hf, by rw [hh]; exact fun z => nomatch z⟩
  | dk xs => obtain ⟨a, vs, e, h0, hf, hh, _⟩ := h; exact ⟨a, e, h0, hf, by rw [hh]; exact fun z => nomatch z⟩
/-- a name gets the value of an expression -/
theorem StOk.put {F' H' : Hp} (st : StOk K H0 F Γ σ H) (g : Gr F H F' H') (hs : Same H0 H) (i : Nat) {v : V} {s : Sv} (ok : SvOk K H F' H' v s) : StOk K H0 F' (Γ.set i (some s)) (σ.set i (some v)) H' := by
  refine (st.gr g).set i (ok.base hs) fun h a e j t hj e1 h1 e2 => ?_
  obtain ⟨b, eb, hb, _, _⟩ := ok.own_at h
  subst e
  cases eb
  obtain ⟨u, eu, hu⟩ := st.slot j t e1
  rw [e2] at eu
  cases eu
  obtain ⟨c, ec, _, _, hc⟩ := hu.own_at h1
  cases ec
  exact hc hb
/-- names forgotten -/
def wipeG (Γ : Env) : List Nat → Env
  | [] => Γ
  | v :: vs => (wipeG Γ vs).set v none
theorem StOk.forget (st : StOk K H0 F Γ σ H) (i : Nat) (o : Option V) : StOk K H0 F (Γ.set i none) (σ.set i o) H := by
  refine ⟨st.sub, by rw [List.length_set, List.length_set]; exact st.len, fun j t e => ?_, fun j k t u a e1 e2 h1 h2 q1 q2 => ?_⟩
  · by_cases hj : i = j
    · subst hj; exact absurd (get_set_eq e).2 (fun z => nomatch z)
    · rw [get_set_ne hj] at e ⊢; exact st.slot j t e
  · by_cases hj : i = j
    · subst hj; exact absurd (get_set_eq e1).2 (fun z => nomatch z)
    · by_cases hk : i = k
      · subst hk; exact absurd (get_set_eq e2).2 (fun z => nomatch z)
      · rw [get_set_ne hj] at e1 q1
        rw [get_set_ne hk] at e2 q2
        exact st.apart j k t u a e1 e2 h1 h2 q1 q2
theorem StOk.wipe (st : StOk K H0 F Γ σ H) : ∀ vs : List Nat, StOk K H0 F (wipeG Γ vs) (L2.wipe σ vs) H
  | [] => st
  | v :: vs => (StOk.wipe st vs).forget v _
end
/-! ### what a loop walks: n turns; at turn k the target's store makes of the names Γ the names Y k Γ -/
structure Wk (K : Frag) (J : It) (g : TG) (n : Nat) (F : Hp) (Y : Nat → Env → Env) (ts : List Nat) : Prop where
  go : ∀ k H, Same F H → k < n → J.go k H
  stop : ∀ H, Same F H → J.stop n H
  asg : ∀ k H, Same F H → k < n → ∀ x H', J.yld k H x H' → ∀ H0 F1 Γ σ, StOk K H0 F1 Γ σ H → Same F F1 → ∀ Q : St → Hp → Prop,
    (∀ σ' F' H'', Gr F1 H F' H'' → StOk K H0 F' (Y k Γ) σ' H'' → (∀ l, l ∉ ts → σ'[l]? = σ[l]?) → σ'.length = σ.length → Q σ' H'') → g x σ H' Q
structure ItS (J : It) (F : Hp) (ds : List D) : Prop where
  go : ∀ k H, Same F H → k < ds.length → J.go k H
  stop : ∀ H, Same F H → J.stop ds.length H
  yld : ∀ k H x H', Same F H → k < ds.length → J.yld k H x H' → H' = H ∧ ∃ d, ds[k]? = some d ∧ Dd F x d
structure ItP (J : It) (F : Hp) (ds : List (D × D)) : Prop where
  go : ∀ k H, Same F H → k < ds.length → J.go k H
  stop : ∀ H, Same F H → J.stop ds.length H
  yld : ∀ k H x H', Same F H → k < ds.length → J.yld k H x H' → ∃ T u v d e, x = .ref T ∧ H T = none ∧ H' = upd H T (.tup [u, v]) ∧ ds[k]? = some (d, e) ∧ Dd F u d ∧ Dd F v e
/-- the item at k -/
def it1 (i : Nat) (ds : List D) (k : Nat) (Γ : Env) : Env := Γ.set i (some (.d (ds.getD k .none)))
def it2 (i j : Nat) (ps : List (D × D)) (k : Nat) (Γ : Env) : Env := (Γ.set i (some (.d (ps.getD k (.none, .none)).1))).set j (some (.d (ps.getD k (.none, .none)).2))
theorem getD_of {α : Type} {l : List α} {k : Nat} {x z : α} (h : l[k]? = some x) : l.getD k z = x := by rw [List.getD_eq_getElem?_getD, h]; rfl
abbrev gTwo (K : Frag) (i j : Nat) : TG := gTup K 2 (gCons (gName i) (gCons (gName j) gNil))
section
variable {K : Frag} {J : It} {F : Hp}
theorem wk_name {ds : List D} (i : Nat) (w : ItS J F ds) : Wk K J (gName i) ds.length F (it1 i ds) [i] where
  go := w.go
  stop := w.stop
  asg := fun k H s hk x H' y H0 F1 Γ σ st sF Q q => by
    obtain ⟨rfl, d, e, hd⟩ := w.yld k H x H' s hk y
    have ed : ds.getD k .none = d := getD_of e
    refine q _ F1 H' (Gr.refl st.sub) ?_ (fun l hl => get_set_ne (fun z => hl (by rw [← z]; exact List.mem_singleton.mpr rfl))) (List.length_set ..)
    unfold it1
    rw [ed]
    exact st.setD i (dd_mono sF hd)
theorem asg_two {i j : Nat} {H H0 F1 : Hp} {Γ : Env} {σ : St} {T : Addr} {u v : V} {d e : D} (st : StOk K H0 F1 Γ σ H) (hT : SqT K H T [u, v]) (hu : Dd F1 u d) (hv : Dd F1 v e) {Q : St → Hp → Prop}
    (q : ∀ σ', StOk K H0 F1 ((Γ.set i (some (.d d))).set j (some (.d e))) σ' H → (∀ l, l ∉ [i, j] → σ'[l]? = σ[l]?) → σ'.length = σ.length → Q σ' H) : gTwo K i j (.ref T) σ H Q := by
  refine ⟨T, [u, v], rfl, hT, rfl, u, [v], rfl, v, [], rfl, rfl, ?_⟩
  refine q _ ((st.setD i hu).setD j hv) (fun l hl => ?_) (by rw [List.length_set, List.length_set])
  have h1 : i ≠ l := fun z => hl (by simp [z])
  have h2 : j ≠ l := fun z => hl (by simp [z])
  rw [get_set_ne h2, get_set_ne h1]
theorem wk_two {ps : List (D × D)} (i j : Nat) (w : ItS J F (ps.map fun p => .tuple [p.1, p.2])) : Wk K J (gTwo K i j) ps.length F (it2 i j ps) [i, j] where
  go := fun k H s h => w.go k H s (by rw [List.length_map]; exact h)
  stop := fun H s => by have := w.stop H s; rw [List.length_map] at this; exact this
  asg := fun k H s hk x H' y H0 F1 Γ σ st sF Q q => by
    obtain ⟨rfl, d, e, hd⟩ := w.yld k H x H' s (by rw [List.length_map]; exact hk) y
    rw [List.getElem?_map, List.getElem?_eq_getElem hk] at e
    cases e
    cases hd with
    | tup hh hn hd =>
      obtain ⟨u, v, rfl, hu, hv⟩ := dda_two hd
      refine asg_two st (.inl (.inr ⟨_, s _ _ hh⟩)) (dd_mono sF hu) (dd_mono sF hv) fun σ' st' h1 h2 => q σ' F1 H' (Gr.refl st.sub) ?_ h1 h2
      unfold it2
      rw [getD_of (List.getElem?_eq_getElem hk)]
      exact st'
theorem wk_pair {ps : List (D × D)} (i j : Nat) (w : ItP J F ps) : Wk K J (gTwo K i j) ps.length F (it2 i j ps) [i, j] where
  go := w.go
  stop := w.stop
  asg := fun k H s hk x H' y H0 F1 Γ σ st sF Q q => by
    obtain ⟨T, u, v, d, e, rfl, hT, rfl, ek, hu, hv⟩ := w.yld k H x H' s hk y
    have g : Gr F1 H F1 (upd H T (.tup [u, v])) := Gr.newO st.sub hT
    refine asg_two (st.gr g) (SqT.of upd_same) (dd_mono sF hu) (dd_mono sF hv) fun σ' st' h1 h2 => q σ' F1 _ g ?_ h1 h2
    unfold it2
    rw [getD_of ek]
    exact st'
end
def rdI (K : Frag) (Γ : Env) (g : TG) (n : Nat) (Y : Nat → Env → Env) (ts : List Nat) : TI := fun σ H R => ∃ H0 F, StOk K H0 F Γ σ H ∧ ∀ J F' H', Gr F H F' H' → Wk K J g n F' Y ts → R J H'
def DI (X : Cx) (tg iter : Expr) (Γ : Env) (g : TG) (n : Nat) (Y : Nat → Env → Env) (ts : List Nat) : Prop := PI X tg iter (rdI X.K Γ g n Y ts)
/-- an iterable of single items -/
def DIS (X : Cx) (tg iter : Expr) (Γ : Env) (ds : List D) : Prop := PI X tg iter (fun σ H R => ∃ H0 F, StOk X.K H0 F Γ σ H ∧ ∀ J F' H', Gr F H F' H' → ItS J F' ds → R J H')
def DIP (X : Cx) (tg iter : Expr) (Γ : Env) (ds : List (D × D)) : Prop := PI X tg iter (fun σ H R => ∃ H0 F, StOk X.K H0 F Γ σ H ∧ ∀ J F' H', Gr F H F' H' → ItP J F' ds → R J H')
section
variable {X : Cx} {Γ : Env} {tg iter e a b : Expr} {pos p : Pos}
theorem DIS.name {ds : List D} (h : DIS X tg iter Γ ds) (i : Nat) : DI X tg iter Γ (gName i) ds.length (it1 i ds) [i] := pi_weak h fun σ H R ⟨H0, F, st, q⟩ => ⟨H0, F, st, fun J F' H' g w => q J F' H' g (wk_name i w)⟩
theorem DIS.two {ps : List (D × D)} (h : DIS X tg iter Γ (ps.map fun p => .tuple [p.1, p.2])) (i j : Nat) : DI X tg iter Γ (gTwo X.K i j) ps.length (it2 i j ps) [i, j] := pi_weak h fun σ H R ⟨H0, F, st, q⟩ => ⟨H0, F, st, fun J F' H' g w => q J F' H' g (wk_two i j w)⟩
theorem DIP.two {ps : List (D × D)} (h : DIP X tg iter Γ ps) (i j : Nat) : DI X tg iter Γ (gTwo X.K i j) ps.length (it2 i j ps) [i, j] := pi_weak h fun σ H R ⟨H0, F, st, q⟩ => ⟨H0, F, st, fun J F' H' g w => q J F' H' g (wk_pair i j w)⟩
theorem di_list {ds : List D} (h : DE X e Γ (.list ds)) : DIS X tg e Γ ds := pi_weak (pi_list h) fun σ H R ⟨H0, F, st, q⟩ => ⟨H0, F, st, fun v F1 H1 g ok => by
  cases ok with
  | @lst a vs _ hh hd =>
    refine ⟨_, rfl, ⟨_, SqL.of (g.s _ _ hh)⟩, q _ F1 H1 g ⟨fun k H s hk => ?_, fun H s => ?_, fun k H x H' s hk y => ?_⟩⟩
    · obtain ⟨v, ev, _⟩ := dda_get hd (List.getElem?_eq_getElem hk)
      exact ⟨vs, v, SqL.of (s _ _ hh), ev⟩
    · exact ⟨vs, SqL.of (s _ _ hh), Nat.le_of_eq (dda_length hd)⟩
    · obtain ⟨e, y⟩ := y
      obtain ⟨d, ed, hx⟩ := dda_getV hd (y vs (SqL.of (s _ _ hh)))
      exact ⟨e, d, ed, hx⟩⟩
theorem di_tup {ds : List D} (h : DE X e Γ (.tuple ds)) : DIS X tg e Γ ds := pi_weak (pi_tup h) fun σ H R ⟨H0, F, st, q⟩ => ⟨H0, F, st, fun v F1 H1 g ok => by
  cases ok with
  | @tup a ob vs _ hh hn hd =>
    have sq : ∀ {H}, Same F1 H → SqT X.K H a vs := fun s => .inl (.inr ⟨_, s _ _ hh⟩)
    refine ⟨_, rfl, ⟨_, sq g.s⟩, q _ F1 H1 g ⟨fun k H s hk => ?_, fun H s => ?_, fun k H x H' s hk y => ?_⟩⟩
    · obtain ⟨v, ev, _⟩ := dda_get hd (List.getElem?_eq_getElem hk)
      exact ⟨vs, v, sq s, ev⟩
    · exact ⟨vs, sq s, Nat.le_of_eq (dda_length hd)⟩
    · obtain ⟨e, y⟩ := y
      obtain ⟨d, ed, hx⟩ := dda_getV hd (y vs (sq s))
      exact ⟨e, d, ed, hx⟩⟩
/-- lo, lo + 1, .. -/
def rng (lo : Int) (n : Nat) : List D := (List.range n).map fun k => PyData.int (lo + (k : Nat))
theorem rng_len (lo : Int) (n : Nat) : (rng lo n).length = n := by unfold rng; rw [List.length_map, List.length_range]
theorem rng_get {lo : Int} {n k : Nat} (h : k < n) : (rng lo n)[k]? = some (.int (lo + k)) := by
  unfold rng; rw [List.getElem?_map, List.getElem?_range h]; rfl
theorem its_rng {F : Hp} {lo : Int} {n : Nat} : ItS (Itr lo n) F (rng lo n) :=
  ⟨fun k H s h => by rw [rng_len] at h; exact h, fun H s => by rw [rng_len]; exact Nat.le_refl _, fun k H x H' s hk y => by
    rw [rng_len] at hk
    obtain ⟨e, rfl⟩ := y
    exact ⟨e, _, rng_get hk, .int _⟩⟩
theorem di_rng1 {j : Int} (B : Blt X "range" (.type "range")) (h : DE X a Γ (.int j)) (h1 : -(2 ^ 62) ≤ j ∧ j < 2 ^ 62) (hs : starEach [a] X.env = [(false, eval a X.env)] := by rfl) : DIS X tg (.Call (.Name "range" p) [a] [] pos) Γ (rng 0 j.toNat) :=
  pi_weak (pi_range1 B.g B.m (da_one h hs) hs) fun σ H R ⟨H0, F, st, q⟩ => ⟨H0, F, st, fun vs F1 H1 g ok => by
    obtain ⟨v, rfl, hv⟩ := dda_one ok
    cases hv
    exact ⟨j, rfl, h1.1, h1.2, q _ F1 H1 g its_rng⟩⟩
theorem di_rng2 {i j : Int} (B : Blt X "range" (.type "range")) (h : DE X a Γ (.int i)) (h' : DE X b Γ (.int j)) (h1 : -(2 ^ 62) ≤ i ∧ i < 2 ^ 62 ∧ -(2 ^ 62) ≤ j ∧ j < 2 ^ 62) (hs : starEach [a, b] X.env = [(false, eval a X.env), (false, eval b X.env)] := by rfl) (hs2 : starEach [b] X.env = [(false, eval b X.env)] := by rfl) : DIS X tg (.Call (.Name "range" p) [a, b] [] pos) Γ (rng i (j - i).toNat) :=
  pi_weak (pi_range2 B.g B.m (da_two h h' (by rw [hs, hs2]) hs2) hs hs2) fun σ H R ⟨H0, F, st, q⟩ => ⟨H0, F, st, fun vs F1 H1 g ok => by
    obtain ⟨v, u, rfl, hv, hu⟩ := dda_two ok
    cases hv; cases hu
    exact ⟨i, j, rfl, h1, q _ F1 H1 g its_rng⟩⟩
/-! ### statements -/
structure Outs where
  nx : Env → Prop
  rt : Sv → Prop
  bk : Env → Prop := fun _ => False
  ct : Env → Prop := fun _ => False
def Outs.to (O : Outs) (M : Env → Prop) : Outs := { O with nx := M }
structure Po (K : Frag) (O : Outs) (F0 H0 : Hp) (T : Ends) : Prop where
  nx : ∀ Γ F σ H, O.nx Γ → Gr F0 H0 F H → StOk K H0 F Γ σ H → T.nx σ H
  bk : ∀ Γ F σ H, O.bk Γ → Gr F0 H0 F H → StOk K H0 F Γ σ H → T.bk σ H
  ct : ∀ Γ F σ H, O.ct Γ → Gr F0 H0 F H → StOk K H0 F Γ σ H → T.ct σ H
  rt : ∀ s v F H, O.rt s → Gr F0 H0 F H → SvOk K H0 F H v s → T.rt v H
def rdS (K : Frag) (Γ : Env) (O : Outs) : TS := fun T σ H => ∃ F0 H0 F, Gr F0 H0 F H ∧ StOk K H0 F Γ σ H ∧ Po K O F0 H0 T
def DS (X : Cx) (st : Stmt) (Γ : Env) (O : Outs) : Prop := PS X st (rdS X.K Γ O)
def DSs (X : Cx) (sts : List Stmt) (Γ : Env) (O : Outs) : Prop := PSs X sts (rdS X.K Γ O)
variable {O : Outs}
theorem dss_nil (h : O.nx Γ) : DSs X [] Γ O := pss_weak pss_nil fun T σ H ⟨F0, H0, F, g, st, P⟩ => P.nx Γ F σ H h g st
theorem dss_cons {st : Stmt} {rest : List Stmt} (h : DS X st Γ (O.to fun Γ' => DSs X rest Γ' O)) : DSs X (st :: rest) Γ O := by
  have h2 : PSs X rest (fun T σ H => ∃ Γ', DSs X rest Γ' O ∧ rdS X.K Γ' O T σ H) := ⟨fun pins s σ H T I ⟨Γ', d, q⟩ => d.run pins s σ H T I q⟩
  refine pss_weak (pss_cons h h2) fun T σ H ⟨F0, H0, F, g, st, P⟩ => ?_
  exact ⟨F0, H0, F, g, st, ⟨fun Γ' F' σ' H' d g' st' => ⟨Γ', d, F0, H0, F', g', st', P⟩, P.bk, P.ct, P.rt⟩⟩
theorem DS.mono {st : Stmt} {O' : Outs} (h : DS X st Γ O) (h1 : ∀ Γ, O.nx Γ → O'.nx Γ) (h2 : ∀ s, O.rt s → O'.rt s) (h3 : ∀ Γ, O.bk Γ → O'.bk Γ) (h4 : ∀ Γ, O.ct Γ → O'.ct Γ) : DS X st Γ O' := ps_weak h fun T σ H ⟨F0, H0, F, g, st, P⟩ =>
  ⟨F0, H0, F, g, st, ⟨fun Γ' F' σ' H' d => P.nx Γ' F' σ' H' (h1 _ d), fun Γ' F' σ' H' d => P.bk Γ' F' σ' H' (h3 _ d), fun Γ' F' σ' H' d => P.ct Γ' F' σ' H' (h4 _ d), fun s v F' H' d => P.rt s v F' H' (h2 _ d)⟩⟩
theorem ds_pass (h : O.nx Γ) : DS X (.Pass pos) Γ O := ps_weak ps_pass fun T σ H ⟨F0, H0, F, g, st, P⟩ => P.nx Γ F σ H h g st
theorem ds_ret {s : Sv} (h : DV X e Γ s) (hr : O.rt s) : DS X (.Return (some e) pos) Γ O := ps_weak (ps_ret h) fun T σ H ⟨F0, H0, F, g, st, P⟩ => ⟨H0, F, st, fun v F' H' g' ok => P.rt s v F' H' hr (g.trans g') (ok.base g.h)⟩
/-- a name's own list is handed back -/
theorem ds_retO (i : Nat) {x : Str} {s : Sv} (h : Γ[i]? = some (some s)) (hr : O.rt s) (hN : X.N[i]? = some x := by rfl) (hv : Vis X.env.scope x := by first | exact Or.inl rfl | exact Or.inr (Or.inl rfl) | exact Or.inr (Or.inr rfl)) (hd : (x == ("__debug__" : Str)) = false := by decide)
    (hcd : (x == ("__classdict__" : Str)) = false := by decide) : DS X (.Return (some (.Name x p)) pos) Γ O := ps_weak (ps_ret (pe_var hN hv hd hcd)) fun T σ H ⟨F0, H0, F, g, st, P⟩ => by
  obtain ⟨v, ev, ok⟩ := st.slot i s h
  exact ⟨v, ev, P.rt s v F H hr g ok⟩
theorem ds_if {k : Bool} {c : Expr} {s1 s2 : List Stmt} (hc : DT X c Γ k) (h1 : k = true → DSs X s1 Γ O) (h2 : k = false → DSs X s2 Γ O) : DS X (.If c s1 s2 pos) Γ O := by
  cases k with
  | true => exact ps_weak (ps_if (u := fun _ _ _ => False) hc (h1 rfl) ⟨fun _ _ _ _ _ _ f => f.elim⟩) fun T σ H ⟨F0, H0, F, g, st, P⟩ => ⟨H0, F, st, fun F' H' g' => iteT ⟨F0, H0, F', g.trans g', st.gr g', P⟩⟩
  | false => exact ps_weak (ps_if (t := fun _ _ _ => False) hc ⟨fun _ _ _ _ _ _ f => f.elim⟩ (h2 rfl)) fun T σ H ⟨F0, H0, F, g, st, P⟩ => ⟨H0, F, st, fun F' H' g' => iteF ⟨F0, H0, F', g.trans g', st.gr g', P⟩⟩
/-- x = e -/
theorem ds_asg (i : Nat) {x : Str} {s : Sv} (h : DV X e Γ s) (hn : O.nx (Γ.set i (some s))) (nd : X.N.Nodup) (hi : X.N[i]? = some x := by rfl) (hx : Loc X.env.scope x := by first | exact Or.inl rfl | exact Or.inr rfl) (hs : swapsWith e (some (.Name x p)) pos.line X.env = pure false := by rfl)
    (hf : X.fn x = true ∨ X.env.scope.names.lookup x = some .local := by first | exact .inl rfl | exact .inr rfl) : DS X (.Assign [.Name x p] e pos) Γ O :=
  ps_weak (ps_set nd hi hx h hs hf) fun T σ H ⟨F0, H0, F, g, st, P⟩ => ⟨H0, F, st, fun v F' H' g' ok => P.nx _ F' _ H' hn (g.trans g') (st.put g' g.h i ok)⟩
/-- a, b = e -/
theorem ds_two (i j : Nat) {d1 d2 : D} (h : DE X e Γ (.tuple [d1, d2])) (hg : PG X tg (gTwo X.K i j)) (hn : O.nx ((Γ.set i (some (.d d1))).set j (some (.d d2)))) (hs : swapsWithSole [tg] e pos.line X.env = pure false := by rfl) (hw : swappedStores [tg] e X.env = pure none := by rfl)
    (h1 : (assignEach [tg] X.env).map (·.2) = [assign tg X.env] := by rfl) : DS X (.Assign [tg] e pos) Γ O :=
  ps_weak (ps_asg h hg hs hw h1) fun T σ H ⟨F0, H0, F, g, st, P⟩ => ⟨H0, F, st, fun v F' H' g' ok => by
    cases ok with
    | tup hh hno hd =>
      obtain ⟨u, v, rfl, hu, hv⟩ := dda_two hd
      exact asg_two (st.gr g') (.inl (.inr ⟨_, g'.s _ _ hh⟩)) hu hv fun σ' st' _ _ => P.nx _ F' σ' H' hn (g.trans g') st'⟩
/-- a, b = e1, e2 -/
theorem ds_par (i j : Nat) {x y : Str} {px py pt : Pos} {kt k2 pt2} {s1 s2 : Sv} (h1 : DV X a Γ s1) (h2 : DV X b Γ s2) (hn : O.nx ((Γ.set i (some s1)).set j (some s2))) (hc : X.calm = true) (nd : X.N.Nodup) (hij : i ≠ j)
    (hi : X.N[i]? = some x := by rfl) (hj : X.N[j]? = some y := by rfl) (hx : X.env.scope.names.lookup x = some .local := by rfl) (hy : X.env.scope.names.lookup y = some .local := by rfl)
    (e1 : starEach [a, b] X.env = (false, eval a X.env) :: starEach [b] X.env := by rfl) (e2 : starEach [b] X.env = (false, eval b X.env) :: starEach [] X.env := by rfl)
    (hw : swappedStores [.Tuple [.Name x px, .Name y py] kt pt] (.Tuple [a, b] k2 pt2) X.env = pure (some [x, y]) := by rfl)
    (hs : swapsWithSole [.Tuple [.Name x px, .Name y py] kt pt] (.Tuple [a, b] k2 pt2) pos.line X.env = pure false := by rfl) : DS X (.Assign [.Tuple [.Name x px, .Name y py] kt pt] (.Tuple [a, b] k2 pt2) pos) Γ O :=
  ps_weak (ps_par hc nd hi hj hij hx hy (pa_cons h1 (pa_cons h2 pa_nil e2) e1) hw hs) fun T σ H ⟨F0, H0, F, g, st, P⟩ => ⟨H0, F, st, fun v F1 H1 g1 ok1 => ⟨H0, F1, st.gr g1, fun u F2 H2 g2 ok2 => ⟨v, u, rfl, by
    have st1 := st.put g1 g.h i ok1
    exact P.nx _ F2 _ H2 hn ((g.trans g1).trans g2) (st1.put g2 (g.trans g1).h j ok2)⟩⟩⟩
/-- xs.append(e), xs a list of one's own -/
theorem ds_app (i : Nat) {x : Str} {xs : List D} {d : D} {apos cpos : Pos} (h : Γ[i]? = some (some (.own xs))) (he : DE X e Γ d) (hz : xs.length < sizeLine) (hn : O.nx (Γ.set i (some (.own (xs ++ [d]))))) (hN : X.N[i]? = some x := by rfl) (hv : Vis X.env.scope x := by first | exact Or.inl rfl | exact Or.inr (Or.inl rfl) | exact Or.inr (Or.inr rfl)) (hd : (x == ("__debug__" : Str)) = false := by decide)
    (hcd : (x == ("__classdict__" : Str)) = false := by decide) (M : MForm X (.Name x p) "append" e apos cpos := by exact ⟨rfl, rfl, rfl, rfl, rfl⟩) (hs : swapsWith (.Call (.Attribute (.Name x p) "append" apos) [e] [] cpos) none pos.line X.env = pure false := by rfl) : DS X (.Expr (.Call (.Attribute (.Name x p) "append" apos) [e] [] cpos) pos) Γ O :=
  ps_weak (ps_expr (pe_bm PySem.F.plainAttrs_list PySem.F.slot_list_append PySem.F.type_list_append mt_append (pe_var hN hv hd hcd) (da_one he M.star) M.base M.few M.line M.star M.plain) hs) fun T σ H ⟨F0, H0, F, g, st, P⟩ => by
    obtain ⟨v, ev, a, vs, rfl, h0, hf, hh, hd⟩ := st.slot i _ h
    refine ⟨_, ev, .inl ⟨rfl, _, SqL.of hh⟩, H0, F, st, fun us F1 H1 g1 ok1 => ?_⟩
    obtain ⟨u, rfl, hu⟩ := dda_one ok1
    have hh1 : H1 a = some (.lst vs) := g1.h _ _ hh
    have hf1 : F1 a = none := g1.n a (by rw [hh]; exact fun z => nomatch z) hf
    refine ⟨a, vs, u, rfl, rfl, hh1, by rw [dda_length hd]; exact hz, ?_⟩
    have G := g.trans g1
    have G2 : Gr F0 H0 F1 (upd H1 a (.lst (vs ++ [u]))) := ⟨G.f, fun b o e => by rw [upd_ne (ne_of_none e hf1)]; exact G.s b o e, fun b o e => by rw [upd_ne (ne_of_none e h0)]; exact G.h b o e, G.n⟩
    refine P.nx _ F1 _ _ hn G2 ?_
    have st1 := st.gr g1
    have lti : i < Γ.length := (List.getElem?_eq_some_iff.mp h).1
    refine ⟨G2.s, by rw [List.length_set]; exact st.len, fun j t e => ?_, fun j k t w b e1 e2 i1 i2 q1 q2 => ?_⟩
    · by_cases hj : i = j
      · subst hj
        obtain ⟨_, e⟩ := get_set_eq e
        cases e
        exact ⟨_, ev, a, _, rfl, h0, hf1, upd_same, dda_snoc (dda_mono g1.f hd) hu⟩
      · rw [get_set_ne hj] at e
        obtain ⟨z, ez, hz⟩ := st1.slot j t e
        refine ⟨z, ez, ?_⟩
        cases ht : t.isD with
        | true => exact hz.frozen (Same.refl _) ht
        | false =>
          refine hz.ownStay (Same.refl _) ht (fun b eb => ?_) (fun _ _ n => n)
          have hb : b ≠ a := fun q => hj (st.apart i j _ t a h e rfl ht ev (by rw [ez, eb, q]))
          exact upd_ne hb
    · have own : ∀ (l : Nat) y, (Γ.set i (some (.own (xs ++ [d]))))[l]? = some (some y) → y.isD = false → ∃ z, Γ[l]? = some (some z) ∧ z.isD = false := fun l y el hl => by
        by_cases hl2 : i = l
        · subst hl2; exact ⟨_, h, rfl⟩
        · rw [get_set_ne hl2] at el; exact ⟨y, el, hl⟩
      obtain ⟨z1, y1, n1⟩ := own j t e1 i1
      obtain ⟨z2, y2, n2⟩ := own k w e2 i2
      exact st.apart j k z1 z2 b y1 y2 n1 n2 q1 q2
/-- a name's own list is frozen -/
theorem StOk.frz {K : Frag} {H0 F H : Hp} {σ : St} (st : StOk K H0 F Γ σ H) {i : Nat} {xs : List D} (h : Γ[i]? = some (some (.own xs))) : ∃ a vs, F a = none ∧ H0 a = none ∧ H a = some (.lst vs) ∧ StOk K H0 (upd F a (.lst vs)) (Γ.set i (some (.d (.list xs)))) σ H := by
  obtain ⟨v, ev, a, vs, rfl, h0, hf, hh, hd⟩ := st.slot i _ h
  have sF : Same F (upd F a (.lst vs)) := same_upd hf
  refine ⟨a, vs, hf, h0, hh, fun b o e => ?_, by rw [List.length_set]; exact st.len, fun j t e => ?_, fun j k t w b e1 e2 i1 i2 q1 q2 => ?_⟩
  · by_cases hb : b = a
    · subst hb; rw [upd_same] at e; rw [hh]; exact e
    · rw [upd_ne hb] at e; exact st.sub b o e
  · by_cases hj : i = j
    · subst hj
      obtain ⟨_, e⟩ := get_set_eq e
      cases e
      exact ⟨_, ev, .lst upd_same (dda_mono sF hd)⟩
    · rw [get_set_ne hj] at e
      obtain ⟨z, ez, hz⟩ := st.slot j t e
      refine ⟨z, ez, ?_⟩
      have ne : t.isD = false → ∀ b, z = .ref b → b ≠ a := fun ht b eb q => hj (st.apart i j _ t a h e rfl ht ev (by rw [ez, eb, q]))
      cases ht : t.isD with
      | true => exact hz.frozen sF ht
      | false => exact hz.ownStay sF ht (fun _ _ => rfl) (fun b eb n => by rw [upd_ne (ne ht b eb)]; exact n)
  · have own : ∀ (l : Nat) y, (Γ.set i (some (.d (.list xs))))[l]? = some (some y) → y.isD = false → Γ[l]? = some (some y) := fun l y el hl => by
      by_cases hl2 : i = l
      · subst hl2; rw [(Option.some.inj (get_set_eq el).2)] at hl; cases hl
      · rw [get_set_ne hl2] at el; exact el
    exact st.apart j k t w b (own j t e1 i1) (own k w e2 i2) i1 i2 q1 q2
theorem dss_frz (i : Nat) {xs : List D} {sts : List Stmt} (h : Γ[i]? = some (some (.own xs))) (hd : DSs X sts (Γ.set i (some (.d (.list xs)))) O) : DSs X sts Γ O := pss_weak hd fun T σ H ⟨F0, H0, F, g, st, P⟩ => by
  obtain ⟨a, vs, hf, h0, hh, st'⟩ := st.frz h
  exact ⟨F0, H0, _, ⟨g.f.trans (same_upd hf), st'.sub, g.h, fun b h1 h2 => by
    have : b ≠ a := fun q => h1 (q ▸ h0)
    rw [upd_ne this]; exact g.n b h1 h2⟩, st', P⟩
/-! ### loops -/
theorem Gr.pre {F0 H0 F' H1 F2 H2 : Hp} (a : Gr F0 H0 F' H1) (b : Gr F' H0 F2 H2) : Gr F0 H0 F2 H2 := ⟨a.f.trans b.f, b.s, b.h, fun x h1 h2 => b.n x h1 (a.n x h1 h2)⟩
theorem ds_for {g : TG} {n : Nat} {Y : Nat → Env → Env} {ts : List Nat} {body : List Stmt} (I : Nat → Env → Prop) (hi : DI X tg iter Γ g n Y ts) (hg : PG X tg g) (h0 : I 0 Γ)
    (hs : ∀ k Γ1, k < n → I k Γ1 → DSs X body (Y k Γ1) ⟨I (k + 1), O.rt, O.nx, I (k + 1)⟩) (hd : ∀ Γ1, I n Γ1 → O.nx Γ1) (hc : X.calm = true := by rfl) (hp : PassesOwn (model X.prog X.w) X.A X.env X.xe := by exact PassesOwn.never) (hf : ∀ x, foldedSetIterable iter X.env x = pure x := by intro _; rfl) : DS X (.For tg iter body [] pos) Γ O := by
  have hb : PSs X body (fun T σ H => ∃ k Γ1, k < n ∧ I k Γ1 ∧ rdS X.K (Y k Γ1) ⟨I (k + 1), O.rt, O.nx, I (k + 1)⟩ T σ H) := ⟨fun pins s σ H T J ⟨k, Γ1, hk, i1, q⟩ => (hs k Γ1 hk i1).run pins s σ H T J q⟩
  refine ps_weak (ps_for hp hc hi hg hb hf) fun T σ H ⟨F0, H0, F, G, st, P⟩ => ⟨H0, F, st, fun J F' H1 g1 w => ?_⟩
  have G1 := G.trans g1
  refine ⟨fun k m σ' H' => m = n - k ∧ k ≤ n ∧ ∃ Γ1 F1, I k Γ1 ∧ Gr F' H0 F1 H' ∧ StOk X.K H0 F1 Γ1 σ' H', ⟨n, by omega, Nat.zero_le _, Γ, F', h0, ⟨Same.refl _, g1.s, G1.h, fun _ _ h => h⟩, st.gr g1⟩, ?_⟩
  rintro k m σ' H' ⟨rfl, hk, Γ1, F1, i1, g2, st1⟩
  have sH : Same F' H' := g2.f.trans g2.s
  by_cases hlt : k < n
  · refine .inr ⟨w.go k H' sH hlt, fun σ2 H2 => ∃ Γ2 F2, I (k + 1) Γ2 ∧ Gr F' H0 F2 H2 ∧ StOk X.K H0 F2 Γ2 σ2 H2, fun σ2 H2 ⟨Γ2, F2, q⟩ => ⟨n - (k + 1), by omega, rfl, hlt, Γ2, F2, q⟩, fun x H2 y => ?_⟩
    refine w.asg k H' sH hlt x H2 y H0 F1 Γ1 σ' st1 g2.f _ fun σ3 F3 H3 g3 st3 _ _ => ?_
    exact ⟨k, Γ1, hlt, i1, F', H0, F3, g2.trans g3, st3, ⟨fun Γ4 F4 σ4 H4 i4 g4 st4 => ⟨Γ4, F4, i4, g4, st4⟩, fun Γ4 F4 σ4 H4 o4 g4 st4 => P.nx Γ4 F4 σ4 H4 o4 (G1.pre g4) st4,
      fun Γ4 F4 σ4 H4 i4 g4 st4 => ⟨Γ4, F4, i4, g4, st4⟩, fun s v F4 H4 r g4 ok => P.rt s v F4 H4 r (G1.pre g4) ok⟩⟩
  · have e : k = n := by omega
    subst e
    exact .inl ⟨w.stop H' sH, P.nx Γ1 F1 σ' H' (hd Γ1 i1) (G1.pre g2) st1⟩
theorem ds_while {c : Expr} {body : List Stmt} (I : Env → Prop) (t : Env → Bool) (μ : Env → Nat) (h0 : I Γ) (hc : ∀ Γ1, I Γ1 → DT X c Γ1 (t Γ1)) (hs : ∀ Γ1, I Γ1 → t Γ1 = true → DSs X body Γ1 ⟨fun Γ2 => I Γ2 ∧ μ Γ2 < μ Γ1, O.rt, O.nx, fun Γ2 => I Γ2 ∧ μ Γ2 < μ Γ1⟩)
    (hd : ∀ Γ1, I Γ1 → t Γ1 = false → O.nx Γ1) (hp : PassesOwn (model X.prog X.w) X.A X.env X.xe := by exact PassesOwn.never) : DS X (.While c body [] pos) Γ O := by
  have hcc : PT X c (fun σ H Q => ∃ Γ1, I Γ1 ∧ rdT X.K Γ1 (t Γ1) σ H Q) := ⟨fun pins s σ H Q J ⟨Γ1, i1, q⟩ => (hc Γ1 i1).run pins s σ H Q J q⟩
  have hb : PSs X body (fun T σ H => ∃ Γ1, I Γ1 ∧ t Γ1 = true ∧ rdS X.K Γ1 ⟨fun Γ2 => I Γ2 ∧ μ Γ2 < μ Γ1, O.rt, O.nx, fun Γ2 => I Γ2 ∧ μ Γ2 < μ Γ1⟩ T σ H) := ⟨fun pins s σ H T J ⟨Γ1, i1, e1, q⟩ => (hs Γ1 i1 e1).run pins s σ H T J q⟩
  refine ps_weak (ps_while hp hcc hb) fun T σ H ⟨F0, H0, F, G, st, P⟩ => ?_
  refine ⟨fun m σ' H' => ∃ Γ1 F1, m = μ Γ1 ∧ I Γ1 ∧ Gr F0 H0 F1 H' ∧ StOk X.K H0 F1 Γ1 σ' H', ⟨_, Γ, F, rfl, h0, G, st⟩, ?_⟩
  rintro m σ' H' ⟨Γ1, F1, rfl, i1, g1, st1⟩
  refine ⟨Γ1, i1, H0, F1, st1, fun F2 H2 g2 => ?_⟩
  cases e : t Γ1 with
  | false => exact iteF (P.nx Γ1 F2 σ' H2 (hd Γ1 i1 e) (g1.trans g2) (st1.gr g2))
  | true =>
    refine iteT ⟨fun σ3 H3 => ∃ Γ3 F3, (I Γ3 ∧ μ Γ3 < μ Γ1) ∧ Gr F0 H0 F3 H3 ∧ StOk X.K H0 F3 Γ3 σ3 H3, fun σ3 H3 ⟨Γ3, F3, ⟨i3, l3⟩, q⟩ => ⟨_, l3, Γ3, F3, rfl, i3, q⟩, ?_⟩
    exact ⟨Γ1, i1, e, F0, H0, F2, g1.trans g2, st1.gr g2, ⟨fun Γ4 F4 σ4 H4 i4 g4 st4 => ⟨Γ4, F4, i4, g4, st4⟩, P.nx, fun Γ4 F4 σ4 H4 i4 g4 st4 => ⟨Γ4, F4, i4, g4, st4⟩, P.rt⟩⟩
end
end DL
namespace DL
open PySem L2
/-! ### list comprehensions -/
abbrev Blk (X : Cx) (scope : Scope) (P : Cx → Prop) : Prop := ∀ (s : Shared) (H : Hp) (C : Addr) (cl : List (Str × Addr)) (fp : List Addr), P (X.blk s H scope (compEnvC scope cl C X.env) fp)
def DTs (X : Cx) (ifs : List Expr) (Γ : Env) (b : Bool) : Prop := PTs X ifs (rdT X.K Γ b)
theorem pts_weak {X : Cx} {e : List Expr} {t t' : TT} (h : PTs X e t) (w : ∀ σ H Q, t' σ H Q → t σ H Q) : PTs X e t' := ⟨fun pins s σ H Q I q => h.run pins s σ H Q I (w σ H Q q)⟩
theorem dts_nil {X : Cx} {Γ : Env} : DTs X [] Γ true := pts_weak pts_nil fun σ H Q ⟨H0, F, st, q⟩ => q F H (Gr.refl st.sub)
theorem dts_one {X : Cx} {Γ : Env} {c : Expr} {b : Bool} (h : DT X c Γ b) : DTs X [c] Γ b := pts_one h
theorem wipe_eq {σ σ' : St} {vs : List Nat} (hl : σ'.length = σ.length) (h : ∀ l, l ∉ vs → σ'[l]? = σ[l]?) : wipe σ' vs = wipe σ vs := by
  refine List.ext_getElem? fun l => ?_
  by_cases hm : l ∈ vs
  · have z : ∀ τ : St, (wipe τ vs)[l]? = if l < τ.length then some none else none := by
      intro τ
      clear h hl
      induction vs with
      | nil => cases hm
      | cons v vs ih =>
        show ((wipe τ vs).set v none)[l]? = _
        by_cases e : v = l
        · subst e
          by_cases q : v < τ.length
          · rw [List.getElem?_set_self (by rw [wipe_length]; exact q), if_pos q]
          · rw [List.getElem?_eq_none (by rw [List.length_set, wipe_length]; omega), if_neg q]
        · rw [List.getElem?_set_ne e]
          exact ih ((List.mem_cons.mp hm).resolve_left fun w => e w.symm)
    rw [z, z, hl]
  · rw [wipe_out hm, wipe_out hm]; exact h l hm
section
variable {X : Cx} {Γ : Env} {tg iter elt : Expr} {ifs : List Expr} {scope : Scope} {own : List (Str × Nat)} {pos : Pos} {g : TG} {n : Nat} {Y : Nat → Env → Env} {ts : List Nat} {p : Nat → Bool} {f : Nat → D} {acc : Nat → List D}
theorem lc_read {K : Frag} {σ : St} {H : Hp} {Q : VK} {vs : List Nat} (hts : ∀ i ∈ ts, i ∈ vs) (h0 : acc 0 = []) (hstep : ∀ k, k < n → acc (k + 1) = if p k = true then acc k ++ [f k] else acc k) (hz : n ≤ sizeLine)
    (h : ∃ H0 F, StOk K H0 F Γ σ H ∧ ∀ v F' H', Gr F H F' H' → SvOk K H F' H' v (.own (acc n)) → Q v H') :
    tLc (rdI K Γ g n Y ts) g (fun σ H Q => ∃ k, k < n ∧ rdT K (Y k (wipeG Γ vs)) (p k) σ H Q) (fun σ H Q => ∃ k, k < n ∧ p k = true ∧ rdV K (Y k (wipeG Γ vs)) (.d (f k)) σ H Q) vs σ H Q := by
  obtain ⟨H0, F, st, q⟩ := h
  refine ⟨H0, F, st, fun J F' H1 g1 w L hL => ?_⟩
  have hlen : ∀ k, k ≤ n → (acc k).length ≤ k := by
    intro k
    induction k with
    | zero => intro _; rw [h0]; exact Nat.le_refl _
    | succ k ih =>
      intro hk
      have := ih (by omega)
      rw [hstep k (by omega)]
      split
      · rw [List.length_append]; simp; omega
      · omega
  refine ⟨fun k m H' => m = n - k ∧ k ≤ n ∧ ∃ F1 us, Gr F' H1 F1 H' ∧ F1 L = none ∧ H' L = some (.lst us) ∧ DdAll F1 us (acc k), ⟨n, by omega, Nat.zero_le _, F', [], ?_, g1.s.free hL, upd_same, by rw [h0]; exact .nil⟩, ?_⟩
  · exact Gr.newO g1.s hL
  rintro k m H' ⟨rfl, hk, F1, us, g2, n2, h2, d2⟩
  have sH : Same F' H' := g2.f.trans g2.s
  by_cases hlt : k < n
  · refine .inr ⟨w.go k H' sH hlt, fun H5 => ∃ F5 us, Gr F' H1 F5 H5 ∧ F5 L = none ∧ H5 L = some (.lst us) ∧ DdAll F5 us (acc (k + 1)), fun H5 ⟨F5, us, q5⟩ => ⟨n - (k + 1), by omega, rfl, hlt, F5, us, q5⟩, fun x H3 y => ?_⟩
    have stw : StOk K H0 F1 (wipeG Γ vs) (wipe σ vs) H' := (st.gr (g1.trans g2)).wipe vs
    refine w.asg k H' sH hlt x H3 y H0 F1 _ _ stw g2.f _ fun σ4 F4 H4 g4 st4 e4 l4 => ⟨?_, ?_⟩
    · have : wipe σ4 vs = wipe (wipe σ vs) vs := wipe_eq l4 fun l hl => e4 l fun z => hl (hts l z)
      rw [this]
      exact wipe_eq (wipe_length σ vs) fun l hl => wipe_out hl
    · refine ⟨k, hlt, H0, F4, st4, fun F5 H5 g5 => ?_⟩
      have G5 := (g2.trans g4).trans g5
      have n5 : F5 L = none := (g4.trans g5).n L (by rw [h2]; exact fun z => nomatch z) n2
      have h5 : H5 L = some (.lst us) := (g4.trans g5).h _ _ h2
      cases e : p k with
      | false => exact iteF ⟨F5, us, G5, n5, h5, by rw [hstep k hlt, e, if_neg Bool.false_ne_true]; exact dda_mono (g4.trans g5).f d2⟩
      | true =>
        refine iteT ⟨k, hlt, e, H0, F5, st4.gr g5, fun v F6 H6 g6 ok => ?_⟩
        have n6 : F6 L = none := g6.n L (by rw [h5]; exact fun z => nomatch z) n5
        have G6 := G5.trans g6
        refine ⟨us, g6.h _ _ h5, ?_, F6, us ++ [v], ⟨G6.f, fun b o eb => ?_, fun b o eb => ?_, G6.n⟩, n6, upd_same, ?_⟩
        · rw [dda_length d2]; have := hlen k hk; omega
        · rw [upd_ne (ne_of_none eb n6)]; exact G6.s b o eb
        · rw [upd_ne (ne_of_none eb hL)]; exact G6.h b o eb
        · rw [hstep k hlt, e, if_pos rfl]
          exact dda_snoc (dda_mono ((g4.trans g5).trans g6).f d2) ok
  · have e : k = n := by omega
    subst e
    exact .inl ⟨w.stop H' sH, q _ F1 H' (g1.trans g2) ⟨L, us, rfl, g1.h.free hL, n2, h2, d2⟩⟩
/-- the block: how its parts read, turn by turn -/
structure LcOk (X : Cx) (Γ : Env) (tg iter elt : Expr) (ifs : List Expr) (scope : Scope) (own : List (Str × Nat)) (g : TG) (n : Nat) (Y : Nat → Env → Env) (ts : List Nat) (p : Nat → Bool) (f : Nat → D) : Prop where
  hi : DI X tg iter Γ g n Y ts
  ok : BlkOk X.N X.env.scope scope own
  hts : ∀ i ∈ ts, i ∈ own.map (·.2)
  hg : Blk X scope fun X' => PG X' tg g
  ht : ∀ k, k < n → Blk X scope fun X' => DTs X' ifs (Y k (wipeG Γ (own.map (·.2)))) (p k)
  he : ∀ k, k < n → p k = true → Blk X scope fun X' => DE X' elt (Y k (wipeG Γ (own.map (·.2)))) (f k)
theorem LcOk.pts (L : LcOk X Γ tg iter elt ifs scope own g n Y ts p f) : Blk X scope fun X' => PTs X' ifs (fun σ H Q => ∃ k, k < n ∧ rdT X.K (Y k (wipeG Γ (own.map (·.2)))) (p k) σ H Q) := fun s H C cl fp => ⟨fun pins s' σ H' Q I ⟨k, hk, q⟩ => (L.ht k hk s H C cl fp).run pins s' σ H' Q I q⟩
theorem LcOk.pe (L : LcOk X Γ tg iter elt ifs scope own g n Y ts p f) : Blk X scope fun X' => PE X' elt (fun σ H Q => ∃ k, k < n ∧ p k = true ∧ rdV X.K (Y k (wipeG Γ (own.map (·.2)))) (.d (f k)) σ H Q) := fun s H C cl fp => ⟨fun pins s' σ H' Q I ⟨k, hk, e, q⟩ => (L.he k hk e s H C cl fp).run pins s' σ H' Q I q⟩
theorem dv_lcG (L : LcOk X Γ tg iter elt ifs scope own g n Y ts p f) (acc : Nat → List D) (h0 : acc 0 = []) (hstep : ∀ k, k < n → acc (k + 1) = if p k = true then acc k ++ [f k] else acc k) (hz : n ≤ sizeLine) (hc : X.calm = true) (nd : X.N.Nodup) (hs : ∀ x, foldedSetIterable iter X.env x = pure x := by intro _; rfl) :
    DV X (.ListComp elt [⟨tg, iter, ifs, 0⟩] scope pos) Γ (.own (acc n)) :=
  pe_weak (pe_lc hc nd L.hi L.ok L.hg L.pts L.pe hs) fun σ H Q h => lc_read (acc := acc) L.hts h0 hstep hz h
theorem ds_lcG {i : Nat} {y : Str} {py spos : Pos} {O : Outs} (L : LcOk X Γ tg iter elt ifs scope own g n Y ts p f) (acc : Nat → List D) (h0 : acc 0 = []) (hstep : ∀ k, k < n → acc (k + 1) = if p k = true then acc k ++ [f k] else acc k) (hz : n ≤ sizeLine) (hn : O.nx (Γ.set i (some (.own (acc n))))) (hc : X.calm = true) (nd : X.N.Nodup)
    (hy : X.N[i]? = some y) (hyl : X.env.scope.names.lookup y = some .local) (hsw : swapsWith (.ListComp elt [⟨tg, iter, ifs, 0⟩] scope pos) (some (.Name y py)) spos.line X.env = pure true) (hs : ∀ x, foldedSetIterable iter X.env x = pure x := by intro _; rfl) : DS X (.Assign [.Name y py] (.ListComp elt [⟨tg, iter, ifs, 0⟩] scope pos) spos) Γ O :=
  ps_weak (ps_setLc hc nd hy hyl hsw L.hi L.ok L.hg L.pts L.pe hs) fun T σ H ⟨F0, H0, F, G, st, P⟩ => lc_read (acc := acc) L.hts h0 hstep hz ⟨H0, F, st, fun v F' H' g' ok => P.nx _ F' _ H' hn (G.trans g') (st.put g' G.h i ok)⟩
end
/-- by the items -/
theorem acc_of {α : Type} (xs : List α) (p : α → Bool) (f : α → D) (z : α) : (((xs.take 0).filter p).map f = []) ∧ ∀ k, k < xs.length → ((xs.take (k + 1)).filter p).map f = if p (xs.getD k z) = true then ((xs.take k).filter p).map f ++ [f (xs.getD k z)] else ((xs.take k).filter p).map f := by
  refine ⟨rfl, fun k hk => ?_⟩
  rw [List.take_add_one, List.getElem?_eq_getElem hk, getD_of (List.getElem?_eq_getElem hk), List.filter_append, List.map_append]
  cases e : p xs[k] with
  | true => simp [e]
  | false => simp [e]
section
variable {X : Cx} {Γ : Env} {tg iter elt : Expr} {ifs : List Expr} {scope : Scope} {own : List (Str × Nat)} {pos : Pos}
/-- [elt for x in ..] -/
theorem dv_lc1 {ds : List D} {i : Nat} (p : D → Bool) (f : D → D) (L : LcOk X Γ tg iter elt ifs scope own (gName i) ds.length (it1 i ds) [i] (fun k => p (ds.getD k .none)) (fun k => f (ds.getD k .none))) (hz : ds.length ≤ sizeLine) (hc : X.calm = true) (nd : X.N.Nodup) (hs : ∀ x, foldedSetIterable iter X.env x = pure x := by intro _; rfl) :
    DV X (.ListComp elt [⟨tg, iter, ifs, 0⟩] scope pos) Γ (.own ((ds.filter p).map f)) := by
  have h := dv_lcG (pos := pos) L (fun k => ((ds.take k).filter p).map f) (acc_of ds p f .none).1 (acc_of ds p f .none).2 hz hc nd hs
  rw [List.take_length] at h
  exact h
theorem dv_lcP {ps : List (D × D)} {i j : Nat} (p : D × D → Bool) (f : D × D → D) (L : LcOk X Γ tg iter elt ifs scope own (gTwo X.K i j) ps.length (it2 i j ps) [i, j] (fun k => p (ps.getD k (.none, .none))) (fun k => f (ps.getD k (.none, .none)))) (hz : ps.length ≤ sizeLine) (hc : X.calm = true) (nd : X.N.Nodup) (hs : ∀ x, foldedSetIterable iter X.env x = pure x := by intro _; rfl) :
    DV X (.ListComp elt [⟨tg, iter, ifs, 0⟩] scope pos) Γ (.own ((ps.filter p).map f)) := by
  have h := dv_lcG (pos := pos) L (fun k => ((ps.take k).filter p).map f) (acc_of ps p f (.none, .none)).1 (acc_of ps p f (.none, .none)).2 hz hc nd hs
  rw [List.take_length] at h
  exact h
theorem ds_lc1 {y : Str} {py spos : Pos} {O : Outs} {ds : List D} {i : Nat} (l : Nat) (p : D → Bool) (f : D → D) (L : LcOk X Γ tg iter elt ifs scope own (gName i) ds.length (it1 i ds) [i] (fun k => p (ds.getD k .none)) (fun k => f (ds.getD k .none))) (hz : ds.length ≤ sizeLine) (hn : O.nx (Γ.set l (some (.own ((ds.filter p).map f))))) (hc : X.calm = true) (nd : X.N.Nodup)
    (hy : X.N[l]? = some y) (hyl : X.env.scope.names.lookup y = some .local) (hsw : swapsWith (.ListComp elt [⟨tg, iter, ifs, 0⟩] scope pos) (some (.Name y py)) spos.line X.env = pure true) (hs : ∀ x, foldedSetIterable iter X.env x = pure x := by intro _; rfl) : DS X (.Assign [.Name y py] (.ListComp elt [⟨tg, iter, ifs, 0⟩] scope pos) spos) Γ O :=
  ds_lcG L (fun k => ((ds.take k).filter p).map f) (acc_of ds p f .none).1 (acc_of ds p f .none).2 hz (by rw [List.take_length]; exact hn) hc nd hy hyl hsw hs
theorem ds_lcP {y : Str} {py spos : Pos} {O : Outs} {ps : List (D × D)} {i j : Nat} (l : Nat) (p : D × D → Bool) (f : D × D → D) (L : LcOk X Γ tg iter elt ifs scope own (gTwo X.K i j) ps.length (it2 i j ps) [i, j] (fun k => p (ps.getD k (.none, .none))) (fun k => f (ps.getD k (.none, .none)))) (hz : ps.length ≤ sizeLine) (hn : O.nx (Γ.set l (some (.own ((ps.filter p).map f))))) (hc : X.calm = true) (nd : X.N.Nodup)
    (hy : X.N[l]? = some y) (hyl : X.env.scope.names.lookup y = some .local) (hsw : swapsWith (.ListComp elt [⟨tg, iter, ifs, 0⟩] scope pos) (some (.Name y py)) spos.line X.env = pure true) (hs : ∀ x, foldedSetIterable iter X.env x = pure x := by intro _; rfl) : DS X (.Assign [.Name y py] (.ListComp elt [⟨tg, iter, ifs, 0⟩] scope pos) spos) Γ O :=
  ds_lcG L (fun k => ((ps.take k).filter p).map f) (acc_of ps p f (.none, .none)).1 (acc_of ps p f (.none, .none)).2 hz (by rw [List.take_length]; exact hn) hc nd hy hyl hsw hs
end
/-! ### contracts -/
def AvOk (K : Frag) (F : Hp) (v : V) (s : Sv) : Prop := s.isD = true ∧ SvOk K F F F v s
inductive AvsOk (K : Frag) (F : Hp) : List V → List Sv → Prop
  | nil : AvsOk K F [] []
  | cons {v : V} {vs : List V} {s : Sv} {ss : List Sv} : AvOk K F v s → AvsOk K F vs ss → AvsOk K F (v :: vs) (s :: ss)
theorem AvOk.mono {K : Frag} {F F' : Hp} (e : Same F F') {v : V} {s : Sv} (h : AvOk K F v s) : AvOk K F' v s := ⟨h.1, h.2.frozen e h.1⟩
theorem AvsOk.mono {K : Frag} {F F' : Hp} (e : Same F F') : ∀ {vs : List V} {ss : List Sv}, AvsOk K F vs ss → AvsOk K F' vs ss
  | _, _, .nil => .nil
  | _, _, .cons h q => .cons (h.mono e) (q.mono e)
theorem AvsOk.length {K : Frag} {F : Hp} : ∀ {vs : List V} {ss : List Sv}, AvsOk K F vs ss → vs.length = ss.length
  | _, _, .nil => rfl
  | _, _, .cons _ q => congrArg (· + 1) q.length
theorem AvsOk.get {K : Frag} {F : Hp} : ∀ {vs : List V} {ss : List Sv} {i : Nat} {s : Sv}, AvsOk K F vs ss → ss[i]? = some s → ∃ v, vs[i]? = some v ∧ AvOk K F v s
  | _, _, _, _, .nil, e => by simp at e
  | _, _, 0, _, .cons h _, e => by simp at e; subst e; exact ⟨_, rfl, h⟩
  | _, _, i + 1, s, .cons _ q, e => by
    obtain ⟨v, a, b⟩ := AvsOk.get (i := i) (s := s) q (by simpa using e)
    exact ⟨v, by simpa using a, b⟩
/-- the contract: called with ss it hands back r -/
def spD (K : Frag) (C : List Sv → Sv → Prop) : Sp := fun vs H Q _ => ∃ F ss r, Same F H ∧ AvsOk K F vs ss ∧ C ss r ∧ ∀ v F' H', Gr F H F' H' → SvOk K H F' H' v r → Q v H'
def rdC (K : Frag) (Γ : Env) (ss : List Sv) : TA := fun σ H Q => ∃ H0 F, StOk K H0 F Γ σ H ∧ ∀ vs F' H', Gr F H F' H' → AvsOk K F' vs ss → Q vs H'
def DC (X : Cx) (es : List Expr) (Γ : Env) (ss : List Sv) : Prop := PA X es (rdC X.K Γ ss)
section
variable {X : Cx} {Γ : Env} {e : Expr} {es : List Expr} {pos p : Pos}
theorem dc_nil : DC X [] Γ [] := pa_weak pa_nil fun σ H Q ⟨H0, F, st, q⟩ => q [] F H (Gr.refl st.sub) .nil
theorem dc_cons {d : D} {ss : List Sv} (h : DE X e Γ d) (r : DC X es Γ ss) (hs : starEach (e :: es) X.env = (false, eval e X.env) :: starEach es X.env := by rfl) : DC X (e :: es) Γ (.d d :: ss) :=
  pa_weak (pa_cons h r hs) fun σ H Q ⟨H0, F, st, q⟩ => ⟨H0, F, st, fun v F1 H1 g1 ok1 => ⟨H0, F1, st.gr g1, fun vs F2 H2 g2 ok2 => q (v :: vs) F2 H2 (g1.trans g2) (.cons ⟨rfl, dd_mono g2.f ok1⟩ ok2)⟩⟩
theorem dc_scr (i : Nat) {x : Str} {ns : List Int} {ss : List Sv} (r : DC X es Γ ss) (h : Γ[i]? = some (some (.scr ns)) := by rfl) (hN : X.N[i]? = some x := by rfl) (hv : Vis X.env.scope x := by first | exact Or.inl rfl | exact Or.inr (Or.inl rfl) | exact Or.inr (Or.inr rfl)) (hd : (x == ("__debug__" : Str)) = false := by decide)
    (hcd : (x == ("__classdict__" : Str)) = false := by decide) (hs : starEach (.Name x p :: es) X.env = (false, eval (.Name x p) X.env) :: starEach es X.env := by rfl) : DC X (.Name x p :: es) Γ (.scr ns :: ss) :=
  pa_weak (pa_cons (pe_var hN hv hd hcd) r hs) fun σ H Q ⟨H0, F, st, q⟩ => by
    obtain ⟨v, ev, a, rfl, hq⟩ := st.slot i _ h
    exact ⟨_, ev, H0, F, st, fun vs F2 H2 g2 ok2 => q _ F2 H2 g2 (.cons ⟨rfl, a, rfl, sql_mono g2.f hq⟩ ok2)⟩
/-- a def of the text that keeps a contract, as a caller sees it -/
structure Fd (P : Program) (w : World) (K : Frag) (mg : Str → Option Value) (base : Heap) (k : Nat) (x : Str) (ps : List Str) (C : List Sv → Sv → Prop) : Prop where
  ex : ∃ f fd, FnOk P w K mg base CX0 k f fd ps (spD K C) ∧ mg x = some (.ref f) ∧ PySem.W.keepIn K (.ref f) = true ∧ Binds K fd ps []
theorem dv_call {k : Nat} {x : Str} {ps : List Str} {C : List Sv → Sv → Prop} {ss : List Sv} {r : Sv} (G : Fd X.prog X.w X.K X.mg X.base k x ps C) (hr : Room k X.A) (ha : DC X (e :: es) Γ ss) (hC : C ss r) (pl : Pl X e es pos := by exact ⟨rfl, rfl⟩) (hg : Gl X x := by rfl) (hdb : (x == ("__debug__" : Str)) = false := by decide) :
    DV X (.Call (.Name x p) (e :: es) [] pos) Γ r := by
  obtain ⟨f, fd, F, hm, hk, hb⟩ := G.ex
  refine pe_weak (pe_call F hr hg hm hk hb .nil pass0 ha hdb pl.1 pl.2) fun σ H Q ⟨H0, F, st, q⟩ => ⟨H0, F, st, fun vs F1 H1 g1 ok => ?_⟩
  exact ⟨F1, ss, r, g1.s, by rw [List.append_nil]; exact ok, hC, fun v F2 H2 g2 ok2 => q v F2 H2 (g1.trans g2) (ok2.base g1.h)⟩
end
/-- the names at a def's entry -/
def entry (N : List Str) (ss : List Sv) : Env := ss.map some ++ List.replicate (N.length - ss.length) none
theorem entry_ok {K : Frag} {F H : Hp} {N : List Str} {vs : List V} {ss : List Sv} (s : Same F H) (h : AvsOk K F vs ss) : StOk K H F (entry N ss) (L2.start N vs) H := by
  have hl := h.length
  have isd : ∀ (i : Nat) t, (entry N ss)[i]? = some (some t) → ss[i]? = some t := fun i t e => by
    unfold entry at e
    by_cases hi : i < ss.length
    · rw [List.getElem?_append_left (by rw [List.length_map]; exact hi), List.getElem?_map, List.getElem?_eq_getElem hi] at e
      rw [List.getElem?_eq_getElem hi]
      exact congrArg _ (Option.some.inj (Option.some.inj e))
    · rw [List.getElem?_append_right (by rw [List.length_map]; omega)] at e
      rw [List.getElem?_replicate] at e
      split at e
      · cases e
      · cases e
  refine ⟨s, by unfold entry L2.start; simp [hl], fun i t e => ?_, fun i j t u a e1 e2 h1 => ?_⟩
  · have e' := isd i t e
    obtain ⟨v, ev, ok⟩ := h.get e'
    refine ⟨v, ?_, ?_⟩
    · unfold L2.start
      have hi : i < vs.length := (List.getElem?_eq_some_iff.mp ev).1
      rw [List.getElem?_append_left (by rw [List.length_map]; exact hi), List.getElem?_map, ev]; rfl
    · exact ok.2.frozen (Same.refl _) ok.1
  · have e' := isd i t e1
    obtain ⟨v, ev, ok⟩ := h.get e'
    rw [ok.1] at h1; cases h1
/-- what a body must reach -/
def bodyO (r : Sv) : Outs := ⟨fun _ => r = .d .none, (· = r), fun _ => False, fun _ => False⟩
theorem fn_dl {P : Program} {w : World} {K : Frag} {mg : Str → Option Value} {base : Heap} {x qual : Str} {st : Stmt} {f : Addr} {fd : FuncData} {N ps : List Str} {k : Nat} {C : List Sv → Sv → Prop} (Fn : Fun K x qual st f fd) (S : FnScope N ps (defScope st)) (hl : ∀ ss r, C ss r → ss.length = ps.length)
    (hb : ∀ (cdv : Value) (A : Around) (outer : List PySem.Env) (s : Shared) (H : Hp) (E : XK), Room k (A.deeper (PyProof.Rows.envOfC qual (defScope st) s.heap.objs.size f cdv)) → ∀ ss r, C ss r →
      DSs (cxOf CX0 P w K mg base N qual (defScope st) f cdv A outer s H E).nox (defBody st) (entry N ss) (bodyO r)) : FnOk P w K mg base CX0 (k + 1) f fd ps (spD K C) := by
  refine Fn.ok S (fun vs H Q E ⟨F, ss, r, _, av, c, _⟩ => av.length.trans (hl ss r c)) fun cdv A outer s H vs Q E hr ⟨F, ss, r, sF, av, c, q⟩ => ?_
  refine ⟨_, hb cdv A outer s H E hr ss r c, F, H, F, ⟨Same.refl _, sF, Same.refl _, fun _ _ h => h⟩, entry_ok sF av, ⟨fun Γ F' σ' H' e g st => ?_, fun _ _ _ _ e => e.elim, fun _ _ _ _ e => e.elim, fun s' v F' H' e g ok => ?_⟩⟩
  · subst e
    exact q .non F' H' g .non
  · subst e
    exact q v F' H' g ok
end DL
namespace DL
open PySem L2
/-! ### patterns of names: what isn't named is forgotten -/
inductive Sub : Env → Env → Prop
  | nil : Sub [] []
  | any {x : Option Sv} {p Γ : Env} : Sub p Γ → Sub (none :: p) (x :: Γ)
  | eq {s t : Sv} {p Γ : Env} : t = s → Sub p Γ → Sub (some s :: p) (some t :: Γ)
theorem Sub.refl : ∀ Γ : Env, Sub Γ Γ
  | [] => .nil
  | none :: r => .any (Sub.refl r)
  | some s :: r => .eq rfl (Sub.refl r)
theorem Sub.len : ∀ {p Γ : Env}, Sub p Γ → p.length = Γ.length
  | _, _, .nil => rfl
  | _, _, .any h => congrArg (· + 1) h.len
  | _, _, .eq _ h => congrArg (· + 1) h.len
theorem Sub.get : ∀ {p Γ : Env} {i : Nat} {s : Sv}, Sub p Γ → p[i]? = some (some s) → Γ[i]? = some (some s)
  | _, _, _, _, .nil, e => by simp at e
  | _, _, 0, _, .any h, e => by simp at e
  | _, _, i + 1, s, .any h, e => by simpa using Sub.get (i := i) (s := s) h (by simpa using e)
  | _, _, 0, _, .eq rfl h, e => by simpa using e
  | _, _, i + 1, s, .eq _ h, e => by simpa using Sub.get (i := i) (s := s) h (by simpa using e)
theorem StOk.sub_of {K : Frag} {H0 F H : Hp} {p Γ : Env} {σ : St} (h : Sub p Γ) (st : StOk K H0 F Γ σ H) : StOk K H0 F p σ H :=
  ⟨st.sub, st.len.trans h.len.symm, fun i s e => st.slot i s (h.get e), fun i j s t a e1 e2 => st.apart i j s t a (h.get e1) (h.get e2)⟩
section
variable {X : Cx} {Γ : Env} {tg iter : Expr} {pos : Pos} {O : Outs}
theorem dss_sub {p : Env} {sts : List Stmt} (h : Sub p Γ) (d : DSs X sts p O) : DSs X sts Γ O := pss_weak d fun T σ H ⟨F0, H0, F, g, st, P⟩ => ⟨F0, H0, F, g, st.sub_of h, P⟩
/-- a for loop, turn by turn -/
theorem ds_fp {g : TG} {n : Nat} {Y : Nat → Env → Env} {ts : List Nat} {body : List Stmt} (I : Nat → Env) (hi : DI X tg iter Γ g n Y ts) (hg : PG X tg g) (h0 : Sub (I 0) Γ)
    (hs : ∀ k, k < n → DSs X body (Y k (I k)) ⟨Sub (I (k + 1)), O.rt, O.nx, Sub (I (k + 1))⟩) (hd : O.nx (I n)) (hc : X.calm = true := by rfl) (hp : PassesOwn (model X.prog X.w) X.A X.env X.xe := by exact PassesOwn.never) (hf : ∀ x, foldedSetIterable iter X.env x = pure x := by intro _; rfl) : DS X (.For tg iter body [] pos) Γ O := by
  have hb : PSs X body (fun T σ H => ∃ k, k < n ∧ rdS X.K (Y k (I k)) ⟨Sub (I (k + 1)), O.rt, O.nx, Sub (I (k + 1))⟩ T σ H) := ⟨fun pins s σ H T J ⟨k, hk, q⟩ => (hs k hk).run pins s σ H T J q⟩
  refine ps_weak (ps_for hp hc hi hg hb hf) fun T σ H ⟨F0, H0, F, G, st, P⟩ => ⟨H0, F, st, fun J F' H1 g1 w => ?_⟩
  have G1 := G.trans g1
  refine ⟨fun k m σ' H' => m = n - k ∧ k ≤ n ∧ ∃ F1, Gr F' H0 F1 H' ∧ StOk X.K H0 F1 (I k) σ' H', ⟨n, by omega, Nat.zero_le _, F', ⟨Same.refl _, g1.s, G1.h, fun _ _ h => h⟩, (st.gr g1).sub_of h0⟩, ?_⟩
  rintro k m σ' H' ⟨rfl, hk, F1, g2, st1⟩
  have sH : Same F' H' := g2.f.trans g2.s
  by_cases hlt : k < n
  · refine .inr ⟨w.go k H' sH hlt, fun σ2 H2 => ∃ F2, Gr F' H0 F2 H2 ∧ StOk X.K H0 F2 (I (k + 1)) σ2 H2, fun σ2 H2 ⟨F2, q⟩ => ⟨n - (k + 1), by omega, rfl, hlt, F2, q⟩, fun x H2 y => ?_⟩
    refine w.asg k H' sH hlt x H2 y H0 F1 (I k) σ' st1 g2.f _ fun σ3 F3 H3 g3 st3 _ _ => ?_
    exact ⟨k, hlt, F', H0, F3, g2.trans g3, st3, ⟨fun Γ4 F4 σ4 H4 i4 g4 st4 => ⟨F4, g4, st4.sub_of i4⟩, fun Γ4 F4 σ4 H4 o4 g4 st4 => P.nx Γ4 F4 σ4 H4 o4 (G1.pre g4) st4,
      fun Γ4 F4 σ4 H4 i4 g4 st4 => ⟨F4, g4, st4.sub_of i4⟩, fun s v F4 H4 r g4 ok => P.rt s v F4 H4 r (G1.pre g4) ok⟩⟩
  · have e : k = n := by omega
    subst e
    exact .inl ⟨w.stop H' sH, P.nx _ F1 σ' H' hd (G1.pre g2) st1⟩
/-- a while loop by a state t -/
theorem ds_wp {τ : Type} {c : Expr} {body : List Stmt} (I : τ → Env) (Pt : τ → Prop) (b : τ → Bool) (μ : τ → Nat) (t0 : τ) (hP : Pt t0) (h0 : Sub (I t0) Γ) (hc : ∀ t, Pt t → DT X c (I t) (b t))
    (hs : ∀ t, Pt t → b t = true → DSs X body (I t) ⟨fun Γ2 => ∃ u, Pt u ∧ μ u < μ t ∧ Sub (I u) Γ2, O.rt, O.nx, fun Γ2 => ∃ u, Pt u ∧ μ u < μ t ∧ Sub (I u) Γ2⟩) (hd : ∀ t, Pt t → b t = false → O.nx (I t)) (hp : PassesOwn (model X.prog X.w) X.A X.env X.xe := by exact PassesOwn.never) : DS X (.While c body [] pos) Γ O := by
  have hcc : PT X c (fun σ H Q => ∃ t, Pt t ∧ rdT X.K (I t) (b t) σ H Q) := ⟨fun pins s σ H Q J ⟨t, i1, q⟩ => (hc t i1).run pins s σ H Q J q⟩
  have hb : PSs X body (fun T σ H => ∃ t, Pt t ∧ b t = true ∧ rdS X.K (I t) ⟨fun Γ2 => ∃ u, Pt u ∧ μ u < μ t ∧ Sub (I u) Γ2, O.rt, O.nx, fun Γ2 => ∃ u, Pt u ∧ μ u < μ t ∧ Sub (I u) Γ2⟩ T σ H) := ⟨fun pins s σ H T J ⟨t, i1, e1, q⟩ => (hs t i1 e1).run pins s σ H T J q⟩
  refine ps_weak (ps_while hp hcc hb) fun T σ H ⟨F0, H0, F, G, st, P⟩ => ?_
  refine ⟨fun m σ' H' => ∃ t F1, m = μ t ∧ Pt t ∧ Gr F0 H0 F1 H' ∧ StOk X.K H0 F1 (I t) σ' H', ⟨_, t0, F, rfl, hP, G, st.sub_of h0⟩, ?_⟩
  rintro m σ' H' ⟨t, F1, rfl, i1, g1, st1⟩
  refine ⟨t, i1, H0, F1, st1, fun F2 H2 g2 => ?_⟩
  cases e : b t with
  | false => exact iteF (P.nx _ F2 σ' H2 (hd t i1 e) (g1.trans g2) (st1.gr g2))
  | true =>
    refine iteT ⟨fun σ3 H3 => ∃ u F3, (Pt u ∧ μ u < μ t) ∧ Gr F0 H0 F3 H3 ∧ StOk X.K H0 F3 (I u) σ3 H3, fun σ3 H3 ⟨u, F3, ⟨i3, l3⟩, q⟩ => ⟨_, l3, u, F3, rfl, i3, q⟩, ?_⟩
    exact ⟨t, i1, e, F0, H0, F2, g1.trans g2, st1.gr g2, ⟨fun Γ4 F4 σ4 H4 ⟨u, p4, l4, s4⟩ g4 st4 => ⟨u, F4, ⟨p4, l4⟩, g4, st4.sub_of s4⟩, P.nx, fun Γ4 F4 σ4 H4 ⟨u, p4, l4, s4⟩ g4 st4 => ⟨u, F4, ⟨p4, l4⟩, g4, st4.sub_of s4⟩, P.rt⟩⟩
/-- an if whose ways meet again in p -/
theorem ds_ifp {k : Bool} {c : Expr} {s1 s2 : List Stmt} (p : Env) (hc : DT X c Γ k) (h1 : k = true → DSs X s1 Γ (O.to (Sub p))) (h2 : k = false → DSs X s2 Γ (O.to (Sub p))) (hn : O.nx p) : DS X (.If c s1 s2 pos) Γ O :=
  ps_weak (ds_if (O := O.to (Sub p)) hc h1 h2) fun T σ H ⟨F0, H0, F, G, st, P⟩ => ⟨F0, H0, F, G, st, ⟨fun Γ4 F4 σ4 H4 s4 g4 st4 => P.nx _ F4 σ4 H4 hn g4 (st4.sub_of s4), P.bk, P.ct, P.rt⟩⟩
end
end DL
namespace DL
open PySem L2
section
variable {X : Cx} {Γ : Env} {a b c e : Expr} {pos p : Pos} {i j : Int} {α : Type} {g : α → D} {xs ys : List α} {x y z : α}
/-! ### data that is a Lean list, item by item -/
theorem atI_of {β : Type} {l : List β} {i : Int} {n : Nat} {v : β} (e : i = (n : Int)) (h : l[n]? = some v) : atI l i = some v := by rw [e]; exact atI_nat h
theorem atI_map (z : α) (h : 0 ≤ i ∧ i < xs.length) : atI (xs.map g) i = some (g (xs.getD i.toNat z)) := by
  have hn : i.toNat < xs.length := by omega
  refine atI_of (n := i.toNat) (by omega) ?_
  rw [List.getElem?_map, List.getElem?_eq_getElem hn, getD_of (List.getElem?_eq_getElem hn)]; rfl
theorem atI_neg (z : α) (h : xs ≠ []) : atI (xs.map g) (-1) = some (g (xs.getLastD z)) := by
  have e : xs.map g = (xs.dropLast.map g) ++ [g (xs.getLast h)] := by rw [← List.map_singleton, ← List.map_append, List.dropLast_concat_getLast]
  rw [e]
  have q := atI_last (xs.dropLast.map g) (g (xs.getLast h))
  rw [q]
  cases xs with
  | nil => exact absurd rfl h
  | cons y r => rfl
theorem dv_ixTm (z : α) (ha : DE X a Γ (.tuple (xs.map g))) (hb : DE X b Γ (.int i)) (h : 0 ≤ i ∧ i < xs.length) (hs : PlainIx b := by exact fun _ _ => rfl) : DE X (.Subscript a b pos) Γ (g (xs.getD i.toNat z)) := dv_ixT ha hb (atI_map z h) hs
theorem dv_ixLm (z : α) (ha : DE X a Γ (.list (xs.map g))) (hb : DE X b Γ (.int i)) (h : 0 ≤ i ∧ i < xs.length) (hs : PlainIx b := by exact fun _ _ => rfl) : DE X (.Subscript a b pos) Γ (g (xs.getD i.toNat z)) := dv_ixL ha hb (atI_map z h) hs
theorem dv_ixTn (z : α) (ha : DE X a Γ (.tuple (xs.map g))) (hb : DE X b Γ (.int (-1))) (h : xs ≠ []) (hs : PlainIx b := by exact fun _ _ => rfl) : DE X (.Subscript a b pos) Γ (g (xs.getLastD z)) := dv_ixT ha hb (atI_neg z h) hs
theorem dv_slTm {lo hi : Option Expr} {l u : Option Int} {p2 : Pos} (h : DE X a Γ (.tuple (xs.map g))) (hl : DO X lo Γ l) (hu : DO X hi Γ u) : DE X (.Subscript a (.Slice lo hi none p2) pos) Γ (.tuple ((cut xs l u).map g)) := by
  have q := dv_slT (pos := pos) (p2 := p2) h hl hu
  rw [cut_map] at q
  exact q
theorem dv_slLm {lo hi : Option Expr} {l u : Option Int} {p2 : Pos} (h : DE X a Γ (.list (xs.map g))) (hl : DO X lo Γ l) (hu : DO X hi Γ u) : DV X (.Subscript a (.Slice lo hi none p2) pos) Γ (.own ((cut xs l u).map g)) := by
  have q := dv_slL (pos := pos) (p2 := p2) h hl hu
  rw [cut_map] at q
  exact q
theorem dv_catTm (ha : DE X a Γ (.tuple (xs.map g))) (hb : DE X b Γ (.tuple (ys.map g))) (hz : xs.length + ys.length ≤ sizeLine) : DE X (.BinOp a .Add b pos) Γ (.tuple ((xs ++ ys).map g)) := by
  have q := dv_catT (pos := pos) ha hb (by rw [List.length_map, List.length_map]; exact hz)
  rw [← List.map_append] at q
  exact q
theorem dv_catLm (ha : DE X a Γ (.list (xs.map g))) (hb : DE X b Γ (.list (ys.map g))) (hz : xs.length + ys.length ≤ sizeLine) : DV X (.BinOp a .Add b pos) Γ (.own ((xs ++ ys).map g)) := by
  have q := dv_catL (pos := pos) ha hb (by rw [List.length_map, List.length_map]; exact hz)
  rw [← List.map_append] at q
  exact q
theorem dv_tup0 {k} (g : α → D) : DE X (.Tuple [] k pos) Γ (.tuple (([] : List α).map g)) := dv_tup da_nil (Nat.zero_le _)
theorem dv_tup1 {k} (g : α → D) (h : DE X e Γ (g x)) (hs : starEach [e] X.env = (false, eval e X.env) :: starEach [] X.env := by rfl) : DE X (.Tuple [e] k pos) Γ (.tuple ([x].map g)) := dv_tup (da_one h hs) (show 1 ≤ sizeLine by decide)
theorem dv_tup2 {k} (g : α → D) (h : DE X a Γ (g x)) (h2 : DE X b Γ (g y)) (hs : starEach [a, b] X.env = (false, eval a X.env) :: starEach [b] X.env := by rfl) (hs2 : starEach [b] X.env = (false, eval b X.env) :: starEach [] X.env := by rfl) : DE X (.Tuple [a, b] k pos) Γ (.tuple ([x, y].map g)) := dv_tup (da_two h h2 hs hs2) (show 2 ≤ sizeLine by decide)
theorem dv_lst0 (g : α → D) : DV X (.List [] pos) Γ (.own (([] : List α).map g)) := dv_lst da_nil (Nat.zero_le _)
theorem dv_lst1 (g : α → D) (h : DE X e Γ (g x)) (hs : starEach [e] X.env = (false, eval e X.env) :: starEach [] X.env := by rfl) : DV X (.List [e] pos) Γ (.own ([x].map g)) := dv_lst (da_one h hs) (show 1 ≤ sizeLine by decide)
theorem da_map (g : α → D) {es : List Expr} (h : DE X e Γ (g x)) (r : DA X es Γ (xs.map g)) (hs : starEach (e :: es) X.env = (false, eval e X.env) :: starEach es X.env := by rfl) : DA X (e :: es) Γ ((x :: xs).map g) := da_cons h r hs
theorem da_map0 (g : α → D) : DA X [] Γ (([] : List α).map g) := da_nil
theorem rep_map (g : α → D) (xs : List α) (n : Nat) : (List.replicate n (xs.map g)).flatten = ((List.replicate n xs).flatten).map g := by
  rw [List.map_flatten, List.map_replicate]
/-! ### slices by plain numbers -/
theorem cut_from {l : List α} {n : Nat} (h : i = (n : Int)) : cut l (some i) none = l.drop n := by
  subst h
  unfold cut
  rw [HT.sIx_nat, HT.sIx_none]
  by_cases hn : n ≤ l.length
  · rw [Nat.min_eq_left hn, List.take_of_length_le]; rw [List.length_drop]; omega
  · rw [Nat.min_eq_right (by omega), List.drop_of_length_le (Nat.le_refl _), List.drop_of_length_le (by omega)]; simp
theorem cut_to {l : List α} {n : Nat} (h : i = (n : Int)) : cut l none (some i) = l.take n := by
  subst h
  unfold cut
  rw [HT.sIx_nat, HT.sIx_none]
  show (l.drop 0).take (min n l.length - 0) = l.take n
  rw [List.drop_zero, Nat.sub_zero]
  by_cases hn : n ≤ l.length
  · rw [Nat.min_eq_left hn]
  · rw [Nat.min_eq_right (by omega), List.take_of_length_le (Nat.le_refl _), List.take_of_length_le (by omega)]
theorem cut_mid {l : List α} {n m : Nat} (h : i = (n : Int)) (h2 : j = (m : Int)) : cut l (some i) (some j) = (l.drop n).take (m - n) := by
  subst h h2
  unfold cut
  rw [HT.sIx_nat, HT.sIx_nat]
  by_cases hn : n ≤ l.length
  · rw [Nat.min_eq_left hn]
    by_cases hm : m ≤ l.length
    · rw [Nat.min_eq_left hm]
    · rw [Nat.min_eq_right (by omega), List.take_of_length_le (by rw [List.length_drop]; omega), List.take_of_length_le (by rw [List.length_drop]; omega)]
  · rw [show min n l.length = l.length by omega, List.drop_of_length_le (Nat.le_refl _), List.drop_of_length_le (show l.length ≤ n by omega)]; simp
end
/-! ### the text and its defs -/
structure Td (K : Frag) (mg : Str → Option Value) (x : Str) (st : Stmt) (ps : List Str) : Prop where
  ex : ∃ f fd, Fun K x x st f fd ∧ mg x = some (.ref f) ∧ Binds K fd ps []
/-- the built-ins' names are no names of the module -/
structure Bs (mg : Str → Option Value) : Prop where
  len : mg "len" = none
  range : mg "range" = none
  enumerate : mg "enumerate" = none
  tuple : mg "tuple" = none
  list : mg "list" = none
  sorted : mg "sorted" = none
  max : mg "max" = none
  min : mg "min" = none
  int : mg "int" = none
  isinstance : mg "isinstance" = none
  sum : mg "sum" = none
  all : mg "all" = none
  zip : mg "zip" = none
  set : mg "set" = none
  str : mg "str" = none
  bool : mg "bool" = none
  dict : mg "dict" = none
theorem fd_mk {P : Program} {w : World} {K : Frag} {mg : Str → Option Value} {base : Heap} {x : Str} {st : Stmt} {N ps : List Str} {k : Nat} {C : List Sv → Sv → Prop} (T : Td K mg x st ps) (S : FnScope N ps (defScope st)) (hl : ∀ ss r, C ss r → ss.length = ps.length)
    (hb : ∀ (f : Addr) (cdv : Value) (A : Around) (outer : List PySem.Env) (s : Shared) (H : Hp) (E : XK), Room k (A.deeper (PyProof.Rows.envOfC x (defScope st) s.heap.objs.size f cdv)) → ∀ ss r, C ss r →
      DSs (cxOf CX0 P w K mg base N x (defScope st) f cdv A outer s H E).nox (defBody st) (entry N ss) (bodyO r)) : Fd P w K mg base (k + 1) x ps C := by
  obtain ⟨f, fd, F, hm, hbd⟩ := T.ex
  exact ⟨f, fd, fn_dl F S hl (hb f), hm, F.kp, hbd⟩
end DL
namespace DL
open PySem L2
theorem sz {n : Nat} (h : n ≤ 1000000) : n ≤ sizeLine := Nat.le_trans h (by decide)
theorem szl {n : Nat} (h : n ≤ 1000000) : n < sizeLine := Nat.lt_of_le_of_lt h (by decide)
theorem cut_len {α : Type} (xs : List α) (l u : Option Int) : (cut xs l u).length ≤ xs.length := by
  unfold cut; rw [List.length_take, List.length_drop]; omega
theorem getD_map {α : Type} {g : α → D} {xs : List α} {k : Nat} {z : D} (h : k < xs.length) : (xs.map g).getD k z = g xs[k] := getD_of (by rw [List.getElem?_map, List.getElem?_eq_getElem h]; rfl)
theorem pgTwo {X : Cx} {i j : Nat} {x y : Str} {p q pos : Pos} {k : Nat} (nd : X.N.Nodup) (hc : X.calm = true := by rfl) (hi : X.N[i]? = some x := by rfl) (hj : X.N[j]? = some y := by rfl) (hx : Loc X.env.scope x := by first | exact Or.inl rfl | exact Or.inr rfl) (hy : Loc X.env.scope y := by first | exact Or.inl rfl | exact Or.inr rfl)
    (fx : X.fn x = true ∨ X.env.scope.names.lookup x = some .local := by first | exact .inl rfl | exact .inr rfl) (fy : X.fn y = true ∨ X.env.scope.names.lookup y = some .local := by first | exact .inl rfl | exact .inr rfl) (h1 : (assignEach [.Name x p, .Name y q] X.env).map (·.2) = assign (.Name x p) X.env :: (assignEach [.Name y q] X.env).map (·.2) := by rfl)
    (h2 : (assignEach [.Name y q] X.env).map (·.2) = assign (.Name y q) X.env :: (assignEach [] X.env).map (·.2) := by rfl) (hn : (assignEach [.Name x p, .Name y q] X.env).length = 2 := by rfl) (hst : (assignEach [.Name x p, .Name y q] X.env).findIdx? (·.1) = none := by rfl) :
    PG X (.Tuple [.Name x p, .Name y q] k pos) (gTwo X.K i j) := pg_tup hc (pgs_cons (pg_name nd hi hx fx) (pgs_cons (pg_name nd hj hy fy) pgs_nil h2) h1) hn hst
theorem pgOne {X : Cx} {i : Nat} {x : Str} {pos : Pos} (nd : X.N.Nodup) (hi : X.N[i]? = some x := by rfl) (hx : Loc X.env.scope x := by first | exact Or.inl rfl | exact Or.inr rfl)
    (fx : X.fn x = true ∨ X.env.scope.names.lookup x = some .local := by first | exact .inl rfl | exact .inr rfl) : PG X (.Name x pos) (gName i) := pg_name nd hi hx fx
end DL
namespace DL
open PySem L2
theorem b_len : bootBuiltins "len" = some (.builtin "len") := PySem.boot_len
theorem b_range : bootBuiltins "range" = some (.type "range") := PyProof.Rows.boot_range
theorem b_enumerate : bootBuiltins "enumerate" = some (.type "enumerate") := PyProof.Rows.boot_enumerate
theorem b_tuple : bootBuiltins "tuple" = some (.type "tuple") := PyProof.Rows.boot_tuple
theorem b_list : bootBuiltins "list" = some (.type "list") := PyProof.Rows.boot_list
theorem b_sorted : bootBuiltins "sorted" = some (.builtin "sorted") := PyProof.Rows.boot_sorted
theorem b_max : bootBuiltins "max" = some (.builtin "max") := PyProof.Rows.boot_max
theorem b_min : bootBuiltins "min" = some (.builtin "min") := PyProof.Rows.boot_min
theorem b_int : bootBuiltins "int" = some (.type "int") := PyProof.Rows.boot_int
theorem b_isinstance : bootBuiltins "isinstance" = some (.builtin "isinstance") := PyProof.Rows.boot_isinstance
theorem b_sum : bootBuiltins "sum" = some (.builtin "sum") := PyProof.Rows.boot_sum
theorem b_all : bootBuiltins "all" = some (.builtin "all") := PyProof.Rows.boot_all
theorem b_zip : bootBuiltins "zip" = some (.type "zip") := PyProof.Rows.boot_zip
theorem b_set : bootBuiltins "set" = some (.type "set") := PyProof.Rows.boot_set
theorem b_str : bootBuiltins "str" = some (.type "str") := PyProof.Rows.boot_str
theorem b_bool : bootBuiltins "bool" = some (.type "bool") := PyProof.Rows.boot_bool
theorem b_dict : bootBuiltins "dict" = some (.type "dict") := PyProof.Rows.boot_dict
section
variable {X : Cx}
theorem Bs.L (B : Bs X.mg) (g : Gl X "len" := by rfl) : Blt X "len" (.builtin "len") := ⟨g, B.len, b_len⟩
theorem Bs.R (B : Bs X.mg) (g : Gl X "range" := by rfl) : Blt X "range" (.type "range") := ⟨g, B.range, b_range⟩
theorem Bs.En (B : Bs X.mg) (g : Gl X "enumerate" := by rfl) : Blt X "enumerate" (.type "enumerate") := ⟨g, B.enumerate, b_enumerate⟩
theorem Bs.Tu (B : Bs X.mg) (g : Gl X "tuple" := by rfl) : Blt X "tuple" (.type "tuple") := ⟨g, B.tuple, b_tuple⟩
theorem Bs.Li (B : Bs X.mg) (g : Gl X "list" := by rfl) : Blt X "list" (.type "list") := ⟨g, B.list, b_list⟩
theorem Bs.So (B : Bs X.mg) (g : Gl X "sorted" := by rfl) : Blt X "sorted" (.builtin "sorted") := ⟨g, B.sorted, b_sorted⟩
theorem Bs.Ma (B : Bs X.mg) (g : Gl X "max" := by rfl) : Blt X "max" (.builtin "max") := ⟨g, B.max, b_max⟩
theorem Bs.Mi (B : Bs X.mg) (g : Gl X "min" := by rfl) : Blt X "min" (.builtin "min") := ⟨g, B.min, b_min⟩
theorem Bs.In (B : Bs X.mg) (g : Gl X "int" := by rfl) : Blt X "int" (.type "int") := ⟨g, B.int, b_int⟩
theorem Bs.Is (B : Bs X.mg) (g : Gl X "isinstance" := by rfl) : Blt X "isinstance" (.builtin "isinstance") := ⟨g, B.isinstance, b_isinstance⟩
theorem Bs.Su (B : Bs X.mg) (g : Gl X "sum" := by rfl) : Blt X "sum" (.builtin "sum") := ⟨g, B.sum, b_sum⟩
theorem Bs.Al (B : Bs X.mg) (g : Gl X "all" := by rfl) : Blt X "all" (.builtin "all") := ⟨g, B.all, b_all⟩
theorem Bs.Zi (B : Bs X.mg) (g : Gl X "zip" := by rfl) : Blt X "zip" (.type "zip") := ⟨g, B.zip, b_zip⟩
theorem Bs.Se (B : Bs X.mg) (g : Gl X "set" := by rfl) : Blt X "set" (.type "set") := ⟨g, B.set, b_set⟩
theorem Bs.St (B : Bs X.mg) (g : Gl X "str" := by rfl) : Blt X "str" (.type "str") := ⟨g, B.str, b_str⟩
theorem Bs.Bo (B : Bs X.mg) (g : Gl X "bool" := by rfl) : Blt X "bool" (.type "bool") := ⟨g, B.bool, b_bool⟩
theorem Bs.Di (B : Bs X.mg) (g : Gl X "dict" := by rfl) : Blt X "dict" (.type "dict") := ⟨g, B.dict, b_dict⟩
end
end DL
namespace DL
open PySem L2
/-! ### data that may be compared -/
def Sh (n : Nat) (d : D) : Prop := d.canLay0 = true ∧ d.depth ≤ n
theorem sh_int {n : Nat} {i : Int} : Sh n (.int i) := ⟨rfl, Nat.zero_le _⟩
theorem sh_bool {n : Nat} {i : Bool} : Sh n (.bool i) := ⟨rfl, Nat.zero_le _⟩
theorem sh_none {n : Nat} : Sh n .none := ⟨rfl, Nat.zero_le _⟩
theorem sh_str {n : Nat} {x : Str} (h : PyData.strOk x = true) : Sh n (.str x) := ⟨h, Nat.zero_le _⟩
theorem sh_all {n : Nat} : ∀ {ds : List D}, (∀ d ∈ ds, Sh n d) → PyData.canLayAll0 ds = true ∧ PyData.depthAll ds ≤ n
  | [], _ => ⟨rfl, Nat.zero_le _⟩
  | d :: r, h => by
    obtain ⟨h1, h2⟩ := sh_all (ds := r) fun e he => h e (List.mem_cons_of_mem _ he)
    obtain ⟨g1, g2⟩ := h d List.mem_cons_self
    exact ⟨by show (d.canLay0 && PyData.canLayAll0 r) = true; rw [g1, h1]; rfl, Nat.max_le.mpr ⟨g2, h2⟩⟩
theorem sh_tup {n : Nat} {ds : List D} (h : ∀ d ∈ ds, Sh n d) : Sh (n + 1) (.tuple ds) := ⟨(sh_all h).1, Nat.succ_le_succ (sh_all h).2⟩
theorem sh_lst {n : Nat} {ds : List D} (h : ∀ d ∈ ds, Sh n d) : Sh (n + 1) (.list ds) := ⟨(sh_all h).1, Nat.succ_le_succ (sh_all h).2⟩
theorem sh_map {α : Type} {g : α → D} {n : Nat} {xs : List α} (h : ∀ x ∈ xs, Sh n (g x)) : ∀ d ∈ xs.map g, Sh n d := fun d hd => by
  obtain ⟨x, hx, rfl⟩ := List.mem_map.mp hd
  exact h x hx
theorem Sh.up {n m : Nat} {d : D} (h : Sh n d) (l : n ≤ m := by decide) : Sh m d := ⟨h.1, Nat.le_trans h.2 l⟩
theorem Sh.s {d : D} (h : Sh 64 d) : SeqAt.shaped d = true := by unfold SeqAt.shaped; rw [h.1, decide_eq_true h.2]; rfl
theorem cq_eq {X : Cx} {d e : D} {k : Nat} (hr : Room k X.A) (h1 : Sh 64 d) (h2 : Sh 64 e) : Cmp X .Eq d e (PyData.eqv d e) := cp_eq hr.units h1.s h2.s
theorem cq_ne {X : Cx} {d e : D} {k : Nat} (hr : Room k X.A) (h1 : Sh 64 d) (h2 : Sh 64 e) : Cmp X .NotEq d e (!PyData.eqv d e) := cp_ne hr.units h1.s h2.s
/-- what == says of embedded things -/
def Emb {α : Type} [DecidableEq α] (g : α → D) : Prop := ∀ x y, PyData.eqv (g x) (g y) = decide (x = y)
theorem emb_all {α : Type} [DecidableEq α] {g : α → D} (h : Emb g) : ∀ xs ys : List α, PyData.eqvAll (xs.map g) (ys.map g) = decide (xs = ys)
  | [], [] => rfl
  | [], y :: ys => rfl
  | x :: xs, [] => rfl
  | x :: xs, y :: ys => by
    show (PyData.eqv (g x) (g y) && PyData.eqvAll (xs.map g) (ys.map g)) = _
    rw [h x y, emb_all h xs ys]
    by_cases e : x = y
    · by_cases e2 : xs = ys
      · simp [e, e2]
      · simp [e, e2]
    · simp [e]
theorem emb_str : Emb PyData.str := fun x y => by show (x == y) = _; by_cases e : x = y <;> simp [e]
theorem emb_int : Emb PyData.int := fun x y => by show (x == y) = _; by_cases e : x = y <;> simp [e]
theorem emb_nat : Emb fun (n : Nat) => PyData.int (n : Int) := fun x y => by
  show ((x : Int) == (y : Int)) = _
  by_cases e : x = y
  · subst e; simp
  · have : ¬ (x : Int) = y := by omega
    simp [e, this]
theorem emb_tup {α : Type} [DecidableEq α] {g : α → D} (h : Emb g) : Emb fun (xs : List α) => PyData.tuple (xs.map g) := fun xs ys => emb_all h xs ys
theorem emb_lst {α : Type} [DecidableEq α] {g : α → D} (h : Emb g) : Emb fun (xs : List α) => PyData.list (xs.map g) := fun xs ys => emb_all h xs ys
end DL
namespace DL
open PySem PySem.Spec PyProof.Rows L2
/-! ### t[::-1] of a tuple -/
theorem fm_congr {α β : Type} {f g : α → Option β} : ∀ {l : List α}, (∀ x ∈ l, f x = g x) → l.filterMap f = l.filterMap g
  | [], _ => rfl
  | x :: r, h => by rw [List.filterMap_cons, List.filterMap_cons, h x List.mem_cons_self, fm_congr fun y hy => h y (List.mem_cons_of_mem _ hy)]
theorem rev_pick (xs : Array Value) : ((List.range xs.size).filterMap fun (k : Nat) => xs[(((xs.size : Nat) : Int) - 1 + (k : Int) * (-1)).toNat]?) = xs.toList.reverse := by
  have e : ((List.range xs.size).filterMap fun (k : Nat) => xs[(((xs.size : Nat) : Int) - 1 + (k : Int) * (-1)).toNat]?) = ((List.range xs.size).map fun k => xs.size - 1 - k).filterMap (xs[·]?) := by
    rw [List.filterMap_map]
    refine fm_congr fun k hk => ?_
    have hk := List.mem_range.mp hk
    show xs[(((xs.size : Nat) : Int) - 1 + (k : Int) * (-1)).toNat]? = xs[xs.size - 1 - k]?
    rw [show (((xs.size : Nat) : Int) - 1 + (k : Int) * (-1)).toNat = xs.size - 1 - k by omega]
  rw [e, PySem.W.krv_range, List.filterMap_reverse, PySem.W.krv_all]
section
variable {prog : Program} {w : World} {A : Around} {E : Value → Shared → Prop} {s : Shared}
theorem applied_rev {sl : Addr} {n : Nat} {va vb vc : Value} {R : Int × Int × Nat → Shared → Prop} (hS : s.heap.IsSliceOf sl va vb vc) (pa : IsPart va none) (pb : IsPart vb none) (pc : IsPart vc (some (-1)))
    (hR : R ((n : Int) - 1, -1, n) s) : wpAny (model prog w) A (Builtin.Slice.sliceApplied (.ref sl) (pure (n : Int))) R E s := by
  obtain ⟨os, hos, hcs, hds⟩ := hS
  unfold Builtin.Slice.sliceApplied Builtin.Slice.sliceFields
  refine wpAny_bind (wpAny_bind (wpAny_field hos hds (x := va) rfl (wpAny_bind (wpAny_field hos hds (x := vb) rfl (wpAny_bind (wpAny_field hos hds (x := vc) rfl (wpAny_pure ?_)))))))
  cases pa; cases pb
  cases pc with
  | int _ tk =>
    refine wpAny_bind (slicePart_int ?_)
    show wpAny _ _ (if ((-1 : Int) == 0) = true then _ else _) _ _ s
    rw [if_neg (by decide)]
    refine wpAny_bind (slicePart_none (wpAny_bind (slicePart_none (wpAny_bind (wpAny_pure ?_)))))
    have e : Builtin.Slice.slicePlaces ((n : Int) - 1) (-1) (-1) = n := by
      unfold Builtin.Slice.slicePlaces
      rw [if_neg (by decide)]
      by_cases hn : (n : Int) - 1 > -1
      · rw [if_pos hn]
        have : ((n : Int) - 1 - -1 - 1) / (- -1) = (n : Int) - 1 := by
          rw [show (- -1 : Int) = 1 by decide, Int.ediv_one]; omega
        rw [this]; omega
      · rw [if_neg hn]; omega
    show wpAny _ _ (pure ((n : Int) - 1, (-1 : Int), Builtin.Slice.slicePlaces ((n : Int) - 1) (-1) (-1))) _ _ s
    rw [e]
    exact wpAny_pure hR
theorem item_rev {t sl : Addr} {xs : Array Value} {va vb vc : Value} {Q : Value → Shared → Prop} (ht : IsTup s.heap t xs) (hS : s.heap.IsSliceOf sl va vb vc) (pa : IsPart va none) (pb : IsPart vb none) (pc : IsPart vc (some (-1)))
    (q : Q (.ref s.heap.objs.size) { s with heap := s.heap.push { cls := .type "tuple", data := .seq xs.toList.reverse.toArray } }) (hz : xs.size ≤ sizeLine) : wpAny (model prog w) A (getItem (.ref t) (.ref sl)) Q E s := by
  have ty : s.TypeIs (.ref sl) "slice" := let ⟨os, hos, hcs, _⟩ := hS; ⟨os, hos, hcs⟩
  have fit : sizeOk (.seq xs.toList.reverse.toArray) := by
    show xs.toList.reverse.toArray.size ≤ sizeLine
    rw [List.size_toArray, List.length_reverse, Array.length_toList]; exact hz
  unfold getItem
  try with_reducible refine wpAny_holding ?_
  first | refine wpAny_bind (wpAny_pure ?_) | skip
  refine wpAny_bind (wpAny_sequenceKey ht.typeIs (by decide) (wpAny_bind (wpAny_callSpecial?_slot (name := Str.ofString "__getitem__") ht.typeIs PyProof.Rows.slot_tuple_getitem
    (wpAny_call_entry PyProof.Rows.slot_tuple_getitem ht.typeIs entry_tuple_getitem ?_ (args_tuple_getitem _ _)))))
  show wpAny _ _ (Builtin.Tuple.tupleItemsOf (.ref t) >>= _) _ _ s
  refine wpAny_bind (tupleItemsOf_ ht (wpAny_bind (wpAny_typeOf ty ?_)))
  rw [if_pos (by decide)]
  refine wpAny_bind (applied_rev hS pa pb pc ?_)
  show wpAny _ _ (if ((((xs.size : Nat) : Int) - 1 == 0) && ((-1 : Int) == 1) && (xs.size == xs.size)) = true then _ else _) _ _ s
  rw [if_neg (by simp), rev_pick]
  first
    | exact wpAny_bind (m := Builtin.Tuple.tupleExact _) (wpAny_newObj_type (wpAny_pure ⟨_, rfl, wpAny_pure q⟩) fit)
    | exact wpAny_bind (m := Builtin.Tuple.tupleExact _) (wpAny_newObj_type (wpAny_bind (wpAny_pure (wpAny_pure ⟨_, rfl, wpAny_pure q⟩))) fit)
    | exact wpAny_bind (wpAny_bind (m := Builtin.Tuple.tupleExact _) (wpAny_newObj_type (wpAny_pure (wpAny_pure ⟨_, rfl, wpAny_pure q⟩)) fit))
    | exact wpAny_bind (wpAny_bind (m := Builtin.Tuple.tupleExact _) (wpAny_newObj_type (wpAny_pure ⟨_, rfl, wpAny_pure q⟩) fit))
end
section
variable {X : Cx} {Γ : Env} {a b c e : Expr} {pos p : Pos} {i j : Int}
def tRevF (K : Frag) (te : TE) : TE := fun σ H Q => te σ H fun x H1 => ∃ t xs, x = .ref t ∧ SqT K H1 t xs ∧ ∀ q o, H1 q = none → o.dict = none → Q (.ref q) (upd H1 q (.frz o (.tup xs.reverse)))
theorem pe_revF {te : TE} {k : Nat} {p1 p2 p3 : Pos} (he : PE X e te) : PE X (.Subscript e (.Slice none none (some (.UnaryOp .USub (.Constant (.int 1) k p1) p2)) p3) pos) (tRevF X.K te) := by
  refine ⟨fun pins s σ H Q I h => Subscript_ (thn (he.run pins s σ H _ I h) fun v s1 ⟨x, H1, I1, r1, q1⟩ => ?_)⟩
  obtain ⟨t, xs, rfl, hx, q⟩ := q1
  cases r1
  have hst : PO X (some (.UnaryOp .USub (.Constant (.int 1) k p1) p2)) (tPart (tUn (rU fun i => .int (-i)) (tC (.int 1)))) := po_some (pe_un un_neg pe_int)
  refine wpAny_Slice (thn (po_none.run pins s1 σ H1 (fun o H2 => o = none ∧ H2 = H1) I1 ⟨rfl, rfl⟩) fun va s2 ⟨l, H2, I2, pl, el, e2⟩ => ?_)
  subst el e2
  refine thn (po_none.run pins s2 σ H2 (fun o H3 => o = none ∧ H3 = H2) I2 ⟨rfl, rfl⟩) fun vb s3 ⟨u, H3, I3, pu, eu, e3⟩ => ?_
  subst eu e3
  refine thn (hst.run pins s3 σ H3 (fun o H4 => o = some (-1) ∧ H4 = H3) I3 ⟨1, rfl, -1, rfl, rfl, rfl⟩) fun vc s4 ⟨o, H4, I4, ps, eo, e4⟩ => ?_
  subst eo e4
  have I5 : Inv X pins σ H4 { s4 with heap := s4.heap.push { cls := .type "slice", data := .fields #[va, vb, vc] } } := I4.kept (t' := s4.toks) fun b ob q => Heap.get?_push_of_some _ q
  obtain ⟨its, r, ht, hz⟩ := I5.tuple hx
  have hlen := r.length
  show wpAny (model X.prog X.w) X.A (subscriptTail e (.Slice none none (some (.UnaryOp .USub (.Constant (.int 1) k p1) p2)) p3) (.ref t) (.ref s4.heap.objs.size)) (EP X pins σ Q) X.xe _
  refine tail_any (ops := [.ref t, .ref s4.heap.objs.size]) ht.typeIs PyProof.Rows.slot_tuple_getitem.lookup ?_ (by with_unfolding_all rfl)
  refine item_rev ht (Heap.IsSliceOf.new _ va vb vc) pl pu ps ?_ (by rw [List.size_toArray]; omega)
  exact ⟨.ref _, _, tup_laid I5 r.reverse (by rw [List.length_reverse]; exact hz), rfl, q _ _ I5.fresh rfl⟩
theorem dv_revT {ds : List D} {k : Nat} {p1 p2 p3 : Pos} (h : DE X e Γ (.tuple ds)) : DE X (.Subscript e (.Slice none none (some (.UnaryOp .USub (.Constant (.int 1) k p1) p2)) p3) pos) Γ (.tuple ds.reverse) :=
  pe_weak (pe_revF h) fun σ H Q ⟨H0, F, st, q⟩ => ⟨H0, F, st, fun v F1 H1 g1 ok => by
    cases ok with
    | tup hh hn hd => exact ⟨_, _, rfl, .inl (.inr ⟨_, g1.s _ _ hh⟩), fun p o hp ho => q _ _ _ (g1.trans (Gr.new g1.s hp)) (dd_tup (g1.s.free hp) ho (dda_rev hd))⟩⟩
theorem dv_revTm {α : Type} {g : α → D} {xs : List α} {k : Nat} {p1 p2 p3 : Pos} (h : DE X e Γ (.tuple (xs.map g))) : DE X (.Subscript e (.Slice none none (some (.UnaryOp .USub (.Constant (.int 1) k p1) p2)) p3) pos) Γ (.tuple (xs.reverse.map g)) := by
  rw [List.map_reverse]; exact dv_revT h
/-! ### t * n -/
def rRepF (K : Frag) : R2 := fun x y H Q => ∃ l k xs, x = .ref l ∧ y = .int k ∧ SqT K H l xs ∧ xs ≠ [] ∧ 2 ≤ k ∧ k ≤ 1000 ∧ xs.length ≤ 1000 ∧ ∀ q o, H q = none → o.dict = none → Q (.ref q) (upd H q (.frz o (.tup (List.replicate k.toNat xs).flatten)))
theorem op_repF : OpR X (binaryOp .Mult) (rRepF X.K) := by
  intro pins s σ H x y v u Q I rx ry h
  obtain ⟨l, k, xs, rfl, rfl, hT, hne, h1, h2, hz, q⟩ := h
  cases rx
  obtain ⟨t, rfl⟩ := ry
  obtain ⟨its, r, ⟨⟨cls, dd, data, sl⟩, ho, hc, n, hd⟩, hs⟩ := I.tuple hT
  simp only at hc hd
  subst hc hd
  have hle : its.length = xs.length := r.length.symm
  have hi : its.toArray.isEmpty = false := by
    cases its with
    | nil => cases r; exact absurd rfl hne
    | cons a b => rfl
  have lim : k.toNat * xs.length ≤ 1000 * 1000 := Nat.mul_le_mul (by omega) hz
  have prod : ((its.toArray.size : Nat) : Int) * k = ((k.toNat * xs.length : Nat) : Int) := by
    rw [List.size_toArray, hle, Int.natCast_mul, Int.toNat_of_nonneg (by omega), Int.mul_comm]
  have fl : (List.replicate k.toNat its).flatten.length = k.toNat * xs.length := by rw [PyProof.Rows.lm_len_rep_flat, hle]
  have fx : (List.replicate k.toNat xs).flatten.length = k.toNat * xs.length := by rw [PyProof.Rows.lm_len_rep_flat]
  have c4 : Builtin.Tuple.tupleTooMany (((its.toArray.size : Nat) : Int) * k) = false := by
    unfold Builtin.Tuple.tupleTooMany; rw [sizeLine_eq, prod]; exact decide_eq_false (by omega)
  refine wpAny_binaryOp_repeat_ref (T := "tuple") (U := "int") (by decide) ⟨_, ho, rfl⟩ (fun s' => typeIs_int s' k t) noFill_tuple_mul F.fills_int_mul F.slot_int_rmul repeat_tuple F.slot_int_index.lookup
    (call_meets F.slot_int_rmul (typeIs_int s k t) F.entry_int_rmul (F.args_int_rmul_2 _ _) (int_rmul_tuple k t l its.toArray n dd sl) ⟨ho, rfl, ⟨_, ho, rfl⟩, call_meets F.slot_tuple_mul ⟨_, ho, rfl⟩ F.entry_tuple_mul (F.args_tuple_mul_2 _ _)
      (tuple_mulW l its.toArray n dd sl k t (by rw [decide_eq_false (by omega), decide_eq_false (by omega)] <;> rfl) (by rw [hi, Bool.false_or]; exact beq_eq_false_iff_ne.mpr (by omega)) (by rw [hi, Bool.or_false]; exact decide_eq_false (by omega)) (by rw [prod]; omega) c4
        (by rw [size_rep, List.size_toArray, fl, sizeLine_eq]; omega)) ⟨ho, ?_⟩⟩)
  rw [size_rep]
  exact ⟨.ref s.heap.objs.size, _, tup_laid I (r.rep k.toNat) (by rw [fx, sizeLine_eq]; omega), rfl, q _ _ I.fresh rfl⟩
theorem dv_repT {ds : List D} (ha : DE X a Γ (.tuple ds)) (hb : DE X b Γ (.int i)) (h0 : ds ≠ []) (h1 : 2 ≤ i) (h2 : i ≤ 1000) (hz : ds.length ≤ 1000) : DE X (.BinOp a .Mult b pos) Γ (.tuple (List.replicate i.toNat ds).flatten) :=
  dv_bin op_repF ha hb fun F H x y s q1 q2 Q q => by
    cases q2
    cases q1 with
    | tup hh hn hd => exact ⟨_, i, _, rfl, rfl, .inl (.inr ⟨_, s _ _ hh⟩), fun e => h0 ((dda_nil_iff hd).mp e), h1, h2, by rw [dda_length hd]; exact hz, fun p o hp ho => q _ _ _ (Gr.new s hp) (dd_tup (s.free hp) ho (dda_rep hd _))⟩
/-! ### isinstance(e, T), T a built-in class -/
def tyD : D → String
  | .none => "NoneType"
  | .bool _ => "bool"
  | .int _ => "int"
  | .str _ => "str"
  | .list _ => "list"
  | .tuple _ => "tuple"
  | .dict _ => "dict"
theorem tyX_dd {K : Frag} {F : Hp} {v : V} {d : D} (h : Dd F v d) : TyX K F v (.type (tyD d)) := by
  cases h with
  | non => exact .base .non
  | bl b => exact .base (.bl b)
  | int i => exact .base (.int i)
  | str x => exact .base (.str x)
  | lst hh _ => exact .base (.lst hh)
  | tup hh _ _ => exact .fTuple hh
theorem dv_isi {d : D} {T : Str} {tn : String} {k : Bool} {q : Pos} (B : Blt X "isinstance" (.builtin "isinstance")) (h : DE X e Γ d) (BT : Blt X T (.type tn)) (hk : kitB (tyD d) tn = some k) (pl : Pl X e [.Name T q] pos := by exact ⟨rfl, rfl⟩) (pl2 : starEach [.Name T q] X.env = (false, eval (.Name T q) X.env) :: starEach [] X.env := by rfl)
    (hn : T ≠ "__name__" := by decide) (hdb : (T == ("__debug__" : Str)) = false := by decide) : DE X (.Call (.Name "isinstance" p) [e, .Name T q] [] pos) Γ (.bool k) :=
  pe_weak (pe_callB call_isi B.g B.m B.b (pa_cons h (pa_cons (pe_bltn (v := .ty tn) BT.g BT.m BT.b rfl hn hdb) pa_nil pl2) pl.1) (he := pl.1) (hpl := pl.2)) fun σ H Q ⟨H0, F, st, q⟩ => ⟨H0, F, st, fun v F1 H1 g ok =>
    ⟨v, .ty tn, _, _, k, rfl, .ty tn, tyX_dd (dd_mono g.s ok), kit_ty hk, q _ F1 H1 g (.bl k)⟩⟩
end
/-! ### enumerate(t) of a tuple, enumerate(l) of a list -/
section
variable {prog : Program} {w : World} {A : Around} {E : Value → Shared → Prop} {s : Shared}
open AutoSeq1 (wpAny_loadPart')
set_option maxHeartbeats 1000000 in
theorem enum_newT (t : Addr) (xs : Array Value) (n : Nat) (dct : Option Addr) (sl : Array (Option Value)) : Meets (Builtin.«enumerate.__new__» ⟨[.type "enumerate", .ref t], []⟩)
    (fun _ R s => s.heap.get? t = some { cls := .type "tuple", dict := dct, data := .seq xs n, slots := sl } ∧ R (.ok (.ret (.ref (s.heap.push { cls := .type "tuple_iterator", data := .fields #[.ref t, .int 0 0] }).objs.size)))
      { s with heap := (s.heap.push { cls := .type "tuple_iterator", data := .fields #[.ref t, .int 0 0] }).push { cls := .type "enumerate", data := .fields #[.none, .bool false, .ref s.heap.objs.size, rawInt 0, .none, .none] } }) :=
  .of_wp fun prog w A R s h => by
    obtain ⟨hp, g, d, tk, os⟩ := s
    obtain ⟨ht, h⟩ := h
    have sb := sub_enumerate
    have hT : Heap.IsTuple (Shared.heap ⟨hp, g, d, tk, os⟩) t xs := ⟨_, ht, rfl, n, rfl⟩
    wp_walk using wpAny_loadPart' ht
    refine wpAny_stack_any fun st => wpAny_pure ?_
    split
    · rename_i c _ _ _ _ _
      cases (c == Value.type "enumerate") <;> (wp_walk using wpAny_loadPart' ht, wpAny_pyIter_tuple hT; exact ⟨_, rfl, h⟩)
    · wp_walk using wpAny_loadPart' ht, wpAny_pyIter_tuple hT
      exact ⟨_, rfl, h⟩
theorem call_enumT {t : Addr} {xs : Array Value} {Q : Value → Shared → Prop} (hT : s.heap.IsTuple t xs)
    (h : ∀ h', IsEnum h' (s.heap.objs.size + 1) s.heap.objs.size 0 .none → h'.IsTupleIter s.heap.objs.size t 0 → (∀ b o, s.heap.get? b = some o → h'.get? b = some o) → Q (.ref (s.heap.objs.size + 1)) { s with heap := h' }) :
    wpAny (model prog w) A (call (.type "enumerate") [.ref t]) Q E s := by
  obtain ⟨⟨c, dct, dt, sl⟩, ht, hc, n, hd⟩ := hT
  simp only at hc hd
  subst hc hd
  refine callType_new F.called_enumerate (by decide) (F.typeCall_enumerate_1 _) (F.newCall_enumerate_1 _) (fun obj => F.args_object_init_2 obj _) F.entry_enumerate_new (enum_newT t xs n dct sl) ⟨ht, ?_⟩
  have hz : (s.heap.push { cls := .type "tuple_iterator", data := .fields #[.ref t, .int 0 0] }).objs.size = s.heap.objs.size + 1 := Heap.size_push ..
  show _ ∧ _
  rw [hz]
  have he : ∀ o : Obj, o.isFreed = false → ((s.heap.push { cls := .type "tuple_iterator", data := .fields #[.ref t, .int 0 0] }).push o).get? (s.heap.objs.size + 1) = some o := fun o hf => by
    have := Heap.get?_push_size (s.heap.push { cls := .type "tuple_iterator", data := .fields #[.ref t, .int 0 0] }) (o := o) hf
    rw [hz] at this; exact this
  exact ⟨⟨_, he _ rfl, rfl⟩, h _ (he _ rfl) ⟨_, Heap.get?_push_of_some _ (Heap.get?_push_size _ rfl), rfl, rfl⟩ fun b o x => Heap.get?_push_of_some _ (Heap.get?_push_of_some _ x)⟩
end
/-- the tuple at a as it stands, its items with their numbers in new pairs -/
def Iet (K : Frag) (a : Addr) : It :=
  ⟨fun i H => ∃ xs x, SqT K H a xs ∧ xs[i]? = some x, fun i H v H' => ∃ T x, v = .ref T ∧ H T = none ∧ H' = upd H T (.tup [.int (i : Nat), x]) ∧ ∀ xs, SqT K H a xs → xs[i]? = some x, fun i H => ∃ xs, SqT K H a xs ∧ xs.length = i⟩
theorem turn_enumT {P : Program} {w : World} {K : Frag} {elts : List Expr} {kk : Nat} {tpos : Pos} (a e it : Addr) :
    Turn P w K (.Tuple elts kk tpos) (Iet K a) [e, it] e (fun i h => (∃ old, IsEnum h e it ((i : Nat) : Int) old) ∧ h.IsTupleIter it a i ∧ e ≠ it ∧ a ≠ it ∧ e ≠ a) where
  mem := List.mem_cons_self
  obj := fun i h st b hb => by
    obtain ⟨⟨old, he⟩, ⟨o, ho, hc, hd⟩, _⟩ := st
    rcases List.mem_cons.mp hb with rfl | hb
    · exact ⟨_, he, fun v q => nomatch q⟩
    · rw [List.mem_singleton.mp hb]; exact ⟨o, ho, fun v q => by rw [hd] at q; cases q⟩
  keep := fun i h h' ⟨⟨old, he⟩, hi, hne⟩ k => ⟨⟨old, k e List.mem_cons_self _ he⟩, hi.at fun o q => k it (by simp) o q, hne⟩
  item := by
    intro X hP hw hK hc i pins s σ H E I hf st hg
    subst hP hw hK
    obtain ⟨⟨old, he⟩, hit, hne, hai, hea⟩ := st
    obtain ⟨xs, x, hq, hx⟩ := hg
    obtain ⟨its, rv, ht, hz⟩ := I.tuple hq
    obtain ⟨u, hu, ru⟩ := rv.get hx
    have hi : i < its.toArray.size := by rw [List.size_toArray]; exact (List.getElem?_eq_some_iff.mp hu).1
    have hel : e < s.heap.objs.size := Heap.lt_size he
    have hil : it < s.heap.objs.size := by obtain ⟨_, q, _⟩ := hit; exact Heap.lt_size q
    refine wpAny_pyNext_enum_itemD (Draws.tuple (prog := X.prog) (w := X.w) (A := X.A.in1) (I.ok.hd hc) it a hai its.toArray) he ⟨hit, ht⟩ hi hne (by simp [hne, hea]) fun z h' tk hz2 ho hit' hT hsz hk => ?_
    have ez : z = u := by
      have hz2 : its.toArray[i]? = some z := hz2
      rw [List.getElem?_toArray, hu] at hz2
      exact (Option.some.inj hz2).symm
    subst ez
    refine ⟨_, rfl, wpAny_letOwnedTupleGo_enum (s := { s with heap := h', toks := tk + 1 }) ho fun h'' he' sb => ?_⟩
    have hT2 : h''.get? s.heap.objs.size = some { cls := .type "tuple", data := .seq #[.int i tk, z] } := (sb.2 _ (Nat.ne_of_gt hel)).trans hT
    have new : ObjOk X.prog X.w (upd H s.heap.objs.size (.tup [.int (i : Nat), x])) h'' s.heap.objs.size (.tup [.int (i : Nat), x]) := ⟨by show 2 ≤ sizeLine; decide, [.int i tk, z], .cons ⟨_, rfl⟩ (.cons ru .nil), ⟨_, hT2, rfl, _, rfl⟩⟩
    have I1 : Inv X pins σ (upd H s.heap.objs.size (.tup [.int (i : Nat), x])) { s with heap := h'', toks := tk + 1 } :=
      I.turnedNew (ch := [e, it]) (fun b ob hb q => (sb.2 b (fun z => hb (by simp [z]))).trans (hk b ob (fun z => hb (by simp [z])) (fun z => hb (by simp [z])) q)) hf (Nat.le_refl _) new
    refine ⟨.ref s.heap.objs.size, _, I1, rfl, ⟨_, x, rfl, I.fresh, rfl, fun ys hy => by rw [I.tuple_inj hy hq]; exact hx⟩, ⟨⟨z, ?_⟩, hit'.1.at fun o q => (sb.2 it (Ne.symm hne)).trans q, hne, hai, hea⟩, fun b hb => ?_⟩
    · rw [show ((i + 1 : Nat) : Int) = (i : Int) + 1 by omega]; exact he'
    · have hb' : b < s.heap.objs.size := by
        rcases List.mem_cons.mp hb with rfl | hb
        · exact hel
        · rw [List.mem_singleton.mp hb]; exact hil
      rw [upd_ne (Nat.ne_of_lt hb')]
      exact (hf b hb).1
  done := by
    intro X hP hw hK hc i pins s σ H E I hf st hg
    subst hP hw hK
    obtain ⟨⟨old, he⟩, hit, hne, hai, hea⟩ := st
    obtain ⟨xs, hq, hx⟩ := hg
    obtain ⟨its, rv, ht, hz⟩ := I.tuple hq
    obtain ⟨f0, f1, f2, f3, f4, f5⟩ := hf it (by simp)
    have hl : i = its.toArray.size := by rw [List.size_toArray, ← rv.length]; exact hx.symm
    subst hl
    exact wpAny_pyNext_enum_endD (Draws.tuple (prog := X.prog) (w := X.w) (A := X.A.in1) (I.ok.hd hc) it a hai its.toArray) he ⟨hit, ht⟩ fun h' eb => ⟨rfl, I.turned (t' := s.toks) (fun b o hb q => eb b o hb q) f0 f1 f3 f4 f5⟩
  self := fun A i s Q E st h => let ⟨⟨_, he⟩, _⟩ := st; wpAny_pyIter_enum he h
section
variable {X : Cx} {Γ : Env} {a b e : Expr} {pos p tpos : Pos} {elts : List Expr} {kk : Nat}
def iEnumF (K : Frag) (ta : TA) : TI := fun σ H R => ta σ H fun vs H1 => ∃ t xs, vs = [.ref t] ∧ SqT K H1 t xs ∧ R (Iet K t) H1
theorem pi_enumT {ta : TA} (B : Blt X "enumerate" (.type "enumerate")) (ha : PA X [e] ta) (hs : starEach [e] X.env = [(false, eval e X.env)] := by rfl) : PI X (.Tuple elts kk tpos) (.Call (.Name "enumerate" p) [e] [] pos) (iEnumF X.K ta) := by
  refine ⟨fun pins s σ H R I h => Call_ (ld_blt I B.g B.m B.b (PyProof.Rows.callWith_type1 (thn (ha.run pos pins s σ H _ I h) fun us s1 ⟨vs, H1, I1, r1, q1⟩ => ?_) hs rfl))⟩
  obtain ⟨t, xs, rfl, hq, q⟩ := q1
  obtain ⟨u, rfl, ru⟩ := Vals.one r1
  cases ru
  obtain ⟨its, rv, ht, hz⟩ := I1.tuple hq
  refine call_enumT ht fun h' he hit hk => wpAny_pyIter_enum he ?_
  have I2 : Inv X pins σ H1 { s1 with heap := h' } := I1.kept (t' := s1.toks) hk
  have lt : t < s1.heap.objs.size := by obtain ⟨o, ho, _⟩ := ht; exact Heap.lt_size ho
  refine ⟨s1.heap.objs.size + 1, [s1.heap.objs.size + 1, s1.heap.objs.size], _, _, H1, rfl, I2, turn_enumT t (s1.heap.objs.size + 1) s1.heap.objs.size, ⟨⟨.none, he⟩, hit, Nat.succ_ne_self _, Nat.ne_of_lt lt, Nat.ne_of_gt (Nat.lt_succ_of_lt lt)⟩, fun b hb => ?_, q⟩
  have hle : s1.heap.objs.size ≤ b := by
    rcases List.mem_cons.mp hb with rfl | hb
    · exact Nat.le_succ _
    · rw [List.mem_singleton.mp hb]; exact Nat.le_refl _
  exact I1.fpOk hle (I1.hok.fresh hle)
/-- the items with their numbers -/
def enumD (ds : List D) : List (D × D) := (List.range ds.length).map fun (k : Nat) => (PyData.int (k : Int), ds.getD k .none)
theorem enumD_len (ds : List D) : (enumD ds).length = ds.length := by unfold enumD; rw [List.length_map, List.length_range]
theorem enumD_get {ds : List D} {k : Nat} {d : D} (h : ds[k]? = some d) : (enumD ds)[k]? = some (.int (k : Int), d) := by
  have hk : k < ds.length := (List.getElem?_eq_some_iff.mp h).1
  unfold enumD
  rw [List.getElem?_map, List.getElem?_range hk]
  show some (PyData.int (k : Int), ds.getD k .none) = _
  rw [getD_of h]
theorem di_enumT {ds : List D} (B : Blt X "enumerate" (.type "enumerate")) (h : DE X e Γ (.tuple ds)) (hs : starEach [e] X.env = [(false, eval e X.env)] := by rfl) : DIP X (.Tuple elts kk tpos) (.Call (.Name "enumerate" p) [e] [] pos) Γ (enumD ds) :=
  pi_weak (pi_enumT B (da_one h hs) hs) fun σ H R ⟨H0, F, st, q⟩ => ⟨H0, F, st, fun vs F1 H1 g ok => by
    obtain ⟨v, rfl, hv⟩ := dda_one ok
    cases hv with
    | @tup t ob us _ hh hn hd =>
      have sq : ∀ {H}, Same F1 H → SqT X.K H t us := fun s => .inl (.inr ⟨_, s _ _ hh⟩)
      refine ⟨t, us, rfl, sq g.s, q _ F1 H1 g ⟨fun k H s hk => ?_, fun H s => ?_, fun k H x H' s hk y => ?_⟩⟩
      · rw [enumD_len] at hk
        obtain ⟨v, ev, _⟩ := dda_get hd (List.getElem?_eq_getElem hk)
        exact ⟨us, v, sq s, ev⟩
      · rw [enumD_len]; exact ⟨us, sq s, dda_length hd⟩
      · obtain ⟨T, y2, e1, hT, eH, hy⟩ := y
        obtain ⟨d, ed, hx⟩ := dda_getV hd (hy us (sq s))
        exact ⟨T, .int (k : Nat), y2, _, d, e1, hT, eH, enumD_get ed, .int _, hx⟩⟩
theorem di_enumL {ds : List D} (B : Blt X "enumerate" (.type "enumerate")) (h : DE X e Γ (.list ds)) (hs : starEach [e] X.env = [(false, eval e X.env)] := by rfl) : DIP X (.Tuple elts kk tpos) (.Call (.Name "enumerate" p) [e] [] pos) Γ (enumD ds) :=
  pi_weak (pi_enum B.g B.m (da_one h hs) hs) fun σ H R ⟨H0, F, st, q⟩ => ⟨H0, F, st, fun vs F1 H1 g ok => by
    obtain ⟨v, rfl, hv⟩ := dda_one ok
    cases hv with
    | @lst t us _ hh hd =>
      refine ⟨t, us, rfl, SqL.of (g.s _ _ hh), q _ F1 H1 g ⟨fun k H s hk => ?_, fun H s => ?_, fun k H x H' s hk y => ?_⟩⟩
      · rw [enumD_len] at hk
        obtain ⟨v, ev, _⟩ := dda_get hd (List.getElem?_eq_getElem hk)
        exact ⟨us, v, SqL.of (s _ _ hh), ev⟩
      · rw [enumD_len]; exact ⟨us, SqL.of (s _ _ hh), Nat.le_of_eq (dda_length hd)⟩
      · obtain ⟨T, y2, e1, hT, eH, hy⟩ := y
        obtain ⟨d, ed, hx⟩ := dda_getV hd (hy us (SqL.of (s _ _ hh)))
        exact ⟨T, .int (k : Nat), y2, _, d, e1, hT, eH, enumD_get ed, .int _, hx⟩⟩
end
end DL
namespace DL
open PySem L2
/-! ### loops and comprehensions over Lean lists -/
theorem Wk.congr {K : Frag} {J : It} {g : TG} {n m : Nat} {F : Hp} {Y Z : Nat → Env → Env} {ts : List Nat} (w : Wk K J g n F Y ts) (e : n = m) (h : ∀ k, k < n → ∀ Γ, Y k Γ = Z k Γ) : Wk K J g m F Z ts := by
  subst e
  exact ⟨w.go, w.stop, fun k H s hk x H' y H0 F1 Γ σ st sF Q q => w.asg k H s hk x H' y H0 F1 Γ σ st sF Q fun σ' F' H'' g' st' => q σ' F' H'' g' (h k hk Γ ▸ st')⟩
theorem DI.congr {X : Cx} {tg iter : Expr} {Γ : Env} {g : TG} {n m : Nat} {Y Z : Nat → Env → Env} {ts : List Nat} (d : DI X tg iter Γ g n Y ts) (e : n = m) (h : ∀ k, k < n → ∀ Γ, Y k Γ = Z k Γ) : DI X tg iter Γ g m Z ts :=
  pi_weak d fun σ H R ⟨H0, F, st, q⟩ => ⟨H0, F, st, fun J F' H' gr w => q J F' H' gr (w.congr e h)⟩
/-- at turn k the name i holds the k-th item -/
def y1 {α : Type} (i : Nat) (g : α → D) (xs : List α) (z : α) (k : Nat) (Γ : Env) : Env := Γ.set i (some (.d (g (xs.getD k z))))
/-- .. the names i and j hold its parts -/
def y2 {α : Type} (i j : Nat) (g h : α → D) (xs : List α) (z : α) (k : Nat) (Γ : Env) : Env := (Γ.set i (some (.d (g (xs.getD k z))))).set j (some (.d (h (xs.getD k z))))
/-- .. the name i holds lo + k -/
def yr (i : Nat) (lo : Int) (k : Nat) (Γ : Env) : Env := Γ.set i (some (.d (.int (lo + (k : Nat)))))
/-- .. the name i holds k, j the k-th item -/
def ye {α : Type} (i j : Nat) (g : α → D) (xs : List α) (z : α) (k : Nat) (Γ : Env) : Env := (Γ.set i (some (.d (.int (k : Nat))))).set j (some (.d (g (xs.getD k z))))
theorem getD_mem {α : Type} {xs : List α} {k : Nat} (z : α) (h : k < xs.length) : xs.getD k z ∈ xs := by rw [getD_of (List.getElem?_eq_getElem h)]; exact List.getElem_mem h
theorem getD_eq {α : Type} {xs : List α} {k : Nat} (z : α) (h : k < xs.length) : xs.getD k z = xs[k] := getD_of (List.getElem?_eq_getElem h)
section
variable {X : Cx} {Γ : Env} {tg iter e a b : Expr} {pos p : Pos} {α : Type} {g h : α → D} {xs : List α}
theorem DIS.nm (d : DIS X tg iter Γ (xs.map g)) (i : Nat) (z : α) : DI X tg iter Γ (gName i) xs.length (y1 i g xs z) [i] := (DIS.name d i).congr (List.length_map ..) fun k hk Γ => by
  rw [List.length_map] at hk
  unfold it1 y1
  rw [getD_map hk, getD_eq z hk]
theorem DIS.nr {lo : Int} {n : Nat} (d : DIS X tg iter Γ (rng lo n)) (i : Nat) : DI X tg iter Γ (gName i) n (yr i lo) [i] := (DIS.name d i).congr (rng_len lo n) fun k hk Γ => by
  rw [rng_len] at hk
  unfold it1 yr
  rw [getD_of (rng_get hk)]
theorem DIS.tm (d : DIS X tg iter Γ (xs.map fun x => .tuple [g x, h x])) (i j : Nat) (z : α) : DI X tg iter Γ (gTwo X.K i j) xs.length (y2 i j g h xs z) [i, j] := by
  have e : (xs.map fun x => PyData.tuple [g x, h x]) = (xs.map fun x => (g x, h x)).map fun p => .tuple [p.1, p.2] := by rw [List.map_map]; rfl
  rw [e] at d
  refine (DIS.two d i j).congr (List.length_map ..) fun k hk Γ => ?_
  rw [List.length_map] at hk
  unfold it2 y2
  rw [getD_of (show (xs.map fun x => (g x, h x))[k]? = some (g xs[k], h xs[k]) by rw [List.getElem?_map, List.getElem?_eq_getElem hk]; rfl), getD_eq z hk]
theorem DIP.em (d : DIP X tg iter Γ (enumD (xs.map g))) (i j : Nat) (z : α) : DI X tg iter Γ (gTwo X.K i j) xs.length (ye i j g xs z) [i, j] := by
  refine (DIP.two d i j).congr (by rw [enumD_len, List.length_map]) fun k hk Γ => ?_
  rw [enumD_len, List.length_map] at hk
  unfold it2 ye
  rw [getD_of (enumD_get (show (xs.map g)[k]? = some (g xs[k]) by rw [List.getElem?_map, List.getElem?_eq_getElem hk]; rfl)), getD_eq z hk]
end
section
variable {X : Cx} {Γ : Env} {tg iter elt : Expr} {ifs : List Expr} {scope : Scope} {own : List (Str × Nat)} {pos : Pos} {g : TG} {n : Nat} {Y : Nat → Env → Env} {ts : List Nat}
theorem acc_rng {β : Type} (h : β → D) (p : Nat → Bool) (f : Nat → β) : (((((List.range 0).filter p).map f).map h) = []) ∧ ∀ k, ((((List.range (k + 1)).filter p).map f).map h) = if p k = true then (((List.range k).filter p).map f).map h ++ [h (f k)] else (((List.range k).filter p).map f).map h := by
  refine ⟨rfl, fun k => ?_⟩
  rw [List.range_succ, List.filter_append, List.map_append, List.map_append]
  cases e : p k with
  | true => simp [e]
  | false => simp [e]
/-- [elt for .. in ..]: by the turn's number -/
theorem dv_lcr {β : Type} (h : β → D) (p : Nat → Bool) (f : Nat → β) (L : LcOk X Γ tg iter elt ifs scope own g n Y ts p (fun k => h (f k))) (hz : n ≤ sizeLine) (nd : X.N.Nodup) (hc : X.calm = true := by rfl) (hs : ∀ x, foldedSetIterable iter X.env x = pure x := by intro _; rfl) :
    DV X (.ListComp elt [⟨tg, iter, ifs, 0⟩] scope pos) Γ (.own ((((List.range n).filter p).map f).map h)) :=
  dv_lcG L (fun k => (((List.range k).filter p).map f).map h) (acc_rng h p f).1 (fun k _ => (acc_rng h p f).2 k) hz hc nd hs
theorem ds_lcr {β : Type} {y : Str} {py spos : Pos} {O : Outs} (l : Nat) (h : β → D) (p : Nat → Bool) (f : Nat → β) (L : LcOk X Γ tg iter elt ifs scope own g n Y ts p (fun k => h (f k))) (hz : n ≤ sizeLine) (hn : O.nx (Γ.set l (some (.own ((((List.range n).filter p).map f).map h))))) (nd : X.N.Nodup) (hc : X.calm = true := by rfl)
    (hy : X.N[l]? = some y := by rfl) (hyl : X.env.scope.names.lookup y = some .local := by rfl) (hsw : swapsWith (.ListComp elt [⟨tg, iter, ifs, 0⟩] scope pos) (some (.Name y py)) spos.line X.env = pure true := by exact sw_true rfl rfl rfl (by decide +kernel)) (hs : ∀ x, foldedSetIterable iter X.env x = pure x := by intro _; rfl) : DS X (.Assign [.Name y py] (.ListComp elt [⟨tg, iter, ifs, 0⟩] scope pos) spos) Γ O :=
  ds_lcG L (fun k => (((List.range k).filter p).map f).map h) (acc_rng h p f).1 (fun k _ => (acc_rng h p f).2 k) hz hn hc nd hy hyl hsw hs
theorem rng_getD {α β : Type} (xs : List α) (z : α) (p : α → Bool) (f : α → β) : ((List.range xs.length).filter fun k => p (xs.getD k z)).map (fun k => f (xs.getD k z)) = (xs.filter p).map f := by
  have e : xs = (List.range xs.length).map fun k => xs.getD k z := by
    refine List.ext_getElem (by rw [List.length_map, List.length_range]) fun i h1 h2 => ?_
    rw [List.getElem_map, List.getElem_range, getD_eq z h1]
  have e2 : (xs.filter p).map f = (((List.range xs.length).map fun k => xs.getD k z).filter p).map f := by rw [← e]
  rw [e2, List.filter_map, List.map_map]; rfl
/-- [elt for x in xs ..] over a Lean list -/
theorem dv_lcm {α β : Type} {xs : List α} (h : β → D) (z : α) (p : α → Bool) (f : α → β) (L : LcOk X Γ tg iter elt ifs scope own g xs.length Y ts (fun k => p (xs.getD k z)) (fun k => h (f (xs.getD k z)))) (hz : xs.length ≤ sizeLine) (nd : X.N.Nodup) (hc : X.calm = true := by rfl) (hs : ∀ x, foldedSetIterable iter X.env x = pure x := by intro _; rfl) :
    DV X (.ListComp elt [⟨tg, iter, ifs, 0⟩] scope pos) Γ (.own (((xs.filter p).map f).map h)) := by
  have q := dv_lcr (pos := pos) h (fun k => p (xs.getD k z)) (fun k => f (xs.getD k z)) L hz nd hc hs
  rw [rng_getD] at q
  exact q
theorem ds_lcm {α β : Type} {xs : List α} {y : Str} {py spos : Pos} {O : Outs} (l : Nat) (h : β → D) (z : α) (p : α → Bool) (f : α → β) (L : LcOk X Γ tg iter elt ifs scope own g xs.length Y ts (fun k => p (xs.getD k z)) (fun k => h (f (xs.getD k z)))) (hz : xs.length ≤ sizeLine) (hn : O.nx (Γ.set l (some (.own (((xs.filter p).map f).map h))))) (nd : X.N.Nodup) (hc : X.calm = true := by rfl)
    (hy : X.N[l]? = some y := by rfl) (hyl : X.env.scope.names.lookup y = some .local := by rfl) (hsw : swapsWith (.ListComp elt [⟨tg, iter, ifs, 0⟩] scope pos) (some (.Name y py)) spos.line X.env = pure true := by exact sw_true rfl rfl rfl (by decide +kernel)) (hs : ∀ x, foldedSetIterable iter X.env x = pure x := by intro _; rfl) : DS X (.Assign [.Name y py] (.ListComp elt [⟨tg, iter, ifs, 0⟩] scope pos) spos) Γ O :=
  ds_lcr l h (fun k => p (xs.getD k z)) (fun k => f (xs.getD k z)) L hz (by rw [rng_getD]; exact hn) nd hc hy hyl hsw hs
theorem filter_yes {α : Type} (l : List α) : l.filter (fun _ => true) = l := List.filter_eq_self.mpr fun _ _ => rfl
end
end DL
namespace DL
open PySem L2
/-- a test reads a name's own list -/
theorem dt_own {X : Cx} {Γ : Env} {c : Expr} {b : Bool} (i : Nat) {xs : List D} (h : Γ[i]? = some (some (.own xs))) (t : DT X c (Γ.set i (some (.d (.list xs)))) b) : DT X c Γ b := pt_weak t fun σ H Q ⟨H0, F, st, q⟩ => by
  obtain ⟨a, vs, hf, h0, hh, st'⟩ := st.frz h
  exact ⟨H0, _, st', fun F2 H2 g2 => q F H2 ⟨Same.refl _, (same_upd hf).trans (g2.f.trans g2.s), g2.h, fun _ _ z => z⟩⟩
end DL
namespace DL
open PySem L2
theorem dt_eq {X : Cx} {Γ : Env} {c : Expr} {b b' : Bool} (h : DT X c Γ b) (e : b = b') : DT X c Γ b' := e ▸ h
theorem dv_eq' {X : Cx} {Γ : Env} {c : Expr} {d d' : D} (h : DE X c Γ d) (e : d = d') : DE X c Γ d' := e ▸ h
end DL
namespace DL
open PySem L2
/-! ### slices of lists and tuples by plain numbers -/
section
variable {X : Cx} {Γ : Env} {a b c e : Expr} {pos p p2 : Pos} {i j : Int} {α : Type} {g : α → D} {xs ys : List α} {x y z : α}
theorem dv_fromL (n : Nat) (h : DE X a Γ (.list (xs.map g))) (hl : DE X b Γ (.int i)) (e : i = n := by omega) : DV X (.Subscript a (.Slice (some b) none none p2) pos) Γ (.own ((xs.drop n).map g)) := by
  have q := dv_slLm (pos := pos) (p2 := p2) h (do_some hl) do_none
  rw [cut_from e] at q
  exact q
theorem dv_toL (n : Nat) (h : DE X a Γ (.list (xs.map g))) (hl : DE X b Γ (.int i)) (e : i = n := by omega) : DV X (.Subscript a (.Slice none (some b) none p2) pos) Γ (.own ((xs.take n).map g)) := by
  have q := dv_slLm (pos := pos) (p2 := p2) h do_none (do_some hl)
  rw [cut_to e] at q
  exact q
theorem dv_midL (n m : Nat) (h : DE X a Γ (.list (xs.map g))) (hl : DE X b Γ (.int i)) (hu : DE X c Γ (.int j)) (e : i = n := by omega) (e2 : j = m := by omega) : DV X (.Subscript a (.Slice (some b) (some c) none p2) pos) Γ (.own (((xs.drop n).take (m - n)).map g)) := by
  have q := dv_slLm (pos := pos) (p2 := p2) h (do_some hl) (do_some hu)
  rw [cut_mid e e2] at q
  exact q
theorem dv_fromT (n : Nat) (h : DE X a Γ (.tuple (xs.map g))) (hl : DE X b Γ (.int i)) (e : i = n := by omega) : DE X (.Subscript a (.Slice (some b) none none p2) pos) Γ (.tuple ((xs.drop n).map g)) := by
  have q := dv_slTm (pos := pos) (p2 := p2) h (do_some hl) do_none
  rw [cut_from e] at q
  exact q
theorem dv_toT (n : Nat) (h : DE X a Γ (.tuple (xs.map g))) (hl : DE X b Γ (.int i)) (e : i = n := by omega) : DE X (.Subscript a (.Slice none (some b) none p2) pos) Γ (.tuple ((xs.take n).map g)) := by
  have q := dv_slTm (pos := pos) (p2 := p2) h do_none (do_some hl)
  rw [cut_to e] at q
  exact q
theorem dv_midT (n m : Nat) (h : DE X a Γ (.tuple (xs.map g))) (hl : DE X b Γ (.int i)) (hu : DE X c Γ (.int j)) (e : i = n := by omega) (e2 : j = m := by omega) : DE X (.Subscript a (.Slice (some b) (some c) none p2) pos) Γ (.tuple (((xs.drop n).take (m - n)).map g)) := by
  have q := dv_slTm (pos := pos) (p2 := p2) h (do_some hl) (do_some hu)
  rw [cut_mid e e2] at q
  exact q
/-- t[:-1] -/
theorem cut_init {l : List α} : cut l none (some (-1)) = l.dropLast := by
  unfold cut
  rw [HT.sIx_none]
  have e : HT.sIx l.length l.length (some (-1)) = l.length - 1 := by
    unfold HT.sIx
    first | (simp; omega) | (split <;> omega) | skip
  rw [e, List.drop_zero, Nat.sub_zero, List.dropLast_eq_take]
theorem dv_initT (h : DE X a Γ (.tuple (xs.map g))) (hl : DE X b Γ (.int (-1))) : DE X (.Subscript a (.Slice none (some b) none p2) pos) Γ (.tuple (xs.dropLast.map g)) := by
  have q := dv_slTm (pos := pos) (p2 := p2) h do_none (do_some hl)
  rw [cut_init] at q
  exact q
/-- the length, told of the Lean list -/
theorem dv_lenT (B : Blt X "len" (.builtin "len")) (h : DE X e Γ (.tuple (xs.map g))) (pl : Pl X e [] pos := by exact ⟨rfl, rfl⟩) : DE X (.Call (.Name "len" p) [e] [] pos) Γ (.int xs.length) := by
  have q := dv_len (p := p) (pos := pos) B h .t pl
  rw [List.length_map] at q
  exact q
theorem dv_lenL (B : Blt X "len" (.builtin "len")) (h : DE X e Γ (.list (xs.map g))) (pl : Pl X e [] pos := by exact ⟨rfl, rfl⟩) : DE X (.Call (.Name "len" p) [e] [] pos) Γ (.int xs.length) := by
  have q := dv_len (p := p) (pos := pos) B h .l pl
  rw [List.length_map] at q
  exact q
/-- items by plain numbers -/
theorem dv_atT (n : Nat) (z : α) (ha : DE X a Γ (.tuple (xs.map g))) (hb : DE X b Γ (.int i)) (h : n < xs.length) (e : i = n := by omega) (hs : PlainIx b := by exact fun _ _ => rfl) : DE X (.Subscript a b pos) Γ (g (xs.getD n z)) := by
  have q := dv_ixTm (pos := pos) z ha hb (by omega) hs
  rw [e, Int.toNat_natCast] at q
  exact q
theorem dv_atL (n : Nat) (z : α) (ha : DE X a Γ (.list (xs.map g))) (hb : DE X b Γ (.int i)) (h : n < xs.length) (e : i = n := by omega) (hs : PlainIx b := by exact fun _ _ => rfl) : DE X (.Subscript a b pos) Γ (g (xs.getD n z)) := by
  have q := dv_ixLm (pos := pos) z ha hb (by omega) hs
  rw [e, Int.toNat_natCast] at q
  exact q
end
/-! ### the scope of a comprehension, by its place -/
def scOf : Expr → Scope
  | .ListComp _ _ sc _ => sc
  | _ => ⟨.function, [], false, false, []⟩
def exN : Expr := .Constant .none 0 ⟨0, 0, 0, 0⟩
def argE (i : Nat) : Expr → Expr
  | .Call _ es _ _ => es.getD i exN
  | _ => exN
def eltE : Expr → Expr
  | .ListComp e _ _ _ => e
  | _ => exN
def leftE : Expr → Expr
  | .BinOp a _ _ _ => a
  | .Compare a _ _ _ => a
  | _ => exN
def rightE : Expr → Expr
  | .BinOp _ _ b _ => b
  | .Compare _ _ bs _ => bs.getD 0 exN
  | _ => exN
def valE : Stmt → Expr
  | .Assign _ e _ => e
  | .Return (some e) _ => e
  | _ => exN
def sPass : Stmt := .Pass ⟨0, 0, 0, 0⟩
def stN (i : Nat) (ss : List Stmt) : Stmt := ss.getD i sPass
def inFor : Stmt → List Stmt
  | .For _ _ b _ _ => b
  | .While _ b _ _ => b
  | .If _ b _ _ => b
  | _ => []
/-- sums of list items by their numbers -/
theorem sub_any {p : Option Sv} {q Γ : Env} {x : Option Sv} (h : Sub q Γ) (e : p = none ∨ p = x) : Sub (p :: q) (x :: Γ) := by
  rcases e with rfl | rfl
  · exact .any h
  · cases p with
    | none => exact .any h
    | some s => exact .eq rfl h
end DL
namespace DL
open PySem PySem.Spec PyProof.Rows L2
/-! ### a op b op c op d, as a test -/
section
variable {X : Cx} {Γ : Env} {a b c d e : Expr} {pos p : Pos}
def tChain3 (r r' r'' : R2) (ta tb tc td : TE) : TT := fun σ H Q => ta σ H fun x H1 => tb σ H1 fun y H2 => r x y H2 fun z H3 => ∃ k, z = .bl k ∧
  (if k = true then tc σ H3 fun w H4 => r' y w H4 fun z H5 => ∃ k, z = .bl k ∧ (if k = true then td σ H5 fun v H6 => r'' w v H6 fun z H7 => ∃ k, z = .bl k ∧ Q k H7 else Q false H5) else Q false H3)
theorem pt_chain3 {op op' op'' : CmpOp} {r r' r'' : R2} {ta tb tc td : TE} (ho : OpR X (compareOp op) r) (ho' : OpR X (compareOp op') r') (ho'' : OpR X (compareOp op'') r'') (ha : PE X a ta) (hb : PE X b tb) (hc : PE X c tc) (hd : PE X d td)
    (hm : lastMarks [op, op', op''] [b, c, d] = false := by with_unfolding_all rfl) : PT X (.Compare a [op, op', op''] [b, c, d] pos) (tChain3 r r' r'' ta tb tc td) := by
  refine ⟨fun pins s σ H Q I h => ?_⟩
  refine isTrue_chain (thn (ha.run pins s σ H _ I h) fun v s1 ⟨x, H1, I1, r1, q1⟩ => test_link (thn (hb.run pins s1 σ H1 _ I1 q1) fun u s2 ⟨y, H2, I2, r2, q2⟩ =>
    thn (ho pins s2 σ H2 x y v u _ I2 r1 r2 q2) fun dd s3 ⟨z, H3, I3, r3, k, e, q3⟩ => ?_)) hm
  subst e
  cases r3
  refine wpAny_truthy_bool ?_
  cases k with
  | false => exact ite_ff ⟨H3, I3, q3⟩
  | true =>
    refine ite_tt (test_link (thn (hc.run pins s3 σ H3 _ I3 q3) fun w' s4 ⟨z', H4, I4, r4, q4⟩ => thn (ho' pins s4 σ H4 y z' u w' _ I4 r2 r4 q4) fun d' s5 ⟨z2, H5, I5, r5, k2, e2, q5⟩ => ?_))
    subst e2
    cases r5
    refine wpAny_truthy_bool ?_
    cases k2 with
    | false => exact ite_ff ⟨H5, I5, q5⟩
    | true =>
      refine ite_tt (test_last (thn (hd.run pins s5 σ H5 _ I5 q5) fun w2 s6 ⟨z3, H6, I6, r6, q6⟩ => thn (ho'' pins s6 σ H6 z' z3 w' w2 _ I6 r4 r6 q6) fun d2 s7 ⟨z4, H7, I7, r7, k3, e3, q7⟩ => ?_))
      subst e3
      cases r7
      exact wpAny_truthy_bool ⟨H7, I7, q7⟩
theorem dt_ch3 {op op' op'' : CmpOp} {d1 d2 d3 d4 : D} {k l m : Bool} (h : Cmp X op d1 d2 k) (h' : Cmp X op' d2 d3 l) (h'' : Cmp X op'' d3 d4 m) (ha : DE X a Γ d1) (hb : DE X b Γ d2) (hc : DE X c Γ d3) (hd : DE X d Γ d4) (hm : lastMarks [op, op', op''] [b, c, d] = false := by with_unfolding_all rfl) : DT X (.Compare a [op, op', op''] [b, c, d] pos) Γ (k && (l && m)) := by
  obtain ⟨r, ho, hr⟩ := h
  obtain ⟨r', ho', hr'⟩ := h'
  obtain ⟨r'', ho'', hr''⟩ := h''
  refine pt_weak (pt_chain3 ho ho' ho'' ha hb hc hd hm) fun σ H Q ⟨H0, F, st, q⟩ => ?_
  refine ⟨H0, F, st, fun v F1 H1 g1 ok1 => ⟨H0, F1, st.gr g1, fun u F2 H2 g2 ok2 => hr F2 H2 v u g2.s (dd_mono g2.f ok1) ok2 _ fun z F3 H3 g3 ok3 => ?_⟩⟩
  cases ok3
  refine ⟨k, rfl, ?_⟩
  have g := (g1.trans g2).trans g3
  cases k with
  | true =>
    refine ⟨H0, F3, st.gr g, fun w F4 H4 g4 ok4 => hr' F4 H4 u w g4.s (dd_mono (g3.trans g4).f ok2) ok4 _ fun z F5 H5 g5 ok5 => ?_⟩
    cases ok5
    refine ⟨l, rfl, ?_⟩
    have g' := (g.trans g4).trans g5
    cases l with
    | true =>
      refine ⟨H0, F5, st.gr g', fun w2 F6 H6 g6 ok6 => hr'' F6 H6 w w2 g6.s (dd_mono (g5.trans g6).f ok4) ok6 _ fun z F7 H7 g7 ok7 => ?_⟩
      cases ok7
      exact ⟨m, rfl, q F7 H7 ((g'.trans g6).trans g7)⟩
    | false => exact q F5 H5 g'
  | false => exact q F3 H3 g
/-! ### tuple of a text -/
def sgns (z : Str) : List Str := z.cps.toList.map fun c => ⟨#[c]⟩
theorem vals_sgns {z : Str} {acc : Array Value} (h : ItemsOf (SignAt z) acc z.cps.size) : Vals ((sgns z).map V.str) acc.toList := by
  obtain ⟨hs, hi⟩ := h
  have key : ∀ (xs : List V) (vs : List Value), xs.length = vs.length → (∀ (j : Nat) (x : V) (v : Value), xs[j]? = some x → vs[j]? = some v → RelV x v) → Vals xs vs := by
    intro xs
    induction xs with
    | nil => intro vs hl _; cases vs with | nil => exact .nil | cons _ _ => cases hl
    | cons x xs ih =>
      intro vs hl hh
      cases vs with
      | nil => cases hl
      | cons v vs => exact .cons (hh 0 x v rfl rfl) (ih vs (by simpa using hl) fun j y u h1 h2 => hh (j + 1) y u (by simpa using h1) (by simpa using h2))
  refine key _ _ (by simp [sgns, hs]) fun j x v hx hv => ?_
  obtain ⟨c, u, hc, rfl⟩ := hi j v (by simpa using hv)
  unfold sgns at hx
  rw [List.getElem?_map, List.getElem?_map] at hx
  have : z.cps.toList[j]? = some c := by simpa using hc
  rw [this] at hx
  cases hx
  exact ⟨u, rfl⟩
theorem call_tupS (hc : X.calm = true) : CallR X (.type "tuple") (fun xs H Q => ∃ z : Str, xs = [.str z] ∧ z.cps.size ≤ sizeLine ∧ ∀ l o, H l = none → o.dict = none → Q (.ref l) (upd H l (.frz o (.tup ((sgns z).map V.str))))) := by
  intro pins s σ H xs us Q I r h
  obtain ⟨z, rfl, hz, k⟩ := h
  obtain ⟨u, rfl, rx⟩ := Vals.one r
  obtain ⟨t, rfl⟩ := rx
  refine call_tuple_str (I.ok.hd hc) z t (fun h' tk acc hk hacc => ?_) hz
  have I1 : Inv X pins σ H { s with heap := h', toks := tk } := I.kept hk
  have := vals_sgns hacc
  have e : acc.toList.toArray = acc := by simp
  have T := tup_laid I1 this (by rw [List.length_map]; unfold sgns; simpa using hz)
  rw [e] at T
  exact ⟨.ref h'.objs.size, _, T, rfl, k _ _ I1.fresh rfl⟩
theorem dv_tupS {z : Str} (B : Blt X "tuple" (.type "tuple")) (h : DE X e Γ (.str z)) (hz : z.cps.size ≤ sizeLine) (hc : X.calm = true := by rfl) (pl : Pl X e [] pos := by exact ⟨rfl, rfl⟩) : DE X (.Call (.Name "tuple" p) [e] [] pos) Γ (.tuple ((sgns z).map .str)) :=
  dv_ty1 (call_tupS hc) B (da_one h pl.1) (fun F H vs s h1 Q k => by
    obtain ⟨v, rfl, hv⟩ := dda_one h1
    cases hv
    exact ⟨_, rfl, hz, fun l o hl ho => k _ _ _ (Gr.new s hl) (dd_tup (s.free hl) ho (dda_ofStrs _))⟩) pl
end
/-! ### sorted texts -/
def leS (x y : Str) : Bool := !ltCps y.cps.toList x.cps.toList
section
variable {prog : Program} {w : World} {A : Around} {E : Value → Shared → Prop} {s : Shared}
theorem sorted_tupS {l : Addr} {vs : List Value} {ss : List Str} {Q : Value → Shared → Prop} (hl : s.heap.IsTuple l vs.toArray) (hS : StrsAre vs ss) (hL : vs.length ≤ sizeLine)
    (h : ∀ (h1 : Heap) (out : Array Value) (ss' : List Str), (∀ b o, s.heap.get? b = some o → h1.get? b = some o) → StrsAre out.toList ss' → ss'.Perm ss → sortedS ss' = true →
      Q (.ref h1.objs.size) { s with heap := sortedHeap (h1.push (seqObj "list" vs.toArray 0)) h1.objs.size vs out }) : wpAny (model prog w) A (call (.builtin "sorted") [.ref l]) Q E s := by
  obtain ⟨o, ho, hc, n, hd⟩ := hl
  refine Calls.call_function_entry kind_sorted plain_sorted entry_sorted (args_sorted1 _) ?_
  unfold Builtin.«sorted»
  refine wpAny_bind (m := checkCount "sorted" 1 1 _) (wpAny_pure ?_)
  refine wpAny_bind (wpAny_collect_seq l (.inr rfl) ho hc hd (fun h1 hk => ?_) (by simpa using hL))
  rw [show vs.toArray.toList = vs by simp]
  refine wpAny_bind (wpAny_newList ?_ hL)
  have hoL : (h1.push (seqObj "list" vs.toArray 0)).get? h1.objs.size = some (seqObj "list" vs.toArray 0) := Heap.get?_push_size _ rfl
  show wpAny _ _ _ _ _ { s with heap := h1.push (seqObj "list" vs.toArray 0) }
  refine wpAny_bind (wpAny_holding (wpAny_call_entry slot_list_sort ⟨_, hoL, rfl⟩ entry_list_sort (list_sort_treeKAny strKind_oneLt hoL hS.keysOf (fun v₁ v₂ rest e => keyKind_strs (by rw [← e]; exact hS)) hL fun st' a1 a2 => ⟨_, rfl, ?_⟩) (args_list_sort _)))
  obtain ⟨ss', k1, k2, k3⟩ := sorted_out_str hS a1 a2
  exact wpAny_pure ⟨_, rfl, h h1 _ ss' hk k1 k2 k3⟩
end
section
variable {X : Cx} {Γ : Env} {e : Expr} {pos p : Pos}
def rSortT (K : Frag) : List V → Hp → VK → Prop := fun vs H Q => ∃ (a : Addr) (xs : List Str), vs = [V.ref a] ∧ SqT K H a (xs.map V.str) ∧
  ∀ (ys : List Str) (p : Addr), ys.Perm xs → sortedS ys = true → H p = none → Q (.ref p) (upd H p (.lst (ys.map V.str)))
theorem cr_sortT : CallR X (.builtin "sorted") (rSortT X.K) := by
  intro pins s σ H vs us Q I r h
  obtain ⟨a, xs, rfl, hs, q⟩ := h
  obtain ⟨its, rv, hl, hz⟩ := I.tuple hs
  rw [Vals.ref1 r]
  have hlen0 := rv.length
  refine sorted_tupS hl rv.strs (by omega) fun h1 out ys hk k1 k2 k3 => ?_
  have I1 : Inv X pins σ H { s with heap := h1 } := I.kept (t' := s.toks) hk
  have hoL : (h1.push (seqObj "list" its.toArray 0)).get? h1.objs.size = some (seqObj "list" its.toArray 0) := Heap.get?_push_size _ rfl
  obtain ⟨ep, he'⟩ := PyProof.Rows.sortedHeap_at (out := out) hoL
  have hlen : (ys.map V.str).length ≤ sizeLine := by rw [List.length_map, k2.length_eq]; rw [List.length_map] at hz; exact hz
  have hsz : (h1.push (seqObj "list" its.toArray 0)).objs.size = h1.objs.size + 1 := Heap.size_push ..
  refine ⟨.ref _, upd H h1.objs.size (.lst (ys.map V.str)), I1.laid (t' := s.toks) (fun b o e => ?_) (Nat.le_refl _) ⟨hlen, out.toList, ep, vals_of_strs k1, he'⟩, rfl, q ys _ k2 k3 I1.fresh⟩
  have hlt : b < h1.objs.size := Heap.lt_size e
  rw [PyProof.Rows.sortedHeap_old (Nat.ne_of_lt hlt) (by rw [hsz]; exact Nat.lt_succ_of_lt hlt)]
  exact Heap.get?_push_of_some _ e
theorem leS_iff {x y : Str} : leS x y = true ↔ x.cps.toList ≤ y.cps.toList := by
  unfold leS
  rw [ltCps_eq, Bool.not_eq_true', decide_eq_false_iff_not, List.not_lt]
theorem leS_trans {x y z : Str} (h1 : leS x y = true) (h2 : leS y z = true) : leS x z = true := leS_iff.mpr (List.le_trans (leS_iff.mp h1) (leS_iff.mp h2))
theorem leS_anti {x y : Str} (h1 : leS x y = true) (h2 : leS y x = true) : x = y := by
  have e := List.le_antisymm (leS_iff.mp h1) (leS_iff.mp h2)
  obtain ⟨⟨a⟩⟩ := x
  obtain ⟨⟨b⟩⟩ := y
  have e : a = b := e
  rw [e]
theorem leS_total (x y : Str) : (leS x y || leS y x) = true := by
  rw [Bool.or_eq_true, leS_iff, leS_iff]
  exact List.le_total _ _
theorem rising_pw : ∀ {p : Str} {l : List Str}, risingS p l = true → (∀ x ∈ l, leS p x = true) ∧ l.Pairwise fun x y => leS x y = true
  | p, [], _ => ⟨fun x h => (by cases h), .nil⟩
  | p, x :: r, h => by
    have h : (leS p x && risingS x r) = true := h
    rw [Bool.and_eq_true] at h
    obtain ⟨h1, h2⟩ := rising_pw h.2
    refine ⟨fun y hy => ?_, List.pairwise_cons.mpr ⟨h1, h2⟩⟩
    rcases List.mem_cons.mp hy with rfl | hy
    · exact h.1
    · exact leS_trans h.1 (h1 y hy)
theorem sortedS_pw {l : List Str} (h : sortedS l = true) : l.Pairwise fun x y => leS x y = true := by
  cases l with
  | nil => exact .nil
  | cons x r => exact List.pairwise_cons.mpr ⟨(rising_pw h).1, (rising_pw h).2⟩
/-- the texts in ascending order -/
def sortF (xs : List Str) : List Str := xs.mergeSort leS
theorem sortF_perm (xs : List Str) : (sortF xs).Perm xs := List.mergeSort_perm xs leS
theorem sortF_pw (xs : List Str) : (sortF xs).Pairwise fun x y => leS x y = true := List.pairwise_mergeSort (le := leS) (fun a b c => @leS_trans a b c) leS_total xs
/-- two rising lists of the same texts are equal -/
theorem pw_uniq {l m : List Str} (h : l.Perm m) (h1 : l.Pairwise fun x y => leS x y = true) (h2 : m.Pairwise fun x y => leS x y = true) : l = m := by
  induction l generalizing m with
  | nil => exact h.symm.eq_nil.symm
  | cons x l ih =>
    cases m with
    | nil => exact absurd h.eq_nil (by simp)
    | cons y m =>
      obtain ⟨a1, a2⟩ := List.pairwise_cons.mp h1
      obtain ⟨b1, b2⟩ := List.pairwise_cons.mp h2
      have e : x = y := by
        rcases List.mem_cons.mp (h.mem_iff.mp List.mem_cons_self) with e | hx
        · exact e
        · rcases List.mem_cons.mp (h.mem_iff.mpr List.mem_cons_self) with e | hy
          · exact e.symm
          · exact leS_anti (a1 y hy) (b1 x hx)
      subst e
      rw [ih h.cons_inv a2 b2]
theorem sortF_of {xs ys : List Str} (hp : ys.Perm xs) (hs : sortedS ys = true) : ys = sortF xs := pw_uniq (hp.trans (sortF_perm xs).symm) (sortedS_pw hs) (sortF_pw xs)
theorem dv_sortT {xs : List Str} (B : Blt X "sorted" (.builtin "sorted")) (h : DE X e Γ (.tuple (xs.map .str))) (pl : Pl X e [] pos := by exact ⟨rfl, rfl⟩) : DV X (.Call (.Name "sorted" p) [e] [] pos) Γ (.own ((sortF xs).map .str)) :=
  dv_bl1 cr_sortT B (da_one h pl.1) (fun F H vs s h1 Q k => by
    obtain ⟨v, rfl, hv⟩ := dda_one h1
    cases hv with
    | tup hh hn hd =>
      have e := dda_strs hd; subst e
      refine ⟨_, xs, rfl, .inl (.inr ⟨_, s _ _ hh⟩), fun ys l hp hs hl => ?_⟩
      rw [sortF_of hp hs]
      exact k _ _ _ (Gr.newO s hl) ⟨l, _, rfl, hl, s.free hl, upd_same, dda_ofStrs _⟩) pl
theorem dv_sortL {xs : List Str} (B : Blt X "sorted" (.builtin "sorted")) (h : DE X e Γ (.list (xs.map .str))) (hz : xs.length < 64) (pl : Pl X e [] pos := by exact ⟨rfl, rfl⟩) : DV X (.Call (.Name "sorted" p) [e] [] pos) Γ (.own ((sortF xs).map .str)) :=
  dv_bl1 cr_sortedS B (da_one h pl.1) (fun F H vs s h1 Q k => by
    obtain ⟨v, rfl, hv⟩ := dda_one h1
    cases hv with
    | lst hh hd =>
      have e := dda_strs hd; subst e
      refine ⟨_, xs, rfl, SqL.of (s _ _ hh), hz, fun ys l hp hs hl => ?_⟩
      rw [sortF_of hp hs]
      exact k _ _ _ (Gr.newO s hl) ⟨l, _, rfl, hl, s.free hl, upd_same, dda_ofStrs _⟩) pl
end
/-! ### comprehensions of two clauses (all names hold frozen data) -/
def allD (Γ : Env) : Bool := Γ.all fun x => match x with | some s => s.isD | none => true
theorem allD_get {Γ : Env} (h : allD Γ = true) {i : Nat} {s : Sv} (e : Γ[i]? = some (some s)) : s.isD = true := by
  have := List.all_eq_true.mp h (some s) (List.mem_of_getElem? e)
  exact this
theorem StOk.onlyD {K : Frag} {H0 H1 F H F' H' : Hp} {Γ : Env} {σ : L2.St} (hD : allD Γ = true) (st : StOk K H0 F Γ σ H) (f : Same F F') (s : Same F' H') : StOk K H1 F' Γ σ H' := by
  refine ⟨s, st.len, fun i t e => ?_, fun i j t u a e1 e2 h1 => ?_⟩
  · obtain ⟨v, ev, ok⟩ := st.slot i t e
    exact ⟨v, ev, ok.frozen f (allD_get hD e)⟩
  · rw [allD_get hD e1] at h1; cases h1
section
variable {X : Cx} {Γ : Env} {tg iter tg1 iter1 elt : Expr} {ifs1 : List Expr} {scope : Scope} {own : List (Str × Nat)} {pos : Pos} {g g1 : TG} {n : Nat} {m : Nat → Nat} {Y : Nat → Env → Env} {Z : Nat → Nat → Env → Env} {ts ts1 vs1 : List Nat} {p : Nat → Nat → Bool} {f : Nat → Nat → D}
def acc2 (m : Nat → Nat) (p : Nat → Nat → Bool) (f : Nat → Nat → D) (k j : Nat) : List D := ((List.range k).flatMap fun k => ((List.range (m k)).filter (p k)).map (f k)) ++ ((List.range j).filter (p k)).map (f k)
theorem acc2_in (m : Nat → Nat) (p : Nat → Nat → Bool) (f : Nat → Nat → D) (k j : Nat) : acc2 m p f k (j + 1) = if p k j = true then acc2 m p f k j ++ [f k j] else acc2 m p f k j := by
  unfold acc2
  rw [List.range_succ, List.filter_append, List.map_append]
  cases e : p k j with
  | true => simp [e]
  | false => simp [e]
theorem acc2_out (m : Nat → Nat) (p : Nat → Nat → Bool) (f : Nat → Nat → D) (k : Nat) : acc2 m p f (k + 1) 0 = acc2 m p f k (m k) := by
  unfold acc2
  rw [List.range_succ, List.flatMap_append]; simp
theorem lc2_read {K : Frag} {σ : L2.St} {H : Hp} {Q : VK} {vs : List Nat} (hts : ∀ i ∈ ts, i ∈ vs) (hts1 : ∀ i ∈ ts1, i ∈ vs1) (hD : ∀ k, k < n → allD (Y k (wipeG Γ vs)) = true) (hz : ∀ k, k < n → ∀ j, j < m k → (acc2 m p f k j).length < sizeLine)
    (h : ∃ H0 F, StOk K H0 F Γ σ H ∧ ∀ v F' H', Gr F H F' H' → SvOk K H F' H' v (.own (acc2 m p f n 0)) → Q v H') :
    tLc2 (rdI K Γ g n Y ts) g (fun σ H Q => ∃ k, k < n ∧ rdT K (Y k (wipeG Γ vs)) true σ H Q) (fun σ H R => ∃ k, k < n ∧ rdI K (Y k (wipeG Γ vs)) g1 (m k) (Z k) ts1 σ H R) g1
      (fun σ H Q => ∃ k j, k < n ∧ j < m k ∧ rdT K (Z k j (wipeG (Y k (wipeG Γ vs)) vs1)) (p k j) σ H Q) (fun σ H Q => ∃ k j, k < n ∧ j < m k ∧ p k j = true ∧ rdV K (Z k j (wipeG (Y k (wipeG Γ vs)) vs1)) (.d (f k j)) σ H Q) vs vs1 σ H Q := by
  obtain ⟨H0, F, st, q⟩ := h
  refine ⟨H0, F, st, fun J F' H1 g1' w L hL => ?_⟩
  refine ⟨fun k mm H' => mm = n - k ∧ k ≤ n ∧ ∃ F1 us, Gr F' H1 F1 H' ∧ F1 L = none ∧ H' L = some (.lst us) ∧ DdAll F1 us (acc2 m p f k 0), ⟨n, by omega, Nat.zero_le _, F', [], ?_, g1'.s.free hL, upd_same, .nil⟩, ?_⟩
  · exact Gr.newO g1'.s hL
  rintro k mm H' ⟨rfl, hk, F1, us, g2, n2, h2, d2⟩
  have sH : Same F' H' := g2.f.trans g2.s
  by_cases hlt : k < n
  · refine .inr ⟨w.go k H' sH hlt, fun H5 => ∃ F5 us, Gr F' H1 F5 H5 ∧ F5 L = none ∧ H5 L = some (.lst us) ∧ DdAll F5 us (acc2 m p f (k + 1) 0), fun H5 ⟨F5, us, q5⟩ => ⟨n - (k + 1), by omega, rfl, hlt, F5, us, q5⟩, fun x H3 y => ?_⟩
    have stw : StOk K H0 F1 (wipeG Γ vs) (wipe σ vs) H' := (st.gr (g1'.trans g2)).wipe vs
    refine w.asg k H' sH hlt x H3 y H0 F1 _ _ stw g2.f _ fun σ4 F4 H4 g4 st4 e4 l4 => ⟨?_, ?_⟩
    · have : wipe σ4 vs = wipe (wipe σ vs) vs := wipe_eq l4 fun l hl => e4 l fun z => hl (hts l z)
      rw [this]
      exact wipe_eq (wipe_length σ vs) fun l hl => wipe_out hl
    · refine ⟨k, hlt, H0, F4, st4, fun F5 H5 g5 => iteT ?_⟩
      have G5 := (g2.trans g4).trans g5
      have n5 : F5 L = none := (g4.trans g5).n L (by rw [h2]; exact fun z => nomatch z) n2
      have h5 : H5 L = some (.lst us) := (g4.trans g5).h _ _ h2
      refine ⟨k, hlt, H0, F5, st4.gr g5, fun J1 F6 H6 g6 w1 => ?_⟩
      have n6 : F6 L = none := g6.n L (by rw [h5]; exact fun z => nomatch z) n5
      have st6 := (st4.gr g5).gr g6
      refine ⟨fun j kk H7 => kk = m k - j ∧ j ≤ m k ∧ ∃ F7 us, Gr F' H1 F7 H7 ∧ Same F6 F7 ∧ F7 L = none ∧ H7 L = some (.lst us) ∧ DdAll F7 us (acc2 m p f k j), ⟨m k, by omega, Nat.zero_le _, F6, us, G5.trans g6, Same.refl _, n6, g6.h _ _ h5, dda_mono ((g4.trans g5).trans g6).f d2⟩, ?_⟩
      rintro j kk H7 ⟨rfl, hj, F7, us7, g7, s7, n7, h7, d7⟩
      have sH7 : Same F6 H7 := s7.trans g7.s
      by_cases hjl : j < m k
      · refine .inr ⟨w1.go j H7 sH7 hjl, fun H8 => ∃ F8 us, Gr F' H1 F8 H8 ∧ Same F6 F8 ∧ F8 L = none ∧ H8 L = some (.lst us) ∧ DdAll F8 us (acc2 m p f k (j + 1)), fun H8 ⟨F8, us, q8⟩ => ⟨m k - (j + 1), by omega, rfl, hjl, F8, us, q8⟩, fun x8 H8 y8 => ?_⟩
        have st7 : StOk K H0 F7 (Y k (wipeG Γ vs)) σ4 H7 := st6.onlyD (hD k hlt) s7 g7.s
        refine w1.asg j H7 sH7 hjl x8 H8 y8 H0 F7 _ _ (st7.wipe vs1) s7 _ fun σ9 F9 H9 g9 st9 e9 l9 => ⟨?_, ?_⟩
        · have : wipe σ9 vs1 = wipe (wipe σ4 vs1) vs1 := wipe_eq l9 fun l hl => e9 l fun z => hl (hts1 l z)
          rw [this]
          exact wipe_eq (wipe_length σ4 vs1) fun l hl => wipe_out hl
        · refine ⟨k, j, hlt, hjl, H0, F9, st9, fun F10 H10 g10 => ?_⟩
          have G10 := (g7.trans g9).trans g10
          have n10 : F10 L = none := (g9.trans g10).n L (by rw [h7]; exact fun z => nomatch z) n7
          have h10 : H10 L = some (.lst us7) := (g9.trans g10).h _ _ h7
          cases e : p k j with
          | false => exact iteF ⟨F10, us7, G10, s7.trans (g9.trans g10).f, n10, h10, by rw [acc2_in, e, if_neg Bool.false_ne_true]; exact dda_mono (g9.trans g10).f d7⟩
          | true =>
            refine iteT ⟨k, j, hlt, hjl, e, H0, F10, st9.gr g10, fun v F11 H11 g11 ok => ?_⟩
            have n11 : F11 L = none := g11.n L (by rw [h10]; exact fun z => nomatch z) n10
            have G11 := G10.trans g11
            refine ⟨us7, g11.h _ _ h10, ?_, F11, us7 ++ [v], ⟨G11.f, fun b o eb => ?_, fun b o eb => ?_, G11.n⟩, s7.trans ((g9.trans g10).trans g11).f, n11, upd_same, ?_⟩
            · rw [dda_length d7]; exact hz k hlt j hjl
            · rw [upd_ne (ne_of_none eb n11)]; exact G11.s b o eb
            · rw [upd_ne (ne_of_none eb hL)]; exact G11.h b o eb
            · rw [acc2_in, e, if_pos rfl]
              exact dda_snoc (dda_mono ((g9.trans g10).trans g11).f d7) ok
      · have e : j = m k := by omega
        subst e
        exact .inl ⟨w1.stop H7 sH7, F7, us7, g7, n7, h7, by rw [acc2_out]; exact d7⟩
  · have e : k = n := by omega
    subst e
    exact .inl ⟨w.stop H' sH, q _ F1 H' (g1'.trans g2) ⟨L, us, rfl, g1'.h.free hL, n2, h2, d2⟩⟩
structure Lc2Ok (X : Cx) (Γ : Env) (tg iter tg1 iter1 elt : Expr) (ifs1 : List Expr) (scope : Scope) (own : List (Str × Nat)) (g g1 : TG) (n : Nat) (m : Nat → Nat) (Y : Nat → Env → Env) (Z : Nat → Nat → Env → Env) (ts ts1 vs1 : List Nat) (p : Nat → Nat → Bool) (f : Nat → Nat → D) : Prop where
  hi : DI X tg iter Γ g n Y ts
  ok : BlkOk X.N X.env.scope scope own
  hts : ∀ i ∈ ts, i ∈ own.map (·.2)
  hv : ∀ i ∈ vs1, i ∈ own.map (·.2)
  hts1 : ∀ i ∈ ts1, i ∈ vs1
  hD : ∀ k, k < n → allD (Y k (wipeG Γ (own.map (·.2)))) = true
  hg : Blk X scope fun X' => PG X' tg g
  hi1 : ∀ k, k < n → Blk X scope fun X' => DI X' tg1 iter1 (Y k (wipeG Γ (own.map (·.2)))) g1 (m k) (Z k) ts1
  hg1 : Blk X scope fun X' => PG X' tg1 g1
  ht : ∀ k, k < n → ∀ j, j < m k → Blk X scope fun X' => DTs X' ifs1 (Z k j (wipeG (Y k (wipeG Γ (own.map (·.2)))) vs1)) (p k j)
  he : ∀ k, k < n → ∀ j, j < m k → p k j = true → Blk X scope fun X' => DE X' elt (Z k j (wipeG (Y k (wipeG Γ (own.map (·.2)))) vs1)) (f k j)
theorem Lc2Ok.pe (L : Lc2Ok X Γ tg iter tg1 iter1 elt ifs1 scope own g g1 n m Y Z ts ts1 vs1 p f) (hc : X.calm = true) (nd : X.N.Nodup) (hs : ∀ x, foldedSetIterable iter X.env x = pure x) (hs1 : ∀ env x, foldedSetIterable iter1 env x = pure x) :
    PE X (.ListComp elt [⟨tg, iter, [], 0⟩, ⟨tg1, iter1, ifs1, 0⟩] scope pos) (tLc2 (rdI X.K Γ g n Y ts) g (fun σ H Q => ∃ k, k < n ∧ rdT X.K (Y k (wipeG Γ (own.map (·.2)))) true σ H Q) (fun σ H R => ∃ k, k < n ∧ rdI X.K (Y k (wipeG Γ (own.map (·.2)))) g1 (m k) (Z k) ts1 σ H R) g1
      (fun σ H Q => ∃ k j, k < n ∧ j < m k ∧ rdT X.K (Z k j (wipeG (Y k (wipeG Γ (own.map (·.2)))) vs1)) (p k j) σ H Q) (fun σ H Q => ∃ k j, k < n ∧ j < m k ∧ p k j = true ∧ rdV X.K (Z k j (wipeG (Y k (wipeG Γ (own.map (·.2)))) vs1)) (.d (f k j)) σ H Q) (own.map (·.2)) vs1) :=
  pe_lc2 hc nd L.hi L.ok L.hv L.hg (fun s H C cl fp => ⟨fun pins s' σ H' Q I ⟨k, hk, q⟩ => (dts_nil (Γ := Y k (wipeG Γ (own.map (·.2))))).run pins s' σ H' Q I q⟩) (fun s H C cl fp => ⟨fun pins s' σ H' Q I ⟨k, hk, q⟩ => (L.hi1 k hk s H C cl fp).run pins s' σ H' Q I q⟩) L.hg1
    (fun s H C cl fp => ⟨fun pins s' σ H' Q I ⟨k, j, hk, hj, q⟩ => (L.ht k hk j hj s H C cl fp).run pins s' σ H' Q I q⟩) (fun s H C cl fp => ⟨fun pins s' σ H' Q I ⟨k, j, hk, hj, e, q⟩ => (L.he k hk j hj e s H C cl fp).run pins s' σ H' Q I q⟩) hs hs1
theorem dv_lc2 (L : Lc2Ok X Γ tg iter tg1 iter1 elt ifs1 scope own g g1 n m Y Z ts ts1 vs1 p f) (hz : ∀ k, k < n → ∀ j, j < m k → (acc2 m p f k j).length < sizeLine) (nd : X.N.Nodup) (hc : X.calm = true := by rfl) (hs : ∀ x, foldedSetIterable iter X.env x = pure x := by intro _; rfl) (hs1 : ∀ env x, foldedSetIterable iter1 env x = pure x := by intro _ _; rfl) :
    DV X (.ListComp elt [⟨tg, iter, [], 0⟩, ⟨tg1, iter1, ifs1, 0⟩] scope pos) Γ (.own (acc2 m p f n 0)) :=
  pe_weak (L.pe hc nd hs hs1) fun σ H Q h => lc2_read L.hts L.hts1 L.hD hz h
theorem ds_lc2 {i : Nat} {y : Str} {py spos : Pos} {O : Outs} (L : Lc2Ok X Γ tg iter tg1 iter1 elt ifs1 scope own g g1 n m Y Z ts ts1 vs1 p f) (hz : ∀ k, k < n → ∀ j, j < m k → (acc2 m p f k j).length < sizeLine) (hn : O.nx (Γ.set i (some (.own (acc2 m p f n 0))))) (nd : X.N.Nodup) (hc : X.calm = true := by rfl)
    (hy : X.N[i]? = some y := by rfl) (hyl : X.env.scope.names.lookup y = some .local := by rfl) (hsw : swapsWith (.ListComp elt [⟨tg, iter, [], 0⟩, ⟨tg1, iter1, ifs1, 0⟩] scope pos) (some (.Name y py)) spos.line X.env = pure true := by exact sw_true rfl rfl rfl (by decide +kernel)) (hs : ∀ x, foldedSetIterable iter X.env x = pure x := by intro _; rfl) (hs1 : ∀ env x, foldedSetIterable iter1 env x = pure x := by intro _ _; rfl) :
    DS X (.Assign [.Name y py] (.ListComp elt [⟨tg, iter, [], 0⟩, ⟨tg1, iter1, ifs1, 0⟩] scope pos) spos) Γ O :=
  ps_weak (ps_setLc2 (wi1 := fun σ H R => ∃ k, k < n ∧ rdI X.K (Y k (wipeG Γ (own.map (·.2)))) g1 (m k) (Z k) ts1 σ H R) (tt := fun σ H Q => ∃ k, k < n ∧ rdT X.K (Y k (wipeG Γ (own.map (·.2)))) true σ H Q) (tt1 := fun σ H Q => ∃ k j, k < n ∧ j < m k ∧ rdT X.K (Z k j (wipeG (Y k (wipeG Γ (own.map (·.2)))) vs1)) (p k j) σ H Q) (te := fun σ H Q => ∃ k j, k < n ∧ j < m k ∧ p k j = true ∧ rdV X.K (Z k j (wipeG (Y k (wipeG Γ (own.map (·.2)))) vs1)) (.d (f k j)) σ H Q) hc nd hy hyl hsw L.hi L.ok L.hv L.hg (fun s H C cl fp => ⟨fun pins s' σ H' Q I ⟨k, hk, q⟩ => (dts_nil (Γ := Y k (wipeG Γ (own.map (·.2))))).run pins s' σ H' Q I q⟩) (fun s H C cl fp => ⟨fun pins s' σ H' Q I ⟨k, hk, q⟩ => (L.hi1 k hk s H C cl fp).run pins s' σ H' Q I q⟩) L.hg1
    (fun s H C cl fp => ⟨fun pins s' σ H' Q I ⟨k, j, hk, hj, q⟩ => (L.ht k hk j hj s H C cl fp).run pins s' σ H' Q I q⟩) (fun s H C cl fp => ⟨fun pins s' σ H' Q I ⟨k, j, hk, hj, e, q⟩ => (L.he k hk j hj e s H C cl fp).run pins s' σ H' Q I q⟩) hs hs1)
    fun T σ H ⟨F0, H0, F, G, st, P⟩ => lc2_read L.hts L.hts1 L.hD hz ⟨H0, F, st, fun v F' H' g' ok => P.nx _ F' _ H' hn (G.trans g') (st.put g' G.h i ok)⟩
end
theorem di_seq {X : Cx} {Γ : Env} {tg e : Expr} {v : D} {ds : List D} (h : DE X e Γ v) (q : IsSeq v ds) : DIS X tg e Γ ds := by
  rcases q with rfl | rfl
  · exact di_list h
  · exact di_tup h
end DL
namespace DL
open PySem L2
/-! ### an expression reads a name's own list and hands back data without lists -/
mutual
def noL : D → Bool
  | .list _ => false
  | .tuple ds => noLs ds
  | .dict _ => false
  | _ => true
def noLs : List D → Bool
  | [] => true
  | d :: ds => noL d && noLs ds
end
def delF (F : Hp) (a : Addr) : Hp := fun b => if b = a then none else F b
theorem delF_ne {F : Hp} {a b : Addr} (h : b ≠ a) : delF F a b = F b := if_neg h
theorem delF_same {F : Hp} {a : Addr} : delF F a a = none := if_pos rfl
mutual
theorem dd_del {F : Hp} {a : Addr} {us : List V} (h : F a = some (.lst us)) : ∀ {v : V} {d : D}, noL d = true → Dd F v d → Dd (delF F a) v d
  | _, _, _, .non => .non
  | _, _, _, .bl b => .bl b
  | _, _, _, .int i => .int i
  | _, _, _, .str x => .str x
  | _, _, n, .lst _ _ => by cases n
  | _, _, n, .tup (a := t) hh hn q => .tup (by rw [delF_ne fun e => by rw [e, h] at hh; cases hh]; exact hh) hn (dda_del h n q)
theorem dda_del {F : Hp} {a : Addr} {us : List V} (h : F a = some (.lst us)) : ∀ {vs : List V} {ds : List D}, noLs ds = true → DdAll F vs ds → DdAll (delF F a) vs ds
  | _, _, _, .nil => .nil
  | _, _, n, .cons q r => by
    have n : (noL _ && noLs _) = true := n
    rw [Bool.and_eq_true] at n
    exact .cons (dd_del h n.1 q) (dda_del h n.2 r)
end
theorem noLs_map {α : Type} {g : α → D} (h : ∀ x, noL (g x) = true) : ∀ xs : List α, noLs (xs.map g) = true
  | [] => rfl
  | x :: r => by show (noL (g x) && noLs (r.map g)) = true; rw [h, noLs_map h r]; rfl
section
variable {X : Cx} {Γ : Env} {a b c e : Expr} {pos p : Pos}
theorem dv_own (i : Nat) {xs : List D} {r : D} (h : Γ[i]? = some (some (.own xs))) (t : DE X e (Γ.set i (some (.d (.list xs)))) r) (nl : noL r = true) : DE X e Γ r := pe_weak t fun σ H Q ⟨H0, F, st, q⟩ => by
  obtain ⟨a, vs, hf, h0, hh, st'⟩ := st.frz h
  refine ⟨H0, _, st', fun v F2 H2 g2 ok => ?_⟩
  have e2 : F2 a = some (.lst vs) := g2.f _ _ upd_same
  refine q v (delF F2 a) H2 ⟨fun b o eb => ?_, fun b o eb => ?_, g2.h, fun b h1 h2 => ?_⟩ (dd_del e2 nl ok)
  · have ne : b ≠ a := ne_of_none eb hf
    rw [delF_ne ne]
    exact g2.f _ _ (by rw [upd_ne ne]; exact eb)
  · have ne : b ≠ a := fun z => by rw [z, delF_same] at eb; cases eb
    rw [delF_ne ne] at eb
    exact g2.s _ _ eb
  · by_cases ne : b = a
    · rw [ne]; exact delF_same
    · rw [delF_ne ne]
      exact g2.n b h1 (by rw [upd_ne ne]; exact h2)
/-! ### ranges downwards -/
def rngD (lo : Int) (n : Nat) : List D := (List.range n).map fun k => PyData.int (lo - (k : Nat))
theorem rngD_len (lo : Int) (n : Nat) : (rngD lo n).length = n := by unfold rngD; rw [List.length_map, List.length_range]
theorem rngD_get {lo : Int} {n k : Nat} (h : k < n) : (rngD lo n)[k]? = some (.int (lo - k)) := by
  unfold rngD; rw [List.getElem?_map, List.getElem?_range h]; rfl
theorem da_three {e f g : Expr} {d d2 d3 : D} (h : DE X e Γ d) (h2 : DE X f Γ d2) (h3 : DE X g Γ d3) (hs : starEach [e, f, g] X.env = (false, eval e X.env) :: starEach [f, g] X.env := by rfl) (hs2 : starEach [f, g] X.env = (false, eval f X.env) :: starEach [g] X.env := by rfl) (hs3 : starEach [g] X.env = (false, eval g X.env) :: starEach [] X.env := by rfl) : DA X [e, f, g] Γ [d, d2, d3] := da_cons h (da_two h2 h3 hs2 hs3) hs
theorem dda_three {F : Hp} {vs : List V} {d d2 d3 : D} (h : DdAll F vs [d, d2, d3]) : ∃ v u w, vs = [v, u, w] ∧ Dd F v d ∧ Dd F u d2 ∧ Dd F w d3 := by
  cases h with
  | cons h q =>
    obtain ⟨u, w, rfl, h2, h3⟩ := dda_two q
    exact ⟨_, _, _, rfl, h, h2, h3⟩
theorem di_rngD {tg : Expr} {i j : Int} (B : Blt X "range" (.type "range")) (h : DE X a Γ (.int i)) (h' : DE X b Γ (.int j)) (h'' : DE X c Γ (.int (-1))) (h1 : -(2 ^ 62) ≤ i ∧ i < 2 ^ 62 ∧ -(2 ^ 62) ≤ j ∧ j < 2 ^ 62) (hs : starEach [a, b, c] X.env = (false, eval a X.env) :: starEach [b, c] X.env := by rfl) (hs2 : starEach [b, c] X.env = (false, eval b X.env) :: starEach [c] X.env := by rfl) (hs3 : starEach [c] X.env = (false, eval c X.env) :: starEach [] X.env := by rfl) (hpl : (backTo pos (starEach [b, c] X.env)).any (·.1) = false := by rfl) : DIS X tg (.Call (.Name "range" p) [a, b, c] [] pos) Γ (rngD i (i - j).toNat) :=
  pi_weak (pi_range3 B.g B.m (da_three h h' h'' hs hs2 hs3) hs hpl) fun σ H R ⟨H0, F, st, q⟩ => ⟨H0, F, st, fun vs F1 H1 g ok => by
    obtain ⟨v, u, w, rfl, hv, hu, hw⟩ := dda_three ok
    cases hv; cases hu; cases hw
    refine ⟨i, j, -1, (i - j).toNat, rfl, RgC.neg h1.1 h1.2.1 h1.2.2.1 h1.2.2.2, q _ F1 H1 g ⟨fun k H s h => by rw [rngD_len] at h; exact h, fun H s => by rw [rngD_len]; exact Nat.le_refl _, fun k H x H' s hk y => ?_⟩⟩
    rw [rngD_len] at hk
    obtain ⟨e, rfl⟩ := y
    refine ⟨e, _, rngD_get hk, ?_⟩
    rw [show i + (k : Nat) * (-1 : Int) = i - (k : Nat) by omega]
    exact .int _⟩
/-- at turn k the name i holds lo - k -/
def yd (i : Nat) (lo : Int) (k : Nat) (Γ : Env) : Env := Γ.set i (some (.d (.int (lo - (k : Nat)))))
theorem DIS.nd {tg iter : Expr} {lo : Int} {n : Nat} (d : DIS X tg iter Γ (rngD lo n)) (i : Nat) : DI X tg iter Γ (gName i) n (yd i lo) [i] := (DIS.name d i).congr (rngD_len lo n) fun k hk Γ => by
  rw [rngD_len] at hk
  unfold it1 yd
  rw [getD_of (rngD_get hk)]
end
/-! ### zip of two lists, of two tuples, of the same length or not -/
section
variable {X : Cx} {Γ : Env} {a b e : Expr} {pos p tpos : Pos} {elts : List Expr} {kk : Nat}
theorem zip_get {α β : Type} {xs : List α} {ys : List β} {k : Nat} {x : α} {y : β} (h1 : xs[k]? = some x) (h2 : ys[k]? = some y) : (xs.zip ys)[k]? = some (x, y) := by
  rw [List.getElem?_zip_eq_some]; exact ⟨h1, h2⟩
theorem di_zipL {ds es : List D} (B : Blt X "zip" (.type "zip")) (h : DE X a Γ (.list ds)) (h' : DE X b Γ (.list es)) (hs : starEach [a, b] X.env = (false, eval a X.env) :: starEach [b] X.env := by rfl) (hs2 : starEach [b] X.env = (false, eval b X.env) :: starEach [] X.env := by rfl) (hpl : (backTo pos (starEach [b] X.env)).any (·.1) = false := by rfl) : DIP X (.Tuple elts kk tpos) (.Call (.Name "zip" p) [a, b] [] pos) Γ (ds.zip es) :=
  pi_weak (RZ.pi_zipA B.g B.m (da_two h h' hs hs2) hs hpl) fun σ H R ⟨H0, F, st, q⟩ => ⟨H0, F, st, fun vs F1 H1 g ok => by
    obtain ⟨v, u, rfl, hv, hu⟩ := dda_two ok
    cases hv with
    | @lst t us _ hh hd => cases hu with
      | @lst t2 us2 _ hh2 hd2 =>
        refine ⟨t, t2, us, us2, rfl, .inl ⟨SqL.of (g.s _ _ hh), SqL.of (g.s _ _ hh2), q _ F1 H1 g ⟨fun k H s hk => ?_, fun H s => ?_, fun k H x H' s hk y => ?_⟩⟩⟩
        · rw [List.length_zip] at hk
          obtain ⟨v, ev, _⟩ := dda_get hd (List.getElem?_eq_getElem (i := k) (by omega))
          obtain ⟨v2, ev2, _⟩ := dda_get hd2 (List.getElem?_eq_getElem (i := k) (by omega))
          exact ⟨us, us2, v, v2, SqL.of (s _ _ hh), SqL.of (s _ _ hh2), ev, ev2⟩
        · rw [List.length_zip]
          have l1 := dda_length hd
          have l2 := dda_length hd2
          exact ⟨us, us2, SqL.of (s _ _ hh), SqL.of (s _ _ hh2), by omega⟩
        · obtain ⟨T, y1, y2, e1, hT, eH, hy1, hy2⟩ := y
          obtain ⟨d, ed, hx⟩ := dda_getV hd (hy1 us (SqL.of (s _ _ hh)))
          obtain ⟨d2, ed2, hx2⟩ := dda_getV hd2 (hy2 us2 (SqL.of (s _ _ hh2)))
          exact ⟨T, y1, y2, d, d2, e1, hT, eH, zip_get ed ed2, hx, hx2⟩⟩
theorem di_zipT {ds es : List D} (B : Blt X "zip" (.type "zip")) (h : DE X a Γ (.tuple ds)) (h' : DE X b Γ (.tuple es)) (hs : starEach [a, b] X.env = (false, eval a X.env) :: starEach [b] X.env := by rfl) (hs2 : starEach [b] X.env = (false, eval b X.env) :: starEach [] X.env := by rfl) (hpl : (backTo pos (starEach [b] X.env)).any (·.1) = false := by rfl) : DIP X (.Tuple elts kk tpos) (.Call (.Name "zip" p) [a, b] [] pos) Γ (ds.zip es) :=
  pi_weak (RZ.pi_zipA B.g B.m (da_two h h' hs hs2) hs hpl) fun σ H R ⟨H0, F, st, q⟩ => ⟨H0, F, st, fun vs F1 H1 g ok => by
    obtain ⟨v, u, rfl, hv, hu⟩ := dda_two ok
    cases hv with
    | @tup t ob us _ hh hn hd => cases hu with
      | @tup t2 ob2 us2 _ hh2 hn2 hd2 =>
        have sq : ∀ {H}, Same F1 H → SqT X.K H t us := fun s => .inl (.inr ⟨_, s _ _ hh⟩)
        have sq2 : ∀ {H}, Same F1 H → SqT X.K H t2 us2 := fun s => .inl (.inr ⟨_, s _ _ hh2⟩)
        refine ⟨t, t2, us, us2, rfl, .inr ⟨sq g.s, sq2 g.s, q _ F1 H1 g ⟨fun k H s hk => ?_, fun H s => ?_, fun k H x H' s hk y => ?_⟩⟩⟩
        · rw [List.length_zip] at hk
          obtain ⟨v, ev, _⟩ := dda_get hd (List.getElem?_eq_getElem (i := k) (by omega))
          obtain ⟨v2, ev2, _⟩ := dda_get hd2 (List.getElem?_eq_getElem (i := k) (by omega))
          exact ⟨us, us2, v, v2, sq s, sq2 s, ev, ev2⟩
        · rw [List.length_zip]
          have l1 := dda_length hd
          have l2 := dda_length hd2
          exact ⟨us, us2, sq s, sq2 s, by omega⟩
        · obtain ⟨T, y1, y2, e1, hT, eH, hy1, hy2⟩ := y
          obtain ⟨d, ed, hx⟩ := dda_getV hd (hy1 us (sq s))
          obtain ⟨d2, ed2, hx2⟩ := dda_getV hd2 (hy2 us2 (sq2 s))
          exact ⟨T, y1, y2, d, d2, e1, hT, eH, zip_get ed ed2, hx, hx2⟩⟩
/-- at turn k the names i, j hold the k-th items of two lists -/
def yz {α β : Type} (i j : Nat) (g : α → D) (h : β → D) (xs : List α) (ys : List β) (z : α) (z' : β) (k : Nat) (Γ : Env) : Env := (Γ.set i (some (.d (g (xs.getD k z))))).set j (some (.d (h (ys.getD k z'))))
theorem DIP.zm {α β : Type} {g : α → D} {h : β → D} {xs : List α} {ys : List β} {tg iter : Expr} (d : DIP X tg iter Γ ((xs.map g).zip (ys.map h))) (i j : Nat) (z : α) (z' : β) : DI X tg iter Γ (gTwo X.K i j) (min xs.length ys.length) (yz i j g h xs ys z z') [i, j] := by
  refine (DIP.two d i j).congr (by rw [List.length_zip, List.length_map, List.length_map]) fun k hk Γ => ?_
  rw [List.length_zip, List.length_map, List.length_map] at hk
  have h1 : k < xs.length := by omega
  have h2 : k < ys.length := by omega
  unfold it2 yz
  rw [getD_of (zip_get (show (xs.map g)[k]? = some (g xs[k]) by rw [List.getElem?_map, List.getElem?_eq_getElem h1]; rfl) (show (ys.map h)[k]? = some (h ys[k]) by rw [List.getElem?_map, List.getElem?_eq_getElem h2]; rfl)), getD_eq z h1, getD_eq z' h2]
end
/-! ### a, b, c = e1, e2, e3 -/
section
variable {X : Cx} {Γ : Env} {a b c : Expr} {pos p : Pos} {O : Outs}
theorem ds_par3 (i j l : Nat) {x y z : Str} {px py pz pt : Pos} {kt k2 pt2} {s1 s2 s3 : Sv} (h1 : DV X a Γ s1) (h2 : DV X b Γ s2) (h3 : DV X c Γ s3) (hn : O.nx (((Γ.set i (some s1)).set j (some s2)).set l (some s3))) (hc : X.calm = true) (nd : X.N.Nodup) (hij : i ≠ j) (hil : i ≠ l) (hjl : j ≠ l)
    (hi : X.N[i]? = some x := by rfl) (hj : X.N[j]? = some y := by rfl) (hl : X.N[l]? = some z := by rfl) (hx : X.env.scope.names.lookup x = some .local := by rfl) (hy : X.env.scope.names.lookup y = some .local := by rfl) (hz : X.env.scope.names.lookup z = some .local := by rfl)
    (e1 : starEach [a, b, c] X.env = (false, eval a X.env) :: starEach [b, c] X.env := by rfl) (e2 : starEach [b, c] X.env = (false, eval b X.env) :: starEach [c] X.env := by rfl) (e3 : starEach [c] X.env = (false, eval c X.env) :: starEach [] X.env := by rfl)
    (hw : swappedStores [.Tuple [.Name x px, .Name y py, .Name z pz] kt pt] (.Tuple [a, b, c] k2 pt2) X.env = pure (some [x, y, z]) := by rfl)
    (hs : swapsWithSole [.Tuple [.Name x px, .Name y py, .Name z pz] kt pt] (.Tuple [a, b, c] k2 pt2) pos.line X.env = pure false := by rfl) : DS X (.Assign [.Tuple [.Name x px, .Name y py, .Name z pz] kt pt] (.Tuple [a, b, c] k2 pt2) pos) Γ O :=
  ps_weak (ps_par3 hc nd hi hj hl hij hil hjl hx hy hz (pa_cons h1 (pa_cons h2 (pa_cons h3 pa_nil e3) e2) e1) hw hs) fun T σ H ⟨F0, H0, F, g, st, P⟩ => ⟨H0, F, st, fun v F1 H1 g1 ok1 => ⟨H0, F1, st.gr g1, fun u F2 H2 g2 ok2 => ⟨H0, F2, st.gr (g1.trans g2), fun w F3 H3 g3 ok3 => ⟨v, u, w, rfl, by
    have st1 := st.put g1 g.h i ok1
    have st2 := st1.put g2 (g.trans g1).h j ok2
    exact P.nx _ F3 _ H3 hn (((g.trans g1).trans g2).trans g3) (st2.put g3 ((g.trans g1).trans g2).h l ok3)⟩⟩⟩⟩
end
/-! ### a for loop with a fact beside the names -/
section
variable {X : Cx} {Γ : Env} {tg iter : Expr} {pos : Pos} {O : Outs}
theorem ds_fpp {g : TG} {n : Nat} {Y : Nat → Env → Env} {ts : List Nat} {body : List Stmt} (I : Nat → Env) (Pk : Nat → Prop) (hi : DI X tg iter Γ g n Y ts) (hg : PG X tg g) (h0 : Sub (I 0) Γ) (hp0 : Pk 0)
    (hs : ∀ k, k < n → Pk k → DSs X body (Y k (I k)) ⟨fun Γ' => Sub (I (k + 1)) Γ' ∧ Pk (k + 1), O.rt, O.nx, fun Γ' => Sub (I (k + 1)) Γ' ∧ Pk (k + 1)⟩) (hd : Pk n → O.nx (I n)) (hc : X.calm = true := by rfl) (hp : PassesOwn (model X.prog X.w) X.A X.env X.xe := by exact PassesOwn.never) (hf : ∀ x, foldedSetIterable iter X.env x = pure x := by intro _; rfl) : DS X (.For tg iter body [] pos) Γ O := by
  have hb : PSs X body (fun T σ H => ∃ k, k < n ∧ Pk k ∧ rdS X.K (Y k (I k)) ⟨fun Γ' => Sub (I (k + 1)) Γ' ∧ Pk (k + 1), O.rt, O.nx, fun Γ' => Sub (I (k + 1)) Γ' ∧ Pk (k + 1)⟩ T σ H) := ⟨fun pins s σ H T J ⟨k, hk, pk, q⟩ => (hs k hk pk).run pins s σ H T J q⟩
  refine ps_weak (ps_for hp hc hi hg hb hf) fun T σ H ⟨F0, H0, F, G, st, P⟩ => ⟨H0, F, st, fun J F' H1 g1 w => ?_⟩
  have G1 := G.trans g1
  refine ⟨fun k m σ' H' => m = n - k ∧ k ≤ n ∧ Pk k ∧ ∃ F1, Gr F' H0 F1 H' ∧ StOk X.K H0 F1 (I k) σ' H', ⟨n, by omega, Nat.zero_le _, hp0, F', ⟨Same.refl _, g1.s, G1.h, fun _ _ h => h⟩, (st.gr g1).sub_of h0⟩, ?_⟩
  rintro k m σ' H' ⟨rfl, hk, pk, F1, g2, st1⟩
  have sH : Same F' H' := g2.f.trans g2.s
  by_cases hlt : k < n
  · refine .inr ⟨w.go k H' sH hlt, fun σ2 H2 => Pk (k + 1) ∧ ∃ F2, Gr F' H0 F2 H2 ∧ StOk X.K H0 F2 (I (k + 1)) σ2 H2, fun σ2 H2 ⟨pk', F2, q⟩ => ⟨n - (k + 1), by omega, rfl, hlt, pk', F2, q⟩, fun x H2 y => ?_⟩
    refine w.asg k H' sH hlt x H2 y H0 F1 (I k) σ' st1 g2.f _ fun σ3 F3 H3 g3 st3 _ _ => ?_
    exact ⟨k, hlt, pk, F', H0, F3, g2.trans g3, st3, ⟨fun Γ4 F4 σ4 H4 i4 g4 st4 => ⟨i4.2, F4, g4, st4.sub_of i4.1⟩, fun Γ4 F4 σ4 H4 o4 g4 st4 => P.nx Γ4 F4 σ4 H4 o4 (G1.pre g4) st4,
      fun Γ4 F4 σ4 H4 i4 g4 st4 => ⟨i4.2, F4, g4, st4.sub_of i4.1⟩, fun s v F4 H4 r g4 ok => P.rt s v F4 H4 r (G1.pre g4) ok⟩⟩
  · have e : k = n := by omega
    subst e
    exact .inl ⟨w.stop H' sH, P.nx _ F1 σ' H' (hd pk) (G1.pre g2) st1⟩
end
end DL
namespace DL
open PySem PySem.Spec PyProof.Rows L2
/-! ### x in l, items of any depth -/
theorem any_emb {α : Type} [DecidableEq α] {g : α → D} (h : Emb g) (xs : List α) (x : α) : ((xs.map g).any fun z => PyData.eqv z (g x)) = decide (x ∈ xs) := by
  induction xs with
  | nil => rfl
  | cons y r ih =>
    rw [List.map_cons, List.any_cons, ih, h y x]
    by_cases e : y = x
    · subst e; simp
    · have : ¬ x = y := fun z => e z.symm
      simp [e, this]
section
variable {X : Cx} {α : Type} [DecidableEq α] {g : α → D} {xs : List α} {x : α} {k : Nat}
theorem cq_in (hr : Room k X.A) (h : Emb g) (h1 : Sh 64 (g x)) (h2 : Sh 64 (.list (xs.map g))) : Cmp X .In (g x) (.list (xs.map g)) (decide (x ∈ xs)) :=
  ⟨_, op_inD (by have := hr.un; omega), .flat fun F H u v s q1 q2 Q q => ⟨_, _, dd_dp (dd_mono s q1), dd_dp (dd_mono s q2), h1.s, h2.s, by rw [any_emb h]; exact q _ (.bl _)⟩⟩
theorem cq_nin (hr : Room k X.A) (h : Emb g) (h1 : Sh 64 (g x)) (h2 : Sh 64 (.list (xs.map g))) : Cmp X .NotIn (g x) (.list (xs.map g)) (!decide (x ∈ xs)) :=
  ⟨_, op_notInD (by have := hr.un; omega), .flat fun F H u v s q1 q2 Q q => ⟨_, _, dd_dp (dd_mono s q1), dd_dp (dd_mono s q2), h1.s, h2.s, by rw [any_emb h]; exact q _ (.bl _)⟩⟩
end
/-! ### t * 0, t * 1 -/
section
open AutoSeq1 (wpAny_loadPart')
theorem tuple_mul1 (l : Addr) (items : Array Value) (n : Nat) (dd : Option Addr) (sl : Array (Option Value)) (u : Tok) :
    Meets (Builtin.«tuple.__mul__» ⟨[.ref l, .int 1 u], []⟩) (fun _ R s => s.heap.get? l = some { cls := .type "tuple", dict := dd, data := .seq items n, slots := sl } ∧ R (.ok (.ret (Value.ref l))) s) :=
  .of_wp fun prog w A R s h => by
    obtain ⟨hp, g, d, tk, os⟩ := s
    obtain ⟨hl, h⟩ := h
    have f1 := AutoSeq1.idx_int
    have c1 : (items.isEmpty || ((1 : Int) == 1)) = true := by simp
    wp_walk using wpAny_loadPart' hl
    repeat (first
      | (refine wpAny_ite_true (decide_eq_true c1) ?_; wp_walk using wpAny_loadPart' hl)
      | (refine wpAny_ite_false (decide_eq_false (by decide)) ?_; wp_walk using wpAny_loadPart' hl))
    exact ⟨_, rfl, h⟩
theorem tuple_mul0 (l : Addr) (items : Array Value) (n : Nat) (dd : Option Addr) (sl : Array (Option Value)) (u : Tok) (hi : items.isEmpty = false) :
    Meets (Builtin.«tuple.__mul__» ⟨[.ref l, .int 0 u], []⟩) (fun _ R s => s.heap.get? l = some { cls := .type "tuple", dict := dd, data := .seq items n, slots := sl } ∧
      R (.ok (.ret (Value.ref s.heap.objs.size))) { s with heap := s.heap.push { cls := Value.type "tuple", data := Data.seq #[] } }) :=
  .of_wp fun prog w A R s h => by
    obtain ⟨hp, g, d, tk, os⟩ := s
    obtain ⟨hl, h⟩ := h
    have f1 := AutoSeq1.idx_int
    have c1 : (items.isEmpty || ((0 : Int) == 1)) = false := by rw [hi]; rfl
    have c2 : (decide ((0 : Int) ≤ 0) || items.isEmpty) = true := by simp
    wp_walk using wpAny_loadPart' hl
    repeat (first
      | (refine wpAny_ite_false (decide_eq_false (by rw [c1]; exact Bool.false_ne_true)) ?_; wp_walk using wpAny_loadPart' hl)
      | (refine wpAny_ite_true (decide_eq_true c2) ?_; wp_walk using wpAny_loadPart' hl)
      | (refine wpAny_ite_false (decide_eq_false (by decide)) ?_; wp_walk using wpAny_loadPart' hl))
    exact ⟨_, rfl, h⟩
end
section
variable {X : Cx} {Γ : Env} {a b c e : Expr} {pos p : Pos}
def rRep01 (K : Frag) : R2 := fun x y H Q => ∃ l xs, x = .ref l ∧ SqT K H l xs ∧ xs ≠ [] ∧ ((y = .int 1 ∧ Q (.ref l) H) ∨ (y = .int 0 ∧ ∀ q o, H q = none → o.dict = none → Q (.ref q) (upd H q (.frz o (.tup [])))))
theorem op_rep01 : OpR X (binaryOp .Mult) (rRep01 X.K) := by
  intro pins s σ H x y v u Q I rx ry h
  obtain ⟨l, xs, rfl, hT, hne, h⟩ := h
  cases rx
  obtain ⟨its, r, ⟨⟨cls, dd, data, sl⟩, ho, hc, n, hd⟩, hs⟩ := I.tuple hT
  simp only at hc hd
  subst hc hd
  have hi : its.toArray.isEmpty = false := by
    cases its with
    | nil => cases r; exact absurd rfl hne
    | cons a b => rfl
  rcases h with ⟨rfl, q⟩ | ⟨rfl, q⟩
  · obtain ⟨t, rfl⟩ := ry
    refine wpAny_binaryOp_repeat_ref (T := "tuple") (U := "int") (by decide) ⟨_, ho, rfl⟩ (fun s' => typeIs_int s' 1 t) noFill_tuple_mul F.fills_int_mul F.slot_int_rmul repeat_tuple F.slot_int_index.lookup
      (call_meets F.slot_int_rmul (typeIs_int s 1 t) F.entry_int_rmul (F.args_int_rmul_2 _ _) (int_rmul_tuple 1 t l its.toArray n dd sl) ⟨ho, rfl, ⟨_, ho, rfl⟩, call_meets F.slot_tuple_mul ⟨_, ho, rfl⟩ F.entry_tuple_mul (F.args_tuple_mul_2 _ _)
        (tuple_mul1 l its.toArray n dd sl t) ⟨ho, ?_⟩⟩)
    exact ⟨.ref l, H, I, rfl, q⟩
  · obtain ⟨t, rfl⟩ := ry
    refine wpAny_binaryOp_repeat_ref (T := "tuple") (U := "int") (by decide) ⟨_, ho, rfl⟩ (fun s' => typeIs_int s' 0 t) noFill_tuple_mul F.fills_int_mul F.slot_int_rmul repeat_tuple F.slot_int_index.lookup
      (call_meets F.slot_int_rmul (typeIs_int s 0 t) F.entry_int_rmul (F.args_int_rmul_2 _ _) (int_rmul_tuple 0 t l its.toArray n dd sl) ⟨ho, rfl, ⟨_, ho, rfl⟩, call_meets F.slot_tuple_mul ⟨_, ho, rfl⟩ F.entry_tuple_mul (F.args_tuple_mul_2 _ _)
        (tuple_mul0 l its.toArray n dd sl t hi) ⟨ho, ?_⟩⟩)
    exact ⟨.ref s.heap.objs.size, _, tup_laid (us := []) I .nil (Nat.zero_le _), rfl, q _ _ I.fresh rfl⟩
theorem dv_repT01 {ds : List D} {k : Bool} (ha : DE X a Γ (.tuple ds)) (hb : DE X b Γ (.int (if k then 1 else 0))) (h0 : ds ≠ []) : DE X (.BinOp a .Mult b pos) Γ (.tuple (if k then ds else [])) :=
  dv_bin op_rep01 ha hb fun F H x y s q1 q2 Q q => by
    cases k with
    | true =>
      cases q2
      cases q1 with
      | tup hh hn hd => exact ⟨_, _, rfl, .inl (.inr ⟨_, s _ _ hh⟩), fun e => h0 ((dda_nil_iff hd).mp e), .inl ⟨rfl, q _ _ _ (Gr.refl s) (.tup hh hn hd)⟩⟩
    | false =>
      cases q2
      cases q1 with
      | tup hh hn hd => exact ⟨_, _, rfl, .inl (.inr ⟨_, s _ _ hh⟩), fun e => h0 ((dda_nil_iff hd).mp e), .inr ⟨rfl, fun p o hp ho => q _ _ _ (Gr.new s hp) (dd_tup (s.free hp) ho .nil)⟩⟩
end
end DL
namespace DL
open PySem PySem.Spec PyProof.Rows L2
/-! ### dicts whose keys are tuples of texts: lists of entries -/
def getW (ws : List (List Str × Addr × V)) (k : List Str) : Option (Addr × V) := (ws.find? fun x => decide (x.1 = k)).map (·.2)
def putW (ws : List (List Str × Addr × V)) (k : List Str) (b : Addr) (v : V) : List (List Str × Addr × V) := if (getW ws k).isSome then ws.map (fun x => if x.1 = k then (x.1, x.2.1, v) else x) else ws ++ [(k, b, v)]
def getS (kvs : List (List Str × D)) (k : List Str) : Option D := (kvs.find? fun x => decide (x.1 = k)).map (·.2)
def putS (kvs : List (List Str × D)) (k : List Str) (d : D) : List (List Str × D) := if (getS kvs k).isSome then kvs.map (fun x => if x.1 = k then (x.1, d) else x) else kvs ++ [(k, d)]
abbrev XsRel : List (List Str × Addr × V) → List (List Key × Addr × Value) → Prop := PySem.Paired (fun (p : List Str × Addr × V) (q : List Key × Addr × Value) => q.1 = p.1.map Sum.inr ∧ q.2.1 = p.2.1 ∧ RelV p.2.2 q.2.2)
theorem inr_inj : ∀ {a b : List Str}, a.map (Sum.inr : Str → Key) = b.map Sum.inr → a = b
  | [], [], _ => rfl
  | [], _ :: _, h => by cases h
  | _ :: _, [], h => by cases h
  | x :: a, y :: b, h => by
    rw [List.map_cons, List.map_cons] at h
    injection h with h1 h2
    injection h1 with h1
    rw [h1, inr_inj h2]
theorem rel_get {ws : List (List Str × Addr × V)} {xs : List (List Key × Addr × Value)} (r : XsRel ws xs) (k : List Str) : (getW ws k = none ∧ atKey xs (k.map Sum.inr) = none) ∨ ∃ b v u, getW ws k = some (b, v) ∧ atKey xs (k.map Sum.inr) = some (b, u) ∧ RelV v u := by
  unfold getW atKey
  induction r with
  | nil => exact .inl ⟨rfl, rfl⟩
  | @cons p q ps qs h t ih =>
    rw [List.find?_cons, List.find?_cons]
    by_cases e : p.1 = k
    · have e2 : q.1 = k.map Sum.inr := by rw [h.1, e]
      rw [decide_eq_true e, decide_eq_true e2]
      exact .inr ⟨p.2.1, p.2.2, q.2.2, rfl, by show some q.2 = _; rw [← h.2.1], h.2.2⟩
    · have e2 : ¬ q.1 = k.map Sum.inr := fun z => e (inr_inj (h.1.symm.trans z))
      rw [decide_eq_false e, decide_eq_false e2]
      exact ih
theorem rel_map {ws : List (List Str × Addr × V)} {xs : List (List Key × Addr × Value)} (r : XsRel ws xs) (k : List Str) {v : V} {u : Value} (rv : RelV v u) : XsRel (ws.map fun x => if x.1 = k then (x.1, x.2.1, v) else x) (xs.map (putAt (k.map Sum.inr) u)) := by
  induction r with
  | nil => exact .nil
  | @cons p q ps qs h t ih =>
    rw [List.map_cons, List.map_cons]
    refine .cons ?_ ih
    unfold putAt
    by_cases e : p.1 = k
    · have e2 : q.1 = k.map Sum.inr := by rw [h.1, e]
      rw [if_pos e, if_pos e2]; exact ⟨h.1, h.2.1, rv⟩
    · have e2 : ¬ q.1 = k.map Sum.inr := fun z => e (inr_inj (h.1.symm.trans z))
      rw [if_neg e, if_neg e2]; exact h
theorem rel_put {ws : List (List Str × Addr × V)} {xs : List (List Key × Addr × Value)} (r : XsRel ws xs) (k : List Str) (b : Addr) {v : V} {u : Value} (rv : RelV v u) : XsRel (putW ws k b v) (storedH xs (k.map Sum.inr) b u) := by
  unfold putW storedH
  rcases rel_get r k with ⟨h1, h2⟩ | ⟨b', v', u', h1, h2, _⟩
  · rw [h1, h2]; exact Paired.snoc r ⟨rfl, rfl, rv⟩
  · rw [h1, h2]; exact rel_map r k rv
section
variable {F : Hp}
theorem kvt_get {ws : List (List Str × Addr × V)} {kvs : List (List Str × D)} (h : KvT F ws kvs) (k : List Str) : (getW ws k = none ∧ getS kvs k = none) ∨ ∃ b v d, getW ws k = some (b, v) ∧ getS kvs k = some d ∧ Dd F v d := by
  unfold getW getS
  induction h with
  | nil => exact .inl ⟨rfl, rfl⟩
  | @cons k' b v d r q hb hd t ih =>
    rw [List.find?_cons, List.find?_cons]
    by_cases e : k' = k
    · rw [decide_eq_true e]; exact .inr ⟨b, v, d, rfl, rfl, hd⟩
    · rw [decide_eq_false e]; exact ih
theorem kvt_put {ws : List (List Str × Addr × V)} {kvs : List (List Str × D)} (h : KvT F ws kvs) {k : List Str} {b : Addr} {v : V} {d : D} (hb : Dd F (.ref b) (.tuple (k.map .str))) (hd : Dd F v d) : KvT F (putW ws k b v) (putS kvs k d) := by
  unfold putW putS
  rcases kvt_get h k with ⟨h1, h2⟩ | ⟨b', v', d', h1, h2, _⟩
  · rw [h1, h2]
    show KvT F (ws ++ [(k, b, v)]) (kvs ++ [(k, d)])
    clear h1 h2
    induction h with
    | nil => exact .cons hb hd .nil
    | cons a1 a2 t ih => exact .cons a1 a2 ih
  · rw [h1, h2]
    show KvT F (ws.map _) (kvs.map _)
    clear h1 h2
    induction h with
    | nil => exact .nil
    | @cons k2 b2 v2 d2 r q a1 a2 t ih =>
      rw [List.map_cons, List.map_cons]
      by_cases e : k2 = k
      · rw [if_pos e, if_pos e]; exact .cons a1 hd ih
      · rw [if_neg e, if_neg e]; exact .cons a1 a2 ih
theorem kvt_len {ws : List (List Str × Addr × V)} {kvs : List (List Str × D)} (h : KvT F ws kvs) : ws.length = kvs.length := by
  induction h with
  | nil => rfl
  | cons _ _ _ ih => exact congrArg (· + 1) ih
theorem putW_len (ws : List (List Str × Addr × V)) (k : List Str) (b : Addr) (v : V) : (putW ws k b v).length ≤ ws.length + 1 := by
  unfold putW
  split
  · rw [List.length_map]; omega
  · rw [List.length_append]; exact Nat.le_refl _
end
/-! ### .. in the heap -/
section
variable {X : Cx} {pins : List (Addr × Obj)} {σ : L2.St} {H F : Hp} {s : Shared}
theorem key_at (I : Inv X pins σ H s) {b : Addr} {k : List Str} (h : Dd H (.ref b) (.tuple (k.map .str))) : (tupleKind (mixKind X.prog X.w)).is s.heap (k.map Sum.inr) b := by
  cases h with
  | tup hh hn hd =>
    have e := dda_strs hd; subst e
    obtain ⟨its, rv, ⟨o, h1, h2, n, h3⟩, _⟩ := I.tuple (xs := k.map V.str) (.inl (.inr ⟨_, hh⟩))
    have rv' : Vals ((k.map (Sum.inr : Str → Key)).map kV) its := by rw [List.map_map]; exact rv
    exact ⟨o, its.toArray, n, h1, h2, h3, by simpa using items_are rv'⟩
def DAt (P : Program) (w : World) (H : Hp) (a : Addr) (ws : List (List Str × Addr × V)) : Prop := H a = some (DictO P w a ws) ∨ ∃ o, H a = some (.frz o (DictO P w a ws))
theorem dictR_of (I : Inv X pins σ H s) {a : Addr} {ws : List (List Str × Addr × V)} (h : DAt X.prog X.w H a ws) : DictR X.prog X.w s.heap a ws := by
  rcases h with h | ⟨o, h⟩
  · exact (I.hok a _ h).1
  · exact (I.hok a _ h).2.1
theorem kvt_keys (I : Inv X pins σ H s) (sF : Same F H) {kvs : List (List Str × D)} : ∀ {ws : List (List Str × Addr × V)} {kvs : List (List Str × D)} {xs : List (List Key × Addr × Value)}, KvT F ws kvs → XsRel ws xs → ∀ x ∈ xs, (tupleKind (mixKind X.prog X.w)).is s.heap x.1 x.2.1
  | _, _, _, .nil, .nil, x, hx => by cases hx
  | _, _, _, .cons hb _ t, .cons h r, x, hx => by
    rcases List.mem_cons.mp hx with rfl | hx
    · rw [h.1, h.2.1]; exact key_at I (dd_mono sF hb)
    · exact kvt_keys (kvs := kvs) I sF t r x hx
theorem dict_of (I : Inv X pins σ H s) (sF : Same F H) {a : Addr} {ws : List (List Str × Addr × V)} {kvs : List (List Str × D)} (h : DAt X.prog X.w H a ws) (q : KvT F ws kvs) : (a == sysModules) = false ∧ ∃ xs, XsRel ws xs ∧ xs.length ≤ sizeLine ∧ s.heap.DictOfH (tupleKind (mixKind X.prog X.w)) a xs := by
  obtain ⟨z, y, xs, r, o, es, ep, h1, h2, h3, h4, h5⟩ := dictR_of I h
  exact ⟨y, xs, r, by rw [← Paired.length r]; exact z, o, es, ep, h1, h2, h3, h4, kvt_keys (kvs := kvs) I sF q r, h5⟩
theorem dictO_ok {P : Program} {w : World} {h : Heap} {a : Addr} {ws : List (List Str × Addr × V)} (R : DictR P w h a ws) : ObjOk P w H h a (DictO P w a ws) := by
  obtain ⟨z, y, xs, r, o, es, ep, h1, h2⟩ := id R
  refine ⟨R, ⟨o, h1⟩, fun g1 g2 p k => ?_⟩
  obtain ⟨z, y, xs, r, o, es, ep, h1, h2⟩ := p
  exact ⟨z, y, xs, r, o, es, ep, k o h1, h2⟩
theorem dictR_new (h : Heap) {P : Program} {w : World} (hb : sysModules < h.objs.size) : DictR P w (h.push { cls := .type "dict", data := .dict #[] }) h.objs.size [] :=
  ⟨Nat.zero_le _, beq_eq_false_iff_ne.mpr (Ne.symm (Nat.ne_of_lt hb)), [], .nil, _, #[], 0, Heap.get?_push_size _ rfl, ⟨rfl, rfl, rfl⟩, rfl, rfl, List.nodup_nil⟩
end
/-! ### rules -/
section
variable {X : Cx} {Γ : Env} {a b c e : Expr} {pos p : Pos}
def slotD (Γ : Env) (i : Nat) (P : Program) (w : World) (kvs : List (List Str × D)) : Prop := Γ[i]? = some (some (.dt P w kvs)) ∨ Γ[i]? = some (some (.ft P w kvs))
theorem StOk.dict {K : Frag} {H0 F H : Hp} {σ : L2.St} {i : Nat} {P : Program} {w : World} {kvs : List (List Str × D)} (st : StOk K H0 F Γ σ H) (h : slotD Γ i P w kvs) : ∃ a ws, σ[i]? = some (some (.ref a)) ∧ DAt P w H a ws ∧ KvT F ws kvs := by
  rcases h with h | h
  · obtain ⟨v, ev, a, ws, rfl, h0, hf, hh, q⟩ := st.slot i _ h
    exact ⟨a, ws, ev, .inl hh, q⟩
  · obtain ⟨v, ev, a, ws, o, rfl, hf, q⟩ := st.slot i _ h
    exact ⟨a, ws, ev, .inr ⟨o, st.sub _ _ hf⟩, q⟩
theorem DAt.gr {P : Program} {w : World} {H H' : Hp} {a : Addr} {ws : List (List Str × Addr × V)} (h : DAt P w H a ws) (e : Same H H') : DAt P w H' a ws := by
  rcases h with h | ⟨o, h⟩
  · exact .inl (e _ _ h)
  · exact .inr ⟨o, e _ _ h⟩
/-- what is read of a dict at a key -/
structure DRd (X : Cx) (H : Hp) (x y : V) (k : List Str) (kvs : List (List Str × D)) (F : Hp) (a b : Addr) (ws : List (List Str × Addr × V)) : Prop where
  ex : x = .ref a
  ey : y = .ref b
  at_ : DAt X.prog X.w H a ws
  kv : KvT F ws kvs
  sF : Same F H
  key : Dd F (.ref b) (.tuple (k.map .str))
def rNin (X : Cx) : R2 := fun y x H Q => ∃ k kvs F a b ws, DRd X H x y k kvs F a b ws ∧ Q (.bl (!(getS kvs k).isSome)) H
def rDin (X : Cx) : R2 := fun y x H Q => ∃ k kvs F a b ws, DRd X H x y k kvs F a b ws ∧ Q (.bl (getS kvs k).isSome) H
theorem get_some {F : Hp} {ws : List (List Str × Addr × V)} {kvs : List (List Str × D)} {xs : List (List Key × Addr × Value)} (q : KvT F ws kvs) (r : XsRel ws xs) (k : List Str) : (atKey xs (k.map Sum.inr)).isSome = (getS kvs k).isSome := by
  rcases rel_get r k with ⟨h1, h2⟩ | ⟨b, v, u, h1, h2, _⟩
  · rcases kvt_get q k with ⟨g1, g2⟩ | ⟨b', v', d, g1, g2, _⟩
    · rw [h2, g2]; rfl
    · rw [h1] at g1; cases g1
  · rcases kvt_get q k with ⟨g1, g2⟩ | ⟨b', v', d, g1, g2, _⟩
    · rw [h1] at g1; cases g1
    · rw [h2, g2]; rfl
theorem op_nin (hu : X.A.units + 1 < cLine) : OpR X (compareOp .NotIn) (rNin X) := by
  intro pins s σ H y x u v Q I ry rx h
  obtain ⟨k, kvs, F, a, b, ws, ⟨rfl, rfl, hat, kv, sF, key⟩, q⟩ := h
  cases rx; cases ry
  obtain ⟨hd, xs, r, hz, dd⟩ := dict_of I sF hat kv
  refine wpAny_notIn_heap (tupleKind_room_in1 hu) (key_at I (dd_mono sF key)) hd dd ?_
  rw [get_some kv r]
  exact ⟨.bl _, H, I.tok _, rfl, q⟩
theorem op_din (hu : X.A.units + 1 < cLine) : OpR X (compareOp .In) (rDin X) := by
  intro pins s σ H y x u v Q I ry rx h
  obtain ⟨k, kvs, F, a, b, ws, ⟨rfl, rfl, hat, kv, sF, key⟩, q⟩ := h
  cases rx; cases ry
  obtain ⟨hd, xs, r, hz, dd⟩ := dict_of I sF hat kv
  refine wpAny_in_heap (tupleKind_room_in1 hu) (key_at I (dd_mono sF key)) hd dd ?_
  rw [get_some kv r]
  exact ⟨.bl _, H, I.tok _, rfl, q⟩
/-- e not in d -/
theorem dt_ninD (i : Nat) {x : Str} {kvs : List (List Str × D)} {k : List Str} {m : Nat} (hr : Room m X.A) (h : slotD Γ i X.prog X.w kvs) (ha : DE X a Γ (.tuple (k.map .str))) (hN : X.N[i]? = some x := by rfl) (hv : Vis X.env.scope x := by first | exact Or.inl rfl | exact Or.inr (Or.inl rfl) | exact Or.inr (Or.inr rfl)) (hd : (x == ("__debug__" : Str)) = false := by decide)
    (hcd : (x == ("__classdict__" : Str)) = false := by decide) (hm : behindInMarks .NotIn (.Name x p) = false := by rfl) : DT X (.Compare a [.NotIn] [.Name x p] pos) Γ (!(getS kvs k).isSome) :=
  pt_weak (pt_cmpR (op_nin (by have := hr.un; omega)) ha (pe_var hN hv hd hcd) hm) fun σ H Q ⟨H0, F, st, q⟩ => ⟨H0, F, st, fun v F1 H1 g1 ok1 => by
    obtain ⟨a', ws, ev, hat, kv⟩ := (st.gr g1).dict h
    cases ok1 with
    | @tup b o vs _ hh hn hdd => exact ⟨_, ev, k, kvs, F1, a', b, ws, ⟨rfl, rfl, hat, kv, g1.s, .tup hh hn hdd⟩, _, rfl, q F1 H1 g1⟩⟩
/-- d[e] -/
def rDget (X : Cx) : R2 := fun x y H Q => ∃ k kvs F a b ws d, DRd X H x y k kvs F a b ws ∧ getS kvs k = some d ∧ ∀ v, Dd F v d → Q v H
theorem ix_dict (hu : X.A.units + 1 < cLine) : IxR X (rDget X) := by
  intro value slice pins s σ H x y v u Q I rx ry h hs
  obtain ⟨k, kvs, F, a, b, ws, d, ⟨rfl, rfl, hat, kv, sF, key⟩, hg, q⟩ := h
  cases rx; cases ry
  obtain ⟨hd, xs, r, hz, dd⟩ := dict_of I sF hat kv
  refine tail_any dd.typeIs PySem.F.slot_dict_getitem.lookup ?_ hs
  rcases kvt_get kv k with ⟨g1, g2⟩ | ⟨b', v', d', g1, g2, g3⟩
  · rw [hg] at g2; cases g2
  · rcases rel_get r k with ⟨h1, h2⟩ | ⟨b2, v2, u2, h1, h2, h3⟩
    · rw [g1] at h1; cases h1
    · rw [g1] at h1; cases h1
      rw [hg] at g2; cases g2
      exact wpAny_getItem_heap (tupleKind_room_in1 hu) (key_at I (dd_mono sF key)) dd h2 ⟨v', H, I.tok _, h3, q v' g3⟩
theorem dv_getD (i : Nat) {x : Str} {kvs : List (List Str × D)} {k : List Str} {d : D} {m : Nat} (hr : Room m X.A) (h : slotD Γ i X.prog X.w kvs) (ha : DE X a Γ (.tuple (k.map .str))) (hg : getS kvs k = some d) (hN : X.N[i]? = some x := by rfl) (hv : Vis X.env.scope x := by first | exact Or.inl rfl | exact Or.inr (Or.inl rfl) | exact Or.inr (Or.inr rfl)) (hd : (x == ("__debug__" : Str)) = false := by decide)
    (hcd : (x == ("__classdict__" : Str)) = false := by decide) (hs : PlainIx a := by exact fun _ _ => rfl) : DE X (.Subscript (.Name x p) a pos) Γ d :=
  pe_weak (pe_ix (ix_dict (by have := hr.un; omega)) (pe_var hN hv hd hcd) ha hs) fun σ H Q ⟨H0, F, st, q⟩ => by
    obtain ⟨a', ws, ev, hat, kv⟩ := st.dict h
    refine ⟨_, ev, H0, F, st, fun v F1 H1 g1 ok1 => ?_⟩
    cases ok1 with
    | @tup b o vs _ hh hn hdd => exact ⟨k, kvs, F1, a', b, ws, d, ⟨rfl, rfl, hat.gr g1.h, kv.mono g1.f, g1.s, .tup hh hn hdd⟩, hg, fun v' hv' => q v' F1 H1 g1 hv'⟩
/-- d.get(e, f) -/
def tGet2 (X : Cx) (td ty tx : TE) : TE := fun σ H Q => td σ H fun x H1 => ∃ a ws, x = .ref a ∧ DAt X.prog X.w H1 a ws ∧ ty σ H1 fun y H2 => tx σ H2 fun z H3 => ∃ k kvs F b, DRd X H3 x y k kvs F a b ws ∧
  (getS kvs k = none → Q z H3) ∧ ∀ d v, getS kvs k = some d → Dd F v d → Q v H3
theorem pe_get2 {o f : Expr} {td ty tx : TE} {apos cpos : Pos} (hu : X.A.units + 1 < cLine) (ho : PE X o td) (he : PE X e ty) (hf : PE X f tx) (m : M2 X o "get" apos e f cpos) : PE X (.Call (.Attribute o "get" apos) [e, f] [] cpos) (tGet2 X td ty tx) := by
  refine ⟨fun pins s σ H Q I h => ?_⟩
  refine wpAny_Call_method m.base m.few m.line PySem.F.plainAttrs_dict PySem.F.slot_dict_get PySem.F.type_dict_get (thn (ho.run pins s σ H _ I h) fun u s1 ⟨x, H1, I1, rx, a, ws, ex, hat, q1⟩ => ?_)
  subst ex
  obtain rfl : u = Value.ref a := rx
  obtain ⟨z, y, xs, r, ob, es, ep, g1, g2, g3⟩ := dictR_of I1 hat
  refine ⟨⟨ob, g1, g2.1⟩, fun b q => (by cases q; exact ⟨ob, g1, g2.2.1⟩), ?_⟩
  rw [m.trees]
  refine Calls.callWith_builtin rfl (Calls.evalArgs_plain (Calls.spliced_cons (thn (he.run pins s1 σ H1 _ I1 q1) fun iv s2 ⟨y, H2, I2, ry, q2⟩ =>
    Calls.spliced_cons (thn (hf.run pins s2 σ H2 _ I2 q2) fun fv s3 ⟨z, H3, I3, rz, k, kvs, F, b, ⟨_, ey, hat3, kv, sF, key⟩, qn, qs⟩ => Calls.spliced_nil ?_))))
  subst ey
  cases ry
  obtain ⟨hd, xs3, r3, hz3, dd⟩ := dict_of I3 sF hat3 kv
  refine call_meetsIn PySem.F.slot_dict_get dd.typeIs PySem.F.entry_dict_get (PySem.F.args_dict_get_3 _ _ _) (meetsH_dict_get_default (tupleKind (mixKind X.prog X.w)) a b hd fv) ⟨tupleKind_room_in1 hu, k.map Sum.inr, xs3, key_at I3 (dd_mono sF key), dd, ?_⟩
  rcases kvt_get kv k with ⟨g1, g2⟩ | ⟨b', v', d', g1, g2, g3⟩
  · rcases rel_get r3 k with ⟨h1, h2⟩ | ⟨b2, v2, u2, h1, h2, h3⟩
    · rw [h2]; exact ⟨z, H3, I3.tok _, rz, qn g2⟩
    · rw [g1] at h1; cases h1
  · rcases rel_get r3 k with ⟨h1, h2⟩ | ⟨b2, v2, u2, h1, h2, h3⟩
    · rw [g1] at h1; cases h1
    · rw [g1] at h1; cases h1
      rw [h2]
      exact ⟨v', H3, I3.tok _, h3, qs d' v' g2 g3⟩
theorem dv_get2 (i : Nat) {x : Str} {f : Expr} {kvs : List (List Str × D)} {k : List Str} {d : D} {m : Nat} {apos cpos : Pos} (hr : Room m X.A) (h : slotD Γ i X.prog X.w kvs) (ha : DE X a Γ (.tuple (k.map .str))) (hf : DE X f Γ d) (hN : X.N[i]? = some x := by rfl) (hv : Vis X.env.scope x := by first | exact Or.inl rfl | exact Or.inr (Or.inl rfl) | exact Or.inr (Or.inr rfl)) (hd : (x == ("__debug__" : Str)) = false := by decide)
    (hcd : (x == ("__classdict__" : Str)) = false := by decide) (M : M2 X (.Name x p) "get" apos a f cpos := by exact ⟨rfl, rfl, rfl, rfl⟩) : DE X (.Call (.Attribute (.Name x p) "get" apos) [a, f] [] cpos) Γ ((getS kvs k).getD d) :=
  pe_weak (pe_get2 (by have := hr.un; omega) (pe_var hN hv hd hcd) ha hf M) fun σ H Q ⟨H0, F, st, q⟩ => by
    obtain ⟨a', ws, ev, hat, kv⟩ := st.dict h
    refine ⟨_, ev, a', ws, rfl, hat, H0, F, st, fun v F1 H1 g1 ok1 => ⟨H0, F1, st.gr g1, fun z F2 H2 g2 ok2 => ?_⟩⟩
    cases ok1 with
    | @tup b o vs _ hh hn hdd =>
      refine ⟨k, kvs, F2, b, ⟨rfl, rfl, hat.gr (g1.trans g2).h, kv.mono (g1.trans g2).f, g2.s, dd_mono g2.f (.tup hh hn hdd)⟩, fun e => ?_, fun d' v' e hv' => ?_⟩
      · refine q z F2 H2 (g1.trans g2) ?_
        rw [e]; exact ok2
      · refine q v' F2 H2 (g1.trans g2) ?_
        rw [e]; exact hv'
/-! ### {} and {k: v} -/
def tNewT (X : Cx) : TE := fun _ H Q => ∀ p, H p = none → Q (.ref p) (upd H p (DictO X.prog X.w p []))
theorem pe_newT : PE X (.Dict [] [] pos) (tNewT X) := ⟨fun pins s σ H Q I h =>
  wpAny_Dict_empty ⟨.ref s.heap.objs.size, _, I.laid (a := s.heap.objs.size) (o := DictO X.prog X.w s.heap.objs.size []) (t' := s.toks) (fun _ _ q => Heap.get?_push_of_some _ q) (Nat.le_refl _) (dictO_ok (dictR_new s.heap I.big)), rfl, h _ (I.hok.fresh (Nat.le_refl _))⟩⟩
theorem dv_newT : DV X (.Dict [] [] pos) Γ (.dt X.prog X.w []) := pe_weak pe_newT fun σ H Q ⟨H0, F, st, q⟩ => fun p hp => q _ _ _ (Gr.newO st.sub hp) ⟨p, [], rfl, hp, st.sub.free hp, upd_same, .nil⟩
def tOneT (X : Cx) (tk tv : TE) : TE := fun σ H Q => ∀ p, H p = none → tPairs [(tk, tv)] σ (upd H p (DictO X.prog X.w p [])) fun ps H2 => ∃ F k b v, ps = [(.ref b, v)] ∧ H2 p = some (DictO X.prog X.w p []) ∧ Same F H2 ∧ Dd F (.ref b) (.tuple (k.map .str)) ∧ Q (.ref p) (upd H2 p (DictO X.prog X.w p [(k, b, v)]))
theorem pe_oneT {k v : Expr} {tk tv : TE} (hu : X.A.units + 1 < cLine) (hk : PE X k tk) (hv : PE X v tv) : PE X (.Dict [some k] [v] pos) (tOneT X tk tv) := by
  refine ⟨fun pins s σ H Q I q => ?_⟩
  have hn := I.hok.fresh (Nat.le_refl s.heap.objs.size)
  have I1 := I.laid (a := s.heap.objs.size) (o := DictO X.prog X.w s.heap.objs.size []) (h' := s.heap.push { cls := .type "dict", data := .dict #[] }) (t' := s.toks) (fun _ _ q => Heap.get?_push_of_some _ q) (Nat.le_refl _) (dictO_ok (dictR_new s.heap I.big))
  refine wpAny_Dict_any rfl rfl (by simp) (by simp) (thn ((pps_cons hk hv pps_nil).run pins _ σ _ _ I1 (q _ hn)) fun ws s2 ⟨ps, H2, I2, rel, F, k, b, v, ep, e, sF, key, q2⟩ => ?_)
  subst ep
  cases rel with
  | @cons p1 q1 _ _ hr rr =>
    cases rr
    obtain ⟨u1, u2⟩ := q1
    obtain ⟨r1, r2⟩ := hr
    cases r1
    obtain ⟨z, y, xs, r, o, es, ep, g1, g2, g3, g4, g5⟩ := dictR_of I2 (.inl e)
    cases r
    have dd : s2.heap.DictOfH (tupleKind (mixKind X.prog X.w)) s.heap.objs.size [] := ⟨o, es, ep, g1, g2, g3, g4, (fun x hx => by cases hx), g5⟩
    refine wpAny_storeAllH (knd := tupleKind (mixKind X.prog X.w)) (show X.A.units < cLine by omega) [(.ref b, u2)] [(k.map Sum.inr, b, u2)] [] s2 _ ⟨rfl, rfl, key_at I2 (dd_mono sF key), trivial⟩ dd (by rw [sizeLine_eq]; simp) fun h' tk dd' hs => ⟨.ref s.heap.objs.size, _, ?_, rfl, q2⟩
    obtain ⟨o', es', ep', k1, k2, k3, k4, _, k5⟩ := dd'
    exact d_write I2 (by rw [e]; exact True.intro) hs ⟨o', k1⟩ (dictO_ok ⟨by rw [sizeLine_eq]; simp, y, [(k.map Sum.inr, b, u2)], .cons ⟨rfl, rfl, r2⟩ .nil, o', es', ep', k1, k2, k3, k4, k5⟩)
theorem dv_oneT {k : Expr} {v : Expr} {ks : List Str} {d : D} {m : Nat} (hr : Room m X.A) (hk : DE X k Γ (.tuple (ks.map .str))) (hv : DE X v Γ d) : DV X (.Dict [some k] [v] pos) Γ (.dt X.prog X.w [(ks, d)]) :=
  pe_weak (pe_oneT (by have := hr.un; omega) hk hv) fun σ H Q ⟨H0, F, st, q⟩ => fun p hp => by
    have g0 : Gr F H F (upd H p (DictO X.prog X.w p [])) := Gr.newO st.sub hp
    refine ⟨H0, F, st.gr g0, fun x F1 H1 g1 ok1 => ⟨H0, F1, (st.gr g0).gr g1, fun y F2 H2 g2 ok2 => ?_⟩⟩
    cases ok1 with
    | @tup b o vs _ hh hn hdd =>
      have hp2 : H2 p = some (DictO X.prog X.w p []) := (g1.trans g2).h _ _ upd_same
      have fp2 : F2 p = none := (g1.trans g2).n p (by rw [upd_same]; exact fun z => nomatch z) (st.sub.free hp)
      refine ⟨F2, ks, b, y, rfl, hp2, g2.s, dd_mono g2.f (.tup hh hn hdd), ?_⟩
      have G : Gr F H F2 (upd H2 p (DictO X.prog X.w p [(ks, b, y)])) := by
        have GG := (g0.trans g1).trans g2
        exact ⟨GG.f, fun c o e => by rw [upd_ne (ne_of_none e fp2)]; exact GG.s c o e, fun c o e => by rw [upd_ne (ne_of_none e hp)]; exact GG.h c o e, GG.n⟩
      exact q _ F2 _ G ⟨p, _, rfl, hp, fp2, upd_same, .cons (dd_mono g2.f (.tup hh hn hdd)) ok2 .nil⟩
end
end DL
namespace DL
open PySem PySem.Spec PyProof.Rows L2
/-! ### what one's own name holds is changed where it stands -/
theorem StOk.chg {K : Frag} {H0 F H : Hp} {Γ : Env} {σ : L2.St} (st : StOk K H0 F Γ σ H) {i : Nat} {s s' : Sv} {a : Addr} {o : HO} (h : Γ[i]? = some (some s)) (hs : s.isD = false) (ev : σ[i]? = some (some (.ref a))) (hf : F a = none)
    (ok : SvOk K H0 F (upd H a o) (.ref a) s') : StOk K H0 F (Γ.set i (some s')) σ (upd H a o) := by
  refine ⟨fun b x e => by rw [upd_ne (ne_of_none e hf)]; exact st.sub b x e, by rw [List.length_set]; exact st.len, fun j t e => ?_, fun j k t w b e1 e2 i1 i2 q1 q2 => ?_⟩
  · by_cases hj : i = j
    · subst hj
      obtain ⟨_, e⟩ := get_set_eq e
      cases e
      exact ⟨_, ev, ok⟩
    · rw [get_set_ne hj] at e
      obtain ⟨z, ez, hz⟩ := st.slot j t e
      refine ⟨z, ez, ?_⟩
      cases ht : t.isD with
      | true => exact hz.frozen (Same.refl _) ht
      | false =>
        refine hz.ownStay (Same.refl _) ht (fun b eb => ?_) (fun _ _ n => n)
        have hb : b ≠ a := fun q => hj (st.apart i j _ t a h e hs ht ev (by rw [ez, eb, q]))
        exact upd_ne hb
  · have own : ∀ (l : Nat) y, (Γ.set i (some s'))[l]? = some (some y) → y.isD = false → ∃ z, Γ[l]? = some (some z) ∧ z.isD = false := fun l y el hl => by
      by_cases hl2 : i = l
      · subst hl2; exact ⟨_, h, hs⟩
      · rw [get_set_ne hl2] at el; exact ⟨y, el, hl⟩
    obtain ⟨z1, y1, n1⟩ := own j t e1 i1
    obtain ⟨z2, y2, n2⟩ := own k w e2 i2
    exact st.apart j k z1 z2 b y1 y2 n1 n2 q1 q2
theorem Gr.chg {F0 H0 F H : Hp} {a : Addr} {o : HO} (g : Gr F0 H0 F H) (h0 : H0 a = none) (hf : F a = none) : Gr F0 H0 F (upd H a o) :=
  ⟨g.f, fun b x e => by rw [upd_ne (ne_of_none e hf)]; exact g.s b x e, fun b x e => by rw [upd_ne (ne_of_none e h0)]; exact g.h b x e, g.n⟩
section
variable {X : Cx} {Γ : Env} {a b c e value : Expr} {pos p : Pos} {O : Outs}
/-! ### d[k] = v -/
def rSetT (X : Cx) : TSet := fun o i v H Q => ∃ a b ws k F kvs, o = .ref a ∧ i = .ref b ∧ H a = some (DictO X.prog X.w a ws) ∧ KvT F ws kvs ∧ Same F H ∧ Dd F (.ref b) (.tuple (k.map .str)) ∧ ws.length < sizeLine ∧ Q (upd H a (DictO X.prog X.w a (putW ws k b v)))
theorem set_dT (hu : X.A.units + 1 < cLine) : PSet X (rSetT X) := by
  intro pins s σ H o i v ov iv u Q I ro ri rv h
  obtain ⟨a, b, ws, k, F, kvs, rfl, rfl, e, kv, sF, key, hz, q⟩ := h
  cases ro; cases ri
  obtain ⟨hd, xs, r, hz', dd⟩ := dict_of I sF (.inl e) kv
  refine wpAny_setItem_heap (tupleKind_room_in1 hu) (key_at I (dd_mono sF key)) dd (fun h' dd' hs => ⟨_, ?_, q⟩) hz'
  obtain ⟨o', es', ep', k1, k2, k3, k4, _, k5⟩ := dd'
  exact d_write I (by rw [e]; exact True.intro) hs ⟨o', k1⟩ (dictO_ok ⟨Nat.le_trans (putW_len ws k b v) hz, hd, _, rel_put r k b rv, o', es', ep', k1, k2, k3, k4, k5⟩)
theorem ds_putT (i : Nat) {x : Str} {kvs : List (List Str × D)} {k : List Str} {d : D} {m : Nat} {pos' : Pos} (hr : Room m X.A) (h : Γ[i]? = some (some (.dt X.prog X.w kvs))) (he : DE X e Γ (.tuple (k.map .str))) (hv : DE X value Γ d) (hz : kvs.length < sizeLine) (hn : O.nx (Γ.set i (some (.dt X.prog X.w (putS kvs k d)))))
    (hN : X.N[i]? = some x := by rfl) (hvis : Vis X.env.scope x := by first | exact Or.inl rfl | exact Or.inr (Or.inl rfl) | exact Or.inr (Or.inr rfl)) (hdb : (x == ("__debug__" : Str)) = false := by decide) (hcd : (x == ("__classdict__" : Str)) = false := by decide)
    (hs : swapsWithSole [.Subscript (.Name x p) e pos'] value pos.line X.env = pure false := by rfl) (hw : swappedStores [.Subscript (.Name x p) e pos'] value X.env = pure none := by rfl) (h1 : (assignEach [.Subscript (.Name x p) e pos'] X.env).map (·.2) = [assign (.Subscript (.Name x p) e pos') X.env] := by rfl)
    (ha : ∀ v, assign (.Subscript (.Name x p) e pos') X.env v = (do
      let ov ← holding [v] (eval (.Name x p) X.env)
      let iv ← holding [v, ov] (eval e X.env)
      standAt pos'
      holding [v, ov, iv] (setItem ov iv v)
      release [v, ov, iv] []) := by intro _; rfl) : DS X (.Assign [.Subscript (.Name x p) e pos'] value pos) Γ O :=
  ps_weak (ps_asg hv (pg_sub (pe_var hN hvis hdb hcd) he (set_dT (by have := hr.un; omega)) ha) hs hw h1) fun T σ H ⟨F0, H0, F, g, st, P⟩ => ⟨H0, F, st, fun v F1 H1 g1 ok1 => by
    obtain ⟨u, ev, a, ws, rfl, h0, hf, hh, q⟩ := (st.gr g1).slot i _ h
    refine ⟨_, ev, H0, F1, st.gr g1, fun y F2 H2 g2 ok2 => ?_⟩
    cases ok2 with
    | @tup b o vs _ hh2 hn2 hd2 =>
      have hf2 : F2 a = none := g2.n a (by rw [hh]; exact fun z => nomatch z) hf
      refine ⟨a, b, ws, k, F2, kvs, rfl, rfl, g2.h _ _ hh, q.mono g2.f, g2.s, .tup hh2 hn2 hd2, by rw [kvt_len q]; exact hz, ?_⟩
      refine P.nx _ F2 _ _ hn (((g.trans g1).trans g2).chg h0 hf2) (((st.gr g1).gr g2).chg h rfl ev hf2 ⟨a, _, rfl, h0, hf2, upd_same, kvt_put (q.mono g2.f) (.tup hh2 hn2 hd2) (dd_mono g2.f ok1)⟩)⟩
/-! ### xs[n] = v, xs a list of one's own -/
theorem dda_set {F : Hp} : ∀ {vs : List V} {ds : List D} {v : V} {d : D} (n : Nat), DdAll F vs ds → Dd F v d → DdAll F (vs.set n v) (ds.set n d)
  | _, _, _, _, _, .nil, _ => .nil
  | _, _, _, _, 0, .cons _ q, h => .cons h q
  | _, _, _, _, n + 1, .cons h0 q, h => .cons h0 (dda_set n q h)
theorem ds_setL (i : Nat) {x : Str} {xs : List D} {n : Nat} {d : D} {pos' : Pos} (h : Γ[i]? = some (some (.own xs))) (he : DE X e Γ (.int (n : Nat))) (hv : DE X value Γ d) (hlt : n < xs.length) (hn : O.nx (Γ.set i (some (.own (xs.set n d)))))
    (hN : X.N[i]? = some x := by rfl) (hvis : Vis X.env.scope x := by first | exact Or.inl rfl | exact Or.inr (Or.inl rfl) | exact Or.inr (Or.inr rfl)) (hdb : (x == ("__debug__" : Str)) = false := by decide) (hcd : (x == ("__classdict__" : Str)) = false := by decide)
    (hs : swapsWithSole [.Subscript (.Name x p) e pos'] value pos.line X.env = pure false := by rfl) (hw : swappedStores [.Subscript (.Name x p) e pos'] value X.env = pure none := by rfl) (h1 : (assignEach [.Subscript (.Name x p) e pos'] X.env).map (·.2) = [assign (.Subscript (.Name x p) e pos') X.env] := by rfl)
    (ha : ∀ v, assign (.Subscript (.Name x p) e pos') X.env v = (do
      let ov ← holding [v] (eval (.Name x p) X.env)
      let iv ← holding [v, ov] (eval e X.env)
      standAt pos'
      holding [v, ov, iv] (setItem ov iv v)
      release [v, ov, iv] []) := by intro _; rfl) : DS X (.Assign [.Subscript (.Name x p) e pos'] value pos) Γ O :=
  ps_weak (ps_asg hv (pg_sub (pe_var hN hvis hdb hcd) he set_list ha) hs hw h1) fun T σ H ⟨F0, H0, F, g, st, P⟩ => ⟨H0, F, st, fun v F1 H1 g1 ok1 => by
    obtain ⟨u, ev, a, ws, rfl, h0, hf, hh, q⟩ := (st.gr g1).slot i _ h
    refine ⟨_, ev, H0, F1, st.gr g1, fun y F2 H2 g2 ok2 => ?_⟩
    cases ok2
    have hf2 : F2 a = none := g2.n a (by rw [hh]; exact fun z => nomatch z) hf
    have hl := dda_length q
    refine ⟨a, ws, (n : Int), n, rfl, rfl, g2.h _ _ hh, by unfold ixN; rw [if_pos (by omega), if_pos (by omega)]; simp, ?_⟩
    exact P.nx _ F2 _ _ hn (((g.trans g1).trans g2).chg h0 hf2) (((st.gr g1).gr g2).chg h rfl ev hf2 ⟨a, _, rfl, h0, hf2, upd_same, dda_set n (dda_mono g2.f q) (dd_mono g2.f ok1)⟩)⟩
/-! ### a dict is locked: read from here on, never written -/
theorem dss_lock (i : Nat) {kvs : List (List Str × D)} {sts : List Stmt} (h : Γ[i]? = some (some (.dt X.prog X.w kvs))) (hd : DSs X sts (Γ.set i (some (.ft X.prog X.w kvs))) O) : DSs X sts Γ O := by
  refine ⟨fun pins s σ H T I ⟨F0, H0, F, g, st, P⟩ => ?_⟩
  obtain ⟨v, ev, a, ws, rfl, h0, hf, hh, q⟩ := st.slot i _ h
  obtain ⟨od, I1⟩ := I.lock hh True.intro
  have sF : Same F (upd F a (.frz od (DictO X.prog X.w a ws))) := same_upd hf
  have sFH : Same (upd F a (.frz od (DictO X.prog X.w a ws))) (upd H a (.frz od (DictO X.prog X.w a ws))) := fun b x e => by
    by_cases hb : b = a
    · subst hb; rw [upd_same] at e ⊢; exact e
    · rw [upd_ne hb] at e ⊢; exact st.sub b x e
  refine hd.run pins s σ _ T I1 ⟨F0, H0, upd F a (.frz od (DictO X.prog X.w a ws)), ⟨g.f.trans sF, sFH, fun b x e => by rw [upd_ne (ne_of_none e h0)]; exact g.h b x e, fun b h1 h2 => ?_⟩, ⟨sFH, by rw [List.length_set]; exact st.len, fun j t e => ?_, fun j k t w b e1 e2 i1 i2 q1 q2 => ?_⟩, P⟩
  · have : b ≠ a := fun q => h1 (q ▸ h0)
    rw [upd_ne this]; exact g.n b h1 h2
  · by_cases hj : i = j
    · subst hj
      obtain ⟨_, e⟩ := get_set_eq e
      cases e
      exact ⟨_, ev, a, ws, od, rfl, upd_same, q.mono sF⟩
    · rw [get_set_ne hj] at e
      obtain ⟨z, ez, hz⟩ := st.slot j t e
      refine ⟨z, ez, ?_⟩
      have ne : t.isD = false → ∀ b, z = .ref b → b ≠ a := fun ht b eb q => hj (st.apart i j _ t a h e rfl ht ev (by rw [ez, eb, q]))
      cases ht : t.isD with
      | true => exact hz.frozen sF ht
      | false => exact hz.ownStay sF ht (fun b eb => upd_ne (ne ht b eb)) (fun b eb n => by rw [upd_ne (ne ht b eb)]; exact n)
  · have own : ∀ (l : Nat) y, (Γ.set i (some (.ft X.prog X.w kvs)))[l]? = some (some y) → y.isD = false → Γ[l]? = some (some y) := fun l y el hl => by
      by_cases hl2 : i = l
      · subst hl2; rw [(Option.some.inj (get_set_eq el).2)] at hl; cases hl
      · rw [get_set_ne hl2] at el; exact el
    exact st.apart j k t w b (own j t e1 i1) (own k w e2 i2) i1 i2 q1 q2
/-! ### for k in d -/
theorem Inv.frzD {pins : List (Addr × Obj)} {σ : L2.St} {H : Hp} {s : Shared} {d : Addr} {o : Obj} {ws : List (List Str × Addr × V)} (I : Inv X pins σ H s) (h : H d = some (.frz o (DictO X.prog X.w d ws))) :
    (d == sysModules) = false ∧ s.heap.get? d = some o ∧ o.ExactDict ∧ ∃ (es : Array DictEntry) (ep : Nat), o.data = .dict es ep ∧ es.size = ws.length ∧ ∀ (i : Nat) (k : List Str) (b : Addr) (v : V), ws[i]? = some (k, b, v) → ∃ (en : DictEntry), es[i]? = some en ∧ en.key = .ref b := by
  obtain ⟨hd, hh⟩ := I.hok d _ h
  obtain ⟨z, y, xs, r, o', es, ep, h1, h2, h3, h4, h5⟩ := hh.1
  rw [hd] at h1
  cases h1
  refine ⟨y, hd, h2, es, ep, h3, ?_, fun i k b v e => ?_⟩
  · have l1 : es.size = xs.length := by rw [← Array.length_toList, h4, List.length_map]
    have l2 : ws.length = xs.length := Paired.length r
    omega
  · obtain ⟨x, hx, e1, e2, _⟩ := paired_get r e
    refine ⟨entryOfKey (tupleKind (mixKind X.prog X.w)) x, ?_, ?_⟩
    · rw [← Array.getElem?_toList, h4, List.getElem?_map, hx]; rfl
    · show Value.ref x.2.1 = _
      rw [e2]
def Itf (P : Program) (w : World) (d : Addr) (o : Obj) (ws : List (List Str × Addr × V)) : It :=
  ⟨fun i H => H d = some (.frz o (DictO P w d ws)) ∧ i < ws.length, fun i H x H' => H' = H ∧ ∃ (k : List Str) (b : Addr) (v : V), ws[i]? = some (k, b, v) ∧ x = .ref b, fun i H => H d = some (.frz o (DictO P w d ws)) ∧ ws.length ≤ i⟩
theorem turn_keysF {P : Program} {w : World} {K : Frag} {tg : Expr} {d : Addr} {o : Obj} {es : Array DictEntry} {ep : Nat} {ws : List (List Str × Addr × V)} (it : Addr) (hod : o.data = .dict es ep) : Turn P w K tg (Itf P w d o ws) [it] it (fun i h => h.IsKeyIter it d i ws.length ep) where
  mem := by simp
  obj := fun i h st b hb => by
    have e : b = it := by simpa using hb
    subst e
    obtain ⟨oi, e, c, dd⟩ := st
    exact ⟨oi, e, fun v z => by rw [dd] at z; cases z⟩
  keep := fun i h h' st k => st.at fun oi e => k it (by simp) oi e
  item := by
    intro X hP hw hK hc i pins s σ H E I hf st hg
    subst hP hw hK
    obtain ⟨hd, hi⟩ := hg
    obtain ⟨f0, f1, f2, f3, f4, f5⟩ := hf it (by simp)
    obtain ⟨hs, hgd, hx, es', ep', hdt, hsz, ent⟩ := Inv.frzD I hd
    obtain ⟨rfl, rfl⟩ := dict_ep hod hdt
    obtain ⟨⟨k, b, v⟩, hkv⟩ : ∃ p, ws[i]? = some p := ⟨ws[i], List.getElem?_eq_getElem hi⟩
    obtain ⟨en, hen, hkey⟩ := ent i k b v hkv
    refine next_key_item st hgd hdt hsz hen fun h' st' sb => ?_
    have I1 : Inv X pins σ H { s with heap := h' } := I.turned (t' := s.toks) (fun b ob hb e => (sb.2 b hb).trans e) f0 f1 f3 f4 f5
    obtain ⟨oi, e, c, dd⟩ := id st'
    exact ⟨en.key, rfl, go_of (s := { s with heap := h' }) e c dd (by decide) ⟨.ref b, H, I1, hkey, ⟨rfl, k, b, v, hkv, rfl⟩, st', fun b hb => (hf b hb).1⟩⟩
  done := by
    intro X hP hw hK hc i pins s σ H E I hf st hg
    subst hP hw hK
    obtain ⟨hd, hi⟩ := hg
    obtain ⟨f0, f1, f2, f3, f4, f5⟩ := hf it (by simp)
    obtain ⟨hs, hgd, hx, es', ep', hdt, hsz, ent⟩ := Inv.frzD I hd
    obtain ⟨rfl, rfl⟩ := dict_ep hod hdt
    exact next_key_end (I.ok.hd hc) st hgd hdt hsz hi fun h' eb => ⟨rfl, I.turned (t' := s.toks) (fun b ob hb e => eb b ob hb e) f0 f1 f3 f4 f5⟩
  self := fun A i s Q E st h => by
    refine wpAny_pyIter_slot st.typeIs F.slot_dict_keyiterator_iter (wpAny_call_entry F.slot_dict_keyiterator_iter st.typeIs F.entry_dict_keyiterator_iter ?_ (F.args_dict_keyiterator_iter_1 _))
    show wpAny _ _ (ret (.ref it)) _ _ s
    exact wpAny_pure ⟨_, rfl, "dict_keyiterator", _, st.typeIs, F.slot_dict_keyiterator_next.lookup, h⟩
theorem pi_keysF {tg : Expr} {td : TE} (he : PE X e td) : PI X tg e (fun σ H R => td σ H fun x H1 => ∃ d o ws, x = .ref d ∧ H1 d = some (.frz o (DictO X.prog X.w d ws)) ∧ R (Itf X.prog X.w d o ws) H1) := by
  refine ⟨fun pins s σ H R I h => ?_⟩
  refine thn (he.run pins s σ H _ I h) fun u s1 ⟨x, H1, I1, rx, d, o, ws, ex, hd, q⟩ => ?_
  subst ex
  obtain rfl : u = Value.ref d := rx
  obtain ⟨hs, hgd, hx, es, ep, hdt, hsz, ent⟩ := Inv.frzD I1 hd
  refine iter_keys hs hgd hx hdt (pi_one (tk := s1.toks) I1 _ (turn_keysF _ hdt) ⟨_, Heap.get?_push_size _ rfl, rfl, ?_⟩ q)
  rw [hsz] <;> rfl
theorem kvt_at {F : Hp} {ws : List (List Str × Addr × V)} {kvs : List (List Str × D)} (h : KvT F ws kvs) : ∀ {i : Nat} {k : List Str} {b : Addr} {v : V}, ws[i]? = some (k, b, v) → ∃ d, kvs[i]? = some (k, d) ∧ Dd F (.ref b) (.tuple (k.map .str)) ∧ Dd F v d := by
  induction h with
  | nil => intro i k b v e; simp at e
  | @cons k0 b0 v0 d0 r q hb hd t ih =>
    intro i k b v e
    cases i with
    | zero => simp at e; obtain ⟨rfl, rfl, rfl⟩ := e; exact ⟨_, rfl, hb, hd⟩
    | succ n => simpa using ih (by simpa using e)
theorem di_keysF (i : Nat) {tg : Expr} {x : Str} {kvs : List (List Str × D)} (h : Γ[i]? = some (some (.ft X.prog X.w kvs))) (hN : X.N[i]? = some x := by rfl) (hv : Vis X.env.scope x := by first | exact Or.inl rfl | exact Or.inr (Or.inl rfl) | exact Or.inr (Or.inr rfl)) (hd : (x == ("__debug__" : Str)) = false := by decide)
    (hcd : (x == ("__classdict__" : Str)) = false := by decide) : DIS X tg (.Name x p) Γ ((kvs.map (·.1)).map fun k => .tuple (k.map .str)) := pi_weak (pi_keysF (pe_var hN hv hd hcd)) fun σ H R ⟨H0, F, st, q⟩ => by
  obtain ⟨v, ev, a, ws, o, rfl, hf, kv⟩ := st.slot i _ h
  have hl := kvt_len kv
  refine ⟨_, ev, a, o, ws, rfl, st.sub _ _ hf, q _ F H (Gr.refl st.sub) ⟨fun k H s hk => ⟨s _ _ hf, by rw [List.length_map, List.length_map] at hk; omega⟩, fun H s => ⟨s _ _ hf, by rw [List.length_map, List.length_map]; omega⟩, fun k H x H' s hk y => ?_⟩⟩
  obtain ⟨e, kk, b, v, hw, rfl⟩ := y
  obtain ⟨d, h1, h2, h3⟩ := kvt_at kv hw
  exact ⟨e, _, by rw [List.getElem?_map, List.getElem?_map, h1]; rfl, h2⟩
/-! ### len(d) -/
theorem call_lenF : CallR X (.builtin "len") (fun xs H Q => ∃ p ws kvs F, xs = [.ref p] ∧ DAt X.prog X.w H p ws ∧ KvT F ws kvs ∧ Same F H ∧ Q (.int ((kvs.length : Nat) : Int)) H) := by
  intro pins s σ H xs us Q I r h
  obtain ⟨p, ws, kvs, F, rfl, hp, kv, sF, q⟩ := h
  obtain ⟨u, rfl, rx⟩ := vals1 r
  obtain rfl : u = .ref p := rx
  obtain ⟨hd, ys, rel, z, dd⟩ := dict_of I sF hp kv
  have hl : kvs.length = ys.length := by rw [← kvt_len kv]; exact Paired.length rel
  refine call_len_dictH hd dd (by rw [sizeLine_eq] at z; omega) ?_
  rw [← hl]
  exact ⟨.int ((kvs.length : Nat) : Int), H, I.tok _, ⟨_, rfl⟩, q⟩
theorem dv_lenF (i : Nat) {x : Str} {kvs : List (List Str × D)} {q : Pos} (B : Blt X "len" (.builtin "len")) (h : slotD Γ i X.prog X.w kvs) (hN : X.N[i]? = some x := by rfl) (hv : Vis X.env.scope x := by first | exact Or.inl rfl | exact Or.inr (Or.inl rfl) | exact Or.inr (Or.inr rfl)) (hd : (x == ("__debug__" : Str)) = false := by decide)
    (hcd : (x == ("__classdict__" : Str)) = false := by decide) (pl : Pl X (.Name x q) [] pos := by exact ⟨rfl, rfl⟩) : DE X (.Call (.Name "len" p) [.Name x q] [] pos) Γ (.int kvs.length) :=
  pe_weak (pe_callB call_lenF B.g B.m B.b (pa_cons (pe_var hN hv hd hcd) pa_nil pl.1) (he := pl.1) (hpl := pl.2)) fun σ H Q ⟨H0, F, st, k⟩ => by
    obtain ⟨a', ws, ev, hat, kv⟩ := st.dict h
    exact ⟨_, ev, a', ws, kvs, F, rfl, hat, kv, st.sub, k _ F H (Gr.refl st.sub) (.int _)⟩
/-! ### xs.count(n) -/
theorem dv_cntI {ss : List Int} {z : Int} {o : Expr} {apos cpos : Pos} (ho : DE X o Γ (.list (ss.map PyData.int))) (ha : DE X e Γ (.int z)) (M : MForm X o "count" e apos cpos := by exact ⟨rfl, rfl, rfl, rfl, rfl⟩) : DE X (.Call (.Attribute o "count" apos) [e] [] cpos) Γ (.int (ss.count z : Nat)) :=
  dv_meth PySem.F.plainAttrs_list PySem.F.slot_list_count PySem.F.type_list_count mt_lcount ho ha (fun _ _ h => tyL h _) (fun _ _ _ => tyL_mono) (fun F H x y s h1 h2 Q q => by
    cases h2
    cases h1 with
    | lst hh hd =>
      have e := dda_ints hd; subst e
      exact ⟨_, ss, z, rfl, rfl, SqL.of (s _ _ hh), q _ F H (Gr.refl s) (.int _)⟩) M
end
end DL
namespace DL
open PySem PySem.Spec PyProof.Rows L2
/-! ### dicts whose keys are texts, never written once they stand -/
def lookK (kvs : List (Str × D)) (k : Str) : Option D := (kvs.find? fun x => decide (x.1 = k)).map (·.2)
theorem kvk_look {F : Hp} {ws : List (Key × V)} {kvs : List (Str × D)} (h : KvK F ws kvs) {k : Str} {d : D} (e : lookK kvs k = some d) : ∃ v, valV ws (Sum.inr k) = some v ∧ Dd F v d := by
  unfold lookK at e
  induction h with
  | nil => cases e
  | @cons k' v d' r q hd t ih =>
    rw [List.find?_cons] at e
    by_cases z : k' = k
    · rw [decide_eq_true z] at e
      cases e
      exact ⟨v, valV_pos (by rw [z]), hd⟩
    · rw [decide_eq_false z] at e
      obtain ⟨v', e1, e2⟩ := ih e
      exact ⟨v', by rw [valV_neg (fun y => z (Sum.inr.inj y))]; exact e1, e2⟩
theorem merge_new : ∀ (more kvs : List (Key × V)), ((kvs ++ more).map (·.1)).Nodup → mergeK kvs more = kvs ++ more
  | [], kvs, _ => by rw [List.append_nil]; rfl
  | p :: r, kvs, n => by
    have hp : ∀ x ∈ kvs, x.1 ≠ p.1 := fun x hx e => by
      rw [List.map_append, List.nodup_append] at n
      exact n.2.2 x.1 (List.mem_map.mpr ⟨x, hx, rfl⟩) p.1 (by simp) e
    have e : putK kvs p.1 p.2 = kvs ++ [p] := by
      unfold putK
      rw [if_neg]
      intro z
      obtain ⟨x, hx, hx2⟩ := List.any_eq_true.mp z
      exact hp x hx (of_decide_eq_true hx2)
    show mergeK (putK kvs p.1 p.2) r = _
    rw [e, merge_new r (kvs ++ [p]) (by rw [List.append_assoc]; exact n), List.append_assoc]; rfl
section
variable {X : Cx} {Γ : Env} {a b c e : Expr} {pos p : Pos}
theorem Gr.newF {F H : Hp} {p : Addr} {o : HO} (s : Same F H) (h : H p = none) : Gr F H (upd F p o) (upd H p o) := Gr.new s h
/-- {"a": "b", ..}: four pairs of texts -/
theorem dv_disp4 {a1 b1 a2 b2 a3 b3 a4 b4 : Str} {p1 p2 p3 p4 q1 q2 q3 q4 : Pos} {j1 j2 j3 j4 l1 l2 l3 l4} (hn : [a1, a2, a3, a4].Nodup) :
    DV X (.Dict [some (.Constant (.str a1) j1 p1), some (.Constant (.str a2) j2 p2), some (.Constant (.str a3) j3 p3), some (.Constant (.str a4) j4 p4)] [.Constant (.str b1) l1 q1, .Constant (.str b2) l2 q2, .Constant (.str b3) l3 q3, .Constant (.str b4) l4 q4] pos) Γ
      (.fk [(a1, .str b1), (a2, .str b2), (a3, .str b3), (a4, .str b4)]) :=
  pe_weak (pe_disp (pps_cons pe_str pe_str (pps_cons pe_str pe_str (pps_cons pe_str pe_str (pps_cons pe_str pe_str pps_nil)))) rfl rfl (by simp) (show 4 ≤ 15 by decide)) fun σ H Q ⟨H0, F, st, q⟩ => fun r hr => by
    refine ⟨upd_same, [(Sum.inr a1, .str b1), (Sum.inr a2, .str b2), (Sum.inr a3, .str b3), (Sum.inr a4, .str b4)], rfl, show 4 ≤ 15 by decide, ?_⟩
    rw [merge_new _ [] ?_]
    · have e : upd (upd H r (.dK [])) r (.dK ([] ++ [(Sum.inr a1, V.str b1), (Sum.inr a2, .str b2), (Sum.inr a3, .str b3), (Sum.inr a4, .str b4)])) = upd H r (.dK [(Sum.inr a1, V.str b1), (Sum.inr a2, .str b2), (Sum.inr a3, .str b3), (Sum.inr a4, .str b4)]) := by
        funext x
        unfold upd
        split <;> rfl
      rw [e]
      exact q _ _ _ (Gr.new st.sub hr) ⟨r, _, rfl, upd_same, .cons (.str _) (.cons (.str _) (.cons (.str _) (.cons (.str _) .nil)))⟩
    · show ([a1, a2, a3, a4].map (Sum.inr : Str → Key)).Nodup
      exact List.pairwise_map.mpr (List.Pairwise.imp (fun h z => h (Sum.inr.inj z)) hn)
theorem pairs_dd {K : Frag} {F H : Hp} (s : Same F H) : ∀ {vs : List V} {ps : List (Str × D)}, DdAll F vs (ps.map fun p => .tuple [.str p.1, p.2]) → ∃ (as : List Addr) (ws : List (Key × V)), vs = as.map V.ref ∧ Paired (fun a kv => SqT K H a [kV kv.1, kv.2]) as ws ∧ KvK F ws ps ∧ ws.map (·.1) = ps.map fun p => Sum.inr p.1
  | _, [], .nil => ⟨[], [], rfl, .nil, .nil, rfl⟩
  | _, p :: ps, .cons h t => by
    obtain ⟨as, ws, e1, e2, e3, e4⟩ := pairs_dd (K := K) s t
    cases h with
    | @tup a o vs _ hh hn hd =>
      obtain ⟨u, v, rfl, hu, hv⟩ := dda_two hd
      cases hu
      exact ⟨a :: as, (Sum.inr p.1, v) :: ws, by rw [e1]; rfl, .cons (.inl (.inr ⟨_, s _ _ hh⟩)) e2, .cons hv e3, by rw [List.map_cons, List.map_cons, e4]⟩
/-- dict(xs), xs a list of pairs -/
theorem dv_dictP {ps : List (Str × D)} (B : Blt X "dict" (.type "dict")) (h : DE X e Γ (.list (ps.map fun p => .tuple [.str p.1, p.2]))) (hn : (ps.map (·.1)).Nodup) (hc : X.calm = true := by rfl) (pl : Pl X e [] pos := by exact ⟨rfl, rfl⟩) : DV X (.Call (.Name "dict" p) [e] [] pos) Γ (.fk ps) :=
  dv_ty1 (call_dictP hc) B (da_one h pl.1) (fun F H vs s hd Q k => by
    obtain ⟨v, rfl, hv⟩ := dda_one hd
    cases hv with
    | lst hh hd =>
      obtain ⟨as, ws, rfl, e2, e3, e4⟩ := pairs_dd (K := X.K) s hd
      refine ⟨_, as, ws, rfl, SqL.of (s _ _ hh), e2, fun r hr => ?_⟩
      rw [merge_new ws [] ?_]
      · exact k _ _ _ (Gr.new s hr) ⟨r, _, rfl, upd_same, (e3.mono (same_upd (s.free hr)))⟩
      · show (ws.map (·.1)).Nodup
        rw [e4]
        have : ((ps.map (·.1)).map (Sum.inr : Str → Key)).Nodup := List.pairwise_map.mpr (List.Pairwise.imp (fun h z => h (Sum.inr.inj z)) hn)
        rw [List.map_map] at this
        exact this) pl
/-- d[e] -/
theorem dv_getK (i : Nat) {x : Str} {kvs : List (Str × D)} {k : Str} {d : D} {m : Nat} (hr : Room m X.A) (h : Γ[i]? = some (some (.fk kvs))) (ha : DE X a Γ (.str k)) (hg : lookK kvs k = some d) (hN : X.N[i]? = some x := by rfl) (hv : Vis X.env.scope x := by first | exact Or.inl rfl | exact Or.inr (Or.inl rfl) | exact Or.inr (Or.inr rfl)) (hd : (x == ("__debug__" : Str)) = false := by decide)
    (hcd : (x == ("__classdict__" : Str)) = false := by decide) (hs : NoSl a := by exact fun _ _ => rfl) : DE X (.Subscript (.Name x p) a pos) Γ d :=
  pe_weak (pe_dget (by have := hr.un; omega) (pe_var hN hv hd hcd) ha hs) fun σ H Q ⟨H0, F, st, q⟩ => by
    obtain ⟨v, ev, a', ws, rfl, hf, kv⟩ := st.slot i _ h
    refine ⟨_, ev, H0, F, st, fun y F1 H1 g1 ok1 => ?_⟩
    cases ok1
    obtain ⟨u, e1, e2⟩ := kvk_look kv hg
    exact ⟨a', u, rfl, .inl ⟨ws, Sum.inr k, .inl (g1.s _ _ (g1.f _ _ hf)), rfl, e1.symm⟩, q u F1 H1 g1 (dd_mono g1.f e2)⟩
/-- .. handed to a def -/
theorem dc_fk (i : Nat) {x : Str} {es : List Expr} {kvs : List (Str × D)} {ss : List Sv} (h : Γ[i]? = some (some (.fk kvs))) (r : DC X es Γ ss) (hN : X.N[i]? = some x := by rfl) (hv : Vis X.env.scope x := by first | exact Or.inl rfl | exact Or.inr (Or.inl rfl) | exact Or.inr (Or.inr rfl)) (hd : (x == ("__debug__" : Str)) = false := by decide)
    (hcd : (x == ("__classdict__" : Str)) = false := by decide) (hs : starEach (.Name x p :: es) X.env = (false, eval (.Name x p) X.env) :: starEach es X.env := by rfl) : DC X (.Name x p :: es) Γ (.fk kvs :: ss) :=
  pa_weak (pa_cons (pe_var hN hv hd hcd) r hs) fun σ H Q ⟨H0, F, st, q⟩ => by
    obtain ⟨v, ev, a, ws, rfl, hf, kv⟩ := st.slot i _ h
    exact ⟨_, ev, H0, F, st, fun vs F2 H2 g2 ok2 => q _ F2 H2 g2 (.cons ⟨rfl, a, ws, rfl, g2.f _ _ hf, kv.mono g2.f⟩ ok2)⟩
end
end DL
namespace DL
open PySem PySem.Spec PyProof.Rows L2
/-! ### how many different texts -/
def addS (acc : List Str) (x : Str) : List Str := if x ∈ acc then acc else acc ++ [x]
def nubS (xs : List Str) : List Str := xs.foldl addS []
theorem nubS_snoc (xs : List Str) (x : Str) : nubS (xs ++ [x]) = addS (nubS xs) x := by unfold nubS; rw [List.foldl_append]; rfl
theorem mem_addS {acc : List Str} {x y : Str} : y ∈ addS acc x ↔ y ∈ acc ∨ y = x := by
  unfold addS
  split
  · rename_i h
    exact ⟨.inl, fun z => z.elim id fun e => e ▸ h⟩
  · rw [List.mem_append, List.mem_singleton]
theorem nubS_ind {p : List Str → Prop} (h0 : p []) (h1 : ∀ l x, p l → p (l ++ [x])) (l : List Str) : p l := by
  have : ∀ n (l : List Str), l.length = n → p l := by
    intro n
    induction n with
    | zero => intro l hl; rw [List.eq_nil_of_length_eq_zero hl]; exact h0
    | succ n ih =>
      intro l hl
      have hne : l ≠ [] := fun e => by rw [e] at hl; simp at hl
      rw [← List.dropLast_concat_getLast hne]
      exact h1 _ _ (ih _ (by rw [List.length_dropLast]; omega))
  exact this _ l rfl
theorem mem_nubS {xs : List Str} {y : Str} : y ∈ nubS xs ↔ y ∈ xs := by
  induction xs using nubS_ind with
  | h0 => rfl
  | h1 l x ih => rw [nubS_snoc, mem_addS, ih, List.mem_append, List.mem_singleton]
theorem nubS_nd (xs : List Str) : (nubS xs).Nodup := by
  induction xs using nubS_ind with
  | h0 => exact List.nodup_nil
  | h1 l x ih =>
    rw [nubS_snoc]
    unfold addS
    split
    · exact ih
    · rename_i h
      rw [List.nodup_append]
      exact ⟨ih, by simp, fun a ha b hb e => by rw [List.mem_singleton.mp hb] at e; exact h (e ▸ ha)⟩
theorem nubS_le (xs : List Str) : (nubS xs).length ≤ xs.length := by
  induction xs using nubS_ind with
  | h0 => exact Nat.le_refl _
  | h1 l x ih =>
    rw [nubS_snoc, List.length_append]
    unfold addS
    split
    · simp; omega
    · rw [List.length_append]; simp; omega
theorem any_take {xs : List Str} {i : Nat} (h : i < xs.length) (y : Str) : ((xs.take (i + 1)).any (· == y)) = (((xs.take i).any (· == y)) || decide (y = xs[i])) := by
  rw [List.take_add_one, List.getElem?_eq_getElem h, List.any_append]
  congr 1
  by_cases e : y = xs[i]
  · rw [decide_eq_true e]; simp [e]
  · rw [decide_eq_false e]
    have : (xs[i] == y) = false := beq_eq_false_iff_ne.mpr fun z => e z.symm
    simp [this]
theorem nub_take {xs : List Str} {i : Nat} (h : i < xs.length) : (nubS (xs.take (i + 1))).length = if (xs.take i).any (· == xs[i]) = true then (nubS (xs.take i)).length else (nubS (xs.take i)).length + 1 := by
  rw [List.take_add_one, List.getElem?_eq_getElem h]
  show (nubS (xs.take i ++ [xs[i]])).length = _
  rw [nubS_snoc]
  unfold addS
  have e : (xs.take i).any (· == xs[i]) = decide (xs[i] ∈ xs.take i) := by
    by_cases z : xs[i] ∈ xs.take i
    · rw [decide_eq_true z]; exact List.any_eq_true.mpr ⟨_, z, beq_self_eq_true _⟩
    · rw [decide_eq_false z]
      refine Bool.eq_false_iff.mpr fun q => ?_
      obtain ⟨x, hx, e⟩ := List.any_eq_true.mp q
      exact z (beq_iff_eq.mp e ▸ hx)
  rw [e]
  by_cases z : xs[i] ∈ xs.take i
  · rw [if_pos (mem_nubS.mpr z), if_pos (decide_eq_true z)]
  · rw [if_neg fun q => z (mem_nubS.mp q), if_neg (by rw [decide_eq_false z]; exact Bool.false_ne_true), List.length_append]; rfl
/-! ### set(texts): the turns -/
section
variable {prog : Program} {w : World} {A : Around} {R : Result → Shared → Prop} {I : Addr} {fp wr : List Addr} {G : Array GenState → Array GenState → Prop} {n : Nat} {P : Nat → Value → Prop} {St : Nat → Shared → Prop}
theorem loop_txt (W : WalksS prog w A.in1 I fp wr G n P St) (S : Addr) (hSf : S ∉ fp) (xs : List Str) (hsz : xs.length = n) (hb : n + 1 < scanBound) (hval : ∀ i v, P i v → ∃ t, v = .str (xs.getD i Str.empty) t) :
    ∀ (k i : Nat) (s : Shared), n - i = k → i ≤ n → St i s → s.heap.SetOf (strKind prog w) S (fun y => (xs.take i).any (· == y)) (nubS (xs.take i)).length →
      (∀ s', Moved (S :: wr) G s s' → s'.heap.SetOf (strKind prog w) S (fun y => xs.any (· == y)) (nubS xs).length → R (.ok (.ret .none)) s') → codeAny (model prog w) A (.builtin "set.update.loop" ⟨[.ref S, .ref I], []⟩) R s
  | 0, i, s, hk, hi, hst, hS, hR => by
    have e : i = n := by omega
    subst e
    refine codeAny_builtin PyProof.Rows.F.entry_set_update_loop ?_
    rw [Around.under_plainId PyProof.Rows.F.plain_set_update_loop _]
    show wpAny _ A.in1 (pyNext (.ref I) >>= _) _ _ s
    refine wpAny_bind (W.done s _ _ hst fun s' hm => wpAny_pure (hR s' (hm.mono fun b hb => List.mem_cons_of_mem _ hb) ?_))
    rw [List.take_of_length_le (by omega)] at hS
    obtain ⟨o, es, ep, t, ho, rest⟩ := hS
    exact ⟨o, es, ep, t, hm.heap S _ (fun z => hSf (W.sub _ z)) ho, rest⟩
  | k + 1, i, s, hk, hi, hst, hS, hR => by
    have hlt : i < n := by omega
    have hlx : i < xs.length := by omega
    refine codeAny_builtin PyProof.Rows.F.entry_set_update_loop ?_
    rw [Around.under_plainId PyProof.Rows.F.plain_set_update_loop _]
    show wpAny _ A.in1 (pyNext (.ref I) >>= _) _ _ s
    refine wpAny_bind (W.item i s _ _ hlt hst fun v s' hP hst' hm => ?_)
    obtain ⟨t, rfl⟩ := hval i v hP
    have ex : xs.getD i Str.empty = xs[i] := by rw [List.getD_eq_getElem?_getD, List.getElem?_eq_getElem hlx]; rfl
    rw [ex]
    have hS' : s'.heap.SetOf (strKind prog w) S (fun y => (xs.take i).any (· == y)) (nubS (xs.take i)).length := by
      obtain ⟨o, es, ep, tb, ho, rest⟩ := hS
      exact ⟨o, es, ep, tb, hm.heap S _ (fun z => hSf (W.sub _ z)) ho, rest⟩
    have hnb := nubS_le (xs.take i)
    rw [List.length_take] at hnb
    show wpAny _ A.in1 (holding [Value.str xs[i] t] (setAdd S (.str xs[i] t)) >>= _) _ _ s'
    refine wpAny_bind (wpAny_holding ?_)
    unfold setAdd
    refine wpAny_holding (wpAny_bind ((strKind prog w).pyHash (k := xs[i]) (strKind_is _ _ _ _) ?_))
    refine wpAny_setAddHashed_of (knd := strKind prog w) (s := { s' with toks := s'.toks + 1 }) (strKind_is _ _ _ _) rfl hS' (by omega) fun h' hsb hS2 => ?_
    have hSi : h'.SetOf (strKind prog w) S (fun y => (xs.take (i + 1)).any (· == y)) (nubS (xs.take (i + 1))).length := PyProof.Rows.SetOf_congr hS2 (fun y => (any_take hlx y).symm) (nub_take hlx).symm
    refine wpAny_pure ⟨plainId_quiet PyProof.Rows.F.plain_set_update_loop _, loop_txt W S hSf xs hsz hb hval k (i + 1) _ (by omega) hlt (W.frame _ s' _ _ hst' (Nat.le_succ _) fun b hb o e => ?_) hSi fun s'' hm'' hS'' => ?_⟩
    · rw [hsb.2 b fun z => hSf (z ▸ hb)]; exact e
    · refine hR s'' (Moved.trans W.gtrans ((hm.mono fun b hb => List.mem_cons_of_mem _ hb).then_heap (Nat.le_succ _) fun b o hb e => ?_) hm'') hS''
      rw [hsb.2 b fun z => hb (z ▸ List.mem_cons_self)]; exact e
end
section
variable {prog : Program} {w : World} {A : Around} {E : Value → Shared → Prop} {s : Shared}
/-- the new, empty set -/
abbrev set0 (led : Bool) : Obj := { cls := .type "set", dict := none, data := .set #[] 0 (.fresh 0 0 led) }
theorem strs_get : ∀ {vs : List Value} {xs : List Str} {i : Nat} {v : Value}, StrsAre vs xs → vs[i]? = some v → ∃ t, v = .str (xs.getD i Str.empty) t
  | _, _, _, _, .nil, h => by simp at h
  | _, _, 0, _, .cons x t r, h => by simp at h; subst h; exact ⟨t, rfl⟩
  | _, _, i + 1, v, .cons x t r, h => by
    obtain ⟨u, e⟩ := strs_get (i := i) (v := v) r (by simpa using h)
    exact ⟨u, by rw [e]; rfl⟩
/-- what holds behind set.__init__ -/
def SetIs (prog : Program) (w : World) (xs : List Str) (s s2 : Shared) : Prop := ∃ h' tk, s2 = { s with heap := h', toks := tk } ∧ h'.SetOf (strKind prog w) s.heap.objs.size (fun y => xs.any (· == y)) (nubS xs).length ∧ ∀ b o, b < s.heap.objs.size → s.heap.get? b = some o → h'.get? b = some o
theorem init_txt {l : Addr} {items : Array Value} {xs : List Str} {led : Bool} {E' : Value → Shared → Prop} (hh : A.handled = none) (hl : s.heap.IsList l items) (hi : StrsAre items.toList xs) (hb : xs.length + 1 < scanBound) :
    codeAny (model prog w) A (.call (.builtin "set.__init__") ⟨[.ref s.heap.objs.size, .ref l], []⟩) (wants (fun r s2 => r = .none ∧ SetIs prog w xs s s2) E') { s with heap := s.heap.push (set0 led) } := by
  have hS : (s.heap.push (set0 led)).get? s.heap.objs.size = some (set0 led) := Heap.get?_push_size _ rfl
  refine codeAny_call_builtin PySem.F.called_set.init.plain PySem.F.entry_set_init (check_set_init_1 ⟨_, hS, rfl⟩ ?_)
  obtain ⟨⟨ocls, odict, odata, oslots⟩, hol, hcl, nl, hdl⟩ := hl
  simp only at hcl hdl
  subst hcl hdl
  have hol' : (s.heap.push (set0 led)).get? l = some { cls := .type "list", dict := odict, data := .seq items nl, slots := oslots } := Heap.get?_push_of_some _ hol
  have hsls := PySem.F.sub_list_set
  have hslf := PySem.F.sub_list_frozenset
  have hne : (Value.type "list" == Value.type "dict") = false := by decide
  have hl1 : (s.heap.push (set0 led)).IsList l items := ⟨_, hol', rfl, nl, rfl⟩
  unfold Builtin.«set.__init__» noKeywords Builtin.Frozenset.updateFrom
  generalize hPI : pyIter = PI
  wp_walk
  subst hPI
  have hlS : l < s.heap.objs.size := Heap.lt_size hol
  have sz1 : (s.heap.push (set0 led)).objs.size = s.heap.objs.size + 1 := Heap.size_push ..
  refine wpAny_pyIter_list hl1 (wpAny_bind (wpAny_runValue ?_))
  have hsz : xs.length = items.size := by rw [← StrsAre.len_eq hi, Array.length_toList]
  refine loop_txt ((Walks.list (by simp [hh]) _ l (by rw [sz1]; exact Nat.ne_of_lt (Nat.lt_succ_of_lt hlS)) items).toS) s.heap.objs.size (by rw [sz1]; simp only [List.mem_cons, List.not_mem_nil, or_false, not_or]; exact ⟨Nat.ne_of_lt (Nat.lt_succ_self _), Nat.ne_of_gt hlS⟩) xs hsz (by omega) (fun i v hv => strs_get hi (by rw [Array.getElem?_toList]; exact hv)) (items.size - 0) 0 _ (by omega) (Nat.zero_le _) ⟨⟨_, Heap.get?_push_size _ rfl, rfl, rfl⟩, hl1.push _⟩ ?_ fun s' hm hS' => ?_
  · exact PyProof.Rows.SetOf_congr ((PyProof.Rows.setObjOf_fresh (knd := strKind prog w) led).setOf (Heap.get?_push_of_some _ hS) (by unfold scanBound; omega)) (fun _ => rfl) rfl
  · obtain ⟨h', g', d', tk', os'⟩ := s'
    have eg : g' = s.gens := hm.gens
    have ed : d' = s.drawn := hm.drawn
    have eo : os' = s.os := hm.os
    subst eg ed eo
    show wpAny _ _ _ _ _ _
    refine wpAny_pure ?_
    show wpAny _ _ (ret Value.none) _ _ _
    refine wpAny_pure ⟨rfl, h', tk', rfl, hS', fun b o hb e => hm.heap b o ?_ (Heap.get?_push_of_some _ (Heap.get?_push_of_some _ e))⟩
    rw [sz1]
    simp only [List.mem_cons, List.not_mem_nil, or_false, not_or]
    exact ⟨Nat.ne_of_lt hb, Nat.ne_of_lt (Nat.lt_succ_of_lt hb)⟩
/-- set(xs), xs a list of texts -/
theorem call_set_txt {l : Addr} {items : Array Value} {xs : List Str} {Q : Value → Shared → Prop} (hh : A.handled = none) (hl : s.heap.IsList l items) (hi : StrsAre items.toList xs) (hb : xs.length + 1 < scanBound)
    (h : ∀ s2, SetIs prog w xs s s2 → Q (.ref s.heap.objs.size) s2) : wpAny (model prog w) A (call (.type "set") [.ref l]) Q E s := by
  obtain ⟨c, tl, hmro⟩ := PySem.F.called_set.mro
  have hmade := PySem.F.called_set.made
  have hsub := PySem.F.called_set.sub
  refine wpAny_call (codeAny_of_tree ?_)
  show wpAny _ _ (callAny (.type "set") _) _ _ _
  refine wpAny_pure ⟨Code.quiet_builtin _ (by decide +kernel), codeAny_builtin PySem.F.entry_type_call ?_⟩
  rw [Around.under_plain (weight_type_call_type "set" [.ref l] []) rfl]
  have h1 := PySem.F.called_set.notType
  have h2 := PySem.F.called_set.canCreate
  have hct := PySem.F.typeCall_set_1 (.ref l)
  repeat (any_goals (first | assumption | wp_step))
  refine codeAny_mono (code_set_new_1 (.ref l) (E := E) (Q₁ := fun obj s₁ => ∃ led : Bool, obj = .ref s.heap.objs.size ∧ s₁ = { s with heap := s.heap.push (set0 led) }) fun led => ⟨led, rfl, rfl⟩) fun r s₁ hr => ?_
  cases r with
  | error e => exact hr
  | ok fl =>
    cases fl with
    | ret obj =>
      obtain ⟨led, rfl, rfl⟩ := hr
      have hS : (s.heap.push (set0 led)).get? s.heap.objs.size = some (set0 led) := Heap.get?_push_size _ rfl
      have hT : Shared.TypeIs { s with heap := s.heap.push (set0 led) } (.ref s.heap.objs.size) "set" := ⟨_, hS, rfl⟩
      have hli := PySem.F.called_set.init.lookup
      have hbi := PySem.F.called_set.init.bind (.ref s.heap.objs.size)
      repeat (any_goals (first | assumption | wp_step))
      refine codeAny_mono (init_txt (led := led) (E' := E) (by simp [hh]) hl hi hb) fun r₂ s₂ hr₂ => ?_
      cases r₂ with
      | error e => exact hr₂
      | ok fl₂ =>
        cases fl₂ with
        | ret r =>
          obtain ⟨rfl, q⟩ := hr₂
          obtain ⟨h', tk, rfl, q2⟩ := id q
          repeat (any_goals (first | assumption | wp_step))
          exact h _ q
        | _ => exact hr₂.elim
    | _ => exact hr.elim
end
section
variable {X : Cx} {Γ : Env} {a : Expr}
def tLenTxt (K : Frag) (ta : TE) : TE := fun σ H Q => ta σ H fun x H1 => ∃ (l : Addr) (xs : List Str), x = .ref l ∧ SqL K H1 l (xs.map V.str) ∧ xs.length ≤ 1000 ∧ Q (.int ((nubS xs).length : Nat)) H1
theorem pe_lenTxt {ta : TE} {p p2 q pos : Pos} (hc : X.calm = true) (hg : Gl X "len") (hm : X.mg "len" = none) (hg2 : Gl X "set") (hm2 : X.mg "set" = none) (ha : PE X a ta)
    (na : starEach [a] X.env = (false, eval a X.env) :: starEach [] X.env := by rfl) : PE X (.Call (.Name "len" p) [.Call (.Name "set" p2) [a] [] q] [] pos) (tLenTxt X.K ta) := by
  refine ⟨fun pins s σ H Q I h => ?_⟩
  refine Call_ (ld_blt I hg hm boot_len ?_)
  refine PyProof.Rows.callWith_builtin1 (PyProof.Rows.args_cons ?_ rfl) rfl rfl
  refine Call_ (ld_blt I hg2 hm2 boot_set ?_)
  refine PyProof.Rows.callWith_type1 (PyProof.Rows.args_cons (thn (ha.run pins s σ H _ I h) fun v s1 ⟨x, H1, I1, r1, q1⟩ => PyProof.Rows.args_nil ?_) na) na rfl
  obtain ⟨l, xs, rfl, hq, h1, q1⟩ := q1
  cases r1
  obtain ⟨its, r, pl, hz⟩ := I1.list hq
  refine call_set_txt (I1.ok.hd hc) pl.isList (by simpa using r.strs) (by unfold scanBound; omega) fun s2 z => ?_
  obtain ⟨h', tk, rfl, hS, hk⟩ := z
  refine PyProof.Rows.args_nil ?_
  obtain ⟨o, es, ep, t, ho, hex, hd, _, _, _, hf, hn⟩ := hS
  have I2 : Inv X pins σ H1 { s1 with heap := h', toks := tk } := I1.kept fun b o e => hk b o (Heap.lt_size e) e
  have hnb := nubS_le xs
  refine call_len_set ho hex hd hf (by rw [hn]; omega) ⟨.int ((nubS xs).length : Nat), H1, I2.tok _, ⟨_, by rw [hn]⟩, q1⟩
/-- len(set(xs)) -/
theorem dv_lenSet {xs : List Str} {p p2 q pos : Pos} (B : Blt X "len" (.builtin "len")) (B2 : Blt X "set" (.type "set")) (h : DE X a Γ (.list (xs.map .str))) (hz : xs.length ≤ 1000) (hc : X.calm = true := by rfl) (na : starEach [a] X.env = (false, eval a X.env) :: starEach [] X.env := by rfl) :
    DE X (.Call (.Name "len" p) [.Call (.Name "set" p2) [a] [] q] [] pos) Γ (.int ((nubS xs).length : Nat)) :=
  pe_weak (pe_lenTxt hc B.g B.m B2.g B2.m h na) fun σ H Q ⟨H0, F, st, k⟩ => ⟨H0, F, st, fun v F1 H1 g ok => by
    cases ok with
    | lst hh hd =>
      have e := dda_strs hd; subst e
      exact ⟨_, xs, rfl, SqL.of (g.s _ _ hh), hz, k _ F1 H1 g (.int _)⟩⟩
end
end DL
namespace DL
open PySem PySem.Spec PyProof.Rows L2
/-! ### sorted(d), d a locked dict whose keys are tuples of texts -/
section
variable {prog : Program} {w : World} {A : Around} {E : Value → Shared → Prop} {s : Shared}
theorem walks_raw (hh : A.handled = none) (I d : Addr) (hne : d ≠ I) {o : Obj} {es : Array DictEntry} {ep : Nat} (hd : o.data = .dict es ep) :
    Walks prog w A I [I, d] [I] es.size (fun i v => ∃ en, es[i]? = some en ∧ v = en.key) (fun i h => h.IsKeyIter I d i es.size ep ∧ h.get? d = some o) where
  sub := fun b hb => by simp at hb; simp [hb]
  frame := fun _ _ _ st hk => ⟨st.1.at fun o e => hk I (by simp) o e, hk d (by simp) o st.2⟩
  item := fun i s Q E hi st hQ => next_key_item st.1 st.2 hd rfl (Array.getElem?_eq_getElem hi) fun h' it' sb => hQ _ h' s.toks ⟨_, Array.getElem?_eq_getElem hi, rfl⟩ ⟨it', (sb.2 d hne).trans st.2⟩ fun b o hb e => (sb.2 b fun z => hb (by simp [z])).trans e
  done := fun s Q E st hQ => next_key_end hh st.1 st.2 hd rfl (Nat.le_refl _) fun h' eb => hQ h' s.toks fun b o hb e => eb b o (fun z => hb (by simp [z])) e
  self := fun _ _ _ _ st hQ => wpAny_pyIter_keyiter st.1 hQ
theorem src_raw {d : Addr} {o : Obj} {es : Array DictEntry} {ep : Nat} (lo : (d == sysModules) = false) (hc : o.ExactDict) (hd : o.data = .dict es ep) :
    PySem.W.KdlSrc prog w "dict" d d es.size (fun i v => ∃ en, es[i]? = some en ∧ v = en.key) (fun h => h.get? d = some o) where
  type := fun _ hm => ⟨o, hm, hc.1⟩
  there := fun _ hm => ⟨Heap.lt_size hm, Heap.lt_size hm⟩
  keep := fun _ _ hm hk => hk d (.inl rfl) o hm
  notList := by decide
  notTuple := by decide
  hint := fun _ _ _ _ hm hq => PySem.W.kdl_hint_dict ⟨o, hm, hc.1⟩ hq
  iter := fun A s hh hm => ⟨_, _, (fun _ _ hq => iter_keys lo hm hc hd hq), walks_raw hh _ d (Nat.ne_of_lt (Heap.lt_size hm)) hd, ⟨⟨_, Heap.get?_push_size _ rfl, rfl, rfl⟩, Heap.get?_push_of_some _ hm⟩⟩
end
def encK (k : List Str) : D := .tuple (k.map .str)
def sortK (ks : List (List Str)) : List (List Str) := ks.mergeSort (PySem.W.dataLe false encK)
theorem sortK_perm (ks : List (List Str)) : (sortK ks).Perm ks := List.mergeSort_perm _ _
theorem alike_strs : ∀ a b : List Str, PySem.W.alikeAll (a.map .str) (b.map .str) = true
  | [], _ => rfl
  | _ :: _, [] => rfl
  | x :: a, y :: b => by
    show (PySem.W.alike (.str x) (.str y) && PySem.W.alikeAll (a.map .str) (b.map .str)) = true
    rw [alike_strs a b]; rfl
theorem depth_strs : ∀ a : List Str, PyData.depthAll (a.map .str) = 0
  | [] => rfl
  | x :: a => by
    show max (PyData.depth (.str x)) (PyData.depthAll (a.map .str)) = 0
    rw [depth_strs a]; rfl
section
variable {X : Cx} {pins : List (Addr × Obj)} {σ : L2.St} {H F : Hp} {s : Shared}
theorem reads_str {h : Heap} : ∀ {k : List Str} {its : List Value}, Vals (k.map V.str) its → ReadsAll h its (k.map .str) []
  | [], _, .nil => .nil
  | x :: k, _, .cons r t => by
    obtain ⟨tk, rfl⟩ := r
    exact .cons (as := []) (.str x tk) (reads_str t)
theorem reads_key (I : Inv X pins σ H s) {b : Addr} {k : List Str} (h : Dd H (.ref b) (.tuple (k.map .str))) : Reads s.heap (.ref b) (encK k) [] := by
  cases h with
  | tup hh hn hd =>
    have e := dda_strs hd; subst e
    obtain ⟨its, rv, ⟨o, h1, h2, n, h3⟩, _⟩ := I.tuple (xs := k.map V.str) (.inl (.inr ⟨_, hh⟩))
    exact .tuple h1 h2 h3 (by simpa using reads_str (h := s.heap) rv)
theorem each_get {α β : Type} {R : α → β → Prop} : ∀ {as : List α} {bs : List β}, as.length = bs.length → (∀ (j : Nat) (a : α), as[j]? = some a → ∃ b, bs[j]? = some b ∧ R a b) → PySem.W.EachIs R as bs
  | [], [], _, _ => .nil
  | [], _ :: _, h, _ => by simp at h
  | _ :: _, [], h, _ => by simp at h
  | a :: as, b :: bs, h, f => by
    obtain ⟨b', e, r⟩ := f 0 a rfl
    simp at e; subst e
    exact .cons r (each_get (by simpa using h) fun j x hx => by
      obtain ⟨b', e, r⟩ := f (j + 1) x (by simpa using hx)
      exact ⟨b', by simpa using e, r⟩)
theorem each_refs : ∀ {vs : List Value} {L : List (List Str × Addr)}, PySem.W.EachIs (fun v q => v = Value.ref q.2) vs L → Vals (L.map fun q => V.ref q.2) vs
  | _, _, .nil => .nil
  | _, _, .cons h t => .cons h (each_refs t)
theorem each_all {α β : Type} {R S : α → β → Prop} (f : ∀ a b, R a b → S a b) : ∀ {as : List α} {bs : List β}, PySem.W.EachIs R as bs → PySem.W.EachIs S as bs
  | _, _, .nil => .nil
  | _, _, .cons h t => .cons (f _ _ h) (each_all f t)
theorem call_sortedF (hc : X.calm = true) (hu : X.A.units + 64 < cLine) : CallR X (.builtin "sorted") (fun xs H Q => ∃ (d : Addr) (o : Obj) (ws : List (List Str × Addr × V)) (kvs : List (List Str × D)) (F : Hp), xs = [.ref d] ∧ H d = some (.frz o (DictO X.prog X.w d ws)) ∧ KvT F ws kvs ∧ Same F H ∧ (∀ k ∈ kvs.map (·.1), k ≠ []) ∧
    ∀ p (L : List (List Str × Addr)), L.map (·.1) = sortK (kvs.map (·.1)) → (∀ q ∈ L, Dd F (.ref q.2) (.tuple (q.1.map .str))) → H p = none → Q (.ref p) (upd H p (.lst (L.map fun q => .ref q.2)))) := by
  intro pins s σ H xs us Q I r h
  obtain ⟨d, o, ws, kvs, F, rfl, hd, kv, sF, hne, q⟩ := h
  obtain ⟨u, rfl, rx⟩ := vals1 r
  obtain rfl : u = .ref d := rx
  obtain ⟨hs, hgd, hx, es, ep, hdt, hsz, ent⟩ := Inv.frzD I hd
  have hz : ws.length ≤ sizeLine := (dictR_of I (.inr ⟨o, hd⟩)).1
  have hkeys : (ws.map fun w => (w.1, w.2.1)).map (·.1) = kvs.map (·.1) := by
    clear q hne hd ent hsz hz
    induction kv with
    | nil => rfl
    | cons _ _ _ ih => simp only [List.map_cons] at ih ⊢; rw [ih]
  have hdd : ∀ q ∈ ws.map (fun w => (w.1, w.2.1)), Dd F (.ref q.2) (.tuple (q.1.map .str)) := fun q hq => by
    obtain ⟨x, hx, rfl⟩ := List.mem_map.mp hq
    obtain ⟨i, hi, e⟩ := List.getElem_of_mem hx
    obtain ⟨d', _, h2, _⟩ := kvt_at kv (i := i) (k := x.1) (b := x.2.1) (v := x.2.2) (by rw [List.getElem?_eq_getElem hi, e])
    exact h2
  refine Calls.call_function_entry kind_sorted plain_sorted entry_sorted (args_sorted1 _) ?_
  unfold Builtin.«sorted»
  refine wpAny_bind (m := checkCount "sorted" 1 1 _) (wpAny_pure ?_)
  refine wpAny_bind (PySem.W.kdu_collect (A := X.A.in1) (src_raw hs hx hdt) (I.ok.hd hc) hgd (by omega) fun h' tk acc hk hacc => ?_)
  have hal : acc.toList.length = ws.length := by rw [Array.length_toList, hacc.1, hsz]
  have each : PySem.W.EachIs (fun v q => v = Value.ref q.2) acc.toList (ws.map fun w => (w.1, w.2.1)) := each_get (by rw [List.length_map]; exact hal) fun j v e => by
    obtain ⟨en, e1, rfl⟩ := hacc.2 j v (by rw [← Array.getElem?_toList]; exact e)
    have hj : j < ws.length := by
      have := (List.getElem?_eq_some_iff.mp e).1; omega
    obtain ⟨en', e2, e3⟩ := ent j ws[j].1 ws[j].2.1 ws[j].2.2 (List.getElem?_eq_getElem hj)
    rw [e1] at e2; cases e2
    exact ⟨_, by rw [List.getElem?_map, List.getElem?_eq_getElem hj]; rfl, e3⟩
  have I1 : Inv X pins σ H { s with heap := h', toks := tk } := I.kept hk
  refine wpAny_bind (wpAny_newList ?_ (by omega))
  have hoL : (h'.push (seqObj "list" acc.toList.toArray 0)).get? h'.objs.size = some (seqObj "list" acc.toList.toArray 0) := Heap.get?_push_size _ rfl
  show wpAny _ _ _ _ _ { s with heap := h'.push (seqObj "list" acc.toList.toArray 0), toks := tk }
  generalize hbs : (ws.map fun w => (w.1, w.2.1)) = bs at hkeys hdd each
  have hbl : bs.length = ws.length := by rw [← hbs, List.length_map]
  have er : PySem.W.EachIs (fun v (q : List Str × Addr) => ∃ as, Reads (h'.push (seqObj "list" acc.toList.toArray 0)) v (encK q.1) as ∧ h'.objs.size ∉ as) acc.toList bs := by
    refine each_all (fun v q e => ?_) (PySem.W.each_mem each)
    obtain ⟨e1, e2⟩ := e
    subst e1
    exact ⟨[], PyProof.Rows.Reads.keeps (fun b o e => Heap.get?_push_of_some _ e) (reads_key I1 (dd_mono sF (hdd q e2))), by simp⟩
  refine wpAny_bind (wpAny_holding (PySem.W.list_sort_data (enc := fun (q : List Str × Addr) => encK q.1) (s := { s with heap := h'.push (seqObj "list" acc.toList.toArray 0), toks := tk }) hoL each er ?_ ?_ (by omega) ?_ fun out hol hout => ?_))
  · exact PySem.W.AllAlike.of fun a b => alike_strs a.1 b.1
  · refine .inl fun z hz => ?_
    obtain ⟨q, hq, rfl⟩ := List.mem_map.mp hz
    have : q.1 ≠ [] := hne q.1 (by rw [← hkeys]; exact List.mem_map.mpr ⟨q, hq, rfl⟩)
    cases e : q.1 with
    | nil => exact absurd e this
    | cons x l => exact ⟨_, _, rfl⟩
  · intro b _
    show X.A.units + 1 + 1 + (PyData.depthAll (b.1.map .str) + 1) < cLine
    rw [depth_strs]; omega
  · obtain ⟨ep', he'⟩ := PyProof.Rows.sortedHeap_at (vs := acc.toList) (out := out.toArray) hoL
    have hsz2 : (h'.push (seqObj "list" acc.toList.toArray 0)).objs.size = h'.objs.size + 1 := Heap.size_push ..
    have ev := each_refs hout
    have hL : ((bs.mergeSort (PySem.W.dataLe false fun (q : List Str × Addr) => encK q.1)).map (·.1)) = sortK (kvs.map (·.1)) := by
      rw [← hkeys]
      exact List.map_mergeSort fun a _ b _ => rfl
    refine wpAny_pure ⟨_, rfl, .ref _, upd H h'.objs.size (.lst ((bs.mergeSort (PySem.W.dataLe false fun (q : List Str × Addr) => encK q.1)).map fun q => V.ref q.2)), I1.laid (t' := tk) (fun b o e => ?_) (Nat.le_refl _) ⟨by rw [List.length_map, List.length_mergeSort]; omega, out, ep', ev, he'⟩, rfl, q _ _ hL (fun z hz => hdd z ((List.mergeSort_perm _ _).mem_iff.mp hz)) I1.fresh⟩
    have hlt : b < h'.objs.size := Heap.lt_size e
    show (PyProof.Rows.sortedHeap _ _ _ _).get? b = _
    rw [PyProof.Rows.sortedHeap_old (Nat.ne_of_lt hlt) (by rw [hsz2]; exact Nat.lt_succ_of_lt hlt)]
    exact Heap.get?_push_of_some _ e
end
section
variable {X : Cx} {Γ : Env} {p pos : Pos}
theorem dv_sortD (i : Nat) {x : Str} {kvs : List (List Str × D)} {q : Pos} {m : Nat} (hr : Room m X.A) (B : Blt X "sorted" (.builtin "sorted")) (h : Γ[i]? = some (some (.ft X.prog X.w kvs))) (hne : ∀ k ∈ kvs.map (·.1), k ≠ []) (hc : X.calm = true := by rfl) (hN : X.N[i]? = some x := by rfl) (hv : Vis X.env.scope x := by first | exact Or.inl rfl | exact Or.inr (Or.inl rfl) | exact Or.inr (Or.inr rfl)) (hd : (x == ("__debug__" : Str)) = false := by decide)
    (hcd : (x == ("__classdict__" : Str)) = false := by decide) (pl : Pl X (.Name x q) [] pos := by exact ⟨rfl, rfl⟩) : DV X (.Call (.Name "sorted" p) [.Name x q] [] pos) Γ (.own ((sortK (kvs.map (·.1))).map encK)) :=
  pe_weak (pe_callB (call_sortedF hc hr.units) B.g B.m B.b (pa_cons (pe_var hN hv hd hcd) pa_nil pl.1) (he := pl.1) (hpl := pl.2)) fun σ H Q ⟨H0, F, st, k⟩ => by
    obtain ⟨v, ev, a, ws, o, rfl, hf, kv⟩ := st.slot i _ h
    refine ⟨_, ev, a, o, ws, kvs, F, rfl, st.sub _ _ hf, kv, st.sub, hne, fun r L hL hdd hr => k _ _ _ (Gr.newO st.sub hr) ⟨r, _, rfl, hr, st.sub.free hr, upd_same, ?_⟩⟩
    rw [← hL]
    clear hL
    induction L with
    | nil => exact .nil
    | cons z L ih => exact .cons (hdd z List.mem_cons_self) (ih fun q hq => hdd q (List.mem_cons_of_mem _ hq))
end
end DL
namespace DL
open PySem PySem.Spec PyProof.Rows L2
section
variable {X : Cx} {Γ : Env} {a b c e : Expr} {pos p : Pos}
/-! ### a frozen thing by its name -/
theorem dv_varF (i : Nat) {x : Str} {s : Sv} (h : Γ[i]? = some (some s)) (hs : s.isD = true) (hN : X.N[i]? = some x := by rfl) (hv : Vis X.env.scope x := by first | exact Or.inl rfl | exact Or.inr (Or.inl rfl) | exact Or.inr (Or.inr rfl)) (hd : (x == ("__debug__" : Str)) = false := by decide)
    (hcd : (x == ("__classdict__" : Str)) = false := by decide) : DV X (.Name x pos) Γ s := pe_weak (pe_var hN hv hd hcd) fun σ H Q ⟨H0, F, st, q⟩ => by
  obtain ⟨v, e, ok⟩ := st.slot i _ h
  exact ⟨v, e, q v F H (Gr.refl st.sub) (ok.frozen (Same.refl _) hs)⟩
/-! ### for k, v in d.items() -/
theorem Inv.frzI {pins : List (Addr × Obj)} {σ : L2.St} {H : Hp} {s : Shared} {d : Addr} {o : Obj} {ws : List (List Str × Addr × V)} (I : Inv X pins σ H s) (h : H d = some (.frz o (DictO X.prog X.w d ws))) :
    (d == sysModules) = false ∧ s.heap.get? d = some o ∧ o.ExactDict ∧ ∃ (es : Array DictEntry) (ep : Nat), o.data = .dict es ep ∧ es.size = ws.length ∧ ∀ (i : Nat) (k : List Str) (b : Addr) (v : V), ws[i]? = some (k, b, v) → ∃ (en : DictEntry), es[i]? = some en ∧ en.key = .ref b ∧ RelV v en.val := by
  obtain ⟨hd, hh⟩ := I.hok d _ h
  obtain ⟨z, y, xs, r, o', es, ep, h1, h2, h3, h4, h5⟩ := hh.1
  rw [hd] at h1
  cases h1
  refine ⟨y, hd, h2, es, ep, h3, ?_, fun i k b v e => ?_⟩
  · have l1 : es.size = xs.length := by rw [← Array.length_toList, h4, List.length_map]
    have l2 : ws.length = xs.length := Paired.length r
    omega
  · obtain ⟨x, hx, e1, e2, e3⟩ := paired_get r e
    refine ⟨entryOfKey (tupleKind (mixKind X.prog X.w)) x, ?_, ?_, e3⟩
    · rw [← Array.getElem?_toList, h4, List.getElem?_map, hx]; rfl
    · show Value.ref x.2.1 = _
      rw [e2]
def Iif (P : Program) (w : World) (d : Addr) (o : Obj) (ws : List (List Str × Addr × V)) : It :=
  ⟨fun i H => H d = some (.frz o (DictO P w d ws)) ∧ i < ws.length, fun i H x H' => ∃ (T : Addr) (k : List Str) (b : Addr) (v : V), ws[i]? = some (k, b, v) ∧ x = .ref T ∧ H T = none ∧ H' = upd H T (.tup [.ref b, v]), fun i H => H d = some (.frz o (DictO P w d ws)) ∧ ws.length ≤ i⟩
theorem turn_itemsF {P : Program} {w : World} {K : Frag} {elts : List Expr} {kk : Nat} {tpos : Pos} {d : Addr} {o : Obj} {es : Array DictEntry} {ep : Nat} {ws : List (List Str × Addr × V)} (it : Addr) (hod : o.data = .dict es ep) :
    Turn P w K (.Tuple elts kk tpos) (Iif P w d o ws) [it] it (fun i h => ∃ ok ov, IsItemIter h it d i ws.length ep ok ov) where
  mem := by simp
  obj := fun i h st b hb => by
    have e : b = it := by simpa using hb
    subst e
    obtain ⟨ok, ov, e⟩ := st
    exact ⟨_, e, fun v z => nomatch z⟩
  keep := fun i h h' st k => let ⟨ok, ov, e⟩ := st; ⟨ok, ov, k it (by simp) _ e⟩
  item := by
    intro X hP hw hK hc i pins s σ H E I hf st hg
    subst hP hw hK
    obtain ⟨hd, hi⟩ := hg
    obtain ⟨hs, hgd, hx, es', ep', hdt, hsz, ent⟩ := Inv.frzI I hd
    obtain ⟨rfl, rfl⟩ := dict_ep hod hdt
    obtain ⟨⟨k, b, v⟩, hkv⟩ : ∃ p, ws[i]? = some p := ⟨ws[i], List.getElem?_eq_getElem hi⟩
    obtain ⟨en, hen, hkey, hval⟩ := ent i k b v hkv
    obtain ⟨ok, ov, he⟩ := st
    have hi2 : i < es'.size := by rw [hsz]; exact hi
    rw [← hsz] at he
    have e1 : es'[i] = en := by rw [Array.getElem?_eq_getElem hi2] at hen; exact Option.some.inj hen
    have hlt : it < s.heap.objs.size := Heap.lt_size he
    refine wpAny_pyNext_items_item_raw he ⟨o, hgd, hx, hdt⟩ hi2 fun h' ho hT hz hk => ?_
    rw [e1] at ho hT
    refine ⟨_, rfl, wpAny_letOwnedTupleGo_items (s := { s with heap := h' }) ho fun h'' he' sb => ?_⟩
    have hT2 : h''.get? s.heap.objs.size = some { cls := .type "tuple", data := .seq #[en.key, en.val] } := (sb.2 _ (Nat.ne_of_gt hlt)).trans hT
    have new : ObjOk X.prog X.w (upd H s.heap.objs.size (.tup [.ref b, v])) h'' s.heap.objs.size (.tup [.ref b, v]) :=
      ⟨by show 2 ≤ sizeLine; decide, [en.key, en.val], .cons hkey (.cons hval .nil), ⟨_, hT2, rfl, _, rfl⟩⟩
    have I1 : Inv X pins σ (upd H s.heap.objs.size (.tup [.ref b, v])) { s with heap := h'' } :=
      I.turnedNew (t' := s.toks) (ch := [it]) (fun b ob hb e => (sb.2 b (by simpa using hb)).trans (hk b ob (by simpa using hb) e)) hf (Nat.le_refl _) new
    refine ⟨.ref s.heap.objs.size, _, I1, rfl, ⟨_, k, b, v, hkv, rfl, I.hok.fresh (Nat.le_refl _), rfl⟩, ⟨en.key, en.val, ?_⟩, fun b hb => ?_⟩
    · rw [← hsz]; exact he'
    · have e : b = it := by simpa using hb
      rw [e, upd_ne (Nat.ne_of_lt hlt)]
      exact (hf it (by simp)).1
  done := by
    intro X hP hw hK hc i pins s σ H E I hf st hg
    subst hP hw hK
    obtain ⟨hd, hi⟩ := hg
    obtain ⟨f0, f1, f2, f3, f4, f5⟩ := hf it (by simp)
    obtain ⟨hs, hgd, hx, es', ep', hdt, hsz, ent⟩ := Inv.frzI I hd
    obtain ⟨rfl, rfl⟩ := dict_ep hod hdt
    obtain ⟨ok, ov, he⟩ := st
    rw [← hsz] at he
    exact wpAny_pyNext_items_end_raw (I.ok.hd hc) he ⟨o, hgd, hx, hdt⟩ (by omega) fun h' eb => ⟨rfl, I.turned (t' := s.toks) (fun b ob hb e => eb b ob hb e) f0 f1 f3 f4 f5⟩
  self := fun A i s Q E st h => let ⟨_, _, e⟩ := st; wpAny_pyIter_itemiter e h
theorem pi_itemsF {td : TE} {apos cpos : Pos} {elts : List Expr} {kk : Nat} {tpos : Pos} (he : PE X e td) (hbase : attributeBase e "items" X.env (eval e X.env) = eval e X.env := by rfl) (hline : (apos.endLine == cpos.line) = true := by rfl) :
    PI X (.Tuple elts kk tpos) (.Call (.Attribute e "items" apos) [] [] cpos) (fun σ H R => td σ H fun x H1 => ∃ d o ws, x = .ref d ∧ H1 d = some (.frz o (DictO X.prog X.w d ws)) ∧ R (Iif X.prog X.w d o ws) H1) := by
  refine ⟨fun pins s σ H R I h => ?_⟩
  refine wpAny_Call_method (T := "dict") (id := "dict.items") hbase rfl hline F.plainAttrs_dict F.slot_dict_items F.type_dict_items (thn (he.run pins s σ H _ I h) fun u s1 ⟨x, H1, I1, rx, d, o, ws, ex, hd, q⟩ => ?_)
  subst ex
  obtain rfl : u = Value.ref d := rx
  obtain ⟨hs, hgd, hx, es, ep, hdt, hsz, ent⟩ := Inv.frzI I1 hd
  have hm : s1.heap.DictRaw d es ep := ⟨o, hgd, hx, hdt⟩
  refine ⟨hm.typeIs, ?_, ?_⟩
  · intro a ea; cases ea; exact ⟨o, hgd, hx.2.1⟩
  have I2 : Inv X pins σ H1 { s1 with heap := s1.heap.push { cls := .type "dict_items", data := .fields #[.ref d] } } := I1.kept (t' := s1.toks) fun b ob q => Heap.get?_push_of_some _ q
  have fin : wpAny (model X.prog X.w) X.A (pyIter (.ref s1.heap.objs.size)) (PIE X pins σ (.Tuple elts kk tpos) R) X.xe { s1 with heap := s1.heap.push { cls := .type "dict_items", data := .fields #[.ref d] } } := by
    refine wpAny_pyIter_items_raw (d := d) ⟨_, Heap.get?_push_size _ rfl, rfl, rfl⟩ (hm.at fun ob q => Heap.get?_push_of_some _ q) (pi_one (tk := s1.toks) I2 _ (turn_itemsF _ hdt) ⟨.none, .none, ?_⟩ q)
    rw [← hsz]
    exact Heap.get?_push_size _ rfl
  show wpAny _ _ (callWith cpos (.builtin "dict.items") [.ref d] [] []) _ X.xe s1
  exact method_meetsIn F.slot_dict_items F.entry_dict_items rfl (PySem.evalArgs_none ⟨rfl, hm.typeIs, F.args_dict_items_1 _, _, meets_dict_items_raw d hs, ⟨es, ep, hm⟩, fin⟩)
theorem di_itemsF (i : Nat) {x : Str} {kvs : List (List Str × D)} {apos cpos : Pos} {elts : List Expr} {kk : Nat} {tpos : Pos} (h : Γ[i]? = some (some (.ft X.prog X.w kvs))) (hN : X.N[i]? = some x := by rfl) (hv : Vis X.env.scope x := by first | exact Or.inl rfl | exact Or.inr (Or.inl rfl) | exact Or.inr (Or.inr rfl)) (hd : (x == ("__debug__" : Str)) = false := by decide)
    (hcd : (x == ("__classdict__" : Str)) = false := by decide) (hbase : attributeBase (.Name x p) "items" X.env (eval (.Name x p) X.env) = eval (.Name x p) X.env := by rfl) (hline : (apos.endLine == cpos.line) = true := by rfl) :
    DIP X (.Tuple elts kk tpos) (.Call (.Attribute (.Name x p) "items" apos) [] [] cpos) Γ (kvs.map fun q => (.tuple (q.1.map .str), q.2)) := pi_weak (pi_itemsF (pe_var hN hv hd hcd) hbase hline) fun σ H R ⟨H0, F, st, q⟩ => by
  obtain ⟨v, ev, a, ws, o, rfl, hf, kv⟩ := st.slot i _ h
  have hl := kvt_len kv
  refine ⟨_, ev, a, o, ws, rfl, st.sub _ _ hf, q _ F H (Gr.refl st.sub) ⟨fun k H s hk => ⟨s _ _ hf, by rw [List.length_map] at hk; omega⟩, fun H s => ⟨s _ _ hf, by rw [List.length_map]; omega⟩, fun k H x H' s hk y => ?_⟩⟩
  obtain ⟨T, kk, b, v, hw, rfl, hT, rfl⟩ := y
  obtain ⟨d, h1, h2, h3⟩ := kvt_at kv hw
  exact ⟨T, _, _, _, _, rfl, hT, rfl, by rw [List.getElem?_map, h1]; rfl, h2, h3⟩
theorem DIP.pm {tg iter : Expr} {α : Type} {g h : α → D} {xs : List α} (d : DIP X tg iter Γ (xs.map fun x => (g x, h x))) (i j : Nat) (z : α) : DI X tg iter Γ (gTwo X.K i j) xs.length (y2 i j g h xs z) [i, j] := by
  refine (DIP.two d i j).congr (List.length_map ..) fun k hk Γ => ?_
  rw [List.length_map] at hk
  unfold it2 y2
  rw [getD_of (show (xs.map fun x => (g x, h x))[k]? = some (g xs[k], h xs[k]) by rw [List.getElem?_map, List.getElem?_eq_getElem hk]; rfl), getD_eq z hk]
/-! ### d != {} -/
section
variable {prog : Program} {w : World} {A : Around} {E : Value → Shared → Prop} {s : Shared}
theorem pairs_raw0 {nm : String} {a b : Addr} {es : Array DictEntry} {ep ep' : Nat} {Q : Bool → Shared → Prop} (ha : (a == sysModules) = false) (hb : (b == sysModules) = false)
    (da : s.heap.DictRaw a es ep) (db : s.heap.DictRaw b #[] ep') (h : Q (es.size == 0) s) : wpAny (model prog w) A (Builtin.Dict.samePairs nm a b) Q E s := by
  obtain ⟨oa, hoa, _, hda⟩ := da
  obtain ⟨ob, hob, _, hdb⟩ := db
  unfold Builtin.Dict.samePairs Builtin.Dict.showsAll
  rw [if_neg (show ¬ (a == sysModules) = true by rw [ha]; exact Bool.false_ne_true), if_neg (show ¬ (b == sysModules) = true by rw [hb]; exact Bool.false_ne_true)]
  refine wpAny_bind (wpAny_pure (wpAny_bind (wpAny_pure ?_)))
  refine wpAny_bind (wpAny_dictEntries hoa hda ?_)
  dsimp only
  refine wpAny_bind (wpAny_dictEntries hob hdb ?_)
  by_cases hsz : es.size = 0
  case neg =>
    rw [if_pos (by simpa using hsz)]
    have hbf : (es.size == 0) = false := by simpa using hsz
    rw [hbf] at h
    exact wpAny_bind (wpAny_rule (wpAny_pure h))
  case pos =>
    have hbf : (es.size == 0) = true := by simpa using hsz
    rw [hbf] at h
    rw [if_neg (by rw [hsz]; simp)]
    refine wpAny_bind (wpAny_dictEpoch hoa hda ?_)
    refine wpAny_bind ?_
    rw [Std.Legacy.Range.forIn_eq_forIn_range']
    simp only [Std.Legacy.Range.size, Nat.sub_zero, Nat.add_sub_cancel, Nat.div_one, hsz, List.range'_zero, List.forIn_nil]
    exact wpAny_pure (wpAny_pure h)
theorem ne_raw0 {a b : Addr} {es : Array DictEntry} {ep ep' : Nat} {Q : Value → Shared → Prop} (ha : (a == sysModules) = false) (hb : (b == sysModules) = false)
    (da : s.heap.DictRaw a es ep) (db : s.heap.DictRaw b #[] ep') (hu : A.units < cLine) (h : Q (.bool (!(es.size == 0))) s) : wpAny (model prog w) A (compareOp .NotEq (.ref a) (.ref b)) Q E s := by
  refine wpAny_richCompare_same_room (op := .NotEq) da.typeIs db.typeIs PySem.F.slot_dict_ne (wpAny_call_entry PySem.F.slot_dict_ne da.typeIs PySem.F.entry_dict_ne ?_ (PySem.F.args_dict_ne_2 _ _)) hu
  show wpAny _ _ (Builtin.Dict.dictSlotArgs "__ne__" ⟨[.ref a, .ref b], []⟩ >>= _) _ _ s
  refine wpAny_bind ?_
  unfold Builtin.Dict.dictSlotArgs
  refine wpAny_bind (wpAny_notOrdered_dict da.typeIs ?_)
  show wpAny _ _ (pure (Value.ref a, Value.ref b)) _ _ s
  refine wpAny_pure ?_
  refine wpAny_bind (wpAny_isInstance (T := "dict") db.typeIs PySem.F.sub_dict_dict ?_)
  simp only [Bool.not_true, Bool.false_eq_true, if_false]
  refine wpAny_bind (wpAny_pure (wpAny_bind (wpAny_pure ?_)))
  refine wpAny_bind (pairs_raw0 ha hb da db ?_)
  refine wpAny_pure ⟨_, rfl, ?_, ?_⟩
  · exact fun x => nomatch x
  · simpa using h
end
theorem raw_of {pins : List (Addr × Obj)} {σ : L2.St} {H : Hp} {s : Shared} (I : Inv X pins σ H s) {a : Addr} {ws : List (List Str × Addr × V)} (h : DAt X.prog X.w H a ws) : (a == sysModules) = false ∧ ∃ es ep, s.heap.DictRaw a es ep ∧ es.size = ws.length := by
  obtain ⟨z, y, xs, r, o, es, ep, h1, h2, h3, h4, h5⟩ := dictR_of I h
  refine ⟨y, es, ep, ⟨o, h1, h2, h3⟩, ?_⟩
  have l1 : es.size = xs.length := by rw [← Array.length_toList, h4, List.length_map]
  have l2 : ws.length = xs.length := Paired.length r
  omega
def rNe0 (X : Cx) : R2 := fun x y H Q => ∃ a b ws, x = .ref a ∧ y = .ref b ∧ DAt X.prog X.w H a ws ∧ DAt X.prog X.w H b [] ∧ Q (.bl (!(ws.length == 0))) H
theorem op_ne0 (hu : X.A.units < cLine) : OpR X (compareOp .NotEq) (rNe0 X) := by
  intro pins s σ H x y v u Q I rx ry h
  obtain ⟨a, b, ws, rfl, rfl, ha, hb, q⟩ := h
  obtain rfl : v = Value.ref a := rx
  obtain rfl : u = Value.ref b := ry
  obtain ⟨ya, es, ep, ra, za⟩ := raw_of I ha
  obtain ⟨yb, es', ep', rb, zb⟩ := raw_of I hb
  have e0 : es' = #[] := Array.eq_empty_of_size_eq_zero zb
  subst e0
  refine ne_raw0 ya yb ra rb hu ?_
  rw [za]
  exact ⟨.bl _, H, I, rfl, q⟩
theorem dt_ne0 (i : Nat) {x : Str} {kvs : List (List Str × D)} {m : Nat} {p2 : Pos} (hr : Room m X.A) (h : slotD Γ i X.prog X.w kvs) (hN : X.N[i]? = some x := by rfl) (hv : Vis X.env.scope x := by first | exact Or.inl rfl | exact Or.inr (Or.inl rfl) | exact Or.inr (Or.inr rfl)) (hd : (x == ("__debug__" : Str)) = false := by decide)
    (hcd : (x == ("__classdict__" : Str)) = false := by decide) (hm : behindInMarks .NotEq (.Dict [] [] p2) = false := by rfl) : DT X (.Compare (.Name x p) [.NotEq] [.Dict [] [] p2] pos) Γ (!(kvs.length == 0)) :=
  pt_weak (pt_cmpR (op_ne0 (by have := hr.un; omega)) (pe_var hN hv hd hcd) pe_newT hm) fun σ H Q ⟨H0, F, st, q⟩ => by
    obtain ⟨a, ws, ev, hat, kv⟩ := st.dict h
    refine ⟨_, ev, fun r hr => ⟨a, r, ws, rfl, rfl, hat.gr (same_upd hr), .inl upd_same, ?_⟩⟩
    rw [kvt_len kv]
    exact ⟨_, rfl, q F _ (Gr.newO st.sub hr)⟩
end
end DL
namespace DL
open PySem PySem.Spec PyProof.Rows L2
section
variable {X : Cx} {Γ : Env} {a b c e : Expr} {pos p : Pos}
/-! ### texts: sign by sign -/
theorem sgns_len (z : Str) : (sgns z).length = z.cps.size := by unfold sgns; rw [List.length_map, Array.length_toList]
theorem sgns_get {z : Str} {k c : Nat} (h : z.cps[k]? = some c) : (sgns z)[k]? = some ⟨#[c]⟩ := by
  unfold sgns; rw [List.getElem?_map, Array.getElem?_toList, h]; rfl
theorem di_str {tg : Expr} {z : Str} (h : DE X e Γ (.str z)) : DIS X tg e Γ ((sgns z).map .str) := pi_weak (pi_str h) fun σ H R ⟨H0, F, st, q⟩ => ⟨H0, F, st, fun v F1 H1 g ok => by
  cases ok
  refine ⟨z, rfl, q _ F1 H1 g ⟨fun k H s hk => ?_, fun H s => ?_, fun k H x H' s hk y => ?_⟩⟩
  · rw [List.length_map, sgns_len] at hk; exact hk
  · rw [List.length_map, sgns_len]; exact Nat.le_refl _
  · obtain ⟨e, c, hc, rfl⟩ := y
    exact ⟨e, _, by rw [List.getElem?_map, sgns_get hc]; rfl, .str _⟩⟩
theorem cp_inC {c : Nat} {z : Str} : Cmp X .In (.str ⟨#[c]⟩) (.str z) (decide (c ∈ z.cps.toList)) := ⟨_, op_in_sign, .flat fun F H u v s q1 q2 Q q => by
  cases q1; cases q2
  exact ⟨c, z, rfl, rfl, q _ (.bl _)⟩⟩
theorem cp_ninC {c : Nat} {z : Str} : Cmp X .NotIn (.str ⟨#[c]⟩) (.str z) (!decide (c ∈ z.cps.toList)) := ⟨_, op_notIn_sign, .flat fun F H u v s q1 q2 Q q => by
  cases q1; cases q2
  exact ⟨c, z, rfl, rfl, q _ (.bl _)⟩⟩
/-- a constant text of the module -/
theorem dv_globS {x : Str} {z : Str} (hm : ∃ t, X.mg x = some (.str z t)) (hg : Gl X x := by rfl) (hd : (x == ("__debug__" : Str)) = false := by decide) : DE X (.Name x pos) Γ (.str z) := by
  obtain ⟨t, hm⟩ := hm
  exact dv_const (pe_glob hg hm (v := .str z) ⟨t, rfl⟩ hd) fun _ => .str z
/-! ### isinstance(e, (S, T)) -/
theorem dv_isi2 {d : D} {S T : Str} {sn tn : String} {k : Bool} {q q2 tpos : Pos} {kk : Nat} (B : Blt X "isinstance" (.builtin "isinstance")) (h : DE X e Γ d) (BS : Blt X S (.type sn)) (BT : Blt X T (.type tn)) (hk : PySem.W.kitAny X.K (.type (tyD d)) [.type sn, .type tn] = some k) (pl : Pl X e [.Tuple [.Name S q, .Name T q2] kk tpos] pos := by exact ⟨rfl, rfl⟩)
    (pl2 : starEach [.Tuple [.Name S q, .Name T q2] kk tpos] X.env = (false, eval (.Tuple [.Name S q, .Name T q2] kk tpos) X.env) :: starEach [] X.env := by rfl)
    (p1 : starEach [.Name S q, .Name T q2] X.env = (false, eval (.Name S q) X.env) :: starEach [.Name T q2] X.env := by rfl) (p2 : starEach [.Name T q2] X.env = (false, eval (.Name T q2) X.env) :: starEach [] X.env := by rfl)
    (hn : S ≠ "__name__" := by decide) (hdb : (S == ("__debug__" : Str)) = false := by decide) (hn2 : T ≠ "__name__" := by decide) (hdb2 : (T == ("__debug__" : Str)) = false := by decide) : DE X (.Call (.Name "isinstance" p) [e, .Tuple [.Name S q, .Name T q2] kk tpos] [] pos) Γ (.bool k) :=
  pe_weak (pe_callB call_isiT B.g B.m B.b (pa_cons h (pa_cons (pe_tup (pa_cons (pe_bltn (v := .ty sn) BS.g BS.m BS.b rfl hn hdb) (pa_cons (pe_bltn (v := .ty tn) BT.g BT.m BT.b rfl hn2 hdb2) pa_nil p2) p1)) pa_nil pl2) pl.1) (he := pl.1) (hpl := pl.2)) fun σ H Q ⟨H0, F, st, q⟩ => ⟨H0, F, st, fun v F1 H1 g ok =>
    ⟨by show 2 ≤ sizeLine; decide, fun r hr => ⟨v, r, _, _, _, k, rfl, upd_same, .cons (.ty sn) (.cons (.ty tn) .nil), tyX_dd (dd_mono (g.s.trans (same_upd hr)) ok), hk, q _ F1 _ (g.trans (Gr.newO g.s hr)) (.bl k)⟩⟩⟩
end
/-! ### set(texts), the texts in a tuple -/
section
variable {prog : Program} {w : World} {A : Around} {E : Value → Shared → Prop} {s : Shared}
theorem init_txtT {l : Addr} {items : Array Value} {xs : List Str} {led : Bool} {E' : Value → Shared → Prop} (hh : A.handled = none) (hl : s.heap.IsTuple l items) (hi : StrsAre items.toList xs) (hb : xs.length + 1 < scanBound) :
    codeAny (model prog w) A (.call (.builtin "set.__init__") ⟨[.ref s.heap.objs.size, .ref l], []⟩) (wants (fun r s2 => r = .none ∧ SetIs prog w xs s s2) E') { s with heap := s.heap.push (set0 led) } := by
  have hS : (s.heap.push (set0 led)).get? s.heap.objs.size = some (set0 led) := Heap.get?_push_size _ rfl
  refine codeAny_call_builtin PySem.F.called_set.init.plain PySem.F.entry_set_init (check_set_init_1 ⟨_, hS, rfl⟩ ?_)
  obtain ⟨⟨ocls, odict, odata, oslots⟩, hol, hcl, nl, hdl⟩ := hl
  simp only at hcl hdl
  subst hcl hdl
  have hol' : (s.heap.push (set0 led)).get? l = some { cls := .type "tuple", dict := odict, data := .seq items nl, slots := oslots } := Heap.get?_push_of_some _ hol
  have hsls := PySem.F.sub_tuple_set
  have hslf := PySem.F.sub_tuple_frozenset
  have hne : (Value.type "tuple" == Value.type "dict") = false := by decide
  have hl1 : (s.heap.push (set0 led)).IsTuple l items := ⟨_, hol', rfl, nl, rfl⟩
  unfold Builtin.«set.__init__» noKeywords Builtin.Frozenset.updateFrom
  generalize hPI : pyIter = PI
  wp_walk
  subst hPI
  have hlS : l < s.heap.objs.size := Heap.lt_size hol
  have sz1 : (s.heap.push (set0 led)).objs.size = s.heap.objs.size + 1 := Heap.size_push ..
  refine wpAny_pyIter_tuple hl1 (wpAny_bind (wpAny_runValue ?_))
  have hsz : xs.length = items.size := by rw [← StrsAre.len_eq hi, Array.length_toList]
  refine loop_txt ((Walks.tuple (by simp [hh]) _ l (by rw [sz1]; exact Nat.ne_of_lt (Nat.lt_succ_of_lt hlS)) items).toS) s.heap.objs.size (by rw [sz1]; simp only [List.mem_cons, List.not_mem_nil, or_false, not_or]; exact ⟨Nat.ne_of_lt (Nat.lt_succ_self _), Nat.ne_of_gt hlS⟩) xs hsz (by omega) (fun i v hv => strs_get hi (by rw [Array.getElem?_toList]; exact hv)) (items.size - 0) 0 _ (by omega) (Nat.zero_le _) ⟨⟨_, Heap.get?_push_size _ rfl, rfl, rfl⟩, hl1.push _⟩ ?_ fun s' hm hS' => ?_
  · exact PyProof.Rows.SetOf_congr ((PyProof.Rows.setObjOf_fresh (knd := strKind prog w) led).setOf (Heap.get?_push_of_some _ hS) (by unfold scanBound; omega)) (fun _ => rfl) rfl
  · obtain ⟨h', g', d', tk', os'⟩ := s'
    have eg : g' = s.gens := hm.gens
    have ed : d' = s.drawn := hm.drawn
    have eo : os' = s.os := hm.os
    subst eg ed eo
    show wpAny _ _ _ _ _ _
    refine wpAny_pure ?_
    show wpAny _ _ (ret Value.none) _ _ _
    refine wpAny_pure ⟨rfl, h', tk', rfl, hS', fun b o hb e => hm.heap b o ?_ (Heap.get?_push_of_some _ (Heap.get?_push_of_some _ e))⟩
    rw [sz1]
    simp only [List.mem_cons, List.not_mem_nil, or_false, not_or]
    exact ⟨Nat.ne_of_lt hb, Nat.ne_of_lt (Nat.lt_succ_of_lt hb)⟩
theorem call_set_txtT {l : Addr} {items : Array Value} {xs : List Str} {Q : Value → Shared → Prop} (hh : A.handled = none) (hl : s.heap.IsTuple l items) (hi : StrsAre items.toList xs) (hb : xs.length + 1 < scanBound)
    (h : ∀ s2, SetIs prog w xs s s2 → Q (.ref s.heap.objs.size) s2) : wpAny (model prog w) A (call (.type "set") [.ref l]) Q E s := by
  obtain ⟨c, tl, hmro⟩ := PySem.F.called_set.mro
  have hmade := PySem.F.called_set.made
  have hsub := PySem.F.called_set.sub
  refine wpAny_call (codeAny_of_tree ?_)
  show wpAny _ _ (callAny (.type "set") _) _ _ _
  refine wpAny_pure ⟨Code.quiet_builtin _ (by decide +kernel), codeAny_builtin PySem.F.entry_type_call ?_⟩
  rw [Around.under_plain (weight_type_call_type "set" [.ref l] []) rfl]
  have h1 := PySem.F.called_set.notType
  have h2 := PySem.F.called_set.canCreate
  have hct := PySem.F.typeCall_set_1 (.ref l)
  repeat (any_goals (first | assumption | wp_step))
  refine codeAny_mono (code_set_new_1 (.ref l) (E := E) (Q₁ := fun obj s₁ => ∃ led : Bool, obj = .ref s.heap.objs.size ∧ s₁ = { s with heap := s.heap.push (set0 led) }) fun led => ⟨led, rfl, rfl⟩) fun r s₁ hr => ?_
  cases r with
  | error e => exact hr
  | ok fl =>
    cases fl with
    | ret obj =>
      obtain ⟨led, rfl, rfl⟩ := hr
      have hS : (s.heap.push (set0 led)).get? s.heap.objs.size = some (set0 led) := Heap.get?_push_size _ rfl
      have hT : Shared.TypeIs { s with heap := s.heap.push (set0 led) } (.ref s.heap.objs.size) "set" := ⟨_, hS, rfl⟩
      have hli := PySem.F.called_set.init.lookup
      have hbi := PySem.F.called_set.init.bind (.ref s.heap.objs.size)
      repeat (any_goals (first | assumption | wp_step))
      refine codeAny_mono (init_txtT (led := led) (E' := E) (by simp [hh]) hl hi hb) fun r₂ s₂ hr₂ => ?_
      cases r₂ with
      | error e => exact hr₂
      | ok fl₂ =>
        cases fl₂ with
        | ret r =>
          obtain ⟨rfl, q⟩ := hr₂
          obtain ⟨h', tk, rfl, q2⟩ := id q
          repeat (any_goals (first | assumption | wp_step))
          exact h _ q
        | _ => exact hr₂.elim
    | _ => exact hr.elim
end
section
variable {X : Cx} {Γ : Env} {a : Expr}
def tLenTxtT (K : Frag) (ta : TE) : TE := fun σ H Q => ta σ H fun x H1 => ∃ (l : Addr) (xs : List Str), x = .ref l ∧ SqT K H1 l (xs.map V.str) ∧ xs.length ≤ 1000 ∧ Q (.int ((nubS xs).length : Nat)) H1
theorem pe_lenTxtT {ta : TE} {p p2 q pos : Pos} (hc : X.calm = true) (hg : Gl X "len") (hm : X.mg "len" = none) (hg2 : Gl X "set") (hm2 : X.mg "set" = none) (ha : PE X a ta)
    (na : starEach [a] X.env = (false, eval a X.env) :: starEach [] X.env := by rfl) : PE X (.Call (.Name "len" p) [.Call (.Name "set" p2) [a] [] q] [] pos) (tLenTxtT X.K ta) := by
  refine ⟨fun pins s σ H Q I h => ?_⟩
  refine Call_ (ld_blt I hg hm boot_len ?_)
  refine PyProof.Rows.callWith_builtin1 (PyProof.Rows.args_cons ?_ rfl) rfl rfl
  refine Call_ (ld_blt I hg2 hm2 boot_set ?_)
  refine PyProof.Rows.callWith_type1 (PyProof.Rows.args_cons (thn (ha.run pins s σ H _ I h) fun v s1 ⟨x, H1, I1, r1, q1⟩ => PyProof.Rows.args_nil ?_) na) na rfl
  obtain ⟨l, xs, rfl, hq, h1, q1⟩ := q1
  cases r1
  obtain ⟨its, r, pl, hz⟩ := I1.tuple hq
  refine call_set_txtT (I1.ok.hd hc) pl (by simpa using r.strs) (by unfold scanBound; omega) fun s2 z => ?_
  obtain ⟨h', tk, rfl, hS, hk⟩ := z
  refine PyProof.Rows.args_nil ?_
  obtain ⟨o, es, ep, t, ho, hex, hd, _, _, _, hf, hn⟩ := hS
  have I2 : Inv X pins σ H1 { s1 with heap := h', toks := tk } := I1.kept fun b o e => hk b o (Heap.lt_size e) e
  have hnb := nubS_le xs
  refine call_len_set ho hex hd hf (by rw [hn]; omega) ⟨.int ((nubS xs).length : Nat), H1, I2.tok _, ⟨_, by rw [hn]⟩, q1⟩
/-- len(set(t)) -/
theorem dv_lenSetT {xs : List Str} {p p2 q pos : Pos} (B : Blt X "len" (.builtin "len")) (B2 : Blt X "set" (.type "set")) (h : DE X a Γ (.tuple (xs.map .str))) (hz : xs.length ≤ 1000) (hc : X.calm = true := by rfl) (na : starEach [a] X.env = (false, eval a X.env) :: starEach [] X.env := by rfl) :
    DE X (.Call (.Name "len" p) [.Call (.Name "set" p2) [a] [] q] [] pos) Γ (.int ((nubS xs).length : Nat)) :=
  pe_weak (pe_lenTxtT hc B.g B.m B2.g B2.m h na) fun σ H Q ⟨H0, F, st, k⟩ => ⟨H0, F, st, fun v F1 H1 g ok => by
    cases ok with
    | tup hh hn hd =>
      have e := dda_strs hd; subst e
      exact ⟨_, xs, rfl, .inl (.inr ⟨_, g.s _ _ hh⟩), hz, k _ F1 H1 g (.int _)⟩⟩
end
end DL
namespace DL
open PySem PySem.Spec PyProof.Rows L2
/-! ### for a, b, c, d in ..: items that are lists of four -/
abbrev D4 := D × D × D × D
abbrev gFour (K : Frag) (i j l m : Nat) : TG := gLst K 4 (gCons (gName i) (gCons (gName j) (gCons (gName l) (gCons (gName m) gNil))))
def y4 (i j l m : Nat) (ps : List D4) (z : D4) (k : Nat) (Γ : Env) : Env := (((Γ.set i (some (.d (ps.getD k z).1))).set j (some (.d (ps.getD k z).2.1))).set l (some (.d (ps.getD k z).2.2.1))).set m (some (.d (ps.getD k z).2.2.2))
theorem dda_four {F : Hp} {vs : List V} {d d2 d3 d4 : D} (h : DdAll F vs [d, d2, d3, d4]) : ∃ v u w x, vs = [v, u, w, x] ∧ Dd F v d ∧ Dd F u d2 ∧ Dd F w d3 ∧ Dd F x d4 := by
  cases h with
  | cons h q =>
    obtain ⟨u, w, x, rfl, h2, h3, h4⟩ := dda_three q
    exact ⟨_, u, w, x, rfl, h, h2, h3, h4⟩
theorem wk_four {K : Frag} {J : It} {F : Hp} {ps : List D4} (z : D4) (i j l m : Nat) (w : ItS J F (ps.map fun p => .list [p.1, p.2.1, p.2.2.1, p.2.2.2])) : Wk K J (gFour K i j l m) ps.length F (y4 i j l m ps z) [i, j, l, m] where
  go := fun k H s h => w.go k H s (by rw [List.length_map]; exact h)
  stop := fun H s => by have := w.stop H s; rw [List.length_map] at this; exact this
  asg := fun k H s hk x H' y H0 F1 Γ σ st sF Q q => by
    obtain ⟨rfl, d, e, hd⟩ := w.yld k H x H' s (by rw [List.length_map]; exact hk) y
    rw [List.getElem?_map, List.getElem?_eq_getElem hk] at e
    cases e
    cases hd with
    | lst hh hd =>
      obtain ⟨u, v, a, b, rfl, hu, hv, ha, hb⟩ := dda_four hd
      refine ⟨_, [u, v, a, b], rfl, SqL.of (s _ _ hh), rfl, u, _, rfl, v, _, rfl, a, _, rfl, b, _, rfl, rfl, ?_⟩
      refine q _ F1 H' (Gr.refl st.sub) ?_ (fun n hn => ?_) (by simp only [List.length_set])
      · unfold y4
        rw [getD_of (List.getElem?_eq_getElem hk)]
        exact (((st.setD i (dd_mono sF hu)).setD j (dd_mono sF hv)).setD l (dd_mono sF ha)).setD m (dd_mono sF hb)
      · have h1 : i ≠ n := fun z => hn (by simp [z])
        have h2 : j ≠ n := fun z => hn (by simp [z])
        have h3 : l ≠ n := fun z => hn (by simp [z])
        have h4 : m ≠ n := fun z => hn (by simp [z])
        rw [get_set_ne h4, get_set_ne h3, get_set_ne h2, get_set_ne h1]
section
variable {X : Cx} {Γ : Env} {tg iter : Expr}
theorem DIS.four {ps : List D4} (h : DIS X tg iter Γ (ps.map fun p => .list [p.1, p.2.1, p.2.2.1, p.2.2.2])) (z : D4) (i j l m : Nat) : DI X tg iter Γ (gFour X.K i j l m) ps.length (y4 i j l m ps z) [i, j, l, m] := pi_weak h fun σ H R ⟨H0, F, st, q⟩ => ⟨H0, F, st, fun J F' H' g w => q J F' H' g (wk_four z i j l m w)⟩
theorem pgFour {i j l m : Nat} {x y z u : Str} {p q r t pos : Pos} {k : Nat} (nd : X.N.Nodup) (hc : X.calm = true := by rfl) (hi : X.N[i]? = some x := by rfl) (hj : X.N[j]? = some y := by rfl) (hl : X.N[l]? = some z := by rfl) (hm : X.N[m]? = some u := by rfl)
    (hx : Loc X.env.scope x := by first | exact Or.inl rfl | exact Or.inr rfl) (hy : Loc X.env.scope y := by first | exact Or.inl rfl | exact Or.inr rfl) (hz : Loc X.env.scope z := by first | exact Or.inl rfl | exact Or.inr rfl) (hu : Loc X.env.scope u := by first | exact Or.inl rfl | exact Or.inr rfl)
    (fx : X.fn x = true ∨ X.env.scope.names.lookup x = some .local := by first | exact .inl rfl | exact .inr rfl) (fy : X.fn y = true ∨ X.env.scope.names.lookup y = some .local := by first | exact .inl rfl | exact .inr rfl) (fz : X.fn z = true ∨ X.env.scope.names.lookup z = some .local := by first | exact .inl rfl | exact .inr rfl) (fu : X.fn u = true ∨ X.env.scope.names.lookup u = some .local := by first | exact .inl rfl | exact .inr rfl)
    (h1 : (assignEach [.Name x p, .Name y q, .Name z r, .Name u t] X.env).map (·.2) = assign (.Name x p) X.env :: (assignEach [.Name y q, .Name z r, .Name u t] X.env).map (·.2) := by rfl) (h2 : (assignEach [.Name y q, .Name z r, .Name u t] X.env).map (·.2) = assign (.Name y q) X.env :: (assignEach [.Name z r, .Name u t] X.env).map (·.2) := by rfl)
    (h3 : (assignEach [.Name z r, .Name u t] X.env).map (·.2) = assign (.Name z r) X.env :: (assignEach [.Name u t] X.env).map (·.2) := by rfl) (h4 : (assignEach [.Name u t] X.env).map (·.2) = assign (.Name u t) X.env :: (assignEach [] X.env).map (·.2) := by rfl)
    (hn : (assignEach [.Name x p, .Name y q, .Name z r, .Name u t] X.env).length = 4 := by rfl) (hst : (assignEach [.Name x p, .Name y q, .Name z r, .Name u t] X.env).findIdx? (·.1) = none := by rfl) :
    PG X (.Tuple [.Name x p, .Name y q, .Name z r, .Name u t] k pos) (gFour X.K i j l m) := pg_lst hc (pgs_cons (pg_name nd hi hx fx) (pgs_cons (pg_name nd hj hy fy) (pgs_cons (pg_name nd hl hz fz) (pgs_cons (pg_name nd hm hu fu) pgs_nil h4) h3) h2) h1) hn hst
/-! ### x not in t, items of any depth -/
def rNotInT (K : Frag) : R2 := fun x y H Q => ∃ d ds, Dp K H x d ∧ Dp K H y (.tuple ds) ∧ SeqAt.shaped d = true ∧ SeqAt.shaped (.tuple ds) = true ∧ Q (.bl (!ds.any fun z => PyData.eqv z d)) H
theorem op_notInT (hu : X.A.units + 65 < cLine) : OpR X (compareOp .NotIn) (rNotInT X.K) := by
  intro pins s σ H x y v u Q I rx ry h
  obtain ⟨d, ds, hd, he, sd, se, q⟩ := h
  obtain ⟨as, r1⟩ := Dp.reads I d x v hd rx
  obtain ⟨bs, r2⟩ := Dp.reads I (.tuple ds) y u he ry
  exact SeqAt.notIn_tuple_reads r2 r1 (SeqAt.canLay_of_shaped se) (SeqAt.canLay_of_shaped sd) (room_in_shaped sd hu) ⟨.bl _, H, I, rfl, q⟩
theorem cq_ninT {d : D} {ds : List D} {k : Nat} (hr : Room k X.A) (h1 : Sh 64 d) (h2 : Sh 64 (.tuple ds)) : Cmp X .NotIn d (.tuple ds) (!ds.any fun z => PyData.eqv z d) :=
  ⟨_, op_notInT (by have := hr.un; omega), .flat fun F H u v s q1 q2 Q q => ⟨_, _, dd_dp (dd_mono s q1), dd_dp (dd_mono s q2), h1.s, h2.s, q _ (.bl _)⟩⟩
end
end DL
namespace DL
open PySem PySem.Spec PyProof.Rows L2
section
variable {X : Cx} {Γ : Env} {a b c e : Expr} {pos p : Pos} {O : Outs}
/-! ### tuple(t), t a tuple; xs[::-1], xs a list -/
theorem dv_tupT {ds : List D} (B : Blt X "tuple" (.type "tuple")) (h : DE X e Γ (.tuple ds)) (pl : Pl X e [] pos := by exact ⟨rfl, rfl⟩) : DE X (.Call (.Name "tuple" p) [e] [] pos) Γ (.tuple ds) :=
  dv_ty1 call_tupleT B (da_one h pl.1) (.flat fun F H vs s h1 Q k => by
    obtain ⟨v, rfl, hv⟩ := dda_one h1
    cases hv with
    | tup hh hn hd => exact ⟨_, _, rfl, .inl (.inr ⟨_, s _ _ hh⟩), k _ (.tup hh hn hd)⟩) pl
theorem dv_revL {ds : List D} {k : Nat} {p1 p2 p3 : Pos} (h : DE X e Γ (.list ds)) : DV X (.Subscript e (.Slice none none (some (.UnaryOp .USub (.Constant (.int 1) k p1) p2)) p3) pos) Γ (.own ds.reverse) :=
  pe_weak (pe_revL h) fun σ H Q ⟨H0, F, st, q⟩ => ⟨H0, F, st, fun v F1 H1 g ok => by
    cases ok with
    | lst hh hd => exact ⟨_, _, rfl, SqL.of (g.s _ _ hh), fun p hp => q _ _ _ (g.trans (Gr.newO g.s hp)) ⟨p, _, rfl, g.h.free hp, g.s.free hp, upd_same, dda_rev hd⟩⟩⟩
/-! ### xs[n], xs a name's own list -/
theorem dv_ixOwn (i : Nat) {x : Str} {xs : List D} {n : Nat} {d : D} (h : Γ[i]? = some (some (.own xs))) (hb : DE X b Γ (.int (n : Nat))) (e : xs[n]? = some d) (hN : X.N[i]? = some x := by rfl) (hv : Vis X.env.scope x := by first | exact Or.inl rfl | exact Or.inr (Or.inl rfl) | exact Or.inr (Or.inr rfl)) (hd : (x == ("__debug__" : Str)) = false := by decide)
    (hcd : (x == ("__classdict__" : Str)) = false := by decide) (hs : PlainIx b := by exact fun _ _ => rfl) : DE X (.Subscript (.Name x p) b pos) Γ d :=
  pe_weak (pe_ix ix_list (pe_var hN hv hd hcd) hb hs) fun σ H Q ⟨H0, F, st, q⟩ => by
    obtain ⟨v, ev, a, vs, rfl, h0, hf, hh, hdd⟩ := st.slot i _ h
    refine ⟨_, ev, H0, F, st, fun u F1 H1 g ok => ?_⟩
    cases ok
    obtain ⟨v, hvv, hv2⟩ := dda_get hdd e
    exact ⟨_, _, _, v, rfl, rfl, SqL.of (g.h _ _ hh), atI_of rfl hvv, q v F1 H1 g (dd_mono g.f hv2)⟩
/-! ### a list of one's own made at once, then frozen; less known of the names -/
theorem Sub.set {q Γ : Env} (s : Sub q Γ) (i : Nat) (v : Sv) : Sub (q.set i (some v)) (Γ.set i (some v)) := by
  induction s generalizing i with
  | nil => exact .nil
  | any s ih => cases i with
    | zero => exact .eq rfl s
    | succ n => exact .any (ih n)
  | eq e s ih => cases i with
    | zero => exact .eq rfl s
    | succ n => exact .eq e (ih n)
/-- a for loop with an invariant: what the names hold depends on a thing t -/
theorem ds_ft {τ : Type} {tg iter : Expr} {g : TG} {n : Nat} {Y : Nat → Env → Env} {ts : List Nat} {body : List Stmt} (I : τ → Env) (Pt : Nat → τ → Prop) (t0 : τ) (hY : ∀ k q Γ, Sub q Γ → Sub (Y k q) (Y k Γ)) (hi : DI X tg iter Γ g n Y ts) (hg : PG X tg g) (hP : Pt 0 t0) (h0 : Sub (I t0) Γ)
    (hs : ∀ k t, k < n → Pt k t → DSs X body (Y k (I t)) ⟨fun Γ2 => ∃ u, Pt (k + 1) u ∧ Sub (I u) Γ2, O.rt, O.nx, fun Γ2 => ∃ u, Pt (k + 1) u ∧ Sub (I u) Γ2⟩) (hd : ∀ t, Pt n t → ∀ Γ2, Sub (I t) Γ2 → O.nx Γ2) (hc : X.calm = true := by rfl) (hp : PassesOwn (model X.prog X.w) X.A X.env X.xe := by exact PassesOwn.never) (hf : ∀ x, foldedSetIterable iter X.env x = pure x := by intro _; rfl) : DS X (.For tg iter body [] pos) Γ O :=
  ds_for (fun k Γ1 => ∃ t, Pt k t ∧ Sub (I t) Γ1) hi hg ⟨t0, hP, h0⟩ (fun k Γ1 hk ⟨t, h1, h2⟩ => dss_sub (hY k _ _ h2) (hs k t hk h1)) (fun Γ1 ⟨t, h1, h2⟩ => hd t h1 Γ1 h2) hc hp hf
end
end DL
/-! The mathematics of orders and commands, no program in sight. -/
namespace LM
open DL (pos1 pos1_lt pos1_get pos1_first)
inductive Kd | front | back | up | down
  deriving DecidableEq
section
variable {α : Type} [DecidableEq α]
/-- the items at i and i + 1 exchanged, if there are both -/
def exch (o : List α) (i : Nat) : List α := match o.drop i with
  | a :: b :: r => o.take i ++ b :: a :: r
  | _ => o
/-- one command -/
def mv (o : List α) (k : Kd) (x : α) : List α := match k with
  | .front => x :: (o.take (pos1 x o) ++ o.drop (pos1 x o + 1))
  | .back => o.take (pos1 x o) ++ o.drop (pos1 x o + 1) ++ [x]
  | .up => if pos1 x o = 0 then o else exch o (pos1 x o - 1)
  | .down => exch o (pos1 x o)
/-- a script -/
def runS (o : List α) (s : List (Kd × α)) : List α := s.foldl (fun o c => mv o c.1 c.2) o
theorem exch_split {l r : List α} {a b : α} : exch (l ++ a :: b :: r) l.length = l ++ b :: a :: r := by
  unfold exch; rw [List.drop_left, List.take_left]
theorem exch_last {l : List α} {a : α} : exch (l ++ [a]) l.length = l ++ [a] := by
  unfold exch; rw [List.drop_left]
theorem pos1_split {l r : List α} {x : α} (h : x ∉ l) : pos1 x (l ++ x :: r) = l.length := by
  induction l with
  | nil => simp [pos1]
  | cons y l ih =>
    have h1 : ¬ y = x := fun e => h (by rw [e]; exact List.mem_cons_self)
    rw [List.cons_append]
    unfold pos1
    rw [if_neg h1, ih fun m => h (List.mem_cons_of_mem _ m)]; rfl
theorem split_of {o : List α} {x : α} (h : x ∈ o) : ∃ l r, o = l ++ x :: r ∧ x ∉ l := by
  induction o with
  | nil => cases h
  | cons y o ih =>
    by_cases e : y = x
    · exact ⟨[], o, by rw [e]; rfl, by simp⟩
    · obtain ⟨l, r, e1, e2⟩ := ih ((List.mem_cons.mp h).resolve_left fun z => e z.symm)
      exact ⟨y :: l, r, by rw [e1]; rfl, by simp [e2]; exact fun z => e z.symm⟩
theorem mv_front {l r : List α} {x : α} (h : x ∉ l) : mv (l ++ x :: r) .front x = x :: (l ++ r) := by
  show x :: (_ ++ _) = _; rw [pos1_split h, List.take_left, ← List.drop_drop, List.drop_left]; rfl
theorem mv_back {l r : List α} {x : α} (h : x ∉ l) : mv (l ++ x :: r) .back x = l ++ r ++ [x] := by
  show _ ++ _ ++ [x] = _; rw [pos1_split h, List.take_left, ← List.drop_drop, List.drop_left]; rfl
theorem mv_up {l r : List α} {x y : α} (h : x ∉ l ++ [y]) : mv (l ++ y :: x :: r) .up x = l ++ x :: y :: r := by
  have e : l ++ y :: x :: r = (l ++ [y]) ++ x :: r := by simp
  show (if pos1 x _ = 0 then _ else exch _ (pos1 x _ - 1)) = _
  rw [e, pos1_split h, if_neg (by simp), List.length_append, ← e]
  exact exch_split
theorem mv_up0 {r : List α} {x : α} : mv (x :: r) .up x = x :: r := by
  show (if pos1 x (x :: r) = 0 then _ else _) = _
  rw [if_pos (by simp [pos1])]
theorem mv_down {l r : List α} {x y : α} (h : x ∉ l) : mv (l ++ x :: y :: r) .down x = l ++ y :: x :: r := by
  show exch _ (pos1 x _) = _; rw [pos1_split h]; exact exch_split
theorem mv_down0 {l : List α} {x : α} (h : x ∉ l) : mv (l ++ [x]) .down x = l ++ [x] := by
  show exch _ (pos1 x _) = _; rw [pos1_split h]; exact exch_last
theorem snoc_cases (l : List α) : l = [] ∨ ∃ m y, l = m ++ [y] := by
  rcases List.eq_nil_or_concat l with h | ⟨m, y, h⟩
  · exact .inl h
  · exact .inr ⟨m, y, by rw [h, List.concat_eq_append]⟩
/-- a command permutes -/
theorem mv_perm (o : List α) (k : Kd) {x : α} (h : x ∈ o) : (mv o k x).Perm o := by
  obtain ⟨l, r, rfl, hl⟩ := split_of h
  cases k with
  | front => rw [mv_front hl]; exact List.perm_middle.symm
  | back => rw [mv_back hl]; exact (List.perm_append_singleton x (l ++ r)).trans List.perm_middle.symm
  | up =>
    rcases snoc_cases l with rfl | ⟨m, y, rfl⟩
    · rw [List.nil_append, mv_up0]
    · rw [show m ++ [y] ++ x :: r = m ++ y :: x :: r by simp, mv_up hl]
      exact List.Perm.append_left m (List.Perm.swap y x r)
  | down =>
    cases r with
    | nil => rw [mv_down0 hl]
    | cons y r => rw [mv_down hl]; exact List.Perm.append_left l (List.Perm.swap x y r)
theorem mv_len (o : List α) (k : Kd) {x : α} (h : x ∈ o) : (mv o k x).length = o.length := (mv_perm o k h).length_eq
theorem mv_nodup {o : List α} (k : Kd) {x : α} (h : x ∈ o) (n : o.Nodup) : (mv o k x).Nodup := ((mv_perm o k h).nodup_iff).mpr n
theorem mv_mem {o : List α} (k : Kd) {x y : α} (h : x ∈ o) : y ∈ mv o k x ↔ y ∈ o := (mv_perm o k h).mem_iff
theorem runS_perm : ∀ (s : List (Kd × α)) (o : List α), (∀ c ∈ s, c.2 ∈ o) → (runS o s).Perm o
  | [], o, _ => List.Perm.refl _
  | c :: s, o, h => by
    have hc : c.2 ∈ o := h c List.mem_cons_self
    refine (runS_perm s (mv o c.1 c.2) fun d hd => (mv_mem c.1 hc).mpr (h d (List.mem_cons_of_mem _ hd))).trans (mv_perm o c.1 hc)
/-- taking the layer out and putting it in again -/
def lAt (n p : Nat) : Kd → Nat
  | .front => 0
  | .back => n
  | .up => p - 1
  | .down => min n (p + 1)
def lmv (o : List α) (k : Kd) (x : α) : List α :=
  (o.filter (fun y => !decide (y = x))).take (lAt (o.filter (fun y => !decide (y = x))).length (pos1 x o) k) ++ [x] ++ (o.filter (fun y => !decide (y = x))).drop (lAt (o.filter (fun y => !decide (y = x))).length (pos1 x o) k)
theorem filter_ne {l : List α} {x : α} (h : x ∉ l) : l.filter (fun y => !decide (y = x)) = l := by
  refine List.filter_eq_self.mpr fun y hy => ?_
  have : ¬ y = x := fun e => h (e ▸ hy)
  simp [this]
theorem lmv_eq {o : List α} (k : Kd) {x : α} (h : x ∈ o) (n : o.Nodup) : lmv o k x = mv o k x := by
  obtain ⟨l, r, rfl, hl⟩ := split_of h
  have hr : x ∉ r := fun m => by
    have := (List.nodup_append.mp n).2.1
    exact (List.nodup_cons.mp this).1 m
  have hf : (l ++ x :: r).filter (fun y => !decide (y = x)) = l ++ r := by
    rw [List.filter_append, filter_ne hl, List.filter_cons, if_neg (by simp), filter_ne hr]
  unfold lmv
  rw [hf, pos1_split hl]
  cases k with
  | front => rw [mv_front hl]; simp [lAt]
  | back =>
    rw [mv_back hl]
    show (l ++ r).take (l ++ r).length ++ [x] ++ (l ++ r).drop (l ++ r).length = _
    rw [List.take_length, List.drop_length, List.append_nil]
  | up =>
    rcases snoc_cases l with rfl | ⟨m, y, rfl⟩
    · rw [List.nil_append, List.nil_append, mv_up0]; rfl
    · rw [show m ++ [y] ++ x :: r = m ++ y :: x :: r by simp, mv_up hl]
      simp [lAt]
  | down =>
    cases r with
    | nil => rw [mv_down0 hl]; simp [lAt]
    | cons y r =>
      rw [mv_down hl]
      have e : lAt (l ++ y :: r).length l.length .down = (l ++ [y]).length := by simp [lAt]
      have e2 : l ++ y :: r = (l ++ [y]) ++ r := by simp
      rw [e, e2, List.take_left, List.drop_left]; simp
/-- the commands that change nothing -/
def idles : Nat → List α → List (Kd × α) → List Nat
  | _, _, [] => []
  | i, o, c :: s => (if mv o c.1 c.2 = o then [i] else []) ++ idles (i + 1) (mv o c.1 c.2) s
end
end LM
/-! Stretches, their costs, distances. -/
namespace LM
open DL (pos1 pos1_lt pos1_get pos1_first)
section
variable {α : Type} [DecidableEq α]
/-- y stands before x in o -/
def bef (o : List α) (y x : α) : Bool := decide (pos1 y o < pos1 x o)
theorem bef_cons (z : α) (o : List α) (y x : α) : bef (z :: o) y x = if z = x then false else if z = y then true else bef o y x := by
  unfold bef
  show decide ((if z = y then 0 else pos1 y o + 1) < (if z = x then 0 else pos1 x o + 1)) = _
  by_cases h1 : z = x
  · rw [if_pos h1, if_pos h1]; simp
  · rw [if_neg h1, if_neg h1]
    by_cases h2 : z = y
    · rw [if_pos h2, if_pos h2]; simp
    · rw [if_neg h2, if_neg h2]
      by_cases h3 : pos1 y o < pos1 x o
      · rw [decide_eq_true h3, decide_eq_true (by omega)]
      · rw [decide_eq_false h3, decide_eq_false (by omega)]
theorem bef_nil (y x : α) : bef ([] : List α) y x = false := by unfold bef; simp [pos1]
theorem bef_self (o : List α) (x : α) : bef o x x = false := by unfold bef; simp
theorem bef_filter {p : α → Bool} {y x : α} (hy : p y = true) (hx : p x = true) : ∀ o : List α, bef (o.filter p) y x = bef o y x
  | [] => rfl
  | z :: o => by
    cases e : p z with
    | true => rw [List.filter_cons_of_pos e, bef_cons, bef_cons, bef_filter hy hx o]
    | false =>
      rw [List.filter_cons_of_neg (by simp [e]), bef_cons, bef_filter hy hx o, if_neg (fun h => by rw [h, hx] at e; cases e), if_neg (fun h => by rw [h, hy] at e; cases e)]
theorem bef_of_filter {o o' : List α} {p : α → Bool} {y x : α} (h : o.filter p = o'.filter p) (hy : p y = true) (hx : p x = true) : bef o y x = bef o' y x := by
  rw [← bef_filter hy hx o, h, bef_filter hy hx o']
/-- two different layers of an order: one of them stands before the other -/
theorem pos1_inj {o : List α} {x y : α} (hx : x ∈ o) (h : pos1 x o = pos1 y o) (hy : y ∈ o) : x = y := by
  have a := pos1_get hx
  have b := pos1_get hy
  rw [h, b] at a
  exact (Option.some.inj a).symm
theorem bef_total {o : List α} {x y : α} (hx : x ∈ o) (hy : y ∈ o) (h : x ≠ y) : bef o y x = !bef o x y := by
  unfold bef
  have : pos1 x o ≠ pos1 y o := fun e => h (pos1_inj hx e hy)
  by_cases h1 : pos1 y o < pos1 x o
  · rw [decide_eq_true h1, decide_eq_false (by omega)]; rfl
  · rw [decide_eq_false h1, decide_eq_true (by omega)]; rfl
/-- pairs of l that stand the other way round in o -/
def invL (o : List α) : List α → Nat
  | [] => 0
  | x :: r => r.countP (fun y => bef o y x) + invL o r
def cross (o : List α) : List α → List α → Nat
  | [], _ => 0
  | x :: a, b => b.countP (fun y => bef o y x) + cross o a b
theorem invL_append (o : List α) : ∀ a b : List α, invL o (a ++ b) = invL o a + cross o a b + invL o b
  | [], b => by simp [invL, cross]
  | x :: a, b => by
    show (a ++ b).countP _ + invL o (a ++ b) = a.countP _ + invL o a + (b.countP _ + cross o a b) + invL o b
    rw [List.countP_append, invL_append o a b]; omega
theorem countP_eq {p q : α → Bool} : ∀ {l : List α}, (∀ y ∈ l, p y = q y) → l.countP p = l.countP q
  | [], _ => rfl
  | x :: r, h => by
    rw [List.countP_cons, List.countP_cons, h x List.mem_cons_self, countP_eq fun y hy => h y (List.mem_cons_of_mem _ hy)]
theorem invL_congr {o o' : List α} : ∀ {l : List α}, (∀ x ∈ l, ∀ y ∈ l, bef o y x = bef o' y x) → invL o l = invL o' l
  | [], _ => rfl
  | x :: r, h => by
    show r.countP _ + invL o r = r.countP _ + invL o' r
    rw [countP_eq fun y hy => h x List.mem_cons_self y (List.mem_cons_of_mem _ hy), invL_congr fun a ha b hb => h a (List.mem_cons_of_mem _ ha) b (List.mem_cons_of_mem _ hb)]
/-- the cost of a stretch L -/
def costL (o l : List α) : Nat := o.length - l.length + invL o l
def cost (o t : List α) (s e : Nat) : Nat := o.length - (e - s) + invL o ((t.drop s).take (e - s))
def sxs (n : Nat) : List (Nat × Nat) := (List.range n).flatMap fun s => (List.range (n - s)).map fun k => (s, s + 1 + k)
def better (f : Nat × Nat → Nat) (b p : Nat × Nat) : Nat × Nat := if f p < f b then p else b
def best (o t : List α) : Nat × Nat := (sxs t.length).foldl (better fun p => cost o t p.1 p.2) (0, 1)
def dist (o t : List α) : Nat := cost o t (best o t).1 (best o t).2
end
theorem better_all (f : Nat × Nat → Nat) : ∀ (ps : List (Nat × Nat)) (b : Nat × Nat), f (ps.foldl (better f) b) ≤ f b ∧ (∀ p ∈ ps, f (ps.foldl (better f) b) ≤ f p) ∧ (ps.foldl (better f) b = b ∨ ps.foldl (better f) b ∈ ps)
  | [], b => ⟨Nat.le_refl _, fun p h => (by cases h), .inl rfl⟩
  | p :: ps, b => by
    obtain ⟨h1, h2, h3⟩ := better_all f ps (better f b p)
    rw [List.foldl_cons]
    have hb : f (better f b p) ≤ f b ∧ f (better f b p) ≤ f p ∧ (better f b p = b ∨ better f b p = p) := by
      unfold better
      by_cases h : f p < f b
      · rw [if_pos h]; exact ⟨by omega, Nat.le_refl _, .inr rfl⟩
      · rw [if_neg h]; exact ⟨Nat.le_refl _, by omega, .inl rfl⟩
    refine ⟨Nat.le_trans h1 hb.1, fun q hq => ?_, ?_⟩
    · rcases List.mem_cons.mp hq with rfl | hq
      · exact Nat.le_trans h1 hb.2.1
      · exact h2 q hq
    · rcases h3 with h3 | h3
      · rw [h3]
        rcases hb.2.2 with e | e
        · exact .inl e
        · exact .inr (by rw [e]; exact List.mem_cons_self)
      · exact .inr (List.mem_cons_of_mem _ h3)
theorem mem_sxs {n s e : Nat} : (s, e) ∈ sxs n ↔ s < e ∧ e ≤ n := by
  unfold sxs
  rw [List.mem_flatMap]
  constructor
  · rintro ⟨s', h1, h2⟩
    obtain ⟨k, h3, h4⟩ := List.mem_map.mp h2
    have h1 := List.mem_range.mp h1
    have h3 := List.mem_range.mp h3
    cases h4
    omega
  · rintro ⟨h1, h2⟩
    refine ⟨s, List.mem_range.mpr (by omega), List.mem_map.mpr ⟨e - s - 1, List.mem_range.mpr (by omega), ?_⟩⟩
    rw [show s + 1 + (e - s - 1) = e by omega]
section
variable {α : Type} [DecidableEq α]
theorem best_ok (o : List α) {t : List α} (h : t ≠ []) : (best o t).1 < (best o t).2 ∧ (best o t).2 ≤ t.length := by
  obtain ⟨_, _, h3⟩ := better_all (fun p => cost o t p.1 p.2) (sxs t.length) (0, 1)
  have hp : 0 < t.length := List.length_pos_iff.mpr h
  rcases h3 with h3 | h3
  · unfold best; rw [h3]; exact ⟨by decide, by show 1 ≤ t.length; omega⟩
  · exact mem_sxs.mp h3
theorem dist_le_cost (o t : List α) {s e : Nat} (h1 : s < e) (h2 : e ≤ t.length) : dist o t ≤ cost o t s e :=
  (better_all (fun p => cost o t p.1 p.2) (sxs t.length) (0, 1)).2.1 (s, e) (mem_sxs.mpr ⟨h1, h2⟩)
theorem cost_split (o a l b : List α) : cost o (a ++ l ++ b) a.length (a.length + l.length) = costL o l := by
  unfold cost costL
  rw [Nat.add_sub_cancel_left, List.append_assoc, List.drop_left, List.take_left]
theorem dist_le_L {o a l b : List α} (h : l ≠ []) : dist o (a ++ l ++ b) ≤ costL o l := by
  have hp : 0 < l.length := List.length_pos_iff.mpr h
  rw [← cost_split o a l b]
  exact dist_le_cost o _ (by omega) (by simp)
theorem split3 {t : List α} {s e : Nat} (h1 : s < e) (h2 : e ≤ t.length) : ∃ a l b, t = a ++ l ++ b ∧ a = t.take s ∧ l = (t.drop s).take (e - s) ∧ b = t.drop e ∧ a.length = s ∧ l.length = e - s := by
  refine ⟨t.take s, (t.drop s).take (e - s), t.drop e, ?_, rfl, rfl, rfl, by rw [List.length_take]; omega, by rw [List.length_take, List.length_drop]; omega⟩
  have e1 : t.drop e = (t.drop s).drop (e - s) := by rw [List.drop_drop, show s + (e - s) = e by omega]
  rw [e1, List.append_assoc, List.take_append_drop, List.take_append_drop]
theorem dist_ex (o : List α) {t : List α} (h : t ≠ []) : ∃ a l b, t = a ++ l ++ b ∧ l ≠ [] ∧ dist o t = costL o l := by
  obtain ⟨h1, h2⟩ := best_ok o h
  obtain ⟨a, l, b, e, _, _, _, ha, hl⟩ := split3 h1 h2
  refine ⟨a, l, b, e, fun z => by rw [z] at hl; simp at hl; omega, ?_⟩
  unfold dist
  have hc := cost_split o a l b
  rw [← e, ha, hl, show (best o t).1 + ((best o t).2 - (best o t).1) = (best o t).2 by omega] at hc
  exact hc
theorem costL_one (o : List α) (x : α) : costL o [x] = o.length - 1 := by simp [costL, invL]
theorem dist_lt {o t : List α} (h : t ≠ []) : dist o t ≤ o.length - 1 := by
  cases t with
  | nil => exact absurd rfl h
  | cons x r => rw [← costL_one o x]; exact dist_le_L (a := []) (l := [x]) (b := r) (by simp)
/-! ### one command lowers the distance by at most 1 -/
theorem countP_or {p q : α → Bool} {b : α} : ∀ {l : List α}, l.Nodup → (∀ y ∈ l, y ≠ b → p y = q y) → l.countP p ≤ l.countP q + 1
  | [], _, _ => by simp
  | x :: r, n, h => by
    rw [List.countP_cons, List.countP_cons]
    obtain ⟨n1, n2⟩ := List.nodup_cons.mp n
    by_cases e : x = b
    · have : r.countP p = r.countP q := countP_eq fun y hy => h y (List.mem_cons_of_mem _ hy) fun z => n1 (by rw [e, ← z]; exact hy)
      rw [this]; split <;> split <;> omega
    · have ih := countP_or n2 fun y hy => h y (List.mem_cons_of_mem _ hy)
      rw [h x List.mem_cons_self e]; omega
/-- orders that agree but for one pair -/
theorem invL_swap {o o' : List α} {a b : α} (hab : ∀ x y, ¬ (x = a ∧ y = b) → ¬ (x = b ∧ y = a) → bef o y x = bef o' y x) : ∀ {l : List α}, l.Nodup → invL o l ≤ invL o' l + 1
  | [], _ => by simp [invL]
  | x :: r, n => by
    obtain ⟨n1, n2⟩ := List.nodup_cons.mp n
    show r.countP (fun y => bef o y x) + invL o r ≤ r.countP (fun y => bef o' y x) + invL o' r + 1
    by_cases e1 : x = a
    · have h1 : r.countP (fun y => bef o y x) ≤ r.countP (fun y => bef o' y x) + 1 := countP_or (b := b) n2 fun y hy hyb => hab x y (fun z => hyb z.2) (fun z => n1 (by rw [e1, ← z.2]; exact hy))
      have h2 : invL o r = invL o' r := invL_congr fun u hu v hv => hab u v (fun z => n1 (by rw [e1, ← z.1]; exact hu)) (fun z => n1 (by rw [e1, ← z.2]; exact hv))
      omega
    · by_cases e2 : x = b
      · have h1 : r.countP (fun y => bef o y x) ≤ r.countP (fun y => bef o' y x) + 1 := countP_or (b := a) n2 fun y hy hyb => hab x y (fun z => n1 (by rw [e2, ← z.2]; exact hy)) (fun z => hyb z.2)
        have h2 : invL o r = invL o' r := invL_congr fun u hu v hv => hab u v (fun z => n1 (by rw [e2, ← z.2]; exact hv)) (fun z => n1 (by rw [e2, ← z.1]; exact hu))
        omega
      · have h1 : r.countP (fun y => bef o y x) = r.countP (fun y => bef o' y x) := countP_eq fun y hy => hab x y (fun z => e1 z.1) (fun z => e2 z.1)
        have ih := invL_swap hab n2
        omega
theorem bef_exch {l r : List α} {a b x y : α} (h1 : ¬ (x = a ∧ y = b)) (h2 : ¬ (x = b ∧ y = a)) : bef (l ++ a :: b :: r) y x = bef (l ++ b :: a :: r) y x := by
  by_cases exy : x = y
  · subst exy; rw [bef_self, bef_self]
  refine bef_of_filter (p := fun z => decide (z = x) || decide (z = y)) ?_ (by simp) (by simp)
  rw [List.filter_append, List.filter_append]
  congr 1
  by_cases ea : (decide (a = x) || decide (a = y)) = true
  · by_cases eb : (decide (b = x) || decide (b = y)) = true
    · simp at ea eb
      by_cases eab : a = b
      · rw [eab]
      · exfalso
        rcases ea with ea | ea
        · rcases eb with eb | eb
          · exact eab (ea.trans eb.symm)
          · exact h1 ⟨ea.symm, eb.symm⟩
        · rcases eb with eb | eb
          · exact h2 ⟨eb.symm, ea.symm⟩
          · exact eab (ea.trans eb.symm)
    · simp only [List.filter_cons, if_pos ea, if_neg eb]
  · by_cases eb : (decide (b = x) || decide (b = y)) = true
    · simp only [List.filter_cons, if_neg ea, if_pos eb]
    · simp only [List.filter_cons, if_neg ea, if_neg eb]
theorem cross_ge {o : List α} {x : α} {b : List α} : ∀ {a : List α}, (∀ y ∈ a, bef o x y = true) → x ∈ b → a.length ≤ cross o a b
  | [], _, _ => by simp
  | y :: a, h, hx => by
    have ih := cross_ge (a := a) (fun z hz => h z (List.mem_cons_of_mem _ hz)) hx
    show a.length + 1 ≤ b.countP _ + cross o a b
    have : 0 < b.countP (fun z => bef o z y) := List.countP_pos_iff.mpr ⟨x, hx, h y List.mem_cons_self⟩
    omega
theorem nodup_of_split {a l b : List α} (h : (a ++ l ++ b).Nodup) : l.Nodup := (List.nodup_append.mp (List.nodup_append.mp h).1).2.1
/-- by a stretch: what the order loses, another stretch pays -/
theorem dist_step {o o' t : List α} (hl : o.length = o'.length) (ht : t ≠ []) (H : ∀ l, (∃ a b, t = a ++ l ++ b) → l ≠ [] → ∃ a m b, t = a ++ m ++ b ∧ m ≠ [] ∧ costL o m ≤ costL o' l + 1) : dist o t ≤ dist o' t + 1 := by
  obtain ⟨a, l, b, e, hne, hd⟩ := dist_ex o' ht
  obtain ⟨a2, m, b2, e2, hm, hc⟩ := H l ⟨a, b, e⟩ hne
  rw [hd]
  have := dist_le_L (o := o) (a := a2) (l := m) (b := b2) hm
  rw [← e2] at this
  omega
theorem dist_exch {l r t : List α} {a b : α} (hn : t.Nodup) (ht : t ≠ []) : dist (l ++ a :: b :: r) t ≤ dist (l ++ b :: a :: r) t + 1 := by
  have hlen : (l ++ a :: b :: r).length = (l ++ b :: a :: r).length := by simp
  refine dist_step hlen ht fun m ⟨u, v, e⟩ hm => ⟨u, m, v, e, hm, ?_⟩
  have hmn : m.Nodup := nodup_of_split (e ▸ hn)
  have := invL_swap (o := l ++ a :: b :: r) (o' := l ++ b :: a :: r) (a := a) (b := b) (fun x y h1 h2 => bef_exch h1 h2) hmn
  unfold costL
  rw [hlen]; omega
theorem filter_out {l r : List α} {x : α} (hl : x ∉ l) (hr : x ∉ r) : (l ++ x :: r).filter (fun y => !decide (y = x)) = l ++ r := by
  rw [List.filter_append, filter_ne hl, List.filter_cons, if_neg (by simp), filter_ne hr]
theorem bef_front {x y : α} {o : List α} (h : y ≠ x) : bef (x :: o) x y = true := by rw [bef_cons, if_neg (fun e => h e.symm), if_pos rfl]
theorem bef_back {x y : α} : ∀ {o : List α}, y ∈ o → x ∉ o → bef (o ++ [x]) y x = true
  | z :: o, hy, hx => by
    rw [List.cons_append, bef_cons, if_neg fun e => hx (by rw [e]; exact List.mem_cons_self)]
    by_cases e : z = y
    · rw [if_pos e]
    · rw [if_neg e]
      exact bef_back ((List.mem_cons.mp hy).resolve_left fun h => e h.symm) fun h => hx (List.mem_cons_of_mem _ h)
theorem costL_single_le {o l : List α} {x : α} {k : Nat} (h : k + (o.length - l.length) + 1 ≥ o.length) (hk : k ≤ invL o l) : o.length - 1 ≤ costL o l := by unfold costL; omega
theorem dist_ends {o o' t : List α} {x : α} (front : Bool) (hlen : o.length = o'.length) (hf : o.filter (fun y => !decide (y = x)) = o'.filter (fun y => !decide (y = x))) (hb : ∀ y ∈ t, y ≠ x → (if front = true then bef o' x y else bef o' y x) = true)
    (hn : t.Nodup) (hto : t.length ≤ o.length) (ht : t ≠ []) : dist o t ≤ dist o' t + 1 := by
  refine dist_step hlen ht fun l ⟨u, v, e⟩ hl => ?_
  have hln : l.Nodup := nodup_of_split (e ▸ hn)
  have hlt : ∀ y ∈ l, y ∈ t := fun y hy => by rw [e]; simp [hy]
  have hll : l.length ≤ o.length := by rw [e] at hto; simp at hto; omega
  have eqv : ∀ m : List α, x ∉ m → invL o m = invL o' m := fun m hm => invL_congr fun y hy z hz => bef_of_filter hf (by simp; exact fun q => hm (q ▸ hz)) (by simp; exact fun q => hm (q ▸ hy))
  by_cases hx : x ∈ l
  · obtain ⟨a, b, el, hxa⟩ := split_of hx
    have hxb : x ∉ b := fun m => by
      rw [el] at hln
      exact (List.nodup_cons.mp (List.nodup_append.mp hln).2.1).1 m
    have hl3 : l.length = a.length + 1 + b.length := by rw [el]; simp; omega
    cases front with
    | true =>
      have hc : a.length ≤ cross o' a (x :: b) := cross_ge (fun y hy => by
        have := hb y (hlt y (by rw [el]; simp [hy])) (fun q => hxa (q ▸ hy))
        simpa using this) List.mem_cons_self
      have hi : invL o' l = invL o' a + cross o' a (x :: b) + (b.countP (fun y => bef o' y x) + invL o' b) := by rw [el, invL_append]; rfl
      by_cases hbn : b = []
      · refine ⟨u, l.take 1, l.drop 1 ++ v, ?_, ?_, ?_⟩
        · rw [e, List.append_assoc, List.append_assoc, ← List.append_assoc (l.take 1), List.take_append_drop]
        · cases l with
          | nil => exact absurd rfl hl
          | cons z r => simp
        · have : ∃ z, l.take 1 = [z] := by
            cases l with
            | nil => exact absurd rfl hl
            | cons z r => exact ⟨z, rfl⟩
          obtain ⟨z, ez⟩ := this
          rw [ez, costL_one]
          unfold costL
          rw [← hlen]
          subst hbn
          simp at hl3
          omega
      · refine ⟨u ++ a ++ [x], b, v, ?_, hbn, ?_⟩
        · rw [e, el]; simp
        · unfold costL
          rw [eqv b hxb, hi, hlen, hl3]; omega
    | false =>
      have hc : b.length ≤ b.countP (fun y => bef o' y x) := by
        have : b.countP (fun y => bef o' y x) = b.length := List.countP_eq_length.mpr fun y hy => by
          have := hb y (hlt y (by rw [el]; simp [hy])) (fun q => hxb (q ▸ hy))
          simpa using this
        omega
      have hi : invL o' l = invL o' a + cross o' a (x :: b) + (b.countP (fun y => bef o' y x) + invL o' b) := by rw [el, invL_append]; rfl
      by_cases han : a = []
      · refine ⟨u, l.take 1, l.drop 1 ++ v, ?_, ?_, ?_⟩
        · rw [e, List.append_assoc, List.append_assoc, ← List.append_assoc (l.take 1), List.take_append_drop]
        · cases l with
          | nil => exact absurd rfl hl
          | cons z r => simp
        · have : ∃ z, l.take 1 = [z] := by
            cases l with
            | nil => exact absurd rfl hl
            | cons z r => exact ⟨z, rfl⟩
          obtain ⟨z, ez⟩ := this
          rw [ez, costL_one]
          unfold costL
          rw [← hlen]
          subst han
          simp at hl3
          omega
      · refine ⟨u, a, x :: b ++ v, ?_, han, ?_⟩
        · rw [e, el]; simp
        · unfold costL
          rw [eqv a hxa, hi, hlen, hl3]; omega
  · exact ⟨u, l, v, e, hl, by unfold costL; rw [eqv l hx, hlen]; omega⟩
theorem dist_mv {o t : List α} (k : Kd) {x : α} (hx : x ∈ o) (ho : o.Nodup) (hp : t.Perm o) : dist o t ≤ dist (mv o k x) t + 1 := by
  have hn : t.Nodup := hp.nodup_iff.mpr ho
  have ht : t ≠ [] := fun e => by subst e; have := hp.length_eq; cases o with | nil => cases hx | cons _ _ => simp at this
  obtain ⟨l, r, rfl, hl⟩ := split_of hx
  have hr : x ∉ r := fun m => (List.nodup_cons.mp (List.nodup_append.mp ho).2.1).1 m
  have hlr : x ∉ l ++ r := by simp [hl, hr]
  have hlen := mv_len (l ++ x :: r) k hx
  have hto : t.length ≤ (l ++ x :: r).length := Nat.le_of_eq hp.length_eq
  have mem : ∀ y ∈ t, y ≠ x → y ∈ l ++ r := fun y hy hyx => by
    have := hp.mem_iff.mp hy
    simp at this ⊢
    rcases this with h | h | h
    · exact .inl h
    · exact absurd h hyx
    · exact .inr h
  cases k with
  | front =>
    rw [mv_front hl] at hlen ⊢
    refine dist_ends (x := x) true hlen.symm ?_ (fun y hy hyx => ?_) hn hto ht
    · rw [filter_out hl hr, List.filter_cons_of_neg (by simp), filter_ne hlr]
    · rw [if_pos rfl]; exact bef_front hyx
  | back =>
    rw [mv_back hl] at hlen ⊢
    refine dist_ends (x := x) false hlen.symm ?_ (fun y hy hyx => ?_) hn hto ht
    · rw [filter_out hl hr, List.filter_append, filter_ne hlr, List.filter_cons_of_neg (by simp)]; simp
    · rw [if_neg (by decide)]; exact bef_back (mem y hy hyx) hlr
  | up =>
    rcases snoc_cases l with rfl | ⟨m, y, rfl⟩
    · rw [List.nil_append, mv_up0]; omega
    · rw [show m ++ [y] ++ x :: r = m ++ y :: x :: r by simp, mv_up hl]
      exact dist_exch hn ht
  | down =>
    cases r with
    | nil => rw [mv_down0 hl]; omega
    | cons y r => rw [mv_down hl]; exact dist_exch hn ht
theorem invL_self : ∀ {o : List α}, o.Nodup → invL o o = 0
  | [], _ => rfl
  | x :: r, n => by
    obtain ⟨n1, n2⟩ := List.nodup_cons.mp n
    show r.countP (fun y => bef (x :: r) y x) + invL (x :: r) r = 0
    have h1 : r.countP (fun y => bef (x :: r) y x) = 0 := List.countP_eq_zero.mpr fun y _ => by rw [bef_cons, if_pos rfl]; simp
    have h2 : invL (x :: r) r = invL r r := invL_congr fun a ha b hb => by
      rw [bef_cons, if_neg (fun e : x = a => n1 (e ▸ ha)), if_neg (fun e : x = b => n1 (e ▸ hb))]
    rw [h1, h2, invL_self n2]
theorem dist_self {o : List α} (n : o.Nodup) (h : o ≠ []) : dist o o = 0 := by
  have := dist_le_L (o := o) (a := []) (l := o) (b := []) h
  unfold costL at this
  rw [invL_self n] at this
  simp at this
  exact this
/-- no script is shorter than the distance -/
theorem dist_le_script : ∀ (s : List (Kd × α)) {o : List α}, o.Nodup → o ≠ [] → (∀ c ∈ s, c.2 ∈ o) → dist o (runS o s) ≤ s.length
  | [], o, n, h, _ => by show dist o o ≤ 0; rw [dist_self n h]; exact Nat.le_refl _
  | c :: s, o, n, h, hm => by
    have hc : c.2 ∈ o := hm c List.mem_cons_self
    have hm' : ∀ d ∈ s, d.2 ∈ mv o c.1 c.2 := fun d hd => (mv_mem c.1 hc).mpr (hm d (List.mem_cons_of_mem _ hd))
    have ih := dist_le_script s (mv_nodup c.1 hc n) (fun e => by rw [e] at hm'; have := mv_len o c.1 hc; rw [e] at this; cases o with | nil => exact h rfl | cons _ _ => simp at this) hm'
    have hp : (runS (mv o c.1 c.2) s).Perm o := (runS_perm s _ hm').trans (mv_perm o c.1 hc)
    have := dist_mv c.1 hc n hp
    show dist o (runS (mv o c.1 c.2) s) ≤ s.length + 1
    omega
end
end LM
/-! Plans. -/
namespace LM
open DL (pos1 pos1_lt pos1_get pos1_first)
section
variable {α : Type} [DecidableEq α]
theorem runS_append (o : List α) (s t : List (Kd × α)) : runS o (s ++ t) = runS (runS o s) t := List.foldl_append
theorem runS_cons (o : List α) (c : Kd × α) (t : List (Kd × α)) : runS o (c :: t) = runS (mv o c.1 c.2) t := rfl
theorem filter_mem_congr {l : List α} {p q : α → Bool} (h : ∀ x ∈ l, p x = q x) : l.filter p = l.filter q := List.filter_congr h
/-- a command takes the layer out; the others keep their order -/
theorem filter_split {l r : List α} {x : α} (h : (l ++ x :: r).Nodup) : (l ++ x :: r).filter (fun y => !decide (y = x)) = l ++ r := by
  have h1 := List.nodup_append.mp h
  have hl : x ∉ l := fun m => h1.2.2 x m x List.mem_cons_self rfl
  have hr : x ∉ r := (List.nodup_cons.mp h1.2.1).1
  exact filter_out hl hr
theorem mv_front' {o : List α} {x : α} (hx : x ∈ o) (n : o.Nodup) : mv o .front x = x :: o.filter (fun y => !decide (y = x)) := by
  obtain ⟨l, r, rfl, hl⟩ := split_of hx
  rw [mv_front hl, filter_split n]
theorem mv_back' {o : List α} {x : α} (hx : x ∈ o) (n : o.Nodup) : mv o .back x = o.filter (fun y => !decide (y = x)) ++ [x] := by
  obtain ⟨l, r, rfl, hl⟩ := split_of hx
  rw [mv_back hl, filter_split n]
theorem fronts_run : ∀ (xs : List α) {o : List α}, o.Nodup → xs.Nodup → (∀ x ∈ xs, x ∈ o) → runS o (xs.map fun x => (Kd.front, x)) = xs.reverse ++ o.filter (fun y => !decide (y ∈ xs))
  | [], o, _, _, _ => by
    show o = [] ++ _
    rw [List.nil_append]; exact (List.filter_eq_self.mpr fun y _ => by simp).symm
  | x :: xs, o, n, nx, h => by
    obtain ⟨n1, n2⟩ := List.nodup_cons.mp nx
    have hx := h x List.mem_cons_self
    rw [List.map_cons, runS_cons]
    have ih := fronts_run xs (o := mv o .front x) (mv_nodup _ hx n) n2 (fun y hy => (mv_mem _ hx).mpr (h y (List.mem_cons_of_mem _ hy)))
    rw [ih, mv_front' hx n, List.filter_cons, if_pos (by simp [n1]), List.filter_filter, List.reverse_cons, List.append_assoc]
    congr 1
    show x :: _ = x :: _
    congr 1
    refine filter_mem_congr fun y _ => ?_
    by_cases e1 : y = x <;> by_cases e2 : y ∈ xs <;> simp [e1, e2]
theorem backs_run : ∀ (xs : List α) {o : List α}, o.Nodup → xs.Nodup → (∀ x ∈ xs, x ∈ o) → runS o (xs.map fun x => (Kd.back, x)) = o.filter (fun y => !decide (y ∈ xs)) ++ xs
  | [], o, _, _, _ => by
    show o = _ ++ []
    rw [List.append_nil]; exact (List.filter_eq_self.mpr fun y _ => by simp).symm
  | x :: xs, o, n, nx, h => by
    obtain ⟨n1, n2⟩ := List.nodup_cons.mp nx
    have hx := h x List.mem_cons_self
    rw [List.map_cons, runS_cons]
    have ih := backs_run xs (o := mv o .back x) (mv_nodup _ hx n) n2 (fun y hy => (mv_mem _ hx).mpr (h y (List.mem_cons_of_mem _ hy)))
    rw [ih, mv_back' hx n, List.filter_append, List.filter_filter, List.append_assoc]
    have e : [x].filter (fun y => !decide (y ∈ xs)) = [x] := by simp [n1]
    rw [e]
    congr 1
    refine filter_mem_congr fun y _ => ?_
    by_cases e1 : y = x <;> by_cases e2 : y ∈ xs <;> simp [e1, e2]
theorem snoc_ind {P : List α → Prop} (h0 : P []) (h1 : ∀ l x, P l → P (l ++ [x])) (l : List α) : P l := by
  have h : ∀ m : List α, P m.reverse := fun m => by
    induction m with
    | nil => exact h0
    | cons x m ih => rw [List.reverse_cons]; exact h1 _ x ih
  have := h l.reverse
  rwa [List.reverse_reverse] at this
/-- a layer goes up to the head of a stretch -/
theorem ups_run {p q : List α} {x : α} (hp : x ∉ p) : ∀ (rest : List α), x ∈ rest → rest.Nodup → runS (p ++ rest ++ q) (List.replicate (pos1 x rest) (Kd.up, x)) = p ++ (x :: rest.filter (fun y => !decide (y = x))) ++ q := by
  intro rest hx n
  obtain ⟨l, r, rfl, hl⟩ := split_of hx
  rw [pos1_split hl, filter_split n]
  clear hx n
  revert r
  refine snoc_ind (P := fun l => x ∉ l → ∀ r, runS (p ++ (l ++ x :: r) ++ q) (List.replicate l.length (Kd.up, x)) = p ++ (x :: (l ++ r)) ++ q) (fun _ r => by simp [runS]) (fun m y ih hl r => ?_) l hl
  have hm : x ∉ m := fun z => hl (by simp [z])
  have hy : x ≠ y := fun z => hl (by simp [z])
  rw [List.length_append, List.length_singleton, List.replicate_succ, runS_cons]
  have e : p ++ (m ++ [y] ++ x :: r) ++ q = (p ++ m) ++ y :: x :: (r ++ q) := by simp
  have e2 : mv (p ++ (m ++ [y] ++ x :: r) ++ q) Kd.up x = p ++ (m ++ x :: y :: r) ++ q := by
    rw [e, mv_up (by simp [hp, hm]; exact hy)]; simp
  show runS (mv (p ++ (m ++ [y] ++ x :: r) ++ q) Kd.up x) _ = _
  rw [e2, ih hm (y :: r)]; simp
theorem filter_len_split {l : List α} {x : α} (h : x ∈ l) (n : l.Nodup) : (l.filter (fun y => !decide (y = x))).Perm (l.filter (fun y => !decide (y = x))) := .refl _
/-- the exchanges -/
def exR : List α → List α → List (Kd × α)
  | _, [] => []
  | rest, x :: l => List.replicate (pos1 x rest) (Kd.up, x) ++ exR (rest.filter fun y => !decide (y = x)) l
theorem perm_filter_ne {rest l : List α} {x : α} (h : rest.Perm (x :: l)) (n : (x :: l).Nodup) : (rest.filter fun y => !decide (y = x)).Perm l := by
  have := h.filter fun y => !decide (y = x)
  rw [List.filter_cons_of_neg (by simp), filter_ne (List.nodup_cons.mp n).1] at this
  exact this
theorem exR_run {q : List α} : ∀ (l : List α) {rest p : List α}, rest.Perm l → l.Nodup → (∀ x ∈ l, x ∉ p) → runS (p ++ rest ++ q) (exR rest l) = p ++ l ++ q
  | [], rest, p, h, _, _ => by rw [h.eq_nil]; rfl
  | x :: l, rest, p, h, n, d => by
    have hx : x ∈ rest := h.mem_iff.mpr List.mem_cons_self
    have hp := d x List.mem_cons_self
    have nr := h.nodup_iff.mpr n
    show runS _ (_ ++ _) = _
    rw [runS_append, ups_run hp rest hx nr]
    have ih := exR_run (q := q) l (rest := rest.filter fun y => !decide (y = x)) (p := p ++ [x]) (perm_filter_ne h n) (List.nodup_cons.mp n).2 (fun y hy => by
      have h1 := d y (List.mem_cons_of_mem _ hy)
      have h2 : y ≠ x := fun e => (List.nodup_cons.mp n).1 (e ▸ hy)
      simp [h1, h2])
    have e : p ++ x :: (rest.filter fun y => !decide (y = x)) ++ q = p ++ [x] ++ (rest.filter fun y => !decide (y = x)) ++ q := by simp
    rw [e, ih]; simp
theorem countP_bef_split {l r : List α} {x : α} (hl : x ∉ l) (n : (l ++ x :: r).Nodup) : (l ++ r).countP (fun y => bef (l ++ x :: r) y x) = l.length := by
  have hp := pos1_split (r := r) hl
  rw [List.countP_append]
  have h1 : l.countP (fun y => bef (l ++ x :: r) y x) = l.length := List.countP_eq_length.mpr fun y hy => by
    unfold bef
    rw [hp]
    obtain ⟨a, b, e, ha⟩ := split_of hy
    have : l ++ x :: r = a ++ y :: (b ++ x :: r) := by rw [e]; simp
    rw [this, pos1_split ha, e]; simp
  have h2 : r.countP (fun y => bef (l ++ x :: r) y x) = 0 := List.countP_eq_zero.mpr fun y hy => by
    unfold bef
    rw [hp]
    obtain ⟨a, b, e, ha⟩ := split_of hy
    have hyl : y ∉ l := fun m => (List.nodup_append.mp n).2.2 y m y (List.mem_cons_of_mem _ hy) rfl
    have hyx : y ≠ x := fun z => (List.nodup_cons.mp (List.nodup_append.mp n).2.1).1 (z ▸ hy)
    have : l ++ x :: r = (l ++ x :: a) ++ y :: b := by rw [e]; simp
    rw [this, pos1_split (by simp [hyl, hyx, ha])]; simp
  omega
theorem pos1_countP {rest l : List α} {x : α} (h : rest.Perm (x :: l)) (n : (x :: l).Nodup) : pos1 x rest = l.countP (fun y => bef rest y x) := by
  have hx : x ∈ rest := h.mem_iff.mpr List.mem_cons_self
  have nr := h.nodup_iff.mpr n
  have hp := perm_filter_ne h n
  rw [← hp.countP_eq]
  obtain ⟨a, b, rfl, ha⟩ := split_of hx
  rw [filter_split nr, countP_bef_split ha nr, pos1_split ha]
theorem exR_len : ∀ (l : List α) {rest : List α}, rest.Perm l → l.Nodup → (exR rest l).length = invL rest l
  | [], _, _, _ => rfl
  | x :: l, rest, h, n => by
    have hp := perm_filter_ne h n
    have ih := exR_len l hp (List.nodup_cons.mp n).2
    show (List.replicate (pos1 x rest) (Kd.up, x) ++ exR (rest.filter fun y => !decide (y = x)) l).length = l.countP _ + invL rest l
    rw [List.length_append, List.length_replicate, ih, pos1_countP h n]
    congr 1
    refine invL_congr fun y hy z hz => ?_
    have h2 : ∀ w ∈ l, w ≠ x := fun w hw e => (List.nodup_cons.mp n).1 (e ▸ hw)
    exact bef_filter (by simp [h2 z hz]) (by simp [h2 y hy]) rest
theorem exR_mem : ∀ (l rest : List α), ∀ c ∈ exR rest l, c.2 ∈ l
  | [], _, c, h => by cases h
  | x :: l, rest, c, h => by
    rcases List.mem_append.mp h with h | h
    · rw [(List.mem_replicate.mp h).2]; exact List.mem_cons_self
    · exact List.mem_cons_of_mem _ (exR_mem l _ c h)
/-- the commands that a stretch stands for -/
def planL (o a l b : List α) : List (Kd × α) := a.reverse.map (fun x => (Kd.front, x)) ++ b.map (fun x => (Kd.back, x)) ++ exR (o.filter fun y => decide (y ∈ l)) l
def planOf (o t : List α) (s e : Nat) : List (Kd × α) := planL o (t.take s) ((t.drop s).take (e - s)) (t.drop e)
def plan (o t : List α) : List (Kd × α) := planOf o t (best o t).1 (best o t).2
theorem planL_mem {o a l b : List α} : ∀ c ∈ planL o a l b, c.2 ∈ a ++ l ++ b := by
  intro c hc
  unfold planL at hc
  rcases List.mem_append.mp hc with h | h
  · rcases List.mem_append.mp h with h | h
    · obtain ⟨x, hx, rfl⟩ := List.mem_map.mp h
      simp [List.mem_reverse.mp hx]
    · obtain ⟨x, hx, rfl⟩ := List.mem_map.mp h
      simp [hx]
  · have := exR_mem _ _ c h
    simp [this]
theorem stretch_perm {o a l b : List α} (hp : (a ++ l ++ b).Perm o) (n : (a ++ l ++ b).Nodup) : (o.filter fun y => decide (y ∈ l)).Perm l := by
  have h := hp.symm.filter fun y => decide (y ∈ l)
  have n1 := List.nodup_append.mp n
  have n2 := List.nodup_append.mp n1.1
  have ea : a.filter (fun y => decide (y ∈ l)) = [] := List.filter_eq_nil_iff.mpr fun y hy => by
    simp; exact fun m => n2.2.2 y hy y m rfl
  have eb : b.filter (fun y => decide (y ∈ l)) = [] := List.filter_eq_nil_iff.mpr fun y hy => by
    simp; exact fun m => n1.2.2 y (by simp [m]) y hy rfl
  have el : l.filter (fun y => decide (y ∈ l)) = l := List.filter_eq_self.mpr fun y hy => by simp [hy]
  rw [List.filter_append, List.filter_append, ea, eb, el] at h
  simpa using h
theorem planL_run {o a l b : List α} (hp : (a ++ l ++ b).Perm o) (no : o.Nodup) : runS o (planL o a l b) = a ++ l ++ b := by
  have n := hp.nodup_iff.mpr no
  have n1 := List.nodup_append.mp n
  have n2 := List.nodup_append.mp n1.1
  have hm : ∀ x, x ∈ a ++ l ++ b ↔ x ∈ o := fun x => hp.mem_iff
  unfold planL
  rw [runS_append, runS_append, fronts_run a.reverse no ((List.reverse_perm a).nodup_iff.mpr n2.1) (fun x hx => (hm x).mp (by simp [List.mem_reverse.mp hx]))]
  rw [List.reverse_reverse]
  have nfa : (a ++ o.filter fun y => !decide (y ∈ a.reverse)).Nodup := by
    refine List.nodup_append.mpr ⟨n2.1, no.sublist List.filter_sublist, fun x hx y hy e => ?_⟩
    subst e
    have := (List.mem_filter.mp hy).2
    simp [hx] at this
  rw [backs_run b nfa n1.2.1 (fun x hx => by
    have hxa : x ∉ a := fun m => n1.2.2 x (by simp [m]) x hx rfl
    have : x ∈ o := (hm x).mp (by simp [hx])
    simp [hxa, this])]
  rw [List.filter_append, List.filter_filter]
  have ea : a.filter (fun y => !decide (y ∈ b)) = a := List.filter_eq_self.mpr fun y hy => by
    simp; exact fun m => n1.2.2 y (by simp [hy]) y m rfl
  have el : o.filter (fun y => !decide (y ∈ b) && !decide (y ∈ a.reverse)) = o.filter fun y => decide (y ∈ l) := filter_mem_congr fun y hy => by
    have := (hm y).mpr hy
    simp at this
    by_cases h1 : y ∈ a
    · have : y ∉ l := fun m => n2.2.2 y h1 y m rfl
      simp [h1, this]
    · by_cases h2 : y ∈ b
      · have : y ∉ l := fun m => n1.2.2 y (by simp [m]) y h2 rfl
        simp [h2, this]
      · simp [h1, h2] at this ⊢
        exact this
  rw [ea, el]
  exact exR_run l (stretch_perm hp n) n2.2.1 (fun x hx m => n2.2.2 x m x hx rfl)
theorem planL_len {o a l b : List α} (hp : (a ++ l ++ b).Perm o) (no : o.Nodup) : (planL o a l b).length = costL o l := by
  have n := hp.nodup_iff.mpr no
  have hl := hp.length_eq
  simp at hl
  unfold planL costL
  rw [List.length_append, List.length_append, List.length_map, List.length_reverse, List.length_map, exR_len l (stretch_perm hp n) (nodup_of_split n)]
  have : invL (o.filter fun y => decide (y ∈ l)) l = invL o l := invL_congr fun x hx y hy => bef_filter (by simp [hy]) (by simp [hx]) o
  rw [this]; omega
theorem planOf_run {o t : List α} {s e : Nat} (hp : t.Perm o) (no : o.Nodup) (h1 : s < e) (h2 : e ≤ t.length) : runS o (planOf o t s e) = t ∧ (planOf o t s e).length = cost o t s e ∧ ∀ c ∈ planOf o t s e, c.2 ∈ o := by
  obtain ⟨a, l, b, et, ea, el, eb, ha, hl⟩ := split3 h1 h2
  unfold planOf
  rw [← ea, ← el, ← eb]
  have hp' : (a ++ l ++ b).Perm o := et ▸ hp
  refine ⟨(planL_run hp' no).trans et.symm, (planL_len hp' no).trans ?_, fun c hc => hp'.mem_iff.mp (planL_mem c hc)⟩
  have hc := cost_split o a l b
  rw [← et, ha, hl, show s + (e - s) = e by omega] at hc
  exact hc.symm
theorem ne_of_perm {o t : List α} (hp : t.Perm o) (h : o ≠ []) : t ≠ [] := fun e => h (by subst e; exact hp.symm.eq_nil)
theorem plan_run {o t : List α} (hp : t.Perm o) (no : o.Nodup) (h : o ≠ []) : runS o (plan o t) = t ∧ (plan o t).length = dist o t ∧ ∀ c ∈ plan o t, c.2 ∈ o := by
  obtain ⟨h1, h2⟩ := best_ok o (ne_of_perm hp h)
  exact planOf_run hp no h1 h2
/-- the distance is the length of a shortest script -/
theorem dist_le_run {o t : List α} (no : o.Nodup) (h : o ≠ []) {s : List (Kd × α)} (hs : ∀ c ∈ s, c.2 ∈ o) (e : runS o s = t) : dist o t ≤ s.length := by
  subst e; exact dist_le_script s no h hs
theorem runS_mem' {o : List α} {s : List (Kd × α)} (h : ∀ c ∈ s, c.2 ∈ o) (x : α) : x ∈ runS o s ↔ x ∈ o := (runS_perm s o h).mem_iff
theorem dist_tri {o m t : List α} (hm : m.Perm o) (ht : t.Perm o) (no : o.Nodup) (h : o ≠ []) : dist o t ≤ dist o m + dist m t := by
  obtain ⟨r1, l1, m1⟩ := plan_run hm no h
  have nm := hm.nodup_iff.mpr no
  obtain ⟨r2, l2, m2⟩ := plan_run (ht.trans hm.symm) nm (ne_of_perm hm h)
  have := dist_le_run no h (s := plan o m ++ plan m t) (fun c hc => by
    rcases List.mem_append.mp hc with hc | hc
    · exact m1 c hc
    · exact hm.mem_iff.mp (m2 c hc)) (by rw [runS_append, r1, r2])
  rw [List.length_append] at this
  omega
theorem dist_zero {o t : List α} (hp : t.Perm o) (no : o.Nodup) (h : o ≠ []) : dist o t = 0 ↔ o = t := by
  constructor
  · intro e
    obtain ⟨r1, l1, _⟩ := plan_run hp no h
    rw [e] at l1
    rw [List.eq_nil_of_length_eq_zero l1] at r1
    exact r1
  · rintro rfl; exact dist_self no h
/-- along a shortest script the distance falls by 1 -/
theorem dist_along {t : List α} : ∀ (s : List (Kd × α)) {o : List α}, t.Perm o → o.Nodup → o ≠ [] → (∀ c ∈ s, c.2 ∈ o) → runS o s = t → s.length = dist o t → ∀ k, k ≤ s.length → dist (runS o (s.take k)) t + k = dist o t := by
  intro s o hp no h hs e hl k hk
  have h1 : ∀ c ∈ s.take k, c.2 ∈ o := fun c hc => hs c (List.mem_of_mem_take hc)
  have p1 := runS_perm (s.take k) o h1
  have n1 := p1.nodup_iff.mpr no
  have ne1 := ne_of_perm p1 h
  have h2 : ∀ c ∈ s.drop k, c.2 ∈ runS o (s.take k) := fun c hc => p1.mem_iff.mpr (hs c (List.mem_of_mem_drop hc))
  have e2 : runS (runS o (s.take k)) (s.drop k) = t := by rw [← runS_append, List.take_append_drop, e]
  have l2 := dist_le_run n1 ne1 h2 e2
  have l1 := dist_le_run no h h1 rfl
  have l3 := dist_tri p1 hp no h
  rw [List.length_drop] at l2
  rw [List.length_take] at l1
  omega
/-- no command of a shortest script is idle -/
theorem idles_none : ∀ (s : List (Kd × α)) {o : List α} (i : Nat), (∀ k (h : k < s.length), mv (runS o (s.take k)) s[k].1 s[k].2 ≠ runS o (s.take k)) → idles i o s = []
  | [], _, _, _ => rfl
  | c :: s, o, i, h => by
    have h0 : mv o c.1 c.2 ≠ o := h 0 (by simp)
    show (if mv o c.1 c.2 = o then [i] else []) ++ idles (i + 1) (mv o c.1 c.2) s = []
    rw [if_neg h0, List.nil_append]
    refine idles_none s (i + 1) fun k hk => ?_
    have := h (k + 1) (by simpa using hk)
    simpa [runS] using this
theorem runS_take1 {o : List α} {s : List (Kd × α)} {k : Nat} (h : k < s.length) : runS o (s.take (k + 1)) = mv (runS o (s.take k)) s[k].1 s[k].2 := by
  unfold runS
  rw [List.take_add_one, List.getElem?_eq_getElem h, List.foldl_append]; rfl
theorem idles_plan {o t : List α} (hp : t.Perm o) (no : o.Nodup) (h : o ≠ []) : idles 0 o (plan o t) = [] := by
  obtain ⟨r1, l1, m1⟩ := plan_run hp no h
  refine idles_none _ 0 fun k hk e => ?_
  have a1 := dist_along (plan o t) hp no h m1 r1 l1 k (by omega)
  have a2 := dist_along (plan o t) hp no h m1 r1 l1 (k + 1) (by omega)
  rw [runS_take1 hk, e] at a2
  omega
/-! ### the reversed order -/
theorem bef_rev {o : List α} {x y : α} (n : o.Nodup) (hx : x ∈ o) (hy : y ∈ o) (h : x ≠ y) : bef o.reverse y x = bef o x y := by
  have key : ∀ (o : List α) (x y : α), o.Nodup → x ∈ o → y ∈ o → x ≠ y → bef o x y = true → bef o.reverse y x = true := by
    intro o x y n hx hy h hb
    obtain ⟨l, r, rfl, hl⟩ := split_of hx
    have hyl : y ∉ l := fun m => by
      obtain ⟨a, b, e, ha⟩ := split_of m
      have e2 : l ++ x :: r = a ++ y :: (b ++ x :: r) := by rw [e]; simp
      unfold bef at hb
      rw [pos1_split hl, e2, pos1_split ha, e] at hb
      simp at hb
      omega
    have hyr : y ∈ r := by simp [hyl, h.symm] at hy; exact hy
    rw [List.reverse_append, List.reverse_cons]
    have hxr : x ∉ r := (List.nodup_cons.mp (List.nodup_append.mp n).2.1).1
    unfold bef
    have e1 : r.reverse ++ [x] ++ l.reverse = r.reverse ++ x :: l.reverse := by simp
    rw [e1, pos1_split (by simpa using hxr)]
    obtain ⟨a, b, e, ha⟩ := split_of (show y ∈ r.reverse by simpa using hyr)
    rw [e, show a ++ y :: b ++ x :: l.reverse = a ++ y :: (b ++ x :: l.reverse) by simp, pos1_split ha]
    simp
  cases hb : bef o x y with
  | true => exact key o x y n hx hy h hb
  | false =>
    have h2 : bef o y x = true := by rw [bef_total hx hy h, hb]; rfl
    have := key o y x n hy hx h.symm h2
    rw [bef_total (o := o.reverse) (x := x) (y := y) (by simpa using hx) (by simpa using hy) h, this]; rfl
theorem invL_rev_ge {o : List α} : ∀ {l : List α}, l.Nodup → (∀ x ∈ l, x ∈ o) → (∀ a b, l = a ++ b → ∀ x ∈ a, ∀ y ∈ b, bef o y x = true) → l.length - 1 ≤ invL o l
  | [], _, _, _ => by simp
  | [x], _, _, _ => by simp
  | x :: y :: r, n, hm, h => by
    have h1 : (y :: r).countP (fun z => bef o z x) = (y :: r).length := List.countP_eq_length.mpr fun z hz => h [x] (y :: r) rfl x (by simp) z hz
    show _ ≤ (y :: r).countP _ + invL o (y :: r)
    rw [h1]; simp
theorem dist_rev {o : List α} (no : o.Nodup) (h : o ≠ []) : dist o o.reverse = o.length - 1 := by
  refine Nat.le_antisymm (dist_lt (by simpa using h)) ?_
  obtain ⟨a, l, b, e, hl, hd⟩ := dist_ex o (t := o.reverse) (by simpa using h)
  rw [hd]
  have nt : o.reverse.Nodup := (List.reverse_perm o).nodup_iff.mpr no
  have nl : l.Nodup := nodup_of_split (e ▸ nt)
  have hlen := congrArg List.length e
  simp at hlen
  have hmem : ∀ x ∈ l, x ∈ o := fun x hx => by
    have : x ∈ o.reverse := by rw [e]; simp [hx]
    simpa using this
  have key : l.length - 1 ≤ invL o l := by
    refine invL_rev_ge nl hmem fun u v el x hx y hy => ?_
    have hxy : x ≠ y := fun z => (List.nodup_append.mp (el ▸ nl)).2.2 x hx y hy z
    have hx' := hmem x (by rw [el]; simp [hx])
    have hy' := hmem y (by rw [el]; simp [hy])
    have hb := bef_rev (o := o.reverse) (x := x) (y := y) nt (by simpa using hx') (by simpa using hy') hxy
    rw [List.reverse_reverse] at hb
    rw [hb, e, el]
    obtain ⟨p, q, ep, hp⟩ := split_of hx
    unfold bef
    have n3 : (a ++ p ++ x :: (q ++ v ++ b)).Nodup := by
      have : a ++ p ++ x :: (q ++ v ++ b) = o.reverse := by rw [e, el, ep]; simp
      rw [this]; exact nt
    have hxa : x ∉ a ++ p := fun m => (List.nodup_append.mp n3).2.2 x m x (by simp) rfl
    have ey : a ++ (u ++ v) ++ b = (a ++ p) ++ x :: (q ++ v ++ b) := by rw [ep]; simp
    rw [ey, pos1_split hxa]
    have hy2 : y ∈ q ++ v ++ b := by simp [hy]
    obtain ⟨p2, q2, e2, hp2⟩ := split_of hy2
    have hya : y ∉ a ++ p ++ x :: p2 := fun m => by
      have hyx : y ∈ x :: (q ++ v ++ b) := List.mem_cons_of_mem _ hy2
      rcases List.mem_append.mp m with m | m
      · exact (List.nodup_append.mp n3).2.2 y m y hyx rfl
      · rcases List.mem_cons.mp m with m | m
        · exact hxy m.symm
        · exact hp2 m
    have e3 : a ++ p ++ x :: (q ++ v ++ b) = (a ++ p ++ x :: p2) ++ y :: q2 := by rw [e2]; simp
    rw [e3, pos1_split hya]
    simp
  have hlp : 0 < l.length := List.length_pos_iff.mpr hl
  unfold costL
  omega
end
end LM
/-! Mirrored orders, renamed layers, one more layer. -/
namespace LM
open DL (pos1 pos1_lt pos1_get pos1_first)
def mirK : Kd → Kd
  | .front => .back
  | .back => .front
  | .up => .down
  | .down => .up
section
variable {α β : Type} [DecidableEq α] [DecidableEq β]
theorem mv_mir {o : List α} (k : Kd) {x : α} (hx : x ∈ o) (n : o.Nodup) : mv o.reverse (mirK k) x = (mv o k x).reverse := by
  obtain ⟨l, r, rfl, hl⟩ := split_of hx
  have hr : x ∉ r := (List.nodup_cons.mp (List.nodup_append.mp n).2.1).1
  have e : (l ++ x :: r).reverse = r.reverse ++ x :: l.reverse := by simp
  have hr' : x ∉ r.reverse := by simpa using hr
  cases k with
  | front => rw [mv_front hl, e]; show mv _ .back x = _; rw [mv_back hr']; simp
  | back => rw [mv_back hl, e]; show mv _ .front x = _; rw [mv_front hr']; simp
  | up =>
    rw [e]
    show mv _ .down x = _
    rcases snoc_cases l with rfl | ⟨m, y, rfl⟩
    · rw [List.nil_append, mv_up0, List.reverse_nil, mv_down0 hr']; simp
    · rw [show m ++ [y] ++ x :: r = m ++ y :: x :: r by simp, mv_up hl, show (m ++ [y]).reverse = y :: m.reverse by simp, mv_down hr']; simp
  | down =>
    rw [e]
    show mv _ .up x = _
    cases r with
    | nil => rw [mv_down0 hl, List.reverse_nil, List.nil_append, mv_up0]; simp
    | cons y r =>
      rw [mv_down hl, show (y :: r).reverse ++ x :: l.reverse = r.reverse ++ y :: x :: l.reverse by simp, mv_up (by simpa using hr')]; simp
def mirS (s : List (Kd × α)) : List (Kd × α) := s.map fun c => (mirK c.1, c.2)
theorem runS_mir : ∀ (s : List (Kd × α)) {o : List α}, o.Nodup → (∀ c ∈ s, c.2 ∈ o) → runS o.reverse (mirS s) = (runS o s).reverse
  | [], _, _, _ => rfl
  | c :: s, o, n, h => by
    have hc := h c List.mem_cons_self
    show runS (mv o.reverse (mirK c.1) c.2) (mirS s) = (runS (mv o c.1 c.2) s).reverse
    rw [mv_mir c.1 hc n]
    exact runS_mir s (mv_nodup _ hc n) fun d hd => (mv_mem _ hc).mpr (h d (List.mem_cons_of_mem _ hd))
theorem idles_mir : ∀ (s : List (Kd × α)) {o : List α} (i : Nat), o.Nodup → (∀ c ∈ s, c.2 ∈ o) → idles i o.reverse (mirS s) = idles i o s
  | [], _, _, _, _ => rfl
  | c :: s, o, i, n, h => by
    have hc := h c List.mem_cons_self
    show (if mv o.reverse (mirK c.1) c.2 = o.reverse then [i] else []) ++ idles (i + 1) (mv o.reverse (mirK c.1) c.2) (mirS s) = (if mv o c.1 c.2 = o then [i] else []) ++ idles (i + 1) (mv o c.1 c.2) s
    rw [mv_mir c.1 hc n, idles_mir s (i + 1) (mv_nodup _ hc n) fun d hd => (mv_mem _ hc).mpr (h d (List.mem_cons_of_mem _ hd))]
    congr 1
    by_cases e : mv o c.1 c.2 = o
    · rw [if_pos e, if_pos (by rw [e])]
    · rw [if_neg e, if_neg fun z => e (List.reverse_inj.mp z)]
theorem dist_mir_le {o t : List α} (hp : t.Perm o) (no : o.Nodup) (h : o ≠ []) : dist o.reverse t.reverse ≤ dist o t := by
  obtain ⟨r1, l1, m1⟩ := plan_run hp no h
  have := dist_le_run (o := o.reverse) (t := t.reverse) ((List.reverse_perm o).nodup_iff.mpr no) (by simpa using h) (s := mirS (plan o t)) (fun c hc => by
    obtain ⟨d, hd, rfl⟩ := List.mem_map.mp hc
    simpa using m1 d hd) (by rw [runS_mir _ no m1, r1])
  unfold mirS at this
  rw [List.length_map, l1] at this
  exact this
theorem dist_mir {o t : List α} (hp : t.Perm o) (no : o.Nodup) (h : o ≠ []) : dist o.reverse t.reverse = dist o t := by
  refine Nat.le_antisymm (dist_mir_le hp no h) ?_
  have := dist_mir_le (o := o.reverse) (t := t.reverse) ((List.reverse_perm t).trans (hp.trans (List.reverse_perm o).symm)) ((List.reverse_perm o).nodup_iff.mpr no) (by simpa using h)
  rwa [List.reverse_reverse, List.reverse_reverse] at this
/-! ### renamed layers -/
theorem pos1_map {f : α → β} {x : α} : ∀ {o : List α}, (∀ y ∈ o, f y = f x → y = x) → pos1 (f x) (o.map f) = pos1 x o
  | [], _ => rfl
  | y :: o, h => by
    show (if f y = f x then 0 else pos1 (f x) (o.map f) + 1) = (if y = x then 0 else pos1 x o + 1)
    by_cases e : y = x
    · rw [if_pos e, if_pos (by rw [e])]
    · rw [if_neg e, if_neg fun z => e (h y List.mem_cons_self z), pos1_map fun z hz => h z (List.mem_cons_of_mem _ hz)]
def InjOn (f : α → β) (o : List α) : Prop := ∀ x ∈ o, ∀ y ∈ o, f x = f y → x = y
theorem InjOn.perm {f : α → β} {o p : List α} (h : InjOn f o) (e : p.Perm o) : InjOn f p := fun x hx y hy => h x (e.mem_iff.mp hx) y (e.mem_iff.mp hy)
theorem exch_map (f : α → β) (o : List α) (i : Nat) : exch (o.map f) i = (exch o i).map f := by
  unfold exch
  rw [← List.map_drop]
  rcases e : o.drop i with _ | ⟨a, _ | ⟨b, r⟩⟩
  · rfl
  · rfl
  · simp
theorem mv_map {f : α → β} {o : List α} (k : Kd) {x : α} (h : InjOn f o) (hx : x ∈ o) : mv (o.map f) k (f x) = (mv o k x).map f := by
  have hp : pos1 (f x) (o.map f) = pos1 x o := pos1_map fun y hy => h y hy x hx
  cases k with
  | front => show f x :: ((o.map f).take (pos1 (f x) (o.map f)) ++ (o.map f).drop (pos1 (f x) (o.map f) + 1)) = (x :: (o.take (pos1 x o) ++ o.drop (pos1 x o + 1))).map f; rw [hp]; simp
  | back => show (o.map f).take (pos1 (f x) (o.map f)) ++ (o.map f).drop (pos1 (f x) (o.map f) + 1) ++ [f x] = (o.take (pos1 x o) ++ o.drop (pos1 x o + 1) ++ [x]).map f; rw [hp]; simp
  | up =>
    show (if pos1 (f x) (o.map f) = 0 then o.map f else exch (o.map f) (pos1 (f x) (o.map f) - 1)) = (if pos1 x o = 0 then o else exch o (pos1 x o - 1)).map f
    rw [hp, exch_map]; split <;> rfl
  | down => show exch (o.map f) (pos1 (f x) (o.map f)) = (exch o (pos1 x o)).map f; rw [hp, exch_map]
def renS (f : α → β) (s : List (Kd × α)) : List (Kd × β) := s.map fun c => (c.1, f c.2)
theorem runS_map {f : α → β} : ∀ (s : List (Kd × α)) {o : List α}, InjOn f o → (∀ c ∈ s, c.2 ∈ o) → runS (o.map f) (renS f s) = (runS o s).map f
  | [], _, _, _ => rfl
  | c :: s, o, n, h => by
    have hc := h c List.mem_cons_self
    show runS (mv (o.map f) c.1 (f c.2)) (renS f s) = (runS (mv o c.1 c.2) s).map f
    rw [mv_map c.1 n hc]
    exact runS_map s (n.perm (mv_perm o c.1 hc)) fun d hd => (mv_mem _ hc).mpr (h d (List.mem_cons_of_mem _ hd))
theorem bef_map {f : α → β} {o : List α} {x y : α} (h : InjOn f o) (hx : x ∈ o) (hy : y ∈ o) : bef (o.map f) (f y) (f x) = bef o y x := by
  unfold bef
  rw [pos1_map fun z hz => h z hz x hx, pos1_map fun z hz => h z hz y hy]
theorem invL_map {f : α → β} {o : List α} (h : InjOn f o) : ∀ {l : List α}, (∀ x ∈ l, x ∈ o) → invL (o.map f) (l.map f) = invL o l
  | [], _ => rfl
  | x :: r, hl => by
    show (r.map f).countP (fun y => bef (o.map f) y (f x)) + invL (o.map f) (r.map f) = r.countP (fun y => bef o y x) + invL o r
    rw [List.countP_map, invL_map h fun y hy => hl y (List.mem_cons_of_mem _ hy)]
    congr 1
    exact countP_eq fun y hy => bef_map h (hl x List.mem_cons_self) (hl y (List.mem_cons_of_mem _ hy))
theorem cost_map {f : α → β} {o t : List α} (h : InjOn f o) (ht : ∀ x ∈ t, x ∈ o) (s e : Nat) : cost (o.map f) (t.map f) s e = cost o t s e := by
  unfold cost
  rw [List.length_map, ← List.map_drop, ← List.map_take, invL_map h fun x hx => ht x (List.mem_of_mem_drop (List.mem_of_mem_take hx))]
theorem best_map {f : α → β} {o t : List α} (h : InjOn f o) (ht : ∀ x ∈ t, x ∈ o) : best (o.map f) (t.map f) = best o t := by
  unfold best
  have e : (fun p : Nat × Nat => cost (o.map f) (t.map f) p.1 p.2) = fun p => cost o t p.1 p.2 := funext fun p => cost_map h ht p.1 p.2
  rw [e, List.length_map]
theorem dist_map {f : α → β} {o t : List α} (h : InjOn f o) (ht : ∀ x ∈ t, x ∈ o) : dist (o.map f) (t.map f) = dist o t := by
  unfold dist
  rw [best_map h ht, cost_map h ht]
/-! ### one more layer -/
theorem invL_out {o l : List α} {x : α} (hx : x ∉ l) : invL (x :: o) l = invL o l := invL_congr fun a ha b hb => by
  rw [bef_cons, if_neg (fun e : x = a => hx (e ▸ ha)), if_neg (fun e : x = b => hx (e ▸ hb))]
theorem invL_head {o l : List α} {x : α} (hx : x ∉ l) : invL (x :: o) (x :: l) = invL o l := by
  show l.countP (fun y => bef (x :: o) y x) + invL (x :: o) l = _
  have h1 : l.countP (fun y => bef (x :: o) y x) = 0 := List.countP_eq_zero.mpr fun y _ => by rw [bef_cons, if_pos rfl]; simp
  rw [h1, invL_out hx, Nat.zero_add]
theorem dist_cons {o t : List α} {x : α} (hp : t.Perm o) (hx : x ∉ o) (h : o ≠ []) : dist o t ≤ dist (x :: o) (x :: t) ∧ dist (x :: o) (x :: t) ≤ dist o t + 1 := by
  have hxt : x ∉ t := fun m => hx (hp.mem_iff.mp m)
  have ht := ne_of_perm hp h
  have hlen := hp.length_eq
  constructor
  · obtain ⟨a, l, b, e, hl, hd⟩ := dist_ex (x :: o) (t := x :: t) (by simp)
    rw [hd]
    have len := congrArg List.length e
    simp at len
    cases a with
    | nil =>
      cases l with
      | nil => exact absurd rfl hl
      | cons y l =>
        simp at e
        obtain ⟨e1, e2⟩ := e
        subst e1
        have hxl : x ∉ l := fun m => hxt (by rw [e2]; simp [m])
        by_cases hln : l = []
        · subst hln
          rw [costL_one]
          have := dist_lt (o := o) ht
          simp; omega
        · have := dist_le_L (o := o) (a := []) (l := l) (b := b) hln
          rw [List.nil_append, ← e2] at this
          refine Nat.le_trans this ?_
          unfold costL
          rw [invL_head hxl]
          simp
    | cons y a =>
      simp at e
      obtain ⟨e1, e2⟩ := e
      have hxl : x ∉ l := fun m => hxt (by rw [e2]; simp [m])
      have := dist_le_L (o := o) (a := a) (l := l) (b := b) hl
      rw [List.append_assoc, ← e2] at this
      refine Nat.le_trans this ?_
      unfold costL
      rw [invL_out hxl]
      simp; omega
  · obtain ⟨a, l, b, e, hl, hd⟩ := dist_ex o ht
    rw [hd]
    have len := congrArg List.length e
    simp at len
    have hxl : x ∉ l := fun m => hxt (by rw [e]; simp [m])
    have := dist_le_L (o := x :: o) (a := x :: a) (l := l) (b := b) hl
    rw [List.cons_append, List.cons_append, ← e] at this
    refine Nat.le_trans this ?_
    unfold costL
    rw [invL_out hxl]
    simp; omega
theorem dist_snoc {o t : List α} {x : α} (hp : t.Perm o) (hx : x ∉ o) (no : o.Nodup) (h : o ≠ []) : dist o t ≤ dist (o ++ [x]) (t ++ [x]) ∧ dist (o ++ [x]) (t ++ [x]) ≤ dist o t + 1 := by
  have nx : (o ++ [x]).Nodup := List.nodup_append.mpr ⟨no, by simp, fun a ha b hb e => by simp at hb; exact hx (by rw [← hb, ← e]; exact ha)⟩
  have h1 := dist_mir (o := o ++ [x]) (t := t ++ [x]) (hp.append (List.Perm.refl _)) nx (by simp)
  have h2 := dist_mir hp no h
  have h3 := dist_cons (o := o.reverse) (t := t.reverse) (x := x) ((List.reverse_perm t).trans (hp.trans (List.reverse_perm o).symm)) (by simpa using hx) (by simpa using h)
  simp at h1
  rw [h1, h2] at h3
  exact h3
end
end LM
/-! Scripts of front and back: normal forms. -/
namespace LM
open DL (pos1 pos1_lt pos1_get pos1_first)
section
variable {α : Type} [DecidableEq α]
def ne1 (x : α) (l : List α) : List α := l.filter fun y => !decide (y = x)
def nfStep (p : List α × List α) (c : Kd × α) : List α × List α := if c.1 = .front then (c.2 :: ne1 c.2 p.1, ne1 c.2 p.2) else (ne1 c.2 p.1, ne1 c.2 p.2 ++ [c.2])
def nform (s : List (Kd × α)) : List α × List α := s.foldl nfStep ([], [])
def Ends (s : List (Kd × α)) : Prop := ∀ c ∈ s, c.1 = .front ∨ c.1 = .back
theorem mem_ne1 {x y : α} {l : List α} : y ∈ ne1 x l ↔ y ∈ l ∧ y ≠ x := by unfold ne1; simp
theorem nform_snoc (s : List (Kd × α)) (c : Kd × α) : nform (s ++ [c]) = nfStep (nform s) c := by unfold nform; rw [List.foldl_append]; rfl
/-- the middle: the layers without a command -/
def mid (p : List α × List α) (o : List α) : List α := o.filter fun y => !decide (y ∈ p.1 ++ p.2)
structure NfOk (p : List α × List α) (o : List α) : Prop where
  nd : (p.1 ++ p.2).Nodup
  sub : ∀ x ∈ p.1 ++ p.2, x ∈ o
theorem nform_ok {o : List α} : ∀ (s : List (Kd × α)), (∀ c ∈ s, c.2 ∈ o) → NfOk (nform s) o := by
  refine snoc_ind (fun _ => ⟨by simp [nform], by simp [nform]⟩) fun s c ih h => ?_
  obtain ⟨nd, sub⟩ := ih fun d hd => h d (by simp [hd])
  have hc := h c (by simp)
  rw [nform_snoc]
  generalize nform s = p at nd sub
  obtain ⟨F, B⟩ := p
  obtain ⟨n1, n2, n3⟩ := List.nodup_append.mp nd
  have nf : (ne1 c.2 F).Nodup := n1.sublist List.filter_sublist
  have nb : (ne1 c.2 B).Nodup := n2.sublist List.filter_sublist
  have ds : ∀ a ∈ ne1 c.2 F, ∀ b ∈ ne1 c.2 B, a ≠ b := fun a ha b hb => n3 a (mem_ne1.mp ha).1 b (mem_ne1.mp hb).1
  unfold nfStep
  by_cases e : c.1 = .front
  · rw [if_pos e]
    refine ⟨?_, fun x hx => ?_⟩
    · show (c.2 :: ne1 c.2 F ++ ne1 c.2 B).Nodup
      rw [List.cons_append]
      refine List.nodup_cons.mpr ⟨fun m => ?_, List.nodup_append.mpr ⟨nf, nb, ds⟩⟩
      rcases List.mem_append.mp m with m | m
      · exact (mem_ne1.mp m).2 rfl
      · exact (mem_ne1.mp m).2 rfl
    · have hx : x ∈ c.2 :: ne1 c.2 F ++ ne1 c.2 B := hx
      rw [List.cons_append] at hx
      rcases List.mem_cons.mp hx with rfl | m
      · exact hc
      · rcases List.mem_append.mp m with m | m
        · exact sub x (by simp [(mem_ne1.mp m).1])
        · exact sub x (by simp [(mem_ne1.mp m).1])
  · rw [if_neg e]
    refine ⟨?_, fun x hx => ?_⟩
    · show (ne1 c.2 F ++ (ne1 c.2 B ++ [c.2])).Nodup
      rw [← List.append_assoc]
      refine List.nodup_append.mpr ⟨List.nodup_append.mpr ⟨nf, nb, ds⟩, by simp, fun a ha b hb z => ?_⟩
      have hb : b = c.2 := by simpa using hb
      rw [z, hb] at ha
      rcases List.mem_append.mp ha with m | m
      · exact (mem_ne1.mp m).2 rfl
      · exact (mem_ne1.mp m).2 rfl
    · have hx : x ∈ ne1 c.2 F ++ (ne1 c.2 B ++ [c.2]) := hx
      rcases List.mem_append.mp hx with m | m
      · exact sub x (by simp [(mem_ne1.mp m).1])
      · rcases List.mem_append.mp m with m | m
        · exact sub x (by simp [(mem_ne1.mp m).1])
        · have : x = c.2 := by simpa using m
          rw [this]; exact hc
/-- what a script of front and back leads to -/
theorem ends_run {o : List α} (no : o.Nodup) : ∀ (s : List (Kd × α)), Ends s → (∀ c ∈ s, c.2 ∈ o) → runS o s = (nform s).1 ++ mid (nform s) o ++ (nform s).2 := by
  refine snoc_ind (fun _ _ => ?_) fun s c ih he h => ?_
  · show o = [] ++ mid ([], []) o ++ []
    unfold mid
    rw [List.nil_append, List.append_nil]
    exact (List.filter_eq_self.mpr fun y _ => by simp).symm
  · have hs : ∀ d ∈ s, d.2 ∈ o := fun d hd => h d (by simp [hd])
    have ih := ih (fun d hd => he d (by simp [hd])) hs
    obtain ⟨nd, sub⟩ := nform_ok s hs
    have hc := h c (by simp)
    have hcr : c.2 ∈ runS o s := (runS_mem' hs c.2).mpr hc
    have nr : (runS o s).Nodup := (runS_perm s o hs).nodup_iff.mpr no
    rw [nform_snoc, runS_append]
    show mv (runS o s) c.1 c.2 = _
    rcases he c (by simp) with e | e
    · rw [e, mv_front' hcr nr, ih]
      unfold nfStep
      rw [if_pos e]
      generalize nform s = p
      obtain ⟨F, B⟩ := p
      show c.2 :: (F ++ mid (F, B) o ++ B).filter _ = (c.2 :: ne1 c.2 F) ++ mid (c.2 :: ne1 c.2 F, ne1 c.2 B) o ++ ne1 c.2 B
      rw [List.filter_append, List.filter_append, List.cons_append, List.cons_append]
      congr 2
      congr 1
      unfold mid
      rw [List.filter_filter]
      refine List.filter_congr fun y _ => ?_
      by_cases e1 : y = c.2
      · simp [e1]
      · by_cases e2 : y ∈ F <;> by_cases e3 : y ∈ B <;> simp [e1, e2, e3, mem_ne1]
    · rw [e, mv_back' hcr nr, ih]
      unfold nfStep
      rw [if_neg (by rw [e]; decide)]
      generalize nform s = p
      obtain ⟨F, B⟩ := p
      show (F ++ mid (F, B) o ++ B).filter _ ++ [c.2] = ne1 c.2 F ++ mid (ne1 c.2 F, ne1 c.2 B ++ [c.2]) o ++ (ne1 c.2 B ++ [c.2])
      rw [List.filter_append, List.filter_append, ← List.append_assoc]
      congr 2
      congr 1
      unfold mid
      rw [List.filter_filter]
      refine List.filter_congr fun y _ => ?_
      by_cases e1 : y = c.2
      · simp [e1]
      · by_cases e2 : y ∈ F <;> by_cases e3 : y ∈ B <;> simp [e1, e2, e3, mem_ne1]
theorem len_parts {p : List α × List α} {o : List α} (ok : NfOk p o) (no : o.Nodup) : (mid p o).length + (p.1 ++ p.2).length = o.length := by
  have h : (mid p o ++ (p.1 ++ p.2)).Perm o := by
    refine (List.perm_ext_iff_of_nodup (List.nodup_append.mpr ⟨no.sublist List.filter_sublist, ok.nd, fun a ha b hb e => ?_⟩) no).mpr fun x => ?_
    · subst e
      have := (List.mem_filter.mp ha).2
      simp at this hb
      rcases hb with hb | hb
      · exact this.1 hb
      · exact this.2 hb
    · constructor
      · intro hx
        rcases List.mem_append.mp hx with m | m
        · exact (List.mem_filter.mp m).1
        · exact ok.sub x m
      · intro hx
        by_cases m : x ∈ p.1 ++ p.2
        · exact List.mem_append.mpr (.inr m)
        · exact List.mem_append.mpr (.inl (List.mem_filter.mpr ⟨hx, by simp only [decide_eq_false m]; rfl⟩))
  have := h.length_eq
  rw [List.length_append] at this
  exact this
/-- two layers of the middle may stand in any order -/
theorem mid_head {p : List α × List α} {o : List α} {x : α} (hx : x ∈ mid p o) : ∃ o', o'.Perm o ∧ (mid p o').head? = some x := by
  have hxo : x ∈ o := (List.mem_filter.mp hx).1
  have hp := (List.mem_filter.mp hx).2
  obtain ⟨l, r, rfl, _⟩ := split_of hxo
  refine ⟨x :: (l ++ r), List.perm_middle.symm, ?_⟩
  unfold mid
  rw [List.filter_cons, if_pos hp]; rfl
theorem mid_last {p : List α × List α} {o : List α} {x : α} (hx : x ∈ mid p o) : ∃ o', o'.Perm o ∧ (mid p o').getLast? = some x := by
  have hxo : x ∈ o := (List.mem_filter.mp hx).1
  have hp := (List.mem_filter.mp hx).2
  obtain ⟨l, r, rfl, _⟩ := split_of hxo
  refine ⟨l ++ r ++ [x], (List.perm_append_singleton x (l ++ r)).trans List.perm_middle.symm, ?_⟩
  unfold mid
  rw [List.filter_append, List.filter_cons, if_pos hp]; simp
theorem mid_len {p : List α × List α} {o o' : List α} (h : o'.Perm o) : (mid p o').length = (mid p o).length := (h.filter _).length_eq
theorem head_of_get {l : List α} {x : α} (h : l.head? = some x) : l[0]? = some x := by cases l <;> simpa using h
/-- of two normal forms that agree on all orders the first has no shorter front, if it leaves two layers -/
theorem front_le {p q : List α × List α} {o : List α} (no : o.Nodup) (h2 : 2 ≤ (mid p o).length) (H : ∀ o', o'.Perm o → p.1 ++ mid p o' ++ p.2 = q.1 ++ mid q o' ++ q.2) : q.1.length ≤ p.1.length := by
  refine Nat.le_of_not_lt fun hlt => ?_
  obtain ⟨x, y, r, e⟩ : ∃ x y r, mid p o = x :: y :: r := by
    match hm : mid p o with
    | [] => rw [hm] at h2; simp at h2
    | [x] => rw [hm] at h2; simp at h2
    | x :: y :: r => exact ⟨x, y, r, rfl⟩
  have nm : (mid p o).Nodup := no.sublist List.filter_sublist
  have hxy : x ≠ y := fun z => by rw [e, z] at nm; simp at nm
  have key : ∀ z ∈ mid p o, q.1[p.1.length]? = some z := fun z hz => by
    obtain ⟨o', hp', hh⟩ := mid_head hz
    have := congrArg (·[p.1.length]?) (H o' hp')
    rw [List.append_assoc, List.getElem?_append_right (Nat.le_refl _), Nat.sub_self, List.append_assoc, List.getElem?_append_left hlt] at this
    rw [← this]
    have h0 := head_of_get hh
    rw [List.getElem?_append_left (by cases hm : mid p o' with | nil => rw [hm] at hh; cases hh | cons _ _ => simp)]
    exact h0
  have a := key x (by rw [e]; simp)
  have b := key y (by rw [e]; simp)
  rw [a] at b
  exact hxy (Option.some.inj b)
theorem mid_rev (p : List α × List α) (o : List α) : mid (p.2.reverse, p.1.reverse) o.reverse = (mid p o).reverse := by
  unfold mid
  rw [← List.filter_reverse]
  refine List.filter_congr fun y _ => ?_
  by_cases e1 : y ∈ p.1 <;> by_cases e2 : y ∈ p.2 <;> simp [e1, e2]
theorem back_le {p q : List α × List α} {o : List α} (no : o.Nodup) (h2 : 2 ≤ (mid p o).length) (H : ∀ o', o'.Perm o → p.1 ++ mid p o' ++ p.2 = q.1 ++ mid q o' ++ q.2) : q.2.length ≤ p.2.length := by
  have := front_le (p := (p.2.reverse, p.1.reverse)) (q := (q.2.reverse, q.1.reverse)) (o := o.reverse) ((List.reverse_perm o).nodup_iff.mpr no) (by rw [mid_rev, List.length_reverse]; exact h2) (fun o' hp' => by
    have h := H o'.reverse ((List.reverse_perm o').trans (hp'.trans (List.reverse_perm o)))
    have h' := congrArg List.reverse h
    have e1 := mid_rev p o'.reverse
    have e2 := mid_rev q o'.reverse
    rw [List.reverse_reverse] at e1 e2
    simp only
    rw [e1, e2]
    simpa using h')
  simpa using this
theorem form_eq {p q : List α × List α} {o : List α} (no : o.Nodup) (okp : NfOk p o) (okq : NfOk q o) (h2 : 2 ≤ (mid p o).length) (H : ∀ o', o'.Perm o → p.1 ++ mid p o' ++ p.2 = q.1 ++ mid q o' ++ q.2) : p = q := by
  have a1 := front_le no h2 H
  have b1 := back_le no h2 H
  have lp := len_parts okp no
  have lq := len_parts okq no
  rw [List.length_append] at lp lq
  have h2' : 2 ≤ (mid q o).length := by omega
  have a2 := front_le no h2' fun o' h => (H o' h).symm
  have b2 := back_le no h2' fun o' h => (H o' h).symm
  have ef : p.1.length = q.1.length := by omega
  have eb : p.2.length = q.2.length := by omega
  have h := H o (List.Perm.refl _)
  rw [List.append_assoc, List.append_assoc] at h
  obtain ⟨h3, h4⟩ := List.append_inj h ef
  have h5 := List.append_inj' h4 eb
  exact Prod.ext h3 h5.2
/-- two scripts of front and back agree on all orders exactly if their normal forms do, or each leaves at most one layer and they agree on one order -/
theorem ends_equal {o : List α} {s s' : List (Kd × α)} (no : o.Nodup) (he : Ends s) (he' : Ends s') (hs : ∀ c ∈ s, c.2 ∈ o) (hs' : ∀ c ∈ s', c.2 ∈ o) :
    (∀ o', o'.Perm o → runS o' s = runS o' s') ↔ (nform s = nform s' ∨ ((o.length - ((nform s).1 ++ (nform s).2).length ≤ 1 ∧ o.length - ((nform s').1 ++ (nform s').2).length ≤ 1) ∧ runS o s = runS o s')) := by
  have okp := nform_ok s hs
  have okq := nform_ok s' hs'
  have lp := len_parts okp no
  have lq := len_parts okq no
  have run : ∀ o', o'.Perm o → runS o' s = (nform s).1 ++ mid (nform s) o' ++ (nform s).2 ∧ runS o' s' = (nform s').1 ++ mid (nform s') o' ++ (nform s').2 := fun o' h =>
    ⟨ends_run (h.nodup_iff.mpr no) s he fun c hc => h.mem_iff.mpr (hs c hc), ends_run (h.nodup_iff.mpr no) s' he' fun c hc => h.mem_iff.mpr (hs' c hc)⟩
  constructor
  · intro H
    have H' : ∀ o', o'.Perm o → (nform s).1 ++ mid (nform s) o' ++ (nform s).2 = (nform s').1 ++ mid (nform s') o' ++ (nform s').2 := fun o' h => by rw [← (run o' h).1, ← (run o' h).2]; exact H o' h
    by_cases h1 : 2 ≤ (mid (nform s) o).length
    · exact .inl (form_eq no okp okq h1 H')
    · by_cases h2 : 2 ≤ (mid (nform s') o).length
      · exact .inl (form_eq no okq okp h2 fun o' h => (H' o' h).symm).symm
      · exact .inr ⟨⟨by omega, by omega⟩, H o (List.Perm.refl _)⟩
  · intro H o' hp
    rw [(run o' hp).1, (run o' hp).2]
    rcases H with e | ⟨⟨h1, h2⟩, e⟩
    · rw [e]
    · rw [(run o (List.Perm.refl _)).1, (run o (List.Perm.refl _)).2] at e
      have m1 : ∀ p : List α × List α, (mid p o).length ≤ 1 → mid p o' = mid p o := fun p hp1 => by
        have hq : (mid p o').Perm (mid p o) := hp.filter _
        match hm : mid p o with
        | [] => rw [hm] at hq; exact hq.eq_nil
        | [x] => rw [hm] at hq; exact hq.eq_singleton
        | x :: y :: r => rw [hm] at hp1; simp at hp1
      rw [m1 _ (by omega), m1 _ (by omega)]
      exact e
/-! ### the layers by their last commands, from the last command on -/
def lfStep (p : List α × List α × List α) (c : Kd × α) : List α × List α × List α :=
  if c.2 ∈ p.2.2 then p else (p.1 ++ (if c.1 = .front then [c.2] else []), (if c.1 = .back then [c.2] else []) ++ p.2.1, p.2.2 ++ [c.2])
def lform (s : List (Kd × α)) : List α × List α × List α := s.reverse.foldl lfStep ([], [], [])
def nin (seen : List α) (l : List α) : List α := l.filter fun y => !decide (y ∈ seen)
theorem lform_gen : ∀ (r : List (Kd × α)) (F B seen : List α), Ends r → ∃ S, r.foldl lfStep (F, B, seen) = (F ++ nin seen (nform r.reverse).1, nin seen (nform r.reverse).2 ++ B, S)
  | [], F, B, seen, _ => ⟨seen, by simp [nform, nin]⟩
  | c :: r, F, B, seen, he => by
    have her : Ends r := fun d hd => he d (List.mem_cons_of_mem _ hd)
    rw [List.foldl_cons, List.reverse_cons, nform_snoc]
    by_cases hm : c.2 ∈ seen
    · rw [show lfStep (F, B, seen) c = (F, B, seen) from if_pos hm]
      obtain ⟨S, h⟩ := lform_gen r F B seen her
      refine ⟨S, ?_⟩
      rw [h]
      generalize nform r.reverse = p
      obtain ⟨F', B'⟩ := p
      have e0 : ∀ l : List α, nin seen (ne1 c.2 l) = nin seen l := fun l => by
        unfold nin ne1
        rw [List.filter_filter]
        refine List.filter_congr fun y _ => ?_
        by_cases e1 : y = c.2
        · simp [e1, hm]
        · simp [e1]
      unfold nfStep
      by_cases e : c.1 = .front
      · rw [if_pos e]
        simp only
        have e1 : nin seen (c.2 :: ne1 c.2 F') = nin seen (ne1 c.2 F') := by unfold nin; rw [List.filter_cons_of_neg (by simp [hm])]
        rw [e1, e0, e0]
      · rw [if_neg e]
        simp only
        have e1 : nin seen (ne1 c.2 B' ++ [c.2]) = nin seen (ne1 c.2 B') := by unfold nin; rw [List.filter_append, List.filter_cons_of_neg (by simp [hm])]; simp
        rw [e1, e0, e0]
    · rw [show lfStep (F, B, seen) c = (F ++ (if c.1 = .front then [c.2] else []), (if c.1 = .back then [c.2] else []) ++ B, seen ++ [c.2]) from if_neg hm]
      obtain ⟨S, h⟩ := lform_gen r (F ++ (if c.1 = .front then [c.2] else [])) ((if c.1 = .back then [c.2] else []) ++ B) (seen ++ [c.2]) her
      refine ⟨S, ?_⟩
      rw [h]
      generalize nform r.reverse = p
      obtain ⟨F', B'⟩ := p
      have e0 : ∀ l : List α, nin seen (ne1 c.2 l) = nin (seen ++ [c.2]) l := fun l => by
        unfold nin ne1
        rw [List.filter_filter]
        refine List.filter_congr fun y _ => ?_
        by_cases e1 : y = c.2
        · simp [e1]
        · by_cases e2 : y ∈ seen <;> simp [e1, e2]
      unfold nfStep
      rcases he c List.mem_cons_self with e | e
      · rw [if_pos e, if_pos e, if_neg (by rw [e]; decide)]
        simp only
        have e1 : nin seen (c.2 :: ne1 c.2 F') = c.2 :: nin seen (ne1 c.2 F') := by unfold nin; rw [List.filter_cons_of_pos (by simp [hm])]
        rw [e1, e0, e0]; simp
      · have nf : ¬ c.1 = Kd.front := by rw [e]; decide
        rw [if_neg nf, if_neg nf, if_pos e]
        simp only
        have e1 : nin seen (ne1 c.2 B' ++ [c.2]) = nin seen (ne1 c.2 B') ++ [c.2] := by unfold nin; rw [List.filter_append]; congr 1; simp [hm]
        rw [e1, e0, e0]; simp
theorem lform_eq {s : List (Kd × α)} (he : Ends s) : (lform s).1 = (nform s).1 ∧ (lform s).2.1 = (nform s).2 := by
  obtain ⟨S, h⟩ := lform_gen s.reverse [] [] [] (fun c hc => he c (by simpa using hc))
  unfold lform
  rw [h, List.reverse_reverse]
  simp [nin]
theorem nd_le : ∀ {a m : List α}, a.Nodup → (∀ x ∈ a, x ∈ m) → a.length ≤ m.length
  | [], _, _, _ => Nat.zero_le _
  | x :: a, m, n, h => by
    obtain ⟨l, r, rfl, hl⟩ := split_of (h x List.mem_cons_self)
    have ih := nd_le (a := a) (m := l ++ r) (List.nodup_cons.mp n).2 fun y hy => by
      have h1 := h y (List.mem_cons_of_mem _ hy)
      have h2 : y ≠ x := fun e => (List.nodup_cons.mp n).1 (e ▸ hy)
      simp [h2] at h1
      simpa using h1
    simp at ih ⊢
    omega
/-- as many commands as moved layers are enough -/
theorem dist_ends_le {o : List α} {s : List (Kd × α)} (no : o.Nodup) (h : o ≠ []) (he : Ends s) (hs : ∀ c ∈ s, c.2 ∈ o) {ls : List α} (hl : ∀ c ∈ s, c.2 ∈ ls) : ∀ m : List α, m.Nodup → (∀ x, x ∈ m ↔ x ∈ ls) → dist o (runS o s) ≤ m.length := by
  intro m nm hm
  have ok := nform_ok s hs
  have okl := nform_ok (o := ls) s hl
  have hlen : ((nform s).1 ++ (nform s).2).length ≤ m.length := nd_le ok.nd fun x hx => (hm x).mpr (okl.sub x hx)
  refine Nat.le_trans ?_ hlen
  have hr := ends_run no s he hs
  have hp := runS_perm s o hs
  have lp := len_parts ok no
  by_cases hmid : mid (nform s) o = []
  · rw [hmid] at lp
    have := dist_lt (o := o) (t := runS o s) (ne_of_perm hp h)
    simp at lp ⊢
    omega
  · have := dist_le_L (o := o) (a := (nform s).1) (l := mid (nform s) o) (b := (nform s).2) hmid
    rw [← hr] at this
    refine Nat.le_trans this ?_
    unfold costL
    have e : invL o (mid (nform s) o) = 0 := by
      have := invL_self (o := mid (nform s) o) (no.sublist List.filter_sublist)
      rw [← this]
      unfold mid
      exact invL_congr fun x hx y hy => (bef_filter (p := fun y => !decide (y ∈ (nform s).1 ++ (nform s).2)) (List.mem_filter.mp hy).2 (List.mem_filter.mp hx).2 o).symm
    rw [e]; omega
end
end LM
/-! Stretches as scripts, from the back. -/
namespace LM
open DL (pos1 pos1_lt pos1_get pos1_first)
section
variable {α : Type} [DecidableEq α]
theorem downs_run {x : α} : ∀ (c : Nat) {u v : List α}, x ∉ u → x ∉ v → c ≤ v.length → runS (u ++ x :: v) (List.replicate c (Kd.down, x)) = u ++ v.take c ++ x :: v.drop c
  | 0, u, v, _, _, _ => by simp [runS]
  | c + 1, u, [], _, _, h => by simp at h
  | c + 1, u, y :: v, hu, hv, h => by
    have hy : x ≠ y := fun e => hv (by simp [e])
    have hv' : x ∉ v := fun m => hv (List.mem_cons_of_mem _ m)
    rw [List.replicate_succ, runS_cons]
    show runS (mv (u ++ x :: y :: v) .down x) _ = _
    rw [mv_down hu]
    have e : u ++ y :: x :: v = (u ++ [y]) ++ x :: v := by simp
    rw [e, downs_run c (by simp [hu, hy]) hv' (by simpa using h)]
    simp
theorem down_step {p rest q : List α} {x : α} (hx : x ∈ rest) (n : (p ++ rest ++ q).Nodup) :
    (∀ c, c ≤ rest.length - 1 - pos1 x rest → pos1 x (runS (p ++ rest ++ q) (List.replicate c (Kd.down, x))) = p.length + pos1 x rest + c) ∧
    runS (p ++ rest ++ q) (List.replicate (rest.length - 1 - pos1 x rest) (Kd.down, x)) = p ++ rest.filter (fun y => !decide (y = x)) ++ x :: q := by
  obtain ⟨u, v, rfl, hu⟩ := split_of hx
  have n1 := (List.nodup_append.mp n).1
  have nr := (List.nodup_append.mp n1).2.1
  have hv : x ∉ v := (List.nodup_cons.mp (List.nodup_append.mp nr).2.1).1
  have hp : x ∉ p := fun m => (List.nodup_append.mp n1).2.2 x m x hx rfl
  have hq : x ∉ q := fun m => (List.nodup_append.mp n).2.2 x (by simp) x m rfl
  have e : p ++ (u ++ x :: v) ++ q = (p ++ u) ++ x :: (v ++ q) := by simp
  have hl : (u ++ x :: v).length - 1 - u.length = v.length := by simp
  rw [pos1_split hu, hl, e, filter_split nr]
  have hpu : x ∉ p ++ u := by simp [hp, hu]
  have hvq : x ∉ v ++ q := by simp [hv, hq]
  refine ⟨fun c hc => ?_, ?_⟩
  · rw [downs_run c hpu hvq (by simp; omega), List.append_assoc (p ++ u)]
    rw [show p ++ u ++ ((v ++ q).take c ++ x :: (v ++ q).drop c) = (p ++ u ++ (v ++ q).take c) ++ x :: (v ++ q).drop c by simp]
    rw [pos1_split (by
      have : x ∉ (v ++ q).take c := fun m => hvq (List.mem_of_mem_take m)
      simp [hp, hu, this])]
    simp; omega
  · rw [downs_run v.length hpu hvq (by simp), List.take_left, List.drop_left]
    simp
/-- the downs of a stretch, told from its last layer on -/
def dnR (o : List α) : List α → List (Kd × α)
  | [] => []
  | x :: r => List.replicate ((o.filter fun y => decide (y ∈ x :: r)).length - 1 - pos1 x (o.filter fun y => decide (y ∈ x :: r))) (Kd.down, x) ++ dnR o r
theorem filter_mem_perm {o l : List α} (no : o.Nodup) (nl : l.Nodup) (h : ∀ x ∈ l, x ∈ o) : (o.filter fun y => decide (y ∈ l)).Perm l := by
  refine (List.perm_ext_iff_of_nodup (no.sublist List.filter_sublist) nl).mpr fun x => ?_
  simp
  exact fun hx => h x hx
theorem filter_tail {o r : List α} {x : α} (hx : x ∉ r) : (o.filter fun y => decide (y ∈ x :: r)).filter (fun y => !decide (y = x)) = o.filter fun y => decide (y ∈ r) := by
  rw [List.filter_filter]
  refine List.filter_congr fun y _ => ?_
  by_cases e : y = x
  · subst e; simp [hx]
  · simp [e]
theorem dnR_run {o p : List α} (no : o.Nodup) : ∀ (r q : List α), (p ++ o.filter (fun y => decide (y ∈ r)) ++ q).Nodup → r.Nodup → (∀ x ∈ r, x ∈ o) → runS (p ++ o.filter (fun y => decide (y ∈ r)) ++ q) (dnR o r) = p ++ r.reverse ++ q
  | [], q, _, _, _ => by
    have e : o.filter (fun y => decide (y ∈ ([] : List α))) = [] := List.filter_eq_nil_iff.mpr fun y _ => by simp
    rw [e]; rfl
  | x :: r, q, n, nr, h => by
    obtain ⟨n1, n2⟩ := List.nodup_cons.mp nr
    have hx : x ∈ o.filter fun y => decide (y ∈ x :: r) := List.mem_filter.mpr ⟨h x List.mem_cons_self, by simp⟩
    show runS _ (List.replicate _ _ ++ dnR o r) = _
    rw [runS_append, (down_step hx n).2, filter_tail n1]
    have e : p ++ (o.filter fun y => decide (y ∈ r)) ++ x :: q = p ++ o.filter (fun y => decide (y ∈ r)) ++ (x :: q) := rfl
    have nn : (p ++ o.filter (fun y => decide (y ∈ r)) ++ x :: q).Nodup := by
      have hp : (p ++ o.filter (fun y => decide (y ∈ r)) ++ x :: q).Perm (p ++ o.filter (fun y => decide (y ∈ x :: r)) ++ q) := by
        rw [List.append_assoc, List.append_assoc]
        refine List.Perm.append_left p ?_
        refine List.perm_middle.trans ?_
        show (x :: o.filter (fun y => decide (y ∈ r)) ++ q).Perm _
        refine List.Perm.append_right q ?_
        exact (List.Perm.cons x (filter_mem_perm no n2 fun y hy => h y (List.mem_cons_of_mem _ hy))).trans (filter_mem_perm no nr h).symm
      exact hp.nodup_iff.mpr n
    rw [dnR_run no r (x :: q) nn n2 fun y hy => h y (List.mem_cons_of_mem _ hy)]
    simp
theorem cross_one (o : List α) (x : α) : ∀ a : List α, cross o a [x] = a.countP fun y => bef o x y
  | [] => rfl
  | y :: a => by
    show [x].countP (fun z => bef o z y) + cross o a [x] = _
    rw [cross_one o x a, List.countP_cons]
    simp [List.countP_cons]
    omega
theorem dn_count {o r : List α} {x : α} (no : o.Nodup) (nr : (x :: r).Nodup) (h : ∀ y ∈ x :: r, y ∈ o) : (o.filter fun y => decide (y ∈ x :: r)).length - 1 - pos1 x (o.filter fun y => decide (y ∈ x :: r)) = r.countP fun y => bef o x y := by
  have hp := filter_mem_perm no nr h
  have hc := pos1_countP hp nr
  have hl := hp.length_eq
  obtain ⟨n1, n2⟩ := List.nodup_cons.mp nr
  have e1 : r.countP (fun y => bef (o.filter fun y => decide (y ∈ x :: r)) y x) = r.countP (fun y => bef o y x) := countP_eq fun y hy => bef_filter (by simp [hy]) (by simp) o
  have e2 : r.countP (fun y => bef o y x) + r.countP (fun y => bef o x y) = r.length := by
    have : r.countP (fun y => bef o x y) = r.countP (fun y => !bef o y x) := countP_eq fun y hy => by
      exact bef_total (h y (List.mem_cons_of_mem _ hy)) (h x List.mem_cons_self) fun e => n1 (e ▸ hy)
    rw [this]
    clear this e1 hc hl hp h nr n1 n2
    induction r with
    | nil => rfl
    | cons z r ih => rw [List.countP_cons, List.countP_cons, List.length_cons]; cases bef o z x <;> simp <;> omega
  rw [hc, e1, hl]
  simp
  omega
theorem dnR_len {o : List α} (no : o.Nodup) : ∀ r : List α, r.Nodup → (∀ x ∈ r, x ∈ o) → (dnR o r).length = invL o r.reverse
  | [], _, _ => rfl
  | x :: r, n, h => by
    show (List.replicate _ _ ++ dnR o r).length = _
    rw [List.length_append, List.length_replicate, dn_count no n h, dnR_len no r (List.nodup_cons.mp n).2 fun y hy => h y (List.mem_cons_of_mem _ hy), List.reverse_cons, invL_append, cross_one]
    have : r.reverse.countP (fun y => bef o x y) = r.countP (fun y => bef o x y) := (List.reverse_perm r).countP_eq _
    rw [this]
    simp [invL]; omega
/-- the commands that a stretch stands for, from the back -/
def scrL (o a l b : List α) : List (Kd × α) := a.reverse.map (fun x => (Kd.front, x)) ++ b.map (fun x => (Kd.back, x)) ++ dnR o l.reverse
theorem fb_run {o a l b : List α} (hp : (a ++ l ++ b).Perm o) (no : o.Nodup) : runS o (a.reverse.map (fun x => (Kd.front, x)) ++ b.map (fun x => (Kd.back, x))) = a ++ o.filter (fun y => decide (y ∈ l)) ++ b := by
  have h := planL_run hp no
  have n := hp.nodup_iff.mpr no
  have n1 := List.nodup_append.mp n
  have n2 := List.nodup_append.mp n1.1
  have hm : ∀ x, x ∈ a ++ l ++ b ↔ x ∈ o := fun x => hp.mem_iff
  rw [runS_append, fronts_run a.reverse no ((List.reverse_perm a).nodup_iff.mpr n2.1) (fun x hx => (hm x).mp (by simp [List.mem_reverse.mp hx]))]
  rw [List.reverse_reverse]
  have nfa : (a ++ o.filter fun y => !decide (y ∈ a.reverse)).Nodup := by
    refine List.nodup_append.mpr ⟨n2.1, no.sublist List.filter_sublist, fun x hx y hy e => ?_⟩
    subst e
    have := (List.mem_filter.mp hy).2
    simp [hx] at this
  rw [backs_run b nfa n1.2.1 (fun x hx => by
    have hxa : x ∉ a := fun m => n1.2.2 x (by simp [m]) x hx rfl
    have : x ∈ o := (hm x).mp (by simp [hx])
    simp [hxa, this])]
  rw [List.filter_append, List.filter_filter]
  have ea : a.filter (fun y => !decide (y ∈ b)) = a := List.filter_eq_self.mpr fun y hy => by
    simp; exact fun m => n1.2.2 y (by simp [hy]) y m rfl
  have el : o.filter (fun y => !decide (y ∈ b) && !decide (y ∈ a.reverse)) = o.filter fun y => decide (y ∈ l) := filter_mem_congr fun y hy => by
    have := (hm y).mpr hy
    simp at this
    by_cases h1 : y ∈ a
    · have : y ∉ l := fun m => n2.2.2 y h1 y m rfl
      simp [h1, this]
    · by_cases h2 : y ∈ b
      · have : y ∉ l := fun m => n1.2.2 y (by simp [m]) y h2 rfl
        simp [h2, this]
      · simp [h1, h2] at this ⊢
        exact this
  rw [ea, el]
theorem mid_nodup {o a l b : List α} (hp : (a ++ l ++ b).Perm o) (no : o.Nodup) : (a ++ o.filter (fun y => decide (y ∈ l)) ++ b).Nodup := by
  have n := hp.nodup_iff.mpr no
  have h := stretch_perm hp n
  exact ((List.Perm.append_left a h).append_right b).nodup_iff.mpr n
theorem scrL_run {o a l b : List α} (hp : (a ++ l ++ b).Perm o) (no : o.Nodup) : runS o (scrL o a l b) = a ++ l ++ b ∧ (scrL o a l b).length = costL o l ∧ ∀ c ∈ scrL o a l b, c.2 ∈ o := by
  have n := hp.nodup_iff.mpr no
  have nl := nodup_of_split n
  have hm : ∀ x, x ∈ a ++ l ++ b ↔ x ∈ o := fun x => hp.mem_iff
  have hl : ∀ x ∈ l.reverse, x ∈ o := fun x hx => (hm x).mp (by simp [List.mem_reverse.mp hx])
  have nr : l.reverse.Nodup := (List.reverse_perm l).nodup_iff.mpr nl
  have ef : o.filter (fun y => decide (y ∈ l)) = o.filter (fun y => decide (y ∈ l.reverse)) := List.filter_congr fun y _ => by simp
  have hlen := hp.length_eq
  simp at hlen
  refine ⟨?_, ?_, ?_⟩
  · unfold scrL
    rw [runS_append, fb_run hp no, ef, dnR_run no l.reverse b (by rw [← ef]; exact mid_nodup hp no) nr hl, List.reverse_reverse]
  · unfold scrL costL
    rw [List.length_append, List.length_append, List.length_map, List.length_reverse, List.length_map, dnR_len no _ nr hl, List.reverse_reverse]
    omega
  · intro c hc
    unfold scrL at hc
    have dm : ∀ (r : List α), ∀ c ∈ dnR o r, c.2 ∈ r := by
      intro r
      induction r with
      | nil => intro c hc; cases hc
      | cons x r ih =>
        intro c hc
        rcases List.mem_append.mp hc with h | h
        · rw [(List.mem_replicate.mp h).2]; exact List.mem_cons_self
        · exact List.mem_cons_of_mem _ (ih c h)
    rcases List.mem_append.mp hc with h | h
    · rcases List.mem_append.mp h with h | h
      · obtain ⟨x, hx, rfl⟩ := List.mem_map.mp h
        exact (hm x).mp (by simp [List.mem_reverse.mp hx])
      · obtain ⟨x, hx, rfl⟩ := List.mem_map.mp h
        exact (hm x).mp (by simp [hx])
    · exact hl _ (dm _ c h)
end
end LM
/-! All orders; wished first layers. -/
namespace LM
open DL (pos1 pos1_lt pos1_get pos1_first)
section
variable {α : Type} [DecidableEq α]
/-- all rows of k different layers of ls -/
def ordsK (ls : List α) : Nat → List (List α)
  | 0 => [[]]
  | k + 1 => (ordsK ls k).flatMap fun o => (ls.filter fun x => !decide (x ∈ o)).map fun x => o ++ [x]
theorem mem_ordsK (ls : List α) : ∀ (k : Nat) (o : List α), o ∈ ordsK ls k ↔ o.Nodup ∧ o.length = k ∧ ∀ x ∈ o, x ∈ ls
  | 0, o => by
    show o ∈ [[]] ↔ _
    constructor
    · intro h; rw [List.mem_singleton.mp h]; simp
    · rintro ⟨_, h, _⟩; rw [List.eq_nil_of_length_eq_zero h]; simp
  | k + 1, o => by
    show o ∈ (ordsK ls k).flatMap _ ↔ _
    rw [List.mem_flatMap]
    constructor
    · rintro ⟨p, hp, h⟩
      obtain ⟨x, hx, rfl⟩ := List.mem_map.mp h
      obtain ⟨h1, h2⟩ := List.mem_filter.mp hx
      have h2 : x ∉ p := by simpa using h2
      obtain ⟨n, l, s⟩ := (mem_ordsK ls k p).mp hp
      refine ⟨List.nodup_append.mpr ⟨n, by simp, fun a ha b hb e => ?_⟩, by simp [l], fun y hy => ?_⟩
      · have hb : b = x := by simpa using hb
        exact h2 (by rw [← hb, ← e]; exact ha)
      · rcases List.mem_append.mp hy with hy | hy
        · exact s y hy
        · have : y = x := by simpa using hy
          rw [this]; exact h1
    · rintro ⟨n, l, s⟩
      rcases snoc_cases o with rfl | ⟨p, x, rfl⟩
      · simp at l
      · have hn := List.nodup_append.mp n
        refine ⟨p, (mem_ordsK ls k p).mpr ⟨hn.1, by simpa using l, fun y hy => s y (by simp [hy])⟩, List.mem_map.mpr ⟨x, List.mem_filter.mpr ⟨s x (by simp), ?_⟩, rfl⟩⟩
        have : x ∉ p := fun m => hn.2.2 x m x (by simp) rfl
        simp [this]
theorem ordsK_nodup {ls : List α} (h : ls.Nodup) : ∀ k, (ordsK ls k).Nodup
  | 0 => by show ([[]] : List (List α)).Nodup; simp
  | k + 1 => by
    show ((ordsK ls k).flatMap _).Nodup
    refine List.pairwise_flatMap.mpr ⟨fun o _ => ?_, (ordsK_nodup h k).imp fun {o p} hne => ?_⟩
    · refine List.Pairwise.map _ (fun x y hxy e => hxy ?_) (h.sublist List.filter_sublist)
      simpa using e
    · intro l h1 m h2 e
      obtain ⟨x, _, rfl⟩ := List.mem_map.mp h1
      obtain ⟨y, _, rfl⟩ := List.mem_map.mp h2
      exact hne (List.append_inj' e rfl).1
theorem ordsK_len (ls : List α) : ∀ k, (ordsK ls k).length ≤ ls.length ^ k
  | 0 => by simp [ordsK]
  | k + 1 => by
    have ih := ordsK_len ls k
    have h : ∀ (os : List (List α)), (os.flatMap fun o => (ls.filter fun x => !decide (x ∈ o)).map fun x => o ++ [x]).length ≤ os.length * ls.length := by
      intro os
      induction os with
      | nil => simp
      | cons o os ih2 =>
        rw [List.flatMap_cons, List.length_append, List.length_map, List.length_cons, Nat.succ_mul]
        have := List.length_filter_le (fun x => !decide (x ∈ o)) ls
        omega
    refine Nat.le_trans (h _) ?_
    rw [Nat.pow_succ]
    exact Nat.mul_le_mul_right _ ih
theorem perm_of_sub {o ls : List α} (n : o.Nodup) (nl : ls.Nodup) (hl : o.length = ls.length) (s : ∀ x ∈ o, x ∈ ls) : o.Perm ls := by
  induction o generalizing ls with
  | nil => rw [List.eq_nil_of_length_eq_zero hl.symm]
  | cons x o ih =>
    obtain ⟨l, r, rfl, hx⟩ := split_of (s x List.mem_cons_self)
    have n' := List.nodup_cons.mp n
    have nlr : (l ++ r).Nodup := (List.nodup_cons.mp (List.perm_middle.nodup_iff.mp nl)).2
    have := ih (ls := l ++ r) n'.2 nlr (by simp at hl ⊢; omega) fun y hy => by
      have h1 := s y (List.mem_cons_of_mem _ hy)
      have h2 : y ≠ x := fun e => n'.1 (e ▸ hy)
      simp [h2] at h1
      simpa using h1
    exact (List.Perm.cons x this).trans List.perm_middle.symm
/-- all orders of ls -/
theorem mem_ords {ls o : List α} (nl : ls.Nodup) : o ∈ ordsK ls ls.length ↔ o.Perm ls := by
  rw [mem_ordsK]
  constructor
  · rintro ⟨n, l, s⟩; exact perm_of_sub n nl l s
  · intro h; exact ⟨h.nodup_iff.mpr nl, h.length_eq, fun x hx => h.mem_iff.mp hx⟩
/-! ### wished first layers -/
def ahead (o kept : List α) (x : α) : Nat := kept.countP fun u => bef o x u
def restF (o top : List α) : List α := o.filter fun x => !decide (x ∈ top)
def frontF (o top : List α) (c : Nat) : List α := (restF o top).filter fun x => decide (ahead o (top.drop c) x ≤ 1)
def backF (o top : List α) (c : Nat) : List α := (restF o top).filter fun x => !decide (ahead o (top.drop c) x ≤ 1)
def firstF (o top : List α) (c : Nat) : List α := top ++ (frontF o top c ++ backF o top c)
def cands (o top : List α) : List (List α) := (top ++ restF o top) :: (List.range (top.length + 1)).map (firstF o top)
theorem cross_sum (o : List α) : ∀ a b : List α, cross o a b = (b.map (ahead o a)).sum
  | [], b => by
    show 0 = _
    induction b with
    | nil => rfl
    | cons y b ih => rw [List.map_cons, List.sum_cons, ← ih]; rfl
  | x :: a, b => by
    show b.countP (fun y => bef o y x) + cross o a b = _
    rw [cross_sum o a b]
    induction b with
    | nil => rfl
    | cons y b ih =>
      rw [List.map_cons, List.sum_cons, List.map_cons, List.sum_cons, ← ih, List.countP_cons]
      have : ahead o (x :: a) y = ahead o a y + if bef o y x = true then 1 else 0 := by unfold ahead; rw [List.countP_cons]
      rw [this]; omega
theorem invL_sub {o : List α} (no : o.Nodup) (p : α → Bool) : invL o (o.filter p) = 0 := by
  have := invL_self (o := o.filter p) (no.sublist List.filter_sublist)
  rw [← this]
  exact invL_congr fun x hx y hy => (bef_filter (p := p) (List.mem_filter.mp hy).2 (List.mem_filter.mp hx).2 o).symm
theorem sum_bound (f : α → Nat) : ∀ X : List α, X.length ≤ (X.map f).sum + (X.filter fun x => decide (f x = 0)).length
  | [] => Nat.le_refl _
  | x :: X => by
    have ih := sum_bound f X
    rw [List.map_cons, List.sum_cons, List.filter_cons, List.length_cons]
    by_cases h : f x = 0
    · rw [if_pos (by simp [h]), List.length_cons]; omega
    · rw [if_neg (by simp [h])]; omega
theorem sum_front (f : α → Nat) : ∀ R : List α, ((R.filter fun x => decide (f x ≤ 1)).map f).sum + (R.filter fun x => decide (f x = 0)).length = (R.filter fun x => decide (f x ≤ 1)).length
  | [] => rfl
  | x :: R => by
    have ih := sum_front f R
    rw [List.filter_cons, List.filter_cons]
    by_cases h : f x = 0
    · rw [if_pos (by simp [h]), if_pos (by simp [h]), List.map_cons, List.sum_cons, List.length_cons, List.length_cons]; omega
    · by_cases h1 : f x ≤ 1
      · rw [if_pos (by simp [h1]), if_neg (by simp [h]), List.map_cons, List.sum_cons, List.length_cons]; omega
      · rw [if_neg (by simp [h1]), if_neg (by simp [h])]; exact ih
theorem restF_perm {o top : List α} (no : o.Nodup) (nt : top.Nodup) (ht : ∀ x ∈ top, x ∈ o) : (top ++ restF o top).Perm o := by
  refine (List.perm_ext_iff_of_nodup (List.nodup_append.mpr ⟨nt, no.sublist List.filter_sublist, fun a ha b hb e => ?_⟩) no).mpr fun x => ?_
  · subst e
    have := (List.mem_filter.mp hb).2
    simp [ha] at this
  · constructor
    · intro hx
      rcases List.mem_append.mp hx with h | h
      · exact ht x h
      · exact (List.mem_filter.mp h).1
    · intro hx
      by_cases h : x ∈ top
      · exact List.mem_append.mpr (.inl h)
      · exact List.mem_append.mpr (.inr (List.mem_filter.mpr ⟨hx, by simp [h]⟩))
theorem firstF_perm {o top : List α} (no : o.Nodup) (nt : top.Nodup) (ht : ∀ x ∈ top, x ∈ o) (c : Nat) : (firstF o top c).Perm o := by
  refine (List.Perm.append_left top ?_).trans (restF_perm no nt ht)
  exact List.filter_append_perm (fun x => decide (ahead o (top.drop c) x ≤ 1)) (restF o top)
theorem cands_ok {o top : List α} (no : o.Nodup) (nt : top.Nodup) (ht : ∀ x ∈ top, x ∈ o) : ∀ t ∈ cands o top, t.Perm o ∧ t.take top.length = top := by
  intro t h
  rcases List.mem_cons.mp h with rfl | h
  · exact ⟨restF_perm no nt ht, List.take_left⟩
  · obtain ⟨c, _, rfl⟩ := List.mem_map.mp h
    exact ⟨firstF_perm no nt ht c, List.take_left⟩
/-- no order that begins with top is nearer than one of the candidates -/
theorem cands_best {o top t : List α} (no : o.Nodup) (hne : o ≠ []) (hp : t.Perm o) (htop : t.take top.length = top) : ∃ u ∈ cands o top, dist o u ≤ dist o t := by
  have nt := hp.nodup_iff.mpr no
  obtain ⟨p, et⟩ : ∃ p, t = top ++ p := ⟨t.drop top.length, by
    have := List.take_append_drop top.length t
    rw [htop] at this
    exact this.symm⟩
  have ntp : (top ++ p).Nodup := et ▸ nt
  have ntop := (List.nodup_append.mp ntp).1
  have hto : ∀ x ∈ top, x ∈ o := fun x hx => hp.mem_iff.mp (by rw [et]; simp [hx])
  have hpr : ∀ x ∈ p, x ∈ restF o top := fun x hx => List.mem_filter.mpr ⟨hp.mem_iff.mp (by rw [et]; simp [hx]), by
    have : x ∉ top := fun m => (List.nodup_append.mp ntp).2.2 x m x hx rfl
    simp [this]⟩
  have hlen : top.length + (restF o top).length = o.length := by
    have := (restF_perm no ntop hto).length_eq
    rwa [List.length_append] at this
  obtain ⟨a, l, b, e, hl, hd⟩ := dist_ex o (t := t) (ne_of_perm hp hne)
  rw [hd]
  have e2 : top ++ p = a ++ (l ++ b) := by rw [← et, e, List.append_assoc]
  have byRest : (∀ x ∈ l, x ∈ p) → ∃ u ∈ cands o top, dist o u ≤ costL o l := fun hsub => by
    refine ⟨top ++ restF o top, List.mem_cons_self, ?_⟩
    have nl : l.Nodup := nodup_of_split (e ▸ nt)
    have hll : l.length ≤ (restF o top).length := nd_le nl fun x hx => hpr x (hsub x hx)
    have hr : restF o top ≠ [] := fun z => by rw [z] at hll; exact hl (List.eq_nil_of_length_eq_zero (by simpa using hll))
    have := dist_le_L (o := o) (a := top) (l := restF o top) (b := []) hr
    rw [List.append_nil] at this
    refine Nat.le_trans this ?_
    unfold costL
    rw [show invL o (restF o top) = 0 from invL_sub no _]
    omega
  rcases List.append_eq_append_iff.mp e2 with ⟨a', ea, ep⟩ | ⟨c', ea, ep⟩
  · exact byRest fun x hx => by rw [ep]; simp [hx]
  · rcases List.append_eq_append_iff.mp ep with ⟨l', el, eb⟩ | ⟨X, el, eb⟩
    · refine ⟨top ++ restF o top, List.mem_cons_self, ?_⟩
      have := dist_le_L (o := o) (a := a) (l := l) (b := l' ++ restF o top) hl
      rw [show a ++ l ++ (l' ++ restF o top) = top ++ restF o top by rw [ea, el]; simp] at this
      exact this
    · by_cases hc : c' = []
      · subst hc
        exact byRest fun x hx => by rw [eb]; rw [el] at hx; simp at hx; simp [hx]
      · refine ⟨firstF o top a.length, List.mem_cons_of_mem _ (List.mem_map.mpr ⟨a.length, List.mem_range.mpr (by rw [ea]; simp; omega), rfl⟩), ?_⟩
        have ek : top.drop a.length = c' := by rw [ea, List.drop_left]
        have := dist_le_L (o := o) (a := a) (l := c' ++ frontF o top a.length) (b := backF o top a.length) (by simp [hc])
        have efst : a ++ (c' ++ frontF o top a.length) ++ backF o top a.length = firstF o top a.length := by
          have h9 : ∀ f g : List α, a ++ (c' ++ f) ++ g = top ++ (f ++ g) := fun f g => by rw [ea]; simp
          exact h9 _ _
        rw [efst] at this
        refine Nat.le_trans this ?_
        have nX : X.Nodup := by
          have := nodup_of_split (e ▸ nt)
          rw [el] at this
          exact (List.nodup_append.mp this).2.1
        have hX : ∀ x ∈ X, x ∈ restF o top := fun x hx => hpr x (by rw [eb]; simp [hx])
        have hf0 : invL o (frontF o top a.length) = 0 := by
          unfold frontF restF
          rw [List.filter_filter]
          exact invL_sub no _
        unfold costL
        rw [el, invL_append, invL_append, hf0, cross_sum, cross_sum, List.length_append, List.length_append]
        have s1 := sum_bound (ahead o c') X
        have s2 : (X.filter fun x => decide (ahead o c' x = 0)).length ≤ ((restF o top).filter fun x => decide (ahead o c' x = 0)).length :=
          nd_le (nX.sublist List.filter_sublist) fun x hx => by
            obtain ⟨h1, h2⟩ := List.mem_filter.mp hx
            exact List.mem_filter.mpr ⟨hX x h1, h2⟩
        have s3 := sum_front (ahead o c') (restF o top)
        have ef : frontF o top a.length = (restF o top).filter fun x => decide (ahead o c' x ≤ 1) := by unfold frontF; rw [ek]
        have hXl : X.length ≤ (restF o top).length := nd_le nX hX
        have hcl : c'.length ≤ top.length := by rw [ea]; simp
        have hfl : (frontF o top a.length).length ≤ (restF o top).length := List.length_filter_le _ _
        rw [ef] at hfl ⊢
        omega
/-- the first of the candidates with the least distance -/
def bestF (o top : List α) : List α := (cands o top).getD (pos1 (DL.minI ((cands o top).map fun t => (dist o t : Int))) ((cands o top).map fun t => (dist o t : Int))) []
theorem bestF_mem (o top : List α) : bestF o top ∈ cands o top ∧ ∀ u ∈ cands o top, dist o (bestF o top) ≤ dist o u := by
  have hne : (cands o top).map (fun t => (dist o t : Int)) ≠ [] := by unfold cands; simp
  have hm := DL.minI_mem hne
  have hlt := pos1_lt hm
  have hg := pos1_get hm
  rw [List.length_map] at hlt
  have hb : bestF o top = (cands o top)[pos1 (DL.minI ((cands o top).map fun t => (dist o t : Int))) ((cands o top).map fun t => (dist o t : Int))] := by
    unfold bestF
    rw [List.getD_eq_getElem?_getD, List.getElem?_eq_getElem hlt]; rfl
  rw [List.getElem?_map, List.getElem?_eq_getElem hlt] at hg
  have hg := Option.some.inj hg
  refine ⟨by rw [hb]; exact List.getElem_mem _, fun u hu => ?_⟩
  have := DL.minI_le (List.mem_map.mpr ⟨u, hu, rfl⟩ : ((dist o u : Int)) ∈ (cands o top).map fun t => (dist o t : Int))
  rw [hb]
  rw [← hg] at this
  exact Int.ofNat_le.mp this
theorem bestF_ok {o top : List α} (no : o.Nodup) (hne : o ≠ []) (nt : top.Nodup) (ht : ∀ x ∈ top, x ∈ o) : (bestF o top).Perm o ∧ (bestF o top).take top.length = top ∧ ∀ t, t.Perm o → t.take top.length = top → dist o (bestF o top) ≤ dist o t := by
  obtain ⟨h1, h2⟩ := bestF_mem o top
  obtain ⟨h3, h4⟩ := cands_ok no nt ht _ h1
  refine ⟨h3, h4, fun t hp hto => ?_⟩
  obtain ⟨u, hu, hd⟩ := cands_best no hne hp hto
  exact Nat.le_trans (h2 u hu) hd
/-- as many commands as wished layers are enough -/
theorem bestF_le {o top : List α} (no : o.Nodup) (hne : o ≠ []) (nt : top.Nodup) (ht : ∀ x ∈ top, x ∈ o) (hl : top.length < o.length) : dist o (bestF o top) ≤ top.length := by
  have hp := restF_perm no nt ht
  refine Nat.le_trans ((bestF_ok no hne nt ht).2.2 _ hp List.take_left) ?_
  have hlen := hp.length_eq
  rw [List.length_append] at hlen
  have hr : restF o top ≠ [] := fun z => by rw [z] at hlen; simp at hlen; omega
  have := dist_le_L (o := o) (a := top) (l := restF o top) (b := []) hr
  rw [List.append_nil] at this
  refine Nat.le_trans this ?_
  unfold costL
  rw [show invL o (restF o top) = 0 from invL_sub no _]
  omega
end
end LM
/-! Commands that commute: by the orders of numbers. -/
namespace LM
open DL (pos1 pos1_lt pos1_get pos1_first)
section
variable {α : Type} [DecidableEq α]
theorem pos_range : ∀ {L : List α}, L.Nodup → L.map (fun x => pos1 x L) = List.range L.length := by
  intro L n
  refine List.ext_getElem (by simp) fun i h1 h2 => ?_
  rw [List.getElem_map, List.getElem_range]
  rw [List.length_map] at h1
  have e : L = L.take i ++ L[i] :: L.drop (i + 1) := by rw [← List.drop_eq_getElem_cons h1, List.take_append_drop]
  have hx : L[i] ∉ L.take i := fun m => by
    have n2 : (L.take i ++ L[i] :: L.drop (i + 1)).Nodup := e ▸ n
    exact (List.nodup_append.mp n2).2.2 _ m _ List.mem_cons_self rfl
  have key : ∀ (l r : List α) (x : α), x ∉ l → pos1 x (l ++ x :: r) = l.length := fun l r x h => pos1_split h
  have h3 := key (L.take i) (L.drop (i + 1)) L[i] hx
  rw [← e] at h3
  rw [h3, List.length_take]; omega
theorem getD_pos {L : List α} {x : α} (d : α) (h : x ∈ L) : L.getD (pos1 x L) d = x := by
  rw [List.getD_eq_getElem?_getD, pos1_get h]; rfl
theorem injOn_getD {L : List α} (n : L.Nodup) (d : α) {o : List Nat} (h : ∀ i ∈ o, i < L.length) : InjOn (fun i => L.getD i d) o := by
  intro i hi j hj e
  have a := h i hi
  have b := h j hj
  have e1 : L.getD i d = L[i] := by rw [List.getD_eq_getElem?_getD, List.getElem?_eq_getElem a]; rfl
  have e2 : L.getD j d = L[j] := by rw [List.getD_eq_getElem?_getD, List.getElem?_eq_getElem b]; rfl
  have e : L[i] = L[j] := by rw [← e1, ← e2]; exact e
  have key : ∀ (i : Nat) (h : i < L.length), pos1 L[i] L = i := fun i h => by
    have h9 := congrArg (·[i]?) (pos_range n)
    simp [h] at h9
    exact h9
  rw [← key i a, ← key j b, e]
theorem map_inj {β : Type} [DecidableEq β] {f : α → β} {l m : List α} {o : List α} (h : InjOn f o) (hl : ∀ x ∈ l, x ∈ o) (hm : ∀ x ∈ m, x ∈ o) (e : l.map f = m.map f) : l = m := by
  induction l generalizing m with
  | nil => cases m with | nil => rfl | cons _ _ => cases e
  | cons x l ih =>
    cases m with
    | nil => cases e
    | cons y m =>
      simp at e
      have := h x (hl x List.mem_cons_self) y (hm y List.mem_cons_self) e.1
      rw [this, ih (fun z hz => hl z (List.mem_cons_of_mem _ hz)) (fun z hz => hm z (List.mem_cons_of_mem _ hz)) e.2]
/-- two scripts agree on all orders of L exactly if they do on all orders of its places -/
theorem by_places {L : List α} (n : L.Nodup) (d : α) {s t : List (Kd × Nat)} (hs : ∀ c ∈ s, c.2 < L.length) (ht : ∀ c ∈ t, c.2 < L.length) :
    (∀ o : List α, o.Perm L → runS o (renS (fun i => L.getD i d) s) = runS o (renS (fun i => L.getD i d) t)) ↔ ∀ o ∈ ordsK (List.range L.length) L.length, runS o s = runS o t := by
  have hr : ∀ o : List Nat, o ∈ ordsK (List.range L.length) L.length ↔ o.Perm (List.range L.length) := fun o => by
    have := mem_ords (ls := List.range L.length) (o := o) List.nodup_range
    rwa [List.length_range] at this
  have lmap : (List.range L.length).map (fun i => L.getD i d) = L := by
    refine List.ext_getElem (by simp) fun i h1 h2 => ?_
    rw [List.getElem_map, List.getElem_range, List.getD_eq_getElem?_getD, List.getElem?_eq_getElem h2]; rfl
  constructor
  · intro H o ho
    have hp := (hr o).mp ho
    have hlt : ∀ i ∈ o, i < L.length := fun i hi => List.mem_range.mp (hp.mem_iff.mp hi)
    have inj := injOn_getD n d hlt
    have hm : ∀ s : List (Kd × Nat), (∀ c ∈ s, c.2 < L.length) → ∀ c ∈ s, c.2 ∈ o := fun s hs c hc => hp.mem_iff.mpr (List.mem_range.mpr (hs c hc))
    have hp2 : (o.map fun i => L.getD i d).Perm L := by
      have := hp.map fun i => L.getD i d
      rwa [lmap] at this
    have := H _ hp2
    rw [runS_map s inj (hm s hs), runS_map t inj (hm t ht)] at this
    exact map_inj inj (fun x hx => (runS_mem' (hm s hs) x).mp hx) (fun x hx => (runS_mem' (hm t ht) x).mp hx) this
  · intro H o hp
    have ho : (o.map fun x => pos1 x L).map (fun i => L.getD i d) = o := by
      rw [List.map_map]
      conv => rhs; rw [← List.map_id o]
      refine List.map_congr_left fun x hx => ?_
      exact getD_pos d (hp.mem_iff.mp hx)
    have hp2 : (o.map fun x => pos1 x L).Perm (List.range L.length) := by
      have := hp.map fun x => pos1 x L
      rwa [pos_range n] at this
    have hlt : ∀ i ∈ o.map (fun x => pos1 x L), i < L.length := fun i hi => List.mem_range.mp (hp2.mem_iff.mp hi)
    have inj := injOn_getD n d hlt
    have hm : ∀ s : List (Kd × Nat), (∀ c ∈ s, c.2 < L.length) → ∀ c ∈ s, c.2 ∈ o.map fun x => pos1 x L := fun s hs c hc => hp2.mem_iff.mpr (List.mem_range.mpr (hs c hc))
    have := H _ ((hr _).mpr hp2)
    rw [← ho, runS_map s inj (hm s hs), runS_map t inj (hm t ht), this]
end
def kds : List Kd := [.front, .back, .up, .down]
theorem mem_kds (k : Kd) : k ∈ kds := by cases k <;> decide
/-- commands for two layers commute -/
def exp2 (k l : Kd) : Bool := decide ((k, l) = (.front, .back)) || decide ((k, l) = (.back, .front))
/-- commands for one layer commute -/
def exp1 (k l : Kd) : Bool := decide (k = l) || (decide ((k, l) = (.front, .up)) || decide ((k, l) = (.up, .front))) || (decide ((k, l) = (.back, .down)) || decide ((k, l) = (.down, .back)))
def same (n : Nat) (s t : List (Kd × Nat)) : Bool := (ordsK (List.range n) n).all fun o => decide (runS o s = runS o t)
theorem same_iff {n : Nat} {s t : List (Kd × Nat)} : same n s t = true ↔ ∀ o ∈ ordsK (List.range n) n, runS o s = runS o t := by
  unfold same; rw [List.all_eq_true]; simp
theorem tab : ([3, 4, 5].all fun n => kds.all fun k => kds.all fun l => (same n [(k, 0), (l, 1)] [(l, 1), (k, 0)] == exp2 k l) && (same n [(k, 0), (l, 0)] [(l, 0), (k, 0)] == exp1 k l)) = true := by decide +kernel
theorem tab2 : ([2, 3, 4, 5].all fun n => (kds.all fun l => same n [(.front, 0), (l, 0), (.front, 0)] [(l, 0), (.front, 0)]) && (([.front, .back] : List Kd).all fun l => same n [(.front, 0), (l, 1), (.front, 0)] [(l, 1), (.front, 0)])) = true := by decide +kernel
section
variable {α : Type} [DecidableEq α]
theorem tabR {n : Nat} (h : 3 ≤ n ∧ n ≤ 5) (k l : Kd) : same n [(k, 0), (l, 1)] [(l, 1), (k, 0)] = exp2 k l ∧ same n [(k, 0), (l, 0)] [(l, 0), (k, 0)] = exp1 k l := by
  have hn : n ∈ ([3, 4, 5] : List Nat) := by simp; omega
  have := List.all_eq_true.mp (List.all_eq_true.mp (List.all_eq_true.mp tab n hn) k (mem_kds k)) l (mem_kds l)
  rw [Bool.and_eq_true] at this
  exact ⟨by simpa using this.1, by simpa using this.2⟩
theorem front_first {L : List α} {x : α} (hx : x ∈ L) : ∃ r, (x :: r).Perm L := by
  obtain ⟨l, r, rfl, _⟩ := split_of hx
  exact ⟨l ++ r, List.perm_middle.symm⟩
theorem front_two {L : List α} {x y : α} (hx : x ∈ L) (hy : y ∈ L) (h : x ≠ y) : ∃ r, (x :: y :: r).Perm L := by
  obtain ⟨r, hr⟩ := front_first hx
  have : y ∈ x :: r := hr.mem_iff.mpr hy
  have hyr : y ∈ r := (List.mem_cons.mp this).resolve_left fun e => h e.symm
  obtain ⟨r', hr'⟩ := front_first hyr
  exact ⟨r', (List.Perm.cons x hr').trans hr⟩
theorem perm_all {L M : List α} (h : M.Perm L) {p : List α → Prop} : (∀ o : List α, o.Perm L → p o) ↔ ∀ o : List α, o.Perm M → p o :=
  ⟨fun H o ho => H o (ho.trans h), fun H o ho => H o (ho.trans h.symm)⟩
def expC (a b : Kd × α) : Bool := if a.2 = b.2 then exp1 a.1 b.1 else exp2 a.1 b.1
theorem comm_iff {L : List α} (n : L.Nodup) (hl : 3 ≤ L.length ∧ L.length ≤ 5) {a b : Kd × α} (ha : a.2 ∈ L) (hb : b.2 ∈ L) : (∀ o : List α, o.Perm L → runS o [a, b] = runS o [b, a]) ↔ expC a b = true := by
  obtain ⟨k, x⟩ := a
  obtain ⟨l, y⟩ := b
  unfold expC
  by_cases e : x = y
  · subst e
    rw [if_pos rfl]
    obtain ⟨r, hr⟩ := front_first ha
    have nr := hr.nodup_iff.mpr n
    have hlen := hr.length_eq
    rw [perm_all hr, ← (tabR (hlen ▸ hl) k l).2, same_iff]
    exact by_places (L := x :: r) nr x (s := [(k, 0), (l, 0)]) (t := [(l, 0), (k, 0)]) (by simp) (by simp)
  · rw [if_neg e]
    obtain ⟨r, hr⟩ := front_two ha hb e
    have nr := hr.nodup_iff.mpr n
    have hlen := hr.length_eq
    rw [perm_all hr, ← (tabR (hlen ▸ hl) k l).1, same_iff]
    exact by_places (L := x :: y :: r) nr x (s := [(k, 0), (l, 1)]) (t := [(l, 1), (k, 0)]) (by simp) (by simp)
theorem twice_ok {L : List α} (n : L.Nodup) (hl : 2 ≤ L.length ∧ L.length ≤ 5) {x : α} {b : Kd × α} (hx : x ∈ L) (hb : b.2 ∈ L) (h : (b.1 = .front ∨ b.1 = .back) ∨ b.2 = x) : ∀ o : List α, o.Perm L → runS o [(.front, x), b, (.front, x)] = runS o [b, (.front, x)] := by
  obtain ⟨l, y⟩ := b
  by_cases e : x = y
  · subst e
    obtain ⟨r, hr⟩ := front_first hx
    have nr := hr.nodup_iff.mpr n
    have hlen := hr.length_eq
    have hn : (x :: r).length ∈ ([2, 3, 4, 5] : List Nat) := by rw [hlen]; simp; omega
    have t := List.all_eq_true.mp tab2 _ hn
    rw [Bool.and_eq_true] at t
    rw [perm_all hr]
    exact (by_places (L := x :: r) nr x (s := [(.front, 0), (l, 0), (.front, 0)]) (t := [(l, 0), (.front, 0)]) (by simp) (by simp)).mpr (same_iff.mp (List.all_eq_true.mp t.1 l (mem_kds l)))
  · have hk : l ∈ ([.front, .back] : List Kd) := by
      rcases h with (h | h) | h
      · simp at h; simp [h]
      · simp at h; simp [h]
      · exact absurd h.symm e
    obtain ⟨r, hr⟩ := front_two hx hb e
    have nr := hr.nodup_iff.mpr n
    have hlen := hr.length_eq
    have hn : (x :: y :: r).length ∈ ([2, 3, 4, 5] : List Nat) := by rw [hlen]; simp; omega
    have t := List.all_eq_true.mp tab2 _ hn
    rw [Bool.and_eq_true] at t
    rw [perm_all hr]
    exact (by_places (L := x :: y :: r) nr x (s := [(.front, 0), (l, 1), (.front, 0)]) (t := [(l, 1), (.front, 0)]) (by simp) (by simp)).mpr (same_iff.mp (List.all_eq_true.mp t.2 l hk))
end
end LM
/-! The search by levels. -/
namespace LM
open DL (pos1 pos1_lt pos1_get pos1_first)
section
variable {α : Type} [DecidableEq α]
abbrev Lvl (α : Type) := List (List α × Nat)
def stC (c : Nat) (st : Lvl α × List (List α)) (t : List α) : Lvl α × List (List α) := if t ∈ st.1.map (·.1) then st else (st.1 ++ [(t, c)], st.2 ++ [t])
def othersL (cmds : List (Kd × α)) (front : List (List α)) : List (List α) := front.flatMap fun o => cmds.map fun c => mv o c.1 c.2
def nextL (cmds : List (Kd × α)) (c : Nat) (kvs : Lvl α) (front : List (List α)) : Lvl α × List (List α) := (othersL cmds front).foldl (stC (c + 1)) (kvs, [])
def lvls (cmds : List (Kd × α)) : Nat → Lvl α → List (List α) → Nat → Lvl α
  | 0, kvs, _, _ => kvs
  | f + 1, kvs, front, c => if front = [] then kvs else lvls cmds f (nextL cmds c kvs front).1 (nextL cmds c kvs front).2 (c + 1)
theorem fold_inv {c : Nat} {kvs0 : Lvl α} (h0 : (kvs0.map (·.1)).Nodup) : ∀ (ts : List (List α)) (r : List (List α)), ((kvs0 ++ r.map fun t => (t, c)).map (·.1)).Nodup →
    ∃ r', ts.foldl (stC c) (kvs0 ++ r.map (fun t => (t, c)), r) = (kvs0 ++ r'.map (fun t => (t, c)), r') ∧ ((kvs0 ++ r'.map fun t => (t, c)).map (·.1)).Nodup ∧ (∀ t ∈ r', t ∈ r ∨ t ∈ ts) ∧ (∀ t ∈ ts, t ∈ (kvs0 ++ r'.map fun t => (t, c)).map (·.1)) ∧ (∀ t ∈ r, t ∈ r') ∧ r.length ≤ r'.length
  | [], r, h => ⟨r, rfl, h, fun t ht => .inl ht, fun t ht => (by cases ht), fun t ht => ht, Nat.le_refl _⟩
  | t :: ts, r, h => by
    by_cases e : t ∈ (kvs0 ++ r.map fun t => (t, c)).map (·.1)
    · obtain ⟨r', h1, h2, h3, h4, h5, h6⟩ := fold_inv h0 ts r h
      refine ⟨r', ?_, h2, fun u hu => (h3 u hu).imp id fun z => List.mem_cons_of_mem _ z, fun u hu => ?_, h5, h6⟩
      · rw [List.foldl_cons, show stC c (kvs0 ++ r.map (fun t => (t, c)), r) t = (kvs0 ++ r.map (fun t => (t, c)), r) from if_pos e]; exact h1
      · rcases List.mem_cons.mp hu with rfl | hu
        · rw [List.map_append, List.mem_append] at e ⊢
          refine e.imp id fun z => ?_
          rw [List.map_map, List.mem_map] at z ⊢
          obtain ⟨w, hw, e2⟩ := z
          exact ⟨w, h5 w hw, e2⟩
        · exact h4 u hu
    · have n1 : ((kvs0 ++ (r ++ [t]).map fun t => (t, c)).map (·.1)).Nodup := by
        rw [List.map_append (f := fun t => (t, c)), ← List.append_assoc, List.map_append, List.nodup_append]
        exact ⟨h, by simp, fun a ha b hb => by simp at hb; subst hb; exact fun z => e (z ▸ ha)⟩
      obtain ⟨r', h1, h2, h3, h4, h5, h6⟩ := fold_inv h0 ts (r ++ [t]) n1
      refine ⟨r', ?_, h2, fun u hu => ?_, fun u hu => ?_, fun u hu => h5 u (List.mem_append_left _ hu), by rw [List.length_append] at h6; omega⟩
      · rw [List.foldl_cons, show stC c (kvs0 ++ r.map (fun t => (t, c)), r) t = (kvs0 ++ (r ++ [t]).map (fun t => (t, c)), r ++ [t]) from ?_]
        · exact h1
        · rw [List.map_append, ← List.append_assoc]; exact if_neg e
      · rcases h3 u hu with z | z
        · rcases List.mem_append.mp z with z | z
          · exact .inl z
          · exact .inr (by simp at z; subst z; exact List.mem_cons_self)
        · exact .inr (List.mem_cons_of_mem _ z)
      · rcases List.mem_cons.mp hu with rfl | hu
        · rw [List.map_append, List.mem_append, List.map_map]
          exact .inr (List.mem_map.mpr ⟨u, h5 u (by simp), rfl⟩)
        · exact h4 u hu
/-- the search stands at level c -/
structure AtL (o : List α) (c : Nat) (kvs : Lvl α) (front : List (List α)) : Prop where
  nd : (kvs.map (·.1)).Nodup
  val : ∀ p ∈ kvs, p.1.Perm o ∧ p.2 = dist o p.1 ∧ p.2 ≤ c
  all : ∀ t : List α, t.Perm o → dist o t ≤ c → t ∈ kvs.map (·.1)
  fr : ∀ t : List α, t ∈ front ↔ t.Perm o ∧ dist o t = c
theorem AtL.start {o : List α} (no : o.Nodup) (h : o ≠ []) : AtL o 0 [(o, 0)] [o] := by
  have z := dist_self no h
  refine ⟨by simp, fun p hp => ?_, fun t ht hd => ?_, fun t => ?_⟩
  · simp at hp; subst hp; exact ⟨List.Perm.refl _, z.symm, Nat.le_refl _⟩
  · have := (dist_zero ht no h).mp (by omega); simp [this]
  · rw [List.mem_singleton]
    constructor
    · rintro rfl; exact ⟨List.Perm.refl _, z⟩
    · rintro ⟨h1, h2⟩; exact ((dist_zero h1 no h).mp h2).symm
/-- a place one command before t -/
theorem dist_pred {o t : List α} (hp : t.Perm o) (no : o.Nodup) (h : o ≠ []) {c : Nat} (hd : dist o t = c + 1) : ∃ u k x, u.Perm o ∧ dist o u = c ∧ x ∈ o ∧ mv u k x = t := by
  obtain ⟨h1, h2, h3⟩ := plan_run hp no h
  rw [hd] at h2
  have hk : c < (plan o t).length := by omega
  have hm : ∀ z ∈ (plan o t).take c, z.2 ∈ o := fun z hz => h3 z (List.mem_of_mem_take hz)
  refine ⟨runS o ((plan o t).take c), (plan o t)[c].1, (plan o t)[c].2, runS_perm _ _ hm, ?_, h3 _ (List.getElem_mem hk), ?_⟩
  · have p1 := runS_perm _ _ hm
    have l1 := dist_le_run no h hm rfl
    rw [List.length_take] at l1
    have l2 := dist_tri p1 hp no h
    have n1 := p1.nodup_iff.mpr no
    have l3 : dist (runS o ((plan o t).take c)) t ≤ 1 := by
      refine dist_le_run (s := [(plan o t)[c]]) n1 (ne_of_perm p1 h) ?_ ?_
      · intro z hz; simp at hz; subst hz; exact p1.mem_iff.mpr (h3 _ (List.getElem_mem hk))
      · show mv _ _ _ = t
        rw [← runS_take1 hk, List.take_of_length_le (by omega), h1]
    omega
  · rw [← runS_take1 hk, List.take_of_length_le (by omega), h1]
theorem dist_down {o t : List α} (hp : t.Perm o) (no : o.Nodup) (h : o ≠ []) : ∀ (k c : Nat), dist o t = c + k → ∃ u : List α, u.Perm o ∧ dist o u = c
  | 0, c, e => ⟨t, hp, e⟩
  | k + 1, c, e => by
    obtain ⟨u, h1, h2⟩ := dist_down hp no h k (c + 1) (by omega)
    obtain ⟨v, _, _, h3, h4, _⟩ := dist_pred h1 no h h2
    exact ⟨v, h3, h4⟩
theorem dist_mv1 {o u : List α} (hp : u.Perm o) (no : o.Nodup) (h : o ≠ []) (k : Kd) {x : α} (hx : x ∈ o) : dist o (mv u k x) ≤ dist o u + 1 := by
  have nu := hp.nodup_iff.mpr no
  have hxu := hp.mem_iff.mpr hx
  have p2 := mv_perm u k hxu
  have l1 := dist_tri hp (p2.trans hp) no h
  have l2 : dist u (mv u k x) ≤ 1 := dist_le_run (s := [(k, x)]) nu (ne_of_perm hp h) (fun z hz => by simp at hz; subst hz; exact hxu) rfl
  omega
theorem others_ok {o : List α} {cmds : List (Kd × α)} (hc : ∀ c, c ∈ cmds ↔ c.2 ∈ o) (no : o.Nodup) (h : o ≠ []) {c : Nat} {kvs : Lvl α} {front : List (List α)} (A : AtL o c kvs front) : ∀ t ∈ othersL cmds front, t.Perm o ∧ dist o t ≤ c + 1 := by
  intro t ht
  obtain ⟨u, hu, ht⟩ := List.mem_flatMap.mp ht
  obtain ⟨z, hz, rfl⟩ := List.mem_map.mp ht
  obtain ⟨p1, d1⟩ := (A.fr u).mp hu
  have hx := (hc z).mp hz
  have := dist_mv1 p1 no h z.1 hx
  exact ⟨(mv_perm u z.1 (p1.mem_iff.mpr hx)).trans p1, by omega⟩
theorem AtL.next {o : List α} {cmds : List (Kd × α)} (hc : ∀ c, c ∈ cmds ↔ c.2 ∈ o) (no : o.Nodup) (h : o ≠ []) {c : Nat} {kvs : Lvl α} {front : List (List α)} (A : AtL o c kvs front) : AtL o (c + 1) (nextL cmds c kvs front).1 (nextL cmds c kvs front).2 := by
  have hts := others_ok hc no h A
  obtain ⟨r, h1, h2, h3, h4, _, _⟩ := fold_inv (c := c + 1) A.nd (othersL cmds front) [] (by simpa using A.nd)
  have e : nextL cmds c kvs front = (kvs ++ r.map (fun t => (t, c + 1)), r) := by unfold nextL; simpa using h1
  have hr : ∀ t ∈ r, t ∈ othersL cmds front := fun t ht => by
    rcases h3 t ht with z | z
    · cases z
    · exact z
  have fresh : ∀ t ∈ r, t ∉ kvs.map (·.1) := fun t ht hk => by
    rw [List.map_append, List.nodup_append] at h2
    exact h2.2.2 t hk t (by rw [List.map_map]; exact List.mem_map.mpr ⟨t, ht, rfl⟩) rfl
  have dr : ∀ t ∈ r, t.Perm o ∧ dist o t = c + 1 := fun t ht => by
    obtain ⟨p1, d1⟩ := hts t (hr t ht)
    refine ⟨p1, Nat.le_antisymm d1 ?_⟩
    exact Nat.lt_of_not_le fun z => fresh t ht (A.all t p1 z)
  have alln : ∀ t : List α, t.Perm o → dist o t ≤ c + 1 → t ∈ (kvs ++ r.map (fun t => (t, c + 1))).map (·.1) := fun t p d => by
    by_cases q : dist o t ≤ c
    · rw [List.map_append]; exact List.mem_append_left _ (A.all t p q)
    · obtain ⟨u, k, x, p1, d1, hx, em⟩ := dist_pred p no h (c := c) (by omega)
      refine h4 t (List.mem_flatMap.mpr ⟨u, (A.fr u).mpr ⟨p1, d1⟩, List.mem_map.mpr ⟨(k, x), (hc _).mpr hx, em⟩⟩)
  rw [e]
  refine ⟨h2, fun p hp => ?_, alln, fun t => ⟨dr t, fun ⟨p1, d1⟩ => ?_⟩⟩
  · rcases List.mem_append.mp hp with z | z
    · obtain ⟨a, b, d⟩ := A.val p z; exact ⟨a, b, by omega⟩
    · obtain ⟨t, ht, rfl⟩ := List.mem_map.mp z
      obtain ⟨a, b⟩ := dr t ht
      exact ⟨a, b.symm, Nat.le_refl _⟩
  · have z := alln t p1 (by omega)
    rw [List.map_append, List.mem_append] at z
    rcases z with z | z
    · obtain ⟨p, hp, rfl⟩ := List.mem_map.mp z
      obtain ⟨_, b, d⟩ := A.val p hp
      omega
    · rw [List.map_map] at z
      obtain ⟨u, hu, rfl⟩ := List.mem_map.mp z
      exact hu
/-- the search's end -/
structure Lv (o : List α) (kvs : Lvl α) : Prop where
  nd : (kvs.map (·.1)).Nodup
  val : ∀ p ∈ kvs, p.2 = dist o p.1
  keys : ∀ t : List α, t ∈ kvs.map (·.1) ↔ t.Perm o
theorem AtL.done {o : List α} (no : o.Nodup) (h : o ≠ []) {c : Nat} {kvs : Lvl α} (A : AtL o c kvs []) : Lv o kvs := by
  refine ⟨A.nd, fun p hp => (A.val p hp).2.1, fun t => ⟨fun ht => ?_, fun ht => ?_⟩⟩
  · obtain ⟨p, hp, rfl⟩ := List.mem_map.mp ht; exact (A.val p hp).1
  · refine A.all t ht (Nat.le_of_not_lt fun z => ?_)
    obtain ⟨u, h1, h2⟩ := dist_down ht no h (dist o t - c) c (by omega)
    exact absurd ((A.fr u).mpr ⟨h1, h2⟩) (by simp)
theorem AtL.lt {o : List α} (h : o ≠ []) {c : Nat} {kvs : Lvl α} {front : List (List α)} (A : AtL o c kvs front) (hf : front ≠ []) : c + 1 ≤ o.length := by
  cases front with
  | nil => exact absurd rfl hf
  | cons t r =>
    obtain ⟨p, d⟩ := (A.fr t).mp List.mem_cons_self
    have := dist_lt (o := o) (t := t) (ne_of_perm p h)
    have : 0 < o.length := List.length_pos_iff.mpr h
    omega
theorem lvls_ok {o : List α} {cmds : List (Kd × α)} (hc : ∀ c, c ∈ cmds ↔ c.2 ∈ o) (no : o.Nodup) (h : o ≠ []) : ∀ (f c : Nat) (kvs : Lvl α) (front : List (List α)), AtL o c kvs front → c + f = o.length → Lv o (lvls cmds f kvs front c)
  | 0, c, kvs, front, A, e => by
    have : front = [] := Classical.byContradiction fun z => by have := A.lt h z; omega
    subst this
    exact A.done no h
  | f + 1, c, kvs, front, A, e => by
    unfold lvls
    split
    · rename_i z; subst z; exact A.done no h
    · exact lvls_ok hc no h f (c + 1) _ _ (A.next hc no h) (by omega)
def levelsOf (cmds : List (Kd × α)) (o : List α) : Lvl α := lvls cmds o.length [(o, 0)] [o] 0
theorem levels_ok {o : List α} {cmds : List (Kd × α)} (hc : ∀ c, c ∈ cmds ↔ c.2 ∈ o) (no : o.Nodup) (h : o ≠ []) : Lv o (levelsOf cmds o) := lvls_ok hc no h _ _ _ _ (AtL.start no h) (by omega)
/-- few: as many as there are orders -/
theorem nodup_le {β : Type} [DecidableEq β] : ∀ {l m : List β}, l.Nodup → (∀ x ∈ l, x ∈ m) → l.length ≤ m.length
  | [], m, _, _ => Nat.zero_le _
  | x :: l, m, n, h => by
    have hx := h x List.mem_cons_self
    have ih := nodup_le (l := l) (m := m.erase x) (List.nodup_cons.mp n).2 fun y hy => by
      have : y ≠ x := fun e => (List.nodup_cons.mp n).1 (e ▸ hy)
      exact (List.mem_erase_of_ne this).mpr (h y (List.mem_cons_of_mem _ hy))
    rw [List.length_erase_of_mem hx] at ih
    have : 0 < m.length := List.length_pos_of_mem hx
    simp only [List.length_cons]; omega
theorem few {o : List α} (no : o.Nodup) {ks : List (List α)} (n : ks.Nodup) (h : ∀ t ∈ ks, t.Perm o) : ks.length ≤ o.length ^ o.length :=
  Nat.le_trans (nodup_le n fun t ht => (mem_ords no).mpr (h t ht)) (ordsK_len o o.length)
theorem Lv.perm {o : List α} {kvs : Lvl α} (L : Lv o kvs) (no : o.Nodup) : (kvs.map (·.1)).Perm (ordsK o o.length) := by
  refine (List.perm_ext_iff_of_nodup L.nd (ordsK_nodup no _)).mpr fun t => ?_
  rw [L.keys t, mem_ords no]
theorem Lv.vals {o : List α} {kvs : Lvl α} (L : Lv o kvs) : kvs = (kvs.map (·.1)).map fun t => (t, dist o t) := by
  rw [List.map_map]
  refine (List.map_id kvs).symm.trans (List.map_congr_left fun p hp => ?_)
  show p = (p.1, dist o p.1)
  rw [← L.val p hp]
end
end LM
/-! How many orders lie at which distance: as many for every order. -/
namespace LM
open DL (pos1 pos1_lt pos1_get pos1_first)
section
variable {α : Type} [DecidableEq α]
def sphN (n : Nat) : List Nat := (List.range n).map fun d => ((ordsK (List.range n) n).map (dist (List.range n))).count d
def sphO (o : List α) (os : List (List α)) : List Nat := (List.range o.length).map fun d => (os.map (dist o)).count d
theorem range_getD (L : List α) (d : α) : (List.range L.length).map (fun i => L.getD i d) = L := by
  refine List.ext_getElem (by simp) fun i h1 h2 => ?_
  rw [List.getElem_map, List.getElem_range, List.getD_eq_getElem?_getD, List.getElem?_eq_getElem h2]; rfl
theorem mem_ordsR {n : Nat} {o : List Nat} : o ∈ ordsK (List.range n) n ↔ o.Perm (List.range n) := by
  have := mem_ords (ls := List.range n) (o := o) List.nodup_range
  rwa [List.length_range] at this
theorem ords_places {o : List α} (no : o.Nodup) (d : α) {os : List (List α)} (ho : os.Nodup) (hm : ∀ t, t ∈ os ↔ t.Perm o) : os.Perm ((ordsK (List.range o.length) o.length).map (List.map fun i => o.getD i d)) := by
  have hlt : ∀ s : List Nat, s ∈ ordsK (List.range o.length) o.length → ∀ i ∈ s, i ∈ List.range o.length := fun s hs i hi => (mem_ordsR.mp hs).mem_iff.mp hi
  have inj : InjOn (fun i => o.getD i d) (List.range o.length) := injOn_getD no d fun i hi => List.mem_range.mp hi
  have nd : ((ordsK (List.range o.length) o.length).map (List.map fun i => o.getD i d)).Nodup := by
    have n0 := ordsK_nodup (List.nodup_range (n := o.length)) o.length
    refine List.pairwise_map.mpr (List.Pairwise.imp_of_mem (fun {a b} ha hb hab e => ?_) n0)
    exact hab (map_inj inj (hlt a ha) (hlt b hb) e)
  refine (List.perm_ext_iff_of_nodup ho nd).mpr fun t => ?_
  rw [hm t, List.mem_map]
  constructor
  · intro hp
    refine ⟨t.map fun x => pos1 x o, mem_ordsR.mpr ?_, ?_⟩
    · have := hp.map fun x => pos1 x o
      rwa [pos_range no] at this
    · rw [List.map_map]
      refine (List.map_congr_left fun x hx => ?_).trans (List.map_id t)
      exact getD_pos d (hp.mem_iff.mp hx)
  · rintro ⟨s, hs, rfl⟩
    have := (mem_ordsR.mp hs).map fun i => o.getD i d
    rwa [range_getD] at this
theorem sph_eq {o : List α} (no : o.Nodup) (h : o ≠ []) {os : List (List α)} (ho : os.Nodup) (hm : ∀ t, t ∈ os ↔ t.Perm o) : sphO o os = sphN o.length := by
  obtain ⟨d, hd⟩ : ∃ d, d ∈ o := by cases o with | nil => exact absurd rfl h | cons x r => exact ⟨x, List.mem_cons_self⟩
  unfold sphO sphN
  refine List.map_congr_left fun k _ => ?_
  have p := (ords_places no d ho hm).map (dist o)
  rw [p.count_eq, List.map_map]
  congr 1
  refine List.map_congr_left fun s hs => ?_
  have e := range_getD o d
  have inj : InjOn (fun i => o.getD i d) (List.range o.length) := injOn_getD no d fun i hi => List.mem_range.mp hi
  have q := dist_map (t := s) inj fun x hx => (mem_ordsR.mp hs).mem_iff.mp hx
  rw [e] at q
  exact q
theorem sum_count : ∀ (l : List Nat) (n : Nat), (∀ x ∈ l, x < n) → ((List.range n).map fun d => l.count d).sum = l.length
  | [], n, _ => by
    show ((List.range n).map fun d => 0).sum = 0
    induction n with
    | zero => rfl
    | succ n ih => rw [List.range_succ, List.map_append, List.sum_append, ih (by intro x hx; cases hx)]; rfl
  | x :: l, n, h => by
    have ih := sum_count l n fun y hy => h y (List.mem_cons_of_mem _ hy)
    have hx := h x List.mem_cons_self
    have key : ∀ m, ((List.range m).map fun d => (x :: l).count d).sum = ((List.range m).map fun d => l.count d).sum + if x < m then 1 else 0 := by
      intro m
      induction m with
      | zero => simp
      | succ m ih =>
        rw [List.range_succ, List.map_append, List.map_append, List.sum_append, List.sum_append, ih]
        simp only [List.map_cons, List.map_nil, List.sum_cons, List.sum_nil, List.count_cons]
        by_cases e : x = m
        · subst e; simp; omega
        · have : (x == m) = false := beq_eq_false_iff_ne.mpr e
          have e2 : (x < m + 1) = (x < m) := propext ⟨fun z => by omega, fun z => by omega⟩
          simp only [this, e2, Bool.false_eq_true, if_false]; omega
    rw [key n, ih, if_pos hx]; rfl
theorem sph_sum {o : List α} (h : o ≠ []) {os : List (List α)} (hm : ∀ t ∈ os, t.Perm o) : (sphO o os).sum = os.length := by
  unfold sphO
  rw [sum_count _ _ fun x hx => ?_, List.length_map]
  obtain ⟨t, ht, rfl⟩ := List.mem_map.mp hx
  have := dist_lt (o := o) (t := t) (ne_of_perm (hm t ht) h)
  have : 0 < o.length := List.length_pos_iff.mpr h
  omega
/-- one more at place x -/
theorem cnt_step (l : List Nat) (x n : Nat) : ((List.range n).map fun d => l.count d).set x (l.count x + 1) = (List.range n).map fun d => (l ++ [x]).count d := by
  refine List.ext_getElem (by simp) fun i h1 h2 => ?_
  rw [List.getElem_map, List.getElem_range, List.count_append]
  by_cases e : x = i
  · subst e; simp
  · rw [List.getElem_set_ne e, List.getElem_map, List.getElem_range]
    have : (x == i) = false := beq_eq_false_iff_ne.mpr e
    simp [List.count_cons, this]
theorem max_dist {o : List α} (no : o.Nodup) (h : o ≠ []) {os : List (List α)} (hm : ∀ t, t ∈ os ↔ t.Perm o) : DL.maxI (os.map fun t => (dist o t : Int)) = (o.length : Int) - 1 := by
  have hp : 0 < o.length := List.length_pos_iff.mpr h
  refine DL.maxI_eq (List.mem_map.mpr ⟨o.reverse, (hm _).mpr (List.reverse_perm o), ?_⟩) fun y hy => ?_
  · rw [dist_rev no h]; omega
  · obtain ⟨t, ht, rfl⟩ := List.mem_map.mp hy
    have := dist_lt (o := o) (t := t) (ne_of_perm ((hm t).mp ht) h)
    omega
end
theorem sphN3 : sphN 3 = [1, 4, 1] := by decide +kernel
theorem sphN1 : sphN 1 = [1] := by decide +kernel
end LM
/-! The longest rising run. -/
namespace LM
open DL (pos1 pos1_lt pos1_get pos1_first)
section
variable {α : Type} [DecidableEq α]
def lonK (o t : List α) (z : α) : Nat → Nat × Nat
  | 0 => (1, 1)
  | k + 1 => (max (lonK o t z k).1 (if bef o (t.getD k z) (t.getD (k + 1) z) = true then (lonK o t z k).2 + 1 else 1), if bef o (t.getD k z) (t.getD (k + 1) z) = true then (lonK o t z k).2 + 1 else 1)
def Chn (o t : List α) (z : α) (s e : Nat) : Prop := ∀ i, s ≤ i → i + 1 < e → bef o (t.getD i z) (t.getD (i + 1) z) = true
theorem lonK_ok (o t : List α) (z : α) : ∀ k, (1 ≤ (lonK o t z k).2 ∧ (lonK o t z k).2 ≤ k + 1 ∧ Chn o t z (k + 1 - (lonK o t z k).2) (k + 1)) ∧ 1 ≤ (lonK o t z k).1 ∧ ∃ e, e ≤ k + 1 ∧ (lonK o t z k).1 ≤ e ∧ Chn o t z (e - (lonK o t z k).1) e
  | 0 => by
    have c : Chn o t z 0 1 := fun i h1 h2 => by omega
    exact ⟨⟨Nat.le_refl _, Nat.le_refl _, c⟩, Nat.le_refl _, 1, Nat.le_refl _, Nat.le_refl _, c⟩
  | k + 1 => by
    obtain ⟨⟨h1, h2, h3⟩, h4, e, h5, h6, h7⟩ := lonK_ok o t z k
    have A : 1 ≤ (lonK o t z (k + 1)).2 ∧ (lonK o t z (k + 1)).2 ≤ k + 1 + 1 ∧ Chn o t z (k + 1 + 1 - (lonK o t z (k + 1)).2) (k + 1 + 1) := by
      show 1 ≤ (if _ then _ else _) ∧ (if _ then _ else _) ≤ _ ∧ Chn o t z (_ - if _ then _ else _) _
      by_cases b : bef o (t.getD k z) (t.getD (k + 1) z) = true
      · rw [if_pos b]
        refine ⟨by omega, by omega, fun i a1 a2 => ?_⟩
        by_cases q : i = k
        · subst q; exact b
        · exact h3 i (by omega) (by omega)
      · rw [if_neg b]
        exact ⟨by omega, by omega, fun i a1 a2 => by omega⟩
    refine ⟨A, ?_, ?_⟩
    · show 1 ≤ max _ _; omega
    · by_cases q : (lonK o t z k).1 ≤ (lonK o t z (k + 1)).2
      · have m : (lonK o t z (k + 1)).1 = (lonK o t z (k + 1)).2 := Nat.max_eq_right q
        rw [m]
        exact ⟨k + 1 + 1, Nat.le_refl _, A.2.1, A.2.2⟩
      · have m : (lonK o t z (k + 1)).1 = (lonK o t z k).1 := Nat.max_eq_left (Nat.le_of_lt (Nat.lt_of_not_le q))
        rw [m]
        exact ⟨e, by omega, h6, h7⟩
theorem invL_pw {o : List α} : ∀ {l : List α}, l.Pairwise (fun x y => bef o y x = false) → invL o l = 0
  | [], _ => rfl
  | x :: r, h => by
    obtain ⟨h1, h2⟩ := List.pairwise_cons.mp h
    unfold invL
    rw [invL_pw h2, List.countP_eq_zero.mpr fun y hy => by rw [h1 y hy]; exact Bool.false_ne_true]
theorem chn_pos {o t : List α} {z : α} {s e : Nat} (c : Chn o t z s e) : ∀ d i, s ≤ i → i + d + 1 < e → pos1 (t.getD i z) o < pos1 (t.getD (i + d + 1) z) o
  | 0, i, h1, h2 => of_decide_eq_true (c i h1 (by omega))
  | d + 1, i, h1, h2 => by
    have a := chn_pos c d i h1 (by omega)
    have b : pos1 (t.getD (i + d + 1) z) o < pos1 (t.getD (i + d + 1 + 1) z) o := of_decide_eq_true (c (i + d + 1) (by omega) (by omega))
    exact Nat.lt_trans a b
theorem chn_dist {o t : List α} {z : α} {s e : Nat} (c : Chn o t z s e) (h : s < e) (he : e ≤ t.length) : dist o t ≤ o.length - (e - s) := by
  refine Nat.le_trans (dist_le_cost o t h he) ?_
  unfold cost
  rw [invL_pw, Nat.add_zero]
  · exact Nat.le_refl _
  · refine List.pairwise_iff_getElem.mpr fun i j hi hj hij => ?_
    have l1 : ((t.drop s).take (e - s)).length = e - s := by rw [List.length_take, List.length_drop]; omega
    rw [l1] at hi hj
    have g : ∀ k (hk : k < e - s), ((t.drop s).take (e - s))[k]'(by rw [l1]; exact hk) = t.getD (s + k) z := fun k hk => by
      rw [List.getElem_take, List.getElem_drop, List.getD_eq_getElem?_getD, List.getElem?_eq_getElem (by omega)]; rfl
    rw [g i hi, g j hj]
    have := chn_pos c (j - i - 1) (s + i) (by omega) (by omega)
    rw [show s + i + (j - i - 1) + 1 = s + j by omega] at this
    exact decide_eq_false (by omega)
theorem dist_long {o t : List α} (z : α) (hl : t.length = o.length) (h : t ≠ []) : dist o t + (lonK o t z (t.length - 1)).1 ≤ o.length := by
  have hp : 0 < t.length := List.length_pos_iff.mpr h
  obtain ⟨_, h4, e, h5, h6, h7⟩ := lonK_ok o t z (t.length - 1)
  have := chn_dist h7 (by omega) (by omega)
  omega
theorem lonK_le (o t : List α) (z : α) (k : Nat) : (lonK o t z k).1 ≤ k + 1 ∧ (lonK o t z k).2 ≤ k + 1 := by
  obtain ⟨⟨_, h2, _⟩, _, e, h5, h6, _⟩ := lonK_ok o t z k
  omega
theorem dist_pairs {o t : List α} (hl : t.length = o.length) (h : t ≠ []) : dist o t ≤ invL o t := by
  have hp : 0 < t.length := List.length_pos_iff.mpr h
  have := dist_le_cost o t hp (Nat.le_refl _)
  unfold cost at this
  rw [List.drop_zero, Nat.sub_zero, List.take_length] at this
  omega
end
end LM
/-! How many scripts of a length lead where. -/
namespace LM
open DL (pos1 pos1_lt pos1_get pos1_first)
section
variable {α : Type} [DecidableEq α]
def walks (cmds : List (Kd × α)) (o : List α) : Nat → List (List α)
  | 0 => [o]
  | n + 1 => (walks cmds o n).flatMap fun u => cmds.map fun c => mv u c.1 c.2
/-- numbers by keys -/
def valN (kvs : Lvl α) (t : List α) : Nat := ((kvs.find? fun p => decide (p.1 = t)).map (·.2)).getD 0
def addN (kvs : Lvl α) (t : List α) (c : Nat) : Lvl α := if t ∈ kvs.map (·.1) then kvs.map (fun p => if p.1 = t then (p.1, p.2 + c) else p) else kvs ++ [(t, c)]
theorem valN_cons (p : List α × Nat) (kvs : Lvl α) (t : List α) : valN (p :: kvs) t = if p.1 = t then p.2 else valN kvs t := by
  unfold valN
  rw [List.find?_cons]
  by_cases e : p.1 = t
  · rw [decide_eq_true e, if_pos e]; rfl
  · rw [decide_eq_false e, if_neg e]
theorem valN_not {kvs : Lvl α} {t : List α} (h : t ∉ kvs.map (·.1)) : valN kvs t = 0 := by
  induction kvs with
  | nil => rfl
  | cons p kvs ih =>
    rw [List.map_cons, List.mem_cons, not_or] at h
    rw [valN_cons, if_neg fun e => h.1 e.symm, ih h.2]
theorem valN_snoc (kvs : Lvl α) (t u : List α) (c : Nat) (h : t ∉ kvs.map (·.1)) : valN (kvs ++ [(t, c)]) u = valN kvs u + if t = u then c else 0 := by
  induction kvs with
  | nil => rw [List.nil_append, valN_cons]; simp [valN]
  | cons p kvs ih =>
    rw [List.map_cons, List.mem_cons, not_or] at h
    rw [List.cons_append, valN_cons, valN_cons, ih h.2]
    by_cases e : p.1 = u
    · rw [if_pos e, if_pos e, if_neg fun z => h.1 (z.trans e.symm)]; rfl
    · rw [if_neg e, if_neg e]
theorem valN_upd (t u : List α) (c : Nat) : ∀ kvs : Lvl α, t ∈ kvs.map (·.1) → valN (kvs.map fun p => if p.1 = t then (p.1, p.2 + c) else p) u = valN kvs u + if t = u then c else 0
  | p :: kvs, h => by
    rw [List.map_cons, valN_cons, valN_cons]
    by_cases e : p.1 = t
    · rw [if_pos e]
      by_cases z : p.1 = u
      · rw [if_pos z, if_pos z, if_pos (e.symm.trans z)]
      · rw [if_neg z, if_neg z]
        have zt : ¬ t = u := fun q => z (e.trans q)
        by_cases m : t ∈ kvs.map (·.1)
        · exact valN_upd t u c kvs m
        · rw [if_neg zt, Nat.add_zero]
          congr 1
          refine (List.map_congr_left fun q hq => ?_).trans (List.map_id kvs)
          exact if_neg fun w => m (List.mem_map.mpr ⟨q, hq, w⟩)
    · have m : t ∈ kvs.map (·.1) := by
        rcases List.mem_cons.mp h with h | h
        · exact absurd h.symm e
        · exact h
      rw [if_neg e, valN_upd t u c kvs m]
      by_cases z : p.1 = u
      · rw [if_pos z, if_pos z, if_neg fun w => e (z.trans w.symm)]; rfl
      · rw [if_neg z, if_neg z]
theorem valN_add (kvs : Lvl α) (t u : List α) (c : Nat) : valN (addN kvs t c) u = valN kvs u + if t = u then c else 0 := by
  unfold addN
  split
  · rename_i h; exact valN_upd t u c kvs h
  · rename_i h; exact valN_snoc kvs t u c h
theorem keys_upd (t : List α) (c : Nat) (kvs : Lvl α) : (kvs.map fun p => if p.1 = t then (p.1, p.2 + c) else p).map (·.1) = kvs.map (·.1) := by
  rw [List.map_map]
  refine List.map_congr_left fun p _ => ?_
  show (if p.1 = t then (p.1, p.2 + c) else p).1 = p.1
  split <;> rfl
theorem keys_add (kvs : Lvl α) (t : List α) (c : Nat) : (addN kvs t c).map (·.1) = if t ∈ kvs.map (·.1) then kvs.map (·.1) else kvs.map (·.1) ++ [t] := by
  unfold addN
  split
  · exact keys_upd t c kvs
  · rw [List.map_append]; rfl
theorem keys_add_nd {kvs : Lvl α} (t : List α) (c : Nat) (h : (kvs.map (·.1)).Nodup) : ((addN kvs t c).map (·.1)).Nodup := by
  rw [keys_add]
  split
  · exact h
  · rename_i m
    rw [List.nodup_append]
    exact ⟨h, by simp, fun a ha b hb e => by rw [List.mem_singleton.mp hb] at e; exact m (e ▸ ha)⟩
theorem mem_add {kvs : Lvl α} {t u : List α} {c : Nat} : u ∈ (addN kvs t c).map (·.1) ↔ u ∈ kvs.map (·.1) ∨ u = t := by
  rw [keys_add]
  split
  · rename_i m; exact ⟨.inl, fun h => h.elim id fun e => e ▸ m⟩
  · rw [List.mem_append, List.mem_singleton]
/-- the numbers are added up: (where, how many) one by one -/
def addAll (kvs : Lvl α) (l : List (List α × Nat)) : Lvl α := l.foldl (fun a p => addN a p.1 p.2) kvs
theorem addAll_append (kvs : Lvl α) (l m : List (List α × Nat)) : addAll kvs (l ++ m) = addAll (addAll kvs l) m := by unfold addAll; rw [List.foldl_append]
theorem addAll_val (u : List α) : ∀ (l : List (List α × Nat)) (kvs : Lvl α), valN (addAll kvs l) u = valN kvs u + (l.map fun p => if p.1 = u then p.2 else 0).sum
  | [], kvs => rfl
  | p :: l, kvs => by
    show valN (addAll (addN kvs p.1 p.2) l) u = _
    rw [addAll_val u l, valN_add, List.map_cons, List.sum_cons, Nat.add_assoc]
theorem addAll_nd : ∀ (l : List (List α × Nat)) {kvs : Lvl α}, (kvs.map (·.1)).Nodup → ((addAll kvs l).map (·.1)).Nodup
  | [], _, h => h
  | p :: l, kvs, h => addAll_nd l (kvs := addN kvs p.1 p.2) (keys_add_nd _ _ h)
theorem addAll_mem {u : List α} : ∀ (l : List (List α × Nat)) {kvs : Lvl α}, u ∈ (addAll kvs l).map (·.1) ↔ u ∈ kvs.map (·.1) ∨ u ∈ l.map (·.1)
  | [], _ => by simp [addAll]
  | p :: l, kvs => by
    show u ∈ (addAll (addN kvs p.1 p.2) l).map (·.1) ↔ _
    rw [addAll_mem l, mem_add, List.map_cons, List.mem_cons, or_assoc]
/-- kvs counts the list l -/
structure Cnt (kvs : Lvl α) (l : List (List α)) : Prop where
  nd : (kvs.map (·.1)).Nodup
  mem : ∀ t, t ∈ kvs.map (·.1) ↔ t ∈ l
  val : ∀ t, valN kvs t = l.count t
theorem valN_at : ∀ {kvs : Lvl α}, (kvs.map (·.1)).Nodup → ∀ p ∈ kvs, valN kvs p.1 = p.2
  | q :: kvs, n, p, h => by
    rw [List.map_cons, List.nodup_cons] at n
    rw [valN_cons]
    rcases List.mem_cons.mp h with rfl | h
    · rw [if_pos rfl]
    · rw [if_neg fun e => n.1 (by rw [e]; exact List.mem_map.mpr ⟨p, h, rfl⟩)]
      exact valN_at n.2 p h
/-- a sum over a list is a sum over its different members, so many times each -/
theorem sum_by (f : List α → Nat) : ∀ (l : List (List α)) (ks : List (List α)), ks.Nodup → (∀ t ∈ l, t ∈ ks) → (l.map f).sum = (ks.map fun t => l.count t * f t).sum
  | [], ks, _, _ => by
    have : ks.map (fun t => ([] : List (List α)).count t * f t) = ks.map fun _ => 0 := List.map_congr_left fun t _ => by simp
    rw [this]
    clear this
    induction ks with
    | nil => rfl
    | cons k ks ih => rw [List.map_cons, List.sum_cons, ← ih (by rename_i h _; exact (List.nodup_cons.mp h).2) (by intro t ht; cases ht)]; rfl
  | x :: l, ks, n, h => by
    have ih := sum_by f l ks n fun t ht => h t (List.mem_cons_of_mem _ ht)
    rw [List.map_cons, List.sum_cons, ih]
    have hx := h x List.mem_cons_self
    clear ih h
    have e : ks.map (fun t => (x :: l).count t * f t) = ks.map fun t => l.count t * f t + (if x = t then f t else 0) := List.map_congr_left fun t _ => by
      rw [List.count_cons]
      by_cases q : x = t
      · subst q; rw [if_pos (beq_self_eq_true x), if_pos rfl, Nat.add_mul, Nat.one_mul]
      · rw [if_neg q, if_neg (by rw [beq_eq_false_iff_ne.mpr q]; exact Bool.false_ne_true)]; rfl
    rw [e]
    have s1 : ∀ ks : List (List α), (ks.map fun t => l.count t * f t + (if x = t then f t else 0)).sum = (ks.map fun t => l.count t * f t).sum + (ks.map fun t => if x = t then f t else 0).sum := by
      intro ks
      induction ks with
      | nil => rfl
      | cons k ks ih => simp only [List.map_cons, List.sum_cons, ih]; omega
    rw [s1]
    have s2 : ∀ ks : List (List α), ks.Nodup → (x ∈ ks → (ks.map fun t => if x = t then f t else 0).sum = f x) ∧ (x ∉ ks → (ks.map fun t => if x = t then f t else 0).sum = 0) := by
      intro ks
      induction ks with
      | nil => intro _; exact ⟨(fun z => by cases z), fun _ => rfl⟩
      | cons k ks ih =>
        intro n
        obtain ⟨n1, n2⟩ := List.nodup_cons.mp n
        obtain ⟨i1, i2⟩ := ih n2
        rw [List.map_cons, List.sum_cons]
        by_cases q : x = k
        · subst q
          rw [if_pos rfl, i2 n1]
          exact ⟨fun _ => rfl, fun z => absurd List.mem_cons_self z⟩
        · rw [if_neg q, Nat.zero_add]
          exact ⟨fun z => i1 ((List.mem_cons.mp z).resolve_left q), fun z => i2 fun w => z (List.mem_cons_of_mem _ w)⟩
    rw [(s2 ks n).1 hx, Nat.add_comm]
theorem sum_mul (n : Nat) : ∀ l : List Nat, (l.map fun x => n * x).sum = n * l.sum
  | [] => rfl
  | x :: l => by rw [List.map_cons, List.sum_cons, List.sum_cons, sum_mul n l, Nat.mul_add]
theorem count_ind (u : List α) : ∀ l : List (List α), l.count u = (l.map fun t => if t = u then 1 else 0).sum
  | [] => rfl
  | x :: l => by
    rw [List.count_cons, List.map_cons, List.sum_cons, count_ind u l, Nat.add_comm]
    by_cases e : x = u
    · subst e; rw [if_pos (beq_self_eq_true x), if_pos rfl]
    · rw [if_neg e, if_neg (by rw [beq_eq_false_iff_ne.mpr e]; exact Bool.false_ne_true)]
theorem count_flat (u : List α) (g : List α → List (List α)) : ∀ l : List (List α), (l.flatMap g).count u = (l.map fun t => (g t).count u).sum
  | [] => rfl
  | x :: l => by rw [List.flatMap_cons, List.count_append, count_flat u g l, List.map_cons, List.sum_cons]
/-- one step further: every entry sends its number along every command -/
def sendL (cmds : List (Kd × α)) (kvs : Lvl α) : List (List α × Nat) := kvs.flatMap fun p => cmds.map fun c => (mv p.1 c.1 c.2, p.2)
theorem sum_flat (f : List α × Nat → Nat) (g : List α × Nat → List (List α × Nat)) : ∀ l : List (List α × Nat), ((l.flatMap g).map f).sum = (l.map fun p => ((g p).map f).sum).sum
  | [] => rfl
  | x :: l => by rw [List.flatMap_cons, List.map_append, List.sum_append, sum_flat f g l, List.map_cons, List.sum_cons]
theorem Cnt.step {cmds : List (Kd × α)} {kvs : Lvl α} {l : List (List α)} (h : Cnt kvs l) : Cnt (addAll [] (sendL cmds kvs)) (l.flatMap fun u => cmds.map fun c => mv u c.1 c.2) := by
  refine ⟨addAll_nd _ List.nodup_nil, fun t => ?_, fun t => ?_⟩
  · rw [addAll_mem]
    unfold sendL
    constructor
    · rintro (z | z)
      · cases z
      · obtain ⟨q, hq, rfl⟩ := List.mem_map.mp z
        obtain ⟨p, hp, hq⟩ := List.mem_flatMap.mp hq
        obtain ⟨c, hc, rfl⟩ := List.mem_map.mp hq
        exact List.mem_flatMap.mpr ⟨p.1, (h.mem _).mp (List.mem_map.mpr ⟨p, hp, rfl⟩), List.mem_map.mpr ⟨c, hc, rfl⟩⟩
    · intro z
      obtain ⟨u, hu, z⟩ := List.mem_flatMap.mp z
      obtain ⟨c, hc, rfl⟩ := List.mem_map.mp z
      obtain ⟨p, hp, rfl⟩ := List.mem_map.mp ((h.mem _).mpr hu)
      exact .inr (List.mem_map.mpr ⟨_, List.mem_flatMap.mpr ⟨p, hp, List.mem_map.mpr ⟨c, hc, rfl⟩⟩, rfl⟩)
  · rw [addAll_val, show valN ([] : Lvl α) t = 0 from rfl, Nat.zero_add]
    unfold sendL
    rw [sum_flat, count_flat, sum_by (fun u => (cmds.map fun c => mv u c.1 c.2).count t) l (kvs.map (·.1)) h.nd fun t ht => (h.mem t).mpr ht, List.map_map]
    congr 1
    refine List.map_congr_left fun p hp => ?_
    show (((cmds.map fun c => (mv p.1 c.1 c.2, p.2)).map fun q => if q.1 = t then q.2 else 0)).sum = l.count p.1 * ((cmds.map fun c => mv p.1 c.1 c.2).count t)
    rw [← h.val p.1, valN_at h.nd p hp, count_ind, ← sum_mul, List.map_map, List.map_map, List.map_map]
    congr 1
    refine List.map_congr_left fun c _ => ?_
    show (if mv p.1 c.1 c.2 = t then p.2 else 0) = p.2 * (if mv p.1 c.1 c.2 = t then 1 else 0)
    split <;> simp
end
end LM
/-! The search that counts. -/
namespace LM
open DL (pos1 pos1_lt pos1_get pos1_first)
section
variable {α : Type} [DecidableEq α]
abbrev Fnd (α : Type) := List (List α × Nat × Nat)
def sentL (cmds : List (Kd × α)) (fk : List (List α)) (ways : Lvl α) : Lvl α := addAll [] ((sendL cmds ways).filter fun p => !decide (p.1 ∈ fk))
def cntL (cmds : List (Kd × α)) : Nat → Fnd α → Lvl α → Nat → Fnd α
  | 0, fd, _, _ => fd
  | f + 1, fd, ways, c => if ways = [] then fd else cntL cmds f (fd ++ (sentL cmds (fd.map (·.1)) ways).map fun p => (p.1, c + 1, p.2)) (sentL cmds (fd.map (·.1)) ways) (c + 1)
theorem Cnt.filt {kvs : Lvl α} {l : List (List α)} {L : List (List α × Nat)} (h : Cnt (addAll [] L) l) (q : List α → Bool) : Cnt (addAll [] (L.filter fun p => q p.1)) (l.filter q) := by
  refine ⟨addAll_nd _ List.nodup_nil, fun t => ?_, fun t => ?_⟩
  · have m := h.mem t
    rw [addAll_mem] at m ⊢
    rw [List.mem_filter, ← m]
    constructor
    · rintro (z | z)
      · cases z
      · obtain ⟨p, hp, rfl⟩ := List.mem_map.mp z
        obtain ⟨h1, h2⟩ := List.mem_filter.mp hp
        exact ⟨.inr (List.mem_map.mpr ⟨p, h1, rfl⟩), h2⟩
    · rintro ⟨z | z, hq⟩
      · cases z
      · obtain ⟨p, hp, rfl⟩ := List.mem_map.mp z
        exact .inr (List.mem_map.mpr ⟨p, List.mem_filter.mpr ⟨hp, hq⟩, rfl⟩)
  · have v := h.val t
    rw [addAll_val, show valN ([] : Lvl α) t = 0 from rfl, Nat.zero_add] at v ⊢
    have e : ∀ L : List (List α × Nat), ((L.filter fun p => q p.1).map fun p => if p.1 = t then p.2 else 0).sum = if q t = true then (L.map fun p => if p.1 = t then p.2 else 0).sum else 0 := by
      intro L
      induction L with
      | nil => split <;> rfl
      | cons p L ih =>
        rw [List.filter_cons, List.map_cons, List.sum_cons]
        by_cases e : p.1 = t
        · subst e
          cases hq : q p.1 with
          | true => rw [hq] at ih; rw [if_pos rfl, List.map_cons, List.sum_cons, ih, if_pos rfl]; rfl
          | false => rw [hq] at ih; rw [if_neg Bool.false_ne_true, ih]; rfl
        · rw [if_neg e, Nat.zero_add, ← ih]
          split
          · rw [List.map_cons, List.sum_cons, if_neg e, Nat.zero_add]
          · rfl
    rw [e, v]
    cases hq : q t with
    | true => rw [if_pos rfl, List.count_filter hq]
    | false =>
      rw [if_neg Bool.false_ne_true, List.count_eq_zero.mpr fun z => ?_]
      have := (List.mem_filter.mp z).2
      rw [hq] at this; cases this
/-- scripts of length n that end in t -/
def waysTo (cmds : List (Kd × α)) (o t : List α) (n : Nat) : Nat := (walks cmds o n).count t
structure AtC (cmds : List (Kd × α)) (o : List α) (c : Nat) (fd : Fnd α) (ways : Lvl α) : Prop where
  lv : AtL o c (fd.map fun p => (p.1, p.2.1)) (ways.map (·.1))
  cn : Cnt ways ((walks cmds o c).filter fun t => decide (dist o t = c))
  va : ∀ p ∈ fd, p.2.2 = waysTo cmds o p.1 p.2.1
theorem walks_ok {o : List α} {cmds : List (Kd × α)} (hc : ∀ c, c ∈ cmds ↔ c.2 ∈ o) (no : o.Nodup) (h : o ≠ []) : ∀ n, ∀ t ∈ walks cmds o n, t.Perm o ∧ dist o t ≤ n
  | 0, t, ht => by
    rw [show t = o from List.mem_singleton.mp ht]
    exact ⟨List.Perm.refl _, by rw [dist_self no h]; exact Nat.le_refl _⟩
  | n + 1, t, ht => by
    obtain ⟨u, hu, ht⟩ := List.mem_flatMap.mp ht
    obtain ⟨z, hz, rfl⟩ := List.mem_map.mp ht
    obtain ⟨p1, d1⟩ := walks_ok hc no h n u hu
    have hx := (hc z).mp hz
    have := dist_mv1 p1 no h z.1 hx
    exact ⟨(mv_perm u z.1 (p1.mem_iff.mpr hx)).trans p1, by omega⟩
theorem filt_congr {β : Type} {l : List β} {p q : β → Bool} (h : ∀ x ∈ l, p x = q x) : l.filter p = l.filter q := by
  induction l with
  | nil => rfl
  | cons a l ih =>
    rw [List.filter_cons, List.filter_cons, h a List.mem_cons_self, ih fun x hx => h x (List.mem_cons_of_mem _ hx)]
theorem walks_snd {o : List α} {cmds : List (Kd × α)} : ∀ n, ∀ t ∈ walks cmds o n, ∀ c ∈ cmds, mv t c.1 c.2 ∈ walks cmds o (n + 1) := fun n t ht c hc =>
  List.mem_flatMap.mpr ⟨t, ht, List.mem_map.mpr ⟨c, hc, rfl⟩⟩
theorem walks_run {o : List α} {cmds : List (Kd × α)} : ∀ (s : List (Kd × α)), (∀ c ∈ s, c ∈ cmds) → runS o s ∈ walks cmds o s.length := by
  intro s
  refine snoc_ind (P := fun s => (∀ c ∈ s, c ∈ cmds) → runS o s ∈ walks cmds o s.length) (fun _ => List.mem_singleton.mpr rfl) (fun l x ih h => ?_) s
  have h1 := ih fun c hc => h c (List.mem_append_left _ hc)
  rw [runS_append, List.length_append]
  exact walks_snd _ _ h1 x (h x (List.mem_append_right _ List.mem_cons_self))
/-- the walks that end at distance c + 1 come from those at distance c -/
theorem walks_filter {o : List α} {cmds : List (Kd × α)} (hc : ∀ c, c ∈ cmds ↔ c.2 ∈ o) (no : o.Nodup) (h : o ≠ []) (c : Nat) :
    (walks cmds o (c + 1)).filter (fun t => decide (dist o t = c + 1)) = (((walks cmds o c).filter fun t => decide (dist o t = c)).flatMap fun u => cmds.map fun z => mv u z.1 z.2).filter fun t => decide (dist o t = c + 1) := by
  have ok := walks_ok hc no h c
  show ((walks cmds o c).flatMap fun u => cmds.map fun z => mv u z.1 z.2).filter _ = _
  generalize walks cmds o c = W at ok
  induction W with
  | nil => rfl
  | cons u W ih =>
    have ih := ih fun t ht => ok t (List.mem_cons_of_mem _ ht)
    obtain ⟨p1, d1⟩ := ok u List.mem_cons_self
    rw [List.flatMap_cons, List.filter_append, ih, List.filter_cons]
    by_cases e : dist o u = c
    · rw [if_pos (decide_eq_true e), List.flatMap_cons, List.filter_append]
    · rw [if_neg (by rw [decide_eq_false e]; exact Bool.false_ne_true)]
      have : (cmds.map fun z => mv u z.1 z.2).filter (fun t => decide (dist o t = c + 1)) = [] := by
        rw [List.filter_eq_nil_iff]
        intro t ht
        obtain ⟨z, hz, rfl⟩ := List.mem_map.mp ht
        have := dist_mv1 p1 no h z.1 ((hc z).mp hz)
        simp only [decide_eq_true_eq]
        omega
      rw [this, List.nil_append]
theorem AtC.start {o : List α} {cmds : List (Kd × α)} (no : o.Nodup) (h : o ≠ []) : AtC cmds o 0 [(o, 0, 1)] [(o, 1)] := by
  refine ⟨AtL.start no h, ⟨by simp, fun t => ?_, fun t => ?_⟩, fun p hp => ?_⟩
  · show t ∈ [o] ↔ t ∈ [o].filter _
    rw [List.filter_cons, if_pos (decide_eq_true (dist_self no h))]; rfl
  · show _ = List.count t ([o].filter _)
    rw [List.filter_cons, if_pos (decide_eq_true (dist_self no h)), valN_cons]
    by_cases e : o = t
    · subst e; simp
    · simp [e, valN]
  · rw [List.mem_singleton.mp hp]
    show 1 = List.count o [o]
    simp
theorem AtC.next {o : List α} {cmds : List (Kd × α)} (hc : ∀ c, c ∈ cmds ↔ c.2 ∈ o) (no : o.Nodup) (h : o ≠ []) {c : Nat} {fd : Fnd α} {ways : Lvl α} (A : AtC cmds o c fd ways) :
    AtC cmds o (c + 1) (fd ++ (sentL cmds (fd.map (·.1)) ways).map fun p => (p.1, c + 1, p.2)) (sentL cmds (fd.map (·.1)) ways) := by
  have fk : (fd.map fun p => (p.1, p.2.1)).map (·.1) = fd.map (·.1) := by rw [List.map_map]; rfl
  have hk : ∀ t, t ∈ fd.map (·.1) → t.Perm o ∧ dist o t ≤ c := fun t ht => by
    rw [← fk] at ht
    obtain ⟨p, hp, rfl⟩ := List.mem_map.mp ht
    obtain ⟨v1, v2, v3⟩ := A.lv.val p hp
    exact ⟨v1, by omega⟩
  have hstep := Cnt.filt (kvs := ways) (Cnt.step (cmds := cmds) A.cn) fun t => !decide (t ∈ fd.map (·.1))
  have hcong : ((((walks cmds o c).filter fun t => decide (dist o t = c)).flatMap fun u => cmds.map fun z => mv u z.1 z.2).filter fun t => !decide (t ∈ fd.map (·.1))) = (walks cmds o (c + 1)).filter fun t => decide (dist o t = c + 1) := by
    rw [walks_filter hc no h c]
    refine filt_congr fun t ht => ?_
    obtain ⟨u, hu, ht⟩ := List.mem_flatMap.mp ht
    obtain ⟨z, hz, rfl⟩ := List.mem_map.mp ht
    obtain ⟨hu, du⟩ := List.mem_filter.mp hu
    have du := of_decide_eq_true du
    obtain ⟨p1, _⟩ := walks_ok hc no h c u hu
    have hx := (hc z).mp hz
    have dm := dist_mv1 p1 no h z.1 hx
    have pm := (mv_perm u z.1 (p1.mem_iff.mpr hx)).trans p1
    by_cases e : mv u z.1 z.2 ∈ fd.map (·.1)
    · have := (hk _ e).2
      rw [decide_eq_true e, decide_eq_false (show ¬ dist o (mv u z.1 z.2) = c + 1 by omega)]; rfl
    · rw [decide_eq_false e]
      have : ¬ dist o (mv u z.1 z.2) ≤ c := fun q => e (fk ▸ A.lv.all _ pm q)
      rw [decide_eq_true (show dist o (mv u z.1 z.2) = c + 1 by omega)]; rfl
  rw [hcong] at hstep
  have cn : Cnt (sentL cmds (fd.map (·.1)) ways) ((walks cmds o (c + 1)).filter fun t => decide (dist o t = c + 1)) := hstep
  have hm : ∀ t, t ∈ (sentL cmds (fd.map (·.1)) ways).map (·.1) ↔ t.Perm o ∧ dist o t = c + 1 := fun t => by
    rw [cn.mem, List.mem_filter]
    constructor
    · rintro ⟨h1, h2⟩
      exact ⟨(walks_ok hc no h _ t h1).1, of_decide_eq_true h2⟩
    · rintro ⟨h1, h2⟩
      refine ⟨?_, decide_eq_true h2⟩
      obtain ⟨u, k, x, pu, du, hx, rfl⟩ := dist_pred h1 no h h2
      have hu : u ∈ ways.map (·.1) := (A.lv.fr u).mpr ⟨pu, du⟩
      rw [A.cn.mem, List.mem_filter] at hu
      exact walks_snd c u hu.1 (k, x) ((hc _).mpr hx)
  have km : (((sentL cmds (fd.map (·.1)) ways).map fun p => ((p.1, c + 1, p.2) : List α × Nat × Nat)).map fun p => (p.1, p.2.1)).map (·.1) = (sentL cmds (fd.map (·.1)) ways).map (·.1) := by rw [List.map_map, List.map_map]; rfl
  generalize sentL cmds (fd.map (·.1)) ways = L at cn hm km
  refine ⟨⟨?_, ?_, ?_, hm⟩, cn, ?_⟩
  · rw [List.map_append, List.map_append, km]
    rw [List.nodup_append]
    refine ⟨A.lv.nd, cn.nd, fun a ha b hb e => ?_⟩
    subst e
    have h1 := (hk a (fk ▸ ha)).2
    have h2 := ((hm a).mp hb).2
    omega
  · intro p hp
    rw [List.map_append] at hp
    rcases List.mem_append.mp hp with hp | hp
    · obtain ⟨v1, v2, v3⟩ := A.lv.val p hp
      exact ⟨v1, v2, by omega⟩
    · rw [List.map_map] at hp
      obtain ⟨q, hq, rfl⟩ := List.mem_map.mp hp
      obtain ⟨v1, v2⟩ := (hm q.1).mp (List.mem_map.mpr ⟨q, hq, rfl⟩)
      exact ⟨v1, v2.symm, Nat.le_refl _⟩
  · intro t pt ht
    rw [List.map_append, List.map_append, km, List.mem_append]
    by_cases e : dist o t ≤ c
    · exact .inl (A.lv.all t pt e)
    · exact .inr ((hm t).mpr ⟨pt, by omega⟩)
  · intro p hp
    rcases List.mem_append.mp hp with hp | hp
    · exact A.va p hp
    · obtain ⟨q, hq, rfl⟩ := List.mem_map.mp hp
      show q.2 = (walks cmds o (c + 1)).count q.1
      have d := ((hm q.1).mp (List.mem_map.mpr ⟨q, hq, rfl⟩)).2
      have hd : (fun t => decide (dist o t = c + 1)) q.1 = true := decide_eq_true d
      rw [← valN_at cn.nd q hq, cn.val]
      exact List.count_filter (p := fun t => decide (dist o t = c + 1)) (a := q.1) hd
/-- the search's end: the distance and the number of shortest scripts -/
structure Cv (cmds : List (Kd × α)) (o : List α) (fd : Fnd α) : Prop where
  nd : (fd.map (·.1)).Nodup
  val : ∀ p ∈ fd, p.2 = (dist o p.1, waysTo cmds o p.1 (dist o p.1))
  keys : ∀ t : List α, t ∈ fd.map (·.1) ↔ t.Perm o
theorem AtC.done {o : List α} {cmds : List (Kd × α)} (no : o.Nodup) (h : o ≠ []) {c : Nat} {fd : Fnd α} (A : AtC cmds o c fd []) : Cv cmds o fd := by
  have L := AtL.done no h A.lv
  have fk : (fd.map fun p => (p.1, p.2.1)).map (·.1) = fd.map (·.1) := by rw [List.map_map]; rfl
  refine ⟨fk ▸ L.nd, fun p hp => ?_, fun t => fk ▸ L.keys t⟩
  have e := L.val (p.1, p.2.1) (List.mem_map.mpr ⟨p, hp, rfl⟩)
  have e : p.2.1 = dist o p.1 := e
  have v := A.va p hp
  rw [e] at v
  exact Prod.ext e v
/-- one step of the counting of all scripts -/
def allStep (cmds : List (Kd × α)) (kvs : Lvl α) : Lvl α := addAll [] (sendL cmds kvs)
def allN (cmds : List (Kd × α)) (o : List α) : Nat → Lvl α
  | 0 => [(o, 1)]
  | n + 1 => allStep cmds (allN cmds o n)
theorem allN_ok (cmds : List (Kd × α)) (o : List α) : ∀ n, Cnt (allN cmds o n) (walks cmds o n)
  | 0 => ⟨by simp [allN], fun t => Iff.rfl, fun t => by
      show valN [(o, 1)] t = List.count t [o]
      rw [valN_cons]
      by_cases e : o = t
      · subst e; simp
      · simp [e, valN]⟩
  | n + 1 => Cnt.step (allN_ok cmds o n)
theorem plans_in {o t : List α} {cmds : List (Kd × α)} (hc : ∀ c, c ∈ cmds ↔ c.2 ∈ o) (hp : t.Perm o) (no : o.Nodup) (h : o ≠ []) : t ∈ walks cmds o (dist o t) := by
  obtain ⟨h1, h2, h3⟩ := plan_run hp no h
  have := walks_run (cmds := cmds) (o := o) (plan o t) fun c hcc => (hc c).mpr (h3 c hcc)
  rw [h1, h2] at this
  exact this
end
end LM
/-! The search that counts, whole; six layers. -/
namespace LM
open DL (pos1 pos1_lt pos1_get pos1_first)
section
variable {α : Type} [DecidableEq α]
theorem cntL_ok {o : List α} {cmds : List (Kd × α)} (hc : ∀ c, c ∈ cmds ↔ c.2 ∈ o) (no : o.Nodup) (h : o ≠ []) : ∀ (f c : Nat) (fd : Fnd α) (ways : Lvl α), AtC cmds o c fd ways → c + f = o.length → Cv cmds o (cntL cmds f fd ways c)
  | 0, c, fd, ways, A, e => by
    have : ways = [] := by
      cases ways with
      | nil => rfl
      | cons p r => have := AtL.lt h A.lv (by simp); omega
    subst this
    exact A.done no h
  | f + 1, c, fd, ways, A, e => by
    show Cv cmds o (if ways = [] then fd else _)
    split
    · rename_i z; subst z; exact A.done no h
    · exact cntL_ok hc no h f (c + 1) _ _ (A.next hc no h) (by omega)
def countsOf (cmds : List (Kd × α)) (o : List α) : Fnd α := cntL cmds o.length [(o, 0, 1)] [(o, 1)] 0
theorem counts_ok {o : List α} {cmds : List (Kd × α)} (hc : ∀ c, c ∈ cmds ↔ c.2 ∈ o) (no : o.Nodup) (h : o ≠ []) : Cv cmds o (countsOf cmds o) := cntL_ok hc no h o.length 0 _ _ (AtC.start no h) (Nat.zero_add _)
/-! ### one command -/
theorem perm_flat {β γ : Type} {f g : β → List γ} : ∀ (l : List β), (∀ x, (f x).Perm (g x)) → (l.flatMap f).Perm (l.flatMap g)
  | [], _ => List.Perm.refl _
  | x :: l, h => by rw [List.flatMap_cons, List.flatMap_cons]; exact (h x).append (perm_flat l h)
def kinds4 : List Kd := [.back, .down, .front, .up]
/-- the number of single commands, told of the places -/
theorem ways1_places {o ls : List α} (hl : ls.Perm o) (no : o.Nodup) (d : α) {t : List Nat} (ht : ∀ i ∈ t, i < o.length) :
    waysTo (kinds4.flatMap fun k => ls.map fun x => (k, x)) o (t.map fun i => o.getD i d) 1 = ((kinds4.flatMap fun k => (List.range o.length).map fun i => mv (List.range o.length) k i).count t) := by
  have inj := injOn_getD no d (o := List.range o.length) fun i hi => List.mem_range.mp hi
  have p1 : ((kinds4.flatMap fun k => ls.map fun x => (k, x)).map fun c => mv o c.1 c.2).Perm ((kinds4.flatMap fun k => (List.range o.length).map fun i => mv (List.range o.length) k i).map (List.map fun i => o.getD i d)) := by
    rw [List.map_flatMap, List.map_flatMap]
    refine perm_flat _ fun k => ?_
    rw [List.map_map, List.map_map]
    refine (hl.map _).trans ?_
    have e : o.map ((fun c : Kd × α => mv o c.1 c.2) ∘ fun x => (k, x)) = (List.range o.length).map ((List.map fun i => o.getD i d) ∘ fun i => mv (List.range o.length) k i) := by
      have e0 := range_getD o d
      have e1 : o.map ((fun c : Kd × α => mv o c.1 c.2) ∘ fun x => (k, x)) = ((List.range o.length).map fun i => o.getD i d).map ((fun c : Kd × α => mv o c.1 c.2) ∘ fun x => (k, x)) := by rw [e0]
      rw [e1, List.map_map]
      refine List.map_congr_left fun i hi => ?_
      show mv o k (o.getD i d) = (mv (List.range o.length) k i).map fun i => o.getD i d
      have m := mv_map (f := fun i => o.getD i d) k inj hi
      rw [e0] at m
      exact m
    rw [e]
  unfold waysTo
  have w1 : walks (kinds4.flatMap fun k => ls.map fun x => (k, x)) o 1 = (kinds4.flatMap fun k => ls.map fun x => (k, x)).map fun c => mv o c.1 c.2 := by
    show [o].flatMap _ = _
    rw [List.flatMap_cons, List.flatMap_nil, List.append_nil]
  rw [w1, p1.count_eq]
  have hmem : ∀ u ∈ (kinds4.flatMap fun k => (List.range o.length).map fun i => mv (List.range o.length) k i), ∀ i ∈ u, i < o.length := by
    intro u hu i hi
    obtain ⟨k, _, hu⟩ := List.mem_flatMap.mp hu
    obtain ⟨j, hj, rfl⟩ := List.mem_map.mp hu
    exact List.mem_range.mp ((mv_mem k hj).mp hi)
  generalize (kinds4.flatMap fun k => (List.range o.length).map fun i => mv (List.range o.length) k i) = L at hmem
  induction L with
  | nil => rfl
  | cons u L ih =>
    rw [List.map_cons, List.count_cons, List.count_cons, ih fun v hv => hmem v (List.mem_cons_of_mem _ hv)]
    congr 1
    have hu := hmem u List.mem_cons_self
    by_cases e : u = t
    · subst e; simp
    · have : ¬ (u.map fun i => o.getD i d) = t.map fun i => o.getD i d := fun z => e (map_inj inj (fun x hx => List.mem_range.mpr (hu x hx)) (fun x hx => List.mem_range.mpr (ht x hx)) z)
      rw [if_neg (by rw [beq_eq_false_iff_ne.mpr this]; exact Bool.false_ne_true), if_neg (by rw [beq_eq_false_iff_ne.mpr e]; exact Bool.false_ne_true)]
theorem dist_places {o : List α} (no : o.Nodup) (d : α) {t : List Nat} (ht : ∀ i ∈ t, i < o.length) : dist o (t.map fun i => o.getD i d) = dist (List.range o.length) t := by
  have inj := injOn_getD no d (o := List.range o.length) fun i hi => List.mem_range.mp hi
  have e := dist_map (f := fun i => o.getD i d) (o := List.range o.length) (t := t) inj fun x hx => List.mem_range.mpr (ht x hx)
  rw [range_getD] at e
  exact e
theorem six_rot : dist (List.range 6) [1, 2, 3, 4, 5, 0] = 1 ∧ ((kinds4.flatMap fun k => (List.range 6).map fun i => mv (List.range 6) k i).count [1, 2, 3, 4, 5, 0]) = 1 := by decide +kernel
theorem six_swp : dist (List.range 6) [1, 0, 2, 3, 4, 5] = 1 ∧ ((kinds4.flatMap fun k => (List.range 6).map fun i => mv (List.range 6) k i).count [1, 0, 2, 3, 4, 5]) = 3 := by decide +kernel
theorem six_of {o : List α} (h : o.length = 6) (d : α) : (o.drop 1 ++ o.take 1 = [1, 2, 3, 4, 5, 0].map fun i => o.getD i d) ∧ [o.getD 1 d, o.getD 0 d] ++ o.drop 2 = [1, 0, 2, 3, 4, 5].map fun i => o.getD i d := by
  match o, h with
  | [a, b, c, e, f, g], _ => exact ⟨rfl, rfl⟩
theorem six_ok {o ls : List α} (h : o.length = 6) (hl : ls.Perm o) (no : o.Nodup) (d : α) :
    (dist o (o.drop 1 ++ o.take 1) = 1 ∧ waysTo (kinds4.flatMap fun k => ls.map fun x => (k, x)) o (o.drop 1 ++ o.take 1) 1 = 1) ∧
    dist o ([o.getD 1 d, o.getD 0 d] ++ o.drop 2) = 1 ∧ waysTo (kinds4.flatMap fun k => ls.map fun x => (k, x)) o ([o.getD 1 d, o.getD 0 d] ++ o.drop 2) 1 = 3 := by
  obtain ⟨e1, e2⟩ := six_of h d
  have b1 : ∀ i ∈ [1, 2, 3, 4, 5, 0], i < o.length := by rw [h]; decide
  have b2 : ∀ i ∈ [1, 0, 2, 3, 4, 5], i < o.length := by rw [h]; decide
  rw [e1, e2, dist_places no d b1, dist_places no d b2, ways1_places hl no d b1, ways1_places hl no d b2, h]
  exact ⟨six_rot, six_swp⟩
theorem six_perm {o : List α} (h : o.length = 6) (d : α) : (o.drop 1 ++ o.take 1).Perm o ∧ ([o.getD 1 d, o.getD 0 d] ++ o.drop 2).Perm o := by
  match o, h with
  | [a, b, c, e, f, g], _ => exact ⟨(List.perm_append_comm (l₁ := [b, c, e, f, g]) (l₂ := [a])), List.Perm.swap a b _⟩
end
end LM
namespace LS
open PySem L2 DL LM
def topS (i : Nat) : Stmt := PySem.Challenge.pw_layersteps_k01_order_and_script_values.main.body.getD i (.Pass ⟨0, 0, 0, 0⟩)
abbrev s_is_layer : Stmt := topS 2
abbrev s_is_order : Stmt := topS 3
abbrev s_is_command : Stmt := topS 4
abbrev s_is_script : Stmt := topS 5
abbrev s__law_cell : Stmt := topS 7
abbrev s__law_digits : Stmt := topS 8
abbrev s__law_same_bool : Stmt := topS 9
abbrev s__law_paths : Stmt := topS 10
abbrev s__law_other_value : Stmt := topS 11
abbrev s__law_moved_item : Stmt := topS 12
abbrev s__law_change_at : Stmt := topS 13
abbrev s__law_mutated : Stmt := topS 14
abbrev s__law_any_value : Stmt := topS 15
abbrev s__law_names : Stmt := topS 16
abbrev s__law_mixed : Stmt := topS 17
abbrev s__law_command : Stmt := topS 18
abbrev s__law_script : Stmt := topS 19
abbrev s__law_is_layer : Stmt := topS 20
abbrev s__law_is_order : Stmt := topS 21
abbrev s__law_is_script : Stmt := topS 22
abbrev s_law : Stmt := topS 23
/-! ### the data -/
def ks : Kd → Str
  | .front => "front"
  | .back => "back"
  | .up => "up"
  | .down => "down"
abbrev pO (o : List Str) : D := .tuple (o.map .str)
abbrev pC (c : Kd × Str) : D := .tuple [.str (ks c.1), .str c.2]
abbrev pS (s : List (Kd × Str)) : D := .tuple (s.map pC)
theorem ks_front {k : Kd} {b : Bool} (h : decide (ks k = "front") = b) : decide (k = .front) = b := by rw [← h]; cases k <;> decide +kernel
theorem ks_back {k : Kd} {b : Bool} (h : decide (ks k = "back") = b) : decide (k = .back) = b := by rw [← h]; cases k <;> decide +kernel
theorem ks_up {k : Kd} {b : Bool} (h : decide (ks k = "up") = b) : decide (k = .up) = b := by rw [← h]; cases k <;> decide +kernel
theorem emb_pC : Emb pC := fun x y => by
  obtain ⟨k, a⟩ := x
  obtain ⟨l, b⟩ := y
  show ((ks k == ks l) && ((a == b) && true)) = _
  by_cases e : a = b
  · subst e
    cases k <;> cases l <;> simp <;> decide +kernel
  · simp [e]
/-- an order's layers: few, and texts -/
structure Od (o : List Str) : Prop where
  len : o.length ≤ 1000
  str : ∀ x ∈ o, PyData.strOk x = true
theorem Od.perm {o p : List Str} (h : Od o) (e : p.Perm o) : Od p := ⟨by rw [e.length_eq]; exact h.len, fun x hx => h.str x (e.mem_iff.mp hx)⟩
theorem Od.mv {o : List Str} (h : Od o) (k : Kd) {x : Str} (hx : x ∈ o) : Od (mv o k x) := h.perm (mv_perm o k hx)
theorem Od.sh {o : List Str} (h : Od o) : Sh 64 (pO o) := (sh_tup (n := 0) (sh_map fun x hx => sh_str (h.str x hx))).up
theorem runS_take {o : List Str} {s : List (Kd × Str)} {k : Nat} (h : k < s.length) : runS o (s.take (k + 1)) = mv (runS o (s.take k)) s[k].1 s[k].2 := by
  unfold runS
  rw [List.take_add_one, List.getElem?_eq_getElem h, List.foldl_append]; rfl
theorem runS_len {o : List Str} {s : List (Kd × Str)} (h : ∀ c ∈ s, c.2 ∈ o) : (runS o s).length = o.length := (runS_perm s o h).length_eq
theorem runS_mem {o : List Str} {s : List (Kd × Str)} (h : ∀ c ∈ s, c.2 ∈ o) {x : Str} : x ∈ runS o s ↔ x ∈ o := (runS_perm s o h).mem_iff
abbrev pN (ns : List Nat) : List D := ns.map fun (n : Nat) => PyData.int (n : Int)
theorem idles_take : ∀ {s : List (Kd × Str)} {o : List Str} {i k : Nat} (h : k < s.length), idles i o (s.take (k + 1)) = idles i o (s.take k) ++ (if mv (runS o (s.take k)) s[k].1 s[k].2 = runS o (s.take k) then [i + k] else [])
  | c :: s, o, i, 0, h => by
    show (if mv o c.1 c.2 = o then [i] else []) ++ idles (i + 1) _ (s.take 0) = [] ++ (if mv o c.1 c.2 = o then [i + 0] else [])
    rw [List.take_zero]; simp [idles]
  | c :: s, o, i, k + 1, h => by
    have hk : k < s.length := by simpa using h
    have ih := idles_take (s := s) (o := mv o c.1 c.2) (i := i + 1) (k := k) hk
    show _ ++ idles (i + 1) (mv o c.1 c.2) (s.take (k + 1)) = (_ ++ idles (i + 1) (mv o c.1 c.2) (s.take k)) ++ _
    rw [ih, List.append_assoc]
    have e : i + 1 + k = i + (k + 1) := by omega
    rw [e]; rfl
theorem idles_len : ∀ {s : List (Kd × Str)} {o : List Str} {i : Nat}, (idles i o s).length ≤ s.length
  | [], _, _ => Nat.le_refl _
  | c :: s, o, i => by
    have ih := idles_len (s := s) (o := mv o c.1 c.2) (i := i + 1)
    show ((if mv o c.1 c.2 = o then [i] else []) ++ idles (i + 1) (mv o c.1 c.2) s).length ≤ s.length + 1
    rw [List.length_append]
    split <;> simp <;> omega
theorem sh_pN (ns : List Nat) : Sh 64 (.list (pN ns)) := (sh_lst (n := 0) (sh_map fun _ _ => sh_int)).up
theorem rep_if (b : Bool) (i : Nat) : (List.replicate (if b = true then (1 : Int) else 0).toNat [i]).flatten = if b = true then [i] else [] := by cases b <;> rfl
theorem runS_nd {o : List Str} {s : List (Kd × Str)} (h : ∀ c ∈ s, c.2 ∈ o) (n : o.Nodup) : (runS o s).Nodup := (runS_perm s o h).nodup_iff.mpr n
theorem kit_ll : kitB "list" "list" = some true := by decide +kernel
theorem last_mem {o : List Str} (h : o ≠ []) : o.getLastD Str.empty ∈ o := by
  cases o with
  | nil => exact absurd rfl h
  | cons y r => show (y :: r).getLast (List.cons_ne_nil y r) ∈ _; exact List.getLast_mem _
theorem atI_int {ns : List Int} {i : Int} {n : Nat} (e : i = n) (h : n < ns.length) : atI ns i = some (ns.getD n 0) := atI_of e (by rw [List.getElem?_eq_getElem h, getD_eq 0 h])
def kdL : List Kd := [.front, .back, .up, .down]
/-- an order and a target of the same layers -/
structure Ot (o t : List Str) : Prop where
  perm : t.Perm o
  od : Od o
  nd : o.Nodup
  ne : o ≠ []
theorem Ot.len {o t : List Str} (h : Ot o t) : t.length = o.length := h.perm.length_eq
theorem Ot.mem {o t : List Str} (h : Ot o t) {x : Str} : x ∈ t ↔ x ∈ o := h.perm.mem_iff
theorem Ot.tne {o t : List Str} (h : Ot o t) : t ≠ [] := ne_of_perm h.perm h.ne
theorem Ot.tod {o t : List Str} (h : Ot o t) : Od t := h.od.perm h.perm
theorem Ot.tnd {o t : List Str} (h : Ot o t) : t.Nodup := h.perm.nodup_iff.mpr h.nd
theorem Ot.to {o t u : List Str} (h : Ot o t) (p : u.Perm o) : Ot t u := ⟨p.trans h.perm.symm, h.tod, h.tnd, h.tne⟩
theorem invL_sum (o : List Str) : ∀ (l : List Str), ((invL o l : Nat) : Int) = ((List.range (l.map fun x => pos1 x o).length).map fun k => ((((l.map fun x => pos1 x o).drop (k + 1)).filter fun y => decide (y < (l.map fun x => pos1 x o).getD k 0)).length : Int)).sum
  | [] => rfl
  | x :: r => by
    have ih := invL_sum o r
    rw [List.map_cons, List.length_cons, List.range_succ_eq_map, List.map_cons, List.sum_cons, List.map_map]
    show ((r.countP (fun y => bef o y x) + invL o r : Nat) : Int) = _
    rw [Int.natCast_add, ih]
    congr 1
    show _ = (((r.map fun x => pos1 x o).filter fun y => decide (y < pos1 x o)).length : Int)
    rw [← List.countP_eq_length_filter, List.countP_map]; rfl
/-! the best stretch, turn by turn -/
def bestK (fc : Nat × Nat → Nat) (n k : Nat) : Nat × Nat := ((List.range k).flatMap fun s => (List.range (n - s)).map fun j => (s, s + 1 + j)).foldl (better fc) (0, 1)
def bestJ (fc : Nat × Nat → Nat) (n k j : Nat) : Nat × Nat := ((List.range j).map fun j => (k, k + 1 + j)).foldl (better fc) (bestK fc n k)
theorem bestK_succ (fc : Nat × Nat → Nat) (n k : Nat) : bestK fc n (k + 1) = bestJ fc n k (n - k) := by
  unfold bestJ bestK
  rw [List.range_succ, List.flatMap_append, List.foldl_append]; simp
theorem bestK_ok (fc : Nat × Nat → Nat) {n k : Nat} (hn : 0 < n) (hk : k ≤ n) : (bestK fc n k).1 < (bestK fc n k).2 ∧ (bestK fc n k).2 ≤ n := by
  rcases (better_all fc ((List.range k).flatMap fun s => (List.range (n - s)).map fun j => (s, s + 1 + j)) (0, 1)).2.2 with h | h
  · unfold bestK; rw [h]; exact ⟨by decide, hn⟩
  · obtain ⟨s, h1, h2⟩ := List.mem_flatMap.mp h
    obtain ⟨j, h3, h4⟩ := List.mem_map.mp h2
    have h3 := List.mem_range.mp h3
    unfold bestK; rw [← h4]; simp only; omega
theorem bestJ_ok (fc : Nat × Nat → Nat) {n k j : Nat} (hn : 0 < n) (hk : k < n) (hj : j ≤ n - k) : (bestJ fc n k j).1 < (bestJ fc n k j).2 ∧ (bestJ fc n k j).2 ≤ n := by
  rcases (better_all fc ((List.range j).map fun j => (k, k + 1 + j)) (bestK fc n k)).2.2 with h | h
  · unfold bestJ; rw [h]; exact bestK_ok fc hn (by omega)
  · obtain ⟨i, h3, h4⟩ := List.mem_map.mp h
    have h3 := List.mem_range.mp h3
    unfold bestJ; rw [← h4]; simp only; omega
theorem ks_ok (k : Kd) : PyData.strOk (ks k) = true := by cases k <;> decide +kernel
theorem sh_pC {c : Kd × Str} (h : PyData.strOk c.2 = true) : Sh 1 (pC c) := sh_tup (n := 0) (by
  intro d hd
  simp only [List.mem_cons, List.not_mem_nil, or_false] at hd
  rcases hd with rfl | rfl
  · exact sh_str (ks_ok _)
  · exact sh_str h)
theorem sh_pS {s : List (Kd × Str)} (h : ∀ c ∈ s, PyData.strOk c.2 = true) : Sh 64 (pS s) := (sh_tup (n := 1) (sh_map fun c hc => sh_pC (h c hc))).up
theorem sh_pSl {s : List (Kd × Str)} (h : ∀ c ∈ s, PyData.strOk c.2 = true) : Sh 64 (.list (s.map pC)) := (sh_lst (n := 1) (sh_map fun c hc => sh_pC (h c hc))).up
/-! all orders -/
def allO (ls : List Str) : List (List Str) := ordsK (sortF ls) ls.length
theorem sortF_len (ls : List Str) : (sortF ls).length = ls.length := (sortF_perm ls).length_eq
theorem mem_allO {ls o : List Str} (nl : ls.Nodup) : o ∈ allO ls ↔ o.Perm ls := by
  unfold allO
  have h := mem_ords (o := o) ((sortF_perm ls).nodup_iff.mpr nl)
  rw [sortF_len] at h
  rw [h]
  exact ⟨fun p => p.trans (sortF_perm ls), fun p => p.trans (sortF_perm ls).symm⟩
theorem allO_nd {ls : List Str} (nl : ls.Nodup) : (allO ls).Nodup := ordsK_nodup ((sortF_perm ls).nodup_iff.mpr nl) _
theorem ordsK_le {ls : List Str} (h : ls.length ≤ 6) {k : Nat} (hk : k ≤ ls.length) : (ordsK (sortF ls) k).length ≤ 46656 := by
  refine Nat.le_trans (ordsK_len (sortF ls) k) ?_
  rw [sortF_len]
  refine Nat.le_trans (Nat.pow_le_pow_left h k) ?_
  exact Nat.le_trans (Nat.pow_le_pow_right (by decide) (show k ≤ 6 by omega)) (by decide)
theorem allO_len {ls : List Str} (h : ls.length ≤ 6) : (allO ls).length ≤ 46656 := ordsK_le h (Nat.le_refl _)
theorem ordsK_succ (ls : List Str) (k : Nat) : ordsK ls (k + 1) = (ordsK ls k).flatMap fun o => (ls.filter fun x => !decide (x ∈ o)).map fun x => o ++ [x] := rfl
theorem ordsK_str {ls : List Str} {k : Nat} {o : List Str} (h : o ∈ ordsK (sortF ls) k) : o.length = k ∧ ∀ x ∈ o, x ∈ ls := by
  obtain ⟨_, h2, h3⟩ := (mem_ordsK _ _ _).mp h
  exact ⟨h2, fun x hx => (sortF_perm ls).mem_iff.mp (h3 x hx)⟩
theorem Od.sub {o t : List Str} (h : Od o) (hl : t.length ≤ 1000) (hs : ∀ x ∈ t, x ∈ o) : Od t := ⟨hl, fun x hx => h.str x (hs x hx)⟩
theorem Od.take {o : List Str} (h : Od o) (n : Nat) : Od (o.take n) := h.sub (by have := h.len; rw [List.length_take]; omega) fun x hx => List.mem_of_mem_take hx
/-! scripts compared on all orders -/
def optD : Option (List Str) → D
  | none => .none
  | some o => pO o
theorem emb_optD : Emb optD := fun x y => by
  cases x with
  | none => cases y with
    | none => rfl
    | some b => rfl
  | some a => cases y with
    | none => rfl
    | some b =>
      show PyData.eqv (pO a) (pO b) = _
      rw [emb_tup emb_str]
      by_cases e : a = b <;> simp [e]
theorem isNon_optD (x : Option (List Str)) : isNon (optD x) = x.isNone := by cases x <;> rfl
def fdV (ls : List Str) (s t : List (Kd × Str)) : Option (List Str) := (allO ls).find? fun o => !decide (runS o s = runS o t)
def eqV (ls : List Str) (s t : List (Kd × Str)) : Bool := (fdV ls s t).isNone
theorem eqV_iff {ls : List Str} {s t : List (Kd × Str)} (nl : ls.Nodup) : eqV ls s t = true ↔ ∀ o, o.Perm ls → runS o s = runS o t := by
  unfold eqV fdV
  rw [Option.isNone_iff_eq_none, List.find?_eq_none]
  constructor
  · intro h o ho
    have := h o ((mem_allO nl).mpr ho)
    simpa using this
  · intro h o ho
    have := h o ((mem_allO nl).mp ho)
    simp [this]
def redV (ls : List Str) (s : List (Kd × Str)) : List Nat := (List.range s.length).filter fun i => eqV ls s (s.take i ++ s.drop (i + 1))
/-- scripts for the layers ls -/
def Sc (ls : List Str) (s : List (Kd × Str)) : Prop := s.length ≤ 1000 ∧ ∀ c ∈ s, c.2 ∈ ls
/-- the layers of a small set -/
structure Ls (ls : List Str) : Prop where
  od : Od ls
  nd : ls.Nodup
  len : ls.length ≤ 6
theorem Ls.perm {ls o : List Str} (h : Ls ls) (ho : o ∈ allO ls) : o.Perm ls := (mem_allO h.nd).mp ho
theorem Ls.mem {ls o : List Str} (h : Ls ls) (ho : o ∈ allO ls) {s : List (Kd × Str)} (hs : ∀ c ∈ s, c.2 ∈ ls) : ∀ c ∈ s, c.2 ∈ o := fun c hc => (h.perm ho).mem_iff.mpr (hs c hc)
theorem Ls.run {ls o : List Str} (h : Ls ls) (ho : o ∈ allO ls) {s : List (Kd × Str)} (hs : ∀ c ∈ s, c.2 ∈ ls) : (runS o s).Perm ls := (runS_perm s o (h.mem ho hs)).trans (h.perm ho)
/-! all commands -/
def kdA : List Kd := [.back, .down, .front, .up]
def cmdsV (ls : List Str) : List (Kd × Str) := kdA.flatMap fun d => (sortF ls).map fun x => (d, x)
theorem mem_cmdsV {ls : List Str} {c : Kd × Str} : c ∈ cmdsV ls ↔ c.2 ∈ ls := by
  unfold cmdsV
  rw [List.mem_flatMap]
  constructor
  · rintro ⟨d, _, h⟩
    obtain ⟨x, hx, rfl⟩ := List.mem_map.mp h
    exact (sortF_perm ls).mem_iff.mp hx
  · intro h
    refine ⟨c.1, by cases c.1 <;> decide, List.mem_map.mpr ⟨c.2, (sortF_perm ls).mem_iff.mpr h, rfl⟩⟩
theorem cmdsV_len (ls : List Str) : (cmdsV ls).length = 4 * ls.length := by
  unfold cmdsV kdA
  simp [sortF_len]; omega
section
variable {P : Program} {w : World} {K : PySem.W.Frag} {mg : Str → Option Value} {base : Heap}
/-- the module's constant -/
structure Cs (mg : Str → Option Value) : Prop where
  letters : ∃ t, mg "LETTERS" = some (.str "abcdefghijklmnopqrstuvwxyz" t)
/-! ### values of any kind: data of a bounded size and depth -/
inductive Vd : Nat → D → Prop
  | non {n : Nat} : Vd n .none
  | bl {n : Nat} (b : Bool) : Vd n (.bool b)
  | int {n : Nat} (i : Int) : Vd n (.int i)
  | str {n : Nat} {z : Str} : PyData.strOk z = true → z.length ≤ 1000 → Vd n (.str z)
  | lst {n : Nat} {ds : List D} : ds.length ≤ 1000 → (∀ d ∈ ds, Vd n d) → Vd (n + 1) (.list ds)
  | tup {n : Nat} {ds : List D} : ds.length ≤ 1000 → (∀ d ∈ ds, Vd n d) → Vd (n + 1) (.tuple ds)
theorem Vd.sh {n : Nat} {d : D} (h : Vd n d) : Sh n d := by
  induction h with
  | non => exact sh_none
  | bl b => exact sh_bool
  | int i => exact sh_int
  | str h1 h2 => exact sh_str h1
  | lst _ _ ih => exact sh_lst ih
  | tup _ _ ih => exact sh_tup ih
theorem Vd.up {n m : Nat} {d : D} (h : Vd n d) : n ≤ m → Vd m d := by
  induction h generalizing m with
  | non => intro _; exact .non
  | bl b => intro _; exact .bl b
  | int i => intro _; exact .int i
  | str h1 h2 => intro _; exact .str h1 h2
  | lst hl _ ih => intro h; match m, h with | m + 1, h => exact .lst hl fun d hd => ih d hd (by omega)
  | tup hl _ ih => intro h; match m, h with | m + 1, h => exact .tup hl fun d hd => ih d hd (by omega)
theorem vd_strs {o : List Str} (h : Od o) (hl : ∀ x ∈ o, x.length ≤ 1000) : Vd 1 (pO o) := .tup (by rw [List.length_map]; exact h.len) fun d hd => by
  obtain ⟨x, hx, rfl⟩ := List.mem_map.mp hd
  exact .str (h.str x hx) (hl x hx)
def isStrD : D → Bool
  | .str _ => true
  | _ => false
def isTupD : D → Bool
  | .tuple _ => true
  | _ => false
theorem kit_str (d : D) : kitB (tyD d) "str" = some (isStrD d) := by
  cases d with
  | none => exact (by decide +kernel : kitB "NoneType" "str" = some false)
  | bool _ => exact (by decide +kernel : kitB "bool" "str" = some false)
  | int _ => exact (by decide +kernel : kitB "int" "str" = some false)
  | str _ => exact (by decide +kernel : kitB "str" "str" = some true)
  | list _ => exact (by decide +kernel : kitB "list" "str" = some false)
  | tuple _ => exact (by decide +kernel : kitB "tuple" "str" = some false)
  | dict _ => exact (by decide +kernel : kitB "dict" "str" = some false)
theorem kit_tup (d : D) : kitB (tyD d) "tuple" = some (isTupD d) := by
  cases d with
  | none => exact (by decide +kernel : kitB "NoneType" "tuple" = some false)
  | bool _ => exact (by decide +kernel : kitB "bool" "tuple" = some false)
  | int _ => exact (by decide +kernel : kitB "int" "tuple" = some false)
  | str _ => exact (by decide +kernel : kitB "str" "tuple" = some false)
  | list _ => exact (by decide +kernel : kitB "list" "tuple" = some false)
  | tuple _ => exact (by decide +kernel : kitB "tuple" "tuple" = some true)
  | dict _ => exact (by decide +kernel : kitB "dict" "tuple" = some false)
def letC : List Nat := ("abcdefghijklmnopqrstuvwxyz" : Str).cps.toList
def layD : D → Bool
  | .str z => decide (1 ≤ z.length) && decide (z.length ≤ 8) && z.cps.toList.all fun c => decide (c ∈ letC)
  | _ => false
def strsD : List D → List Str
  | [] => []
  | .str z :: r => z :: strsD r
  | _ :: r => strsD r
theorem strsD_all : ∀ {ds : List D}, ds.all layD = true → ds = (strsD ds).map PyData.str
  | [], _ => rfl
  | d :: r, h => by
    rw [List.all_cons, Bool.and_eq_true] at h
    have ih := strsD_all h.2
    cases d with
    | str z => show _ = PyData.str z :: (strsD r).map PyData.str; rw [← ih]
    | _ => cases h.1
def ordD : D → Bool
  | .tuple ds => decide (1 ≤ ds.length) && decide (ds.length ≤ 10) && ds.all layD && decide ((nubS (strsD ds)).length = ds.length)
  | _ => false
def four : List Str := ["front", "back", "up", "down"]
def cmdD (o : List Str) : D → Bool
  | .tuple [.str k, .str x] => decide (k ∈ four) && decide (x ∈ o)
  | _ => false
def scrD (o : List Str) : D → Bool
  | .tuple ds => decide (ds.length ≤ 60) && ds.all (cmdD o)
  | _ => false
theorem DIS_self {X : Cx} {Γ : DL.Env} {tg iter : Expr} {ds : List D} (d : DIS X tg iter Γ ds) (i : Nat) : DI X tg iter Γ (gName i) ds.length (y1 i (fun x => x) ds PyData.none) [i] := DIS.nm (by rw [List.map_id']; exact d) i PyData.none
theorem di_strC {X : Cx} {Γ : DL.Env} {tg e : Expr} {z : Str} (h : DE X e Γ (.str z)) : DIS X tg e Γ (z.cps.toList.map fun c => PyData.str ⟨#[c]⟩) := by
  have q := di_str (tg := tg) h
  unfold sgns at q
  rw [List.map_map] at q
  exact q
/-! ### values that are changed: bounded length and depth -/
inductive Vb (m : Nat) : Nat → D → Prop
  | non {n : Nat} : Vb m n .none
  | bl {n : Nat} (b : Bool) : Vb m n (.bool b)
  | int {n : Nat} (i : Int) : Vb m n (.int i)
  | str {n : Nat} {z : Str} : PyData.strOk z = true → z.length ≤ 1000 → Vb m n (.str z)
  | lst {n : Nat} {ds : List D} : ds.length ≤ m → (∀ d ∈ ds, Vb m n d) → Vb m (n + 1) (.list ds)
  | tup {n : Nat} {ds : List D} : ds.length ≤ m → (∀ d ∈ ds, Vb m n d) → Vb m (n + 1) (.tuple ds)
theorem Vb.vd {m n : Nat} {d : D} (h : Vb m n d) (hm : m ≤ 1000) : Vd n d := by
  induction h with
  | non => exact .non
  | bl b => exact .bl b
  | int i => exact .int i
  | str h1 h2 => exact .str h1 h2
  | lst hl _ ih => exact .lst (by omega) ih
  | tup hl _ ih => exact .tup (by omega) ih
theorem Vb.up {m n m2 n2 : Nat} {d : D} (h : Vb m n d) : m ≤ m2 → n ≤ n2 → Vb m2 n2 d := by
  induction h generalizing n2 with
  | non => intro _ _; exact .non
  | bl b => intro _ _; exact .bl b
  | int i => intro _ _; exact .int i
  | str h1 h2 => intro _ _; exact .str h1 h2
  | lst hl _ ih => intro h1 h2; match n2, h2 with | k + 1, h2 => exact .lst (by omega) fun d hd => ih d hd h1 (by omega)
  | tup hl _ ih => intro h1 h2; match n2, h2 with | k + 1, h2 => exact .tup (by omega) fun d hd => ih d hd h1 (by omega)
def isListD : D → Bool
  | .list _ => true
  | _ => false
def isSeqD : D → Bool
  | .list _ => true
  | .tuple _ => true
  | _ => false
def isIntD : D → Bool
  | .int _ => true
  | .bool _ => true
  | _ => false
def isBoolD : D → Bool
  | .bool _ => true
  | _ => false
def itemsD : D → List D
  | .list ds => ds
  | .tuple ds => ds
  | _ => []
theorem kit_lst (d : D) : kitB (tyD d) "list" = some (isListD d) := by
  cases d with
  | none => exact (by decide +kernel : kitB "NoneType" "list" = some false)
  | bool _ => exact (by decide +kernel : kitB "bool" "list" = some false)
  | int _ => exact (by decide +kernel : kitB "int" "list" = some false)
  | str _ => exact (by decide +kernel : kitB "str" "list" = some false)
  | list _ => exact (by decide +kernel : kitB "list" "list" = some true)
  | tuple _ => exact (by decide +kernel : kitB "tuple" "list" = some false)
  | dict _ => exact (by decide +kernel : kitB "dict" "list" = some false)
theorem kit_int (d : D) : kitB (tyD d) "int" = some (isIntD d) := by
  cases d with
  | none => exact (by decide +kernel : kitB "NoneType" "int" = some false)
  | bool _ => exact (by decide +kernel : kitB "bool" "int" = some true)
  | int _ => exact (by decide +kernel : kitB "int" "int" = some true)
  | str _ => exact (by decide +kernel : kitB "str" "int" = some false)
  | list _ => exact (by decide +kernel : kitB "list" "int" = some false)
  | tuple _ => exact (by decide +kernel : kitB "tuple" "int" = some false)
  | dict _ => exact (by decide +kernel : kitB "dict" "int" = some false)
theorem kit_bol (d : D) : kitB (tyD d) "bool" = some (isBoolD d) := by
  cases d with
  | none => exact (by decide +kernel : kitB "NoneType" "bool" = some false)
  | bool _ => exact (by decide +kernel : kitB "bool" "bool" = some true)
  | int _ => exact (by decide +kernel : kitB "int" "bool" = some false)
  | str _ => exact (by decide +kernel : kitB "str" "bool" = some false)
  | list _ => exact (by decide +kernel : kitB "list" "bool" = some false)
  | tuple _ => exact (by decide +kernel : kitB "tuple" "bool" = some false)
  | dict _ => exact (by decide +kernel : kitB "dict" "bool" = some false)
theorem kit_seq {K : PySem.W.Frag} (d : D) : PySem.W.kitAny K (.type (tyD d)) [.type "list", .type "tuple"] = some (isSeqD d) := by
  have h1 : PySem.W.kitOne K (.type (tyD d)) (.type "list") = some (isListD d) := kit_ty (kit_lst d)
  have h2 : PySem.W.kitOne K (.type (tyD d)) (.type "tuple") = some (isTupD d) := kit_ty (kit_tup d)
  refine kitAny_cons h1 (fun h => kitAny_cons h2 (fun h' => ?_) (fun h' => ?_)) (fun h => ?_)
  · cases d <;> first | rfl | (cases h'; done) | (cases h; done)
  · cases d <;> first | rfl | cases h'
  · cases d <;> first | rfl | cases h
/-! the paths to all parts -/
mutual
def pathsD : D → List (List Nat)
  | .list ds => [] :: pathsL 0 ds
  | .tuple ds => [] :: pathsL 0 ds
  | _ => [[]]
def pathsL : Nat → List D → List (List Nat)
  | _, [] => []
  | i, d :: r => (pathsD d).map (i :: ·) ++ pathsL (i + 1) r
end
theorem pathsL_append : ∀ (a b : List D) (i : Nat), pathsL i (a ++ b) = pathsL i a ++ pathsL (i + a.length) b
  | [], b, i => rfl
  | d :: r, b, i => by
    show (pathsD d).map (i :: ·) ++ pathsL (i + 1) (r ++ b) = ((pathsD d).map (i :: ·) ++ pathsL (i + 1) r) ++ pathsL (i + (r.length + 1)) b
    rw [pathsL_append r b (i + 1), List.append_assoc, show i + 1 + r.length = i + (r.length + 1) by omega]
theorem pathsL_len {c : Nat} : ∀ (ds : List D) (i : Nat), (∀ d ∈ ds, (pathsD d).length ≤ c) → (pathsL i ds).length ≤ ds.length * c
  | [], _, _ => Nat.zero_le _
  | d :: r, i, h => by
    show ((pathsD d).map (i :: ·) ++ pathsL (i + 1) r).length ≤ (r.length + 1) * c
    rw [List.length_append, List.length_map, Nat.succ_mul]
    have h1 := h d List.mem_cons_self
    have h2 := pathsL_len r (i + 1) fun e he => h e (List.mem_cons_of_mem _ he)
    omega
theorem pathsD_len {m n : Nat} {d : D} (h : Vb m n d) : (pathsD d).length ≤ (m + 1) ^ n := by
  have pos : ∀ n : Nat, 1 ≤ (m + 1) ^ n := fun n => Nat.one_le_pow _ _ (Nat.succ_pos m)
  have seq : ∀ {n : Nat} {ds : List D}, ds.length ≤ m → (∀ d ∈ ds, (pathsD d).length ≤ (m + 1) ^ n) → (pathsL 0 ds).length + 1 ≤ (m + 1) ^ (n + 1) := fun {n ds} hl ih => by
    have h1 := pathsL_len ds 0 ih
    have h2 : ds.length * (m + 1) ^ n ≤ m * (m + 1) ^ n := Nat.mul_le_mul_right _ hl
    have h3 : (m + 1) ^ (n + 1) = m * (m + 1) ^ n + (m + 1) ^ n := by rw [Nat.pow_succ, Nat.mul_comm, Nat.succ_mul]
    have := pos n
    omega
  induction h with
  | non => exact pos _
  | bl b => exact pos _
  | int i => exact pos _
  | str h1 h2 => exact pos _
  | lst hl _ ih => exact seq hl ih
  | tup hl _ ih => exact seq hl ih
theorem mem_pathsL : ∀ (ds : List D) (i : Nat) (q : List Nat), q ∈ pathsL i ds → ∃ k p, k < ds.length ∧ q = (i + k) :: p ∧ p ∈ pathsD (ds.getD k .none)
  | [], _, _, h => by cases h
  | d :: r, i, q, h => by
    rcases List.mem_append.mp (show q ∈ (pathsD d).map (i :: ·) ++ pathsL (i + 1) r from h) with h | h
    · obtain ⟨p, hp, rfl⟩ := List.mem_map.mp h
      exact ⟨0, p, Nat.succ_pos _, rfl, hp⟩
    · obtain ⟨k, p, h1, rfl, h3⟩ := mem_pathsL r (i + 1) q h
      exact ⟨k + 1, p, Nat.succ_lt_succ h1, by rw [show i + 1 + k = i + (k + 1) by omega], h3⟩
theorem mem_pathsD {d : D} {i : Nat} {p : List Nat} (h : i :: p ∈ pathsD d) : isSeqD d = true ∧ i < (itemsD d).length ∧ p ∈ pathsD ((itemsD d).getD i .none) := by
  have seq : ∀ ds : List D, i :: p ∈ [] :: pathsL 0 ds → i < ds.length ∧ p ∈ pathsD (ds.getD i .none) := fun ds h => by
    rcases List.mem_cons.mp h with h | h
    · cases h
    · obtain ⟨k, q, h1, h2, h3⟩ := mem_pathsL ds 0 _ h
      injection h2 with e1 e2
      rw [Nat.zero_add] at e1
      subst e1 e2
      exact ⟨h1, h3⟩
  cases d with
  | list ds => exact ⟨rfl, seq ds h⟩
  | tuple ds => exact ⟨rfl, seq ds h⟩
  | none => rcases List.mem_cons.mp h with h | h <;> cases h
  | bool b => rcases List.mem_cons.mp h with h | h <;> cases h
  | int b => rcases List.mem_cons.mp h with h | h <;> cases h
  | str b => rcases List.mem_cons.mp h with h | h <;> cases h
  | dict b => rcases List.mem_cons.mp h with h | h <;> cases h
theorem Vb.items {m n : Nat} {d : D} (h : Vb m n d) (hs : isSeqD d = true) : ∃ k, n = k + 1 ∧ (itemsD d).length ≤ m ∧ ∀ e ∈ itemsD d, Vb m k e := by
  cases h with
  | lst hl ih => exact ⟨_, rfl, hl, ih⟩
  | tup hl ih => exact ⟨_, rfl, hl, ih⟩
  | _ => cases hs
theorem Vd.items {n : Nat} {d : D} (h : Vd n d) (hs : isSeqD d = true) : ∃ k, n = k + 1 ∧ (itemsD d).length ≤ 1000 ∧ ∀ e ∈ itemsD d, Vd k e := by
  cases h with
  | lst hl ih => exact ⟨_, rfl, hl, ih⟩
  | tup hl ih => exact ⟨_, rfl, hl, ih⟩
  | _ => cases hs
theorem path_len {m : Nat} : ∀ {p : List Nat} {n : Nat} {d : D}, Vb m n d → p ∈ pathsD d → p.length ≤ n
  | [], _, _, _, _ => Nat.zero_le _
  | i :: p, n, d, h, hp => by
    obtain ⟨h1, h2, h3⟩ := mem_pathsD hp
    obtain ⟨k, rfl, _, h5⟩ := h.items h1
    exact Nat.succ_le_succ (path_len (h5 _ (getD_mem PyData.none h2)) h3)
theorem pathsD_ne (d : D) : pathsD d ≠ [] := by cases d <;> exact List.cons_ne_nil _ _
/-! another value -/
def baseO (d : D) : List D := [.none, .bool true, .bool false, .int 7, .int (0 - 1), .int (10 ^ 39), .str "0", .str "", .tuple [], .list [], .tuple [d], .list [d], .tuple [.int 0], .tuple [.int 1, .int 0], .int 1, .int 0]
def intO : D → List D
  | .int v => [.int (v + 1), .int (v - 1), .bool (v != 0), .int (v + 1), .int (v - 1), .bool (v != 0)]
  | _ => []
def seqO (d : D) : List D := if isSeqD d = true then [.list (itemsD d), .tuple (itemsD d), .tuple (itemsD d).reverse, .list (itemsD d)] else []
def optsV (d : D) : List D := seqO d ++ (intO d ++ baseO d)
def otherV (d : D) (g : List Int) : D := (optsV d).getD (g.getD 1 0 % ((optsV d).length : Nat)).toNat .none
theorem optsV_len (d : D) : 16 ≤ (optsV d).length ∧ (optsV d).length ≤ 26 := by
  unfold optsV seqO intO
  cases d <;> simp [isSeqD, baseO]
theorem modN {i : Int} {n : Nat} (h : 0 < n) : 0 ≤ i % (n : Int) ∧ i % (n : Int) < n := ⟨Int.emod_nonneg _ (by omega), Int.emod_lt_of_pos _ (by omega)⟩
theorem vb_opts {m n : Nat} {d : D} (hm : 2 ≤ m) (h : Vb m n d) : ∀ e ∈ optsV d, Vb m (n + 1) e := by
  have t1 : ∀ {x : D}, Vb m n x → Vb m (n + 1) (.tuple [x]) := fun hx => .tup (by show 1 ≤ m; omega) fun e he => by rw [List.mem_singleton.mp he]; exact hx
  have l1 : ∀ {x : D}, Vb m n x → Vb m (n + 1) (.list [x]) := fun hx => .lst (by show 1 ≤ m; omega) fun e he => by rw [List.mem_singleton.mp he]; exact hx
  have b : ∀ e ∈ baseO d, Vb m (n + 1) e := fun e he => by
    unfold baseO at he
    simp only [List.mem_cons, List.not_mem_nil, or_false] at he
    rcases he with rfl | rfl | rfl | rfl | rfl | rfl | rfl | rfl | rfl | rfl | rfl | rfl | rfl | rfl | rfl | rfl
    · exact .non
    · exact .bl _
    · exact .bl _
    · exact .int _
    · exact .int _
    · exact .int _
    · exact .str (by decide +kernel) (by decide +kernel)
    · exact .str (by decide +kernel) (by decide +kernel)
    · exact .tup (Nat.zero_le _) fun e he => by cases he
    · exact .lst (Nat.zero_le _) fun e he => by cases he
    · exact t1 h
    · exact l1 h
    · exact t1 (.int 0)
    · exact .tup hm fun e he => by
        simp only [List.mem_cons, List.not_mem_nil, or_false] at he
        rcases he with rfl | rfl <;> exact .int _
    · exact .int _
    · exact .int _
  intro e he
  unfold optsV at he
  rcases List.mem_append.mp he with he | he
  · unfold seqO at he
    split at he
    · rename_i hs
      obtain ⟨k, rfl, hl, hi⟩ := h.items hs
      have hl2 : ∀ e ∈ itemsD d, Vb m (k + 1) e := fun e he => (hi e he).up (Nat.le_refl _) (Nat.le_succ _)
      simp only [List.mem_cons, List.not_mem_nil, or_false] at he
      rcases he with rfl | rfl | rfl | rfl
      · exact .lst hl hl2
      · exact .tup hl hl2
      · exact .tup (by rw [List.length_reverse]; exact hl) fun e he => hl2 e (List.mem_reverse.mp he)
      · exact .lst hl hl2
    · cases he
  · rcases List.mem_append.mp he with he | he
    · cases d with
      | int v =>
        simp only [intO, List.mem_cons, List.not_mem_nil, or_false] at he
        rcases he with rfl | rfl | rfl | rfl | rfl | rfl <;> first | exact .int _ | exact .bl _
      | _ => cases he
    · exact b e he
theorem otherV_mem (d : D) (g : List Int) : otherV d g ∈ optsV d := by
  have h := optsV_len d
  have q := modN (i := g.getD 1 0) (n := (optsV d).length) (by omega)
  exact getD_mem PyData.none (by omega)
/-! an item removed, duplicated or moved -/
def mvItV (ds : List D) (i : Nat) (g : List Int) : List D :=
  if g.getD 0 0 % 3 = 0 then ds.take i ++ ds.drop (i + 1)
  else if g.getD 0 0 % 3 = 1 then ds.take (g.getD 2 0 % (ds.length : Nat)).toNat ++ [ds.getD i .none] ++ ds.drop (g.getD 2 0 % (ds.length : Nat)).toNat
  else (ds.take i ++ ds.drop (i + 1)).take (g.getD 2 0 % (ds.length : Nat)).toNat ++ [ds.getD i .none] ++ (ds.take i ++ ds.drop (i + 1)).drop (g.getD 2 0 % (ds.length : Nat)).toNat
theorem mvItV_mem {ds : List D} {i : Nat} (g : List Int) (h : i < ds.length) : ∀ e ∈ mvItV ds i g, e ∈ ds := by
  have hi := getD_mem PyData.none h
  have hr : ∀ e ∈ ds.take i ++ ds.drop (i + 1), e ∈ ds := fun e he => (List.mem_append.mp he).elim List.mem_of_mem_take List.mem_of_mem_drop
  intro e he
  unfold mvItV at he
  split at he
  · exact hr e he
  · split at he
    · rcases List.mem_append.mp he with he | he
      · rcases List.mem_append.mp he with he | he
        · exact List.mem_of_mem_take he
        · rw [List.mem_singleton.mp he]; exact hi
      · exact List.mem_of_mem_drop he
    · rcases List.mem_append.mp he with he | he
      · rcases List.mem_append.mp he with he | he
        · exact hr e (List.mem_of_mem_take he)
        · rw [List.mem_singleton.mp he]; exact hi
      · exact hr e (List.mem_of_mem_drop he)
theorem mvItV_len (ds : List D) (i : Nat) (g : List Int) : (mvItV ds i g).length ≤ ds.length + 1 := by
  unfold mvItV
  split
  · simp only [List.length_append, List.length_take, List.length_drop]; omega
  · split
    · simp only [List.length_append, List.length_take, List.length_drop, List.length_cons, List.length_nil]; omega
    · simp only [List.length_append, List.length_take, List.length_drop, List.length_cons, List.length_nil]; omega
/-! a change at a path -/
def wrapD (d : D) (ds : List D) : D := if isListD d = true then .list ds else .tuple ds
def chgV (g : List Int) : List Nat → D → D
  | [], d => otherV d g
  | i :: p, d => wrapD d (if p = [] ∧ g.getD 3 0 % 2 = 0 then mvItV (itemsD d) i g else (itemsD d).set i (chgV g p ((itemsD d).getD i .none)))
theorem vb_wrap {m n : Nat} {d : D} {ds : List D} (hl : ds.length ≤ m) (h : ∀ e ∈ ds, Vb m n e) : Vb m (n + 1) (wrapD d ds) := by
  unfold wrapD
  split
  · exact .lst hl h
  · exact .tup hl h
theorem vb_chg {m : Nat} (g : List Int) (hm : 2 ≤ m) : ∀ {p : List Nat} {n : Nat} {d : D}, Vb m n d → p ∈ pathsD d → Vb (m + 1) (n + 1) (chgV g p d)
  | [], n, d, h, _ => (vb_opts hm h _ (otherV_mem d g)).up (by omega) (by omega)
  | i :: p, n, d, h, hp => by
    obtain ⟨h1, h2, h3⟩ := mem_pathsD hp
    obtain ⟨k, rfl, h4, h5⟩ := h.items h1
    have up : ∀ e ∈ itemsD d, Vb (m + 1) (k + 1) e := fun e he => (h5 e he).up (by omega) (by omega)
    show Vb (m + 1) (k + 1 + 1) (wrapD d _)
    split
    · exact vb_wrap (by have := mvItV_len (itemsD d) i g; omega) fun e he => up e (mvItV_mem g h2 e he)
    · refine vb_wrap (by rw [List.length_set]; omega) fun e he => ?_
      rcases List.mem_or_eq_of_mem_set he with he | rfl
      · exact up e he
      · exact vb_chg g hm (h5 _ (getD_mem PyData.none h2)) h3
def pthV (d : D) (g : List Int) : List Nat := (pathsD d).getD (g.getD 4 0 % ((pathsD d).length : Nat)).toNat []
theorem pthV_mem (d : D) (g : List Int) : pthV d g ∈ pathsD d := by
  have h : 0 < (pathsD d).length := List.length_pos_iff.mpr (pathsD_ne d)
  have q := modN (i := g.getD 4 0) h
  exact getD_mem [] (by omega)
def mutV (d : D) (g : List Int) : D := chgV g (pthV d g) d
theorem vb_mut {m n : Nat} {d : D} (g : List Int) (hm : 2 ≤ m) (h : Vb m n d) : Vb (m + 1) (n + 1) (mutV d g) := vb_chg g hm h (pthV_mem d g)
/-! a value of any kind -/
def numV (g : List Int) (k : Nat) : D := [PyData.int (g.getD (k + 1) 0 % 12 - 2), .int (0 - 10 ^ 39), .int (10 ^ 39)].getD (g.getD (k + 2) 0 % 3).toNat .none
def txtV : List D := [.str "", .str "0", .str "a", .str "ax", .str "3", .str "none", .str "A", .str "~"]
def anyV : Nat → List Int → Nat → D
  | 0, g, k => numV g k
  | f + 1, g, k => if g.getD k 0 % 12 < 4 then numV g k else if g.getD k 0 % 12 < 7 then [PyData.bool true, .bool false, .none].getD (g.getD k 0 % 12 - 4).toNat .none
    else if g.getD k 0 % 12 < 9 then txtV.getD (g.getD (k + 3) 0 % 8).toNat .none
    else if g.getD k 0 % 12 = 9 then .list ((List.range (g.getD (k + 4) 0 % 4).toNat).map fun j => anyV f (g.drop j ++ g.take j) (k + 1))
    else .tuple ((List.range (g.getD (k + 4) 0 % 4).toNat).map fun j => anyV f (g.drop j ++ g.take j) (k + 1))
theorem vb_num (g : List Int) (k n : Nat) : Vb 3 n (numV g k) := by
  have h : numV g k ∈ [PyData.int (g.getD (k + 1) 0 % 12 - 2), .int (0 - 10 ^ 39), .int (10 ^ 39)] := getD_mem _ (by show _ < 3; omega)
  simp only [List.mem_cons, List.not_mem_nil, or_false] at h
  rcases h with h | h | h <;> rw [h] <;> exact .int _
theorem vb_any : ∀ (f : Nat) (g : List Int) (k : Nat), Vb 3 f (anyV f g k)
  | 0, g, k => vb_num g k 0
  | f + 1, g, k => by
    unfold anyV
    split
    · exact vb_num g k _
    · split
      · rename_i h1 h2
        have h : [PyData.bool true, .bool false, .none].getD (g.getD k 0 % 12 - 4).toNat .none ∈ [PyData.bool true, .bool false, .none] := getD_mem _ (by show _ < 3; omega)
        simp only [List.mem_cons, List.not_mem_nil, or_false] at h
        rcases h with h | h | h <;> rw [h] <;> first | exact .bl _ | exact .non
      · split
        · have h : txtV.getD (g.getD (k + 3) 0 % 8).toNat .none ∈ txtV := getD_mem _ (by show _ < 8; omega)
          have ok : ∀ d ∈ txtV, ∃ z, d = .str z ∧ PyData.strOk z = true ∧ z.length ≤ 1000 := by
            intro d hd
            simp only [txtV, List.mem_cons, List.not_mem_nil, or_false] at hd
            rcases hd with rfl | rfl | rfl | rfl | rfl | rfl | rfl | rfl <;> exact ⟨_, rfl, by decide +kernel, by decide +kernel⟩
          obtain ⟨z, e, h1, h2⟩ := ok _ h
          rw [e]
          exact .str h1 h2
        · have hp : ∀ e ∈ (List.range (g.getD (k + 4) 0 % 4).toNat).map (fun j => anyV f (g.drop j ++ g.take j) (k + 1)), Vb 3 f e := fun e he => by
            obtain ⟨j, _, rfl⟩ := List.mem_map.mp he
            exact vb_any f _ _
          have hl : ((List.range (g.getD (k + 4) 0 % 4).toNat).map (fun j => anyV f (g.drop j ++ g.take j) (k + 1))).length ≤ 3 := by
            rw [List.length_map, List.length_range]; omega
          split
          · exact .lst hl hp
          · exact .tup hl hp
/-! items and slices of lists of any data -/
section
variable {X : Cx} {Γ : DL.Env} {a b c e : Expr} {pos p2 : Pos} {i : Int} {ds es : List D}
theorem dv_pick (ha : DE X a Γ (.list ds)) (hb : DE X b Γ (.int i)) (h : 0 ≤ i ∧ i < ds.length) (hs : PlainIx b := by exact fun _ _ => rfl) : DE X (.Subscript a b pos) Γ (ds.getD i.toNat .none) :=
  dv_ixLm (g := fun x : D => x) (xs := ds) PyData.none (by rw [List.map_id']; exact ha) hb h hs
theorem dv_pickN (n : Nat) (ha : DE X a Γ (.list ds)) (hb : DE X b Γ (.int i)) (h : n < ds.length) (e : i = n := by omega) (hs : PlainIx b := by exact fun _ _ => rfl) : DE X (.Subscript a b pos) Γ (ds.getD n .none) := by
  subst e
  exact dv_pick ha hb (by omega) hs
theorem dv_fromD (n : Nat) (h : DE X a Γ (.list ds)) (hl : DE X b Γ (.int i)) (e : i = n := by omega) : DV X (.Subscript a (.Slice (some b) none none p2) pos) Γ (.own (ds.drop n)) := DV.cast (dv_slL h (do_some hl) do_none) (by rw [cut_from e])
theorem dv_toD (n : Nat) (h : DE X a Γ (.list ds)) (hl : DE X b Γ (.int i)) (e : i = n := by omega) : DV X (.Subscript a (.Slice none (some b) none p2) pos) Γ (.own (ds.take n)) := DV.cast (dv_slL h do_none (do_some hl)) (by rw [cut_to e])
end
abbrev pPh (q : List Nat) : D := .tuple (q.map fun (n : Nat) => PyData.int (n : Int))
/-! ### _law_cell -/
theorem sc__law_cell : FnScope ["script", "index"] ["script", "index"] (defScope s__law_cell) := ⟨rfl, rfl, rfl, by decide +kernel, rfl, by decide +kernel, by decide +kernel⟩
def cellV (ns : List Int) (i : Nat) : Int := if i < ns.length then ns.getD i 0 else if ns.length = 0 then 7919 * i + 101 else ns.getD (i % ns.length) 0 % 1000003 + 7919 * i
def c__law_cell : List Sv → Sv → Prop := fun ss r => ∃ ns, ∃ i : Nat, ss = [.scr ns, .d (.int i)] ∧ i < 100 ∧ r = .d (.int (cellV ns i))
theorem fd__law_cell (T : Td K mg "_law_cell" s__law_cell ["script", "index"]) (B : Bs mg) : Fd P w K mg base 1 "_law_cell" ["script", "index"] c__law_cell := by
  refine fd_mk T sc__law_cell (by rintro ss r ⟨ns, i, rfl, _⟩; rfl) fun f cdv A outer s H E hr ss r ⟨ns, i, e1, hi, e2⟩ => ?_
  subst e1 e2
  refine dss_cons (ds_if (dt_cp cp_lt (dv_var 1) (dv_lenScr (k := 0) B.L) (nomark _)) (fun h => ?_) (fun h => dss_nil ?_))
  · have hl : i < ns.length := by have := of_decide_eq_true h; omega
    refine dss_cons (ds_ret (dv_ixScr (k := 0) rfl (dv_var 1) (atI_int rfl hl)) ?_)
    show _ = _
    unfold cellV
    rw [if_pos hl]
  have hl : ¬ i < ns.length := by have := of_decide_eq_false h; omega
  refine dss_cons (ds_if (dt_cp cp_eqI (dv_lenScr (k := 0) B.L) dv_int (nomark _)) (fun h => ?_) (fun h => dss_nil ?_))
  · have h0 : ns.length = 0 := by have := of_decide_eq_true h; omega
    refine dss_cons (ds_ret (dv_add (dv_mul dv_int (dv_var 1) (.inl (by decide))) dv_int) ?_)
    show _ = _
    unfold cellV
    rw [if_neg hl, if_pos h0]
  have h0 : ¬ ns.length = 0 := by have := of_decide_eq_false h; omega
  have e : ((i : Int) % (ns.length : Int)) = ((i % ns.length : Nat) : Int) := by rw [Int.natCast_emod]
  refine dss_cons (ds_ret (dv_add (dv_mod (dv_ixScr (k := 0) rfl (dv_mod (dv_var 1) (dv_lenScr (k := 0) B.L) (by omega)) (atI_int e (Nat.mod_lt _ (by omega)))) dv_int (by decide)) (dv_mul dv_int (dv_var 1) (.inl (by decide)))) ?_)
  show _ = _
  unfold cellV
  rw [if_neg hl, if_neg h0]
/-! ### _law_digits -/
theorem sc__law_digits : FnScope ["script", "index", "count", "base", "primes", "cell", "rest", "digits", "k", "mixed"] ["script", "index", "count", "base"] (defScope s__law_digits) := ⟨rfl, rfl, rfl, by decide +kernel, rfl, by decide +kernel, by decide +kernel⟩
def primesL : List Int := [2147483647, 2147483629, 2147483587, 2147483579, 2147483563, 2147483549, 2147483543, 2147483497]
def prm (i : Int) : Int := primesL.getD i.toNat 0
theorem prm_pos {i : Int} (h : 0 ≤ i ∧ i < 8) : 0 < prm i ∧ prm i < 2147483648 := by
  obtain ⟨n, rfl⟩ : ∃ n : Nat, i = n := ⟨i.toNat, by omega⟩
  have hn : n < 8 := by omega
  unfold prm
  rw [Int.toNat_natCast]
  match n, hn with
  | 0, _ => decide
  | 1, _ => decide
  | 2, _ => decide
  | 3, _ => decide
  | 4, _ => decide
  | 5, _ => decide
  | 6, _ => decide
  | 7, _ => decide
def mix1 (cell : Int) (k : Nat) : Int := cell % prm ((k : Int) % 8) * (48271 + 2 * k * k)
def mix2 (cell : Int) (i k : Nat) : Int := mix1 cell k + 7919 * ((k : Int) + 1) * ((k : Int) + 1) + 104729 * i
def mix3 (cell : Int) (i k : Nat) : Int := mix2 cell i k % prm ((3 * (k : Int) + i) % 8)
def mix4 (cell : Int) (i k : Nat) : Int := mix3 cell i k * mix3 cell i k * mix3 cell i k % prm (((k : Int) + 5) % 8)
def restK (r b : Int) : Nat → Int
  | 0 => r
  | k + 1 => restK r b k / b
def digK (cell r b : Int) (i k : Nat) : Int := (if 0 < restK r b k then restK r b k else mix4 cell i k) % b
def rest0 (cell : Int) : Int := if 1000000000000000000 ≤ cell then cell else 0
def digitsV (ns : List Int) (i c : Nat) (b : Int) : List Int := (List.range c).map (digK (cellV ns i) (rest0 (cellV ns i)) b i)
theorem digitsV_len (ns : List Int) (i c : Nat) (b : Int) : (digitsV ns i c b).length = c := by unfold digitsV; rw [List.length_map, List.length_range]
theorem digitsV_nn {ns : List Int} {i c : Nat} {b : Int} (hb : 0 < b) : ∀ d ∈ digitsV ns i c b, 0 ≤ d ∧ d < b := fun d hd => by
  obtain ⟨k, _, rfl⟩ := List.mem_map.mp hd
  exact ⟨Int.emod_nonneg _ (by omega), Int.emod_lt_of_pos _ hb⟩
def c__law_digits : List Sv → Sv → Prop := fun ss r => ∃ ns, ∃ i c : Nat, ∃ b : Int, ss = [.scr ns, .d (.int i), .d (.int c), .d (.int b)] ∧ i < 100 ∧ c ≤ 200 ∧ (0 < b ∧ b < 1073741824) ∧ r = .own ((digitsV ns i c b).map .int)
theorem fd__law_digits (T : Td K mg "_law_digits" s__law_digits ["script", "index", "count", "base"]) (B : Bs mg) (G : Fd P w K mg base 1 "_law_cell" ["script", "index"] c__law_cell) : Fd P w K mg base 2 "_law_digits" ["script", "index", "count", "base"] c__law_digits := by
  refine fd_mk T sc__law_digits (by rintro ss r ⟨ns, i, c, b, rfl, _⟩; rfl) fun f cdv A outer s H E hr ss r ⟨ns, i, c, b, e1, hi, hc, hb, e2⟩ => ?_
  subst e1 e2
  refine dss_cons (ds_asg 4 (s := .d (.tuple (primesL.map .int))) (dv_tup (da_cons dv_int (da_cons dv_int (da_cons dv_int (da_cons dv_int (da_cons dv_int (da_cons dv_int (da_cons dv_int (da_cons dv_int da_nil))))))))) ?_ sc__law_digits.nd)
  refine dss_cons (ds_asg 5 (dv_call G hr (dc_scr 0 (dc_cons (dv_var 1) dc_nil)) ⟨ns, i, rfl, hi, rfl⟩) ?_ sc__law_digits.nd)
  generalize ec : cellV ns i = cell
  refine dss_cons (ds_asg 6 (s := .d (.int (rest0 cell))) (dv_if (dt_cp cp_ge (dv_var 5) (dv_pow dv_int dv_int (by decide)) (nomark _)) (fun h => (dv_var 5).eq ?_) (fun h => dv_int.eq ?_)) ?_ sc__law_digits.nd)
  · have q := of_decide_eq_true h
    rw [show (10 : Int) ^ (Int.toNat 18) = 1000000000000000000 by decide] at q
    unfold rest0
    rw [if_pos q]
  · have q := of_decide_eq_false h
    rw [show (10 : Int) ^ (Int.toNat 18) = 1000000000000000000 by decide] at q
    unfold rest0
    rw [if_neg q]
  refine dss_cons (ds_asg 7 (dv_lst0 PyData.int) ?_ sc__law_digits.nd)
  refine dss_cons (ds_fp (fun k => [some (.scr ns), some (.d (.int i)), some (.d (.int c)), some (.d (.int b)), some (.d (.tuple (primesL.map .int))), some (.d (.int cell)), some (.d (.int (restK (rest0 cell) b k))), some (.own (((List.range k).map (digK cell (rest0 cell) b i)).map .int)), none, none])
    ((di_rng1 B.R (dv_var 2) (by omega)).nr 8) (pgOne sc__law_digits.nd) (.eq rfl (.eq rfl (.eq rfl (.eq rfl (.eq rfl (.eq rfl (.eq rfl (.eq rfl (.any (.any .nil)))))))))) (fun k hk => ?_) ?_)
  · have hk' : k < 200 := by omega
    have p1 := prm_pos (i := (k : Int) % 8) (by omega)
    have p2 := prm_pos (i := (3 * (k : Int) + i) % 8) (by omega)
    have p3 := prm_pos (i := ((k : Int) + 5) % 8) (by omega)
    unfold yr
    rw [Int.zero_add]
    have m1a := Int.emod_nonneg cell (show prm ((k : Int) % 8) ≠ 0 by omega)
    have m1b := Int.emod_lt_of_pos cell p1.1
    refine dss_cons (ds_asg 9 (s := .d (.int (mix1 cell k))) (dv_mul (dv_mod (dv_var 5) (dv_ixTm 0 (dv_var 4) (dv_mod (dv_var 8) dv_int (by decide)) (show 0 ≤ (k : Int) % 8 ∧ (k : Int) % 8 < 8 by omega)) p1.1) (dv_add dv_int (dv_mul (dv_mul dv_int (dv_var 8) (.inl (by decide))) (dv_var 8) (.inr (by omega)))) (.inl (by constructor <;> omega))) ?_ sc__law_digits.nd)
    refine dss_cons (ds_asg 9 (s := .d (.int (mix2 cell i k))) (dv_add (dv_add (dv_var 9) (dv_mul (dv_mul dv_int (dv_add (dv_var 8) dv_int) (.inl (by decide))) (dv_add (dv_var 8) dv_int) (.inr (by omega)))) (dv_mul dv_int (dv_var 1) (.inl (by decide)))) ?_ sc__law_digits.nd)
    have m3a := Int.emod_nonneg (mix2 cell i k) (show prm ((3 * (k : Int) + i) % 8) ≠ 0 by omega)
    have m3b := Int.emod_lt_of_pos (mix2 cell i k) p2.1
    refine dss_cons (ds_asg 9 (s := .d (.int (mix3 cell i k))) (dv_mod (dv_var 9) (dv_ixTm 0 (dv_var 4) (dv_mod (dv_add (dv_mul dv_int (dv_var 8) (.inl (by decide))) (dv_var 1)) dv_int (by decide)) (show 0 ≤ (3 * (k : Int) + i) % 8 ∧ (3 * (k : Int) + i) % 8 < 8 by omega)) p2.1) ?_ sc__law_digits.nd)
    have m3c : -(2 ^ 64) < mix3 cell i k ∧ mix3 cell i k < 2 ^ 64 := by
      have h1 : 0 ≤ mix3 cell i k := m3a
      have h2 : mix3 cell i k < prm ((3 * (k : Int) + i) % 8) := m3b
      constructor <;> omega
    refine dss_cons (ds_asg 9 (s := .d (.int (mix4 cell i k))) (dv_mod (dv_mul (dv_mul (dv_var 9) (dv_var 9) (.inl m3c)) (dv_var 9) (.inr m3c)) (dv_ixTm 0 (dv_var 4) (dv_mod (dv_add (dv_var 8) dv_int) dv_int (by decide)) (show 0 ≤ ((k : Int) + 5) % 8 ∧ ((k : Int) + 5) % 8 < 8 by omega)) p3.1) ?_ sc__law_digits.nd)
    refine dss_cons (ds_ifp [some (.scr ns), some (.d (.int i)), some (.d (.int c)), some (.d (.int b)), some (.d (.tuple (primesL.map .int))), some (.d (.int cell)), some (.d (.int (restK (rest0 cell) b k))), some (.own (((List.range k).map (digK cell (rest0 cell) b i)).map .int)), some (.d (.int k)), some (.d (.int (if 0 < restK (rest0 cell) b k then restK (rest0 cell) b k else mix4 cell i k)))]
      (dt_cp cp_gt (dv_var 6) dv_int (nomark _)) (fun h => ?_) (fun h => ?_) ?_)
    · refine dss_cons (ds_asg 9 (dv_var 6) (dss_nil ?_) sc__law_digits.nd)
      exact .eq rfl (.eq rfl (.eq rfl (.eq rfl (.eq rfl (.eq rfl (.eq rfl (.eq rfl (.eq rfl (.eq (by rw [if_pos (of_decide_eq_true h)]) .nil)))))))))
    · refine dss_nil ?_
      exact .eq rfl (.eq rfl (.eq rfl (.eq rfl (.eq rfl (.eq rfl (.eq rfl (.eq rfl (.eq rfl (.eq (by rw [if_neg (of_decide_eq_false h)]) .nil)))))))))
    · refine dss_cons (ds_app 7 rfl (dv_mod (dv_var 9) (dv_var 3) hb.1) (szl (by simp; omega)) ?_)
      refine dss_cons (ds_asg 6 (dv_fdiv (dv_var 6) (dv_var 3) hb) (dss_nil ?_) sc__law_digits.nd)
      refine .eq rfl (.eq rfl (.eq rfl (.eq rfl (.eq rfl (.eq rfl (.eq rfl (.eq ?_ (.any (.any .nil)))))))))
      rw [List.range_succ, List.map_append, List.map_append]; rfl
  · refine dss_cons (ds_retO 7 rfl ?_)
    rw [Int.toNat_natCast, ← ec]; rfl
/-! ### _law_mixed -/
theorem sc__law_mixed : FnScope ["digits", "names", "order", "rest", "at"] ["digits", "names"] (defScope s__law_mixed) := ⟨rfl, rfl, rfl, by decide +kernel, rfl, by decide +kernel, by decide +kernel⟩
def mixL : List Int → List Str → List Str
  | [], _ => []
  | d :: ds, rest => if rest = [] then [] else rest.getD (d % (rest.length : Int)).toNat Str.empty :: mixL ds (rest.eraseIdx (d % (rest.length : Int)).toNat)
theorem mixL_nil (ds : List Int) : mixL ds [] = [] := by cases ds <;> simp [mixL]
theorem mixL_perm : ∀ (ds : List Int) (rest : List Str), rest.length ≤ ds.length → (mixL ds rest).Perm rest
  | [], rest, h => by
    have : rest = [] := List.eq_nil_of_length_eq_zero (by simpa using h)
    subst this; exact List.Perm.refl _
  | d :: ds, rest, h => by
    by_cases e : rest = []
    · subst e; rw [mixL_nil]
    · have hp : 0 < rest.length := List.length_pos_iff.mpr e
      have h1 := Int.emod_nonneg d (show (rest.length : Int) ≠ 0 by omega)
      have h2 := Int.emod_lt_of_pos d (show 0 < (rest.length : Int) by omega)
      have hn : (d % (rest.length : Int)).toNat < rest.length := by omega
      unfold mixL
      rw [if_neg e]
      generalize (d % (rest.length : Int)).toNat = n at hn
      have ih := mixL_perm ds (rest.eraseIdx n) (by rw [List.length_eraseIdx_of_lt hn]; simp at h; omega)
      rw [getD_eq _ hn]
      refine (List.Perm.cons _ ih).trans ?_
      rw [List.eraseIdx_eq_take_drop_succ]
      have e2 : rest = rest.take n ++ rest[n] :: rest.drop (n + 1) := by rw [← List.drop_eq_getElem_cons hn, List.take_append_drop]
      have e3 : (rest[n] :: (rest.take n ++ rest.drop (n + 1))).Perm (rest.take n ++ rest[n] :: rest.drop (n + 1)) := List.perm_middle.symm
      rw [← e2] at e3
      exact e3
def c__law_mixed : List Sv → Sv → Prop := fun ss r => ∃ ds ns s, ss = [.d (.list (ds.map .int)), .d s] ∧ IsSeq s (ns.map .str) ∧ Od ns ∧ ns.length ≤ ds.length ∧ ds.length ≤ 1000 ∧ r = .d (pO (mixL ds ns))
theorem fd__law_mixed (T : Td K mg "_law_mixed" s__law_mixed ["digits", "names"]) (B : Bs mg) : Fd P w K mg base 1 "_law_mixed" ["digits", "names"] c__law_mixed := by
  refine fd_mk T sc__law_mixed (by rintro ss r ⟨ds, ns, s, rfl, _⟩; rfl) fun f cdv A outer s H E hr ss r ⟨ds, ns, s, e1, hs, ho, hl, hl2, e2⟩ => ?_
  subst e1 e2
  refine dss_cons (ds_par 2 3 (dv_tup0 PyData.str) (dv_list B.Li (dv_var 1) hs).frz ?_ rfl sc__law_mixed.nd (by decide))
  refine dss_cons (ds_wp (τ := List Str × List Str) (fun t => [some (.d (.list (ds.map .int))), some (.d s), some (.d (pO t.1)), some (.d (.list (t.2.map .str))), none]) (fun t => t.1.length + t.2.length = ns.length ∧ (∀ x ∈ t.2, PyData.strOk x = true) ∧ t.1 ++ mixL (ds.drop t.1.length) t.2 = mixL ds ns) (fun t => !decide (t.2 = [])) (fun t => t.2.length) ([], ns) ⟨by simp, ho.str, by simp⟩ (.eq rfl (.eq rfl (.eq rfl (.eq rfl (.any .nil)))))
    (fun t ht => ?_) (fun t ht hb => ?_) (fun t ht hb => ?_))
  · refine dt_eq (dt_cp (cq_ne hr (sh_lst (n := 0) (sh_map fun x hx => sh_str (ht.2.1 x hx))).up (sh_lst (n := 0) (ds := []) (fun _ h => by cases h)).up) (dv_var 3) (dv_lst da_nil).frz (nomark _)) ?_
    exact congrArg _ (emb_lst emb_str t.2 [])
  · obtain ⟨o, rest⟩ := t
    obtain ⟨h1, h2, h3⟩ := ht
    have hne : rest ≠ [] := fun e => by subst e; cases hb
    have hp : 0 < rest.length := List.length_pos_iff.mpr hne
    dsimp only at h1 h2 h3 ⊢
    have hol : o.length < ds.length := by omega
    have d1 := Int.emod_nonneg ds[o.length] (show (rest.length : Int) ≠ 0 by omega)
    have d2 := Int.emod_lt_of_pos ds[o.length] (show 0 < (rest.length : Int) by omega)
    refine dss_cons (ds_asg 4 (s := .d (.int (ds[o.length] % (rest.length : Int)))) (dv_eq' (dv_mod (dv_ixLm 0 (dv_var 0) (dv_len B.L (dv_var 2) .t) (by rw [List.length_map]; omega)) (dv_len B.L (dv_var 3) .l) (by rw [List.length_map]; omega)) ?_) ?_ sc__law_mixed.nd)
    · rw [List.length_map, List.length_map, Int.toNat_natCast, getD_eq 0 hol]
    obtain ⟨n, en⟩ : ∃ n : Nat, ds[o.length] % (rest.length : Int) = n := ⟨(ds[o.length] % (rest.length : Int)).toNat, by omega⟩
    have hn : n < rest.length := by omega
    rw [en]
    refine dss_cons (ds_asg 2 (dv_catTm (g := PyData.str) (dv_var 2) (dv_tup1 PyData.str (dv_ixLm Str.empty (dv_var 3) (dv_var 4) (by omega))) (sz (by have := ho.len; simp; omega))) ?_ sc__law_mixed.nd)
    have l1 := cut_len rest none (some (n : Int))
    have l2 := cut_len rest (some ((n : Int) + 1)) none
    refine dss_cons (ds_asg 3 (dv_catLm (g := PyData.str) (dv_slLm (dv_var 3) do_none (do_some (dv_var 4))).frz (dv_slLm (dv_var 3) (do_some (dv_add (dv_var 4) dv_int)) do_none).frz (sz (by have := ho.len; omega))).frz (dss_nil ?_) sc__law_mixed.nd)
    rw [cut_to (n := n) rfl, cut_from (n := n + 1) (by omega), ← List.eraseIdx_eq_take_drop_succ, Int.toNat_natCast]
    have el : (rest.eraseIdx n).length = rest.length - 1 := List.length_eraseIdx_of_lt hn
    refine ⟨(o ++ [rest.getD n Str.empty], rest.eraseIdx n), ⟨?_, fun x hx => h2 x (List.mem_of_mem_eraseIdx hx), ?_⟩, by show (rest.eraseIdx n).length < rest.length; omega, .eq rfl (.eq rfl (.eq rfl (.eq rfl (.any .nil))))⟩
    · show (o ++ [_]).length + (rest.eraseIdx n).length = ns.length
      rw [List.length_append, el]; simp; omega
    · show o ++ [rest.getD n Str.empty] ++ mixL (ds.drop (o ++ [rest.getD n Str.empty]).length) (rest.eraseIdx n) = mixL ds ns
      rw [← h3, List.drop_eq_getElem_cons hol, List.append_assoc]
      congr 1
      show _ = if rest = [] then [] else rest.getD (ds[o.length] % (rest.length : Int)).toNat Str.empty :: mixL (ds.drop (o.length + 1)) (rest.eraseIdx (ds[o.length] % (rest.length : Int)).toNat)
      rw [if_neg hne, en, Int.toNat_natCast, List.length_append]; rfl
  · obtain ⟨o, rest⟩ := t
    obtain ⟨h1, h2, h3⟩ := ht
    have hne : rest = [] := of_decide_eq_true (by simpa using hb)
    subst hne
    refine dss_cons (ds_ret (dv_var 2) ?_)
    simp only [mixL_nil, List.append_nil] at h3
    show _ = Sv.d (pO (mixL ds ns))
    rw [← h3]
/-! ### _law_names -/
theorem sc__law_names : FnScope ["digits", "count", "names", "start"] ["digits", "count"] (defScope s__law_names) := ⟨rfl, rfl, rfl, by decide +kernel, rfl, by decide +kernel, by decide +kernel⟩
def names10 : List Str := ["a", "b", "c", "dd", "e", "fig", "zz", "h", "back", "up"]
def namesC (ds : List Int) (c : Nat) : List Str := (names10.drop (ds.getD 0 0 % 10).toNat ++ names10.take (ds.getD 0 0 % 10).toNat).take c
def namesV (ds : List Int) (c : Nat) : List Str := mixL (ds.drop 1) (namesC ds c)
theorem names10_nd : names10.Nodup := by decide +kernel
theorem names10_ok : ∀ x ∈ names10, PyData.strOk x = true := by decide +kernel
theorem namesC_sub (ds : List Int) (c : Nat) : ∀ x ∈ namesC ds c, x ∈ names10 := fun x hx => by
  have := List.mem_of_mem_take hx
  rcases List.mem_append.mp this with h | h
  · exact List.mem_of_mem_drop h
  · exact List.mem_of_mem_take h
theorem rot_perm {α : Type} (l : List α) (n : Nat) : (l.drop n ++ l.take n).Perm l := by
  have h := List.perm_append_comm (l₁ := l.take n) (l₂ := l.drop n)
  rw [List.take_append_drop] at h
  exact h.symm
theorem namesC_len {ds : List Int} {c : Nat} (h : c ≤ 10) : (namesC ds c).length = c := by
  unfold namesC
  rw [List.length_take, (rot_perm names10 _).length_eq]
  show min c 10 = c
  omega
theorem namesC_nd (ds : List Int) (c : Nat) : (namesC ds c).Nodup := ((rot_perm names10 _).nodup_iff.mpr names10_nd).sublist (List.take_sublist _ _)
theorem namesC_od {ds : List Int} {c : Nat} (h : c ≤ 10) : Od (namesC ds c) := ⟨by rw [namesC_len h]; omega, fun x hx => names10_ok x (namesC_sub ds c x hx)⟩
theorem namesV_perm {ds : List Int} {c : Nat} (h : c ≤ 10) (hd : 11 ≤ ds.length) : (namesV ds c).Perm (namesC ds c) := mixL_perm _ _ (by rw [namesC_len h, List.length_drop]; omega)
theorem namesV_len {ds : List Int} {c : Nat} (h : c ≤ 10) (hd : 11 ≤ ds.length) : (namesV ds c).length = c := (namesV_perm h hd).length_eq.trans (namesC_len h)
theorem namesV_nd {ds : List Int} {c : Nat} (h : c ≤ 10) (hd : 11 ≤ ds.length) : (namesV ds c).Nodup := (namesV_perm h hd).nodup_iff.mpr (namesC_nd ds c)
theorem namesV_od {ds : List Int} {c : Nat} (h : c ≤ 10) (hd : 11 ≤ ds.length) : Od (namesV ds c) := (namesC_od h).perm (namesV_perm h hd)
theorem namesV_mem {ds : List Int} {c : Nat} (h : c ≤ 10) (hd : 11 ≤ ds.length) : ∀ x ∈ namesV ds c, x ∈ names10 := fun x hx => namesC_sub ds c x ((namesV_perm h hd).mem_iff.mp hx)
def c__law_names : List Sv → Sv → Prop := fun ss r => ∃ ds, ∃ c : Nat, ss = [.d (.list (ds.map .int)), .d (.int c)] ∧ c ≤ 10 ∧ 11 ≤ ds.length ∧ ds.length ≤ 1000 ∧ r = .d (pO (namesV ds c))
theorem fd__law_names (T : Td K mg "_law_names" s__law_names ["digits", "count"]) (G : Fd P w K mg base 1 "_law_mixed" ["digits", "names"] c__law_mixed) : Fd P w K mg base 2 "_law_names" ["digits", "count"] c__law_names := by
  refine fd_mk T sc__law_names (by rintro ss r ⟨ds, c, rfl, _⟩; rfl) fun f cdv A outer s H E hr ss r ⟨ds, c, e1, hc, hd, hd2, e2⟩ => ?_
  subst e1 e2
  refine dss_cons (ds_asg 2 (s := .d (.list (names10.map .str))) (DV.frz (dv_lst (da_cons dv_str (da_cons dv_str (da_cons dv_str (da_cons dv_str (da_cons dv_str (da_cons dv_str (da_cons dv_str (da_cons dv_str (da_cons dv_str (da_cons dv_str da_nil)))))))))))) ?_ sc__law_names.nd)
  refine dss_cons (ds_asg 3 (dv_mod (dv_ixLm 0 (dv_var 0) dv_int (by omega)) dv_int (by decide)) ?_ sc__law_names.nd)
  obtain ⟨n, en⟩ : ∃ n : Nat, ds.getD 0 0 % 10 = n := ⟨(ds.getD 0 0 % 10).toNat, by omega⟩
  have l1 := cut_len names10 (some (n : Int)) none
  have l2 := cut_len names10 none (some (n : Int))
  have l3 : names10.length = 10 := rfl
  refine dss_cons (ds_asg 2 (s := .d (.list ((namesC ds c).map .str))) (dv_eq' (DV.frz (dv_slLm (DV.frz (dv_catLm (g := PyData.str) (DV.frz (dv_slLm (dv_var 2) (do_some (dv_var 3)) do_none)) (DV.frz (dv_slLm (dv_var 2) do_none (do_some (dv_var 3)))) ?_)) do_none (do_some (dv_var 1)))) ?_) ?_ sc__law_names.nd)
  · rw [show (ds.getD (Int.toNat 0) 0 % 10) = n from en]
    exact sz (by omega)
  · rw [show (ds.getD (Int.toNat 0) 0 % 10) = n from en, cut_to (n := c) rfl, cut_from (n := n) rfl, cut_to (n := n) rfl]
    unfold namesC
    rw [en, Int.toNat_natCast]
  refine dss_cons (ds_ret (dv_call G hr (dc_cons (DV.frz (dv_slLm (dv_var 0) (do_some dv_int) do_none)) (dc_cons (dv_var 2) dc_nil)) ⟨_, namesC ds c, _, rfl, .l, namesC_od hc, ?_, ?_, rfl⟩) ?_)
  · rw [namesC_len hc, cut_from (i := 1) (n := 1) rfl, List.length_drop]; omega
  · rw [cut_from (i := 1) (n := 1) rfl, List.length_drop]; omega
  · rw [cut_from (i := 1) (n := 1) rfl]; rfl
/-! ### _law_command -/
theorem sc__law_command : FnScope ["digits", "order"] ["digits", "order"] (defScope s__law_command) := ⟨rfl, rfl, rfl, by decide +kernel, rfl, by decide +kernel, by decide +kernel⟩
def cmdV (ds : List Int) (o : List Str) : Kd × Str := (kdL.getD (ds.getD 0 0 % 4).toNat .front, o.getD (ds.getD 1 0 % (o.length : Int)).toNat Str.empty)
theorem cmdV_mem {ds : List Int} {o : List Str} (h : o ≠ []) : (cmdV ds o).2 ∈ o := by
  have hp : 0 < o.length := List.length_pos_iff.mpr h
  have h1 := Int.emod_nonneg (ds.getD 1 0) (show (o.length : Int) ≠ 0 by omega)
  have h2 := Int.emod_lt_of_pos (ds.getD 1 0) (show 0 < (o.length : Int) by omega)
  exact getD_mem _ (by omega)
def c__law_command : List Sv → Sv → Prop := fun ss r => ∃ ds o, ss = [.d (.list (ds.map .int)), .d (pO o)] ∧ 2 ≤ ds.length ∧ o ≠ [] ∧ r = .d (pC (cmdV ds o))
theorem fd__law_command (T : Td K mg "_law_command" s__law_command ["digits", "order"]) (B : Bs mg) : Fd P w K mg base 1 "_law_command" ["digits", "order"] c__law_command := by
  refine fd_mk T sc__law_command (by rintro ss r ⟨ds, o, rfl, _⟩; rfl) fun f cdv A outer s H E hr ss r ⟨ds, o, e1, hd, ho, e2⟩ => ?_
  subst e1 e2
  have hp : 0 < o.length := List.length_pos_iff.mpr ho
  have h1 := Int.emod_nonneg (ds.getD 1 0) (show (o.length : Int) ≠ 0 by omega)
  have h2 := Int.emod_lt_of_pos (ds.getD 1 0) (show 0 < (o.length : Int) by omega)
  refine dss_cons (ds_ret (dv_eq' (dv_tup (da_cons (dv_ixLm (g := fun k => PyData.str (ks k)) (xs := kdL) Kd.front (DV.frz (dv_lst (da_cons dv_str (da_cons dv_str (da_cons dv_str (da_cons dv_str da_nil)))))) (dv_mod (dv_ixLm 0 (dv_var 0) dv_int (by omega)) dv_int (by decide)) ?_)
    (da_cons (dv_ixTm Str.empty (dv_var 1) (dv_mod (dv_ixLm 0 (dv_var 0) dv_int (by omega)) (dv_len B.L (dv_var 1) .t) ?_) ?_) da_nil))) ?_) rfl)
  · show 0 ≤ ds.getD (Int.toNat 0) 0 % 4 ∧ ds.getD (Int.toNat 0) 0 % 4 < 4
    omega
  · rw [List.length_map]; omega
  · rw [List.length_map]; exact ⟨h1, h2⟩
  · rw [List.length_map]; rfl
/-! ### _law_script -/
theorem sc__law_script : FnScope ["digits", "order", "size", "k"] ["digits", "order", "size"] (defScope s__law_script) := ⟨rfl, rfl, rfl, by decide +kernel, rfl, by decide +kernel, by decide +kernel⟩
def scriptV (ds : List Int) (o : List Str) (n : Nat) : List (Kd × Str) := (List.range (ds.getD 0 0 % ((n : Int) + 1)).toNat).map fun k => cmdV ((ds.drop (1 + 2 * k)).take 2) o
theorem scriptV_mem {ds : List Int} {o : List Str} {n : Nat} (h : o ≠ []) : ∀ c ∈ scriptV ds o n, c.2 ∈ o := fun c hc => by
  obtain ⟨k, _, rfl⟩ := List.mem_map.mp hc
  exact cmdV_mem h
theorem scriptV_len {ds : List Int} {o : List Str} {n : Nat} : (scriptV ds o n).length ≤ n := by
  unfold scriptV
  rw [List.length_map, List.length_range]
  have := Int.emod_lt_of_pos (ds.getD 0 0) (show 0 < (n : Int) + 1 by omega)
  omega
def c__law_script : List Sv → Sv → Prop := fun ss r => ∃ ds o, ∃ n : Nat, ss = [.d (.list (ds.map .int)), .d (pO o), .d (.int n)] ∧ n ≤ 100 ∧ 1 + 2 * n ≤ ds.length ∧ o ≠ [] ∧ r = .d (pS (scriptV ds o n))
theorem fd__law_script (T : Td K mg "_law_script" s__law_script ["digits", "order", "size"]) (B : Bs mg) (G : Fd P w K mg base 1 "_law_command" ["digits", "order"] c__law_command) : Fd P w K mg base 2 "_law_script" ["digits", "order", "size"] c__law_script := by
  refine fd_mk T sc__law_script (by rintro ss r ⟨ds, o, n, rfl, _⟩; rfl) fun f cdv A outer s H E hr ss r ⟨ds, o, n, e1, hn, hd, ho, e2⟩ => ?_
  subst e1 e2
  have m1 := Int.emod_nonneg (ds.getD 0 0) (show (n : Int) + 1 ≠ 0 by omega)
  have m2 := Int.emod_lt_of_pos (ds.getD 0 0) (show 0 < (n : Int) + 1 by omega)
  refine dss_cons (ds_ret (dv_eq' (dv_tupL B.Tu (DV.frz (dv_lcr pC (fun _ => true) (fun k => cmdV ((ds.drop (1 + 2 * k)).take 2) o) (n := (ds.getD 0 0 % ((n : Int) + 1)).toNat) ⟨DIS.nr (di_rng1 B.R (dv_mod (dv_ixLm 0 (dv_var 0) dv_int (by omega)) (dv_add (dv_var 2) dv_int) (by omega)) ?_) 3,
    blkOk_by (N := ["digits", "order", "size", "k"]) (sc := defScope s__law_script) (own := [("k", 3)]) (by decide +kernel), fun _ h => h, fun _ _ _ _ _ => pgOne sc__law_script.nd, fun k hk _ _ _ _ _ => dts_nil, fun k hk _ _ _ _ _ _ => ?_⟩ (sz (by omega)) sc__law_script.nd))) ?_) rfl)
  · show -(2 ^ 62) ≤ ds.getD 0 0 % ((n : Int) + 1) ∧ ds.getD 0 0 % ((n : Int) + 1) < 2 ^ 62
    exact ⟨by omega, by omega⟩
  · have e : cut ds (some (1 + 2 * (0 + (k : Int)))) (some (3 + 2 * (0 + (k : Int)))) = (ds.drop (1 + 2 * k)).take 2 := by
      rw [cut_mid (n := 1 + 2 * k) (m := 3 + 2 * k) (by omega) (by omega)]
      congr 1; omega
    refine dv_call G hr (dc_cons (DV.frz (dv_slLm (dv_var 0) (do_some (dv_add dv_int (dv_mul dv_int (dv_var 3) (.inl (by decide))))) (do_some (dv_add dv_int (dv_mul dv_int (dv_var 3) (.inl (by decide))))))) (dc_cons (dv_var 1) dc_nil)) ⟨_, o, rfl, ?_, ho, ?_⟩
    · rw [e, List.length_take, List.length_drop]; omega
    · rw [e]
  · rw [filter_yes]; rfl
/-! ### _law_paths -/
abbrev n__law_paths : List Str := ["value", "paths", "index", "part", "path"]
theorem sc__law_paths : FnScope n__law_paths ["value"] (defScope s__law_paths) := ⟨rfl, rfl, rfl, by decide +kernel, rfl, by decide +kernel, by decide +kernel⟩
def c_pathsN (n : Nat) : List Sv → Sv → Prop := fun ss r => ∃ d, ss = [.d d] ∧ Vb 12 n d ∧ r = .d (.list ((pathsD d).map pPh))
def c__law_paths : List Sv → Sv → Prop := c_pathsN 4
def forTg : Stmt → Expr
  | .For t _ _ _ _ => t
  | _ => exN
def forIt : Stmt → Expr
  | .For _ i _ _ _ => i
  | _ => exN
theorem paths_leaf {d : D} (h : isSeqD d = false) : pathsD d = [[]] := by cases d <;> first | rfl | cases h
theorem paths_seq {d : D} (h : isSeqD d = true) : pathsD d = [] :: pathsL 0 (itemsD d) := by cases d <;> first | rfl | cases h
theorem seq_of {d : D} (h : isSeqD d = true) : IsSeq d (itemsD d) := by cases d <;> first | exact .inl rfl | exact .inr rfl | cases h
theorem paths_rec (T : Td K mg "_law_paths" s__law_paths ["value"]) (B : Bs mg) : ∀ n, n ≤ 4 → Fd P w K mg base (n + 1) "_law_paths" ["value"] (c_pathsN n) := by
  intro n
  induction n with
  | zero =>
    intro _
    refine fd_mk T sc__law_paths (by rintro ss r ⟨d, rfl, _⟩; rfl) fun f cdv A outer s0 H E hr ss r ⟨d, e1, hv, e2⟩ => ?_
    subst e1 e2
    have hs : isSeqD d = false := by cases hv <;> rfl
    refine dss_cons (ds_asg 1 (s := .d (.list (([[]] : List (List Nat)).map pPh))) (DV.frz (dv_lst1 pPh (x := ([] : List Nat)) (dv_tup da_nil))) ?_ sc__law_paths.nd)
    refine dss_cons (ds_if (k := false) (dt_eq (dt_val (dv_isi2 B.Is (dv_var 0) B.Li B.Tu (kit_seq d))) hs) (fun h => by cases h) fun _ => dss_nil ?_)
    refine dss_cons (ds_ret (dv_var 1) ?_)
    rw [paths_leaf hs]; rfl
  | succ n ih =>
    intro hn
    have G := ih (by omega)
    refine fd_mk T sc__law_paths (by rintro ss r ⟨d, rfl, _⟩; rfl) fun f cdv A outer s0 H E hr ss r ⟨d, e1, hv, e2⟩ => ?_
    subst e1 e2
    refine dss_cons (ds_asg 1 (s := .d (.list (([[]] : List (List Nat)).map pPh))) (DV.frz (dv_lst1 pPh (x := ([] : List Nat)) (dv_tup da_nil))) ?_ sc__law_paths.nd)
    by_cases hs : isSeqD d = true
    · obtain ⟨k0, e0, hl, hi⟩ := hv.items hs
      have e0 : n = k0 := by omega
      subst e0
      have p13 : ∀ q : D, Vb 12 n q → (pathsD q).length ≤ 28561 := fun q hq => Nat.le_trans (pathsD_len hq) (Nat.le_trans (Nat.pow_le_pow_right (by decide) (show n ≤ 4 by omega)) (by decide))
      have en := seq_of hs
      have ep := paths_seq hs
      rw [ep]
      generalize itemsD d = ds at hl hi en
      have hlen : ∀ k, (pathsL 0 (ds.take k)).length ≤ 12 * 28561 := fun k => by
        have h1 := pathsL_len (c := 28561) (ds.take k) 0 fun e he => p13 e (hi e (List.mem_of_mem_take he))
        exact Nat.le_trans h1 (Nat.mul_le_mul_right _ (by rw [List.length_take]; omega))
      have loop : DS (cxOf CX0 P w K mg base n__law_paths "_law_paths" (defScope s__law_paths) f cdv A outer s0 H E).nox (stN 0 (inFor (stN 1 (defBody s__law_paths)))) [some (.d d), some (.d (.list (([[]] : List (List Nat)).map pPh))), none, none, none] ((bodyO (.d (.list (([] :: pathsL 0 ds).map pPh)))).to fun Γ' => Sub [some (.d d), some (.d (.list (([] :: pathsL 0 ds).map pPh))), none, none, none] Γ') := by
        have body : ∀ (hi2 : DI (cxOf CX0 P w K mg base n__law_paths "_law_paths" (defScope s__law_paths) f cdv A outer s0 H E).nox (forTg (stN 0 (inFor (stN 1 (defBody s__law_paths))))) (forIt (stN 0 (inFor (stN 1 (defBody s__law_paths))))) [some (.d d), some (.d (.list (([[]] : List (List Nat)).map pPh))), none, none, none] (gTwo K 2 3) ds.length (ye 2 3 (fun x => x) ds PyData.none) [2, 3]),
            DS (cxOf CX0 P w K mg base n__law_paths "_law_paths" (defScope s__law_paths) f cdv A outer s0 H E).nox (stN 0 (inFor (stN 1 (defBody s__law_paths)))) [some (.d d), some (.d (.list (([[]] : List (List Nat)).map pPh))), none, none, none] ((bodyO (.d (.list (([] :: pathsL 0 ds).map pPh)))).to fun Γ' => Sub [some (.d d), some (.d (.list (([] :: pathsL 0 ds).map pPh))), none, none, none] Γ') := fun hi2 => by
          refine ds_fp (fun k => [some (.d d), some (.d (.list (([] :: pathsL 0 (ds.take k)).map pPh))), none, none, none]) hi2 (pgTwo sc__law_paths.nd) (.eq rfl (.eq (by rw [List.take_zero]; rfl) (.any (.any (.any .nil))))) (fun k hk => ?_) ?_
          · unfold ye
            rw [getD_eq _ hk]
            have hk2 := hi _ (List.getElem_mem hk)
            have es : pathsL 0 (ds.take (k + 1)) = pathsL 0 (ds.take k) ++ (pathsD ds[k]).map (k :: ·) := by
              rw [List.take_add_one, List.getElem?_eq_getElem hk, pathsL_append]
              show _ ++ ((pathsD ds[k]).map _ ++ []) = _
              rw [List.append_nil, List.length_take, Nat.zero_add, Nat.min_eq_left (by omega)]
            rw [es]
            have h1 := hlen k
            have h2 := p13 _ hk2
            refine dss_cons (ds_asg 1 (s := .d (.list (([] :: (pathsL 0 (ds.take k) ++ (pathsD ds[k]).map (k :: ·))).map pPh))) (dv_eq' (DV.frz (dv_catLm (g := pPh) (dv_var 1) (DV.frz (dv_lcm pPh [] (fun _ => true) (fun q => k :: q) ⟨DIS.nm (di_list (dv_call G hr (dc_cons (dv_var 3) dc_nil) ⟨_, rfl, hk2, rfl⟩)) 4 [], blkOk_by (N := n__law_paths) (sc := defScope s__law_paths) (own := [("path", 4)]) (by decide +kernel), fun _ h => h, fun _ _ _ _ _ => pgOne sc__law_paths.nd, fun i hi _ _ _ _ _ => dts_nil, fun i hi _ _ _ _ _ _ => dv_catTm (g := fun (n : Nat) => PyData.int (n : Int)) (dv_tup1 (fun (n : Nat) => PyData.int (n : Int)) (dv_var 2)) (dv_var 4) (sz ?sz1)⟩ (sz (by omega)) sc__law_paths.nd)) (sz ?_))) ?_) (dss_nil ?_) sc__law_paths.nd)
            case sz1 =>
              exact Nat.le_trans (Nat.add_le_add (Nat.le_refl 1) (path_len hk2 (getD_mem [] hi))) (by omega)
            · rw [filter_yes, List.length_map, List.length_cons]; omega
            · rw [filter_yes]; rfl
            · exact .eq rfl (.eq rfl (.any (.any (.any .nil))))
          · rw [List.take_length]
            exact .eq rfl (.eq rfl (.any (.any (.any .nil))))
        rcases en with en | en
        · exact body (DIP.em (by rw [List.map_id']; exact di_enumL B.En (dv_eq' (dv_var 0) en)) 2 3 PyData.none)
        · exact body (DIP.em (by rw [List.map_id']; exact di_enumT B.En (dv_eq' (dv_var 0) en)) 2 3 PyData.none)
      refine dss_cons (ds_if (k := true) (dt_eq (dt_val (dv_isi2 B.Is (dv_var 0) B.Li B.Tu (kit_seq d))) hs) (fun _ => ?_) (fun h => by cases h))
      refine dss_cons (DS.mono loop (fun Γ h => ?_) (fun s h => h) (fun Γ h => h) (fun Γ h => h))
      refine dss_nil (dss_sub h ?_)
      exact dss_cons (ds_ret (dv_var 1) rfl)
    · have hs : isSeqD d = false := by simpa using hs
      refine dss_cons (ds_if (k := false) (dt_eq (dt_val (dv_isi2 B.Is (dv_var 0) B.Li B.Tu (kit_seq d))) hs) (fun h => by cases h) fun _ => dss_nil ?_)
      refine dss_cons (ds_ret (dv_var 1) ?_)
      rw [paths_leaf hs]; rfl
theorem fd__law_paths (T : Td K mg "_law_paths" s__law_paths ["value"]) (B : Bs mg) : Fd P w K mg base 5 "_law_paths" ["value"] c__law_paths := by
  exact paths_rec T B 4 (Nat.le_refl _)
/-! ### _law_other_value -/
theorem sc__law_other_value : FnScope ["value", "digits", "options"] ["value", "digits"] (defScope s__law_other_value) := ⟨rfl, rfl, rfl, by decide +kernel, rfl, by decide +kernel, by decide +kernel⟩
def c__law_other_value : List Sv → Sv → Prop := fun ss r => ∃ d g, ss = [.d d, .d (.list (g.map .int))] ∧ 5 ≤ g.length ∧ (∃ n, Vd n d) ∧ r = .d (otherV d g)
theorem fd__law_other_value (T : Td K mg "_law_other_value" s__law_other_value ["value", "digits"]) (B : Bs mg) : Fd P w K mg base 1 "_law_other_value" ["value", "digits"] c__law_other_value := by
  refine fd_mk T sc__law_other_value (by rintro ss r ⟨d, g, rfl, _⟩; rfl) fun f cdv A outer s H E hr ss r ⟨d, g, e1, hg, ⟨n, hv⟩, e2⟩ => ?_
  subst e1 e2
  refine dss_cons (ds_asg 2 (s := .d (.list (baseO d))) (DV.frz (dv_lst (da_cons dv_non (da_cons dv_bl (da_cons dv_bl (da_cons dv_int (da_cons (dv_sub dv_int dv_int) (da_cons (dv_pow dv_int dv_int (by decide)) (da_cons dv_str (da_cons dv_str (da_cons (dv_tup da_nil) (da_cons (dv_lst da_nil).frz (da_cons (dv_tup (da_one (dv_var 0))) (da_cons (dv_lst (da_one (dv_var 0))).frz (da_cons (dv_tup (da_one dv_int)) (da_cons (dv_tup (da_two dv_int dv_int)) (da_two dv_int dv_int))))))))))))))) (by show 16 ≤ sizeLine; decide))) ?_ sc__law_other_value.nd)
  refine dss_cons (ds_ifp [some (.d d), some (.d (.list (g.map .int))), some (.d (.list (intO d ++ baseO d)))] (k := isIntD d && !isBoolD d) (DW.t (dw_and (dt_val (dv_isi B.Is (dv_var 0) B.In (kit_int d))) fun _ => dw_and1 (dt_not (dt_val (dv_isi B.Is (dv_var 0) B.Bo (kit_bol d)))))) (fun h => ?_) (fun h => dss_nil ?_) ?_)
  · cases d with
    | int v =>
      refine dss_cons (ds_asg 2 (s := .d (.list (intO (.int v) ++ baseO (.int v)))) (DV.frz (dv_catL (DV.frz (dv_lst (da_cons (dv_add (dv_var 0) dv_int) (da_cons (dv_sub (dv_var 0) dv_int) (da_cons (dv_boolI B.Bo (dv_var 0)) (da_cons (dv_add (dv_var 0) dv_int) (da_two (dv_sub (dv_var 0) dv_int) (dv_boolI B.Bo (dv_var 0))))))) (by show 6 ≤ sizeLine; decide))) (dv_var 2) (by show 6 + 16 ≤ sizeLine; decide))) (dss_nil ?_) sc__law_other_value.nd)
      exact .eq rfl (.eq rfl (.eq rfl .nil))
    | _ => cases h
  · have e : intO d = [] := by cases d <;> first | rfl | cases h
    rw [e]
    exact .eq rfl (.eq rfl (.eq rfl .nil))
  have l1 : (intO d ++ baseO d).length ≤ 22 := by cases d <;> simp [intO, baseO]
  generalize ei : intO d ++ baseO d = bs at l1
  have eo : optsV d = seqO d ++ bs := by unfold optsV; rw [ei]
  refine dss_cons (ds_ifp [some (.d d), some (.d (.list (g.map .int))), some (.d (.list (optsV d)))] (k := isSeqD d) (dt_val (dv_isi2 B.Is (dv_var 0) B.Li B.Tu (kit_seq d))) (fun h => ?_) (fun h => dss_nil ?_) ?_)
  · rw [eo]
    have es : seqO d = [.list (itemsD d), .tuple (itemsD d), .tuple (itemsD d).reverse, .list (itemsD d)] := by unfold seqO; rw [if_pos h]
    rw [es]
    cases d with
    | list ds =>
      refine dss_cons (ds_asg 2 (s := .d (.list ([.list ds, .tuple ds, .tuple ds.reverse, .list ds] ++ bs))) (DV.frz (dv_catL (DV.frz (dv_lst (da_cons (dv_list B.Li (dv_var 0) .l).frz (da_three (dv_tupL B.Tu (dv_var 0)) (dv_tupL B.Tu (dv_revL (dv_var 0)).frz) (dv_list B.Li (dv_var 0) .l).frz)) (by show 4 ≤ sizeLine; decide))) (dv_var 2) (sz (by show 4 + bs.length ≤ _; omega)))) (dss_nil ?_) sc__law_other_value.nd)
      exact .eq rfl (.eq rfl (.eq rfl .nil))
    | tuple ds =>
      refine dss_cons (ds_asg 2 (s := .d (.list ([.list ds, .tuple ds, .tuple ds.reverse, .list ds] ++ bs))) (DV.frz (dv_catL (DV.frz (dv_lst (da_cons (dv_list B.Li (dv_var 0) .t).frz (da_three (dv_tupT B.Tu (dv_var 0)) (dv_tupT B.Tu (dv_revT (dv_var 0))) (dv_list B.Li (dv_var 0) .t).frz)) (by show 4 ≤ sizeLine; decide))) (dv_var 2) (sz (by show 4 + bs.length ≤ _; omega)))) (dss_nil ?_) sc__law_other_value.nd)
      exact .eq rfl (.eq rfl (.eq rfl .nil))
    | _ => cases h
  · have e : seqO d = [] := by unfold seqO; rw [if_neg (by rw [h]; exact Bool.false_ne_true)]
    rw [eo, e]
    exact .eq rfl (.eq rfl (.eq rfl .nil))
  have ol := optsV_len d
  have q := modN (i := g.getD 1 0) (n := (optsV d).length) (by omega)
  exact dss_cons (ds_ret (dv_pick (dv_var 2) (dv_mod (dv_atL 1 0 (dv_var 1) dv_int (by omega)) (dv_len B.L (dv_var 2) .l) (by omega)) q) rfl)
/-! ### _law_moved_item -/
theorem sc__law_moved_item : FnScope ["items", "index", "digits", "target", "rest"] ["items", "index", "digits"] (defScope s__law_moved_item) := ⟨rfl, rfl, rfl, by decide +kernel, rfl, by decide +kernel, by decide +kernel⟩
def c__law_moved_item : List Sv → Sv → Prop := fun ss r => ∃ ds, ∃ i : Nat, ∃ g, ss = [.d (.list ds), .d (.int i), .d (.list (g.map .int))] ∧ i < ds.length ∧ ds.length ≤ 1000 ∧ 5 ≤ g.length ∧ r = .own (mvItV ds i g)
theorem fd__law_moved_item (T : Td K mg "_law_moved_item" s__law_moved_item ["items", "index", "digits"]) (B : Bs mg) : Fd P w K mg base 1 "_law_moved_item" ["items", "index", "digits"] c__law_moved_item := by
  refine fd_mk T sc__law_moved_item (by rintro ss r ⟨ds, i, g, rfl, _⟩; rfl) fun f cdv A outer s H E hr ss r ⟨ds, i, g, e1, hi, hl, hg, e2⟩ => ?_
  subst e1 e2
  have q := modN (i := g.getD 2 0) (n := ds.length) (by omega)
  refine dss_cons (ds_asg 3 (dv_mod (dv_atL 2 0 (dv_var 2) dv_int (by omega)) (dv_len B.L (dv_var 0) .l) (by omega)) ?_ sc__law_moved_item.nd)
  unfold mvItV
  obtain ⟨t, et⟩ : ∃ t : Nat, g.getD 2 0 % (ds.length : Nat) = t := ⟨(g.getD 2 0 % (ds.length : Nat)).toNat, by omega⟩
  rw [et, Int.toNat_natCast]
  refine dss_cons (ds_if (k := decide (g.getD 0 0 % 3 = 0)) (dt_cp cp_eqI (dv_mod (dv_atL 0 0 (dv_var 2) dv_int (by omega)) dv_int (by decide)) dv_int (nomark _)) (fun h => ?_) (fun h => dss_nil ?_))
  · rw [if_pos (of_decide_eq_true h)]
    exact dss_cons (ds_ret (dv_catL (dv_toD i (dv_var 0) (dv_var 1) rfl).frz (dv_fromD (i + 1) (dv_var 0) (dv_add (dv_var 1) dv_int) (by omega)).frz (sz (by rw [List.length_take, List.length_drop]; omega))) rfl)
  rw [if_neg (of_decide_eq_false h)]
  refine dss_cons (ds_if (k := decide (g.getD 0 0 % 3 = 1)) (dt_cp cp_eqI (dv_mod (dv_atL 0 0 (dv_var 2) dv_int (by omega)) dv_int (by decide)) dv_int (nomark _)) (fun h => ?_) (fun h => dss_nil ?_))
  · rw [if_pos (of_decide_eq_true h)]
    exact dss_cons (ds_ret (dv_catL (dv_catL (dv_toD t (dv_var 0) (dv_var 3) rfl).frz (dv_lst (da_one (dv_pickN i (dv_var 0) (dv_var 1) hi rfl))).frz (sz (by rw [List.length_take, List.length_cons, List.length_nil]; omega))).frz (dv_fromD t (dv_var 0) (dv_var 3) rfl).frz (sz (by rw [List.length_append, List.length_take, List.length_drop, List.length_cons, List.length_nil]; omega))) rfl)
  rw [if_neg (of_decide_eq_false h)]
  refine dss_cons (ds_asg 4 (s := .d (.list (ds.take i ++ ds.drop (i + 1)))) (DV.frz (dv_catL (dv_toD i (dv_var 0) (dv_var 1) rfl).frz (dv_fromD (i + 1) (dv_var 0) (dv_add (dv_var 1) dv_int) (by omega)).frz (sz (by rw [List.length_take, List.length_drop]; omega)))) ?_ sc__law_moved_item.nd)
  have rl : (ds.take i ++ ds.drop (i + 1)).length ≤ 1000 := by rw [List.length_append, List.length_take, List.length_drop]; omega
  generalize ds.take i ++ ds.drop (i + 1) = rs at rl
  exact dss_cons (ds_ret (dv_catL (dv_catL (dv_toD t (dv_var 4) (dv_var 3) rfl).frz (dv_lst (da_one (dv_pickN i (dv_var 0) (dv_var 1) hi rfl))).frz (sz (by rw [List.length_take, List.length_cons, List.length_nil]; omega))).frz (dv_fromD t (dv_var 4) (dv_var 3) rfl).frz (sz (by rw [List.length_append, List.length_take, List.length_drop, List.length_cons, List.length_nil]; omega))) rfl)
/-! ### _law_change_at -/
abbrev n__law_change_at : List Str := ["value", "path", "digits", "items"]
theorem sc__law_change_at : FnScope n__law_change_at ["value", "path", "digits"] (defScope s__law_change_at) := ⟨rfl, rfl, rfl, by decide +kernel, rfl, by decide +kernel, by decide +kernel⟩
def c_chgN (n : Nat) : List Sv → Sv → Prop := fun ss r => ∃ d q g, ss = [.d d, .d (pPh q), .d (.list (g.map .int))] ∧ q ∈ pathsD d ∧ q.length ≤ n ∧ n ≤ 4 ∧ 5 ≤ g.length ∧ (∃ k, Vd k d) ∧ r = .d (chgV g q d)
def c__law_change_at : List Sv → Sv → Prop := c_chgN 4
theorem seq_of' {d : D} (h : isSeqD d = true) : IsSeq d (itemsD d) := by cases d <;> first | exact .inl rfl | exact .inr rfl | cases h
theorem sh_pPh (q : List Nat) : Sh 64 (pPh q) := (sh_tup (n := 0) (sh_map fun _ _ => sh_int)).up
theorem chg_rec (T : Td K mg "_law_change_at" s__law_change_at ["value", "path", "digits"]) (B : Bs mg) (G1 : Fd P w K mg base 1 "_law_other_value" ["value", "digits"] c__law_other_value) (G2 : Fd P w K mg base 1 "_law_moved_item" ["items", "index", "digits"] c__law_moved_item) :
    ∀ n, Fd P w K mg base (n + 2) "_law_change_at" ["value", "path", "digits"] (c_chgN n) := by
  intro n
  induction n with
  | zero =>
    refine fd_mk T sc__law_change_at (by rintro ss r ⟨d, q, g, rfl, _⟩; rfl) fun f cdv A outer s0 H E hr ss r ⟨d, q, g, e1, hq, hn, hn4, hg, ⟨k, hv⟩, e2⟩ => ?_
    subst e1 e2
    match q, hn with
    | [], _ =>
    refine dss_cons (ds_if (k := true) (dt_eq (dt_cp (cq_eq hr (sh_pPh _) (sh_pPh [])) (dv_var 1) (dv_tup da_nil) (nomark _)) (emb_tup emb_nat [] [])) (fun _ => ?_) (fun h => by cases h))
    exact dss_cons (ds_ret (dv_call G1 (hr.mono (by omega)) (dc_cons (dv_var 0) (dc_cons (dv_var 2) dc_nil)) ⟨d, g, rfl, hg, ⟨k, hv⟩, rfl⟩) rfl)
  | succ n ih =>
    refine fd_mk T sc__law_change_at (by rintro ss r ⟨d, q, g, rfl, _⟩; rfl) fun f cdv A outer s0 H E hr ss r ⟨d, q, g, e1, hq, hn, hn4, hg, ⟨k, hv⟩, e2⟩ => ?_
    subst e1 e2
    match q, hn, hq with
    | [], _, _ =>
      refine dss_cons (ds_if (k := true) (dt_eq (dt_cp (cq_eq hr (sh_pPh _) (sh_pPh [])) (dv_var 1) (dv_tup da_nil) (nomark _)) (emb_tup emb_nat [] [])) (fun _ => ?_) (fun h => by cases h))
      exact dss_cons (ds_ret (dv_call G1 (hr.mono (by omega)) (dc_cons (dv_var 0) (dc_cons (dv_var 2) dc_nil)) ⟨d, g, rfl, hg, ⟨k, hv⟩, rfl⟩) rfl)
    | i :: q, hn, hq =>
      obtain ⟨h1, h2, h3⟩ := mem_pathsD hq
      obtain ⟨k0, rfl, hl, hi⟩ := hv.items h1
      have hn : q.length ≤ n := Nat.le_of_succ_le_succ hn
      refine dss_cons (ds_if (k := false) (dt_eq (dt_cp (cq_eq hr (sh_pPh _) (sh_pPh [])) (dv_var 1) (dv_tup da_nil) (nomark _)) (emb_tup emb_nat (i :: q) [])) (fun h => by cases h) fun _ => dss_nil ?_)
      refine dss_cons (ds_asg 3 (dv_list B.Li (dv_var 0) (seq_of' h1)) ?_ sc__law_change_at.nd)
      have hsub := hi _ (getD_mem PyData.none h2)
      show DSs _ _ _ (bodyO (.d (wrapD d (if q = [] ∧ g.getD 3 0 % 2 = 0 then mvItV (itemsD d) i g else (itemsD d).set i (chgV g q ((itemsD d).getD i .none))))))
      have w1 : ∀ ds : List D, wrapD d ds = if isListD d = true then .list ds else .tuple ds := fun ds => rfl
      have klst := kit_lst d
      generalize wrapD d = W at w1
      generalize itemsD d = ds at h2 h3 hl hi hsub
      have h0 : (0 : Nat) < (i :: q).length := Nat.succ_pos _
      have at0 : ∀ {pos : Pos} {e : Expr} {b : Expr} {Γ : DL.Env} {X : Cx}, DE X e Γ (pPh (i :: q)) → DE X b Γ (.int 0) → PlainIx b → DE X (.Subscript e b pos) Γ (.int (i : Nat)) := fun {pos e b Γ X} a1 a2 a3 => by
        have z := dv_atT (pos := pos) (g := fun (n : Nat) => PyData.int (n : Int)) 0 0 a1 a2 h0 rfl a3
        exact z
      refine dss_cons (ds_ifp [some (.d d), some (.d (pPh (i :: q))), some (.d (.list (g.map .int))), some (.d (.list (if q = [] ∧ g.getD 3 0 % 2 = 0 then mvItV ds i g else ds.set i (chgV g q (ds.getD i .none)))))] (k := decide (q = [] ∧ g.getD 3 0 % 2 = 0)) (dt_eq (DW.t (dw_and (dt_cp cp_eqI (dv_lenT (g := fun (n : Nat) => PyData.int (n : Int)) B.L (dv_var 1)) dv_int (nomark _)) fun _ => dw_and1 (dt_cp cp_eqI (dv_mod (dv_atL 3 0 (dv_var 2) dv_int (by omega)) dv_int (by decide)) dv_int (nomark _)))) ?_) (fun h => ?_) (fun h => ?_) ?_)
      · have e : decide ((((i :: q).length : Nat) : Int) = 1) = decide (q = []) := decide_eq_decide.mpr (by
          rw [List.length_cons]
          constructor
          · intro h
            exact List.length_eq_zero_iff.mp (by omega)
          · intro h
            subst h; rfl)
        rw [e]
        by_cases a1 : q = [] <;> by_cases a2 : g.getD 3 0 % 2 = 0 <;> simp [a1, a2]
      · rw [if_pos (of_decide_eq_true h)]
        refine dss_frz 3 rfl ?_
        refine dss_cons (ds_asg 3 (DV.frz (dv_call G2 (hr.mono (by omega)) (dc_cons (dv_var 3) (dc_cons (at0 (dv_var 1) dv_int fun _ _ => rfl) (dc_cons (dv_var 2) dc_nil))) ⟨ds, i, g, rfl, h2, hl, hg, rfl⟩)) (dss_nil ?_) sc__law_change_at.nd)
        exact .eq rfl (.eq rfl (.eq rfl (.eq rfl .nil)))
      · rw [if_neg (of_decide_eq_false h)]
        have hget : ds[i]? = some (ds.getD i .none) := by rw [List.getElem?_eq_getElem h2, getD_eq _ h2]
        refine dss_cons (ds_setL 3 (n := i) rfl (at0 (dv_var 1) dv_int fun _ _ => rfl) (dv_call ih hr (dc_cons (dv_ixOwn 3 rfl (at0 (dv_var 1) dv_int fun _ _ => rfl) hget) (dc_cons (dv_fromT (g := fun (n : Nat) => PyData.int (n : Int)) (xs := i :: q) 1 (dv_var 1) dv_int) (dc_cons (dv_var 2) dc_nil))) ⟨ds.getD i .none, q, g, rfl, h3, hn, by omega, hg, ⟨k0, hsub⟩, rfl⟩) h2 ?_)
        refine dss_frz 3 rfl (dss_nil ?_)
        exact .eq rfl (.eq rfl (.eq rfl (.eq rfl .nil)))
      · generalize (if q = [] ∧ g.getD 3 0 % 2 = 0 then mvItV ds i g else ds.set i (chgV g q (ds.getD i .none))) = rs
        rw [w1]
        refine dss_cons (ds_ret (s := .d (if isListD d = true then .list rs else .tuple rs)) (dv_if (dt_val (dv_isi B.Is (dv_var 0) B.Li klst)) (fun h => ?_) (fun h => ?_)) rfl)
        · rw [if_pos h]
          exact dv_var 3
        · rw [if_neg (by rw [h]; exact Bool.false_ne_true)]
          exact dv_tupL B.Tu (dv_var 3)
theorem fd__law_change_at (T : Td K mg "_law_change_at" s__law_change_at ["value", "path", "digits"]) (B : Bs mg) (G1 : Fd P w K mg base 1 "_law_other_value" ["value", "digits"] c__law_other_value) (G2 : Fd P w K mg base 1 "_law_moved_item" ["items", "index", "digits"] c__law_moved_item) : Fd P w K mg base 6 "_law_change_at" ["value", "path", "digits"] c__law_change_at := by
  exact chg_rec T B G1 G2 4
/-! ### _law_mutated -/
theorem sc__law_mutated : FnScope ["value", "digits", "paths"] ["value", "digits"] (defScope s__law_mutated) := ⟨rfl, rfl, rfl, by decide +kernel, rfl, by decide +kernel, by decide +kernel⟩
def c__law_mutated : List Sv → Sv → Prop := fun ss r => ∃ d g, ss = [.d d, .d (.list (g.map .int))] ∧ Vb 12 4 d ∧ 5 ≤ g.length ∧ r = .d (mutV d g)
theorem fd__law_mutated (T : Td K mg "_law_mutated" s__law_mutated ["value", "digits"]) (B : Bs mg) (G1 : Fd P w K mg base 5 "_law_paths" ["value"] c__law_paths) (G2 : Fd P w K mg base 6 "_law_change_at" ["value", "path", "digits"] c__law_change_at) : Fd P w K mg base 7 "_law_mutated" ["value", "digits"] c__law_mutated := by
  refine fd_mk T sc__law_mutated (by rintro ss r ⟨d, g, rfl, _⟩; rfl) fun f cdv A outer s0 H E hr ss r ⟨d, g, e1, hv, hg, e2⟩ => ?_
  subst e1 e2
  refine dss_cons (ds_asg 2 (dv_call G1 (hr.mono (by decide)) (dc_cons (dv_var 0) dc_nil) ⟨d, rfl, hv, rfl⟩) ?_ sc__law_mutated.nd)
  have h : 0 < (pathsD d).length := List.length_pos_iff.mpr (pathsD_ne d)
  have q := modN (i := g.getD 4 0) h
  have pm := pthV_mem d g
  exact dss_cons (ds_ret (dv_call G2 hr (dc_cons (dv_var 0) (dc_cons (dv_ixLm (g := pPh) (xs := pathsD d) [] (dv_var 2) (dv_mod (dv_atL 4 0 (dv_var 1) dv_int (by omega)) (dv_lenL B.L (dv_var 2)) (by omega)) q) (dc_cons (dv_var 1) dc_nil))) ⟨d, pthV d g, g, rfl, pm, path_len hv pm, Nat.le_refl _, hg, ⟨4, hv.vd (by decide)⟩, rfl⟩) rfl)
/-! ### _law_any_value -/
abbrev n__law_any_value : List Str := ["digits", "depth", "choice", "number", "parts", "k"]
theorem sc__law_any_value : FnScope n__law_any_value ["digits", "depth"] (defScope s__law_any_value) := ⟨rfl, rfl, rfl, by decide +kernel, rfl, by decide +kernel, by decide +kernel⟩
def c_anyN (m : Nat) : List Sv → Sv → Prop := fun ss r => ∃ g, ∃ k : Nat, ss = [.d (.list (g.map .int)), .d (.int k)] ∧ g.length = 60 ∧ k + m = 4 ∧ r = .d (anyV m g k)
def c__law_any_value : List Sv → Sv → Prop := c_anyN 4
theorem any_rec (T : Td K mg "_law_any_value" s__law_any_value ["digits", "depth"]) (B : Bs mg) : ∀ m, Fd P w K mg base (m + 1) "_law_any_value" ["digits", "depth"] (c_anyN m) := by
  intro m
  induction m with
  | zero =>
    refine fd_mk T sc__law_any_value (by rintro ss r ⟨g, k, rfl, _⟩; rfl) fun f cdv A outer s0 H E hr ss r ⟨g, k, e1, hg, hk, e2⟩ => ?_
    subst e1 e2
    refine dss_cons (ds_asg 2 (dv_mod (dv_atL k 0 (dv_var 0) (dv_var 1) (by omega) rfl) dv_int (by decide)) ?_ sc__law_any_value.nd)
    refine dss_cons (ds_asg 3 (s := .d (numV g k)) (dv_pick (DV.frz (dv_lst (da_three (dv_sub (dv_mod (dv_atL (k + 1) 0 (dv_var 0) (dv_add (dv_var 1) dv_int) (by omega)) dv_int (by decide)) dv_int) (dv_sub dv_int (dv_pow dv_int dv_int (by decide))) (dv_pow dv_int dv_int (by decide))))) (dv_mod (dv_atL (k + 2) 0 (dv_var 0) (dv_add (dv_var 1) dv_int) (by omega)) dv_int (by decide)) (by show 0 ≤ _ ∧ _ < (3 : Int); omega)) ?_ sc__law_any_value.nd)
    refine dss_cons (ds_if (k := true) (dt_eq (DW.t (dw_or (dt_cp cp_lt (dv_var 2) dv_int (nomark _)) fun _ => dw_or1 (dt_cp cp_gt (dv_var 1) dv_int (nomark _)))) ?_) (fun _ => ?_) (fun h => by cases h))
    · rw [decide_eq_true (show (3 : Int) < (k : Nat) by omega), Bool.or_true]
    · exact dss_cons (ds_ret (dv_var 3) rfl)
  | succ m ih =>
    refine fd_mk T sc__law_any_value (by rintro ss r ⟨g, k, rfl, _⟩; rfl) fun f cdv A outer s0 H E hr ss r ⟨g, k, e1, hg, hk, e2⟩ => ?_
    subst e1 e2
    refine dss_cons (ds_asg 2 (dv_mod (dv_atL k 0 (dv_var 0) (dv_var 1) (by omega) rfl) dv_int (by decide)) ?_ sc__law_any_value.nd)
    refine dss_cons (ds_asg 3 (s := .d (numV g k)) (dv_pick (DV.frz (dv_lst (da_three (dv_sub (dv_mod (dv_atL (k + 1) 0 (dv_var 0) (dv_add (dv_var 1) dv_int) (by omega)) dv_int (by decide)) dv_int) (dv_sub dv_int (dv_pow dv_int dv_int (by decide))) (dv_pow dv_int dv_int (by decide))))) (dv_mod (dv_atL (k + 2) 0 (dv_var 0) (dv_add (dv_var 1) dv_int) (by omega)) dv_int (by decide)) (by show 0 ≤ _ ∧ _ < (3 : Int); omega)) ?_ sc__law_any_value.nd)
    show DSs _ _ _ (bodyO (.d (if g.getD k 0 % 12 < 4 then numV g k else if g.getD k 0 % 12 < 7 then [PyData.bool true, .bool false, .none].getD (g.getD k 0 % 12 - 4).toNat .none
      else if g.getD k 0 % 12 < 9 then txtV.getD (g.getD (k + 3) 0 % 8).toNat .none
      else if g.getD k 0 % 12 = 9 then .list ((List.range (g.getD (k + 4) 0 % 4).toNat).map fun j => anyV m (g.drop j ++ g.take j) (k + 1))
      else .tuple ((List.range (g.getD (k + 4) 0 % 4).toNat).map fun j => anyV m (g.drop j ++ g.take j) (k + 1)))))
    have hc : 0 ≤ g.getD k 0 % 12 ∧ g.getD k 0 % 12 < 12 := by omega
    generalize g.getD k 0 % 12 = c at hc
    refine dss_cons (ds_if (k := decide (c < 4)) (dt_eq (DW.t (dw_or (dt_cp cp_lt (dv_var 2) dv_int (nomark _)) fun _ => dw_or1 (dt_cp cp_gt (dv_var 1) dv_int (nomark _)))) ?_) (fun h => ?_) (fun h => dss_nil ?_))
    · rw [decide_eq_false (show ¬ (3 : Int) < (k : Nat) by omega), Bool.or_false]
    · rw [if_pos (of_decide_eq_true h)]
      exact dss_cons (ds_ret (dv_var 3) rfl)
    have c4 := of_decide_eq_false h
    rw [if_neg c4]
    refine dss_cons (ds_if (k := decide (c < 7)) (dt_cp cp_lt (dv_var 2) dv_int (nomark _)) (fun h => ?_) (fun h => dss_nil ?_))
    · have c7 := of_decide_eq_true h
      rw [if_pos c7]
      exact dss_cons (ds_ret (dv_pick (DV.frz (dv_lst (da_three dv_bl dv_bl dv_non))) (dv_sub (dv_var 2) dv_int) (by show 0 ≤ _ ∧ _ < (3 : Int); omega)) rfl)
    have c7 := of_decide_eq_false h
    rw [if_neg c7]
    refine dss_cons (ds_if (k := decide (c < 9)) (dt_cp cp_lt (dv_var 2) dv_int (nomark _)) (fun h => ?_) (fun h => dss_nil ?_))
    · rw [if_pos (of_decide_eq_true h)]
      exact dss_cons (ds_ret (dv_pick (ds := txtV) (DV.frz (dv_lst (da_cons dv_str (da_cons dv_str (da_cons dv_str (da_cons dv_str (da_cons dv_str (da_three dv_str dv_str dv_str)))))) (by show 8 ≤ sizeLine; decide))) (dv_mod (dv_atL (k + 3) 0 (dv_var 0) (dv_add (dv_var 1) dv_int) (by omega)) dv_int (by decide)) (by show 0 ≤ _ ∧ _ < (8 : Int); omega)) rfl)
    have c9 := of_decide_eq_false h
    rw [if_neg c9]
    have h4 : 0 ≤ g.getD (k + 4) 0 % 4 ∧ g.getD (k + 4) 0 % 4 < 4 := by omega
    refine dss_cons (ds_lcr (n := (g.getD (k + 4) 0 % 4).toNat) 4 (fun x : D => x) (fun _ => true) (fun j => anyV m (g.drop j ++ g.take j) (k + 1)) ⟨DIS.nr (di_rng1 B.R (dv_mod (dv_atL (k + 4) 0 (dv_var 0) (dv_add (dv_var 1) dv_int) (by omega)) dv_int (by decide)) (by omega)) 5, blkOk_by (N := n__law_any_value) (sc := defScope s__law_any_value) (own := [("k", 5)]) (by decide +kernel), fun _ h => h, fun _ _ _ _ _ => pgOne sc__law_any_value.nd, fun j hj _ _ _ _ _ => dts_nil, fun j hj _ _ _ _ _ _ => dv_call ih hr (dc_cons (DV.frz (dv_catLm (g := PyData.int) (dv_fromL j (dv_var 0) (dv_var 5) (by omega)).frz (dv_toL j (dv_var 0) (dv_var 5) (by omega)).frz (sz (by rw [List.length_drop, List.length_take]; omega)))) (dc_cons (dv_add (dv_var 1) dv_int) dc_nil)) ⟨g.drop j ++ g.take j, k + 1, rfl, by rw [List.length_append, List.length_drop, List.length_take]; omega, by omega, rfl⟩⟩ (sz (by omega)) ?_ sc__law_any_value.nd)
    rw [filter_yes, List.map_id']
    refine dss_frz 4 rfl ?_
    generalize (List.range (g.getD (k + 4) 0 % 4).toNat).map (fun j => anyV m (g.drop j ++ g.take j) (k + 1)) = ps
    refine dss_cons (ds_ret (s := .d (if c = 9 then .list ps else .tuple ps)) (dv_if (dt_cp cp_eqI (dv_var 2) dv_int (nomark _)) (fun h => ?_) (fun h => ?_)) rfl)
    · rw [if_pos (of_decide_eq_true h)]
      exact dv_var 4
    · rw [if_neg (of_decide_eq_false h)]
      exact dv_tupL B.Tu (dv_var 4)
theorem fd__law_any_value (T : Td K mg "_law_any_value" s__law_any_value ["digits", "depth"]) (B : Bs mg) : Fd P w K mg base 5 "_law_any_value" ["digits", "depth"] c__law_any_value := by
  exact any_rec T B 4
/-! ### _law_same_bool -/
theorem sc__law_same_bool : FnScope ["result", "expected"] ["result", "expected"] (defScope s__law_same_bool) := ⟨rfl, rfl, rfl, by decide +kernel, rfl, by decide +kernel, by decide +kernel⟩
theorem kit_bb : kitB "bool" "bool" = some true := by decide +kernel
def c__law_same_bool : List Sv → Sv → Prop := fun ss r => ∃ a b, ss = [.d (.bool a), .d (.bool b)] ∧ r = .d (.bool (a == b))
theorem fd__law_same_bool (T : Td K mg "_law_same_bool" s__law_same_bool ["result", "expected"]) (B : Bs mg) : Fd P w K mg base 1 "_law_same_bool" ["result", "expected"] c__law_same_bool := by
  refine fd_mk T sc__law_same_bool (by rintro ss r ⟨a, b, rfl, _⟩; rfl) fun f cdv A outer s0 H E hr ss r ⟨a, b, e1, e2⟩ => ?_
  subst e1 e2
  exact dss_cons (ds_ret (dv_eq' (dv_and (dv_isi (d := .bool a) B.Is (dv_var 0) B.Bo kit_bb) fun _ => dv_one (dv_cp cp_eqB (dv_var 0) (dv_var 1) (nomark _))) (by simp)) rfl)
/-! ### is_layer -/
abbrev n_is_layer : List Str := ["value", "sign"]
theorem sc_is_layer : FnScope n_is_layer ["value"] (defScope s_is_layer) := ⟨rfl, rfl, rfl, by decide +kernel, rfl, by decide +kernel, by decide +kernel⟩
def c_is_layer : List Sv → Sv → Prop := fun ss r => ∃ d, ss = [.d d] ∧ (∃ n, Vd n d) ∧ r = .d (.bool (layD d))
theorem fd_is_layer (T : Td K mg "is_layer" s_is_layer ["value"]) (B : Bs mg) (C : Cs mg) : Fd P w K mg base 1 "is_layer" ["value"] c_is_layer := by
  refine fd_mk T sc_is_layer (by rintro ss r ⟨d, rfl, _⟩; rfl) fun f cdv A outer s H E hr ss r ⟨d, e1, ⟨n, hv⟩, e2⟩ => ?_
  subst e1 e2
  by_cases hs : isStrD d = true
  · cases d with
    | str z =>
      cases hv with
      | str hv1 hv2 =>
      have hz : z.cps.size ≤ 1000 := hv2
      refine dss_cons (ds_ret (dv_eq' (dv_and (dv_isi B.Is (dv_var 0) B.St (kit_str _)) fun _ => dv_and (dv_ch cp_le cp_le dv_int (dv_lenS B.L (dv_var 0) (sz (by omega))) dv_int) fun _ => dv_one (dv_all (bs := z.cps.toList.map fun c => decide (c ∈ letC)) rfl B.Al (DV.frz (DV.cast (dv_lcm PyData.bool 0 (fun _ => true) (fun c => decide (c ∈ letC)) ⟨DIS.nm (xs := z.cps.toList) (g := fun c => PyData.str ⟨#[c]⟩) (di_strC (dv_var 0)) 1 0, blkOk_by (N := n_is_layer) (sc := defScope s_is_layer) (own := [("sign", 1)]) (by decide +kernel), fun _ h => h, fun _ _ _ _ _ => pgOne sc_is_layer.nd, fun k hk _ _ _ _ _ => dts_nil, fun k hk _ _ _ _ _ _ => dv_cp cp_inC (dv_var 1) (dv_globS C.letters) rfl⟩ (sz (by rw [Array.length_toList]; omega)) sc_is_layer.nd) (by rw [filter_yes]))))) ?_) rfl)
      rw [List.all_map]
      show PyData.bool (true && ((decide ((1 : Int) ≤ (z.length : Nat)) && decide (((z.length : Nat) : Int) ≤ 8)) && _)) = _
      unfold layD
      congr 1
      rw [Bool.true_and, show decide ((1 : Int) ≤ (z.length : Nat)) = decide (1 ≤ z.length) by congr 1; apply propext; omega, show decide (((z.length : Nat) : Int) ≤ 8) = decide (z.length ≤ 8) by congr 1; apply propext; omega]
      rfl
    | _ => cases hs
  · have hs : isStrD d = false := by simpa using hs
    have hl : layD d = false := by cases d <;> first | rfl | cases hs
    refine dss_cons (ds_ret (dv_eq' (dv_and (k := false) (l := false) (dv_eq' (dv_isi B.Is (dv_var 0) B.St (kit_str d)) (by rw [hs])) (fun h => by cases h)) ?_) rfl)
    rw [hl]; rfl
/-! ### is_order -/
abbrev n_is_order : List Str := ["value", "one"]
theorem sc_is_order : FnScope n_is_order ["value"] (defScope s_is_order) := ⟨rfl, rfl, rfl, by decide +kernel, rfl, by decide +kernel, by decide +kernel⟩
def c_is_order : List Sv → Sv → Prop := fun ss r => ∃ d, ss = [.d d] ∧ (∃ n, Vd n d) ∧ r = .d (.bool (ordD d))
theorem fd_is_order (T : Td K mg "is_order" s_is_order ["value"]) (B : Bs mg) (G : Fd P w K mg base 1 "is_layer" ["value"] c_is_layer) : Fd P w K mg base 2 "is_order" ["value"] c_is_order := by
  refine fd_mk T sc_is_order (by rintro ss r ⟨d, rfl, _⟩; rfl) fun f cdv A outer s H E hr ss r ⟨d, e1, ⟨n, hv⟩, e2⟩ => ?_
  subst e1 e2
  by_cases hs : isTupD d = true
  · cases d with
    | tuple ds =>
      cases hv with
      | tup hl hd =>
      refine dss_cons (ds_if (k := !(decide (1 ≤ ds.length) && decide (ds.length ≤ 10) && ds.all layD)) ?_ (fun h => ?_) (fun h => dss_nil ?_))
      · refine dt_eq (DW.t (dw_or (dt_not (dt_val (dv_isi (d := .tuple ds) B.Is (dv_var 0) B.Tu (kit_tup _)))) fun _ => dw_or (dt_not (dt_ch cp_le cp_le dv_int (dv_len B.L (dv_var 0) .t) dv_int)) fun _ => dw_or1 (dt_not (dt_val (dv_all (bs := ds.map layD) rfl B.Al (DV.frz (DV.cast (dv_lcm PyData.bool PyData.none (fun _ => true) layD ⟨DIS_self (di_tup (dv_var 0)) 1, blkOk_by (N := n_is_order) (sc := defScope s_is_order) (own := [("one", 1)]) (by decide +kernel), fun _ h => h, fun _ _ _ _ _ => pgOne sc_is_order.nd, fun k hk _ _ _ _ _ => dts_nil, fun k hk _ _ _ _ _ _ => dv_call G hr (dc_cons (dv_var 1) dc_nil) ⟨_, rfl, ⟨_, hd _ (getD_mem PyData.none hk)⟩, rfl⟩⟩ (sz (by omega)) sc_is_order.nd) (by rw [filter_yes])))))))) ?_
        rw [List.all_map]
        show (!true || (!(decide ((1 : Int) ≤ (ds.length : Nat)) && decide (((ds.length : Nat) : Int) ≤ 10)) || !(ds.all layD))) = _
        rw [show decide ((1 : Int) ≤ (ds.length : Nat)) = decide (1 ≤ ds.length) by congr 1; apply propext; omega, show decide (((ds.length : Nat) : Int) ≤ 10) = decide (ds.length ≤ 10) by congr 1; apply propext; omega]
        cases decide (1 ≤ ds.length) <;> cases decide (ds.length ≤ 10) <;> cases ds.all layD <;> rfl
      · refine dss_cons (ds_ret dv_bl ?_)
        show Sv.d (.bool false) = Sv.d (.bool (ordD (.tuple ds)))
        have h : (decide (1 ≤ ds.length) && decide (ds.length ≤ 10) && ds.all layD) = false := by cases q : (decide (1 ≤ ds.length) && decide (ds.length ≤ 10) && ds.all layD) with | false => rfl | true => rw [q] at h; cases h
        show _ = Sv.d (.bool ((decide (1 ≤ ds.length) && decide (ds.length ≤ 10) && ds.all layD) && decide ((nubS (strsD ds)).length = ds.length)))
        rw [h]; rfl
      · have h : (decide (1 ≤ ds.length) && decide (ds.length ≤ 10) && ds.all layD) = true := by cases q : (decide (1 ≤ ds.length) && decide (ds.length ≤ 10) && ds.all layD) with | true => rfl | false => rw [q] at h; cases h
        have ha : ds.all layD = true := (Bool.and_eq_true_iff.mp h).2
        have e := strsD_all ha
        have el : (strsD ds).length = ds.length := by have := congrArg List.length e; rw [List.length_map] at this; exact this.symm
        refine dss_cons (ds_ret (dv_eq' (dv_cp cp_eqI (dv_lenSetT (xs := strsD ds) B.L B.Se (dv_eq' (dv_var 0) (congrArg PyData.tuple e)) (by omega)) (dv_len B.L (dv_var 0) .t) (nomark _)) ?_) rfl)
        show _ = PyData.bool ((decide (1 ≤ ds.length) && decide (ds.length ≤ 10) && ds.all layD) && decide ((nubS (strsD ds)).length = ds.length))
        rw [h, Bool.true_and]
        exact congrArg PyData.bool (decide_eq_decide.mpr (by omega))
    | _ => cases hs
  · have hs : isTupD d = false := by simpa using hs
    have hl : ordD d = false := by cases d <;> first | rfl | cases hs
    refine dss_cons (ds_if (k := true) (dt_eq (DW.t (dw_or (l := false) (dt_not (dt_val (dv_isi B.Is (dv_var 0) B.Tu (kit_tup d)))) fun h => by rw [hs] at h; cases h)) (by rw [hs]; rfl)) (fun _ => ?_) (fun h => by cases h))
    refine dss_cons (ds_ret dv_bl ?_)
    rw [hl]; rfl
/-! ### _law_is_layer -/
abbrev n__law_is_layer : List Str := ["value", "sign"]
theorem sc__law_is_layer : FnScope n__law_is_layer ["value"] (defScope s__law_is_layer) := ⟨rfl, rfl, rfl, by decide +kernel, rfl, by decide +kernel, by decide +kernel⟩
def c__law_is_layer : List Sv → Sv → Prop := fun ss r => ∃ d, ss = [.d d] ∧ (∃ n, Vd n d) ∧ r = .d (.bool (layD d))
theorem emb_chr : Emb fun (c : Nat) => PyData.str ⟨#[c]⟩ := fun x y => by
  show ((⟨#[x]⟩ : Str) == ⟨#[y]⟩) = _
  by_cases e : x = y
  · subst e; simp
  · have : ¬ (⟨#[x]⟩ : Str) = ⟨#[y]⟩ := fun z => e (by injection z with z; simpa using z)
    rw [decide_eq_false e]
    exact beq_eq_false_iff_ne.mpr this
theorem chr_ok {z : Str} (h : PyData.strOk z = true) : ∀ c ∈ z.cps.toList, PyData.strOk ⟨#[c]⟩ = true := fun c hc => by
  unfold PyData.strOk at h ⊢
  rw [Array.all_eq_true'] at h
  have := h c (by simpa using hc)
  simp only [Array.all_eq_true', List.mem_toArray, List.mem_cons, List.not_mem_nil, or_false, forall_eq]
  exact this
theorem fd__law_is_layer (T : Td K mg "_law_is_layer" s__law_is_layer ["value"]) (B : Bs mg) : Fd P w K mg base 1 "_law_is_layer" ["value"] c__law_is_layer := by
  refine fd_mk T sc__law_is_layer (by rintro ss r ⟨d, rfl, _⟩; rfl) fun f cdv A outer s H E hr ss r ⟨d, e1, ⟨n, hv⟩, e2⟩ => ?_
  subst e1 e2
  by_cases hs : isStrD d = true
  · cases d with
    | str z =>
      cases hv with
      | str hv1 hv2 =>
      have hz : z.cps.size ≤ 1000 := hv2
      refine dss_cons (ds_if (k := !(decide (1 ≤ z.length) && decide (z.length ≤ 8))) (dt_eq (DW.t (dw_or (dt_not (dt_val (dv_isi (d := .str z) B.Is (dv_var 0) B.St (kit_str _)))) fun _ => dw_or (dt_cp cp_lt (dv_lenS B.L (dv_var 0) (sz (by omega))) dv_int (nomark _)) fun _ => dw_or1 (dt_cp cp_gt (dv_lenS B.L (dv_var 0) (sz (by omega))) dv_int (nomark _)))) ?_) (fun h => ?_) (fun h => dss_nil ?_))
      · by_cases a1 : 1 ≤ z.length <;> by_cases a2 : z.length ≤ 8
        · rw [decide_eq_true a1, decide_eq_true a2, decide_eq_false (show ¬ ((z.length : Nat) : Int) < 1 by omega), decide_eq_false (show ¬ (8 : Int) < (z.length : Nat) by omega)]; rfl
        · rw [decide_eq_true a1, decide_eq_false a2, decide_eq_true (show (8 : Int) < (z.length : Nat) by omega)]; simp
        · rw [decide_eq_false a1, decide_eq_true (show ((z.length : Nat) : Int) < 1 by omega)]; simp
        · rw [decide_eq_false a1, decide_eq_true (show ((z.length : Nat) : Int) < 1 by omega)]; simp
      · refine dss_cons (ds_ret dv_bl ?_)
        have h : (decide (1 ≤ z.length) && decide (z.length ≤ 8)) = false := by
          cases q : (decide (1 ≤ z.length) && decide (z.length ≤ 8)) with
          | false => rfl
          | true => rw [q] at h; cases h
        show _ = Sv.d (.bool ((decide (1 ≤ z.length) && decide (z.length ≤ 8)) && z.cps.toList.all fun c => decide (c ∈ letC)))
        rw [h]; rfl
      · have h : (decide (1 ≤ z.length) && decide (z.length ≤ 8)) = true := by
          cases q : (decide (1 ≤ z.length) && decide (z.length ≤ 8)) with
          | true => rfl
          | false => rw [q] at h; cases h
        have hok := chr_ok hv1
        refine dss_cons (ds_ret (dv_eq' (dv_cp (cq_eq (e := .list []) hr (sh_lst (n := 0) (sh_map (g := fun (c : Nat) => PyData.str ⟨#[c]⟩) (xs := z.cps.toList.filter fun c => !decide (c ∈ letC)) fun c hc => sh_str (hok c (List.mem_filter.mp hc).1))).up (sh_lst (n := 0) (ds := []) (fun _ h => by cases h)).up) (DV.frz (DV.cast (dv_lcm (fun (c : Nat) => PyData.str ⟨#[c]⟩) 0 (fun c => !decide (c ∈ letC)) (fun c => c) ⟨DIS.nm (xs := z.cps.toList) (g := fun c => PyData.str ⟨#[c]⟩) (di_strC (dv_var 0)) 1 0, blkOk_by (N := n__law_is_layer) (sc := defScope s__law_is_layer) (own := [("sign", 1)]) (by decide +kernel), fun _ h => h, fun _ _ _ _ _ => pgOne sc__law_is_layer.nd, fun k hk _ _ _ _ _ => dts_one (dt_cp cp_ninC (dv_var 1) dv_str rfl), fun k hk _ _ _ _ _ _ => dv_var 1⟩ (sz (by rw [Array.length_toList]; omega)) sc__law_is_layer.nd) (by rw [List.map_id']))) (dv_lst da_nil).frz (nomark _)) ?_) rfl)
        show PyData.bool (PyData.eqv (PyData.list ((z.cps.toList.filter fun c => !decide (c ∈ letC)).map fun (c : Nat) => PyData.str ⟨#[c]⟩)) (PyData.list (([] : List Nat).map fun (c : Nat) => PyData.str ⟨#[c]⟩))) = .bool ((decide (1 ≤ z.length) && decide (z.length ≤ 8)) && z.cps.toList.all fun c => decide (c ∈ letC))
        rw [emb_lst emb_chr, h, Bool.true_and]
        congr 1
        generalize z.cps.toList = l
        induction l with
        | nil => rfl
        | cons x l ih =>
          rw [List.filter_cons, List.all_cons]
          by_cases e : x ∈ letC
          · rw [decide_eq_true e]; simpa using ih
          · rw [decide_eq_false e]; simp
    | _ => cases hs
  · have hs : isStrD d = false := by simpa using hs
    have hl : layD d = false := by cases d <;> first | rfl | cases hs
    refine dss_cons (ds_if (k := true) (dt_eq (DW.t (dw_or (l := false) (dt_not (dt_val (dv_isi B.Is (dv_var 0) B.St (kit_str d)))) fun h => by rw [hs] at h; cases h)) (by rw [hs]; rfl)) (fun _ => ?_) (fun h => by cases h))
    refine dss_cons (ds_ret dv_bl ?_)
    rw [hl]; rfl
/-! ### _law_is_order -/
abbrev n__law_is_order : List Str := ["value", "one"]
theorem sc__law_is_order : FnScope n__law_is_order ["value"] (defScope s__law_is_order) := ⟨rfl, rfl, rfl, by decide +kernel, rfl, by decide +kernel, by decide +kernel⟩
def c__law_is_order : List Sv → Sv → Prop := fun ss r => ∃ d, ss = [.d d] ∧ (∃ n, n ≤ 60 ∧ Vd n d) ∧ r = .d (.bool (ordD d))
theorem filt_nil : ∀ l : List D, PyData.eqv (.list (l.filter fun d => !layD d)) (.list []) = l.all layD
  | [] => rfl
  | x :: l => by
    rw [List.filter_cons, List.all_cons]
    cases h : layD x with
    | true => simpa using filt_nil l
    | false => rfl
theorem fd__law_is_order (T : Td K mg "_law_is_order" s__law_is_order ["value"]) (B : Bs mg) (G : Fd P w K mg base 1 "_law_is_layer" ["value"] c__law_is_layer) : Fd P w K mg base 2 "_law_is_order" ["value"] c__law_is_order := by
  refine fd_mk T sc__law_is_order (by rintro ss r ⟨d, rfl, _⟩; rfl) fun f cdv A outer s H E hr ss r ⟨d, e1, ⟨n, hn, hv⟩, e2⟩ => ?_
  subst e1 e2
  by_cases hs : isTupD d = true
  · cases d with
    | tuple ds =>
      cases hv with
      | @tup n0 _ hl hd =>
      have e0 : ordD (.tuple ds) = ((decide (1 ≤ ds.length) && decide (ds.length ≤ 10)) && ds.all layD && decide ((nubS (strsD ds)).length = ds.length)) := rfl
      refine dss_cons (ds_if (k := !(decide (1 ≤ ds.length) && decide (ds.length ≤ 10))) (dt_eq (DW.t (dw_or (dt_not (dt_val (dv_isi (d := .tuple ds) B.Is (dv_var 0) B.Tu (kit_tup _)))) fun _ => dw_or (dt_cp cp_lt (dv_len B.L (dv_var 0) .t) dv_int (nomark _)) fun _ => dw_or1 (dt_cp cp_gt (dv_len B.L (dv_var 0) .t) dv_int (nomark _)))) ?_) (fun h => ?_) (fun h => dss_nil ?_))
      · by_cases a1 : 1 ≤ ds.length <;> by_cases a2 : ds.length ≤ 10
        · rw [decide_eq_true a1, decide_eq_true a2, decide_eq_false (show ¬ ((ds.length : Nat) : Int) < 1 by omega), decide_eq_false (show ¬ (10 : Int) < (ds.length : Nat) by omega)]; rfl
        · rw [decide_eq_true a1, decide_eq_false a2, decide_eq_true (show (10 : Int) < (ds.length : Nat) by omega)]; simp [isTupD]
        · rw [decide_eq_false a1, decide_eq_true (show ((ds.length : Nat) : Int) < 1 by omega)]; simp [isTupD]
        · rw [decide_eq_false a1, decide_eq_true (show ((ds.length : Nat) : Int) < 1 by omega)]; simp [isTupD]
      · refine dss_cons (ds_ret dv_bl ?_)
        have h : (decide (1 ≤ ds.length) && decide (ds.length ≤ 10)) = false := by
          cases q : (decide (1 ≤ ds.length) && decide (ds.length ≤ 10)) with
          | false => rfl
          | true => rw [q] at h; cases h
        rw [e0, h]; rfl
      have h : (decide (1 ≤ ds.length) && decide (ds.length ≤ 10)) = true := by
        cases q : (decide (1 ≤ ds.length) && decide (ds.length ≤ 10)) with
        | true => rfl
        | false => rw [q] at h; cases h
      rw [h, Bool.true_and] at e0
      have hsh : Sh 64 (.list (ds.filter fun d => !layD d)) := (sh_lst (n := n0) fun d hdd => (hd d (List.mem_filter.mp hdd).1).sh).up (by omega)
      refine dss_cons (ds_if (k := !ds.all layD) (dt_eq (dt_cp (cq_ne hr hsh (sh_lst (n := 0) (ds := []) (fun _ h => by cases h)).up) (DV.frz (DV.cast (dv_lcm (fun x : D => x) PyData.none (fun d => !layD d) (fun d => d) ⟨DIS_self (di_tup (dv_var 0)) 1, blkOk_by (N := n__law_is_order) (sc := defScope s__law_is_order) (own := [("one", 1)]) (by decide +kernel), fun _ h => h, fun _ _ _ _ _ => pgOne sc__law_is_order.nd, fun k hk _ _ _ _ _ => dts_one (dt_not (dt_val (dv_call G hr (dc_cons (dv_var 1) dc_nil) ⟨_, rfl, ⟨_, hd _ (getD_mem PyData.none hk)⟩, rfl⟩))), fun k hk _ _ _ _ _ _ => dv_var 1⟩ (sz (by omega)) sc__law_is_order.nd) (by rw [List.map_id', List.map_id']))) (dv_lst da_nil).frz (nomark _)) (by rw [filt_nil])) (fun h => ?_) (fun h => dss_nil ?_))
      · refine dss_cons (ds_ret dv_bl ?_)
        have h : ds.all layD = false := by
          cases q : ds.all layD with
          | false => rfl
          | true => rw [q] at h; cases h
        rw [e0, h]; rfl
      · have ha : ds.all layD = true := by
          cases q : ds.all layD with
          | true => rfl
          | false => rw [q] at h; cases h
        rw [ha, Bool.true_and] at e0
        have e := strsD_all ha
        have el : (strsD ds).length = ds.length := by have := congrArg List.length e; rw [List.length_map] at this; exact this.symm
        refine dss_cons (ds_ret (dv_eq' (dv_cp cp_eqI (dv_len B.L (dv_var 0) .t) (dv_lenSetT (xs := strsD ds) B.L B.Se (dv_eq' (dv_var 0) (congrArg PyData.tuple e)) (by omega)) (nomark _)) ?_) rfl)
        rw [e0]
        exact congrArg PyData.bool (decide_eq_decide.mpr (by omega))
    | _ => cases hs
  · have hs : isTupD d = false := by simpa using hs
    have hl : ordD d = false := by cases d <;> first | rfl | cases hs
    refine dss_cons (ds_if (k := true) (dt_eq (DW.t (dw_or (l := false) (dt_not (dt_val (dv_isi B.Is (dv_var 0) B.Tu (kit_tup d)))) fun h => by rw [hs] at h; cases h)) (by rw [hs]; rfl)) (fun _ => ?_) (fun h => by cases h))
    refine dss_cons (ds_ret dv_bl ?_)
    rw [hl]; rfl
/-! ### is_command -/
theorem sc_is_command : FnScope ["order", "value"] ["order", "value"] (defScope s_is_command) := ⟨rfl, rfl, rfl, by decide +kernel, rfl, by decide +kernel, by decide +kernel⟩
def c_is_command : List Sv → Sv → Prop := fun ss r => ∃ o d, ss = [.d (pO o), .d d] ∧ r = .d (.bool (cmdD o d))
theorem fd_is_command (T : Td K mg "is_command" s_is_command ["order", "value"]) (B : Bs mg) : Fd P w K mg base 1 "is_command" ["order", "value"] c_is_command := by
  refine fd_mk T sc_is_command (by rintro ss r ⟨o, d, rfl, _⟩; rfl) fun f cdv A outer s H E hr ss r ⟨o, d, e1, e2⟩ => ?_
  subst e1 e2
  by_cases hs : isTupD d = true
  · cases d with
    | tuple ds =>
      by_cases hl : ds.length = 2
      · match ds, hl with
        | [x, y], _ =>
          by_cases hx : isStrD x = true
          · cases x with
            | str k =>
              refine dss_cons (ds_if (k := false) ?_ (fun h => by cases h) fun _ => dss_nil ?_)
              · exact dt_eq (DW.t (dw_or (dt_not (dt_val (dv_isi (d := .tuple [.str k, y]) B.Is (dv_var 1) B.Tu (kit_tup _)))) fun _ => dw_or (dt_cp cp_neI (dv_len B.L (dv_var 1) .t) dv_int (nomark _)) fun _ => dw_or1 (dt_not (dt_val (dv_isi (d := .str k) B.Is (dv_ixT (dv_var 1) dv_int rfl) B.St (kit_str _)))))) rfl
              · by_cases hy : isStrD y = true
                · cases y with
                  | str z => exact dss_cons (ds_ret (dv_eq' (dv_and (dv_cp (cp_inS (ss := four) .t) (dv_ixT (d := .str k) (dv_var 1) dv_int rfl) (dv_tup (da_cons dv_str (da_cons dv_str (da_cons dv_str (da_cons dv_str da_nil))))) rfl) fun _ => dv_and (dv_isi (d := .str z) B.Is (dv_ixT (dv_var 1) dv_int rfl) B.St (kit_str _)) fun _ => dv_one (dv_cp (cp_inS (ss := o) .t) (dv_ixT (d := .str z) (dv_var 1) dv_int rfl) (dv_var 0) rfl)) rfl) rfl)
                  | _ => cases hy
                · have hy : isStrD y = false := by simpa using hy
                  have hc : cmdD o (.tuple [.str k, y]) = false := by cases y <;> first | rfl | cases hy
                  refine dss_cons (ds_ret (dv_eq' (dv_and (dv_cp (cp_inS (ss := four) .t) (dv_ixT (d := .str k) (dv_var 1) dv_int rfl) (dv_tup (da_cons dv_str (da_cons dv_str (da_cons dv_str (da_cons dv_str da_nil))))) rfl) fun _ => dv_and (k := false) (l := false) (dv_eq' (dv_isi (d := y) B.Is (dv_ixT (dv_var 1) dv_int rfl) B.St (kit_str y)) (by rw [hy])) fun h => by cases h) ?_) rfl)
                  rw [hc]; simp
            | _ => cases hx
          · have hx : isStrD x = false := by simpa using hx
            have hc : cmdD o (.tuple [x, y]) = false := by cases x <;> first | rfl | cases hx
            refine dss_cons (ds_if (k := true) ?_ (fun _ => ?_) (fun h => by cases h))
            · refine dt_eq (DW.t (dw_or (dt_not (dt_val (dv_isi (d := .tuple [x, y]) B.Is (dv_var 1) B.Tu (kit_tup _)))) fun _ => dw_or (dt_cp cp_neI (dv_len B.L (dv_var 1) .t) dv_int (nomark _)) fun _ => dw_or1 (dt_not (dt_val (dv_isi (d := x) B.Is (dv_ixT (dv_var 1) dv_int rfl) B.St (kit_str x)))))) ?_
              rw [hx]; rfl
            · refine dss_cons (ds_ret dv_bl ?_)
              rw [hc]; rfl
      · have hc : cmdD o (.tuple ds) = false := by
          match ds, hl with
          | [], _ => rfl
          | [x], _ => cases x <;> rfl
          | x :: y :: z :: r, _ => cases x <;> first | rfl | (cases y <;> rfl)
        refine dss_cons (ds_if (k := true) ?_ (fun _ => ?_) (fun h => by cases h))
        · refine dt_eq (DW.t (dw_or (dt_not (dt_val (dv_isi (d := .tuple ds) B.Is (dv_var 1) B.Tu (kit_tup _)))) fun _ => dw_or (l := false) (k := true) (dt_eq (dt_cp cp_neI (dv_len B.L (dv_var 1) .t) dv_int (nomark _)) ?_) fun h => by cases h)) rfl
          rw [decide_eq_false (show ¬ ((ds.length : Nat) : Int) = 2 by omega)]; rfl
        · refine dss_cons (ds_ret dv_bl ?_)
          rw [hc]; rfl
    | _ => cases hs
  · have hs : isTupD d = false := by simpa using hs
    have hc : cmdD o d = false := by cases d <;> first | rfl | cases hs
    refine dss_cons (ds_if (k := true) (dt_eq (DW.t (dw_or (l := false) (dt_not (dt_val (dv_isi B.Is (dv_var 1) B.Tu (kit_tup d)))) fun h => by rw [hs] at h; cases h)) (by rw [hs]; rfl)) (fun _ => ?_) (fun h => by cases h))
    refine dss_cons (ds_ret dv_bl ?_)
    rw [hc]; rfl
/-! ### is_script -/
abbrev n_is_script : List Str := ["order", "value", "one"]
theorem sc_is_script : FnScope n_is_script ["order", "value"] (defScope s_is_script) := ⟨rfl, rfl, rfl, by decide +kernel, rfl, by decide +kernel, by decide +kernel⟩
def c_is_script : List Sv → Sv → Prop := fun ss r => ∃ o d, ss = [.d (pO o), .d d] ∧ (∃ n, Vd n d) ∧ r = .d (.bool (scrD o d))
theorem fd_is_script (T : Td K mg "is_script" s_is_script ["order", "value"]) (B : Bs mg) (G : Fd P w K mg base 1 "is_command" ["order", "value"] c_is_command) : Fd P w K mg base 2 "is_script" ["order", "value"] c_is_script := by
  refine fd_mk T sc_is_script (by rintro ss r ⟨o, d, rfl, _⟩; rfl) fun f cdv A outer s0 H E hr ss r ⟨o, d, e1, ⟨n, hv⟩, e2⟩ => ?_
  subst e1 e2
  by_cases hs : isTupD d = true
  · cases d with
    | tuple ds =>
      cases hv with
      | tup hl hd =>
      refine dss_cons (ds_ret (dv_eq' (dv_and (dv_isi (d := .tuple ds) B.Is (dv_var 1) B.Tu (kit_tup _)) fun _ => dv_and (dv_cp cp_le (dv_len B.L (dv_var 1) .t) dv_int (nomark _)) fun _ => dv_one (dv_all (bs := ds.map (cmdD o)) rfl B.Al (DV.frz (DV.cast (dv_lcm PyData.bool PyData.none (fun _ => true) (cmdD o) ⟨DIS_self (di_tup (dv_var 1)) 2, blkOk_by (N := n_is_script) (sc := defScope s_is_script) (own := [("one", 2)]) (by decide +kernel), fun _ h => h, fun _ _ _ _ _ => pgOne sc_is_script.nd, fun k hk _ _ _ _ _ => dts_nil, fun k hk _ _ _ _ _ _ => dv_call G hr (dc_cons (dv_var 0) (dc_cons (dv_var 2) dc_nil)) ⟨o, _, rfl, rfl⟩⟩ (sz (by omega)) sc_is_script.nd) (by rw [filter_yes]))))) ?_) rfl)
      rw [List.all_map]
      show PyData.bool (true && (decide (((ds.length : Nat) : Int) ≤ 60) && ds.all (cmdD o))) = _
      rw [show decide (((ds.length : Nat) : Int) ≤ 60) = decide (ds.length ≤ 60) by congr 1; apply propext; omega]
      rfl
    | _ => cases hs
  · have hs : isTupD d = false := by simpa using hs
    have hl : scrD o d = false := by cases d <;> first | rfl | cases hs
    refine dss_cons (ds_ret (dv_eq' (dv_and (k := false) (l := false) (dv_eq' (dv_isi B.Is (dv_var 1) B.Tu (kit_tup d)) (by rw [hs])) (fun h => by cases h)) ?_) rfl)
    rw [hl]; rfl
/-! ### _law_is_script -/
abbrev n__law_is_script : List Str := ["order", "value", "one"]
theorem sc__law_is_script : FnScope n__law_is_script ["order", "value"] (defScope s__law_is_script) := ⟨rfl, rfl, rfl, by decide +kernel, rfl, by decide +kernel, by decide +kernel⟩
def c__law_is_script : List Sv → Sv → Prop := fun ss r => ∃ o d, ss = [.d (pO o), .d d] ∧ (∃ n, Vd n d) ∧ r = .d (.bool (scrD o d))
/-- two texts in a tuple -/
def twoD : D → Bool
  | .tuple [.str _, .str _] => true
  | _ => false
theorem fd__law_is_script (T : Td K mg "_law_is_script" s__law_is_script ["order", "value"]) (B : Bs mg) : Fd P w K mg base 1 "_law_is_script" ["order", "value"] c__law_is_script := by
  refine fd_mk T sc__law_is_script (by rintro ss r ⟨o, d, rfl, _⟩; rfl) fun f cdv A outer s0 H E hr ss r ⟨o, d, e1, ⟨n, hv⟩, e2⟩ => ?_
  subst e1 e2
  by_cases hs : isTupD d = true
  · cases d with
    | tuple ds =>
      cases hv with
      | tup hl hd =>
      have e0 : scrD o (.tuple ds) = (decide (ds.length ≤ 60) && ds.all (cmdD o)) := rfl
      refine dss_cons (ds_if (k := !decide (ds.length ≤ 60)) (dt_eq (DW.t (dw_or (dt_not (dt_val (dv_isi (d := .tuple ds) B.Is (dv_var 1) B.Tu (kit_tup _)))) fun _ => dw_or1 (dt_cp cp_gt (dv_len B.L (dv_var 1) .t) dv_int (nomark _)))) ?_) (fun h => ?_) (fun h => dss_nil ?_))
      · by_cases a : ds.length ≤ 60
        · rw [decide_eq_true a, decide_eq_false (show ¬ (60 : Int) < (ds.length : Nat) by omega)]; rfl
        · rw [decide_eq_false a, decide_eq_true (show (60 : Int) < (ds.length : Nat) by omega)]; simp [isTupD]
      · refine dss_cons (ds_ret dv_bl ?_)
        have h : decide (ds.length ≤ 60) = false := by simpa using h
        rw [e0, h]; rfl
      have h : decide (ds.length ≤ 60) = true := by simpa using h
      rw [h, Bool.true_and] at e0
      rw [e0]
      refine dss_cons (ds_fpp (fun _ => [some (.d (pO o)), some (.d (.tuple ds)), none]) (fun k => (ds.take k).all (cmdD o) = true) (DIS_self (di_tup (dv_var 1)) 2) (pgOne sc__law_is_script.nd) (.eq rfl (.eq rfl (.any .nil))) rfl (fun k hk hp => ?_) (fun hp => ?_))
      · unfold y1
        rw [getD_eq _ hk]
        have hmem := List.getElem_mem hk
        have htk : (ds.take (k + 1)).all (cmdD o) = cmdD o ds[k] := by
          rw [List.take_add_one, List.getElem?_eq_getElem hk, List.all_append, hp]
          simp
        have ret : cmdD o ds[k] = false → Sv.d (.bool false) = Sv.d (.bool (ds.all (cmdD o))) := fun hc => by
          have : ds.all (cmdD o) = false := by
            rw [List.all_eq_false]
            exact ⟨_, hmem, by rw [hc]; exact Bool.false_ne_true⟩
          rw [this]
        rw [htk]
        generalize ds[k] = e at ret
        by_cases ht : isTupD e = true
        · cases e with
          | tuple es =>
            by_cases h2 : es.length = 2
            · match es, h2 with
              | [x, y], _ =>
                by_cases hx : isStrD x = true
                · by_cases hy : isStrD y = true
                  · cases x with
                    | str a =>
                      cases y with
                      | str b =>
                        refine dss_cons (ds_if (k := false) (dt_eq (DW.t (dw_or (dt_not (dt_val (dv_isi (d := .tuple [.str a, .str b]) B.Is (dv_var 2) B.Tu (kit_tup _)))) fun _ => dw_or (dt_cp cp_neI (dv_len B.L (dv_var 2) .t) dv_int (nomark _)) fun _ => dw_or (dt_not (dt_val (dv_isi (d := .str a) B.Is (dv_ixT (dv_var 2) dv_int rfl) B.St (kit_str _)))) fun _ => dw_or1 (dt_not (dt_val (dv_isi (d := .str b) B.Is (dv_ixT (dv_var 2) dv_int rfl) B.St (kit_str _)))))) rfl) (fun h => by cases h) fun _ => dss_nil ?_)
                        refine dss_cons (ds_if (k := !cmdD o (.tuple [.str a, .str b])) (dt_eq (DW.t (dw_or (dt_cp (cp_ninS (ss := four) .t) (dv_ixT (d := .str a) (dv_var 2) dv_int rfl) (dv_tup (da_cons dv_str (da_cons dv_str (da_cons dv_str (da_cons dv_str da_nil))))) rfl) fun _ => dw_or1 (dt_cp (cp_ninS (ss := o) .t) (dv_ixT (d := .str b) (dv_var 2) dv_int rfl) (dv_var 0) rfl))) ?_) (fun h => ?_) (fun h => dss_nil (dss_nil ?_)))
                        · show _ = !(decide (a ∈ four) && decide (b ∈ o))
                          rw [Bool.not_and]
                        · exact dss_cons (ds_ret dv_bl (ret (by simpa using h)))
                        · exact ⟨.eq rfl (.eq rfl (.any .nil)), by simpa using h⟩
                      | _ => cases hy
                    | _ => cases hx
                  · have hy : isStrD y = false := by simpa using hy
                    have hc : cmdD o (.tuple [x, y]) = false := by cases x <;> first | rfl | (cases y <;> first | rfl | cases hy)
                    refine dss_cons (ds_if (k := true) (dt_eq (DW.t (dw_or (dt_not (dt_val (dv_isi (d := .tuple [x, y]) B.Is (dv_var 2) B.Tu (kit_tup _)))) fun _ => dw_or (dt_cp cp_neI (dv_len B.L (dv_var 2) .t) dv_int (nomark _)) fun _ => dw_or (dt_not (dt_val (dv_isi (d := x) B.Is (dv_ixT (dv_var 2) dv_int rfl) B.St (kit_str _)))) fun _ => dw_or1 (dt_not (dt_val (dv_isi (d := y) B.Is (dv_ixT (dv_var 2) dv_int rfl) B.St (kit_str _)))))) (by rw [hx, hy]; rfl)) (fun _ => ?_) (fun h => by cases h))
                    exact dss_cons (ds_ret dv_bl (ret hc))
                · have hx : isStrD x = false := by simpa using hx
                  have hc : cmdD o (.tuple [x, y]) = false := by cases x <;> first | rfl | cases hx
                  refine dss_cons (ds_if (k := true) (dt_eq (DW.t (dw_or (dt_not (dt_val (dv_isi (d := .tuple [x, y]) B.Is (dv_var 2) B.Tu (kit_tup _)))) fun _ => dw_or (dt_cp cp_neI (dv_len B.L (dv_var 2) .t) dv_int (nomark _)) fun _ => dw_or (l := false) (dt_not (dt_val (dv_isi (d := x) B.Is (dv_ixT (dv_var 2) dv_int rfl) B.St (kit_str _)))) fun h => by rw [hx] at h; cases h)) (by rw [hx]; rfl)) (fun _ => ?_) (fun h => by cases h))
                  exact dss_cons (ds_ret dv_bl (ret hc))
            · have hc : cmdD o (.tuple es) = false := by
                match es, h2 with
                | [], _ => rfl
                | [x], _ => cases x <;> rfl
                | x :: y :: z :: r, _ => cases x <;> first | rfl | (cases y <;> rfl)
              refine dss_cons (ds_if (k := true) (dt_eq (DW.t (dw_or (dt_not (dt_val (dv_isi (d := .tuple es) B.Is (dv_var 2) B.Tu (kit_tup _)))) fun _ => dw_or (l := false) (k := true) (dt_eq (dt_cp cp_neI (dv_len B.L (dv_var 2) .t) dv_int (nomark _)) (by rw [decide_eq_false (show ¬ ((es.length : Nat) : Int) = 2 by omega)]; rfl)) fun h => by cases h)) rfl) (fun _ => ?_) (fun h => by cases h))
              exact dss_cons (ds_ret dv_bl (ret hc))
          | _ => cases ht
        · have ht : isTupD e = false := by simpa using ht
          have hc : cmdD o e = false := by cases e <;> first | rfl | cases ht
          refine dss_cons (ds_if (k := true) (dt_eq (DW.t (dw_or (l := false) (dt_not (dt_val (dv_isi B.Is (dv_var 2) B.Tu (kit_tup e)))) fun h => by rw [ht] at h; cases h)) (by rw [ht]; rfl)) (fun _ => ?_) (fun h => by cases h))
          exact dss_cons (ds_ret dv_bl (ret hc))
      · rw [List.take_length] at hp
        refine dss_cons (ds_ret dv_bl ?_)
        rw [hp]; rfl
    | _ => cases hs
  · have hs : isTupD d = false := by simpa using hs
    have hl : scrD o d = false := by cases d <;> first | rfl | cases hs
    refine dss_cons (ds_if (k := true) (dt_eq (DW.t (dw_or (l := false) (dt_not (dt_val (dv_isi B.Is (dv_var 1) B.Tu (kit_tup d)))) fun h => by rw [hs] at h; cases h)) (by rw [hs]; rfl)) (fun _ => ?_) (fun h => by cases h))
    refine dss_cons (ds_ret dv_bl ?_)
    rw [hl]; rfl
/-! ### the law -/
abbrev n_law : List Str := ["script", "ten", "values", "index", "digits", "order", "steps", "first", "scripts", "k", "row", "base", "mutated", "value"]
theorem sc_law : FnScope n_law ["script"] (defScope s_law) := ⟨rfl, rfl, rfl, by decide +kernel, rfl, by decide +kernel, by decide +kernel⟩
def c_law : List Sv → Sv → Prop := fun ss r => ∃ ns, ss = [.scr ns] ∧ r = .d (.bool true)
def Good (d : D) : Prop := ∃ n, n ≤ 60 ∧ Vd n d
def vdB : Nat → D → Bool
  | _, .none => true
  | _, .bool _ => true
  | _, .int _ => true
  | _, .str z => PyData.strOk z && decide (z.length ≤ 1000)
  | n + 1, .list ds => decide (ds.length ≤ 1000) && ds.all (vdB n)
  | n + 1, .tuple ds => decide (ds.length ≤ 1000) && ds.all (vdB n)
  | _, _ => false
theorem vdB_ok : ∀ (n : Nat) (d : D), vdB n d = true → Vd n d := by
  intro n
  induction n with
  | zero =>
    intro d h
    cases d with
    | none => exact .non
    | bool b => exact .bl b
    | int i => exact .int i
    | str z =>
      have h : (PyData.strOk z && decide (z.length ≤ 1000)) = true := h
      rw [Bool.and_eq_true] at h
      exact .str h.1 (of_decide_eq_true h.2)
    | _ => cases h
  | succ n ih =>
    intro d h
    cases d with
    | none => exact .non
    | bool b => exact .bl b
    | int i => exact .int i
    | str z =>
      have h : (PyData.strOk z && decide (z.length ≤ 1000)) = true := h
      rw [Bool.and_eq_true] at h
      exact .str h.1 (of_decide_eq_true h.2)
    | list ds =>
      have h : (decide (ds.length ≤ 1000) && ds.all (vdB n)) = true := h
      rw [Bool.and_eq_true] at h
      exact .lst (of_decide_eq_true h.1) fun d hd => ih d (List.all_eq_true.mp h.2 d hd)
    | tuple ds =>
      have h : (decide (ds.length ≤ 1000) && ds.all (vdB n)) = true := h
      rw [Bool.and_eq_true] at h
      exact .tup (of_decide_eq_true h.1) fun d hd => ih d (List.all_eq_true.mp h.2 d hd)
    | dict _ => cases h
abbrev tenD : D := .tuple ((sgns "abcdefghij").map .str)
def kS : List Str := ["k"]
def vals1 : List D := [tenD, .tuple ((sgns "abcdefghij" ++ kS).map .str), .tuple [.str "abcdefgh"], .tuple [.str "abcdefghi"], .tuple [.str ""], .tuple [.str "A"], .tuple [.str "a b"], .tuple [.str "a1"], .tuple [], .tuple [.str "a", .str "a"], .str "abc"]
def vals2 : List D := [.tuple [.str "a", .int 1], .list [.str "a"], .tuple [.str "a", .none], .none, .int 7, .bool true, .tuple [.tuple [.str "a"]], .tuple [.str "a", .list [.str "b"]]]
theorem vals_good : ∀ d ∈ vals1 ++ vals2, Good d := by
  have h : (vals1 ++ vals2).all (vdB 5) = true := by decide +kernel
  exact fun d hd => ⟨5, by decide, vdB_ok 5 d (List.all_eq_true.mp h d hd)⟩
theorem names10_len : ∀ x ∈ names10, x.length ≤ 10 := by decide +kernel
theorem vt1 {n : Nat} {d : D} (h : Vd n d) : Vd (n + 1) (.tuple [d]) := .tup (by show 1 ≤ 1000; decide) fun e he => by rw [List.mem_singleton.mp he]; exact h
theorem vl1 {n : Nat} {d : D} (h : Vd n d) : Vd (n + 1) (.list [d]) := .lst (by show 1 ≤ 1000; decide) fun e he => by rw [List.mem_singleton.mp he]; exact h
theorem vt2 {n : Nat} {d e : D} (h : Vd n d) (h2 : Vd n e) : Vd (n + 1) (.tuple [d, e]) := .tup (by show 2 ≤ 1000; decide) fun x hx => by
  simp only [List.mem_cons, List.not_mem_nil, or_false] at hx
  rcases hx with rfl | rfl
  · exact h
  · exact h2
theorem vl2 {n : Nat} {d e : D} (h : Vd n d) (h2 : Vd n e) : Vd (n + 1) (.list [d, e]) := .lst (by show 2 ≤ 1000; decide) fun x hx => by
  simp only [List.mem_cons, List.not_mem_nil, or_false] at hx
  rcases hx with rfl | rfl
  · exact h
  · exact h2
theorem vt3 {n : Nat} {d e f : D} (h : Vd n d) (h2 : Vd n e) (h3 : Vd n f) : Vd (n + 1) (.tuple [d, e, f]) := .tup (by show 3 ≤ 1000; decide) fun x hx => by
  simp only [List.mem_cons, List.not_mem_nil, or_false] at hx
  rcases hx with rfl | rfl | rfl
  · exact h
  · exact h2
  · exact h3
def scr1 (a : Str) : List D := [.tuple [], .tuple (List.replicate 60 [PyData.tuple [.str "up", .str a]]).flatten, .tuple (List.replicate 61 [PyData.tuple [.str "up", .str a]]).flatten, .tuple [.str "up", .str a], .list [.tuple [.str "up", .str a]], .tuple [.list [.str "up", .str a]], .tuple [.tuple [.str "top", .str a]]]
def scr2 (a : Str) : List D := [.tuple [.tuple [.str "up", .str "x"]], .tuple [.tuple [.str "up", .int 1]], .tuple [.tuple [.int 1, .str a]], .tuple [.tuple [.str "up"]], .tuple [.tuple [.str "up", .str a, .int 1]]]
def scr3 (st : List (Kd × Str)) (b : Str) : List D := [pS st, .list (st.map pC), .tuple (st.map pC ++ [.tuple [.str "front", .str b]]), .tuple (st.map pC ++ [.tuple [.str "front", .str (b ++ "x")]])]
theorem mem_rep {α : Type} {n : Nat} {x e : α} (h : e ∈ (List.replicate n [x]).flatten) : e = x := by
  obtain ⟨l, hl, he⟩ := List.mem_flatten.mp h
  rw [(List.mem_replicate.mp hl).2] at he
  exact List.mem_singleton.mp he
theorem scr_good {a b : Str} {st : List (Kd × Str)} (ha : PyData.strOk a = true) (hal : a.length ≤ 10) (hb : PyData.strOk b = true) (hbl : b.length ≤ 10) (hx : PyData.strOk (b ++ "x") = true) (hxl : (b ++ ("x" : Str)).length ≤ 11) (hst : st.length ≤ 10) (hs : ∀ c ∈ st, PyData.strOk c.2 = true ∧ c.2.length ≤ 10) : ∀ d ∈ scr1 a ++ scr2 a ++ scr3 st b, Good d := by
  have va : ∀ n, Vd n (.str a) := fun n => .str ha (by omega)
  have vb : ∀ n, Vd n (.str b) := fun n => .str hb (by omega)
  have vx : ∀ n, Vd n (.str (b ++ "x")) := fun n => .str hx (by omega)
  have up : ∀ n, Vd n (.str "up") := fun n => .str (by decide +kernel) (by decide +kernel)
  have top : ∀ n, Vd n (.str "top") := fun n => .str (by decide +kernel) (by decide +kernel)
  have fr : ∀ n, Vd n (.str "front") := fun n => .str (by decide +kernel) (by decide +kernel)
  have xx : ∀ n, Vd n (.str "x") := fun n => .str (by decide +kernel) (by decide +kernel)
  have ua : ∀ n, Vd (n + 1) (.tuple [.str "up", .str a]) := fun n => vt2 (up n) (va n)
  have pc : ∀ c ∈ st, Vd 1 (pC c) := fun c hc => vt2 (.str (ks_ok c.1) (by cases c.1 <;> decide +kernel)) (.str (hs c hc).1 (by have := (hs c hc).2; omega))
  have stm : ∀ e ∈ st.map pC, Vd 1 e := fun e he => by obtain ⟨c, hc, rfl⟩ := List.mem_map.mp he; exact pc c hc
  have app : ∀ x, Vd 1 x → Vd 2 (.tuple (st.map pC ++ [x])) := fun x h => .tup (by rw [List.length_append, List.length_map]; show _ + 1 ≤ 1000; omega) fun e he => by
    rcases List.mem_append.mp he with he | he
    · exact stm e he
    · rw [List.mem_singleton.mp he]; exact h
  have rep : ∀ n, n ≤ 61 → Vd 2 (.tuple (List.replicate n [PyData.tuple [.str "up", .str a]]).flatten) := fun n hn => .tup (by simp; omega) fun e he => by rw [mem_rep he]; exact ua 0
  have g : ∀ {n : Nat} {d : D}, n ≤ 60 → Vd n d → Good d := fun h1 h2 => ⟨_, h1, h2⟩
  intro d hd
  rcases List.mem_append.mp hd with hd | hd
  · rcases List.mem_append.mp hd with hd | hd
    · simp only [scr1, List.mem_cons, List.not_mem_nil, or_false] at hd
      rcases hd with rfl | rfl | rfl | rfl | rfl | rfl | rfl
      · exact g (n := 1) (by decide) (.tup (Nat.zero_le _) fun e he => by cases he)
      · exact g (n := 2) (by decide) (rep 60 (by decide))
      · exact g (n := 2) (by decide) (rep 61 (by decide))
      · exact g (n := 1) (by decide) (ua 0)
      · exact g (n := 2) (by decide) (vl1 (ua 0))
      · exact g (n := 2) (by decide) (vt1 (vl2 (up 0) (va 0)))
      · exact g (n := 2) (by decide) (vt1 (vt2 (top 0) (va 0)))
    · simp only [scr2, List.mem_cons, List.not_mem_nil, or_false] at hd
      rcases hd with rfl | rfl | rfl | rfl | rfl
      · exact g (n := 2) (by decide) (vt1 (vt2 (up 0) (xx 0)))
      · exact g (n := 2) (by decide) (vt1 (vt2 (up 0) (.int 1)))
      · exact g (n := 2) (by decide) (vt1 (vt2 (.int 1) (va 0)))
      · exact g (n := 2) (by decide) (vt1 (vt1 (up 0)))
      · exact g (n := 2) (by decide) (vt1 (vt3 (up 0) (va 0) (.int 1)))
  · simp only [scr3, List.mem_cons, List.not_mem_nil, or_false] at hd
    rcases hd with rfl | rfl | rfl | rfl
    · exact g (n := 2) (by decide) (.tup (by rw [List.length_map]; omega) stm)
    · exact g (n := 2) (by decide) (.lst (by rw [List.length_map]; omega) stm)
    · exact g (n := 2) (by decide) (app _ (vt2 (fr 0) (vb 0)))
    · exact g (n := 2) (by decide) (app _ (vt2 (fr 0) (vx 0)))
theorem x_ok : ∀ b ∈ names10, PyData.strOk (b ++ "x") = true ∧ (b ++ ("x" : Str)).length ≤ 11 := by decide +kernel
theorem ok_law {f : Addr} {fd : FuncData} (Fn : Fun K "law" "law" s_law f fd) (B : Bs mg) (G1 : Fd P w K mg base 2 "_law_digits" ["script", "index", "count", "base"] c__law_digits) (G2 : Fd P w K mg base 2 "_law_names" ["digits", "count"] c__law_names) (G3 : Fd P w K mg base 2 "_law_script" ["digits", "order", "size"] c__law_script)
    (G4 : Fd P w K mg base 7 "_law_mutated" ["value", "digits"] c__law_mutated) (G5 : Fd P w K mg base 5 "_law_any_value" ["digits", "depth"] c__law_any_value) (G6 : Fd P w K mg base 1 "_law_same_bool" ["result", "expected"] c__law_same_bool) (G7 : Fd P w K mg base 2 "is_order" ["value"] c_is_order) (G8 : Fd P w K mg base 2 "_law_is_order" ["value"] c__law_is_order)
    (G9 : Fd P w K mg base 2 "is_script" ["order", "value"] c_is_script) (G10 : Fd P w K mg base 1 "_law_is_script" ["order", "value"] c__law_is_script) : FnOk P w K mg base CX0 8 f fd ["script"] (spD K c_law) := by
  refine fn_dl Fn sc_law (by rintro ss r ⟨ns, rfl, _⟩; rfl) fun cdv A outer s H E hr ss r ⟨ns, e1, e2⟩ => ?_
  subst e1 e2
  have hr1 := hr.mono (show 1 ≤ 7 by decide)
  have hr2 := hr.mono (show 2 ≤ 7 by decide)
  have hr5 := hr.mono (show 5 ≤ 7 by decide)
  refine dss_cons (ds_asg 1 (s := .d tenD) (dv_tupS B.Tu dv_str (by decide +kernel)) ?_ sc_law.nd)
  refine dss_cons (ds_asg 2 (s := .d (.list vals1)) (DV.frz (dv_lst (ds := vals1) (da_cons (dv_var 1) (da_cons (dv_catTm (g := PyData.str) (xs := sgns "abcdefghij") (ys := kS) (dv_var 1) (dv_tup1 PyData.str dv_str) (by decide +kernel)) (da_cons (dv_tup (da_one dv_str)) (da_cons (dv_tup (da_one dv_str)) (da_cons (dv_tup (da_one dv_str)) (da_cons (dv_tup (da_one dv_str)) (da_cons (dv_tup (da_one dv_str)) (da_cons (dv_tup (da_one dv_str)) (da_three (dv_tup da_nil) (dv_tup (da_two dv_str dv_str)) dv_str))))))))) (by show 11 ≤ sizeLine; decide))) ?_ sc_law.nd)
  refine dss_cons (ds_asg 2 (s := .d (.list (vals1 ++ vals2))) (DV.frz (dv_catL (dv_var 2) (DV.frz (dv_lst (ds := vals2) (da_cons (dv_tup (da_two dv_str dv_int)) (da_cons (dv_lst (da_one dv_str)).frz (da_cons (dv_tup (da_two dv_str dv_non)) (da_cons dv_non (da_cons dv_int (da_three dv_bl (dv_tup (da_one (dv_tup (da_one dv_str)))) (dv_tup (da_two dv_str (dv_lst (da_one dv_str)).frz)))))))) (by show 8 ≤ sizeLine; decide))) (by show 11 + 8 ≤ sizeLine; decide))) ?_ sc_law.nd)
  have hvs := vals_good
  have vsl : (vals1 ++ vals2).length = 19 := rfl
  generalize vals1 ++ vals2 = vs at hvs vsl
  refine dss_cons (ds_fp (fun _ => [some (.scr ns), none, some (.d (.list vs)), none, none, none, none, none, none, none, none, none, none, none]) (DIS.nm (xs := [0, 1, 2, 3]) (g := fun (n : Nat) => PyData.int (n : Int)) (di_tup (dv_tup (da_cons dv_int (da_three dv_int dv_int dv_int)))) 3 0) (pgOne sc_law.nd) (.eq rfl (.any (.eq rfl (.any (.any (.any (.any (.any (.any (.any (.any (.any (.any (.any .nil)))))))))))))) (fun k hk => ?_) ?_)
  · unfold y1
    have hi : [0, 1, 2, 3].getD k 0 < 100 := by
      have : [0, 1, 2, 3].getD k 0 ∈ [0, 1, 2, 3] := getD_mem 0 hk
      simp only [List.mem_cons, List.not_mem_nil, or_false] at this
      omega
    generalize [0, 1, 2, 3].getD k 0 = ix at hi
    refine dss_cons (ds_asg 4 (DV.frz (dv_call G1 hr2 (dc_scr 0 (dc_cons (dv_var 3) (dc_cons dv_int (dc_cons dv_int dc_nil)))) ⟨ns, ix, 60, 27720, rfl, hi, by decide, by decide, rfl⟩)) ?_ sc_law.nd)
    have dl := digitsV_len ns ix 60 27720
    generalize digitsV ns ix 60 27720 = ds at dl
    obtain ⟨c, ec⟩ : ∃ c : Nat, 1 + ds.getD 50 0 % 10 = c := ⟨(1 + ds.getD 50 0 % 10).toNat, by omega⟩
    have hc : 1 ≤ c ∧ c ≤ 10 := by omega
    refine dss_cons (ds_asg 5 (dv_call G2 hr2 (dc_cons (dv_var 4) (dc_cons (dv_eq' (dv_add dv_int (dv_mod (dv_atL 50 0 (dv_var 4) dv_int (by omega)) dv_int (by decide))) (congrArg PyData.int ec)) dc_nil)) ⟨ds, c, rfl, by omega, by omega, by omega, rfl⟩) ?_ sc_law.nd)
    have ol := namesV_len (ds := ds) (c := c) (by omega) (by omega)
    have ood := namesV_od (ds := ds) (c := c) (by omega) (by omega)
    have om := namesV_mem (ds := ds) (c := c) (by omega) (by omega)
    generalize namesV ds c = o at ol ood om
    have one : o ≠ [] := fun e => by rw [e] at ol; simp at ol; omega
    have onm : ∀ x ∈ o, PyData.strOk x = true ∧ x.length ≤ 10 := fun x hx => ⟨ood.str x hx, names10_len x (om x hx)⟩
    refine dss_cons (ds_asg 6 (dv_call G3 hr2 (dc_cons (DV.frz (dv_fromL 15 (dv_var 4) dv_int)) (dc_cons (dv_var 5) (dc_cons dv_int dc_nil))) ⟨ds.drop 15, o, 10, rfl, by decide, by rw [List.length_drop]; omega, one, rfl⟩) ?_ sc_law.nd)
    have stl := scriptV_len (ds := ds.drop 15) (o := o) (n := 10)
    have stm : ∀ z ∈ scriptV (ds.drop 15) o 10, z.2 ∈ o := scriptV_mem one
    generalize scriptV (ds.drop 15) o 10 = st at stl stm
    have h0 : 0 < o.length := by omega
    have ha := onm (o.getD 0 Str.empty) (getD_mem Str.empty h0)
    have hb := onm (o.getLastD Str.empty) (last_mem one)
    have hbx := x_ok (o.getLastD Str.empty) (om _ (last_mem one))
    refine dss_cons (ds_asg 7 (s := .d (.tuple [.str "up", .str (o.getD 0 Str.empty)])) (dv_tup (da_two dv_str (dv_atT 0 Str.empty (dv_var 5) dv_int h0))) ?_ sc_law.nd)
    refine dss_cons (ds_asg 8 (s := .d (.list (scr1 (o.getD 0 Str.empty)))) (DV.frz (dv_lst (ds := scr1 (o.getD 0 Str.empty)) (da_cons (dv_tup da_nil) (da_cons (dv_repT (dv_tup (da_one (dv_var 7))) dv_int (List.cons_ne_nil _ _) (by decide) (by decide) (by show 1 ≤ 1000; decide)) (da_cons (dv_repT (dv_tup (da_one (dv_var 7))) dv_int (List.cons_ne_nil _ _) (by decide) (by decide) (by show 1 ≤ 1000; decide)) (da_cons (dv_var 7) (da_three (dv_lst (da_one (dv_var 7))).frz (dv_tup (da_one (dv_lst (da_two dv_str (dv_atT 0 Str.empty (dv_var 5) dv_int h0))).frz)) (dv_tup (da_one (dv_tup (da_two dv_str (dv_atT 0 Str.empty (dv_var 5) dv_int h0)))))))))) (by show 7 ≤ sizeLine; decide))) ?_ sc_law.nd)
    refine dss_cons (ds_asg 8 (s := .d (.list (scr1 (o.getD 0 Str.empty) ++ scr2 (o.getD 0 Str.empty)))) (DV.frz (dv_catL (dv_var 8) (DV.frz (dv_lst (ds := scr2 (o.getD 0 Str.empty)) (da_cons (dv_tup (da_one (dv_tup (da_two dv_str dv_str)))) (da_cons (dv_tup (da_one (dv_tup (da_two dv_str dv_int)))) (da_three (dv_tup (da_one (dv_tup (da_two dv_int (dv_atT 0 Str.empty (dv_var 5) dv_int h0))))) (dv_tup (da_one (dv_tup (da_one dv_str)))) (dv_tup (da_one (dv_tup (da_three dv_str (dv_atT 0 Str.empty (dv_var 5) dv_int h0) dv_int))))))) (by show 5 ≤ sizeLine; decide))) (by show 7 + 5 ≤ sizeLine; decide))) ?_ sc_law.nd)
    refine dss_cons (ds_asg 8 (s := .own (scr1 (o.getD 0 Str.empty) ++ scr2 (o.getD 0 Str.empty) ++ scr3 st (o.getLastD Str.empty))) (dv_catL (dv_var 8) (DV.frz (dv_lst (ds := scr3 st (o.getLastD Str.empty)) (da_cons (dv_var 6) (da_three (dv_list B.Li (dv_var 6) .t).frz (dv_catT (dv_var 6) (dv_tup (da_one (dv_tup (da_two dv_str (dv_ixTn (g := PyData.str) Str.empty (dv_var 5) (dv_neg dv_int) one))))) (sz (by rw [List.length_map]; show _ + 1 ≤ _; omega))) (dv_catT (dv_var 6) (dv_tup (da_one (dv_tup (da_two dv_str (dv_catS (dv_ixTn (g := PyData.str) Str.empty (dv_var 5) (dv_neg dv_int) one) dv_str (sz (by have := hb.2; show _ + 1 ≤ _; omega))))))) (sz (by rw [List.length_map]; show _ + 1 ≤ _; omega))))) (by show 4 ≤ sizeLine; decide))) (by show 12 + 4 ≤ sizeLine; decide)) ?_ sc_law.nd)
    have hS0 := scr_good (a := o.getD 0 Str.empty) (b := o.getLastD Str.empty) (st := st) ha.1 ha.2 hb.1 hb.2 hbx.1 hbx.2 stl fun z hz => onm z.2 (stm z hz)
    have lS0 : (scr1 (o.getD 0 Str.empty) ++ scr2 (o.getD 0 Str.empty) ++ scr3 st (o.getLastD Str.empty)).length = 16 := rfl
    generalize scr1 (o.getD 0 Str.empty) ++ scr2 (o.getD 0 Str.empty) ++ scr3 st (o.getLastD Str.empty) = S0 at hS0 lS0
    have vO : Vb 10 2 (pO o) := .tup (by rw [List.length_map]; omega) fun e he => by
      obtain ⟨x, hx, rfl⟩ := List.mem_map.mp he
      exact .str (onm x hx).1 (by have := (onm x hx).2; omega)
    have vS : Vb 10 2 (pS st) := .tup (by rw [List.length_map]; omega) fun e he => by
      obtain ⟨z, hz, rfl⟩ := List.mem_map.mp he
      refine .tup (by show 2 ≤ 10; decide) fun u hu => ?_
      simp only [List.mem_cons, List.not_mem_nil, or_false] at hu
      rcases hu with rfl | rfl
      · exact .str (ks_ok z.1) (by cases z.1 <;> decide +kernel)
      · exact .str (onm _ (stm z hz)).1 (by have := (onm _ (stm z hz)).2; omega)
    refine dss_cons (ds_ft (τ := List D) (fun S => [some (.scr ns), none, some (.d (.list vs)), none, some (.d (.list (ds.map .int))), some (.d (pO o)), some (.d (pS st)), none, some (.own S), none, none, none, none, none]) (fun k S => (∀ d ∈ S, Good d) ∧ S.length ≤ 16 + 5 * k) S0 (by intro k q Γ s; exact s.set 9 _) (DIS.nr (di_rng1 B.R dv_int (by decide)) 9) (pgOne sc_law.nd) ⟨hS0, by omega⟩ (.eq rfl (.any (.eq rfl (.any (.eq rfl (.eq rfl (.eq rfl (.any (.eq rfl (.any (.any (.any (.any (.any .nil)))))))))))))) (fun j S hj hS => ?_) (fun S hS Γ2 sub => dss_sub sub ?_))
    · have hj : j < 10 := hj
      unfold yr
      rw [Int.zero_add]
      have rl : ((ds.drop (5 * j)).take (5 * j + 5 - 5 * j)).length = 5 := by rw [List.length_take, List.length_drop]; omega
      refine dss_cons (ds_asg 10 (DV.frz (dv_midL (5 * j) (5 * j + 5) (dv_var 4) (dv_mul dv_int (dv_var 9) (.inl (by decide))) (dv_add (dv_mul dv_int (dv_var 9) (.inl (by decide))) dv_int))) ?_ sc_law.nd)
      generalize (ds.drop (5 * j)).take (5 * j + 5 - 5 * j) = R at rl
      refine dss_cons (ds_ft (τ := List D) (fun S => [some (.scr ns), none, some (.d (.list vs)), none, some (.d (.list (ds.map .int))), some (.d (pO o)), some (.d (pS st)), none, some (.own S), some (.d (.int (j : Nat))), some (.d (.list (R.map .int))), none, none, none]) (fun i S => (∀ d ∈ S, Good d) ∧ S.length ≤ 16 + 5 * j + 2 * i) S (by intro k q Γ s; exact s.set 11 _) (DIS_self (ds := [pO o, pS st]) (di_tup (dv_tup (da_two (dv_var 5) (dv_var 6)))) 11) (pgOne sc_law.nd) ⟨hS.1, by have := hS.2; omega⟩ (.eq rfl (.any (.eq rfl (.any (.eq rfl (.eq rfl (.eq rfl (.any (.eq rfl (.eq rfl (.eq rfl (.any (.any (.any .nil)))))))))))))) (fun i S1 hi1 hS1 => ?_) (fun S1 hS1 Γ2 sub => dss_sub sub ?_))
      · unfold y1
        have hi1 : i < 2 := hi1
        have vb : Vb 10 2 ([pO o, pS st].getD i PyData.none) := by
          have : [pO o, pS st].getD i PyData.none ∈ [pO o, pS st] := getD_mem _ hi1
          simp only [List.mem_cons, List.not_mem_nil, or_false] at this
          rcases this with h | h <;> rw [h]
          · exact vO
          · exact vS
        generalize [pO o, pS st].getD i PyData.none = bd at vb
        have v1 := vb_mut R (by decide) vb
        have v2 := vb_mut R.reverse (by decide) v1
        refine dss_cons (ds_asg 12 (dv_call G4 hr (dc_cons (dv_var 11) (dc_cons (dv_var 10) dc_nil)) ⟨bd, R, rfl, vb.up (by decide) (by decide), by omega, rfl⟩) ?_ sc_law.nd)
        refine dss_frz 8 rfl ?_
        refine dss_cons (ds_asg 8 (s := .own (S1 ++ [mutV bd R, mutV (mutV bd R) R.reverse])) (dv_catL (dv_var 8) (DV.frz (dv_lst (da_two (dv_var 12) (dv_call G4 hr (dc_cons (dv_var 12) (dc_cons (DV.frz (DV.cast (dv_revL (dv_var 10)) (by rw [← List.map_reverse]))) dc_nil)) ⟨mutV bd R, R.reverse, rfl, v1.up (by decide) (by decide), by rw [List.length_reverse]; omega, rfl⟩)))) (sz (by have := hS1.2; show S1.length + 2 ≤ _; omega))) (dss_nil ?_) sc_law.nd)
        refine ⟨S1 ++ [mutV bd R, mutV (mutV bd R) R.reverse], ⟨fun d hd => ?_, ?_⟩, .eq rfl (.any (.eq rfl (.any (.eq rfl (.eq rfl (.eq rfl (.any (.eq rfl (.eq rfl (.eq rfl (.any (.any (.any .nil)))))))))))))⟩
        · rcases List.mem_append.mp hd with hd | hd
          · exact hS1.1 d hd
          · simp only [List.mem_cons, List.not_mem_nil, or_false] at hd
            rcases hd with rfl | rfl
            · exact ⟨3, by decide, v1.vd (by decide)⟩
            · exact ⟨4, by decide, v2.vd (by decide)⟩
        · have := hS1.2
          rw [List.length_append]
          show S1.length + 2 ≤ _
          omega
      · have hl1 : S1.length ≤ 16 + 5 * j + 2 * 2 := hS1.2
        refine dss_cons (ds_app 8 rfl (dv_call G5 hr5 (dc_cons (DV.frz (dv_catLm (g := PyData.int) (dv_fromL j (dv_var 4) (dv_var 9) rfl).frz (dv_toL j (dv_var 4) (dv_var 9) rfl).frz (sz (by rw [List.length_drop, List.length_take]; omega)))) (dc_cons dv_int dc_nil)) ⟨ds.drop j ++ ds.take j, 0, rfl, by rw [List.length_append, List.length_drop, List.length_take]; omega, rfl, rfl⟩) (szl (by omega)) (dss_nil ?_))
        refine ⟨S1 ++ [anyV 4 (ds.drop j ++ ds.take j) 0], ⟨fun d hd => ?_, ?_⟩, .eq rfl (.any (.eq rfl (.any (.eq rfl (.eq rfl (.eq rfl (.any (.eq rfl (.any (.any (.any (.any (.any .nil)))))))))))))⟩
        · rcases List.mem_append.mp hd with hd | hd
          · exact hS1.1 d hd
          · rw [List.mem_singleton.mp hd]
            exact ⟨4, by decide, (vb_any 4 _ 0).vd (by decide)⟩
        · rw [List.length_append]
          show S1.length + 1 ≤ _
          omega
    · have hl1 : S.length ≤ 16 + 5 * 10 := hS.2
      refine dss_frz 8 rfl ?_
      have g3 : ∀ d ∈ [pO o, pO o.reverse, pO (o ++ o.take 1)], Good d := by
        have gp : ∀ t : List Str, t.length ≤ 11 → (∀ x ∈ t, x ∈ o) → Good (pO t) := fun t hl hm => ⟨1, by decide, .tup (by rw [List.length_map]; omega) fun e he => by
          obtain ⟨x, hx, rfl⟩ := List.mem_map.mp he
          exact .str (onm x (hm x hx)).1 (by have := (onm x (hm x hx)).2; omega)⟩
        intro d hd
        simp only [List.mem_cons, List.not_mem_nil, or_false] at hd
        rcases hd with rfl | rfl | rfl
        · exact gp o (by omega) fun x hx => hx
        · exact gp _ (by rw [List.length_reverse]; omega) fun x hx => List.mem_reverse.mp hx
        · exact gp _ (by rw [List.length_append, List.length_take]; omega) fun x hx => (List.mem_append.mp hx).elim id List.mem_of_mem_take
      have gall : ∀ d ∈ vs ++ S ++ [pO o, pO o.reverse, pO (o ++ o.take 1)], Good d := fun d hd => by
        rcases List.mem_append.mp hd with hd | hd
        · exact (List.mem_append.mp hd).elim (hvs d) (hS.1 d)
        · exact g3 d hd
      refine dss_cons (ds_fp (fun _ => [some (.scr ns), none, some (.d (.list vs)), none, none, some (.d (pO o)), none, none, none, none, none, none, none, none]) (DIS_self (ds := vs ++ S ++ [pO o, pO o.reverse, pO (o ++ o.take 1)]) (di_list (DV.frz (dv_catL (DV.frz (dv_catL (dv_var 2) (dv_var 8) (sz (by omega)))) (DV.frz (dv_lst (da_three (dv_var 5) (dv_revTm (dv_var 5)) (dv_catTm (g := PyData.str) (dv_var 5) (dv_toT 1 (dv_var 5) dv_int) (sz (by rw [List.length_take]; omega)))))) (sz (by rw [List.length_append]; show vs.length + S.length + 3 ≤ _; omega))))) 13) (pgOne sc_law.nd) (.eq rfl (.any (.eq rfl (.any (.any (.eq rfl (.any (.any (.any (.any (.any (.any (.any (.any .nil)))))))))))))) (fun j hj => ?_) ?_)
      · unfold y1
        obtain ⟨n, hn, hv⟩ := gall _ (getD_mem PyData.none hj)
        generalize (vs ++ S ++ [pO o, pO o.reverse, pO (o ++ o.take 1)]).getD j PyData.none = d at hv
        refine dss_cons (ds_if (k := false) (dt_eq (dt_not (dt_val (dv_call G6 hr1 (dc_cons (dv_call G7 hr2 (dc_cons (dv_var 13) dc_nil) ⟨d, rfl, ⟨n, hv⟩, rfl⟩) (dc_cons (dv_call G8 hr2 (dc_cons (dv_var 13) dc_nil) ⟨d, rfl, ⟨n, hn, hv⟩, rfl⟩) dc_nil)) ⟨_, _, rfl, rfl⟩))) (by rw [beq_self_eq_true]; rfl)) (fun h => by cases h) fun _ => dss_nil ?_)
        refine dss_cons (ds_if (k := false) (dt_eq (dt_not (dt_val (dv_call G6 hr1 (dc_cons (dv_call G9 hr2 (dc_cons (dv_var 5) (dc_cons (dv_var 13) dc_nil)) ⟨o, d, rfl, ⟨n, hv⟩, rfl⟩) (dc_cons (dv_call G10 hr1 (dc_cons (dv_var 5) (dc_cons (dv_var 13) dc_nil)) ⟨o, d, rfl, ⟨n, hv⟩, rfl⟩) dc_nil)) ⟨_, _, rfl, rfl⟩))) (by rw [beq_self_eq_true]; rfl)) (fun h => by cases h) fun _ => dss_nil (dss_nil ?_))
        exact .eq rfl (.any (.eq rfl (.any (.any (.eq rfl (.any (.any (.any (.any (.any (.any (.any (.any .nil)))))))))))))
      · refine dss_nil ?_
        exact .eq rfl (.any (.eq rfl (.any (.any (.any (.any (.any (.any (.any (.any (.any (.any (.any .nil)))))))))))))
  · exact dss_cons (ds_ret dv_bl rfl)
end
theorem law_sp {K : PySem.W.Frag} {H : Hp} {a : Addr} {ns : List Int} (hn : ns.length ≤ 63) (h : SqL K H a (ns.map V.int)) : spD K c_law [.ref a] H (fun v _ => v = .bl true) fun _ _ _ => False :=
  ⟨H, [.scr ns], .d (.bool true), Same.refl _, .cons ⟨rfl, a, rfl, h⟩ .nil, ⟨ns, rfl, rfl⟩, fun v F' H' g ok => by cases ok; rfl⟩
/-! ### what the top has written -/
theorem td_mk {K : PySem.W.Frag} {h : Heap} {mg : Str → Option Value} {x : Str} {st : Stmt} {ps : List Str} {f : Addr} {oc : Value} {od an : Option Addr} {sl : Array (Option Value)} {kV dc pm cd ct : Value} (X : K.In h) (G : h.Ns mainGlobals mg) (a : PySem.W.nsIn K mainGlobals x = some (some (.ref f)))
    (l : K.lookup f = some ⟨oc, od, .func (PySem.W.fnOf x x (defArgs st) (defBody st) (defScope st) .none kV dc pm an cd ct), sl⟩) (c : PySem.W.codeIn K cd x = true) (k : PySem.W.keepIn K (.ref f) = true)
    (hb : ∀ (kV doc pm : Value) (an : Option Addr) (cdv ct : Value) (us : List Value), us.length = ps.length → bindArgs (PySem.W.fnOf x x (defArgs st) (defBody st) (defScope st) .none kV doc pm an cdv ct) ⟨us, []⟩ = pure (ps.zip us)) : Td K mg x st ps :=
  ⟨f, _, fun_mk (st := st) l c k, PySem.W.mg_of X G a, (fun_mk (st := st) l c k).binds hb⟩
theorem all_mk {l : PySem.W.OpenLaw} {w : World} {K : PySem.W.Frag} {h : Heap} {mg : Str → Option Value} {fa f1 f2 f3 f4 f5 f6 f7 f8 f9 f10 f11 f12 f13 f14 f15 f16 f17 f18 f19 f20 f21 : Addr} (X : K.In h) (G : h.Ns mainGlobals mg) (hfa : mg "law" = some (.ref fa))
    {tkC : Tok} (cLETTERS : PySem.W.nsIn K mainGlobals "LETTERS" = some (some (.str "abcdefghijklmnopqrstuvwxyz" tkC)))
    {od1 an1 : Option Addr} {sl1 : Array (Option Value)} {oc1 kV1 dc1 pm1 cd1 ct1 : Value} (a1 : PySem.W.nsIn K mainGlobals "is_layer" = some (some (.ref f1))) (l1 : K.lookup f1 = some ⟨oc1, od1, .func (PySem.W.fnOf "is_layer" "is_layer" (defArgs s_is_layer) (defBody s_is_layer) (defScope s_is_layer) .none kV1 dc1 pm1 an1 cd1 ct1), sl1⟩) (c1 : PySem.W.codeIn K cd1 "is_layer" = true) (k1 : PySem.W.keepIn K (.ref f1) = true)
    {od2 an2 : Option Addr} {sl2 : Array (Option Value)} {oc2 kV2 dc2 pm2 cd2 ct2 : Value} (a2 : PySem.W.nsIn K mainGlobals "is_order" = some (some (.ref f2))) (l2 : K.lookup f2 = some ⟨oc2, od2, .func (PySem.W.fnOf "is_order" "is_order" (defArgs s_is_order) (defBody s_is_order) (defScope s_is_order) .none kV2 dc2 pm2 an2 cd2 ct2), sl2⟩) (c2 : PySem.W.codeIn K cd2 "is_order" = true) (k2 : PySem.W.keepIn K (.ref f2) = true)
    {od3 an3 : Option Addr} {sl3 : Array (Option Value)} {oc3 kV3 dc3 pm3 cd3 ct3 : Value} (a3 : PySem.W.nsIn K mainGlobals "is_command" = some (some (.ref f3))) (l3 : K.lookup f3 = some ⟨oc3, od3, .func (PySem.W.fnOf "is_command" "is_command" (defArgs s_is_command) (defBody s_is_command) (defScope s_is_command) .none kV3 dc3 pm3 an3 cd3 ct3), sl3⟩) (c3 : PySem.W.codeIn K cd3 "is_command" = true) (k3 : PySem.W.keepIn K (.ref f3) = true)
    {od4 an4 : Option Addr} {sl4 : Array (Option Value)} {oc4 kV4 dc4 pm4 cd4 ct4 : Value} (a4 : PySem.W.nsIn K mainGlobals "is_script" = some (some (.ref f4))) (l4 : K.lookup f4 = some ⟨oc4, od4, .func (PySem.W.fnOf "is_script" "is_script" (defArgs s_is_script) (defBody s_is_script) (defScope s_is_script) .none kV4 dc4 pm4 an4 cd4 ct4), sl4⟩) (c4 : PySem.W.codeIn K cd4 "is_script" = true) (k4 : PySem.W.keepIn K (.ref f4) = true)
    {od5 an5 : Option Addr} {sl5 : Array (Option Value)} {oc5 kV5 dc5 pm5 cd5 ct5 : Value} (a5 : PySem.W.nsIn K mainGlobals "_law_cell" = some (some (.ref f5))) (l5 : K.lookup f5 = some ⟨oc5, od5, .func (PySem.W.fnOf "_law_cell" "_law_cell" (defArgs s__law_cell) (defBody s__law_cell) (defScope s__law_cell) .none kV5 dc5 pm5 an5 cd5 ct5), sl5⟩) (c5 : PySem.W.codeIn K cd5 "_law_cell" = true) (k5 : PySem.W.keepIn K (.ref f5) = true)
    {od6 an6 : Option Addr} {sl6 : Array (Option Value)} {oc6 kV6 dc6 pm6 cd6 ct6 : Value} (a6 : PySem.W.nsIn K mainGlobals "_law_digits" = some (some (.ref f6))) (l6 : K.lookup f6 = some ⟨oc6, od6, .func (PySem.W.fnOf "_law_digits" "_law_digits" (defArgs s__law_digits) (defBody s__law_digits) (defScope s__law_digits) .none kV6 dc6 pm6 an6 cd6 ct6), sl6⟩) (c6 : PySem.W.codeIn K cd6 "_law_digits" = true) (k6 : PySem.W.keepIn K (.ref f6) = true)
    {od7 an7 : Option Addr} {sl7 : Array (Option Value)} {oc7 kV7 dc7 pm7 cd7 ct7 : Value} (a7 : PySem.W.nsIn K mainGlobals "_law_same_bool" = some (some (.ref f7))) (l7 : K.lookup f7 = some ⟨oc7, od7, .func (PySem.W.fnOf "_law_same_bool" "_law_same_bool" (defArgs s__law_same_bool) (defBody s__law_same_bool) (defScope s__law_same_bool) .none kV7 dc7 pm7 an7 cd7 ct7), sl7⟩) (c7 : PySem.W.codeIn K cd7 "_law_same_bool" = true) (k7 : PySem.W.keepIn K (.ref f7) = true)
    {od8 an8 : Option Addr} {sl8 : Array (Option Value)} {oc8 kV8 dc8 pm8 cd8 ct8 : Value} (a8 : PySem.W.nsIn K mainGlobals "_law_paths" = some (some (.ref f8))) (l8 : K.lookup f8 = some ⟨oc8, od8, .func (PySem.W.fnOf "_law_paths" "_law_paths" (defArgs s__law_paths) (defBody s__law_paths) (defScope s__law_paths) .none kV8 dc8 pm8 an8 cd8 ct8), sl8⟩) (c8 : PySem.W.codeIn K cd8 "_law_paths" = true) (k8 : PySem.W.keepIn K (.ref f8) = true)
    {od9 an9 : Option Addr} {sl9 : Array (Option Value)} {oc9 kV9 dc9 pm9 cd9 ct9 : Value} (a9 : PySem.W.nsIn K mainGlobals "_law_other_value" = some (some (.ref f9))) (l9 : K.lookup f9 = some ⟨oc9, od9, .func (PySem.W.fnOf "_law_other_value" "_law_other_value" (defArgs s__law_other_value) (defBody s__law_other_value) (defScope s__law_other_value) .none kV9 dc9 pm9 an9 cd9 ct9), sl9⟩) (c9 : PySem.W.codeIn K cd9 "_law_other_value" = true) (k9 : PySem.W.keepIn K (.ref f9) = true)
    {od10 an10 : Option Addr} {sl10 : Array (Option Value)} {oc10 kV10 dc10 pm10 cd10 ct10 : Value} (a10 : PySem.W.nsIn K mainGlobals "_law_moved_item" = some (some (.ref f10))) (l10 : K.lookup f10 = some ⟨oc10, od10, .func (PySem.W.fnOf "_law_moved_item" "_law_moved_item" (defArgs s__law_moved_item) (defBody s__law_moved_item) (defScope s__law_moved_item) .none kV10 dc10 pm10 an10 cd10 ct10), sl10⟩) (c10 : PySem.W.codeIn K cd10 "_law_moved_item" = true) (k10 : PySem.W.keepIn K (.ref f10) = true)
    {od11 an11 : Option Addr} {sl11 : Array (Option Value)} {oc11 kV11 dc11 pm11 cd11 ct11 : Value} (a11 : PySem.W.nsIn K mainGlobals "_law_change_at" = some (some (.ref f11))) (l11 : K.lookup f11 = some ⟨oc11, od11, .func (PySem.W.fnOf "_law_change_at" "_law_change_at" (defArgs s__law_change_at) (defBody s__law_change_at) (defScope s__law_change_at) .none kV11 dc11 pm11 an11 cd11 ct11), sl11⟩) (c11 : PySem.W.codeIn K cd11 "_law_change_at" = true) (k11 : PySem.W.keepIn K (.ref f11) = true)
    {od12 an12 : Option Addr} {sl12 : Array (Option Value)} {oc12 kV12 dc12 pm12 cd12 ct12 : Value} (a12 : PySem.W.nsIn K mainGlobals "_law_mutated" = some (some (.ref f12))) (l12 : K.lookup f12 = some ⟨oc12, od12, .func (PySem.W.fnOf "_law_mutated" "_law_mutated" (defArgs s__law_mutated) (defBody s__law_mutated) (defScope s__law_mutated) .none kV12 dc12 pm12 an12 cd12 ct12), sl12⟩) (c12 : PySem.W.codeIn K cd12 "_law_mutated" = true) (k12 : PySem.W.keepIn K (.ref f12) = true)
    {od13 an13 : Option Addr} {sl13 : Array (Option Value)} {oc13 kV13 dc13 pm13 cd13 ct13 : Value} (a13 : PySem.W.nsIn K mainGlobals "_law_any_value" = some (some (.ref f13))) (l13 : K.lookup f13 = some ⟨oc13, od13, .func (PySem.W.fnOf "_law_any_value" "_law_any_value" (defArgs s__law_any_value) (defBody s__law_any_value) (defScope s__law_any_value) .none kV13 dc13 pm13 an13 cd13 ct13), sl13⟩) (c13 : PySem.W.codeIn K cd13 "_law_any_value" = true) (k13 : PySem.W.keepIn K (.ref f13) = true)
    {od14 an14 : Option Addr} {sl14 : Array (Option Value)} {oc14 kV14 dc14 pm14 cd14 ct14 : Value} (a14 : PySem.W.nsIn K mainGlobals "_law_names" = some (some (.ref f14))) (l14 : K.lookup f14 = some ⟨oc14, od14, .func (PySem.W.fnOf "_law_names" "_law_names" (defArgs s__law_names) (defBody s__law_names) (defScope s__law_names) .none kV14 dc14 pm14 an14 cd14 ct14), sl14⟩) (c14 : PySem.W.codeIn K cd14 "_law_names" = true) (k14 : PySem.W.keepIn K (.ref f14) = true)
    {od15 an15 : Option Addr} {sl15 : Array (Option Value)} {oc15 kV15 dc15 pm15 cd15 ct15 : Value} (a15 : PySem.W.nsIn K mainGlobals "_law_mixed" = some (some (.ref f15))) (l15 : K.lookup f15 = some ⟨oc15, od15, .func (PySem.W.fnOf "_law_mixed" "_law_mixed" (defArgs s__law_mixed) (defBody s__law_mixed) (defScope s__law_mixed) .none kV15 dc15 pm15 an15 cd15 ct15), sl15⟩) (c15 : PySem.W.codeIn K cd15 "_law_mixed" = true) (k15 : PySem.W.keepIn K (.ref f15) = true)
    {od16 an16 : Option Addr} {sl16 : Array (Option Value)} {oc16 kV16 dc16 pm16 cd16 ct16 : Value} (a16 : PySem.W.nsIn K mainGlobals "_law_command" = some (some (.ref f16))) (l16 : K.lookup f16 = some ⟨oc16, od16, .func (PySem.W.fnOf "_law_command" "_law_command" (defArgs s__law_command) (defBody s__law_command) (defScope s__law_command) .none kV16 dc16 pm16 an16 cd16 ct16), sl16⟩) (c16 : PySem.W.codeIn K cd16 "_law_command" = true) (k16 : PySem.W.keepIn K (.ref f16) = true)
    {od17 an17 : Option Addr} {sl17 : Array (Option Value)} {oc17 kV17 dc17 pm17 cd17 ct17 : Value} (a17 : PySem.W.nsIn K mainGlobals "_law_script" = some (some (.ref f17))) (l17 : K.lookup f17 = some ⟨oc17, od17, .func (PySem.W.fnOf "_law_script" "_law_script" (defArgs s__law_script) (defBody s__law_script) (defScope s__law_script) .none kV17 dc17 pm17 an17 cd17 ct17), sl17⟩) (c17 : PySem.W.codeIn K cd17 "_law_script" = true) (k17 : PySem.W.keepIn K (.ref f17) = true)
    {od18 an18 : Option Addr} {sl18 : Array (Option Value)} {oc18 kV18 dc18 pm18 cd18 ct18 : Value} (a18 : PySem.W.nsIn K mainGlobals "_law_is_layer" = some (some (.ref f18))) (l18 : K.lookup f18 = some ⟨oc18, od18, .func (PySem.W.fnOf "_law_is_layer" "_law_is_layer" (defArgs s__law_is_layer) (defBody s__law_is_layer) (defScope s__law_is_layer) .none kV18 dc18 pm18 an18 cd18 ct18), sl18⟩) (c18 : PySem.W.codeIn K cd18 "_law_is_layer" = true) (k18 : PySem.W.keepIn K (.ref f18) = true)
    {od19 an19 : Option Addr} {sl19 : Array (Option Value)} {oc19 kV19 dc19 pm19 cd19 ct19 : Value} (a19 : PySem.W.nsIn K mainGlobals "_law_is_order" = some (some (.ref f19))) (l19 : K.lookup f19 = some ⟨oc19, od19, .func (PySem.W.fnOf "_law_is_order" "_law_is_order" (defArgs s__law_is_order) (defBody s__law_is_order) (defScope s__law_is_order) .none kV19 dc19 pm19 an19 cd19 ct19), sl19⟩) (c19 : PySem.W.codeIn K cd19 "_law_is_order" = true) (k19 : PySem.W.keepIn K (.ref f19) = true)
    {od20 an20 : Option Addr} {sl20 : Array (Option Value)} {oc20 kV20 dc20 pm20 cd20 ct20 : Value} (a20 : PySem.W.nsIn K mainGlobals "_law_is_script" = some (some (.ref f20))) (l20 : K.lookup f20 = some ⟨oc20, od20, .func (PySem.W.fnOf "_law_is_script" "_law_is_script" (defArgs s__law_is_script) (defBody s__law_is_script) (defScope s__law_is_script) .none kV20 dc20 pm20 an20 cd20 ct20), sl20⟩) (c20 : PySem.W.codeIn K cd20 "_law_is_script" = true) (k20 : PySem.W.keepIn K (.ref f20) = true)
    {od21 an21 : Option Addr} {sl21 : Array (Option Value)} {oc21 kV21 dc21 pm21 cd21 ct21 : Value} (a21 : PySem.W.nsIn K mainGlobals "law" = some (some (.ref f21))) (l21 : K.lookup f21 = some ⟨oc21, od21, .func (PySem.W.fnOf "law" "law" (defArgs s_law) (defBody s_law) (defScope s_law) .none kV21 dc21 pm21 an21 cd21 ct21), sl21⟩) (c21 : PySem.W.codeIn K cd21 "law" = true) (k21 : PySem.W.keepIn K (.ref f21) = true)
    (z0 : PySem.W.nsIn K mainGlobals "len" = some none) (z1 : PySem.W.nsIn K mainGlobals "range" = some none) (z2 : PySem.W.nsIn K mainGlobals "enumerate" = some none) (z3 : PySem.W.nsIn K mainGlobals "tuple" = some none) (z4 : PySem.W.nsIn K mainGlobals "list" = some none) (z5 : PySem.W.nsIn K mainGlobals "sorted" = some none) (z6 : PySem.W.nsIn K mainGlobals "max" = some none) (z7 : PySem.W.nsIn K mainGlobals "min" = some none) (z8 : PySem.W.nsIn K mainGlobals "int" = some none) (z9 : PySem.W.nsIn K mainGlobals "isinstance" = some none) (z10 : PySem.W.nsIn K mainGlobals "sum" = some none) (z11 : PySem.W.nsIn K mainGlobals "all" = some none) (z12 : PySem.W.nsIn K mainGlobals "zip" = some none) (z13 : PySem.W.nsIn K mainGlobals "set" = some none) (z14 : PySem.W.nsIn K mainGlobals "str" = some none) (z15 : PySem.W.nsIn K mainGlobals "bool" = some none) (z16 : PySem.W.nsIn K mainGlobals "dict" = some none) :
    ∃ fd : FuncData, (∀ (s : Shared) (v : Value), BindsTo s fd ⟨[v], []⟩ [("script", v)]) ∧ ∀ base : Heap, K.In base → base.Ns mainGlobals mg → FnOk l.prog w K mg base CX0 8 fa fd ["script"] (spD K c_law) := by
  have e := hfa.symm.trans (PySem.W.mg_of X G a21)
  cases e
  have B : Bs mg := ⟨PySem.W.mg_none_of X G z0, PySem.W.mg_none_of X G z1, PySem.W.mg_none_of X G z2, PySem.W.mg_none_of X G z3, PySem.W.mg_none_of X G z4, PySem.W.mg_none_of X G z5, PySem.W.mg_none_of X G z6, PySem.W.mg_none_of X G z7, PySem.W.mg_none_of X G z8, PySem.W.mg_none_of X G z9, PySem.W.mg_none_of X G z10, PySem.W.mg_none_of X G z11, PySem.W.mg_none_of X G z12, PySem.W.mg_none_of X G z13, PySem.W.mg_none_of X G z14, PySem.W.mg_none_of X G z15, PySem.W.mg_none_of X G z16⟩
  have C : Cs mg := ⟨⟨_, PySem.W.mg_of X G cLETTERS⟩⟩
  have T1 : Td K mg "is_layer" s_is_layer ["value"] := td_mk X G a1 l1 c1 k1 fun _ _ _ _ _ _ us hl => match us, hl with | [_], _ => rfl
  have T2 : Td K mg "is_order" s_is_order ["value"] := td_mk X G a2 l2 c2 k2 fun _ _ _ _ _ _ us hl => match us, hl with | [_], _ => rfl
  have T3 : Td K mg "is_command" s_is_command ["order", "value"] := td_mk X G a3 l3 c3 k3 fun _ _ _ _ _ _ us hl => match us, hl with | [_, _], _ => rfl
  have T4 : Td K mg "is_script" s_is_script ["order", "value"] := td_mk X G a4 l4 c4 k4 fun _ _ _ _ _ _ us hl => match us, hl with | [_, _], _ => rfl
  have T5 : Td K mg "_law_cell" s__law_cell ["script", "index"] := td_mk X G a5 l5 c5 k5 fun _ _ _ _ _ _ us hl => match us, hl with | [_, _], _ => rfl
  have T6 : Td K mg "_law_digits" s__law_digits ["script", "index", "count", "base"] := td_mk X G a6 l6 c6 k6 fun _ _ _ _ _ _ us hl => match us, hl with | [_, _, _, _], _ => rfl
  have T7 : Td K mg "_law_same_bool" s__law_same_bool ["result", "expected"] := td_mk X G a7 l7 c7 k7 fun _ _ _ _ _ _ us hl => match us, hl with | [_, _], _ => rfl
  have T8 : Td K mg "_law_paths" s__law_paths ["value"] := td_mk X G a8 l8 c8 k8 fun _ _ _ _ _ _ us hl => match us, hl with | [_], _ => rfl
  have T9 : Td K mg "_law_other_value" s__law_other_value ["value", "digits"] := td_mk X G a9 l9 c9 k9 fun _ _ _ _ _ _ us hl => match us, hl with | [_, _], _ => rfl
  have T10 : Td K mg "_law_moved_item" s__law_moved_item ["items", "index", "digits"] := td_mk X G a10 l10 c10 k10 fun _ _ _ _ _ _ us hl => match us, hl with | [_, _, _], _ => rfl
  have T11 : Td K mg "_law_change_at" s__law_change_at ["value", "path", "digits"] := td_mk X G a11 l11 c11 k11 fun _ _ _ _ _ _ us hl => match us, hl with | [_, _, _], _ => rfl
  have T12 : Td K mg "_law_mutated" s__law_mutated ["value", "digits"] := td_mk X G a12 l12 c12 k12 fun _ _ _ _ _ _ us hl => match us, hl with | [_, _], _ => rfl
  have T13 : Td K mg "_law_any_value" s__law_any_value ["digits", "depth"] := td_mk X G a13 l13 c13 k13 fun _ _ _ _ _ _ us hl => match us, hl with | [_, _], _ => rfl
  have T14 : Td K mg "_law_names" s__law_names ["digits", "count"] := td_mk X G a14 l14 c14 k14 fun _ _ _ _ _ _ us hl => match us, hl with | [_, _], _ => rfl
  have T15 : Td K mg "_law_mixed" s__law_mixed ["digits", "names"] := td_mk X G a15 l15 c15 k15 fun _ _ _ _ _ _ us hl => match us, hl with | [_, _], _ => rfl
  have T16 : Td K mg "_law_command" s__law_command ["digits", "order"] := td_mk X G a16 l16 c16 k16 fun _ _ _ _ _ _ us hl => match us, hl with | [_, _], _ => rfl
  have T17 : Td K mg "_law_script" s__law_script ["digits", "order", "size"] := td_mk X G a17 l17 c17 k17 fun _ _ _ _ _ _ us hl => match us, hl with | [_, _, _], _ => rfl
  have T18 : Td K mg "_law_is_layer" s__law_is_layer ["value"] := td_mk X G a18 l18 c18 k18 fun _ _ _ _ _ _ us hl => match us, hl with | [_], _ => rfl
  have T19 : Td K mg "_law_is_order" s__law_is_order ["value"] := td_mk X G a19 l19 c19 k19 fun _ _ _ _ _ _ us hl => match us, hl with | [_], _ => rfl
  have T20 : Td K mg "_law_is_script" s__law_is_script ["order", "value"] := td_mk X G a20 l20 c20 k20 fun _ _ _ _ _ _ us hl => match us, hl with | [_, _], _ => rfl
  refine ⟨PySem.W.fnOf "law" "law" (defArgs s_law) (defBody s_law) (defScope s_law) .none kV21 dc21 pm21 an21 cd21 ct21, fun s v => .of_eq rfl, fun base _ _ => ?_⟩
  have G__law_cell := fd__law_cell (P := l.prog) (w := w) (base := base) T5 B
  have G__law_digits := fd__law_digits (P := l.prog) (w := w) (base := base) T6 B G__law_cell
  have G__law_mixed := fd__law_mixed (P := l.prog) (w := w) (base := base) T15 B
  have G__law_names := fd__law_names (P := l.prog) (w := w) (base := base) T14 G__law_mixed
  have G__law_command := fd__law_command (P := l.prog) (w := w) (base := base) T16 B
  have G__law_script := fd__law_script (P := l.prog) (w := w) (base := base) T17 B G__law_command
  have G__law_paths := fd__law_paths (P := l.prog) (w := w) (base := base) T8 B
  have G__law_other_value := fd__law_other_value (P := l.prog) (w := w) (base := base) T9 B
  have G__law_moved_item := fd__law_moved_item (P := l.prog) (w := w) (base := base) T10 B
  have G__law_change_at := fd__law_change_at (P := l.prog) (w := w) (base := base) T11 B G__law_other_value G__law_moved_item
  have G__law_mutated := fd__law_mutated (P := l.prog) (w := w) (base := base) T12 B G__law_paths G__law_change_at
  have G__law_any_value := fd__law_any_value (P := l.prog) (w := w) (base := base) T13 B
  have G__law_same_bool := fd__law_same_bool (P := l.prog) (w := w) (base := base) T7 B
  have G_is_layer := fd_is_layer (P := l.prog) (w := w) (base := base) T1 B C
  have G_is_order := fd_is_order (P := l.prog) (w := w) (base := base) T2 B G_is_layer
  have G__law_is_layer := fd__law_is_layer (P := l.prog) (w := w) (base := base) T18 B
  have G__law_is_order := fd__law_is_order (P := l.prog) (w := w) (base := base) T19 B G__law_is_layer
  have G_is_command := fd_is_command (P := l.prog) (w := w) (base := base) T3 B
  have G_is_script := fd_is_script (P := l.prog) (w := w) (base := base) T4 B G_is_command
  have G__law_is_script := fd__law_is_script (P := l.prog) (w := w) (base := base) T20 B
  exact ok_law (fun_mk (st := s_law) l21 c21 k21) B G__law_digits G__law_names G__law_script G__law_mutated G__law_any_value G__law_same_bool G_is_order G__law_is_order G_is_script G__law_is_script
end LS
open PySem PySem.W PyProof.Rows
set_option maxHeartbeats 0 in
theorem PySem.Challenge.cw_layersteps_k01_order_and_script_values_holds : PySem.Challenge.rw_layersteps_k01_order_and_script_values.Holds := by
  w_on; o_law; k_head; (case hw => w_witness2)
  k_fill
  refine L2.walk_ofK (l := PySem.Challenge.rw_layersteps_k01_order_and_script_values) (n := 63) (k := 8) (x := "script") (CX := L2.CX0) (sp := fun K => DL.spD K LS.c_law) rfl (by decide) rfl ⟨rfl, by decide, by decide⟩ (fun w h Y => PySem.W.kIn_of Y) ?F (fun K H a ns hn _ hS => LS.law_sp hn hS) (fun _ _ _ _ h => h)
  case F =>
    intro w mg fa h KX G hmg
    refine' LS.all_mk KX G hmg ?cLETTERS ?a1 ?l1 ?c1 ?k1 ?a2 ?l2 ?c2 ?k2 ?a3 ?l3 ?c3 ?k3 ?a4 ?l4 ?c4 ?k4 ?a5 ?l5 ?c5 ?k5 ?a6 ?l6 ?c6 ?k6 ?a7 ?l7 ?c7 ?k7 ?a8 ?l8 ?c8 ?k8 ?a9 ?l9 ?c9 ?k9 ?a10 ?l10 ?c10 ?k10 ?a11 ?l11 ?c11 ?k11 ?a12 ?l12 ?c12 ?k12 ?a13 ?l13 ?c13 ?k13 ?a14 ?l14 ?c14 ?k14 ?a15 ?l15 ?c15 ?k15 ?a16 ?l16 ?c16 ?k16 ?a17 ?l17 ?c17 ?k17 ?a18 ?l18 ?c18 ?k18 ?a19 ?l19 ?c19 ?k19 ?a20 ?l20 ?c20 ?k20 ?a21 ?l21 ?c21 ?k21 ?z0 ?z1 ?z2 ?z3 ?z4 ?z5 ?z6 ?z7 ?z8 ?z9 ?z10 ?z11 ?z12 ?z13 ?z14 ?z15 ?z16
    (case cLETTERS => k_is); (case a1 => k_is); (case l1 => k_is); (case c1 => k_is); (case k1 => k_is); (case a2 => k_is); (case l2 => k_is); (case c2 => k_is); (case k2 => k_is); (case a3 => k_is); (case l3 => k_is); (case c3 => k_is); (case k3 => k_is); (case a4 => k_is); (case l4 => k_is); (case c4 => k_is); (case k4 => k_is); (case a5 => k_is); (case l5 => k_is); (case c5 => k_is); (case k5 => k_is); (case a6 => k_is); (case l6 => k_is); (case c6 => k_is); (case k6 => k_is); (case a7 => k_is); (case l7 => k_is); (case c7 => k_is); (case k7 => k_is); (case a8 => k_is); (case l8 => k_is); (case c8 => k_is); (case k8 => k_is); (case a9 => k_is); (case l9 => k_is); (case c9 => k_is); (case k9 => k_is); (case a10 => k_is); (case l10 => k_is); (case c10 => k_is); (case k10 => k_is); (case a11 => k_is); (case l11 => k_is); (case c11 => k_is); (case k11 => k_is); (case a12 => k_is); (case l12 => k_is); (case c12 => k_is); (case k12 => k_is); (case a13 => k_is); (case l13 => k_is); (case c13 => k_is); (case k13 => k_is); (case a14 => k_is); (case l14 => k_is); (case c14 => k_is); (case k14 => k_is); (case a15 => k_is); (case l15 => k_is); (case c15 => k_is); (case k15 => k_is); (case a16 => k_is); (case l16 => k_is); (case c16 => k_is); (case k16 => k_is); (case a17 => k_is); (case l17 => k_is); (case c17 => k_is); (case k17 => k_is); (case a18 => k_is); (case l18 => k_is); (case c18 => k_is); (case k18 => k_is); (case a19 => k_is); (case l19 => k_is); (case c19 => k_is); (case k19 => k_is); (case a20 => k_is); (case l20 => k_is); (case c20 => k_is); (case k20 => k_is); (case a21 => k_is); (case l21 => k_is); (case c21 => k_is); (case k21 => k_is); (case z0 => k_is); (case z1 => k_is); (case z2 => k_is); (case z3 => k_is); (case z4 => k_is); (case z5 => k_is); (case z6 => k_is); (case z7 => k_is); (case z8 => k_is); (case z9 => k_is); (case z10 => k_is); (case z11 => k_is); (case z12 => k_is); (case z13 => k_is); (case z14 => k_is); (case z15 => k_is); (case z16 => k_is)
