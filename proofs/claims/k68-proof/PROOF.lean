import PyProof.Rows.All
import Wide.All
import OpenK.AllK
import Wide.FinOn
import HandS.ForMost
import HandS.TupAny
import HandS.IsInst
import HandS.Wide
import PySem.Challenge.RW_patchkept_k68_schemas_there_and_back
set_option Elab.async false
set_option linter.all false
set_option maxRecDepth 100000
set_option maxHeartbeats 4000000
/-! ### Pk, part A: the data, the heap, the helpers -/
namespace Pk
open PySem PySem.Spec PyProof.Rows L2
def top (i : Nat) : Stmt := PySem.Challenge.pw_patchkept_k68_schemas_there_and_back.main.body.getD i (.Pass ⟨0, 0, 0, 0⟩)

/-! #### heaps -/
/-- the tuples stand -/
def Tu (H H' : Hp) : Prop := ∀ b xs, H b = some (.tup xs) → H' b = some (.tup xs)
theorem Tu.refl (H : Hp) : Tu H H := fun _ _ h => h
theorem Tu.trans {H H1 H2 : Hp} (a : Tu H H1) (b : Tu H1 H2) : Tu H H2 := fun c o h => b c o (a c o h)
theorem tu_same {H H' : Hp} (s : Same H H') : Tu H H' := fun b xs h => s b _ h
theorem same_new {H : Hp} {p : Addr} (h : H p = none) (o : HO) : Same H (upd H p o) := fun b u q => by
  rw [upd_ne (ne_of_none q h)]; exact q
theorem tu_lst {H : Hp} {p : Addr} {xs ys : List V} (h : H p = some (.lst xs)) : Tu H (upd H p (.lst ys)) := fun b zs q => by
  rw [upd_ne (ne_of q h (fun z => nomatch z))]; exact q
/-- all that stands but in S is as it was -/
def Kp (S : Addr → Prop) (H H' : Hp) : Prop := ∀ b o, ¬ S b → H b = some o → H' b = some o
theorem Kp.refl (S : Addr → Prop) (H : Hp) : Kp S H H := fun _ _ _ h => h
theorem Kp.trans {S : Addr → Prop} {H H1 H2 : Hp} (a : Kp S H H1) (b : Kp S H1 H2) : Kp S H H2 := fun c o n h => b c o n (a c o n h)
theorem kp_same {S : Addr → Prop} {H H' : Hp} (s : Same H H') : Kp S H H' := fun b o _ h => s b o h
theorem Kp.mono {S T : Addr → Prop} {H H' : Hp} (k : Kp S H H') (h : ∀ b, S b → T b) : Kp T H H' := fun b o n q => k b o (fun z => n (h b z)) q

/-! #### data at values -/
mutual
inductive TD (H : Hp) : V → PyData → Prop
  | non : TD H .non .none
  | bl (b : Bool) : TD H (.bl b) (.bool b)
  | int (i : Int) : TD H (.int i) (.int i)
  | str (x : Str) : TD H (.str x) (.str x)
  | tup {a : Addr} {xs : List V} {ds : List PyData} : H a = some (.tup xs) → TDs H xs ds → TD H (.ref a) (.tuple ds)
inductive TDs (H : Hp) : List V → List PyData → Prop
  | nil : TDs H [] []
  | cons {v : V} {vs : List V} {d : PyData} {ds : List PyData} : TD H v d → TDs H vs ds → TDs H (v :: vs) (d :: ds)
end
mutual
theorem TD.mono {H H' : Hp} (k : Tu H H') : ∀ (d : PyData) (v : V), TD H v d → TD H' v d
  | .none, _, h => by cases h; exact .non
  | .bool b, _, h => by cases h; exact .bl b
  | .int i, _, h => by cases h; exact .int i
  | .str x, _, h => by cases h; exact .str x
  | .list _, _, h => by cases h
  | .tuple ds, _, h => by
    cases h with
    | tup h1 h2 => exact .tup (k _ _ h1) (TDs.mono k ds _ h2)
  | .dict _, _, h => by cases h
theorem TDs.mono {H H' : Hp} (k : Tu H H') : ∀ (ds : List PyData) (vs : List V), TDs H vs ds → TDs H' vs ds
  | [], _, h => by cases h; exact .nil
  | d :: ds, _, h => by
    cases h with
    | cons h1 h2 => exact .cons (TD.mono k d _ h1) (TDs.mono k ds _ h2)
end
theorem TD.tu {H H' : Hp} {d : PyData} {v : V} (h : TD H v d) (k : Tu H H') : TD H' v d := TD.mono k d v h
theorem TDs.tu {H H' : Hp} {ds : List PyData} {vs : List V} (h : TDs H vs ds) (k : Tu H H') : TDs H' vs ds := TDs.mono k ds vs h
theorem TD.sm {H H' : Hp} {d : PyData} {v : V} (h : TD H v d) (k : Same H H') : TD H' v d := h.tu (tu_same k)
theorem TDs.sm {H H' : Hp} {ds : List PyData} {vs : List V} (h : TDs H vs ds) (k : Same H H') : TDs H' vs ds := h.tu (tu_same k)
mutual
theorem TD.dp {K : PySem.W.Frag} {H : Hp} : ∀ (d : PyData) (v : V), TD H v d → Dp K H v d
  | .none, _, h => by cases h; exact .non
  | .bool b, _, h => by cases h; exact .bl b
  | .int i, _, h => by cases h; exact .int i
  | .str x, _, h => by cases h; exact .str x
  | .list _, _, h => by cases h
  | .tuple ds, _, h => by
    cases h with
    | tup h1 h2 => exact .tup (SqT.of h1) (TDs.dp ds _ h2)
  | .dict _, _, h => by cases h
theorem TDs.dp {K : PySem.W.Frag} {H : Hp} : ∀ (ds : List PyData) (vs : List V), TDs H vs ds → DpAll K H vs ds
  | [], _, h => by cases h; exact .nil
  | d :: ds, _, h => by
    cases h with
    | cons h1 h2 => exact .cons (TD.dp d _ h1) (TDs.dp ds _ h2)
end
theorem TDs.len {H : Hp} : ∀ {vs : List V} {ds : List PyData}, TDs H vs ds → vs.length = ds.length
  | _, [], h => by cases h; rfl
  | _, d :: ds, h => by
    cases h with
    | cons h1 h2 => rw [List.length_cons, List.length_cons, TDs.len h2]
theorem TDs.at {H : Hp} : ∀ {ds : List PyData} {vs : List V} {i : Nat} {x : V}, TDs H vs ds → vs[i]? = some x → ∃ d, ds[i]? = some d ∧ TD H x d
  | [], _, i, x, h, e => by cases h; simp at e
  | d :: ds, _, 0, x, h, e => by
    cases h with
    | cons h1 h2 =>
      have e' := Option.some.inj e
      exact ⟨d, rfl, by rw [← e']; exact h1⟩
  | d :: ds, _, i + 1, x, h, e => by
    cases h with
    | cons h1 h2 => exact TDs.at (i := i) h2 e
theorem TDs.of {H : Hp} : ∀ {ds : List PyData} {vs : List V}, vs.length = ds.length → (∀ (i : Nat) (x : V), vs[i]? = some x → ∃ d, ds[i]? = some d ∧ TD H x d) → TDs H vs ds
  | [], [], _, _ => .nil
  | [], _ :: _, h, _ => by simp at h
  | _ :: _, [], h, _ => by simp at h
  | d :: ds, v :: vs, h, q => by
    obtain ⟨d', e, t⟩ := q 0 v rfl
    have e' : d = d' := Option.some.inj e
    subst e'
    exact .cons t (TDs.of (by simpa using h) fun i x hx => q (i + 1) x hx)
theorem TDs.atM {α : Type} {f : α → PyData} {H : Hp} {L : List α} {vs : List V} {i : Nat} {x : V} (h : TDs H vs (L.map f)) (e : vs[i]? = some x) : ∃ y, L[i]? = some y ∧ TD H x (f y) := by
  obtain ⟨d, h1, h2⟩ := h.at e
  rw [List.getElem?_map] at h1
  cases q : L[i]? with
  | none => rw [q] at h1; cases h1
  | some y =>
    rw [q] at h1
    have e' : f y = d := Option.some.inj h1
    exact ⟨y, rfl, by rw [e']; exact h2⟩
theorem TDs.ofM {α : Type} {f : α → PyData} {H : Hp} {L : List α} {vs : List V} (h : vs.length = L.length) (q : ∀ (i : Nat) (x : V), vs[i]? = some x → ∃ y, L[i]? = some y ∧ TD H x (f y)) : TDs H vs (L.map f) :=
  TDs.of (by rw [List.length_map]; exact h) fun i x e => by
    obtain ⟨y, h1, h2⟩ := q i x e
    exact ⟨f y, by rw [List.getElem?_map, h1]; rfl, h2⟩
theorem TDs.app {H : Hp} : ∀ {ds es : List PyData} {vs ws : List V}, TDs H vs ds → TDs H ws es → TDs H (vs ++ ws) (ds ++ es)
  | [], es, _, ws, h, k => by cases h; exact k
  | d :: ds, es, _, ws, h, k => by
    cases h with
    | cons h1 h2 => exact .cons h1 (TDs.app h2 k)
theorem ints_of {α : Type} {f : α → Int} : ∀ {L : List α} {vs : List V}, vs.length = L.length → (∀ (i : Nat) (x : V), vs[i]? = some x → ∃ y, L[i]? = some y ∧ x = .int (f y)) → vs = (L.map f).map V.int
  | [], [], _, _ => rfl
  | [], _ :: _, h, _ => by simp at h
  | _ :: _, [], h, _ => by simp at h
  | a :: L, v :: vs, h, q => by
    obtain ⟨y, e, t⟩ := q 0 v rfl
    have e' : a = y := Option.some.inj e
    subst e'
    rw [t, ints_of (f := f) (L := L) (vs := vs) (by simpa using h) fun i x hx => q (i + 1) x hx]
    rfl
theorem bls_of : ∀ {vs : List V}, (∀ (i : Nat) (x : V), vs[i]? = some x → x = .bl true) → vs = (List.replicate vs.length true).map V.bl
  | [], _ => rfl
  | v :: vs, q => by
    have e := q 0 v rfl
    have ih := bls_of (vs := vs) fun i x hx => q (i + 1) x hx
    rw [List.length_cons, List.replicate_succ, List.map_cons, ← ih, e]
theorem all_rep (n : Nat) : (List.replicate n true).all id = true := by
  rw [List.all_eq_true]; intro x hx; exact (List.mem_replicate.mp hx).2
/-! inversions -/
theorem TD.i_str {H : Hp} {v : V} {x : Str} (h : TD H v (.str x)) : v = .str x := by cases h; rfl
theorem TD.i_int {H : Hp} {v : V} {x : Int} (h : TD H v (.int x)) : v = .int x := by cases h; rfl
theorem TD.i_bl {H : Hp} {v : V} {x : Bool} (h : TD H v (.bool x)) : v = .bl x := by cases h; rfl
theorem TD.i_tup {H : Hp} {v : V} {ds : List PyData} (h : TD H v (.tuple ds)) : ∃ a xs, v = .ref a ∧ H a = some (.tup xs) ∧ TDs H xs ds := by
  cases h with
  | tup h1 h2 => exact ⟨_, _, rfl, h1, h2⟩
theorem TD.i_tup1 {H : Hp} {v : V} {d : PyData} (h : TD H v (.tuple [d])) : ∃ a x, v = .ref a ∧ H a = some (.tup [x]) ∧ TD H x d := by
  obtain ⟨a, xs, e, h1, h2⟩ := h.i_tup
  cases h2 with
  | cons q r => cases r; exact ⟨a, _, e, h1, q⟩
theorem TD.i_tup2 {H : Hp} {v : V} {d e : PyData} (h : TD H v (.tuple [d, e])) : ∃ a x y, v = .ref a ∧ H a = some (.tup [x, y]) ∧ TD H x d ∧ TD H y e := by
  obtain ⟨a, xs, q0, h1, h2⟩ := h.i_tup
  cases h2 with
  | cons q r =>
    cases r with
    | cons q2 r => cases r; exact ⟨a, _, _, q0, h1, q, q2⟩
theorem TD.i_tup3 {H : Hp} {v : V} {d e f : PyData} (h : TD H v (.tuple [d, e, f])) : ∃ a x y z, v = .ref a ∧ H a = some (.tup [x, y, z]) ∧ TD H x d ∧ TD H y e ∧ TD H z f := by
  obtain ⟨a, xs, q0, h1, h2⟩ := h.i_tup
  cases h2 with
  | cons q r =>
    cases r with
    | cons q2 r =>
      cases r with
      | cons q3 r => cases r; exact ⟨a, _, _, _, q0, h1, q, q2, q3⟩
theorem TD.i_tup4 {H : Hp} {v : V} {d e f g : PyData} (h : TD H v (.tuple [d, e, f, g])) : ∃ a x y z w, v = .ref a ∧ H a = some (.tup [x, y, z, w]) ∧ TD H x d ∧ TD H y e ∧ TD H z f ∧ TD H w g := by
  obtain ⟨a, xs, q0, h1, h2⟩ := h.i_tup
  cases h2 with
  | cons q r =>
    cases r with
    | cons q2 r =>
      cases r with
      | cons q3 r =>
        cases r with
        | cons q4 r => cases r; exact ⟨a, _, _, _, _, q0, h1, q, q2, q3, q4⟩
/-- a tuple is laid -/
theorem td_new {H : Hp} {p : Addr} {xs : List V} {ds : List PyData} (hp : H p = none) (h : TDs H xs ds) : TD (upd H p (.tup xs)) (.ref p) (.tuple ds) := .tup upd_same (h.sm (same_new hp _))
theorem tds1 {H : Hp} {a : V} {d : PyData} (h : TD H a d) : TDs H [a] [d] := .cons h .nil
theorem tds2 {H : Hp} {a b : V} {d e : PyData} (h : TD H a d) (k : TD H b e) : TDs H [a, b] [d, e] := .cons h (tds1 k)
theorem tds3 {H : Hp} {a b c : V} {d e f : PyData} (h : TD H a d) (k : TD H b e) (l : TD H c f) : TDs H [a, b, c] [d, e, f] := .cons h (tds2 k l)
theorem tds4 {H : Hp} {a b c x : V} {d e f g : PyData} (h : TD H a d) (k : TD H b e) (l : TD H c f) (m : TD H x g) : TDs H [a, b, c, x] [d, e, f, g] := .cons h (tds3 k l m)

/-! #### ifs -/
theorem if_f {b : Bool} {A B : Prop} (e : b = false) (h : B) : if b = true then A else B := by subst e; exact iteF h
theorem if_t {b : Bool} {A B : Prop} (e : b = true) (h : A) : if b = true then A else B := by subst e; exact iteT h

/-! #### a def and its promise -/
def Has (P : Program) (w : World) (K : PySem.W.Frag) (mg : Str → Option Value) (base : Heap) (k : Nat) (x : Str) (ps : List Str) (sp : Sp) : Prop :=
  ∃ f fd, FnOk P w K mg base CX0 k f fd ps sp ∧ mg x = some (.ref f) ∧ PySem.W.keepIn K (.ref f) = true ∧ Binds K fd ps []
def Df (K : PySem.W.Frag) (mg : Str → Option Value) (x : Str) (st : Stmt) (ps : List Str) : Prop :=
  ∃ f fd, Fun K x x st f fd ∧ mg x = some (.ref f) ∧ Binds K fd ps []
theorem Has.mono {P : Program} {w : World} {K : PySem.W.Frag} {mg : Str → Option Value} {base : Heap} {j k : Nat} {x : Str} {ps : List Str} {sp : Sp} (h : Has P w K mg base j x ps sp) (l : j ≤ k) : Has P w K mg base k x ps sp := by
  obtain ⟨f, fd, F, m, kp, b⟩ := h
  exact ⟨f, fd, F.mono l, m, kp, b⟩
theorem pe_has {X : Cx} {k : Nat} {x : Str} {ps : List Str} {sp : Sp} {p pos : Pos} {e : Expr} {es : List Expr} {t : TA} (h : Has X.prog X.w X.K X.mg X.base k x ps sp) (hr : Room k X.A) (hg : Gl X x) (ha : PA X (e :: es) t)
    (hst : starEach (e :: es) X.env = (false, eval e X.env) :: starEach es X.env := by rfl) (hpl : (backTo pos (starEach es X.env)).any (·.1) = false := by rfl) (hd : (x == ("__debug__" : Str)) = false := by decide) :
    PE X (.Call (.Name x p) (e :: es) [] pos) (tCall sp [] E0 t) := by
  obtain ⟨f, fd, F, m, kp, b⟩ := h
  exact pe_call F hr hg m kp b .nil pass0 ha (he := hst) (hpl := hpl) (hdb := hd)
theorem Df.ok {P : Program} {w : World} {K : PySem.W.Frag} {mg : Str → Option Value} {base : Heap} {x : Str} {st : Stmt} {N ps : List Str} {k : Nat} {sp : Sp} (d : Df K mg x st ps) (S : FnScope N ps (defScope st)) (len : ∀ vs H Q E, sp vs H Q E → vs.length = ps.length)
    (hbody : ∀ (f : Addr) (cdv : Value) (A : Around) (outer : List Env) (s : Shared) (H : Hp) (vs : List V) (Q : VK) (E : XK), Room k (A.deeper (envOfC x (defScope st) s.heap.objs.size f cdv)) → sp vs H Q E →
      ∃ t, PSs (cxOf CX0 P w K mg base N x (defScope st) f cdv A outer s H E).nox (defBody st) t ∧ t { nx := fun _ H' => Q .non H', rt := Q } (start N vs) H) : Has P w K mg base (k + 1) x ps sp := by
  obtain ⟨f, fd, F, m, b⟩ := d
  exact ⟨f, fd, F.ok S len (hbody f), m, F.kp, b⟩
/-- the built-ins' names stand as they are -/
structure Bi (mg : Str → Option Value) : Prop where
  len : mg "len" = none
  sum : mg "sum" = none
  max : mg "max" = none
  all : mg "all" = none
  ord : mg "ord" = none
  range : mg "range" = none
  isinstance : mg "isinstance" = none
  list_ : mg "list" = none
  tuple_ : mg "tuple" = none
  int_ : mg "int" = none
  str_ : mg "str" = none
  bool_ : mg "bool" = none
  most : ∃ t, mg "MOST_COUNT" = some (.int 30 t)

theorem ix_tupK {X : Cx} {K : PySem.W.Frag} (h : X.K = K) : IxR X (rIxT K) := by subst h; exact ix_tup
/-! #### comprehensions -/
theorem wipe_one (σ : L2.St) (j : Nat) (x : Option V) : wipe ((wipe σ [j]).set j x) [j] = wipe σ [j] := by
  show ((σ.set j none).set j x).set j none = σ.set j none
  rw [List.set_set, List.set_set]
theorem yes_t {σ : L2.St} {H : Hp} {Q : Bool → Hp → Prop} (h : Q true H) : tYes σ H Q := h
theorem lcT {K : PySem.W.Frag} {a : Addr} {xs : List V} {j : Nat} {te : TE} {σ : L2.St} {H1 : Hp} {Qd : Addr → Hp → Prop} (hT : H1 a = some (.tup xs)) (hlen : xs.length ≤ 1000) (R : Nat → V → Hp → Prop)
    (mono : ∀ i y H H', Tu H H' → R i y H → R i y H')
    (step : ∀ i x H, xs[i]? = some x → Same H1 H → ∀ K' : VK, (∀ y H', Same H H' → R i y H' → K' y H') → te ((wipe σ [j]).set j (some x)) H K')
    (done : ∀ D H ys, Same H1 H → H D = some (.lst ys) → ys.length = xs.length → (∀ i y, ys[i]? = some y → R i y H) → Qd D H) :
    ∀ D, H1 D = none → ∃ W : Nat → Nat → Hp → Prop, (∃ m, W 0 m (upd H1 D (.lst []))) ∧ ∀ i m H, W i m H →
      ((Itt K a).stop i H ∧ Qd D H) ∨ ((Itt K a).go i H ∧ ∃ Nx : Hp → Prop, (∀ H', Nx H' → ∃ m', m' < m ∧ W (i + 1) m' H') ∧ ∀ x H', (Itt K a).yld i H x H' → gName j x (wipe σ [j]) H' fun σ2 H2 => wipe σ2 [j] = wipe σ [j] ∧ tYes σ2 H2 fun b H3 =>
        if b = true then te σ2 H3 fun y H4 => ∃ acc, H4 D = some (.lst acc) ∧ acc.length < sizeLine ∧ Nx (upd H4 D (.lst (acc ++ [y]))) else Nx H3) := by
  intro D hD
  refine lc_tup (xs := xs) (fun i H => ∃ ys, H D = some (.lst ys) ∧ ys.length = i ∧ Same H1 H ∧ ∀ k y, ys[k]? = some y → R k y H) ⟨[], upd_same, rfl, same_new hD _, fun k y e => by simp at e⟩
    (fun i H _ ⟨_, _, _, s, _⟩ => SqT.of (s _ _ hT)) (fun i x H hx ⟨ys, eD, hl, s, hR⟩ => ?_) (fun H ⟨ys, eD, hl, s, hR⟩ => done D H ys s eD hl hR)
  refine ⟨wipe_one σ j _, ?_⟩
  refine yes_t ?_
  refine Eq.mpr (if_pos rfl) ?_
  refine (step i x H hx s _ fun y H4 s4 r => ?_)
  have hi : i < xs.length := (List.getElem?_eq_some_iff.mp hx).1
  refine ⟨ys, s4 _ _ eD, small1000 (by omega), ys ++ [y], upd_same, by simp [hl], fun b o q => ?_, fun k z e => ?_⟩
  · rw [upd_ne (ne_of_none q hD)]; exact s4 _ _ (s _ _ q)
  · have t4 : Tu H4 (upd H4 D (.lst (ys ++ [y]))) := tu_lst (s4 _ _ eD)
    by_cases hk : k < ys.length
    · rw [List.getElem?_append_left hk] at e
      exact mono _ _ _ _ t4 (mono _ _ _ _ (tu_same s4) (hR k z e))
    · rw [List.getElem?_append_right (by omega)] at e
      have h0 : k - ys.length = 0 := by
        cases hq : k - ys.length with
        | zero => rfl
        | succ m => rw [hq] at e; simp at e
      rw [h0] at e
      have ez : y = z := Option.some.inj e
      subst ez
      have ek : k = i := by omega
      subst ek
      exact mono _ _ _ _ t4 r
theorem lcL {K : PySem.W.Frag} {a : Addr} {xs : List V} {j : Nat} {te : TE} {σ : L2.St} {H1 : Hp} {Qd : Addr → Hp → Prop} (hT : H1 a = some (.lst xs)) (hlen : xs.length ≤ 1000) (R : Nat → V → Hp → Prop)
    (mono : ∀ i y H H', Tu H H' → R i y H → R i y H')
    (step : ∀ i x H, xs[i]? = some x → Same H1 H → ∀ K' : VK, (∀ y H', Same H H' → R i y H' → K' y H') → te ((wipe σ [j]).set j (some x)) H K')
    (done : ∀ D H ys, Same H1 H → H D = some (.lst ys) → H1 D = none → ys.length = xs.length → (∀ i y, ys[i]? = some y → R i y H) → Qd D H) :
    ∀ D, H1 D = none → ∃ W : Nat → Nat → Hp → Prop, (∃ m, W 0 m (upd H1 D (.lst []))) ∧ ∀ i m H, W i m H →
      ((Itl K a).stop i H ∧ Qd D H) ∨ ((Itl K a).go i H ∧ ∃ Nx : Hp → Prop, (∀ H', Nx H' → ∃ m', m' < m ∧ W (i + 1) m' H') ∧ ∀ x H', (Itl K a).yld i H x H' → gName j x (wipe σ [j]) H' fun σ2 H2 => wipe σ2 [j] = wipe σ [j] ∧ tYes σ2 H2 fun b H3 =>
        if b = true then te σ2 H3 fun y H4 => ∃ acc, H4 D = some (.lst acc) ∧ acc.length < sizeLine ∧ Nx (upd H4 D (.lst (acc ++ [y]))) else Nx H3) := by
  intro D hD
  refine lc_list (xs := xs) (fun i H => ∃ ys, H D = some (.lst ys) ∧ ys.length = i ∧ Same H1 H ∧ ∀ k y, ys[k]? = some y → R k y H) ⟨[], upd_same, rfl, same_new hD _, fun k y e => by simp at e⟩
    (fun i H _ ⟨_, _, _, s, _⟩ => SqL.of (s _ _ hT)) (fun i x H hx ⟨ys, eD, hl, s, hR⟩ => ?_) (fun H ⟨ys, eD, hl, s, hR⟩ => done D H ys s eD hD hl hR)
  refine ⟨wipe_one σ j _, ?_⟩
  refine yes_t ?_
  refine Eq.mpr (if_pos rfl) ?_
  refine (step i x H hx s _ fun y H4 s4 r => ?_)
  have hi : i < xs.length := (List.getElem?_eq_some_iff.mp hx).1
  refine ⟨ys, s4 _ _ eD, small1000 (by omega), ys ++ [y], upd_same, by simp [hl], fun b o q => ?_, fun k z e => ?_⟩
  · rw [upd_ne (ne_of_none q hD)]; exact s4 _ _ (s _ _ q)
  · have t4 : Tu H4 (upd H4 D (.lst (ys ++ [y]))) := tu_lst (s4 _ _ eD)
    by_cases hk : k < ys.length
    · rw [List.getElem?_append_left hk] at e
      exact mono _ _ _ _ t4 (mono _ _ _ _ (tu_same s4) (hR k z e))
    · rw [List.getElem?_append_right (by omega)] at e
      have h0 : k - ys.length = 0 := by
        cases hq : k - ys.length with
        | zero => rfl
        | succ m => rw [hq] at e; simp at e
      rw [h0] at e
      have ez : y = z := Option.some.inj e
      subst ez
      have ek : k = i := by omega
      subst ek
      exact mono _ _ _ _ t4 r
theorem lcR {lo : Int} {n j : Nat} {te : TE} {σ : L2.St} {H1 : Hp} {Qd : Addr → Hp → Prop} (hn : n ≤ 1000) (S : Addr → Prop) (hS : ∀ b, S b → H1 b ≠ none) (I : List V → Hp → Prop)
    (stab : ∀ ys H H', (∀ b, S b → H' b = H b) → Tu H H' → I ys H → I ys H') (h0 : I [] H1)
    (step : ∀ i ys H, i < n → ys.length = i → Kp S H1 H → I ys H → ∀ K' : VK, (∀ y H', Kp S H H' → I (ys ++ [y]) H' → K' y H') → te ((wipe σ [j]).set j (some (.int (lo + i)))) H K')
    (done : ∀ D H ys, Kp S H1 H → H D = some (.lst ys) → ¬ S D → H1 D = none → ys.length = n → I ys H → Qd D H) :
    ∀ D, H1 D = none → ∃ W : Nat → Nat → Hp → Prop, (∃ m, W 0 m (upd H1 D (.lst []))) ∧ ∀ i m H, W i m H →
      ((Itr lo n).stop i H ∧ Qd D H) ∨ ((Itr lo n).go i H ∧ ∃ Nx : Hp → Prop, (∀ H', Nx H' → ∃ m', m' < m ∧ W (i + 1) m' H') ∧ ∀ x H', (Itr lo n).yld i H x H' → gName j x (wipe σ [j]) H' fun σ2 H2 => wipe σ2 [j] = wipe σ [j] ∧ tYes σ2 H2 fun b H3 =>
        if b = true then te σ2 H3 fun y H4 => ∃ acc, H4 D = some (.lst acc) ∧ acc.length < sizeLine ∧ Nx (upd H4 D (.lst (acc ++ [y]))) else Nx H3) := by
  intro D hD
  have nD : ¬ S D := fun z => hS D z hD
  refine lc_range (fun i H => ∃ ys, H D = some (.lst ys) ∧ ys.length = i ∧ Kp S H1 H ∧ I ys H) ⟨[], upd_same, rfl, kp_same (same_new hD _), stab _ H1 _ (fun b hb => upd_ne (fun e => nD (e ▸ hb))) (tu_same (same_new hD _)) h0⟩
    (fun i H hi ⟨ys, eD, hl, s, hI⟩ => ?_) (fun H ⟨ys, eD, hl, s, hI⟩ => done D H ys s eD nD hD hl hI)
  refine ⟨wipe_one σ j _, ?_⟩
  refine yes_t ?_
  refine Eq.mpr (if_pos rfl) ?_
  refine (step i ys H hi hl s hI _ fun y H4 s4 r => ?_)
  have e4 := s4 _ _ nD eD
  refine ⟨ys, e4, small1000 (by omega), ys ++ [y], upd_same, by simp [hl], fun b o nb q => ?_, stab _ H4 _ (fun b hb => upd_ne (fun e => nD (e ▸ hb))) (tu_lst e4) r⟩
  rw [upd_ne (ne_of_none q hD)]; exact s4 _ _ nb (s _ _ nb q)
end Pk

/-! ### Pk, part B: what the data mean -/
namespace Pk
open PySem PySem.Spec PyProof.Rows L2
abbrev formD (w : Str) (ps : List PyData) : PyData := .tuple [.str "list", .tuple (.tuple [.str "text", .str w] :: ps)]
def bndD : Option Int → PyData
  | none => .none
  | some i => .int i
def bndF : Option Int → PyData
  | none => .tuple [.str "null"]
  | some i => .tuple [.str "int", .int i]
def bndV : Option Int → V
  | none => .non
  | some i => .int i
theorem bnd_v {H : Hp} {v : V} {o : Option Int} (h : TD H v (bndD o)) : v = bndV o := by
  cases o with
  | none => cases h; rfl
  | some i => cases h; rfl
theorem bnd_d (H : Hp) (o : Option Int) : TD H (bndV o) (bndD o) := by
  cases o with
  | none => exact .non
  | some i => exact .int i
def cnt (o : Option Int) : Prop := ∀ i, o = some i → 0 ≤ i ∧ i ≤ 30
def okS (s : Str) : Prop := s.length ≤ 1000 ∧ ∀ c ∈ s.cps.toList, 32 ≤ c ∧ c ≤ 126 ∧ c ≠ 37
instance (s : Str) : Decidable (okS s) := by unfold okS; infer_instance
def ltS (a b : Str) : Prop := a.cps.toList < b.cps.toList
abbrev objD (fs : List (Str × PyData × Nat)) : PyData := .tuple [.str "object", .tuple (fs.map fun f => .tuple [.str f.1, f.2.1])]
/-- d is a value's data, at most n deep; z its size -/
inductive IsV : Nat → PyData → Nat → Prop
  | null {n : Nat} : IsV (n + 1) (.tuple [.str "null"]) 1
  | bool {n : Nat} (b : Bool) : IsV (n + 1) (.tuple [.str "bool", .bool b]) 1
  | int {n : Nat} (i : Int) : IsV (n + 1) (.tuple [.str "int", .int i]) 1
  | text {n : Nat} (s : Str) : okS s → IsV (n + 1) (.tuple [.str "text", .str s]) 1
  | list {n : Nat} (xs : List (PyData × Nat)) : xs.length ≤ 1000 → (∀ x ∈ xs, IsV n x.1 x.2) → IsV (n + 1) (.tuple [.str "list", .tuple (xs.map fun x => x.1)]) (1 + (xs.map fun x => x.2).sum)
  | object {n : Nat} (fs : List (Str × PyData × Nat)) : fs.length ≤ 1000 → (fs.map fun f => f.1).Pairwise ltS → (∀ f ∈ fs, okS f.1) → (∀ f ∈ fs, IsV n f.2.1 f.2.2) → IsV (n + 1) (objD fs) (1 + (fs.map fun f => f.2.2).sum)
/-- a schema's data, its form's data, how many schemas, the consts' size -/
structure Q4 where
  s : PyData
  f : PyData
  c : Nat
  k : Nat
structure Rw where
  x : Str
  q : Q4
  r : Bool
abbrev rowS (r : Rw) : PyData := .tuple [.str r.x, r.q.s, .bool r.r]
abbrev rowF (r : Rw) : PyData := .tuple [.str "list", .tuple [.tuple [.str "text", .str r.x], r.q.f, .tuple [.str "bool", .bool r.r]]]
/-- q is a schema, at most n deep -/
inductive SF : Nat → Q4 → Prop
  | word {n : Nat} (w : Str) : w = "any" ∨ w = "never" ∨ w = "null" ∨ w = "bool" → SF (n + 1) ⟨.tuple [.str w], formD w [], 1, 0⟩
  | int {n : Nat} (lo hi : Option Int) : SF (n + 1) ⟨.tuple [.str "int", bndD lo, bndD hi], formD "int" [bndF lo, bndF hi], 1, 0⟩
  | text {n : Nat} (lo : Int) (hi : Option Int) : 0 ≤ lo → lo ≤ 30 → cnt hi → SF (n + 1) ⟨.tuple [.str "text", .int lo, bndD hi], formD "text" [bndF (some lo), bndF hi], 1, 0⟩
  | const {n : Nat} (d : PyData) (z : Nat) : IsV 2 d z → SF (n + 1) ⟨.tuple [.str "const", d], formD "const" [d], 1, z⟩
  | list {n : Nat} (x : Q4) (lo : Int) (hi : Option Int) : 0 ≤ lo → lo ≤ 30 → cnt hi → SF n x → SF (n + 1) ⟨.tuple [.str "list", x.s, .int lo, bndD hi], formD "list" [x.f, bndF (some lo), bndF hi], 1 + x.c, x.k⟩
  | many {n : Nat} (w : Str) (xs : List Q4) : w = "tuple" ∨ w = "either" ∨ w = "all" → xs.length ≤ 3 → (∀ x ∈ xs, SF n x) →
      SF (n + 1) ⟨.tuple [.str w, .tuple (xs.map Q4.s)], formD w [.tuple [.str "list", .tuple (xs.map Q4.f)]], 1 + (xs.map Q4.c).sum, (xs.map Q4.k).sum⟩
  | object {n : Nat} (rs : List Rw) (y : Q4) : rs.length ≤ 3 → (rs.map Rw.x).Nodup → (∀ r ∈ rs, okS r.x) → (∀ r ∈ rs, SF n r.q) → SF n y →
      SF (n + 1) ⟨.tuple [.str "object", .tuple (rs.map rowS), y.s], formD "object" [.tuple [.str "list", .tuple (rs.map rowF)], y.f], 1 + ((rs.map fun r => r.q.c).sum + y.c), (rs.map fun r => r.q.k).sum + y.k⟩
  | not {n : Nat} (x : Q4) : SF n x → SF (n + 1) ⟨.tuple [.str "not", x.s], formD "not" [x.f], 1 + x.c, x.k⟩
theorem IsV.up {n : Nat} {d : PyData} {z : Nat} (h : IsV n d z) : ∀ {m : Nat}, n ≤ m → IsV m d z := by
  induction h with
  | null => intro m hm; cases m with | zero => omega | succ m => exact .null
  | bool b => intro m hm; cases m with | zero => omega | succ m => exact .bool b
  | int b => intro m hm; cases m with | zero => omega | succ m => exact .int b
  | text b h => intro m hm; cases m with | zero => omega | succ m => exact .text b h
  | list xs hl h ih => intro m hm; cases m with | zero => omega | succ m => exact .list xs hl fun x hx => ih x hx (by omega)
  | object fs hl hp ho h ih => intro m hm; cases m with | zero => omega | succ m => exact .object fs hl hp ho fun x hx => ih x hx (by omega)
theorem SF.up {n : Nat} {q : Q4} (h : SF n q) : ∀ {m : Nat}, n ≤ m → SF m q := by
  induction h with
  | word w h => intro m hm; cases m with | zero => omega | succ m => exact .word w h
  | int lo hi => intro m hm; cases m with | zero => omega | succ m => exact .int lo hi
  | text lo hi h0 h1 h2 => intro m hm; cases m with | zero => omega | succ m => exact .text lo hi h0 h1 h2
  | const d z h => intro m hm; cases m with | zero => omega | succ m => exact .const d z h
  | list x lo hi h0 h1 h2 h ih => intro m hm; cases m with | zero => omega | succ m => exact .list x lo hi h0 h1 h2 (ih (by omega))
  | many w xs hw hl h ih => intro m hm; cases m with | zero => omega | succ m => exact .many w xs hw hl fun x hx => ih x hx (by omega)
  | object rs y hl hn ho h hy ih ihy => intro m hm; cases m with | zero => omega | succ m => exact .object rs y hl hn ho (fun x hx => ih x hx (by omega)) (ihy (by omega))
  | not x h ih => intro m hm; cases m with | zero => omega | succ m => exact .not x (ih (by omega))
theorem ok_lit : okS "any" ∧ okS "never" ∧ okS "null" ∧ okS "bool" ∧ okS "int" ∧ okS "text" ∧ okS "const" ∧ okS "list" ∧ okS "tuple" ∧ okS "either" ∧ okS "all" ∧ okS "object" ∧ okS "not" := by decide +kernel
/-- a list's value data by its items -/
theorem isv_list {n : Nat} {ds : List PyData} (hl : ds.length ≤ 1000) (h : ∀ d ∈ ds, ∃ z, IsV n d z) : ∃ z, IsV (n + 1) (.tuple [.str "list", .tuple ds]) z := by
  have pick : ∀ ds : List PyData, (∀ d ∈ ds, ∃ z, IsV n d z) → ∃ xs : List (PyData × Nat), xs.map (fun x => x.1) = ds ∧ ∀ x ∈ xs, IsV n x.1 x.2 := by
    intro ds
    induction ds with
    | nil => intro _; exact ⟨[], rfl, fun x hx => by cases hx⟩
    | cons d ds ih =>
      intro h
      obtain ⟨z, hz⟩ := h d List.mem_cons_self
      obtain ⟨xs, e, hx⟩ := ih fun d hd => h d (List.mem_cons_of_mem _ hd)
      refine ⟨(d, z) :: xs, by rw [List.map_cons, e], fun x hx' => ?_⟩
      rcases List.mem_cons.mp hx' with rfl | hx'
      · exact hz
      · exact hx x hx'
  obtain ⟨xs, e, hx⟩ := pick ds h
  rw [← e]
  refine ⟨_, .list xs ?_ hx⟩
  rw [← e, List.length_map] at hl
  exact hl
theorem isv_form {n : Nat} {w : Str} {ds : List PyData} (hw : okS w) (hl : ds.length ≤ 999) (h : ∀ d ∈ ds, ∃ z, IsV (n + 1) d z) : ∃ z, IsV (n + 2) (formD w ds) z := by
  refine isv_list (by rw [List.length_cons]; omega) fun d hd => ?_
  rcases List.mem_cons.mp hd with rfl | hd
  · exact ⟨1, .text w hw⟩
  · exact h d hd
theorem isv_bnd {n : Nat} (o : Option Int) : ∃ z, IsV (n + 1) (bndF o) z := by
  cases o with
  | none => exact ⟨1, .null⟩
  | some i => exact ⟨1, .int i⟩
/-- a form is a value -/
theorem SF.isv {n : Nat} {q : Q4} (h : SF n q) : ∃ z, IsV (3 * n) q.f z := by
  obtain ⟨o1, o2, o3, o4, o5, o6, o7, o8, o9, o10, o11, o12, o13⟩ := ok_lit
  induction h with
  | @word n w h =>
    refine isv_form (n := 3 * n + 1) ?_ (by simp) fun d hd => by cases hd
    rcases h with rfl | rfl | rfl | rfl <;> assumption
  | @int n lo hi =>
    refine isv_form (n := 3 * n + 1) o5 (by simp) fun d hd => ?_
    simp only [List.mem_cons, List.not_mem_nil, or_false] at hd
    rcases hd with rfl | rfl
    · exact isv_bnd lo
    · exact isv_bnd hi
  | @text n lo hi h0 h1 h2 =>
    refine isv_form (n := 3 * n + 1) o6 (by simp) fun d hd => ?_
    simp only [List.mem_cons, List.not_mem_nil, or_false] at hd
    rcases hd with rfl | rfl
    · exact isv_bnd _
    · exact isv_bnd hi
  | @const n d z h =>
    refine isv_form (n := 3 * n + 1) o7 (by simp) fun e he => ?_
    simp only [List.mem_cons, List.not_mem_nil, or_false] at he
    subst he
    exact ⟨z, h.up (by omega)⟩
  | @list n x lo hi h0 h1 h2 h ih =>
    refine isv_form (n := 3 * n + 1) o8 (by simp) fun d hd => ?_
    simp only [List.mem_cons, List.not_mem_nil, or_false] at hd
    rcases hd with rfl | rfl | rfl
    · obtain ⟨z, hz⟩ := ih
      exact ⟨z, hz.up (by omega)⟩
    · exact isv_bnd _
    · exact isv_bnd hi
  | @many n w xs hw hl h ih =>
    refine isv_form (n := 3 * n + 1) ?_ (by simp) fun d hd => ?_
    · rcases hw with rfl | rfl | rfl <;> assumption
    · simp only [List.mem_cons, List.not_mem_nil, or_false] at hd
      subst hd
      refine isv_list (by rw [List.length_map]; omega) fun d hd => ?_
      obtain ⟨x, hx, rfl⟩ := List.mem_map.mp hd
      obtain ⟨z, hz⟩ := ih x hx
      exact ⟨z, hz.up (by omega)⟩
  | @object n rs y hl hn ho h hy ih ihy =>
    refine isv_form (n := 3 * n + 1) o12 (by simp) fun d hd => ?_
    simp only [List.mem_cons, List.not_mem_nil, or_false] at hd
    rcases hd with rfl | rfl
    · refine isv_list (n := 3 * n + 1) (by rw [List.length_map]; omega) fun d hd => ?_
      obtain ⟨r, hr, rfl⟩ := List.mem_map.mp hd
      refine isv_list (n := 3 * n) (by simp) fun d hd => ?_
      simp only [List.mem_cons, List.not_mem_nil, or_false] at hd
      rcases hd with rfl | rfl | rfl
      · obtain ⟨z, hz⟩ := ih r hr
        have h1 : 1 ≤ 3 * n := by
          cases n with
          | zero => cases hz
          | succ n => omega
        exact ⟨1, (IsV.text (n := 0) r.x (ho r hr)).up h1⟩
      · exact ih r hr
      · obtain ⟨z, hz⟩ := ih r hr
        have h1 : 1 ≤ 3 * n := by
          cases n with
          | zero => cases hz
          | succ n => omega
        exact ⟨1, (IsV.bool (n := 0) r.r).up h1⟩
    · obtain ⟨z, hz⟩ := ihy
      exact ⟨z, hz.up (by omega)⟩
  | @not n x h ih =>
    refine isv_form (n := 3 * n + 1) o13 (by simp) fun d hd => ?_
    simp only [List.mem_cons, List.not_mem_nil, or_false] at hd
    subst hd
    obtain ⟨z, hz⟩ := ih
    exact ⟨z, hz.up (by omega)⟩
/-! #### data that == reads -/
def Nice (n : Nat) (d : PyData) : Prop := d.canLay0 = true ∧ d.depth ≤ n
theorem Nice.up {n m : Nat} {d : PyData} (h : Nice n d) (l : n ≤ m) : Nice m d := ⟨h.1, Nat.le_trans h.2 l⟩
theorem Nice.shaped {d : PyData} (h : Nice 64 d) : SeqAt.shaped d = true := by
  unfold SeqAt.shaped
  rw [h.1, decide_eq_true h.2]
  rfl
theorem nice_tup {n : Nat} {ds : List PyData} (h : ∀ d ∈ ds, Nice n d) : Nice (n + 1) (.tuple ds) := by
  have all : ∀ ds : List PyData, (∀ d ∈ ds, Nice n d) → PyData.canLayAll0 ds = true ∧ PyData.depthAll ds ≤ n := by
    intro ds
    induction ds with
    | nil => intro _; exact ⟨by simp [PyData.canLayAll0], by simp [PyData.depthAll]⟩
    | cons d ds ih =>
      intro h
      obtain ⟨h1, h2⟩ := ih fun d hd => h d (List.mem_cons_of_mem _ hd)
      obtain ⟨k1, k2⟩ := h d List.mem_cons_self
      refine ⟨by simp [PyData.canLayAll0, h1, k1], ?_⟩
      rw [PyData.depthAll]
      exact Nat.max_le.mpr ⟨k2, h2⟩
  obtain ⟨h1, h2⟩ := all ds h
  refine ⟨by rw [PyData.canLay0]; exact h1, ?_⟩
  rw [PyData.depth]
  omega
theorem nice_str {n : Nat} {s : Str} (h : okS s) : Nice n (.str s) := by
  refine ⟨?_, by simp [PyData.depth]⟩
  rw [PyData.canLay0]
  unfold PyData.strOk
  rw [Array.all_eq_true']
  intro c hc
  have h1 := (h.2 c (by simpa using hc)).2.1
  exact decide_eq_true (by omega)
theorem nice_int {n : Nat} (i : Int) : Nice n (.int i) := ⟨by simp [PyData.canLay0], by simp [PyData.depth]⟩
theorem nice_bl {n : Nat} (i : Bool) : Nice n (.bool i) := ⟨by simp [PyData.canLay0], by simp [PyData.depth]⟩
theorem nice_bnd {n : Nat} (o : Option Int) : Nice n (bndD o) := by
  cases o with
  | none => exact ⟨by simp [bndD, PyData.canLay0], by simp [bndD, PyData.depth]⟩
  | some i => exact nice_int i
theorem nice1 {n : Nat} {a : PyData} (h : Nice n a) : Nice (n + 1) (.tuple [a]) := nice_tup fun d hd => by
  simp only [List.mem_cons, List.not_mem_nil, or_false] at hd; subst hd; exact h
theorem nice2 {n : Nat} {a b : PyData} (h : Nice n a) (k : Nice n b) : Nice (n + 1) (.tuple [a, b]) := nice_tup fun d hd => by
  simp only [List.mem_cons, List.not_mem_nil, or_false] at hd; rcases hd with rfl | rfl <;> assumption
theorem nice3 {n : Nat} {a b c : PyData} (h : Nice n a) (k : Nice n b) (l : Nice n c) : Nice (n + 1) (.tuple [a, b, c]) := nice_tup fun d hd => by
  simp only [List.mem_cons, List.not_mem_nil, or_false] at hd; rcases hd with rfl | rfl | rfl <;> assumption
theorem nice4 {n : Nat} {a b c e : PyData} (h : Nice n a) (k : Nice n b) (l : Nice n c) (m : Nice n e) : Nice (n + 1) (.tuple [a, b, c, e]) := nice_tup fun d hd => by
  simp only [List.mem_cons, List.not_mem_nil, or_false] at hd; rcases hd with rfl | rfl | rfl | rfl <;> assumption
theorem IsV.nice {n : Nat} {d : PyData} {z : Nat} (h : IsV n d z) : Nice (3 * n) d := by
  obtain ⟨o1, o2, o3, o4, o5, o6, o7, o8, o9, o10, o11, o12, o13⟩ := ok_lit
  induction h with
  | @null n => exact (nice1 (n := 3 * n) (nice_str o3)).up (by omega)
  | @bool n b => exact (nice2 (n := 3 * n) (nice_str o4) (nice_bl b)).up (by omega)
  | @int n b => exact (nice2 (n := 3 * n) (nice_str o5) (nice_int b)).up (by omega)
  | @text n b h => exact (nice2 (n := 3 * n) (nice_str o6) (nice_str h)).up (by omega)
  | @list n xs hl h ih =>
    refine (nice2 (n := 3 * n + 1) (nice_str o8) (nice_tup fun d hd => ?_)).up (by omega)
    obtain ⟨x, hx, rfl⟩ := List.mem_map.mp hd
    exact ih x hx
  | @object n fs hl hp ho h ih =>
    refine (nice2 (n := 3 * n + 2) (nice_str o12) (nice_tup fun d hd => ?_)).up (by omega)
    obtain ⟨x, hx, rfl⟩ := List.mem_map.mp hd
    exact nice2 (nice_str (ho x hx)) (ih x hx)
theorem SF.nice {n : Nat} {q : Q4} (h : SF n q) : Nice (7 + 3 * n) q.s := by
  obtain ⟨o1, o2, o3, o4, o5, o6, o7, o8, o9, o10, o11, o12, o13⟩ := ok_lit
  induction h with
  | @word n w h =>
    refine (nice1 (n := 3 * n) (nice_str ?_)).up (by omega)
    rcases h with rfl | rfl | rfl | rfl <;> assumption
  | @int n lo hi => exact (nice3 (n := 3 * n) (nice_str o5) (nice_bnd lo) (nice_bnd hi)).up (by omega)
  | @text n lo hi h0 h1 h2 => exact (nice3 (n := 3 * n) (nice_str o6) (nice_int lo) (nice_bnd hi)).up (by omega)
  | @const n d z h => exact (nice2 (n := 6) (nice_str o7) h.nice).up (by omega)
  | @list n x lo hi h0 h1 h2 h ih => exact (nice4 (nice_str o8) ih (nice_int lo) (nice_bnd hi)).up (by omega)
  | @many n w xs hw hl h ih =>
    refine (nice2 (n := 7 + 3 * n + 1) (nice_str ?_) (nice_tup fun d hd => ?_)).up (by omega)
    · rcases hw with rfl | rfl | rfl <;> assumption
    · obtain ⟨x, hx, rfl⟩ := List.mem_map.mp hd
      exact ih x hx
  | @object n rs y hl hn ho h hy ih ihy =>
    refine (nice3 (n := 7 + 3 * n + 2) (nice_str o12) (nice_tup fun d hd => ?_) (ihy.up (by omega))).up (by omega)
    obtain ⟨r, hr, rfl⟩ := List.mem_map.mp hd
    exact nice3 (nice_str (ho r hr)) (ih r hr) (nice_bl r.r)
  | @not n x h ih => exact (nice2 (nice_str o13) ih).up (by omega)
theorem SF.shS {n : Nat} {q : Q4} (h : SF n q) (l : n ≤ 6) : SeqAt.shaped q.s = true := (h.nice.up (by omega)).shaped
theorem SF.shF {n : Nat} {q : Q4} (h : SF n q) (l : n ≤ 6) : SeqAt.shaped q.f = true := by
  obtain ⟨z, hz⟩ := h.isv
  exact (hz.nice.up (by omega)).shaped
end Pk

/-! ### Pk, part C: the small defs of the forms -/
namespace Pk
open PySem PySem.Spec PyProof.Rows L2
abbrev s_form : Stmt := top 14
abbrev n_form : List Str := ["word", "parts"]
abbrev p_form : List Str := ["word", "parts"]
theorem sc_form : FnScope n_form p_form (defScope s_form) := ⟨rfl, rfl, rfl, by decide +kernel, rfl, by decide +kernel, by decide +kernel⟩
abbrev s_bound_to_value : Stmt := top 15
abbrev n_bound_to_value : List Str := ["bound"]
abbrev p_bound_to_value : List Str := ["bound"]
theorem sc_bound_to_value : FnScope n_bound_to_value p_bound_to_value (defScope s_bound_to_value) := ⟨rfl, rfl, rfl, by decide +kernel, rfl, by decide +kernel, by decide +kernel⟩
abbrev s_demand : Stmt := top 19
abbrev n_demand : List Str := ["flag"]
abbrev p_demand : List Str := ["flag"]
theorem sc_demand : FnScope n_demand p_demand (defScope s_demand) := ⟨rfl, rfl, rfl, by decide +kernel, rfl, by decide +kernel, by decide +kernel⟩
abbrev s_inside : Stmt := top 20
abbrev n_inside : List Str := ["value", "kind"]
abbrev p_inside : List Str := ["value", "kind"]
theorem sc_inside : FnScope n_inside p_inside (defScope s_inside) := ⟨rfl, rfl, rfl, by decide +kernel, rfl, by decide +kernel, by decide +kernel⟩
abbrev s_word_and_parts : Stmt := top 21
abbrev n_word_and_parts : List Str := ["value", "items"]
abbrev p_word_and_parts : List Str := ["value"]
theorem sc_word_and_parts : FnScope n_word_and_parts p_word_and_parts (defScope s_word_and_parts) := ⟨rfl, rfl, rfl, by decide +kernel, rfl, by decide +kernel, by decide +kernel⟩
abbrev s_bound_from_value : Stmt := top 22
abbrev n_bound_from_value : List Str := ["value"]
abbrev p_bound_from_value : List Str := ["value"]
theorem sc_bound_from_value : FnScope n_bound_from_value p_bound_from_value (defScope s_bound_from_value) := ⟨rfl, rfl, rfl, by decide +kernel, rfl, by decide +kernel, by decide +kernel⟩
abbrev s_counts_from_values : Stmt := top 23
abbrev n_counts_from_values : List Str := ["low", "high", "least", "most"]
abbrev p_counts_from_values : List Str := ["low", "high"]
theorem sc_counts_from_values : FnScope n_counts_from_values p_counts_from_values (defScope s_counts_from_values) := ⟨rfl, rfl, rfl, by decide +kernel, rfl, by decide +kernel, by decide +kernel⟩
abbrev s_L_form : Stmt := top 47
abbrev n_L_form : List Str := ["_law_word", "_law_parts"]
abbrev p_L_form : List Str := ["_law_word", "_law_parts"]
theorem sc_L_form : FnScope n_L_form p_L_form (defScope s_L_form) := ⟨rfl, rfl, rfl, by decide +kernel, rfl, by decide +kernel, by decide +kernel⟩
abbrev s_L_bound_form : Stmt := top 48
abbrev n_L_bound_form : List Str := ["_law_bound"]
abbrev p_L_bound_form : List Str := ["_law_bound"]
theorem sc_L_bound_form : FnScope n_L_bound_form p_L_bound_form (defScope s_L_bound_form) := ⟨rfl, rfl, rfl, by decide +kernel, rfl, by decide +kernel, by decide +kernel⟩

/-! #### the promises -/
def spDemand : Sp := fun vs H Q _ => vs = [.bl true] ∧ Q .non H
def spInside : Sp := fun vs H Q _ => ∃ (a : Addr) (kd : Str) (x : V), vs = [.ref a, .str kd] ∧ H a = some (.tup [.str kd, x]) ∧ Q x H
def spForm : Sp := fun vs H Q _ => ∃ (x : Str) (l : Addr) (ys : List V) (ds : List PyData), vs = [.str x, .ref l] ∧ H l = some (.lst ys) ∧ TDs H ys ds ∧ ys.length ≤ 999 ∧
  ∀ r H', Same H H' → TD H' r (formD x ds) → Q r H'
def spBound : Sp := fun vs H Q _ => ∃ o : Option Int, vs = [bndV o] ∧ ∀ r H', Same H H' → TD H' r (bndF o) → Q r H'
def spWP : Sp := fun vs H Q _ => ∃ (v : V) (x : Str) (ds : List PyData), vs = [v] ∧ TD H v (formD x ds) ∧
  ∀ p l H', Same H H' → H' p = some (.tup [.str x, .ref l]) → TD H' (.ref l) (.tuple ds) → Q (.ref p) H'
def spBFV : Sp := fun vs H Q _ => ∃ (v : V) (o : Option Int), vs = [v] ∧ TD H v (bndF o) ∧ Q (bndV o) H
def spCFV : Sp := fun vs H Q _ => ∃ (v u : V) (lo : Int) (hi : Option Int), vs = [v, u] ∧ TD H v (bndF (some lo)) ∧ TD H u (bndF hi) ∧ 0 ≤ lo ∧ lo ≤ 30 ∧ cnt hi ∧
  ∀ p H', Same H H' → H' p = some (.tup [.int lo, bndV hi]) → Q (.ref p) H'

theorem at0 {α : Type} (x : α) (xs : List α) : atI (x :: xs) 0 = some x := atI_nat (j := 0) rfl
theorem bl1 {b : Bool} (h : b = true) : ([V.bl b] ++ [] : List V) = [V.bl true] := by rw [h]; rfl
theorem line (n : Nat) (h : n ≤ 1000) : n ≤ sizeLine := Nat.le_of_lt (small1000 h)
section
variable {P : Program} {w : World} {K : PySem.W.Frag} {mg : Str → Option Value} {base : Heap} {k : Nat}
theorem ok_demand (D : Df K mg "demand" s_demand p_demand) : Has P w K mg base (k + 1) "demand" p_demand spDemand := by
  have nd := sc_demand.nd
  refine D.ok sc_demand (fun vs H Q E h => ?_) (fun f cdv A outer s H vs Q E hr h => ?_)
  · obtain ⟨rfl, _⟩ := h
    rfl
  obtain ⟨rfl, q⟩ := h
  refine ⟨_, pss_one (ps_if (pt_not (pt_val (pv 0))) (pss_one ps_never) pss_nil), ?_⟩
  exact ⟨_, rfl, _, rfl, if_f rfl q⟩
theorem ok_inside (D : Df K mg "inside" s_inside p_inside) (hdemand : Has P w K mg base k "demand" p_demand spDemand) : Has P w K mg base (k + 1) "inside" p_inside spInside := by
  have nd := sc_inside.nd
  refine D.ok sc_inside (fun vs H Q E h => ?_) (fun f cdv A outer s H vs Q E hr h => ?_)
  · obtain ⟨_, _, _, rfl, _⟩ := h
    rfl
  obtain ⟨a, kd, x, rfl, ha, q⟩ := h
  refine ⟨_, pss_cons (ps_expr (pe_has hdemand hr (by rfl) (pa_cons (pe_cmpR op_eq (pe_ix ix_tup (pv 0) pe_int (fun _ _ => rfl)) (pv 1) (nomark _)) pa_nil)))
    (pss_one (ps_ret (pe_ix ix_tup (pv 0) pe_int (fun _ _ => rfl)))), ?_⟩
  refine ⟨_, rfl, a, _, _, _, rfl, rfl, SqT.of ha, rfl, _, rfl, rfl, by simp, ?_⟩
  exact ⟨_, rfl, a, _, _, _, rfl, rfl, SqT.of ha, rfl, q⟩
theorem ok_form (B : Bi mg) (D : Df K mg "form" s_form p_form) : Has P w K mg base (k + 1) "form" p_form spForm := by
  have nd := sc_form.nd
  refine D.ok sc_form (fun vs H Q E h => ?_) (fun f cdv A outer s H vs Q E hr h => ?_)
  · obtain ⟨_, _, _, _, rfl, _⟩ := h
    rfl
  obtain ⟨x, l, ys, ds, rfl, hl, hd, hn, q⟩ := h
  refine ⟨_, pss_one (ps_ret (pe_tup (pa_cons pe_str (pa_cons (pe_op op_catA (pe_tup (pa_cons (pe_tup (pa_cons pe_str (pa_cons (pv 0) pa_nil))) pa_nil)) (pe_callTy call_tuple_of (by rfl) B.tuple_ (by decide +kernel) (pa_cons (pv 1) pa_nil))) pa_nil)))), ?_⟩
  refine ⟨_, rfl, line 2 (by decide), fun p1 h1 => ⟨line 1 (by decide), fun p2 h2 => ?_⟩⟩
  have s1 := same_new h1 (.tup [.str "text", .str x])
  have t1 : TD (upd H p1 (.tup [.str "text", .str x])) (.ref p1) (.tuple [.str "text", .str x]) := td_new h1 (tds2 (.str _) (.str _))
  generalize upd H p1 (.tup [.str "text", .str x]) = H1 at *
  have s2 := same_new h2 (.tup [.ref p1])
  have e2 : (upd H1 p2 (.tup [.ref p1])) p2 = some (.tup [.ref p1]) := upd_same
  generalize upd H1 p2 (.tup [.ref p1]) = H2 at *
  refine ⟨_, rfl, l, ys, rfl, .inl ⟨SqL.of (s2 _ _ (s1 _ _ hl)), fun p3 h3 => ?_⟩⟩
  have s3 := same_new h3 (.tup ys)
  have e3 : (upd H2 p3 (.tup ys)) p3 = some (.tup ys) := upd_same
  generalize upd H2 p3 (.tup ys) = H3 at *
  have s03 := s1.trans (s2.trans s3)
  refine ⟨p2, p3, [.ref p1], ys, rfl, rfl, SqT.of (s3 _ _ e2), SqT.of e3, line _ (by simp; omega), fun z => by simp at z, fun _ z => ?_, fun _ _ p4 h4 => ?_⟩
  · subst z
    cases hd
    refine ⟨line 2 (by decide), fun p5 h5 => ?_⟩
    refine q _ _ (s03.trans (same_new h5 _)) (td_new h5 (tds2 (.str _) (.tup (s3 _ _ e2) (tds1 (t1.sm (s2.trans s3))))))
  · have s4 := same_new h4 (.tup ([.ref p1] ++ ys))
    have t4 := td_new (ds := .tuple [.str "text", .str x] :: ds) h4 (.cons (t1.sm (s2.trans s3)) (hd.sm s03))
    refine ⟨line 2 (by decide), fun p5 h5 => ?_⟩
    exact q _ _ (s03.trans (s4.trans (same_new h5 _))) (td_new h5 (tds2 (.str _) t4))
theorem ok_bound (D : Df K mg "bound_to_value" s_bound_to_value p_bound_to_value) : Has P w K mg base (k + 1) "bound_to_value" p_bound_to_value spBound := by
  have nd := sc_bound_to_value.nd
  refine D.ok sc_bound_to_value (fun vs H Q E h => ?_) (fun f cdv A outer s H vs Q E hr h => ?_)
  · obtain ⟨_, rfl, _⟩ := h
    rfl
  obtain ⟨o, rfl, q⟩ := h
  refine ⟨_, pss_cons (ps_if (pt_cmpR op_isN (pv 0) pe_non (nomark _)) (pss_one (ps_ret (pe_tup (pa_cons pe_str pa_nil)))) pss_nil)
    (pss_one (ps_ret (pe_tup (pa_cons pe_str (pa_cons (pv 0) pa_nil))))), ?_⟩
  cases o with
  | none =>
    refine ⟨_, rfl, rfl, _, rfl, if_t (by decide) ⟨line 1 (by decide), fun p h => ?_⟩⟩
    exact q _ _ (same_new h _) (td_new h (tds1 (.str _)))
  | some i =>
    refine ⟨_, rfl, rfl, _, rfl, if_f (decide_eq_false (fun z => nomatch z)) ?_⟩
    refine ⟨_, rfl, line 2 (by decide), fun p h => ?_⟩
    exact q _ _ (same_new h _) (td_new h (tds2 (.str _) (.int _)))
theorem ok_L_form (B : Bi mg) (D : Df K mg "_law_form" s_L_form p_L_form) : Has P w K mg base (k + 1) "_law_form" p_L_form spForm := by
  have nd := sc_L_form.nd
  refine D.ok sc_L_form (fun vs H Q E h => ?_) (fun f cdv A outer s H vs Q E hr h => ?_)
  · obtain ⟨_, _, _, _, rfl, _⟩ := h
    rfl
  obtain ⟨x, l, ys, ds, rfl, hl, hd, hn, q⟩ := h
  refine ⟨_, pss_one (ps_ret (pe_tup (pa_cons pe_str (pa_cons (pe_op op_catA (pe_tup (pa_cons (pe_tup (pa_cons pe_str (pa_cons (pv 0) pa_nil))) pa_nil)) (pe_callTy call_tuple_of (by rfl) B.tuple_ (by decide +kernel) (pa_cons (pv 1) pa_nil))) pa_nil)))), ?_⟩
  refine ⟨_, rfl, line 2 (by decide), fun p1 h1 => ⟨line 1 (by decide), fun p2 h2 => ?_⟩⟩
  have s1 := same_new h1 (.tup [.str "text", .str x])
  have t1 : TD (upd H p1 (.tup [.str "text", .str x])) (.ref p1) (.tuple [.str "text", .str x]) := td_new h1 (tds2 (.str _) (.str _))
  generalize upd H p1 (.tup [.str "text", .str x]) = H1 at *
  have s2 := same_new h2 (.tup [.ref p1])
  have e2 : (upd H1 p2 (.tup [.ref p1])) p2 = some (.tup [.ref p1]) := upd_same
  generalize upd H1 p2 (.tup [.ref p1]) = H2 at *
  refine ⟨_, rfl, l, ys, rfl, .inl ⟨SqL.of (s2 _ _ (s1 _ _ hl)), fun p3 h3 => ?_⟩⟩
  have s3 := same_new h3 (.tup ys)
  have e3 : (upd H2 p3 (.tup ys)) p3 = some (.tup ys) := upd_same
  generalize upd H2 p3 (.tup ys) = H3 at *
  have s03 := s1.trans (s2.trans s3)
  refine ⟨p2, p3, [.ref p1], ys, rfl, rfl, SqT.of (s3 _ _ e2), SqT.of e3, line _ (by simp; omega), fun z => by simp at z, fun _ z => ?_, fun _ _ p4 h4 => ?_⟩
  · subst z
    cases hd
    refine ⟨line 2 (by decide), fun p5 h5 => ?_⟩
    refine q _ _ (s03.trans (same_new h5 _)) (td_new h5 (tds2 (.str _) (.tup (s3 _ _ e2) (tds1 (t1.sm (s2.trans s3))))))
  · have s4 := same_new h4 (.tup ([.ref p1] ++ ys))
    have t4 := td_new (ds := .tuple [.str "text", .str x] :: ds) h4 (.cons (t1.sm (s2.trans s3)) (hd.sm s03))
    refine ⟨line 2 (by decide), fun p5 h5 => ?_⟩
    exact q _ _ (s03.trans (s4.trans (same_new h5 _))) (td_new h5 (tds2 (.str _) t4))
theorem ok_L_bound (D : Df K mg "_law_bound_form" s_L_bound_form p_L_bound_form) : Has P w K mg base (k + 1) "_law_bound_form" p_L_bound_form spBound := by
  have nd := sc_L_bound_form.nd
  refine D.ok sc_L_bound_form (fun vs H Q E h => ?_) (fun f cdv A outer s H vs Q E hr h => ?_)
  · obtain ⟨_, rfl, _⟩ := h
    rfl
  obtain ⟨o, rfl, q⟩ := h
  refine ⟨_, pss_cons (ps_if (pt_cmpR op_isN (pv 0) pe_non (nomark _)) (pss_one (ps_ret (pe_tup (pa_cons pe_str pa_nil)))) pss_nil)
    (pss_one (ps_ret (pe_tup (pa_cons pe_str (pa_cons (pv 0) pa_nil))))), ?_⟩
  cases o with
  | none =>
    refine ⟨_, rfl, rfl, _, rfl, if_t (by decide) ⟨line 1 (by decide), fun p h => ?_⟩⟩
    exact q _ _ (same_new h _) (td_new h (tds1 (.str _)))
  | some i =>
    refine ⟨_, rfl, rfl, _, rfl, if_f (decide_eq_false (fun z => nomatch z)) ?_⟩
    refine ⟨_, rfl, line 2 (by decide), fun p h => ?_⟩
    exact q _ _ (same_new h _) (td_new h (tds2 (.str _) (.int _)))
theorem ok_wp (B : Bi mg) (D : Df K mg "word_and_parts" s_word_and_parts p_word_and_parts) (hdemand : Has P w K mg base k "demand" p_demand spDemand) (hinside : Has P w K mg base k "inside" p_inside spInside) :
    Has P w K mg base (k + 1) "word_and_parts" p_word_and_parts spWP := by
  have nd := sc_word_and_parts.nd
  refine D.ok sc_word_and_parts (fun vs H Q E h => ?_) (fun f cdv A outer s H vs Q E hr h => ?_)
  · obtain ⟨_, _, _, rfl, _⟩ := h
    rfl
  obtain ⟨v, x, ds, rfl, hd, q⟩ := h
  refine ⟨_, pss_cons (ps_set (i := 1) nd rfl (by first | exact Or.inl rfl | exact Or.inr rfl) (pe_has hinside hr (by rfl) (pa_cons (pv 0) (pa_cons pe_str pa_nil))))
    (pss_cons (ps_expr (pe_has hdemand hr (by rfl) (pa_cons (pe_cmpR op_gt (pe_callB call_len (by rfl) B.len (by decide +kernel) (pa_cons (pv 1) pa_nil)) pe_int (nomark _)) pa_nil)))
    (pss_one (ps_ret (pe_tup (pa_cons (pe_has hinside hr (by rfl) (pa_cons (pe_ix ix_tup (pv 1) pe_int (fun _ _ => rfl)) (pa_cons pe_str pa_nil))) (pa_cons (pe_slice sl_tupA (pv 1) (po_some pe_int) po_none) pa_nil)))))), ?_⟩
  obtain ⟨a, v1, v2, rfl, ha, h1, h2⟩ := hd.i_tup2
  cases h1
  obtain ⟨b, ys, rfl, hb, h3⟩ := h2.i_tup
  cases h3 with
  | @cons y ys d ds' h4 h5 =>
  obtain ⟨c, c1, c2, rfl, hc, h6, h7⟩ := h4.i_tup2
  cases h6
  cases h7
  refine ⟨_, rfl, a, _, _, rfl, ha, ?_⟩
  refine ⟨_, rfl, _, _, rfl, .inr ⟨_, SqT.of hb, rfl⟩, _, _, rfl, rfl, ?_, ?_⟩
  · have hh : decide ((0 : Int) < ((V.ref c :: ys).length : Nat)) = true := decide_eq_true (by rw [List.length_cons]; omega)
    exact bl1 hh
  refine ⟨_, rfl, b, _, _, _, rfl, rfl, SqT.of hb, at0 _ _, c, _, _, rfl, hc, ?_⟩
  have cut : cutV (V.ref c :: ys) (some 1) none = ys := by
    unfold cutV
    rw [show HT.sIx (V.ref c :: ys).length 0 (some 1) = min 1 (V.ref c :: ys).length from HT.sIx_nat _ 0 1, HT.sIx_none]
    rw [show min 1 (V.ref c :: ys).length = 1 by rw [List.length_cons]; omega]
    show List.take ((V.ref c :: ys).length - 1) ys = ys
    rw [List.length_cons, Nat.add_sub_cancel]
    exact List.take_length
  refine ⟨_, rfl, 1, rfl, b, _, rfl, SqT.of hb, fun z => ?_, fun _ p hp => ?_⟩
  · have z1 := z.1
    rw [show HT.sIx (V.ref c :: ys).length 0 (some 1) = min 1 (V.ref c :: ys).length from HT.sIx_nat _ 0 1, List.length_cons] at z1
    omega
  · rw [cut]
    have s1 := same_new hp (.tup ys)
    have t1 := td_new hp h5
    refine ⟨line 2 (by decide), fun p2 hp2 => ?_⟩
    exact q _ _ _ (s1.trans (same_new hp2 _)) upd_same (t1.sm (same_new hp2 _))
theorem ok_bfv (D : Df K mg "bound_from_value" s_bound_from_value p_bound_from_value) (hinside : Has P w K mg base k "inside" p_inside spInside) :
    Has P w K mg base (k + 1) "bound_from_value" p_bound_from_value spBFV := by
  have nd := sc_bound_from_value.nd
  refine D.ok sc_bound_from_value (fun vs H Q E h => ?_) (fun f cdv A outer s H vs Q E hr h => ?_)
  · obtain ⟨_, _, rfl, _⟩ := h
    rfl
  obtain ⟨v, o, rfl, hd, q⟩ := h
  refine ⟨_, pss_cons (ps_if (pt_cmpR op_eq (pe_ix ix_tup (pv 0) pe_int (fun _ _ => rfl)) pe_str (nomark _)) (pss_one (ps_ret pe_non)) pss_nil)
    (pss_one (ps_ret (pe_has hinside hr (by rfl) (pa_cons (pv 0) (pa_cons pe_str pa_nil))))), ?_⟩
  cases o with
  | none =>
    obtain ⟨a, x, rfl, ha, h1⟩ := TD.i_tup1 hd
    cases h1
    exact ⟨_, rfl, a, _, _, _, rfl, rfl, SqT.of ha, rfl, rfl, _, rfl, if_t (by decide) q⟩
  | some i =>
    obtain ⟨a, x, y, rfl, ha, h1, h2⟩ := TD.i_tup2 hd
    cases h1
    cases h2
    refine ⟨_, rfl, a, _, _, _, rfl, rfl, SqT.of ha, rfl, rfl, _, rfl, if_f (by decide +kernel) ?_⟩
    exact ⟨_, rfl, a, _, _, rfl, ha, q⟩
theorem ok_cfv (B : Bi mg) (D : Df K mg "counts_from_values" s_counts_from_values p_counts_from_values) (hdemand : Has P w K mg base k "demand" p_demand spDemand) (hinside : Has P w K mg base k "inside" p_inside spInside)
    (hbound_from_value : Has P w K mg base k "bound_from_value" p_bound_from_value spBFV) : Has P w K mg base (k + 1) "counts_from_values" p_counts_from_values spCFV := by
  have nd := sc_counts_from_values.nd
  obtain ⟨tm, hm⟩ := B.most
  refine D.ok sc_counts_from_values (fun vs H Q E h => ?_) (fun f cdv A outer s H vs Q E hr h => ?_)
  · obtain ⟨_, _, _, _, rfl, _⟩ := h
    rfl
  obtain ⟨v, u, lo, hi, rfl, h1, h2, h3, h4, h5, q⟩ := h
  refine ⟨_, pss_cons (ps_set (i := 2) nd rfl (by first | exact Or.inl rfl | exact Or.inr rfl) (pe_has hinside hr (by rfl) (pa_cons (pv 0) (pa_cons pe_str pa_nil))))
    (pss_cons (ps_set (i := 3) nd rfl (by first | exact Or.inl rfl | exact Or.inr rfl) (pe_has hbound_from_value hr (by rfl) (pa_cons (pv 1) pa_nil)))
    (pss_cons (ps_expr (pe_has hdemand hr (by rfl) (pa_cons (pe_chain op_le op_le pe_int (pv 2) (pe_glob (v := .int 30) (by rfl) hm ⟨_, rfl⟩)) pa_nil)))
    (pss_cons (ps_expr (pe_has hdemand hr (by rfl) (pa_cons (pe_or (pe_cmpR op_isN (pv 3) pe_non (nomark _)) (pe_one (pe_chain op_le op_le pe_int (pv 3) (pe_glob (v := .int 30) (by rfl) hm ⟨_, rfl⟩)))) pa_nil)))
    (pss_one (ps_ret (pe_tup (pa_cons (pv 2) (pa_cons (pv 3) pa_nil)))))))), ?_⟩
  obtain ⟨a, x, y, rfl, ha, k1, k2⟩ := TD.i_tup2 h1
  cases k1
  cases k2
  refine ⟨_, rfl, a, _, _, rfl, ha, ?_⟩
  refine ⟨_, rfl, _, _, rfl, h2, ?_⟩
  refine ⟨_, rfl, _, _, rfl, rfl, _, rfl, if_t (decide_eq_true h3) ⟨_, _, rfl, rfl, ?_, ?_⟩⟩
  · exact bl1 (decide_eq_true h4)
  cases hi with
  | none =>
    refine ⟨_, rfl, rfl, _, rfl, if_t (by decide) ⟨rfl, ?_⟩⟩
    exact ⟨_, rfl, _, rfl, line 2 (by decide), fun p hp => q _ _ (same_new hp _) upd_same⟩
  | some i =>
    obtain ⟨i1, i2⟩ := h5 i rfl
    refine ⟨_, rfl, rfl, _, rfl, if_f (decide_eq_false (fun z => nomatch z)) ?_⟩
    refine ⟨_, rfl, _, _, rfl, rfl, _, rfl, if_t (decide_eq_true i1) ⟨_, _, rfl, rfl, ?_, ?_⟩⟩
    · exact bl1 (decide_eq_true i2)
    exact ⟨_, rfl, _, rfl, line 2 (by decide), fun p hp => q _ _ (same_new hp _) upd_same⟩
end
end Pk

/-! ### Pk, part D: a schema becomes a value -/
namespace Pk
open PySem PySem.Spec PyProof.Rows L2
abbrev s_schemas_to_value : Stmt := top 16
abbrev n_schemas_to_value : List Str := ["schemas", "part"]
abbrev p_schemas_to_value : List Str := ["schemas"]
theorem sc_schemas_to_value : FnScope n_schemas_to_value p_schemas_to_value (defScope s_schemas_to_value) := ⟨rfl, rfl, rfl, by decide +kernel, rfl, by decide +kernel, by decide +kernel⟩
abbrev s_row_to_value : Stmt := top 17
abbrev n_row_to_value : List Str := ["row"]
abbrev p_row_to_value : List Str := ["row"]
theorem sc_row_to_value : FnScope n_row_to_value p_row_to_value (defScope s_row_to_value) := ⟨rfl, rfl, rfl, by decide +kernel, rfl, by decide +kernel, by decide +kernel⟩
abbrev s_schema_to_value : Stmt := top 18
abbrev n_schema_to_value : List Str := ["schema", "word", "rows", "row"]
abbrev p_schema_to_value : List Str := ["schema"]
theorem sc_schema_to_value : FnScope n_schema_to_value p_schema_to_value (defScope s_schema_to_value) := ⟨rfl, rfl, rfl, by decide +kernel, rfl, by decide +kernel, by decide +kernel⟩
abbrev s_L_schema_form : Stmt := top 49
abbrev n_L_schema_form : List Str := ["_law_schema_here", "_law_word", "_law_bounds_here", "_law_rows_here", "_law_row", "_law_part"]
abbrev p_L_schema_form : List Str := ["_law_schema_here"]
theorem sc_L_schema_form : FnScope n_L_schema_form p_L_schema_form (defScope s_L_schema_form) := ⟨rfl, rfl, rfl, by decide +kernel, rfl, by decide +kernel, by decide +kernel⟩
/-! tests of a word -/
theorem dec_s {x y : Str} (h : x = y) : decide (V.str x = V.str y) = true := decide_eq_true (by rw [h])
theorem dec_n {x y : Str} (h : x ≠ y) : decide (V.str x = V.str y) = false := decide_eq_false (fun z => h (V.str.inj z))
section
variable {i : Nat} {x y y1 y2 y3 : Str} {σ : L2.St} {H : Hp} {Q : Bool → Hp → Prop}
abbrev tW (i : Nat) (y : Str) : TT := tTest (tOp rEq (tVar i) (tC (.str y)))
theorem w1t (h : σ[i]? = some (some (.str x))) (e : x = y) (q : Q true H) : tW i y σ H Q := ⟨_, h, rfl, _, rfl, by rw [dec_s e]; exact q⟩
theorem w1f (h : σ[i]? = some (some (.str x))) (e : x ≠ y) (q : Q false H) : tW i y σ H Q := ⟨_, h, rfl, _, rfl, by rw [dec_n e]; exact q⟩
theorem w2t (h : σ[i]? = some (some (.str x))) (e : x = y1 ∨ x = y2) (q : Q true H) : tOr (tW i y1) (tW i y2) σ H Q := by
  by_cases z : x = y1
  · exact w1t h z (if_t rfl q)
  · exact w1f h z (if_f rfl (w1t h (e.resolve_left z) q))
theorem w2f (h : σ[i]? = some (some (.str x))) (e : x ≠ y1 ∧ x ≠ y2) (q : Q false H) : tOr (tW i y1) (tW i y2) σ H Q := w1f h e.1 (if_f rfl (w1f h e.2 q))
theorem w3t (h : σ[i]? = some (some (.str x))) (e : x = y1 ∨ x = y2 ∨ x = y3) (q : Q true H) : tOr (tW i y1) (tOr (tW i y2) (tW i y3)) σ H Q := by
  by_cases z : x = y1
  · exact w1t h z (if_t rfl q)
  · exact w1f h z (if_f rfl (w2t h (e.resolve_left z) q))
theorem w3f (h : σ[i]? = some (some (.str x))) (e : x ≠ y1 ∧ x ≠ y2 ∧ x ≠ y3) (q : Q false H) : tOr (tW i y1) (tOr (tW i y2) (tW i y3)) σ H Q := w1f h e.1 (if_f rfl (w2f h e.2 q))
end
/-- the words apart -/
structure NW (w : Str) : Prop where
  a : w ≠ "int" ∧ w ≠ "text"
  b : w ≠ "const"
  c : w ≠ "list"
  d : w ≠ "tuple" ∧ w ≠ "either" ∧ w ≠ "all"
  e : w ≠ "object"
  f : w ≠ "not"
theorem nw_word {w : Str} (h : w = "any" ∨ w = "never" ∨ w = "null" ∨ w = "bool") : NW w := by
  rcases h with rfl | rfl | rfl | rfl <;> exact ⟨by decide +kernel, by decide +kernel, by decide +kernel, by decide +kernel, by decide +kernel, by decide +kernel⟩
theorem nw_many {w : Str} (h : w = "tuple" ∨ w = "either" ∨ w = "all") : (w ≠ "int" ∧ w ≠ "text") ∧ w ≠ "const" ∧ w ≠ "list" := by
  rcases h with rfl | rfl | rfl <;> decide +kernel
def spSTV (n : Nat) : Sp := fun vs H Q _ => ∃ (v : V) (q : Q4), vs = [v] ∧ SF n q ∧ TD H v q.s ∧ ∀ r H', Same H H' → TD H' r q.f → Q r H'
def spSsTV (n : Nat) : Sp := fun vs H Q _ => ∃ (v : V) (xs : List Q4), vs = [v] ∧ xs.length ≤ 3 ∧ (∀ x ∈ xs, SF n x) ∧ TD H v (.tuple (xs.map Q4.s)) ∧
  ∀ r H', Same H H' → TD H' r (.tuple [.str "list", .tuple (xs.map Q4.f)]) → Q r H'
def spRTV (n : Nat) : Sp := fun vs H Q _ => ∃ (v : V) (r : Rw), vs = [v] ∧ SF n r.q ∧ TD H v (rowS r) ∧ ∀ y H', Same H H' → TD H' y (rowF r) → Q y H'
section
variable {P : Program} {w : World} {K : PySem.W.Frag} {mg : Str → Option Value} {base : Heap} {k : Nat}
/-- nothing is asked where the promise can't be called -/
theorem has_void {x : Str} {st : Stmt} {ps : List Str} {sp : Sp} (D : Df K mg x st ps) (no : ∀ vs H Q E, ¬ sp vs H Q E) : Has P w K mg base k x ps sp := by
  obtain ⟨f, fd, F, m, b⟩ := D
  exact ⟨f, fd, ⟨fun vs H Q E h => absurd h (no vs H Q E), fun A outer s H args us vs Q E _ _ _ _ h => absurd h (no vs H Q E)⟩, m, F.kp, b⟩
theorem SF.no0 {q : Q4} (h : SF 0 q) : False := nomatch h
theorem ok_ssv (B : Bi mg) (D : Df K mg "schemas_to_value" s_schemas_to_value p_schemas_to_value) {n : Nat} (hschema_to_value : Has P w K mg base k "schema_to_value" p_schema_to_value (spSTV n)) :
    Has P w K mg base (k + 1) "schemas_to_value" p_schemas_to_value (spSsTV n) := by
  have nd := sc_schemas_to_value.nd
  refine D.ok sc_schemas_to_value (fun vs H Q E h => ?_) (fun f cdv A outer s H vs Q E hr h => ?_)
  · obtain ⟨_, _, rfl, _⟩ := h
    rfl
  obtain ⟨v, xs, rfl, hn, hx, hd, q⟩ := h
  refine ⟨_, pss_one (ps_ret (pe_tup (pa_cons pe_str (pa_cons (pe_callTy call_tuple_of (by rfl) B.tuple_ (by decide +kernel) (pa_cons (pe_lc (own := [("part", 1)]) (g := gName 1) (tt := tYes) rfl nd (pi_tup (pv 0)) (blkOk_by (N := n_schemas_to_value) (sc := defScope s_schemas_to_value) (by decide +kernel)) (fun _ _ _ _ _ => pg_name (i := 1) nd rfl (Or.inl rfl)) (fun _ _ _ _ _ => pts_nil) (fun _ _ _ _ _ => (pe_has hschema_to_value hr (by rfl) (pa_cons (pv 1) pa_nil)))) pa_nil)) pa_nil)))), ?_⟩
  obtain ⟨a, ys, rfl, ha, h1⟩ := hd.i_tup
  have hl : ys.length = xs.length := by rw [h1.len, List.length_map]
  refine ⟨_, rfl, a, rfl, ⟨_, SqT.of ha⟩, lcT ha (by omega) (fun i y H' => ∃ e, xs[i]? = some e ∧ TD H' y e.f) (fun i y H H' t ⟨e, h1, h2⟩ => ⟨e, h1, h2.tu t⟩) (fun i x H1 hi s1 K' kk => ?_) (fun D H' zs s1 eD hz hR => ?_)⟩
  · obtain ⟨e, he, te⟩ := h1.atM hi
    exact ⟨_, rfl, x, e, rfl, hx e (List.mem_of_getElem? he), te.sm s1, fun r H' s t => kk r H' s ⟨e, he, t⟩⟩
  · refine ⟨D, zs, rfl, .inl ⟨SqL.of eD, fun p hp => ⟨line 2 (by decide), fun p2 hp2 => ?_⟩⟩⟩
    have t1 := td_new hp (TDs.ofM (f := Q4.f) (L := xs) (by omega) hR)
    exact q _ _ (s1.trans ((same_new hp _).trans (same_new hp2 _))) (td_new hp2 (tds2 (.str _) t1))
theorem ok_rtv (D : Df K mg "row_to_value" s_row_to_value p_row_to_value) {n : Nat} (hschema_to_value : Has P w K mg base k "schema_to_value" p_schema_to_value (spSTV n)) :
    Has P w K mg base (k + 1) "row_to_value" p_row_to_value (spRTV n) := by
  have nd := sc_row_to_value.nd
  refine D.ok sc_row_to_value (fun vs H Q E h => ?_) (fun f cdv A outer s H vs Q E hr h => ?_)
  · obtain ⟨_, _, rfl, _⟩ := h
    rfl
  obtain ⟨v, r, rfl, hx, hd, q⟩ := h
  refine ⟨_, pss_one (ps_ret (pe_tup (pa_cons pe_str (pa_cons (pe_tup (pa_cons (pe_tup (pa_cons pe_str (pa_cons (pe_ix ix_tup (pv 0) pe_int (fun _ _ => rfl)) pa_nil))) (pa_cons (pe_has hschema_to_value hr (by rfl) (pa_cons (pe_ix ix_tup (pv 0) pe_int (fun _ _ => rfl)) pa_nil)) (pa_cons (pe_tup (pa_cons pe_str (pa_cons (pe_ix ix_tup (pv 0) pe_int (fun _ _ => rfl)) pa_nil))) pa_nil)))) pa_nil)))), ?_⟩
  obtain ⟨a, x, y, z, rfl, ha, h1, h2, h3⟩ := hd.i_tup3
  cases h1
  cases h3
  refine ⟨_, rfl, a, _, _, _, rfl, rfl, SqT.of ha, rfl, line 2 (by decide), fun p1 hp1 => ?_⟩
  have s1 := same_new hp1 (.tup [.str "text", .str r.x])
  have t1 := td_new hp1 (tds2 (H := H) (.str "text") (.str r.x))
  generalize upd H p1 (.tup [.str "text", .str r.x]) = H1 at *
  refine ⟨_, rfl, a, _, _, _, rfl, rfl, SqT.of (s1 _ _ ha), rfl, y, r.q, rfl, hx, h2.sm s1, fun u H2 s2 t2 => ?_⟩
  refine ⟨_, rfl, a, _, _, _, rfl, rfl, SqT.of (s2 _ _ (s1 _ _ ha)), rfl, line 2 (by decide), fun p3 hp3 => ?_⟩
  have s3 := same_new hp3 (.tup [.str "bool", .bl r.r])
  have t3 := td_new hp3 (tds2 (H := H2) (.str "bool") (.bl r.r))
  generalize upd H2 p3 (.tup [.str "bool", .bl r.r]) = H3 at *
  refine ⟨line 3 (by decide), fun p4 hp4 => ⟨line 2 (by decide), fun p5 hp5 => ?_⟩⟩
  have t4 := td_new hp4 (tds3 (t1.sm (s2.trans s3)) (t2.sm s3) t3)
  exact q _ _ (s1.trans (s2.trans (s3.trans ((same_new hp4 _).trans (same_new hp5 _))))) (td_new hp5 (tds2 (.str _) t4))
theorem ok_stv_turn (B : Bi mg) (D : Df K mg "schema_to_value" s_schema_to_value p_schema_to_value) {n : Nat} (hschema_to_value : Has P w K mg base k "schema_to_value" p_schema_to_value (spSTV n)) (hform : Has P w K mg base k "form" p_form spForm) (hbound_to_value : Has P w K mg base k "bound_to_value" p_bound_to_value spBound)
    (hschemas_to_value : Has P w K mg base k "schemas_to_value" p_schemas_to_value (spSsTV n)) (hrow_to_value : Has P w K mg base k "row_to_value" p_row_to_value (spRTV n)) : Has P w K mg base (k + 1) "schema_to_value" p_schema_to_value (spSTV (n + 1)) := by
  have nd := sc_schema_to_value.nd
  refine D.ok sc_schema_to_value (fun vs H Q E h => ?_) (fun f cdv A outer s H vs Q E hr h => ?_)
  · obtain ⟨_, _, rfl, _⟩ := h
    rfl
  obtain ⟨v, q, rfl, hS, hd, kq⟩ := h
  refine ⟨_, pss_cons (ps_set (i := 1) nd rfl (by first | exact Or.inl rfl | exact Or.inr rfl) (pe_ix ix_tup (pv 0) pe_int (fun _ _ => rfl)))
    (pss_cons (ps_if (PW.pt (pw_or (pt_cmpR op_eq (pv 1) pe_str (nomark _)) (pw_or1 (pt_cmpR op_eq (pv 1) pe_str (nomark _))))) (pss_one (ps_ret (pe_has hform hr (by rfl) (pa_cons (pv 1) (pa_cons (pe_lst (pa_cons (pe_has hbound_to_value hr (by rfl) (pa_cons (pe_ix ix_tup (pv 0) pe_int (fun _ _ => rfl)) pa_nil)) (pa_cons (pe_has hbound_to_value hr (by rfl) (pa_cons (pe_ix ix_tup (pv 0) pe_int (fun _ _ => rfl)) pa_nil)) pa_nil))) pa_nil))))) pss_nil)
    (pss_cons (ps_if (pt_cmpR op_eq (pv 1) pe_str (nomark _)) (pss_one (ps_ret (pe_has hform hr (by rfl) (pa_cons (pv 1) (pa_cons (pe_lst (pa_cons (pe_ix ix_tup (pv 0) pe_int (fun _ _ => rfl)) pa_nil)) pa_nil))))) pss_nil)
    (pss_cons (ps_if (pt_cmpR op_eq (pv 1) pe_str (nomark _)) (pss_one (ps_ret (pe_has hform hr (by rfl) (pa_cons (pv 1) (pa_cons (pe_lst (pa_cons (pe_has hschema_to_value hr (by rfl) (pa_cons (pe_ix ix_tup (pv 0) pe_int (fun _ _ => rfl)) pa_nil)) (pa_cons (pe_has hbound_to_value hr (by rfl) (pa_cons (pe_ix ix_tup (pv 0) pe_int (fun _ _ => rfl)) pa_nil)) (pa_cons (pe_has hbound_to_value hr (by rfl) (pa_cons (pe_ix ix_tup (pv 0) pe_int (fun _ _ => rfl)) pa_nil)) pa_nil)))) pa_nil))))) pss_nil)
    (pss_cons (ps_if (PW.pt (pw_or (pt_cmpR op_eq (pv 1) pe_str (nomark _)) (pw_or (pt_cmpR op_eq (pv 1) pe_str (nomark _)) (pw_or1 (pt_cmpR op_eq (pv 1) pe_str (nomark _)))))) (pss_one (ps_ret (pe_has hform hr (by rfl) (pa_cons (pv 1) (pa_cons (pe_lst (pa_cons (pe_has hschemas_to_value hr (by rfl) (pa_cons (pe_ix ix_tup (pv 0) pe_int (fun _ _ => rfl)) pa_nil)) pa_nil)) pa_nil))))) pss_nil)
    (pss_cons (ps_if (pt_cmpR op_eq (pv 1) pe_str (nomark _)) (pss_cons (ps_set (i := 2) nd rfl (by first | exact Or.inl rfl | exact Or.inr rfl) (pe_tup (pa_cons pe_str (pa_cons (pe_callTy call_tuple_of (by rfl) B.tuple_ (by decide +kernel) (pa_cons (pe_lc (own := [("row", 3)]) (g := gName 3) (tt := tYes) rfl nd (pi_tup (pe_ix ix_tup (pv 0) pe_int (fun _ _ => rfl))) (blkOk_by (N := n_schema_to_value) (sc := defScope s_schema_to_value) (by decide +kernel)) (fun _ _ _ _ _ => pg_name (i := 3) nd rfl (Or.inl rfl)) (fun _ _ _ _ _ => pts_nil) (fun _ _ _ _ _ => (pe_has hrow_to_value hr (by rfl) (pa_cons (pv 3) pa_nil)))) pa_nil)) pa_nil))))
      (pss_one (ps_ret (pe_has hform hr (by rfl) (pa_cons (pv 1) (pa_cons (pe_lst (pa_cons (pv 2) (pa_cons (pe_has hschema_to_value hr (by rfl) (pa_cons (pe_ix ix_tup (pv 0) pe_int (fun _ _ => rfl)) pa_nil)) pa_nil))) pa_nil)))))) pss_nil)
    (pss_cons (ps_if (pt_cmpR op_eq (pv 1) pe_str (nomark _)) (pss_one (ps_ret (pe_has hform hr (by rfl) (pa_cons (pv 1) (pa_cons (pe_lst (pa_cons (pe_has hschema_to_value hr (by rfl) (pa_cons (pe_ix ix_tup (pv 0) pe_int (fun _ _ => rfl)) pa_nil)) pa_nil)) pa_nil))))) pss_nil)
    (pss_one (ps_ret (pe_has hform hr (by rfl) (pa_cons (pv 1) (pa_cons (pe_lst pa_nil) pa_nil))))))))))), ?_⟩
  cases hS with
  | word w hw =>
    obtain ⟨a, x, rfl, ha, h1⟩ := TD.i_tup1 hd
    cases h1
    have N := nw_word hw
    refine ⟨_, rfl, a, _, _, _, rfl, rfl, SqT.of ha, rfl, ?_⟩
    refine w2f rfl N.a (if_f rfl ?_)
    refine w1f rfl N.b (if_f rfl ?_)
    refine w1f rfl N.c (if_f rfl ?_)
    refine w3f rfl N.d (if_f rfl ?_)
    refine w1f rfl N.e (if_f rfl ?_)
    refine w1f rfl N.f (if_f rfl ?_)
    exact ⟨_, rfl, Nat.zero_le _, fun l hl => ⟨w, l, [], [], rfl, upd_same, .nil, by simp, fun r H' s t => kq r H' ((same_new hl _).trans s) t⟩⟩
  | int lo hi =>
    obtain ⟨a, x, y, z, rfl, ha, h1, h2, h3⟩ := TD.i_tup3 hd
    cases h1
    cases bnd_v h2
    cases bnd_v h3
    refine ⟨_, rfl, a, _, _, _, rfl, rfl, SqT.of ha, rfl, ?_⟩
    refine w2t rfl (.inl rfl) (if_t rfl ?_)
    refine ⟨_, rfl, _, rfl, a, _, _, _, rfl, rfl, SqT.of ha, rfl, lo, rfl, fun r1 H1 s1 t1 => ?_⟩
    refine ⟨_, rfl, a, _, _, _, rfl, rfl, SqT.of (s1 _ _ ha), rfl, hi, rfl, fun r2 H2 s2 t2 => ⟨line 2 (by decide), fun l hl => ?_⟩⟩
    have s3 := same_new hl (.lst [r1, r2])
    exact ⟨_, l, [r1, r2], _, rfl, upd_same, (tds2 (t1.sm s2) t2).sm s3, by simp, fun r H' s t => kq r H' (s1.trans (s2.trans (s3.trans s))) t⟩
  | text lo hi h0 h1' h2' =>
    obtain ⟨a, x, y, z, rfl, ha, h1, h2, h3⟩ := TD.i_tup3 hd
    cases h1
    cases h2
    cases bnd_v h3
    refine ⟨_, rfl, a, _, _, _, rfl, rfl, SqT.of ha, rfl, ?_⟩
    refine w2t rfl (.inr rfl) (if_t rfl ?_)
    refine ⟨_, rfl, _, rfl, a, _, _, _, rfl, rfl, SqT.of ha, rfl, (some lo), rfl, fun r1 H1 s1 t1 => ?_⟩
    refine ⟨_, rfl, a, _, _, _, rfl, rfl, SqT.of (s1 _ _ ha), rfl, hi, rfl, fun r2 H2 s2 t2 => ⟨line 2 (by decide), fun l hl => ?_⟩⟩
    have s3 := same_new hl (.lst [r1, r2])
    exact ⟨_, l, [r1, r2], _, rfl, upd_same, (tds2 (t1.sm s2) t2).sm s3, by simp, fun r H' s t => kq r H' (s1.trans (s2.trans (s3.trans s))) t⟩
  | const d z hv =>
    obtain ⟨a, x, y, rfl, ha, h1, h2⟩ := TD.i_tup2 hd
    cases h1
    refine ⟨_, rfl, a, _, _, _, rfl, rfl, SqT.of ha, rfl, ?_⟩
    refine w2f rfl (by decide +kernel) (if_f rfl ?_)
    refine w1t rfl rfl (if_t rfl ?_)
    refine ⟨_, rfl, _, rfl, a, _, _, _, rfl, rfl, SqT.of ha, rfl, line 1 (by decide), fun l hl => ?_⟩
    have s3 := same_new hl (.lst [y])
    exact ⟨_, l, [y], _, rfl, upd_same, (tds1 h2).sm s3, by simp, fun r H' s t => kq r H' (s3.trans s) t⟩
  | list x lo hi h0 h1' h2' hx =>
    obtain ⟨a, x0, y, z, u, rfl, ha, h1, h2, h3, h4⟩ := TD.i_tup4 hd
    cases h1
    cases h3
    cases bnd_v h4
    refine ⟨_, rfl, a, _, _, _, rfl, rfl, SqT.of ha, rfl, ?_⟩
    refine w2f rfl (by decide +kernel) (if_f rfl ?_)
    refine w1f rfl (by decide +kernel) (if_f rfl ?_)
    refine w1t rfl rfl (if_t rfl ?_)
    refine ⟨_, rfl, _, rfl, a, _, _, _, rfl, rfl, SqT.of ha, rfl, y, x, rfl, hx, h2, fun r0 H0 s0 t0 => ?_⟩
    refine ⟨_, rfl, a, _, _, _, rfl, rfl, SqT.of (s0 _ _ ha), rfl, (some lo), rfl, fun r1 H1 s1 t1 => ?_⟩
    refine ⟨_, rfl, a, _, _, _, rfl, rfl, SqT.of (s1 _ _ (s0 _ _ ha)), rfl, hi, rfl, fun r2 H2 s2 t2 => ⟨line 3 (by decide), fun l hl => ?_⟩⟩
    have s3 := same_new hl (.lst [r0, r1, r2])
    exact ⟨_, l, [r0, r1, r2], _, rfl, upd_same, (tds3 (t0.sm (s1.trans s2)) (t1.sm s2) t2).sm s3, by simp, fun r H' s t => kq r H' (s0.trans (s1.trans (s2.trans (s3.trans s)))) t⟩
  | many w xs hw hn hx =>
    obtain ⟨a, x0, y, rfl, ha, h1, h2⟩ := TD.i_tup2 hd
    cases h1
    have N := nw_many hw
    refine ⟨_, rfl, a, _, _, _, rfl, rfl, SqT.of ha, rfl, ?_⟩
    refine w2f rfl N.1 (if_f rfl ?_)
    refine w1f rfl N.2.1 (if_f rfl ?_)
    refine w1f rfl N.2.2 (if_f rfl ?_)
    refine w3t rfl hw (if_t rfl ?_)
    refine ⟨_, rfl, _, rfl, a, _, _, _, rfl, rfl, SqT.of ha, rfl, y, xs, rfl, hn, hx, h2, fun r1 H1 s1 t1 => ⟨line 1 (by decide), fun l hl => ?_⟩⟩
    have s3 := same_new hl (.lst [r1])
    exact ⟨_, l, [r1], _, rfl, upd_same, (tds1 t1).sm s3, by simp, fun r H' s t => kq r H' (s1.trans (s3.trans s)) t⟩
  | object rs y hn hnd ho hx hy =>
    obtain ⟨a, x0, y1, y2, rfl, ha, h1, h2, h3⟩ := TD.i_tup3 hd
    cases h1
    obtain ⟨b, ys, rfl, hb, h4⟩ := h2.i_tup
    have hl : ys.length = rs.length := by rw [h4.len, List.length_map]
    refine ⟨_, rfl, a, _, _, _, rfl, rfl, SqT.of ha, rfl, ?_⟩
    refine w2f rfl (by decide +kernel) (if_f rfl ?_)
    refine w1f rfl (by decide +kernel) (if_f rfl ?_)
    refine w1f rfl (by decide +kernel) (if_f rfl ?_)
    refine w3f rfl (by decide +kernel) (if_f rfl ?_)
    refine w1t rfl rfl (if_t rfl ?_)
    refine ⟨_, rfl, a, _, _, _, rfl, rfl, SqT.of ha, rfl, b, rfl, ⟨_, SqT.of hb⟩, lcT hb (by omega) (fun i y H' => ∃ e, rs[i]? = some e ∧ TD H' y (rowF e)) (fun i y H H' t ⟨e, h1, h2⟩ => ⟨e, h1, h2.tu t⟩) (fun i x H1 hi s1 K' kk => ?_) (fun D H' zs s1 eD hz hR => ?_)⟩
    · obtain ⟨e, he, te⟩ := h4.atM hi
      exact ⟨_, rfl, x, e, rfl, hx e (List.mem_of_getElem? he), te.sm s1, fun r H' s t => kk r H' s ⟨e, he, t⟩⟩
    · refine ⟨D, zs, rfl, .inl ⟨SqL.of eD, fun p hp => ⟨line 2 (by decide), fun p2 hp2 => ?_⟩⟩⟩
      have t1 := td_new hp (TDs.ofM (f := rowF) (L := rs) (by omega) hR)
      have t2 := td_new hp2 (tds2 (.str "list") t1)
      have s2 := (same_new hp (.tup zs)).trans (same_new hp2 (.tup [.str "list", .ref p]))
      generalize upd (upd H' p (.tup zs)) p2 (.tup [.str "list", .ref p]) = H2 at *
      refine ⟨_, rfl, _, rfl, _, rfl, a, _, _, _, rfl, rfl, SqT.of (s2 _ _ (s1 _ _ ha)), rfl, y2, y, rfl, hy, h3.sm (s1.trans s2), fun r3 H3 s3 t3 => ⟨line 2 (by decide), fun l hl => ?_⟩⟩
      have s4 := same_new hl (.lst [.ref p2, r3])
      exact ⟨_, l, [.ref p2, r3], _, rfl, upd_same, (tds2 (t2.sm s3) t3).sm s4, by simp, fun r H' s t => kq r H' (s1.trans (s2.trans (s3.trans (s4.trans s)))) t⟩
  | not x hx =>
    obtain ⟨a, x0, y, rfl, ha, h1, h2⟩ := TD.i_tup2 hd
    cases h1
    refine ⟨_, rfl, a, _, _, _, rfl, rfl, SqT.of ha, rfl, ?_⟩
    refine w2f rfl (by decide +kernel) (if_f rfl ?_)
    refine w1f rfl (by decide +kernel) (if_f rfl ?_)
    refine w1f rfl (by decide +kernel) (if_f rfl ?_)
    refine w3f rfl (by decide +kernel) (if_f rfl ?_)
    refine w1f rfl (by decide +kernel) (if_f rfl ?_)
    refine w1t rfl rfl (if_t rfl ?_)
    refine ⟨_, rfl, _, rfl, a, _, _, _, rfl, rfl, SqT.of ha, rfl, y, x, rfl, hx, h2, fun r1 H1 s1 t1 => ⟨line 1 (by decide), fun l hl => ?_⟩⟩
    have s3 := same_new hl (.lst [r1])
    exact ⟨_, l, [r1], _, rfl, upd_same, (tds1 t1).sm s3, by simp, fun r H' s t => kq r H' (s1.trans (s3.trans s)) t⟩
end
end Pk

/-! ### Pk, part E: the law's own forms; both recursions -/
namespace Pk
open PySem PySem.Spec PyProof.Rows L2
section
variable {P : Program} {w : World} {K : PySem.W.Frag} {mg : Str → Option Value} {base : Heap} {k : Nat}
theorem ok_L_sf_turn (B : Bi mg) (D : Df K mg "_law_schema_form" s_L_schema_form p_L_schema_form) {n : Nat} (hL_schema_form : Has P w K mg base k "_law_schema_form" p_L_schema_form (spSTV n)) (hL_form : Has P w K mg base k "_law_form" p_L_form spForm) (hL_bound_form : Has P w K mg base k "_law_bound_form" p_L_bound_form spBound) :
    Has P w K mg base (k + 1) "_law_schema_form" p_L_schema_form (spSTV (n + 1)) := by
  have nd := sc_L_schema_form.nd
  refine D.ok sc_L_schema_form (fun vs H Q E h => ?_) (fun f cdv A outer s H vs Q E hr h => ?_)
  · obtain ⟨_, _, rfl, _⟩ := h
    rfl
  obtain ⟨v, q, rfl, hS, hd, kq⟩ := h
  refine ⟨_, pss_cons (ps_set (i := 1) nd rfl (by first | exact Or.inl rfl | exact Or.inr rfl) (pe_ix ix_tup (pv 0) pe_int (fun _ _ => rfl)))
    (pss_cons (ps_if (PW.pt (pw_or (pt_cmpR op_eq (pv 1) pe_str (nomark _)) (pw_or1 (pt_cmpR op_eq (pv 1) pe_str (nomark _))))) (pss_one (ps_ret (pe_has hL_form hr (by rfl) (pa_cons (pv 1) (pa_cons (pe_lst (pa_cons (pe_has hL_bound_form hr (by rfl) (pa_cons (pe_ix ix_tup (pv 0) pe_int (fun _ _ => rfl)) pa_nil)) (pa_cons (pe_has hL_bound_form hr (by rfl) (pa_cons (pe_ix ix_tup (pv 0) pe_int (fun _ _ => rfl)) pa_nil)) pa_nil))) pa_nil))))) pss_nil)
    (pss_cons (ps_if (pt_cmpR op_eq (pv 1) pe_str (nomark _)) (pss_one (ps_ret (pe_has hL_form hr (by rfl) (pa_cons (pv 1) (pa_cons (pe_lst (pa_cons (pe_ix ix_tup (pv 0) pe_int (fun _ _ => rfl)) pa_nil)) pa_nil))))) pss_nil)
    (pss_cons (ps_if (pt_cmpR op_eq (pv 1) pe_str (nomark _)) (pss_cons (ps_set (i := 2) nd rfl (by first | exact Or.inl rfl | exact Or.inr rfl) (pe_lst (pa_cons (pe_has hL_bound_form hr (by rfl) (pa_cons (pe_ix ix_tup (pv 0) pe_int (fun _ _ => rfl)) pa_nil)) (pa_cons (pe_has hL_bound_form hr (by rfl) (pa_cons (pe_ix ix_tup (pv 0) pe_int (fun _ _ => rfl)) pa_nil)) pa_nil))))
      (pss_one (ps_ret (pe_has hL_form hr (by rfl) (pa_cons (pv 1) (pa_cons (pe_op op_cat (pe_lst (pa_cons (pe_has hL_schema_form hr (by rfl) (pa_cons (pe_ix ix_tup (pv 0) pe_int (fun _ _ => rfl)) pa_nil)) pa_nil)) (pv 2)) pa_nil)))))) pss_nil)
    (pss_cons (ps_if (PW.pt (pw_or (pt_cmpR op_eq (pv 1) pe_str (nomark _)) (pw_or (pt_cmpR op_eq (pv 1) pe_str (nomark _)) (pw_or1 (pt_cmpR op_eq (pv 1) pe_str (nomark _)))))) (pss_one (ps_ret (pe_has hL_form hr (by rfl) (pa_cons (pv 1) (pa_cons (pe_lst (pa_cons (pe_tup (pa_cons pe_str (pa_cons (pe_callTy call_tuple_of (by rfl) B.tuple_ (by decide +kernel) (pa_cons (pe_lc (own := [("_law_part", 5)]) (g := gName 5) (tt := tYes) rfl nd (pi_tup (pe_ix ix_tup (pv 0) pe_int (fun _ _ => rfl))) (blkOk_by (N := n_L_schema_form) (sc := defScope s_L_schema_form) (by decide +kernel)) (fun _ _ _ _ _ => pg_name (i := 5) nd rfl (Or.inl rfl)) (fun _ _ _ _ _ => pts_nil) (fun _ _ _ _ _ => (pe_has hL_schema_form hr (by rfl) (pa_cons (pv 5) pa_nil)))) pa_nil)) pa_nil))) pa_nil)) pa_nil))))) pss_nil)
    (pss_cons (ps_if (pt_cmpR op_eq (pv 1) pe_str (nomark _)) (pss_cons (ps_setLc (i := 3) (own := [("_law_row", 4)]) (g := gName 4) (tt := tYes) rfl nd rfl rfl (sw_true rfl rfl rfl (by decide +kernel)) (pi_tup (pe_ix ix_tup (pv 0) pe_int (fun _ _ => rfl))) (blkOk_by (N := n_L_schema_form) (sc := defScope s_L_schema_form) (by decide +kernel)) (fun _ _ _ _ _ => pg_name (i := 4) nd rfl (Or.inl rfl)) (fun _ _ _ _ _ => pts_nil) (fun _ _ _ _ _ => (pe_tup (pa_cons pe_str (pa_cons (pe_tup (pa_cons (pe_tup (pa_cons pe_str (pa_cons (pe_ix (ix_tupK (K := K) rfl) (pv 4) pe_int (fun _ _ => rfl)) pa_nil))) (pa_cons (pe_has hL_schema_form hr (by rfl) (pa_cons (pe_ix (ix_tupK (K := K) rfl) (pv 4) pe_int (fun _ _ => rfl)) pa_nil)) (pa_cons (pe_tup (pa_cons pe_str (pa_cons (pe_ix (ix_tupK (K := K) rfl) (pv 4) pe_int (fun _ _ => rfl)) pa_nil))) pa_nil)))) pa_nil)))))
      (pss_one (ps_ret (pe_has hL_form hr (by rfl) (pa_cons (pv 1) (pa_cons (pe_lst (pa_cons (pe_tup (pa_cons pe_str (pa_cons (pe_callTy call_tuple_of (by rfl) B.tuple_ (by decide +kernel) (pa_cons (pv 3) pa_nil)) pa_nil))) (pa_cons (pe_has hL_schema_form hr (by rfl) (pa_cons (pe_ix ix_tup (pv 0) pe_int (fun _ _ => rfl)) pa_nil)) pa_nil))) pa_nil)))))) pss_nil)
    (pss_cons (ps_if (pt_cmpR op_eq (pv 1) pe_str (nomark _)) (pss_one (ps_ret (pe_has hL_form hr (by rfl) (pa_cons (pv 1) (pa_cons (pe_lst (pa_cons (pe_has hL_schema_form hr (by rfl) (pa_cons (pe_ix ix_tup (pv 0) pe_int (fun _ _ => rfl)) pa_nil)) pa_nil)) pa_nil))))) pss_nil)
    (pss_one (ps_ret (pe_has hL_form hr (by rfl) (pa_cons (pv 1) (pa_cons (pe_lst pa_nil) pa_nil))))))))))), ?_⟩
  cases hS with
  | word w hw =>
    obtain ⟨a, x, rfl, ha, h1⟩ := TD.i_tup1 hd
    cases h1
    have N := nw_word hw
    refine ⟨_, rfl, a, _, _, _, rfl, rfl, SqT.of ha, rfl, ?_⟩
    refine w2f rfl N.a (if_f rfl ?_)
    refine w1f rfl N.b (if_f rfl ?_)
    refine w1f rfl N.c (if_f rfl ?_)
    refine w3f rfl N.d (if_f rfl ?_)
    refine w1f rfl N.e (if_f rfl ?_)
    refine w1f rfl N.f (if_f rfl ?_)
    exact ⟨_, rfl, Nat.zero_le _, fun l hl => ⟨w, l, [], [], rfl, upd_same, .nil, by simp, fun r H' s t => kq r H' ((same_new hl _).trans s) t⟩⟩
  | int lo hi =>
    obtain ⟨a, x, y, z, rfl, ha, h1, h2, h3⟩ := TD.i_tup3 hd
    cases h1
    cases bnd_v h2
    cases bnd_v h3
    refine ⟨_, rfl, a, _, _, _, rfl, rfl, SqT.of ha, rfl, ?_⟩
    refine w2t rfl (.inl rfl) (if_t rfl ?_)
    refine ⟨_, rfl, _, rfl, a, _, _, _, rfl, rfl, SqT.of ha, rfl, lo, rfl, fun r1 H1 s1 t1 => ?_⟩
    refine ⟨_, rfl, a, _, _, _, rfl, rfl, SqT.of (s1 _ _ ha), rfl, hi, rfl, fun r2 H2 s2 t2 => ⟨line 2 (by decide), fun l hl => ?_⟩⟩
    have s3 := same_new hl (.lst [r1, r2])
    exact ⟨_, l, [r1, r2], _, rfl, upd_same, (tds2 (t1.sm s2) t2).sm s3, by simp, fun r H' s t => kq r H' (s1.trans (s2.trans (s3.trans s))) t⟩
  | text lo hi h0 h1' h2' =>
    obtain ⟨a, x, y, z, rfl, ha, h1, h2, h3⟩ := TD.i_tup3 hd
    cases h1
    cases h2
    cases bnd_v h3
    refine ⟨_, rfl, a, _, _, _, rfl, rfl, SqT.of ha, rfl, ?_⟩
    refine w2t rfl (.inr rfl) (if_t rfl ?_)
    refine ⟨_, rfl, _, rfl, a, _, _, _, rfl, rfl, SqT.of ha, rfl, (some lo), rfl, fun r1 H1 s1 t1 => ?_⟩
    refine ⟨_, rfl, a, _, _, _, rfl, rfl, SqT.of (s1 _ _ ha), rfl, hi, rfl, fun r2 H2 s2 t2 => ⟨line 2 (by decide), fun l hl => ?_⟩⟩
    have s3 := same_new hl (.lst [r1, r2])
    exact ⟨_, l, [r1, r2], _, rfl, upd_same, (tds2 (t1.sm s2) t2).sm s3, by simp, fun r H' s t => kq r H' (s1.trans (s2.trans (s3.trans s))) t⟩
  | const d z hv =>
    obtain ⟨a, x, y, rfl, ha, h1, h2⟩ := TD.i_tup2 hd
    cases h1
    refine ⟨_, rfl, a, _, _, _, rfl, rfl, SqT.of ha, rfl, ?_⟩
    refine w2f rfl (by decide +kernel) (if_f rfl ?_)
    refine w1t rfl rfl (if_t rfl ?_)
    refine ⟨_, rfl, _, rfl, a, _, _, _, rfl, rfl, SqT.of ha, rfl, line 1 (by decide), fun l hl => ?_⟩
    have s3 := same_new hl (.lst [y])
    exact ⟨_, l, [y], _, rfl, upd_same, (tds1 h2).sm s3, by simp, fun r H' s t => kq r H' (s3.trans s) t⟩
  | list x lo hi h0 h1' h2' hx =>
    obtain ⟨a, x0, y, z, u, rfl, ha, h1, h2, h3, h4⟩ := TD.i_tup4 hd
    cases h1
    cases h3
    cases bnd_v h4
    refine ⟨_, rfl, a, _, _, _, rfl, rfl, SqT.of ha, rfl, ?_⟩
    refine w2f rfl (by decide +kernel) (if_f rfl ?_)
    refine w1f rfl (by decide +kernel) (if_f rfl ?_)
    refine w1t rfl rfl (if_t rfl ?_)
    refine ⟨_, rfl, a, _, _, _, rfl, rfl, SqT.of ha, rfl, (some lo), rfl, fun r1 H1 s1 t1 => ?_⟩
    refine ⟨_, rfl, a, _, _, _, rfl, rfl, SqT.of (s1 _ _ ha), rfl, hi, rfl, fun r2 H2 s2 t2 => ⟨line 2 (by decide), fun b hb => ?_⟩⟩
    have s3 := same_new hb (.lst [r1, r2])
    have eb : (upd H2 b (.lst [r1, r2])) b = some (.lst [r1, r2]) := upd_same
    generalize upd H2 b (.lst [r1, r2]) = H3 at *
    refine ⟨_, rfl, _, rfl, a, _, _, _, rfl, rfl, SqT.of (s3 _ _ (s2 _ _ (s1 _ _ ha))), rfl, y, x, rfl, hx, h2.sm (s1.trans (s2.trans s3)), fun r0 H4 s4 t4 => ⟨line 1 (by decide), fun c hc => ?_⟩⟩
    have s5 := same_new hc (.lst [r0])
    have ec : (upd H4 c (.lst [r0])) c = some (.lst [r0]) := upd_same
    generalize upd H4 c (.lst [r0]) = H5 at *
    refine ⟨_, rfl, c, b, _, _, rfl, rfl, ec, s5 _ _ (s4 _ _ eb), line 3 (by decide), fun l hl => ?_⟩
    have s6 := same_new hl (.lst ([r0] ++ [r1, r2]))
    exact ⟨_, l, [r0, r1, r2], _, rfl, upd_same, (tds3 (t4.sm s5) (t1.sm (s2.trans (s3.trans (s4.trans s5)))) (t2.sm (s3.trans (s4.trans s5)))).sm s6, by simp, fun r H' s t => kq r H' (s1.trans (s2.trans (s3.trans (s4.trans (s5.trans (s6.trans s)))))) t⟩
  | many w xs hw hn hx =>
    obtain ⟨a, x0, y, rfl, ha, h1, h2⟩ := TD.i_tup2 hd
    cases h1
    obtain ⟨b, ys, rfl, hb, h3⟩ := h2.i_tup
    have hl : ys.length = xs.length := by rw [h3.len, List.length_map]
    have N := nw_many hw
    refine ⟨_, rfl, a, _, _, _, rfl, rfl, SqT.of ha, rfl, ?_⟩
    refine w2f rfl N.1 (if_f rfl ?_)
    refine w1f rfl N.2.1 (if_f rfl ?_)
    refine w1f rfl N.2.2 (if_f rfl ?_)
    refine w3t rfl hw (if_t rfl ?_)
    refine ⟨_, rfl, _, rfl, a, _, _, _, rfl, rfl, SqT.of ha, rfl, b, rfl, ⟨_, SqT.of hb⟩, lcT hb (by omega) (fun i y H' => ∃ e, xs[i]? = some e ∧ TD H' y e.f) (fun i y H H' t ⟨e, h1, h2⟩ => ⟨e, h1, h2.tu t⟩) (fun i x H1 hi s1 K' kk => ?_) (fun D H' zs s1 eD hz hR => ?_)⟩
    · obtain ⟨e, he, te⟩ := h3.atM hi
      exact ⟨_, rfl, x, e, rfl, hx e (List.mem_of_getElem? he), te.sm s1, fun r H' s t => kk r H' s ⟨e, he, t⟩⟩
    · refine ⟨D, zs, rfl, .inl ⟨SqL.of eD, fun p hp => ⟨line 2 (by decide), fun p2 hp2 => ?_⟩⟩⟩
      have t1 := td_new hp (TDs.ofM (f := Q4.f) (L := xs) (by omega) hR)
      have t2 := td_new hp2 (tds2 (.str "list") t1)
      have s2 := (same_new hp (.tup zs)).trans (same_new hp2 (.tup [.str "list", .ref p]))
      generalize upd (upd H' p (.tup zs)) p2 (.tup [.str "list", .ref p]) = H2 at *
      refine ⟨line 1 (by decide), fun l hl => ?_⟩
      have s4 := same_new hl (.lst [.ref p2])
      exact ⟨_, l, [.ref p2], _, rfl, upd_same, (tds1 t2).sm s4, by simp, fun r H' s t => kq r H' (s1.trans (s2.trans (s4.trans s))) t⟩
  | object rs y hn hnd ho hx hy =>
    obtain ⟨a, x0, y1, y2, rfl, ha, h1, h2, h3⟩ := TD.i_tup3 hd
    cases h1
    obtain ⟨b, ys, rfl, hb, h4⟩ := h2.i_tup
    have hl : ys.length = rs.length := by rw [h4.len, List.length_map]
    refine ⟨_, rfl, a, _, _, _, rfl, rfl, SqT.of ha, rfl, ?_⟩
    refine w2f rfl (by decide +kernel) (if_f rfl ?_)
    refine w1f rfl (by decide +kernel) (if_f rfl ?_)
    refine w1f rfl (by decide +kernel) (if_f rfl ?_)
    refine w3f rfl (by decide +kernel) (if_f rfl ?_)
    refine w1t rfl rfl (if_t rfl ?_)
    refine ⟨_, rfl, a, _, _, _, rfl, rfl, SqT.of ha, rfl, b, rfl, ⟨_, SqT.of hb⟩, lcT hb (by omega) (fun i y H' => ∃ e, rs[i]? = some e ∧ TD H' y (rowF e)) (fun i y H H' t ⟨e, h1, h2⟩ => ⟨e, h1, h2.tu t⟩) (fun i x H1 hi s1 K' kk => ?_) (fun D H' zs s1 eD hz hR => ?_)⟩
    · obtain ⟨e, he, te⟩ := h4.atM hi
      obtain ⟨c, x1, x2, x3, rfl, hc, g1, g2, g3⟩ := te.i_tup3
      cases g1
      cases g3
      have hc := s1 _ _ hc
      refine ⟨_, rfl, c, _, _, _, rfl, rfl, SqT.of hc, rfl, line 2 (by decide), fun p1 hp1 => ?_⟩
      have s2 := same_new hp1 (.tup [.str "text", .str e.x])
      have t1 := td_new hp1 (tds2 (H := H1) (.str "text") (.str e.x))
      generalize upd H1 p1 (.tup [.str "text", .str e.x]) = H2 at *
      refine ⟨_, rfl, c, _, _, _, rfl, rfl, SqT.of (s2 _ _ hc), rfl, x2, e.q, rfl, hx e (List.mem_of_getElem? he), g2.sm (s1.trans s2), fun u H3 s3 t3 => ?_⟩
      refine ⟨_, rfl, c, _, _, _, rfl, rfl, SqT.of (s3 _ _ (s2 _ _ hc)), rfl, line 2 (by decide), fun p3 hp3 => ?_⟩
      have s4 := same_new hp3 (.tup [.str "bool", .bl e.r])
      have t4 := td_new hp3 (tds2 (H := H3) (.str "bool") (.bl e.r))
      generalize upd H3 p3 (.tup [.str "bool", .bl e.r]) = H4 at *
      refine ⟨line 3 (by decide), fun p4 hp4 => ⟨line 2 (by decide), fun p5 hp5 => ?_⟩⟩
      have t5 := td_new hp4 (tds3 (t1.sm (s3.trans s4)) (t3.sm s4) t4)
      exact kk _ _ (s2.trans (s3.trans (s4.trans ((same_new hp4 _).trans (same_new hp5 _))))) ⟨e, he, td_new hp5 (tds2 (.str _) t5)⟩
    · refine ⟨_, rfl, _, rfl, D, zs, rfl, .inl ⟨SqL.of eD, fun p hp => ⟨line 2 (by decide), fun p2 hp2 => ?_⟩⟩⟩
      have t1 := td_new hp (TDs.ofM (f := rowF) (L := rs) (by omega) hR)
      have t2 := td_new hp2 (tds2 (.str "list") t1)
      have s2 := (same_new hp (.tup zs)).trans (same_new hp2 (.tup [.str "list", .ref p]))
      generalize upd (upd H' p (.tup zs)) p2 (.tup [.str "list", .ref p]) = H2 at *
      refine ⟨_, rfl, a, _, _, _, rfl, rfl, SqT.of (s2 _ _ (s1 _ _ ha)), rfl, y2, y, rfl, hy, h3.sm (s1.trans s2), fun r3 H3 s3 t3 => ⟨line 2 (by decide), fun l hl => ?_⟩⟩
      have s4 := same_new hl (.lst [.ref p2, r3])
      exact ⟨_, l, [.ref p2, r3], _, rfl, upd_same, (tds2 (t2.sm s3) t3).sm s4, by simp, fun r H' s t => kq r H' (s1.trans (s2.trans (s3.trans (s4.trans s)))) t⟩
  | not x hx =>
    obtain ⟨a, x0, y, rfl, ha, h1, h2⟩ := TD.i_tup2 hd
    cases h1
    refine ⟨_, rfl, a, _, _, _, rfl, rfl, SqT.of ha, rfl, ?_⟩
    refine w2f rfl (by decide +kernel) (if_f rfl ?_)
    refine w1f rfl (by decide +kernel) (if_f rfl ?_)
    refine w1f rfl (by decide +kernel) (if_f rfl ?_)
    refine w3f rfl (by decide +kernel) (if_f rfl ?_)
    refine w1f rfl (by decide +kernel) (if_f rfl ?_)
    refine w1t rfl rfl (if_t rfl ?_)
    refine ⟨_, rfl, _, rfl, a, _, _, _, rfl, rfl, SqT.of ha, rfl, y, x, rfl, hx, h2, fun r1 H1 s1 t1 => ⟨line 1 (by decide), fun l hl => ?_⟩⟩
    have s3 := same_new hl (.lst [r1])
    exact ⟨_, l, [r1], _, rfl, upd_same, (tds1 t1).sm s3, by simp, fun r H' s t => kq r H' (s1.trans (s3.trans s)) t⟩
/-- the recursions -/
theorem ok_stv (B : Bi mg) (D : Df K mg "schema_to_value" s_schema_to_value p_schema_to_value) (Ds : Df K mg "schemas_to_value" s_schemas_to_value p_schemas_to_value) (Dr : Df K mg "row_to_value" s_row_to_value p_row_to_value)
    (hf : Has P w K mg base 1 "form" p_form spForm) (hb : Has P w K mg base 1 "bound_to_value" p_bound_to_value spBound) : ∀ n : Nat, Has P w K mg base (2 * n) "schema_to_value" p_schema_to_value (spSTV n)
  | 0 => has_void D fun vs H Q E ⟨_, _, _, h, _⟩ => h.no0
  | n + 1 => by
    have ih := ok_stv B D Ds Dr hf hb n
    exact ok_stv_turn (k := 2 * n + 1) B D (ih.mono (by omega)) (hf.mono (by omega)) (hb.mono (by omega)) (ok_ssv B Ds ih) (ok_rtv Dr ih)
theorem ok_L_sf (B : Bi mg) (D : Df K mg "_law_schema_form" s_L_schema_form p_L_schema_form) (hf : Has P w K mg base 1 "_law_form" p_L_form spForm) (hb : Has P w K mg base 1 "_law_bound_form" p_L_bound_form spBound) :
    ∀ n : Nat, Has P w K mg base (n + 1) "_law_schema_form" p_L_schema_form (spSTV n)
  | 0 => has_void D fun vs H Q E ⟨_, _, _, h, _⟩ => h.no0
  | n + 1 => by
    have ih := ok_L_sf B D hf hb n
    exact ok_L_sf_turn (k := n + 1) B D ih (hf.mono (by omega)) (hb.mono (by omega))
end
end Pk

/-! ### Pk, part F: a value becomes a schema -/
namespace Pk
open PySem PySem.Spec PyProof.Rows L2
abbrev s_schemas_from_value : Stmt := top 24
abbrev n_schemas_from_value : List Str := ["value", "item"]
abbrev p_schemas_from_value : List Str := ["value"]
theorem sc_schemas_from_value : FnScope n_schemas_from_value p_schemas_from_value (defScope s_schemas_from_value) := ⟨rfl, rfl, rfl, by decide +kernel, rfl, by decide +kernel, by decide +kernel⟩
abbrev s_rows_from_value : Stmt := top 25
abbrev n_rows_from_value : List Str := ["value", "rows", "item", "parts", "name", "row"]
abbrev p_rows_from_value : List Str := ["value"]
theorem sc_rows_from_value : FnScope n_rows_from_value p_rows_from_value (defScope s_rows_from_value) := ⟨rfl, rfl, rfl, by decide +kernel, rfl, by decide +kernel, by decide +kernel⟩
abbrev s_read_leaf : Stmt := top 26
abbrev n_read_leaf : List Str := ["word", "parts", "low", "high"]
abbrev p_read_leaf : List Str := ["word", "parts"]
theorem sc_read_leaf : FnScope n_read_leaf p_read_leaf (defScope s_read_leaf) := ⟨rfl, rfl, rfl, by decide +kernel, rfl, by decide +kernel, by decide +kernel⟩
abbrev s_read_schema : Stmt := top 27
abbrev n_read_schema : List Str := ["value", "word", "parts", "low", "high"]
abbrev p_read_schema : List Str := ["value"]
theorem sc_read_schema : FnScope n_read_schema p_read_schema (defScope s_read_schema) := ⟨rfl, rfl, rfl, by decide +kernel, rfl, by decide +kernel, by decide +kernel⟩
/-- the schemas that contain no other: the word, the parts of the form, the schema -/
inductive Lf : Str → List PyData → PyData → Prop
  | word (w : Str) : w = "any" ∨ w = "never" ∨ w = "null" ∨ w = "bool" → Lf w [] (.tuple [.str w])
  | int (lo hi : Option Int) : Lf "int" [bndF lo, bndF hi] (.tuple [.str "int", bndD lo, bndD hi])
  | text (lo : Int) (hi : Option Int) : 0 ≤ lo → lo ≤ 30 → cnt hi → Lf "text" [bndF (some lo), bndF hi] (.tuple [.str "text", .int lo, bndD hi])
  | const (d : PyData) : Lf "const" [d] (.tuple [.str "const", d])
def spRL : Sp := fun vs H Q _ => ∃ (x : Str) (l : V) (ds : List PyData) (s : PyData), vs = [.str x, l] ∧ Lf x ds s ∧ TD H l (.tuple ds) ∧ ∀ r H', Same H H' → TD H' r s → Q r H'
def spRS (n : Nat) : Sp := fun vs H Q _ => ∃ (v : V) (q : Q4), vs = [v] ∧ SF n q ∧ TD H v q.f ∧ ∀ r H', Same H H' → TD H' r q.s → Q r H'
def spSsFV (n : Nat) : Sp := fun vs H Q _ => ∃ (v : V) (xs : List Q4), vs = [v] ∧ xs.length ≤ 3 ∧ (∀ x ∈ xs, SF n x) ∧ TD H v (.tuple [.str "list", .tuple (xs.map Q4.f)]) ∧
  ∀ r H', Same H H' → TD H' r (.tuple (xs.map Q4.s)) → Q r H'
def spRFV (n : Nat) : Sp := fun vs H Q _ => ∃ (v : V) (rs : List Rw), vs = [v] ∧ rs.length ≤ 3 ∧ (rs.map Rw.x).Nodup ∧ (∀ r ∈ rs, SF n r.q) ∧ TD H v (.tuple [.str "list", .tuple (rs.map rowF)]) ∧
  ∀ y H', Same H H' → TD H' y (.tuple (rs.map rowS)) → Q y H'
theorem strs_in {x : Str} {L : List Rw} : ∀ {vs : List V}, (∀ (i : Nat) (y : V), vs[i]? = some y → ∃ e, L[i]? = some e ∧ y = .str e.x) → (∀ r ∈ L, r.x ≠ x) → vs.all flatV = true ∧ inV (.str x) vs = false := by
  intro vs h n
  refine ⟨List.all_eq_true.mpr fun y hy => ?_, ?_⟩
  · obtain ⟨i, hi⟩ := List.getElem?_of_mem hy
    obtain ⟨e, _, rfl⟩ := h i y hi
    rfl
  · unfold inV
    rw [List.any_eq_false]
    intro y hy
    obtain ⟨i, hi⟩ := List.getElem?_of_mem hy
    obtain ⟨e, he, rfl⟩ := h i y hi
    show ¬ (e.x == x) = true
    rw [beq_iff_eq]
    exact n e (List.mem_of_getElem? he)
theorem take_more {α : Type} {l : List α} {i : Nat} {x : α} (h : l[i]? = some x) : l.take (i + 1) = l.take i ++ [x] := by
  rw [List.take_add_one, h]
  rfl
section
variable {P : Program} {w : World} {K : PySem.W.Frag} {mg : Str → Option Value} {base : Heap} {k : Nat}
theorem ok_read_leaf (B : Bi mg) (D : Df K mg "read_leaf" s_read_leaf p_read_leaf) (hdemand : Has P w K mg base k "demand" p_demand spDemand) (hbound_from_value : Has P w K mg base k "bound_from_value" p_bound_from_value spBFV)
    (hcounts_from_values : Has P w K mg base k "counts_from_values" p_counts_from_values spCFV) : Has P w K mg base (k + 1) "read_leaf" p_read_leaf spRL := by
  have nd := sc_read_leaf.nd
  refine D.ok sc_read_leaf (fun vs H Q E h => ?_) (fun f cdv A outer s H vs Q E hr h => ?_)
  · obtain ⟨_, _, _, _, rfl, _⟩ := h
    rfl
  obtain ⟨x, v, ds, sd, rfl, hL, hd, kq⟩ := h
  refine ⟨_, pss_cons (ps_if (pt_cmpR op_eq (pv 0) pe_str (nomark _)) (pss_cons (ps_expr (pe_has hdemand hr (by rfl) (pa_cons (pe_cmpR op_eq (pe_callB call_len (by rfl) B.len (by decide +kernel) (pa_cons (pv 1) pa_nil)) pe_int (nomark _)) pa_nil)))
      (pss_one (ps_ret (pe_tup (pa_cons (pv 0) (pa_cons (pe_ix ix_tup (pv 1) pe_int (fun _ _ => rfl)) pa_nil)))))) pss_nil)
    (pss_cons (ps_if (pt_cmpR op_eq (pv 0) pe_str (nomark _)) (pss_cons (ps_expr (pe_has hdemand hr (by rfl) (pa_cons (pe_cmpR op_eq (pe_callB call_len (by rfl) B.len (by decide +kernel) (pa_cons (pv 1) pa_nil)) pe_int (nomark _)) pa_nil)))
      (pss_one (ps_ret (pe_tup (pa_cons (pv 0) (pa_cons (pe_has hbound_from_value hr (by rfl) (pa_cons (pe_ix ix_tup (pv 1) pe_int (fun _ _ => rfl)) pa_nil)) (pa_cons (pe_has hbound_from_value hr (by rfl) (pa_cons (pe_ix ix_tup (pv 1) pe_int (fun _ _ => rfl)) pa_nil)) pa_nil))))))) pss_nil)
    (pss_cons (ps_if (pt_cmpR op_eq (pv 0) pe_str (nomark _)) (pss_cons (ps_expr (pe_has hdemand hr (by rfl) (pa_cons (pe_cmpR op_eq (pe_callB call_len (by rfl) B.len (by decide +kernel) (pa_cons (pv 1) pa_nil)) pe_int (nomark _)) pa_nil)))
      (pss_cons (ps_asg (pe_has hcounts_from_values hr (by rfl) (pa_cons (pe_ix ix_tup (pv 1) pe_int (fun _ _ => rfl)) (pa_cons (pe_ix ix_tup (pv 1) pe_int (fun _ _ => rfl)) pa_nil))) (pg_tup rfl (pgs_cons (pg_name (i := 2) nd rfl (.inl rfl)) (pgs_cons (pg_name (i := 3) nd rfl (.inl rfl)) pgs_nil))))
      (pss_one (ps_ret (pe_tup (pa_cons (pv 0) (pa_cons (pv 2) (pa_cons (pv 3) pa_nil)))))))) pss_nil)
    (pss_cons (ps_expr (pe_has hdemand hr (by rfl) (pa_cons (pe_and (pe_cmpR op_in_seq (pv 0) (pe_tup (pa_cons pe_str (pa_cons pe_str (pa_cons pe_str (pa_cons pe_str pa_nil))))) (by rfl)) (pe_one (pe_cmpR op_eq (pe_callB call_len (by rfl) B.len (by decide +kernel) (pa_cons (pv 1) pa_nil)) pe_int (nomark _)))) pa_nil)))
    (pss_one (ps_ret (pe_tup (pa_cons (pv 0) pa_nil))))))), ?_⟩
  cases hL with
  | word _ hw =>
    obtain ⟨a, ys, rfl, ha, h1⟩ := hd.i_tup
    cases h1
    have N := nw_word hw
    refine w1f rfl N.b (if_f rfl ?_)
    refine w1f rfl N.a.1 (if_f rfl ?_)
    refine w1f rfl N.a.2 (if_f rfl ?_)
    have hin : inV (.str x) [.str "any", .str "never", .str "null", .str "bool"] = true := by
      rcases hw with rfl | rfl | rfl | rfl <;> decide +kernel
    refine ⟨_, rfl, line 4 (by decide), fun p hp => ⟨p, _, rfl, .inr (SqT.of upd_same), rfl, rfl, _, rfl, if_t hin ?_⟩⟩
    have s1 := same_new hp (.tup [.str "any", .str "never", .str "null", .str "bool"])
    refine ⟨_, rfl, _, _, rfl, .inr ⟨_, SqT.of (s1 _ _ ha), rfl⟩, rfl, bl1 (decide_eq_true rfl), ?_⟩
    refine ⟨_, rfl, line 1 (by decide), fun p2 hp2 => ?_⟩
    exact kq _ _ (s1.trans (same_new hp2 _)) (td_new hp2 (tds1 (.str _)))
  | int lo hi =>
    obtain ⟨a, y, z, rfl, ha, h1, h2⟩ := hd.i_tup2
    refine w1f rfl (by decide +kernel) (if_f rfl ?_)
    refine w1t rfl rfl (if_t rfl ?_)
    refine ⟨_, rfl, _, _, rfl, .inr ⟨_, SqT.of ha, rfl⟩, rfl, bl1 (decide_eq_true rfl), ?_⟩
    refine ⟨_, rfl, _, rfl, a, _, _, _, rfl, rfl, SqT.of ha, rfl, _, lo, rfl, h1, ?_⟩
    refine ⟨_, rfl, a, _, _, _, rfl, rfl, SqT.of ha, rfl, _, hi, rfl, h2, ?_⟩
    exact ⟨line 3 (by decide), fun p hp => kq _ _ (same_new hp _) (td_new hp (tds3 (.str _) (bnd_d _ _) (bnd_d _ _)))⟩
  | text lo hi h0 h1' h2' =>
    obtain ⟨a, y, z, rfl, ha, h1, h2⟩ := hd.i_tup2
    refine w1f rfl (by decide +kernel) (if_f rfl ?_)
    refine w1f rfl (by decide +kernel) (if_f rfl ?_)
    refine w1t rfl rfl (if_t rfl ?_)
    refine ⟨_, rfl, _, _, rfl, .inr ⟨_, SqT.of ha, rfl⟩, rfl, bl1 (decide_eq_true rfl), ?_⟩
    refine ⟨_, rfl, a, _, _, _, rfl, rfl, SqT.of ha, rfl, _, rfl, a, _, _, _, rfl, rfl, SqT.of ha, rfl, _, _, lo, hi, rfl, h1, h2, h0, h1', h2', fun p H1 s1 ep => ?_⟩
    refine ⟨p, _, rfl, SqT.of ep, rfl, _, _, rfl, _, _, rfl, rfl, ?_⟩
    exact ⟨_, rfl, _, rfl, _, rfl, line 3 (by decide), fun p hp => kq _ _ (s1.trans (same_new hp _)) (td_new hp (tds3 (.str _) (.int _) (bnd_d _ _)))⟩
  | const d =>
    obtain ⟨a, y, rfl, ha, h1⟩ := hd.i_tup1
    refine w1t rfl rfl (if_t rfl ?_)
    refine ⟨_, rfl, _, _, rfl, .inr ⟨_, SqT.of ha, rfl⟩, rfl, bl1 (decide_eq_true rfl), ?_⟩
    refine ⟨_, rfl, _, rfl, a, _, _, _, rfl, rfl, SqT.of ha, rfl, line 2 (by decide), fun p hp => ?_⟩
    exact kq _ _ (same_new hp _) (td_new hp (tds2 (.str _) h1))
theorem ok_ssfv (B : Bi mg) (D : Df K mg "schemas_from_value" s_schemas_from_value p_schemas_from_value) {n : Nat} (hinside : Has P w K mg base k "inside" p_inside spInside) (hread_schema : Has P w K mg base k "read_schema" p_read_schema (spRS n)) :
    Has P w K mg base (k + 1) "schemas_from_value" p_schemas_from_value (spSsFV n) := by
  have nd := sc_schemas_from_value.nd
  refine D.ok sc_schemas_from_value (fun vs H Q E h => ?_) (fun f cdv A outer s H vs Q E hr h => ?_)
  · obtain ⟨_, _, rfl, _⟩ := h
    rfl
  obtain ⟨v, xs, rfl, hn, hx, hd, q⟩ := h
  refine ⟨_, pss_one (ps_ret (pe_callTy call_tuple_of (by rfl) B.tuple_ (by decide +kernel) (pa_cons (pe_lc (own := [("item", 1)]) (g := gName 1) (tt := tYes) rfl nd (pi_tup (pe_has hinside hr (by rfl) (pa_cons (pv 0) (pa_cons pe_str pa_nil)))) (blkOk_by (N := n_schemas_from_value) (sc := defScope s_schemas_from_value) (by decide +kernel)) (fun _ _ _ _ _ => pg_name (i := 1) nd rfl (Or.inl rfl)) (fun _ _ _ _ _ => pts_nil) (fun _ _ _ _ _ => (pe_has hread_schema hr (by rfl) (pa_cons (pv 1) pa_nil)))) pa_nil))), ?_⟩
  obtain ⟨a, y1, y2, rfl, ha, h1, h2⟩ := hd.i_tup2
  cases h1
  obtain ⟨b, ys, rfl, hb, h3⟩ := h2.i_tup
  have hl : ys.length = xs.length := by rw [h3.len, List.length_map]
  refine ⟨_, rfl, a, _, _, rfl, ha, b, rfl, ⟨_, SqT.of hb⟩, lcT hb (by omega) (fun i y H' => ∃ e, xs[i]? = some e ∧ TD H' y e.s) (fun i y H H' t ⟨e, h1, h2⟩ => ⟨e, h1, h2.tu t⟩) (fun i x H1 hi s1 K' kk => ?_) (fun D H' zs s1 eD hz hR => ?_)⟩
  · obtain ⟨e, he, te⟩ := h3.atM hi
    exact ⟨_, rfl, x, e, rfl, hx e (List.mem_of_getElem? he), te.sm s1, fun r H' s t => kk r H' s ⟨e, he, t⟩⟩
  · refine ⟨D, zs, rfl, .inl ⟨SqL.of eD, fun p hp => ?_⟩⟩
    exact q _ _ (s1.trans (same_new hp _)) (td_new hp (TDs.ofM (f := Q4.s) (L := xs) (by omega) hR))
theorem ok_rfv (B : Bi mg) (D : Df K mg "rows_from_value" s_rows_from_value p_rows_from_value) {n : Nat} (hinside : Has P w K mg base k "inside" p_inside spInside) (hdemand : Has P w K mg base k "demand" p_demand spDemand) (hread_schema : Has P w K mg base k "read_schema" p_read_schema (spRS n)) :
    Has P w K mg base (k + 1) "rows_from_value" p_rows_from_value (spRFV n) := by
  have nd := sc_rows_from_value.nd
  refine D.ok sc_rows_from_value (fun vs H Q E h => ?_) (fun f cdv A outer s H vs Q E hr h => ?_)
  · obtain ⟨_, _, rfl, _⟩ := h
    rfl
  obtain ⟨v, rs, rfl, hn, hnd, hx, hd, q⟩ := h
  refine ⟨_, pss_cons (ps_set (i := 1) nd rfl (by first | exact Or.inl rfl | exact Or.inr rfl) (pe_lst pa_nil))
    (pss_cons (ps_for PassesOwn.never rfl (pi_tup (pe_has hinside hr (by rfl) (pa_cons (pv 0) (pa_cons pe_str pa_nil)))) (pg_name (i := 2) nd rfl (by first | exact Or.inl rfl | exact Or.inr rfl))
      (pss_cons (ps_set (i := 3) nd rfl (by first | exact Or.inl rfl | exact Or.inr rfl) (pe_has hinside hr (by rfl) (pa_cons (pv 2) (pa_cons pe_str pa_nil))))
      (pss_cons (ps_expr (pe_has hdemand hr (by rfl) (pa_cons (pe_cmpR op_eq (pe_callB call_len (by rfl) B.len (by decide +kernel) (pa_cons (pv 3) pa_nil)) pe_int (nomark _)) pa_nil)))
      (pss_cons (ps_set (i := 4) nd rfl (by first | exact Or.inl rfl | exact Or.inr rfl) (pe_has hinside hr (by rfl) (pa_cons (pe_ix ix_tup (pv 3) pe_int (fun _ _ => rfl)) (pa_cons pe_str pa_nil))))
      (pss_cons (ps_expr (pe_has hdemand hr (by rfl) (pa_cons (pe_cmpR op_notIn_seq (pv 4) (pe_lc (own := [("row", 5)]) (g := gName 5) (tt := tYes) rfl nd (pi_list (pv 1)) (blkOk_by (N := n_rows_from_value) (sc := defScope s_rows_from_value) (by decide +kernel)) (fun _ _ _ _ _ => pg_name (i := 5) nd rfl (Or.inl rfl)) (fun _ _ _ _ _ => pts_nil) (fun _ _ _ _ _ => (pe_ix (ix_tupK (K := K) rfl) (pv 5) pe_int (fun _ _ => rfl)))) (by rfl)) pa_nil)))
      (pss_one (ps_expr (pe_bm PySem.F.plainAttrs_list PySem.F.slot_list_append PySem.F.type_list_append mt_append (pv 1) (pa_cons (pe_tup (pa_cons (pv 4) (pa_cons (pe_has hread_schema hr (by rfl) (pa_cons (pe_ix ix_tup (pv 3) pe_int (fun _ _ => rfl)) pa_nil)) (pa_cons (pe_has hinside hr (by rfl) (pa_cons (pe_ix ix_tup (pv 3) pe_int (fun _ _ => rfl)) (pa_cons pe_str pa_nil))) pa_nil)))) pa_nil)))))))))
    (pss_one (ps_ret (pe_callTy call_tuple_of (by rfl) B.tuple_ (by decide +kernel) (pa_cons (pv 1) pa_nil))))), ?_⟩
  obtain ⟨a, y1, y2, rfl, ha, h1, h2⟩ := hd.i_tup2
  cases h1
  obtain ⟨b, ys, rfl, hb, h3⟩ := h2.i_tup
  have hl : ys.length = rs.length := by rw [h3.len, List.length_map]
  refine ⟨Nat.zero_le _, fun l hl0 => ?_⟩
  have s0 := same_new hl0 (.lst [])
  refine ⟨_, rfl, a, _, _, rfl, s0 _ _ ha, b, rfl, ⟨_, SqT.of (s0 _ _ hb)⟩, ?_⟩
  refine for_tup (K := K) (a := b) (xs := ys) (fun i σ H' => ∃ x2 x3 x4 zs, σ = [some (.ref a), some (.ref l), x2, x3, x4, none] ∧ H' l = some (.lst zs) ∧ Same H H' ∧ TDs H' zs ((rs.take i).map rowS))
    ⟨none, none, none, [], rfl, upd_same, s0, .nil⟩ (fun i σ H' _ ⟨_, _, _, _, _, _, s1, _⟩ => SqT.of (s1 _ _ hb)) (fun i x σ H1 hi ⟨x2, x3, x4, zs, eσ, el, s1, tz⟩ => ?_) (fun σ H1 ⟨x2, x3, x4, zs, eσ, el, s1, tz⟩ => ?_)
  · subst eσ
    obtain ⟨r, hr', tr⟩ := h3.atM hi
    have hi' : i < rs.length := (List.getElem?_eq_some_iff.mp hr').1
    have tr := tr.sm s1
    obtain ⟨c, c1, c2, rfl, hc, g1, g2⟩ := tr.i_tup2
    cases g1
    obtain ⟨d, d1, d2, d3, rfl, hd', g3, g4, g5⟩ := g2.i_tup3
    obtain ⟨e, e1, e2, rfl, he, g6, g7⟩ := g3.i_tup2
    cases g6
    cases g7
    obtain ⟨e', e1, e2, rfl, he', g6, g7⟩ := g5.i_tup2
    cases g6
    cases g7
    refine ⟨_, rfl, c, _, _, rfl, hc, ?_⟩
    refine ⟨_, rfl, _, _, rfl, .inr ⟨_, SqT.of hd', rfl⟩, rfl, bl1 (decide_eq_true rfl), ?_⟩
    refine ⟨_, rfl, d, _, _, _, rfl, rfl, SqT.of hd', rfl, e, _, _, rfl, he, ?_⟩
    have hzl : zs.length = (rs.take i).length := by rw [tz.len, List.length_map]
    have hzi : zs.length ≤ 3 := by rw [hzl, List.length_take]; omega
    refine ⟨_, rfl, _, rfl, l, rfl, ⟨_, SqL.of el⟩, lcL el (by omega) (fun j y _ => ∃ e, (rs.take i)[j]? = some e ∧ y = .str e.x) (fun i y H H' t z => z) (fun j y H2 hj s2 K' kk => ?_) (fun D H2 us s2 eD nD hz hR => ?_)⟩
    · obtain ⟨u, hu, tu⟩ := tz.atM hj
      obtain ⟨p, p1, p2, p3, rfl, hp, f1, f2, f3⟩ := tu.i_tup3
      cases f1
      exact ⟨_, rfl, p, _, _, _, rfl, rfl, SqT.of (s2 _ _ hp), rfl, kk _ _ (Same.refl _) ⟨u, hu, rfl⟩⟩
    · have fresh : ∀ e ∈ rs.take i, e.x ≠ r.x := by
        intro e he z
        have hd2 : ((rs.map Rw.x).take (i + 1)).Nodup := hnd.sublist (List.take_sublist _ _)
        rw [← List.map_take, take_more hr', List.map_append, List.nodup_append] at hd2
        exact hd2.2.2 e.x (List.mem_map.mpr ⟨e, he, rfl⟩) r.x (by simp) z
      obtain ⟨fl, ni⟩ := strs_in hR fresh
      refine ⟨D, us, rfl, .inl (SqL.of eD), rfl, fl, bl1 (by rw [if_pos rfl, ni]; rfl), ?_⟩
      refine ⟨_, rfl, .inl ⟨rfl, _, SqL.of (s2 _ _ el)⟩, ?_⟩
      refine ⟨_, rfl, _, rfl, d, _, _, _, rfl, rfl, SqT.of (s2 _ _ hd'), rfl, _, r.q, rfl, hx r (List.mem_of_getElem? hr'), g4.sm s2, fun u H3 s3 t3 => ?_⟩
      refine ⟨_, rfl, d, _, _, _, rfl, rfl, SqT.of (s3 _ _ (s2 _ _ hd')), rfl, e', _, _, rfl, s3 _ _ (s2 _ _ he'), line 3 (by decide), fun p hp => ?_⟩
      have t4 := td_new hp (tds3 (.str r.x) t3 (.bl r.r))
      have s4 := same_new hp (.tup [.str r.x, u, .bl r.r])
      generalize upd H3 p (.tup [.str r.x, u, .bl r.r]) = H4 at *
      have el4 := s4 _ _ (s3 _ _ (s2 _ _ el))
      refine ⟨l, zs, _, rfl, rfl, el4, small1000 (by omega), _, _, _, zs ++ [.ref p], rfl, upd_same, fun b' o q' => ?_, ?_⟩
      · rw [upd_ne (ne_of_none q' hl0)]
        exact s4 _ _ (s3 _ _ (s2 _ _ (s1 _ _ q')))
      · have tu := tu_lst (ys := zs ++ [.ref p]) el4
        rw [take_more hr', List.map_append]
        exact TDs.app ((tz.sm (s2.trans (s3.trans s4))).tu tu) (tds1 (t4.tu tu))
  · subst eσ
    refine ⟨_, rfl, l, zs, rfl, .inl ⟨SqL.of el, fun p hp => ?_⟩⟩
    rw [hl, List.take_length] at tz
    exact q _ _ (s1.trans (same_new hp _)) (td_new hp tz)
theorem ok_rs_turn (B : Bi mg) (D : Df K mg "read_schema" s_read_schema p_read_schema) {n : Nat} (hread_schema : Has P w K mg base k "read_schema" p_read_schema (spRS n)) (hword_and_parts : Has P w K mg base k "word_and_parts" p_word_and_parts spWP) (hdemand : Has P w K mg base k "demand" p_demand spDemand)
    (hcounts_from_values : Has P w K mg base k "counts_from_values" p_counts_from_values spCFV) (hschemas_from_value : Has P w K mg base k "schemas_from_value" p_schemas_from_value (spSsFV n)) (hrows_from_value : Has P w K mg base k "rows_from_value" p_rows_from_value (spRFV n))
    (hread_leaf : Has P w K mg base k "read_leaf" p_read_leaf spRL) : Has P w K mg base (k + 1) "read_schema" p_read_schema (spRS (n + 1)) := by
  have nd := sc_read_schema.nd
  refine D.ok sc_read_schema (fun vs H Q E h => ?_) (fun f cdv A outer s H vs Q E hr h => ?_)
  · obtain ⟨_, _, rfl, _⟩ := h
    rfl
  obtain ⟨v, q, rfl, hS, hd, kq⟩ := h
  refine ⟨_, pss_cons (ps_asg (pe_has hword_and_parts hr (by rfl) (pa_cons (pv 0) pa_nil)) (pg_tup rfl (pgs_cons (pg_name (i := 1) nd rfl (.inl rfl)) (pgs_cons (pg_name (i := 2) nd rfl (.inl rfl)) pgs_nil))))
    (pss_cons (ps_if (pt_cmpR op_eq (pv 1) pe_str (nomark _)) (pss_cons (ps_expr (pe_has hdemand hr (by rfl) (pa_cons (pe_cmpR op_eq (pe_callB call_len (by rfl) B.len (by decide +kernel) (pa_cons (pv 2) pa_nil)) pe_int (nomark _)) pa_nil)))
      (pss_cons (ps_asg (pe_has hcounts_from_values hr (by rfl) (pa_cons (pe_ix ix_tup (pv 2) pe_int (fun _ _ => rfl)) (pa_cons (pe_ix ix_tup (pv 2) pe_int (fun _ _ => rfl)) pa_nil))) (pg_tup rfl (pgs_cons (pg_name (i := 3) nd rfl (.inl rfl)) (pgs_cons (pg_name (i := 4) nd rfl (.inl rfl)) pgs_nil))))
      (pss_one (ps_ret (pe_tup (pa_cons (pv 1) (pa_cons (pe_has hread_schema hr (by rfl) (pa_cons (pe_ix ix_tup (pv 2) pe_int (fun _ _ => rfl)) pa_nil)) (pa_cons (pv 3) (pa_cons (pv 4) pa_nil))))))))) pss_nil)
    (pss_cons (ps_if (PW.pt (pw_or (pt_cmpR op_eq (pv 1) pe_str (nomark _)) (pw_or (pt_cmpR op_eq (pv 1) pe_str (nomark _)) (pw_or1 (pt_cmpR op_eq (pv 1) pe_str (nomark _)))))) (pss_cons (ps_expr (pe_has hdemand hr (by rfl) (pa_cons (pe_cmpR op_eq (pe_callB call_len (by rfl) B.len (by decide +kernel) (pa_cons (pv 2) pa_nil)) pe_int (nomark _)) pa_nil)))
      (pss_one (ps_ret (pe_tup (pa_cons (pv 1) (pa_cons (pe_has hschemas_from_value hr (by rfl) (pa_cons (pe_ix ix_tup (pv 2) pe_int (fun _ _ => rfl)) pa_nil)) pa_nil)))))) pss_nil)
    (pss_cons (ps_if (pt_cmpR op_eq (pv 1) pe_str (nomark _)) (pss_cons (ps_expr (pe_has hdemand hr (by rfl) (pa_cons (pe_cmpR op_eq (pe_callB call_len (by rfl) B.len (by decide +kernel) (pa_cons (pv 2) pa_nil)) pe_int (nomark _)) pa_nil)))
      (pss_one (ps_ret (pe_tup (pa_cons (pv 1) (pa_cons (pe_has hrows_from_value hr (by rfl) (pa_cons (pe_ix ix_tup (pv 2) pe_int (fun _ _ => rfl)) pa_nil)) (pa_cons (pe_has hread_schema hr (by rfl) (pa_cons (pe_ix ix_tup (pv 2) pe_int (fun _ _ => rfl)) pa_nil)) pa_nil))))))) pss_nil)
    (pss_cons (ps_if (pt_cmpR op_eq (pv 1) pe_str (nomark _)) (pss_cons (ps_expr (pe_has hdemand hr (by rfl) (pa_cons (pe_cmpR op_eq (pe_callB call_len (by rfl) B.len (by decide +kernel) (pa_cons (pv 2) pa_nil)) pe_int (nomark _)) pa_nil)))
      (pss_one (ps_ret (pe_tup (pa_cons (pv 1) (pa_cons (pe_has hread_schema hr (by rfl) (pa_cons (pe_ix ix_tup (pv 2) pe_int (fun _ _ => rfl)) pa_nil)) pa_nil)))))) pss_nil)
    (pss_one (ps_ret (pe_has hread_leaf hr (by rfl) (pa_cons (pv 1) (pa_cons (pv 2) pa_nil))))))))), ?_⟩
  cases hS with
  | word w hw =>
    have N := nw_word hw
    refine ⟨_, rfl, _, w, _, rfl, hd, fun p l H1 s1 ep tl => ⟨p, _, rfl, SqT.of ep, rfl, _, _, rfl, _, _, rfl, rfl, ?_⟩⟩
    refine w1f rfl N.c (if_f rfl ?_)
    refine w3f rfl N.d (if_f rfl ?_)
    refine w1f rfl N.e (if_f rfl ?_)
    refine w1f rfl N.f (if_f rfl ?_)
    exact ⟨_, rfl, _, rfl, w, _, _, _, rfl, .word w hw, tl, fun r H' s t => kq r H' (s1.trans s) t⟩
  | int lo hi =>
    refine ⟨_, rfl, _, "int", _, rfl, hd, fun p l H1 s1 ep tl => ⟨p, _, rfl, SqT.of ep, rfl, _, _, rfl, _, _, rfl, rfl, ?_⟩⟩
    refine w1f rfl (by decide +kernel) (if_f rfl ?_)
    refine w3f rfl (by decide +kernel) (if_f rfl ?_)
    refine w1f rfl (by decide +kernel) (if_f rfl ?_)
    refine w1f rfl (by decide +kernel) (if_f rfl ?_)
    exact ⟨_, rfl, _, rfl, "int", _, _, _, rfl, .int lo hi, tl, fun r H' s t => kq r H' (s1.trans s) t⟩
  | text lo hi h0 h1' h2' =>
    refine ⟨_, rfl, _, "text", _, rfl, hd, fun p l H1 s1 ep tl => ⟨p, _, rfl, SqT.of ep, rfl, _, _, rfl, _, _, rfl, rfl, ?_⟩⟩
    refine w1f rfl (by decide +kernel) (if_f rfl ?_)
    refine w3f rfl (by decide +kernel) (if_f rfl ?_)
    refine w1f rfl (by decide +kernel) (if_f rfl ?_)
    refine w1f rfl (by decide +kernel) (if_f rfl ?_)
    exact ⟨_, rfl, _, rfl, "text", _, _, _, rfl, .text lo hi h0 h1' h2', tl, fun r H' s t => kq r H' (s1.trans s) t⟩
  | const d z hv =>
    refine ⟨_, rfl, _, "const", _, rfl, hd, fun p l H1 s1 ep tl => ⟨p, _, rfl, SqT.of ep, rfl, _, _, rfl, _, _, rfl, rfl, ?_⟩⟩
    refine w1f rfl (by decide +kernel) (if_f rfl ?_)
    refine w3f rfl (by decide +kernel) (if_f rfl ?_)
    refine w1f rfl (by decide +kernel) (if_f rfl ?_)
    refine w1f rfl (by decide +kernel) (if_f rfl ?_)
    exact ⟨_, rfl, _, rfl, "const", _, _, _, rfl, .const d, tl, fun r H' s t => kq r H' (s1.trans s) t⟩
  | list x lo hi h0 h1' h2' hx =>
    refine ⟨_, rfl, _, "list", _, rfl, hd, fun p l H1 s1 ep tl => ⟨p, _, rfl, SqT.of ep, rfl, _, _, rfl, _, _, rfl, rfl, ?_⟩⟩
    obtain ⟨c, c1, c2, c3, e, hc, g1, g2, g3⟩ := tl.i_tup3
    cases e
    refine w1t rfl rfl (if_t rfl ?_)
    refine ⟨_, rfl, _, _, rfl, .inr ⟨_, SqT.of hc, rfl⟩, rfl, bl1 (decide_eq_true rfl), ?_⟩
    refine ⟨_, rfl, _, _, _, _, rfl, rfl, SqT.of hc, rfl, _, rfl, _, _, _, _, rfl, rfl, SqT.of hc, rfl, _, _, lo, hi, rfl, g2, g3, h0, h1', h2', fun p2 H2 s2 ep2 => ?_⟩
    refine ⟨p2, _, rfl, SqT.of ep2, rfl, _, _, rfl, _, _, rfl, rfl, ?_⟩
    refine ⟨_, rfl, _, rfl, _, _, _, _, rfl, rfl, SqT.of (s2 _ _ hc), rfl, _, x, rfl, hx, g1.sm s2, fun u H3 s3 t3 => ?_⟩
    refine ⟨_, rfl, _, rfl, line 4 (by decide), fun p4 hp4 => ?_⟩
    exact kq _ _ (s1.trans (s2.trans (s3.trans (same_new hp4 _)))) (td_new hp4 (tds4 (.str _) t3 (.int _) (bnd_d _ _)))
  | many w xs hw hn hx =>
    refine ⟨_, rfl, _, w, _, rfl, hd, fun p l H1 s1 ep tl => ⟨p, _, rfl, SqT.of ep, rfl, _, _, rfl, _, _, rfl, rfl, ?_⟩⟩
    obtain ⟨c, c1, e, hc, g1⟩ := tl.i_tup1
    cases e
    refine w1f rfl (nw_many hw).2.2 (if_f rfl ?_)
    refine w3t rfl hw (if_t rfl ?_)
    refine ⟨_, rfl, _, _, rfl, .inr ⟨_, SqT.of hc, rfl⟩, rfl, bl1 (decide_eq_true rfl), ?_⟩
    refine ⟨_, rfl, _, rfl, _, _, _, _, rfl, rfl, SqT.of hc, rfl, _, xs, rfl, hn, hx, g1, fun u H3 s3 t3 => ?_⟩
    exact ⟨line 2 (by decide), fun p4 hp4 => kq _ _ (s1.trans (s3.trans (same_new hp4 _))) (td_new hp4 (tds2 (.str _) t3))⟩
  | object rs y hn hnd ho hx hy =>
    refine ⟨_, rfl, _, "object", _, rfl, hd, fun p l H1 s1 ep tl => ⟨p, _, rfl, SqT.of ep, rfl, _, _, rfl, _, _, rfl, rfl, ?_⟩⟩
    obtain ⟨c, c1, c2, e, hc, g1, g2⟩ := tl.i_tup2
    cases e
    refine w1f rfl (by decide +kernel) (if_f rfl ?_)
    refine w3f rfl (by decide +kernel) (if_f rfl ?_)
    refine w1t rfl rfl (if_t rfl ?_)
    refine ⟨_, rfl, _, _, rfl, .inr ⟨_, SqT.of hc, rfl⟩, rfl, bl1 (decide_eq_true rfl), ?_⟩
    refine ⟨_, rfl, _, rfl, _, _, _, _, rfl, rfl, SqT.of hc, rfl, _, rs, rfl, hn, hnd, hx, g1, fun u H3 s3 t3 => ?_⟩
    refine ⟨_, rfl, _, _, _, _, rfl, rfl, SqT.of (s3 _ _ hc), rfl, _, y, rfl, hy, g2.sm s3, fun u4 H4 s4 t4 => ?_⟩
    exact ⟨line 3 (by decide), fun p5 hp5 => kq _ _ (s1.trans (s3.trans (s4.trans (same_new hp5 _)))) (td_new hp5 (tds3 (.str _) (t3.sm s4) t4))⟩
  | not x hx =>
    refine ⟨_, rfl, _, "not", _, rfl, hd, fun p l H1 s1 ep tl => ⟨p, _, rfl, SqT.of ep, rfl, _, _, rfl, _, _, rfl, rfl, ?_⟩⟩
    obtain ⟨c, c1, e, hc, g1⟩ := tl.i_tup1
    cases e
    refine w1f rfl (by decide +kernel) (if_f rfl ?_)
    refine w3f rfl (by decide +kernel) (if_f rfl ?_)
    refine w1f rfl (by decide +kernel) (if_f rfl ?_)
    refine w1t rfl rfl (if_t rfl ?_)
    refine ⟨_, rfl, _, _, rfl, .inr ⟨_, SqT.of hc, rfl⟩, rfl, bl1 (decide_eq_true rfl), ?_⟩
    refine ⟨_, rfl, _, rfl, _, _, _, _, rfl, rfl, SqT.of hc, rfl, _, x, rfl, hx, g1, fun u H3 s3 t3 => ?_⟩
    exact ⟨line 2 (by decide), fun p4 hp4 => kq _ _ (s1.trans (s3.trans (same_new hp4 _))) (td_new hp4 (tds2 (.str _) t3))⟩
theorem ok_rs (B : Bi mg) (D : Df K mg "read_schema" s_read_schema p_read_schema) (Ds : Df K mg "schemas_from_value" s_schemas_from_value p_schemas_from_value) (Dr : Df K mg "rows_from_value" s_rows_from_value p_rows_from_value)
    (hd : Has P w K mg base 4 "demand" p_demand spDemand) (hi : Has P w K mg base 4 "inside" p_inside spInside) (hw : Has P w K mg base 4 "word_and_parts" p_word_and_parts spWP) (hc : Has P w K mg base 4 "counts_from_values" p_counts_from_values spCFV)
    (hl : Has P w K mg base 5 "read_leaf" p_read_leaf spRL) : ∀ n : Nat, Has P w K mg base (2 * n + 4) "read_schema" p_read_schema (spRS n)
  | 0 => has_void D fun vs H Q E ⟨_, _, _, h, _⟩ => h.no0
  | n + 1 => by
    have ih := ok_rs B D Ds Dr hd hi hw hc hl n
    exact ok_rs_turn (k := 2 * n + 5) B D (ih.mono (by omega)) (hw.mono (by omega)) (hd.mono (by omega)) (hc.mono (by omega)) (ok_ssfv B Ds (hi.mono (by omega)) ih) (ok_rfv B Dr (hi.mono (by omega)) (hd.mono (by omega)) ih) (hl.mono (by omega))
end
end Pk

/-! ### Pk, part G: the measures -/
namespace Pk
open PySem PySem.Spec PyProof.Rows L2
abbrev s_parts_of : Stmt := top 4
abbrev n_parts_of : List Str := ["value", "field"]
abbrev p_parts_of : List Str := ["value"]
theorem sc_parts_of : FnScope n_parts_of p_parts_of (defScope s_parts_of) := ⟨rfl, rfl, rfl, by decide +kernel, rfl, by decide +kernel, by decide +kernel⟩
abbrev s_size_of : Stmt := top 5
abbrev n_size_of : List Str := ["value", "part"]
abbrev p_size_of : List Str := ["value"]
theorem sc_size_of : FnScope n_size_of p_size_of (defScope s_size_of) := ⟨rfl, rfl, rfl, by decide +kernel, rfl, by decide +kernel, by decide +kernel⟩
abbrev s_inner_schemas : Stmt := top 7
abbrev n_inner_schemas : List Str := ["schema", "word", "row"]
abbrev p_inner_schemas : List Str := ["schema"]
theorem sc_inner_schemas : FnScope n_inner_schemas p_inner_schemas (defScope s_inner_schemas) := ⟨rfl, rfl, rfl, by decide +kernel, rfl, by decide +kernel, by decide +kernel⟩
abbrev s_schema_count : Stmt := top 8
abbrev n_schema_count : List Str := ["schema", "part"]
abbrev p_schema_count : List Str := ["schema"]
theorem sc_schema_count : FnScope n_schema_count p_schema_count (defScope s_schema_count) := ⟨rfl, rfl, rfl, by decide +kernel, rfl, by decide +kernel, by decide +kernel⟩
abbrev s_schema_depth : Stmt := top 9
abbrev n_schema_depth : List Str := ["schema", "part"]
abbrev p_schema_depth : List Str := ["schema"]
theorem sc_schema_depth : FnScope n_schema_depth p_schema_depth (defScope s_schema_depth) := ⟨rfl, rfl, rfl, by decide +kernel, rfl, by decide +kernel, by decide +kernel⟩
abbrev s_const_size : Stmt := top 10
abbrev n_const_size : List Str := ["schema", "part"]
abbrev p_const_size : List Str := ["schema"]
theorem sc_const_size : FnScope n_const_size p_const_size (defScope s_const_size) := ⟨rfl, rfl, rfl, by decide +kernel, rfl, by decide +kernel, by decide +kernel⟩
abbrev s_is_small_schema : Stmt := top 11
abbrev n_is_small_schema : List Str := ["schema"]
abbrev p_is_small_schema : List Str := ["schema"]
theorem sc_is_small_schema : FnScope n_is_small_schema p_is_small_schema (defScope s_is_small_schema) := ⟨rfl, rfl, rfl, by decide +kernel, rfl, by decide +kernel, by decide +kernel⟩
abbrev s_schema_from_value : Stmt := top 28
abbrev n_schema_from_value : List Str := ["value", "schema"]
abbrev p_schema_from_value : List Str := ["value"]
theorem sc_schema_from_value : FnScope n_schema_from_value p_schema_from_value (defScope s_schema_from_value) := ⟨rfl, rfl, rfl, by decide +kernel, rfl, by decide +kernel, by decide +kernel⟩
def spParts (n : Nat) : Sp := fun vs H Q _ => ∃ (v : V) (d : PyData) (z : Nat), vs = [v] ∧ IsV (n + 1) d z ∧ TD H v d ∧
  ∀ (l : Addr) (ys : List V) (xs : List (PyData × Nat)) (H' : Hp), Same H H' → H' l = some (.lst ys) → TDs H' ys (xs.map fun x => x.1) → xs.length ≤ 1000 → (∀ x ∈ xs, IsV n x.1 x.2) → z = 1 + (xs.map fun x => x.2).sum → Q (.ref l) H'
def spSize (n : Nat) : Sp := fun vs H Q _ => ∃ (v : V) (d : PyData) (z : Nat), vs = [v] ∧ IsV n d z ∧ TD H v d ∧ ∀ H', Same H H' → Q (.int z) H'
def spInner (n : Nat) : Sp := fun vs H Q _ => ∃ (v : V) (q : Q4), vs = [v] ∧ SF (n + 1) q ∧ TD H v q.s ∧
  ∀ (l : Addr) (ys : List V) (xs : List Q4) (H' : Hp), Same H H' → H' l = some (.lst ys) → TDs H' ys (xs.map Q4.s) → xs.length ≤ 1000 → (∀ x ∈ xs, SF n x) → q.c = 1 + (xs.map Q4.c).sum → ((∀ d, q.s ≠ .tuple [.str "const", d]) → q.k = (xs.map Q4.k).sum) → Q (.ref l) H'
def spCount (n : Nat) : Sp := fun vs H Q _ => ∃ (v : V) (q : Q4), vs = [v] ∧ SF n q ∧ TD H v q.s ∧ ∀ H', Same H H' → Q (.int q.c) H'
def spDepth (n : Nat) : Sp := fun vs H Q _ => ∃ (v : V) (q : Q4), vs = [v] ∧ SF n q ∧ TD H v q.s ∧ ∀ (m : Int) (H' : Hp), Same H H' → m ≤ n → Q (.int m) H'
def spCSize (n : Nat) : Sp := fun vs H Q _ => ∃ (v : V) (q : Q4), vs = [v] ∧ SF n q ∧ TD H v q.s ∧ ∀ H', Same H H' → Q (.int q.k) H'
def spSmall3 : Sp := fun vs H Q _ => ∃ (v : V) (q : Q4), vs = [v] ∧ SF 3 q ∧ q.c ≤ 30 ∧ q.k ≤ 20 ∧ TD H v q.s ∧ ∀ H', Same H H' → Q (.bl true) H'
def spSFV : Sp := fun vs H Q _ => ∃ (v : V) (q : Q4), vs = [v] ∧ SF 3 q ∧ q.c ≤ 30 ∧ q.k ≤ 20 ∧ TD H v q.f ∧ ∀ r H', Same H H' → TD H' r q.s → Q r H'
theorem q_int {Q : VK} {i j : Int} {H : Hp} (e : j = i) (h : Q (.int i) H) : Q (.int j) H := by rw [e]; exact h
theorem q_bl {Q : VK} {i j : Bool} {H : Hp} (e : j = i) (h : Q (.bl i) H) : Q (.bl j) H := by rw [e]; exact h
theorem cast_sum {α : Type} (f : α → Nat) : ∀ L : List α, (L.map fun x => ((f x : Nat) : Int)).sum = (((L.map f).sum : Nat) : Int)
  | [] => rfl
  | a :: L => by
    rw [List.map_cons, List.map_cons, List.sum_cons, List.sum_cons, cast_sum f L]
    exact (Int.natCast_add _ _).symm
theorem ints_ex {C : Int → Prop} : ∀ {vs : List V}, (∀ (i : Nat) (y : V), vs[i]? = some y → ∃ m : Int, y = .int m ∧ C m) → ∃ ns : List Int, vs = ns.map V.int ∧ ∀ m ∈ ns, C m
  | [], _ => ⟨[], rfl, fun m h => by cases h⟩
  | v :: vs, h => by
    obtain ⟨m, rfl, hm⟩ := h 0 v rfl
    obtain ⟨ns, e, hn⟩ := ints_ex (vs := vs) fun i y hy => h (i + 1) y hy
    refine ⟨m :: ns, by rw [e]; rfl, fun m' h' => ?_⟩
    rcases List.mem_cons.mp h' with rfl | h'
    · exact hm
    · exact hn m' h'
section
variable {P : Program} {w : World} {K : PySem.W.Frag} {mg : Str → Option Value} {base : Heap} {k : Nat}
theorem ok_parts (B : Bi mg) (D : Df K mg "parts_of" s_parts_of p_parts_of) (n : Nat) : Has P w K mg base (k + 1) "parts_of" p_parts_of (spParts n) := by
  have nd := sc_parts_of.nd
  refine D.ok sc_parts_of (fun vs H Q E h => ?_) (fun f cdv A outer s H vs Q E hr h => ?_)
  · obtain ⟨_, _, _, rfl, _⟩ := h
    rfl
  obtain ⟨v, d, z, rfl, hv, hd, kq⟩ := h
  refine ⟨_, pss_cons (ps_if (pt_cmpR op_eq (pe_ix ix_tup (pv 0) pe_int (fun _ _ => rfl)) pe_str (nomark _)) (pss_one (ps_ret (pe_callTy call_list_of (by rfl) B.list_ (by decide +kernel) (pa_cons (pe_ix ix_tup (pv 0) pe_int (fun _ _ => rfl)) pa_nil)))) pss_nil)
    (pss_cons (ps_if (pt_cmpR op_eq (pe_ix ix_tup (pv 0) pe_int (fun _ _ => rfl)) pe_str (nomark _)) (pss_one (ps_ret (pe_lc (own := [("field", 1)]) (g := gName 1) (tt := tYes) rfl nd (pi_tup (pe_ix ix_tup (pv 0) pe_int (fun _ _ => rfl))) (blkOk_by (N := n_parts_of) (sc := defScope s_parts_of) (by decide +kernel)) (fun _ _ _ _ _ => pg_name (i := 1) nd rfl (Or.inl rfl)) (fun _ _ _ _ _ => pts_nil) (fun _ _ _ _ _ => (pe_ix (ix_tupK (K := K) rfl) (pv 1) pe_int (fun _ _ => rfl)))))) pss_nil)
    (pss_one (ps_ret (pe_lst pa_nil)))), ?_⟩
  have leaf : ∀ (a : Addr) (kd : Str) (ys : List V), H a = some (.tup (.str kd :: ys)) → kd ≠ "list" → kd ≠ "object" → z = 1 →
      tSeq (tIfS (tTest (tOp rEq (tOp (rIxT K) (tVar 0) (tC (.int 0))) (tC (.str "list")))) (tRet (tCB (fun xs H Q => ∃ p ys, xs = [.ref p] ∧ (SqL K H p ys ∨ SqT K H p ys) ∧ ∀ l, H l = none → Q (.ref l) (upd H l (.lst ys))) (tCons (tOp (rIxT K) (tVar 0) (tC (.int 1))) tNil))) tNext)
        (tSeq (tIfS (tTest (tOp rEq (tOp (rIxT K) (tVar 0) (tC (.int 0))) (tC (.str "object")))) (tRet (tLc (iTup K (tOp (rIxT K) (tVar 0) (tC (.int 1)))) (gName 1) tYes (tOp (rIxT K) (tVar 1) (tC (.int 1))) [1])) tNext) (tRet (tLst tNil))) { nx := fun _ H' => Q .non H', rt := Q } [some (.ref a), none] H := by
    intro a kd ys ha h1 h2 h3
    refine ⟨_, rfl, a, _, _, _, rfl, rfl, SqT.of ha, at0 _ _, rfl, _, rfl, if_f (dec_n h1) ?_⟩
    refine ⟨_, rfl, a, _, _, _, rfl, rfl, SqT.of ha, at0 _ _, rfl, _, rfl, if_f (dec_n h2) ?_⟩
    exact ⟨Nat.zero_le _, fun l hl => kq l [] [] _ (same_new hl _) upd_same .nil (by simp) (fun x hx => by cases hx) h3⟩
  cases hv with
  | null =>
    obtain ⟨a, x, rfl, ha, h1⟩ := hd.i_tup1
    cases h1
    exact leaf a _ _ ha (by decide +kernel) (by decide +kernel) rfl
  | bool b =>
    obtain ⟨a, x, y, rfl, ha, h1, h2⟩ := hd.i_tup2
    cases h1
    exact leaf a _ _ ha (by decide +kernel) (by decide +kernel) rfl
  | int b =>
    obtain ⟨a, x, y, rfl, ha, h1, h2⟩ := hd.i_tup2
    cases h1
    exact leaf a _ _ ha (by decide +kernel) (by decide +kernel) rfl
  | text b hb =>
    obtain ⟨a, x, y, rfl, ha, h1, h2⟩ := hd.i_tup2
    cases h1
    exact leaf a _ _ ha (by decide +kernel) (by decide +kernel) rfl
  | list xs hl hx =>
    obtain ⟨a, x, y, rfl, ha, h1, h2⟩ := hd.i_tup2
    cases h1
    obtain ⟨b, ys, rfl, hb, h3⟩ := h2.i_tup
    refine ⟨_, rfl, a, _, _, _, rfl, rfl, SqT.of ha, rfl, rfl, _, rfl, if_t (dec_s rfl) ?_⟩
    refine ⟨_, rfl, a, _, _, _, rfl, rfl, SqT.of ha, rfl, b, ys, rfl, .inr (SqT.of hb), fun l hl' => ?_⟩
    exact kq l ys xs _ (same_new hl' _) upd_same (h3.sm (same_new hl' _)) hl hx rfl
  | object fs hl hp ho hx =>
    obtain ⟨a, x, y, rfl, ha, h1, h2⟩ := hd.i_tup2
    cases h1
    obtain ⟨b, ys, rfl, hb, h3⟩ := h2.i_tup
    have hyl : ys.length = fs.length := by rw [h3.len, List.length_map]
    refine ⟨_, rfl, a, _, _, _, rfl, rfl, SqT.of ha, rfl, rfl, _, rfl, if_f (by decide +kernel) ?_⟩
    refine ⟨_, rfl, a, _, _, _, rfl, rfl, SqT.of ha, rfl, rfl, _, rfl, if_t (dec_s rfl) ?_⟩
    refine ⟨_, rfl, a, _, _, _, rfl, rfl, SqT.of ha, rfl, b, rfl, ⟨_, SqT.of hb⟩, lcT hb (by omega) (fun i y H' => ∃ e, fs[i]? = some e ∧ TD H' y e.2.1) (fun i y H H' t ⟨e, h1, h2⟩ => ⟨e, h1, h2.tu t⟩) (fun i x H1 hi s1 K' kk => ?_) (fun D H' zs s1 eD hz hR => ?_)⟩
    · obtain ⟨e, he, te⟩ := h3.atM hi
      obtain ⟨c, c1, c2, rfl, hc, g1, g2⟩ := te.i_tup2
      exact ⟨_, rfl, c, _, _, _, rfl, rfl, SqT.of (s1 _ _ hc), rfl, kk _ _ (Same.refl _) ⟨e, he, g2.sm s1⟩⟩
    · refine kq D zs (fs.map fun f => f.2) H' s1 eD ?_ (by rw [List.length_map]; exact hl) (fun x hx' => ?_) ?_
      · rw [List.map_map]
        exact TDs.ofM (f := fun f : Str × PyData × Nat => f.2.1) (by omega) hR
      · obtain ⟨f, hf, rfl⟩ := List.mem_map.mp hx'
        exact hx f hf
      · rw [List.map_map]
        rfl
theorem ok_size_turn (B : Bi mg) (D : Df K mg "size_of" s_size_of p_size_of) {n : Nat} (hparts_of : Has P w K mg base k "parts_of" p_parts_of (spParts n)) (hsize_of : Has P w K mg base k "size_of" p_size_of (spSize n)) : Has P w K mg base (k + 1) "size_of" p_size_of (spSize (n + 1)) := by
  have nd := sc_size_of.nd
  refine D.ok sc_size_of (fun vs H Q E h => ?_) (fun f cdv A outer s H vs Q E hr h => ?_)
  · obtain ⟨_, _, _, rfl, _⟩ := h
    rfl
  obtain ⟨v, d, z, rfl, hv, hd, kq⟩ := h
  refine ⟨_, pss_one (ps_ret (pe_op op_add pe_int (pe_callB (cr_sum rfl) (by rfl) B.sum (by decide +kernel) (pa_cons (pe_lc (own := [("part", 1)]) (g := gName 1) (tt := tYes) rfl nd (pi_list (pe_has hparts_of hr (by rfl) (pa_cons (pv 0) pa_nil))) (blkOk_by (N := n_size_of) (sc := defScope s_size_of) (by decide +kernel)) (fun _ _ _ _ _ => pg_name (i := 1) nd rfl (Or.inl rfl)) (fun _ _ _ _ _ => pts_nil) (fun _ _ _ _ _ => (pe_has hsize_of hr (by rfl) (pa_cons (pv 1) pa_nil)))) pa_nil)))), ?_⟩
  refine ⟨_, rfl, v, d, z, rfl, hv, hd, fun l ys xs H1 s1 el td hl hx hz => ⟨l, rfl, ⟨_, SqL.of el⟩, lcL el (by rw [td.len, List.length_map]; exact hl) (fun i y _ => ∃ e, xs[i]? = some e ∧ y = .int (e.2 : Nat)) (fun i y H H' t z => z) (fun i x H2 hi s2 K' kk => ?_) (fun D H2 us s2 eD nD hu hR => ?_)⟩⟩
  · obtain ⟨e, he, te⟩ := td.atM hi
    exact ⟨_, rfl, x, e.1, e.2, rfl, hx e (List.mem_of_getElem? he), te.sm s2, fun H' s => kk _ H' s ⟨e, he, rfl⟩⟩
  · have eu := ints_of (f := fun e : PyData × Nat => ((e.2 : Nat) : Int)) (by rw [hu, td.len, List.length_map]) hR
    rw [eu] at eD
    refine ⟨D, _, rfl, SqL.of eD, _, _, rfl, rfl, ?_⟩
    rw [cast_sum (fun e : PyData × Nat => e.2)]
    have ez : (1 : Int) + (((xs.map fun e => e.2).sum : Nat) : Int) = ((z : Nat) : Int) := by omega
    exact q_int (Q := Q) ez (kq H2 (s1.trans s2))
theorem ok_size (B : Bi mg) (D : Df K mg "size_of" s_size_of p_size_of) (Dp : Df K mg "parts_of" s_parts_of p_parts_of) : ∀ n : Nat, Has P w K mg base (n + 1) "size_of" p_size_of (spSize n)
  | 0 => has_void D fun vs H Q E ⟨_, _, _, _, h, _⟩ => nomatch h
  | n + 1 => ok_size_turn (k := n + 1) B D (ok_parts B Dp n) (ok_size B D Dp n)
theorem ok_inner (B : Bi mg) (D : Df K mg "inner_schemas" s_inner_schemas p_inner_schemas) (n : Nat) : Has P w K mg base (k + 1) "inner_schemas" p_inner_schemas (spInner n) := by
  have nd := sc_inner_schemas.nd
  refine D.ok sc_inner_schemas (fun vs H Q E h => ?_) (fun f cdv A outer s H vs Q E hr h => ?_)
  · obtain ⟨_, _, rfl, _⟩ := h
    rfl
  obtain ⟨v, q, rfl, hS, hd, kq⟩ := h
  refine ⟨_, pss_cons (ps_set (i := 1) nd rfl (by first | exact Or.inl rfl | exact Or.inr rfl) (pe_ix ix_tup (pv 0) pe_int (fun _ _ => rfl)))
    (pss_cons (ps_if (PW.pt (pw_or (pt_cmpR op_eq (pv 1) pe_str (nomark _)) (pw_or1 (pt_cmpR op_eq (pv 1) pe_str (nomark _))))) (pss_one (ps_ret (pe_lst (pa_cons (pe_ix ix_tup (pv 0) pe_int (fun _ _ => rfl)) pa_nil)))) pss_nil)
    (pss_cons (ps_if (PW.pt (pw_or (pt_cmpR op_eq (pv 1) pe_str (nomark _)) (pw_or (pt_cmpR op_eq (pv 1) pe_str (nomark _)) (pw_or1 (pt_cmpR op_eq (pv 1) pe_str (nomark _)))))) (pss_one (ps_ret (pe_callTy call_list_of (by rfl) B.list_ (by decide +kernel) (pa_cons (pe_ix ix_tup (pv 0) pe_int (fun _ _ => rfl)) pa_nil)))) pss_nil)
    (pss_cons (ps_if (pt_cmpR op_eq (pv 1) pe_str (nomark _)) (pss_one (ps_ret (pe_op op_cat (pe_lc (own := [("row", 2)]) (g := gName 2) (tt := tYes) rfl nd (pi_tup (pe_ix ix_tup (pv 0) pe_int (fun _ _ => rfl))) (blkOk_by (N := n_inner_schemas) (sc := defScope s_inner_schemas) (by decide +kernel)) (fun _ _ _ _ _ => pg_name (i := 2) nd rfl (Or.inl rfl)) (fun _ _ _ _ _ => pts_nil) (fun _ _ _ _ _ => (pe_ix (ix_tupK (K := K) rfl) (pv 2) pe_int (fun _ _ => rfl)))) (pe_lst (pa_cons (pe_ix ix_tup (pv 0) pe_int (fun _ _ => rfl)) pa_nil))))) pss_nil)
    (pss_one (ps_ret (pe_lst pa_nil)))))), ?_⟩
  have lf : ∀ (l : Addr), H l = none → q.c = 1 → ((∀ d, q.s ≠ .tuple [.str "const", d]) → q.k = 0) → Q (.ref l) (upd H l (.lst [])) := fun l hl h1 h2 => kq l [] [] _ (same_new hl _) upd_same .nil (by simp) (fun x hx => by cases hx) h1 h2
  cases hS with
  | word w hw =>
    obtain ⟨a, x, rfl, ha, h1⟩ := TD.i_tup1 hd
    cases h1
    have N := nw_word hw
    refine ⟨_, rfl, a, _, _, _, rfl, rfl, SqT.of ha, rfl, ?_⟩
    refine w2f rfl ⟨N.c, N.f⟩ (if_f rfl ?_)
    refine w3f rfl N.d (if_f rfl ?_)
    refine w1f rfl N.e (if_f rfl ?_)
    exact ⟨Nat.zero_le _, fun l hl => lf l hl rfl fun _ => rfl⟩
  | int lo hi =>
    obtain ⟨a, x, y, z, rfl, ha, h1, h2, h3⟩ := TD.i_tup3 hd
    cases h1
    refine ⟨_, rfl, a, _, _, _, rfl, rfl, SqT.of ha, rfl, ?_⟩
    refine w2f rfl (by decide +kernel) (if_f rfl ?_)
    refine w3f rfl (by decide +kernel) (if_f rfl ?_)
    refine w1f rfl (by decide +kernel) (if_f rfl ?_)
    exact ⟨Nat.zero_le _, fun l hl => lf l hl rfl fun _ => rfl⟩
  | text lo hi h0 h1' h2' =>
    obtain ⟨a, x, y, z, rfl, ha, h1, h2, h3⟩ := TD.i_tup3 hd
    cases h1
    refine ⟨_, rfl, a, _, _, _, rfl, rfl, SqT.of ha, rfl, ?_⟩
    refine w2f rfl (by decide +kernel) (if_f rfl ?_)
    refine w3f rfl (by decide +kernel) (if_f rfl ?_)
    refine w1f rfl (by decide +kernel) (if_f rfl ?_)
    exact ⟨Nat.zero_le _, fun l hl => lf l hl rfl fun _ => rfl⟩
  | const d z hv =>
    obtain ⟨a, x, y, rfl, ha, h1, h2⟩ := TD.i_tup2 hd
    cases h1
    refine ⟨_, rfl, a, _, _, _, rfl, rfl, SqT.of ha, rfl, ?_⟩
    refine w2f rfl (by decide +kernel) (if_f rfl ?_)
    refine w3f rfl (by decide +kernel) (if_f rfl ?_)
    refine w1f rfl (by decide +kernel) (if_f rfl ?_)
    exact ⟨Nat.zero_le _, fun l hl => lf l hl rfl fun z => absurd rfl (z d)⟩
  | list x lo hi h0 h1' h2' hx =>
    obtain ⟨a, x0, y, z, u, rfl, ha, h1, h2, h3, h4⟩ := TD.i_tup4 hd
    cases h1
    refine ⟨_, rfl, a, _, _, _, rfl, rfl, SqT.of ha, rfl, ?_⟩
    refine w2t rfl (.inl rfl) (if_t rfl ?_)
    refine ⟨_, rfl, a, _, _, _, rfl, rfl, SqT.of ha, rfl, line 1 (by decide), fun l hl => ?_⟩
    exact kq l [y] [x] _ (same_new hl _) upd_same ((tds1 h2).sm (same_new hl _)) (by simp) (fun e he => by rw [List.mem_singleton.mp he]; exact hx) (by simp) fun _ => by simp
  | many w xs hw hn hx =>
    obtain ⟨a, x0, y, rfl, ha, h1, h2⟩ := TD.i_tup2 hd
    cases h1
    obtain ⟨b, ys, rfl, hb, h3⟩ := h2.i_tup
    have N : w ≠ "list" ∧ w ≠ "not" := by rcases hw with rfl | rfl | rfl <;> decide +kernel
    refine ⟨_, rfl, a, _, _, _, rfl, rfl, SqT.of ha, rfl, ?_⟩
    refine w2f rfl N (if_f rfl ?_)
    refine w3t rfl hw (if_t rfl ?_)
    refine ⟨_, rfl, a, _, _, _, rfl, rfl, SqT.of ha, rfl, b, ys, rfl, .inr (SqT.of hb), fun l hl => ?_⟩
    exact kq l ys xs _ (same_new hl _) upd_same (h3.sm (same_new hl _)) (by omega) hx rfl fun _ => rfl
  | object rs y hn hnd ho hx hy =>
    obtain ⟨a, x0, y1, y2, rfl, ha, h1, h2, h3⟩ := TD.i_tup3 hd
    cases h1
    obtain ⟨b, ys, rfl, hb, h4⟩ := h2.i_tup
    have hl : ys.length = rs.length := by rw [h4.len, List.length_map]
    refine ⟨_, rfl, a, _, _, _, rfl, rfl, SqT.of ha, rfl, ?_⟩
    refine w2f rfl (by decide +kernel) (if_f rfl ?_)
    refine w3f rfl (by decide +kernel) (if_f rfl ?_)
    refine w1t rfl rfl (if_t rfl ?_)
    refine ⟨_, rfl, a, _, _, _, rfl, rfl, SqT.of ha, rfl, b, rfl, ⟨_, SqT.of hb⟩, lcT hb (by omega) (fun i y H' => ∃ e, rs[i]? = some e ∧ TD H' y e.q.s) (fun i y H H' t ⟨e, h1, h2⟩ => ⟨e, h1, h2.tu t⟩) (fun i x H1 hi s1 K' kk => ?_) (fun D H1 zs s1 eD hz hR => ?_)⟩
    · obtain ⟨e, he, te⟩ := h4.atM hi
      obtain ⟨c, c1, c2, c3, rfl, hc, g1, g2, g3⟩ := te.i_tup3
      exact ⟨_, rfl, c, _, _, _, rfl, rfl, SqT.of (s1 _ _ hc), rfl, kk _ _ (Same.refl _) ⟨e, he, g2.sm s1⟩⟩
    · refine ⟨_, rfl, a, _, _, _, rfl, rfl, SqT.of (s1 _ _ ha), rfl, line 1 (by decide), fun l hl' => ?_⟩
      have s2 := same_new hl' (.lst [y2])
      refine ⟨D, l, zs, [y2], rfl, rfl, s2 _ _ eD, upd_same, line _ (by simp; omega), fun p hp => ?_⟩
      have s3 := same_new hp (.lst (zs ++ [y2]))
      have tz : TDs H1 zs ((rs.map Rw.q).map Q4.s) := by
        rw [List.map_map]
        exact TDs.ofM (f := fun r : Rw => r.q.s) (by omega) hR
      refine kq p (zs ++ [y2]) (rs.map Rw.q ++ [y]) _ (s1.trans (s2.trans s3)) upd_same ?_ (by simp; omega) (fun e he => ?_) ?_ fun _ => ?_
      · rw [List.map_append]
        exact TDs.app (tz.sm (s2.trans s3)) (tds1 (h3.sm (s1.trans (s2.trans s3))))
      · rcases List.mem_append.mp he with he | he
        · obtain ⟨r, hr', rfl⟩ := List.mem_map.mp he
          exact hx r hr'
        · rw [List.mem_singleton.mp he]
          exact hy
      · rw [List.map_append, List.sum_append, List.map_map]
        simp [Function.comp_def]
      · rw [List.map_append, List.sum_append, List.map_map]
        simp [Function.comp_def]
  | not x hx =>
    obtain ⟨a, x0, y, rfl, ha, h1, h2⟩ := TD.i_tup2 hd
    cases h1
    refine ⟨_, rfl, a, _, _, _, rfl, rfl, SqT.of ha, rfl, ?_⟩
    refine w2t rfl (.inr rfl) (if_t rfl ?_)
    refine ⟨_, rfl, a, _, _, _, rfl, rfl, SqT.of ha, rfl, line 1 (by decide), fun l hl => ?_⟩
    exact kq l [y] [x] _ (same_new hl _) upd_same ((tds1 h2).sm (same_new hl _)) (by simp) (fun e he => by rw [List.mem_singleton.mp he]; exact hx) (by simp) fun _ => by simp
theorem ok_count_turn (B : Bi mg) (D : Df K mg "schema_count" s_schema_count p_schema_count) {n : Nat} (hinner_schemas : Has P w K mg base k "inner_schemas" p_inner_schemas (spInner n)) (hschema_count : Has P w K mg base k "schema_count" p_schema_count (spCount n)) :
    Has P w K mg base (k + 1) "schema_count" p_schema_count (spCount (n + 1)) := by
  have nd := sc_schema_count.nd
  refine D.ok sc_schema_count (fun vs H Q E h => ?_) (fun f cdv A outer s H vs Q E hr h => ?_)
  · obtain ⟨_, _, rfl, _⟩ := h
    rfl
  obtain ⟨v, q, rfl, hS, hd, kq⟩ := h
  refine ⟨_, pss_one (ps_ret (pe_op op_add pe_int (pe_callB (cr_sum rfl) (by rfl) B.sum (by decide +kernel) (pa_cons (pe_lc (own := [("part", 1)]) (g := gName 1) (tt := tYes) rfl nd (pi_list (pe_has hinner_schemas hr (by rfl) (pa_cons (pv 0) pa_nil))) (blkOk_by (N := n_schema_count) (sc := defScope s_schema_count) (by decide +kernel)) (fun _ _ _ _ _ => pg_name (i := 1) nd rfl (Or.inl rfl)) (fun _ _ _ _ _ => pts_nil) (fun _ _ _ _ _ => (pe_has hschema_count hr (by rfl) (pa_cons (pv 1) pa_nil)))) pa_nil)))), ?_⟩
  refine ⟨_, rfl, v, q, rfl, hS, hd, fun l ys xs H1 s1 el td hl hx hz _ => ⟨l, rfl, ⟨_, SqL.of el⟩, lcL el (by rw [td.len, List.length_map]; exact hl) (fun i y _ => ∃ e, xs[i]? = some e ∧ y = .int (e.c : Nat)) (fun i y H H' t z => z) (fun i x H2 hi s2 K' kk => ?_) (fun D H2 us s2 eD nD hu hR => ?_)⟩⟩
  · obtain ⟨e, he, te⟩ := td.atM hi
    exact ⟨_, rfl, x, e, rfl, hx e (List.mem_of_getElem? he), te.sm s2, fun H' s => kk _ H' s ⟨e, he, rfl⟩⟩
  · have eu := ints_of (f := fun e : Q4 => ((e.c : Nat) : Int)) (by rw [hu, td.len, List.length_map]) hR
    rw [eu] at eD
    refine ⟨D, _, rfl, SqL.of eD, _, _, rfl, rfl, ?_⟩
    rw [cast_sum (fun e : Q4 => e.c)]
    have ez : (1 : Int) + (((xs.map fun e => e.c).sum : Nat) : Int) = ((q.c : Nat) : Int) := by
      rw [hz]
      exact (Int.natCast_add _ _).symm
    exact q_int (Q := Q) ez (kq H2 (s1.trans s2))
theorem ok_count (B : Bi mg) (D : Df K mg "schema_count" s_schema_count p_schema_count) (Di : Df K mg "inner_schemas" s_inner_schemas p_inner_schemas) : ∀ n : Nat, Has P w K mg base (n + 1) "schema_count" p_schema_count (spCount n)
  | 0 => has_void D fun vs H Q E ⟨_, _, _, h, _⟩ => h.no0
  | n + 1 => ok_count_turn (k := n + 1) B D (ok_inner B Di n) (ok_count B D Di n)
theorem ok_depth_turn (B : Bi mg) (D : Df K mg "schema_depth" s_schema_depth p_schema_depth) {n : Nat} (hinner_schemas : Has P w K mg base k "inner_schemas" p_inner_schemas (spInner n)) (hschema_depth : Has P w K mg base k "schema_depth" p_schema_depth (spDepth n)) :
    Has P w K mg base (k + 1) "schema_depth" p_schema_depth (spDepth (n + 1)) := by
  have nd := sc_schema_depth.nd
  refine D.ok sc_schema_depth (fun vs H Q E h => ?_) (fun f cdv A outer s H vs Q E hr h => ?_)
  · obtain ⟨_, _, rfl, _⟩ := h
    rfl
  obtain ⟨v, q, rfl, hS, hd, kq⟩ := h
  refine ⟨_, pss_one (ps_ret (pe_op op_add pe_int (pe_callB (cr_max rfl) (by rfl) B.max (by decide +kernel) (pa_cons (pe_op op_cat (pe_lst (pa_cons pe_int pa_nil)) (pe_lc (own := [("part", 1)]) (g := gName 1) (tt := tYes) rfl nd (pi_list (pe_has hinner_schemas hr (by rfl) (pa_cons (pv 0) pa_nil))) (blkOk_by (N := n_schema_depth) (sc := defScope s_schema_depth) (by decide +kernel)) (fun _ _ _ _ _ => pg_name (i := 1) nd rfl (Or.inl rfl)) (fun _ _ _ _ _ => pts_nil) (fun _ _ _ _ _ => (pe_has hschema_depth hr (by rfl) (pa_cons (pv 1) pa_nil))))) pa_nil)))), ?_⟩
  refine ⟨line 1 (by decide), fun l0 hl0 => ?_⟩
  have s0 := same_new hl0 (.lst [.int 0])
  have e0 : (upd H l0 (.lst [.int 0])) l0 = some (.lst [.int 0]) := upd_same
  generalize upd H l0 (.lst [.int 0]) = H0 at *
  refine ⟨_, rfl, v, q, rfl, hS, hd.sm s0, fun l ys xs H1 s1 el td hl hx hz _ => ⟨l, rfl, ⟨_, SqL.of el⟩, lcL el (by rw [td.len, List.length_map]; exact hl) (fun i y _ => ∃ m : Int, y = .int m ∧ m ≤ n) (fun i y H H' t z => z) (fun i x H2 hi s2 K' kk => ?_) (fun D H2 us s2 eD nD hu hR => ?_)⟩⟩
  · obtain ⟨e, he, te⟩ := td.atM hi
    exact ⟨_, rfl, x, e, rfl, hx e (List.mem_of_getElem? he), te.sm s2, fun m H' s hm => kk _ H' s ⟨m, rfl, hm⟩⟩
  · obtain ⟨ns, rfl, hns⟩ := ints_ex hR
    have hlen : (ns.map V.int).length ≤ 1000 := by rw [hu, td.len, List.length_map]; exact hl
    refine ⟨l0, D, [.int 0], _, rfl, rfl, s2 _ _ (s1 _ _ e0), eD, Nat.le_of_lt (Nat.lt_of_le_of_lt (show 1 + (ns.map V.int).length ≤ 1001 by omega) (by decide)), fun p hp => ?_⟩
    have s3 := same_new hp (.lst ([V.int 0] ++ ns.map V.int))
    refine ⟨p, 0 :: ns, rfl, SqL.of upd_same, by simp, fun m hm hle => ⟨_, _, rfl, rfl, ?_⟩⟩
    refine kq _ _ (s0.trans (s1.trans (s2.trans s3))) ?_
    rcases List.mem_cons.mp hm with rfl | hm
    · omega
    · have := hns m hm
      omega
theorem ok_depth (B : Bi mg) (D : Df K mg "schema_depth" s_schema_depth p_schema_depth) (Di : Df K mg "inner_schemas" s_inner_schemas p_inner_schemas) : ∀ n : Nat, Has P w K mg base (n + 1) "schema_depth" p_schema_depth (spDepth n)
  | 0 => has_void D fun vs H Q E ⟨_, _, _, h, _⟩ => h.no0
  | n + 1 => ok_depth_turn (k := n + 1) B D (ok_inner B Di n) (ok_depth B D Di n)
theorem ok_csize_turn (B : Bi mg) (D : Df K mg "const_size" s_const_size p_const_size) {n : Nat} (hinner_schemas : Has P w K mg base k "inner_schemas" p_inner_schemas (spInner n)) (hconst_size : Has P w K mg base k "const_size" p_const_size (spCSize n)) (hsize_of : Has P w K mg base k "size_of" p_size_of (spSize 2)) :
    Has P w K mg base (k + 1) "const_size" p_const_size (spCSize (n + 1)) := by
  have nd := sc_const_size.nd
  refine D.ok sc_const_size (fun vs H Q E h => ?_) (fun f cdv A outer s H vs Q E hr h => ?_)
  · obtain ⟨_, _, rfl, _⟩ := h
    rfl
  obtain ⟨v, q, rfl, hS, hd, kq⟩ := h
  refine ⟨_, pss_cons (ps_if (pt_cmpR op_eq (pe_ix ix_tup (pv 0) pe_int (fun _ _ => rfl)) pe_str (nomark _)) (pss_one (ps_ret (pe_has hsize_of hr (by rfl) (pa_cons (pe_ix ix_tup (pv 0) pe_int (fun _ _ => rfl)) pa_nil)))) pss_nil)
    (pss_one (ps_ret (pe_callB (cr_sum rfl) (by rfl) B.sum (by decide +kernel) (pa_cons (pe_lc (own := [("part", 1)]) (g := gName 1) (tt := tYes) rfl nd (pi_list (pe_has hinner_schemas hr (by rfl) (pa_cons (pv 0) pa_nil))) (blkOk_by (N := n_const_size) (sc := defScope s_const_size) (by decide +kernel)) (fun _ _ _ _ _ => pg_name (i := 1) nd rfl (Or.inl rfl)) (fun _ _ _ _ _ => pts_nil) (fun _ _ _ _ _ => (pe_has hconst_size hr (by rfl) (pa_cons (pv 1) pa_nil)))) pa_nil)))), ?_⟩
  by_cases hc : ∃ d z, q = ⟨.tuple [.str "const", d], formD "const" [d], 1, z⟩ ∧ IsV 2 d z
  · obtain ⟨d, z, rfl, hv⟩ := hc
    obtain ⟨a, x, y, rfl, ha, h1, h2⟩ := TD.i_tup2 hd
    cases h1
    refine ⟨_, rfl, a, _, _, _, rfl, rfl, SqT.of ha, rfl, rfl, _, rfl, if_t (dec_s rfl) ?_⟩
    exact ⟨_, rfl, a, _, _, _, rfl, rfl, SqT.of ha, rfl, y, d, z, rfl, hv, h2, fun H' s => kq H' s⟩
  · have hw : ∃ (a : Addr) (x : Str) (ys : List V), v = .ref a ∧ H a = some (.tup (.str x :: ys)) ∧ x ≠ "const" := by
      cases hS with
      | word w hw =>
        obtain ⟨a, x, rfl, ha, h1⟩ := TD.i_tup1 hd
        cases h1
        exact ⟨a, _, _, rfl, ha, (nw_word hw).b⟩
      | int lo hi =>
        obtain ⟨a, x, y, z, rfl, ha, h1, h2, h3⟩ := TD.i_tup3 hd
        cases h1
        exact ⟨a, _, _, rfl, ha, by decide +kernel⟩
      | text lo hi h0 h1' h2' =>
        obtain ⟨a, x, y, z, rfl, ha, h1, h2, h3⟩ := TD.i_tup3 hd
        cases h1
        exact ⟨a, _, _, rfl, ha, by decide +kernel⟩
      | const d z hv => exact absurd ⟨d, z, rfl, hv⟩ hc
      | list x lo hi h0 h1' h2' hx =>
        obtain ⟨a, x0, y, z, u, rfl, ha, h1, h2, h3, h4⟩ := TD.i_tup4 hd
        cases h1
        exact ⟨a, _, _, rfl, ha, by decide +kernel⟩
      | many w xs hw hn hx =>
        obtain ⟨a, x0, y, rfl, ha, h1, h2⟩ := TD.i_tup2 hd
        cases h1
        exact ⟨a, _, _, rfl, ha, (nw_many hw).2.1⟩
      | object rs y hn hnd ho hx hy =>
        obtain ⟨a, x0, y1, y2, rfl, ha, h1, h2, h3⟩ := TD.i_tup3 hd
        cases h1
        exact ⟨a, _, _, rfl, ha, by decide +kernel⟩
      | not x hx =>
        obtain ⟨a, x0, y, rfl, ha, h1, h2⟩ := TD.i_tup2 hd
        cases h1
        exact ⟨a, _, _, rfl, ha, by decide +kernel⟩
    have nc : ∀ d, q.s ≠ .tuple [.str "const", d] := by
      intro d z
      obtain ⟨a, x, ys, rfl, ha, hx⟩ := hw
      rw [z] at hd
      obtain ⟨a', x', y', e, ha', h1, h2⟩ := TD.i_tup2 hd
      cases e
      cases h1
      rw [ha] at ha'
      cases ha'
      exact hx rfl
    obtain ⟨a, x, ys0, rfl, ha, hx⟩ := hw
    refine ⟨_, rfl, a, _, _, _, rfl, rfl, SqT.of ha, at0 _ _, rfl, _, rfl, if_f (dec_n hx) ?_⟩
    refine ⟨_, rfl, _, q, rfl, hS, hd, fun l ys xs H1 s1 el td hl hx hz hk => ⟨l, rfl, ⟨_, SqL.of el⟩, lcL el (by rw [td.len, List.length_map]; exact hl) (fun i y _ => ∃ e, xs[i]? = some e ∧ y = .int (e.k : Nat)) (fun i y H H' t z => z) (fun i x H2 hi s2 K' kk => ?_) (fun D H2 us s2 eD nD hu hR => ?_)⟩⟩
    · obtain ⟨e, he, te⟩ := td.atM hi
      exact ⟨_, rfl, x, e, rfl, hx e (List.mem_of_getElem? he), te.sm s2, fun H' s => kk _ H' s ⟨e, he, rfl⟩⟩
    · have eu := ints_of (f := fun e : Q4 => ((e.k : Nat) : Int)) (by rw [hu, td.len, List.length_map]) hR
      rw [eu] at eD
      refine ⟨D, _, rfl, SqL.of eD, ?_⟩
      rw [cast_sum (fun e : Q4 => e.k)]
      have ez : (((xs.map fun e => e.k).sum : Nat) : Int) = ((q.k : Nat) : Int) := by rw [hk nc]
      rw [ez]
      exact kq H2 (s1.trans s2)
theorem ok_csize (B : Bi mg) (D : Df K mg "const_size" s_const_size p_const_size) (Di : Df K mg "inner_schemas" s_inner_schemas p_inner_schemas) (hs : Has P w K mg base 3 "size_of" p_size_of (spSize 2)) : ∀ n : Nat, Has P w K mg base (n + 3) "const_size" p_const_size (spCSize n)
  | 0 => has_void D fun vs H Q E ⟨_, _, _, h, _⟩ => h.no0
  | n + 1 => ok_csize_turn (k := n + 3) B D (ok_inner B Di n) (ok_csize B D Di hs n) (hs.mono (by omega))
theorem ok_small (B : Bi mg) (D : Df K mg "is_small_schema" s_is_small_schema p_is_small_schema) (hschema_count : Has P w K mg base k "schema_count" p_schema_count (spCount 3)) (hschema_depth : Has P w K mg base k "schema_depth" p_schema_depth (spDepth 3)) (hconst_size : Has P w K mg base k "const_size" p_const_size (spCSize 3)) :
    Has P w K mg base (k + 1) "is_small_schema" p_is_small_schema spSmall3 := by
  have nd := sc_is_small_schema.nd
  refine D.ok sc_is_small_schema (fun vs H Q E h => ?_) (fun f cdv A outer s H vs Q E hr h => ?_)
  · obtain ⟨_, _, rfl, _⟩ := h
    rfl
  obtain ⟨v, q, rfl, hS, hc, hk, hd, kq⟩ := h
  refine ⟨_, pss_one (ps_ret (pe_and (pe_cmpR op_le (pe_has hschema_count hr (by rfl) (pa_cons (pv 0) pa_nil)) pe_int (nomark _)) (pe_and (pe_cmpR op_le (pe_has hschema_depth hr (by rfl) (pa_cons (pv 0) pa_nil)) pe_int (nomark _)) (pe_one (pe_cmpR op_le (pe_has hconst_size hr (by rfl) (pa_cons (pv 0) pa_nil)) pe_int (nomark _)))))), ?_⟩
  refine ⟨_, rfl, v, q, rfl, hS, hd, fun H1 s1 => ⟨_, _, rfl, rfl, _, rfl, if_t (decide_eq_true (by omega)) ?_⟩⟩
  refine ⟨_, rfl, v, q, rfl, hS, hd.sm s1, fun m H2 s2 hm => ⟨_, _, rfl, rfl, _, rfl, if_t (decide_eq_true (by omega)) ?_⟩⟩
  refine ⟨_, rfl, v, q, rfl, hS, hd.sm (s1.trans s2), fun H3 s3 => ⟨_, _, rfl, rfl, ?_⟩⟩
  have e : decide (((q.k : Nat) : Int) ≤ 20) = true := decide_eq_true (by omega)
  exact q_bl (Q := Q) e (kq H3 (s1.trans (s2.trans s3)))
theorem ok_sfv (D : Df K mg "schema_from_value" s_schema_from_value p_schema_from_value) (hread_schema : Has P w K mg base k "read_schema" p_read_schema (spRS 3)) (hdemand : Has P w K mg base k "demand" p_demand spDemand) (his_small_schema : Has P w K mg base k "is_small_schema" p_is_small_schema spSmall3) :
    Has P w K mg base (k + 1) "schema_from_value" p_schema_from_value spSFV := by
  have nd := sc_schema_from_value.nd
  refine D.ok sc_schema_from_value (fun vs H Q E h => ?_) (fun f cdv A outer s H vs Q E hr h => ?_)
  · obtain ⟨_, _, rfl, _⟩ := h
    rfl
  obtain ⟨v, q, rfl, hS, hc, hk, hd, kq⟩ := h
  refine ⟨_, pss_cons (ps_set (i := 1) nd rfl (by first | exact Or.inl rfl | exact Or.inr rfl) (pe_has hread_schema hr (by rfl) (pa_cons (pv 0) pa_nil)))
    (pss_cons (ps_expr (pe_has hdemand hr (by rfl) (pa_cons (pe_has his_small_schema hr (by rfl) (pa_cons (pv 1) pa_nil)) pa_nil)))
    (pss_one (ps_ret (pv 1)))), ?_⟩
  refine ⟨_, rfl, v, q, rfl, hS, hd, fun r H1 s1 t1 => ?_⟩
  refine ⟨_, rfl, r, q, rfl, hS, hc, hk, t1, fun H2 s2 => ⟨rfl, ?_⟩⟩
  exact ⟨_, rfl, kq r H2 (s1.trans s2) (t1.sm s2)⟩
end
end Pk

/-! ### Pk, part H: the law's look at a value -/
namespace Pk
open PySem PySem.Spec PyProof.Rows L2
abbrev s_L_is_integer : Stmt := top 31
abbrev n_L_is_integer : List Str := ["_law_number_here"]
abbrev p_L_is_integer : List Str := ["_law_number_here"]
theorem sc_L_is_integer : FnScope n_L_is_integer p_L_is_integer (defScope s_L_is_integer) := ⟨rfl, rfl, rfl, by decide +kernel, rfl, by decide +kernel, by decide +kernel⟩
abbrev s_L_is_string : Stmt := top 32
abbrev n_L_is_string : List Str := ["_law_string", "_law_char_here"]
abbrev p_L_is_string : List Str := ["_law_string"]
theorem sc_L_is_string : FnScope n_L_is_string p_L_is_string (defScope s_L_is_string) := ⟨rfl, rfl, rfl, by decide +kernel, rfl, by decide +kernel, by decide +kernel⟩
abbrev s_L_is_value : Stmt := top 33
abbrev n_L_is_value : List Str := ["_law_value", "_law_depth", "_law_last", "_law_field", "_law_item"]
abbrev p_L_is_value : List Str := ["_law_value", "_law_depth"]
theorem sc_L_is_value : FnScope n_L_is_value p_L_is_value (defScope s_L_is_value) := ⟨rfl, rfl, rfl, by decide +kernel, rfl, by decide +kernel, by decide +kernel⟩
def spIsInt : Sp := fun vs H Q _ => ∃ i : Int, vs = [.int i] ∧ Q (.bl true) H
def spIsStr : Sp := fun vs H Q _ => ∃ s : Str, vs = [.str s] ∧ okS s ∧ ∀ H', Same H H' → Q (.bl true) H'
def spIsVal (n : Nat) : Sp := fun vs H Q _ => ∃ (v : V) (d : PyData) (z : Nat) (k : Int), vs = [v, .int k] ∧ IsV n d z ∧ (n : Int) ≤ k ∧ TD H v d ∧ ∀ H', Same H H' → Q (.bl true) H'
theorem lcS {x : Str} {j : Nat} {te : TE} {σ : L2.St} {H1 : Hp} {Qd : Addr → Hp → Prop} (hlen : x.length ≤ 1000) (R : V → Prop)
    (step : ∀ (i c : Nat) H, x.cps[i]? = some c → Same H1 H → ∀ K' : VK, (∀ y, R y → K' y H) → te ((wipe σ [j]).set j (some (.str ⟨#[c]⟩))) H K')
    (done : ∀ D H ys, Same H1 H → H D = some (.lst ys) → (∀ (i : Nat) y, ys[i]? = some y → R y) → Qd D H) :
    ∀ D, H1 D = none → ∃ W : Nat → Nat → Hp → Prop, (∃ m, W 0 m (upd H1 D (.lst []))) ∧ ∀ i m H, W i m H →
      ((Its x).stop i H ∧ Qd D H) ∨ ((Its x).go i H ∧ ∃ Nx : Hp → Prop, (∀ H', Nx H' → ∃ m', m' < m ∧ W (i + 1) m' H') ∧ ∀ y H', (Its x).yld i H y H' → gName j y (wipe σ [j]) H' fun σ2 H2 => wipe σ2 [j] = wipe σ [j] ∧ tYes σ2 H2 fun b H3 =>
        if b = true then te σ2 H3 fun y H4 => ∃ acc, H4 D = some (.lst acc) ∧ acc.length < sizeLine ∧ Nx (upd H4 D (.lst (acc ++ [y]))) else Nx H3) := by
  intro D hD
  have hsz : x.cps.size ≤ 1000 := hlen
  refine ⟨fun i m H => m = x.cps.size - i ∧ i ≤ x.cps.size ∧ ∃ ys, H D = some (.lst ys) ∧ ys.length = i ∧ Same H1 H ∧ ∀ (k : Nat) y, ys[k]? = some y → R y, ⟨x.cps.size, by simp, Nat.zero_le _, [], upd_same, rfl, same_new hD _, fun k y e => by simp at e⟩, ?_⟩
  rintro i m H ⟨rfl, hi, ys, eD, hl, s, hR⟩
  by_cases hlt : i < x.cps.size
  · refine .inr ⟨hlt, fun H => ∃ ys, H D = some (.lst ys) ∧ ys.length = i + 1 ∧ Same H1 H ∧ ∀ (k : Nat) y, ys[k]? = some y → R y, fun H' p' => ⟨x.cps.size - (i + 1), by omega, rfl, hlt, p'⟩, fun y H' hy => ?_⟩
    obtain ⟨e, c, hc, e2⟩ := hy
    subst e e2
    refine ⟨wipe_one σ j _, ?_⟩
    refine yes_t ?_
    refine Eq.mpr (if_pos rfl) ?_
    refine step i c H' hc s _ fun y r => ?_
    refine ⟨ys, eD, small1000 (by omega), ys ++ [y], upd_same, by simp [hl], fun b o q => ?_, fun k z e => ?_⟩
    · rw [upd_ne (ne_of_none q hD)]; exact s _ _ q
    · by_cases hk : k < ys.length
      · rw [List.getElem?_append_left hk] at e
        exact hR k z e
      · rw [List.getElem?_append_right (by omega)] at e
        cases hq : k - ys.length with
        | zero =>
          rw [hq] at e
          have ez : y = z := Option.some.inj e
          rw [← ez]
          exact r
        | succ m => rw [hq] at e; simp at e
  · exact .inl ⟨by show x.cps.size ≤ i; omega, done D H ys s eD hR⟩
theorem one_lt {a b : Nat} (h : a ≤ b) : ¬ ([b] < [a]) := fun z => by
  rcases List.cons_lt_cons_iff.mp z with z | ⟨_, z⟩
  · omega
  · exact absurd z (List.not_lt_nil _)
theorem le_lo {c : Nat} (h : 32 ≤ c) : (!decide ((⟨#[c]⟩ : Str).cps.toList < (" " : Str).cps.toList)) = true := by
  have e : ((" " : Str).cps.toList) = [32] := by decide +kernel
  rw [e, show (⟨#[c]⟩ : Str).cps.toList = [c] from rfl, decide_eq_false (one_lt h)]
  rfl
theorem le_hi {c : Nat} (h : c ≤ 126) : (!decide (("~" : Str).cps.toList < (⟨#[c]⟩ : Str).cps.toList)) = true := by
  have e : (("~" : Str).cps.toList) = [126] := by decide +kernel
  rw [e, show (⟨#[c]⟩ : Str).cps.toList = [c] from rfl, decide_eq_false (one_lt h)]
  rfl
section
variable {K : PySem.W.Frag} {i : Nat} {a : Addr} {x y : Str} {ys : List V} {σ : L2.St} {H : Hp} {Q : Bool → Hp → Prop}
abbrev tV (K : PySem.W.Frag) (i : Nat) (y : Str) : TT := tTest (tOp rEq (tOp (rIxT K) (tVar i) (tC (.int 0))) (tC (.str y)))
theorem v1t (h : σ[i]? = some (some (.ref a))) (ha : H a = some (.tup (.str x :: ys))) (e : x = y) (q : Q true H) : tV K i y σ H Q := ⟨_, h, a, _, _, _, rfl, rfl, SqT.of ha, at0 _ _, rfl, _, rfl, by rw [dec_s e]; exact q⟩
theorem v1f (h : σ[i]? = some (some (.ref a))) (ha : H a = some (.tup (.str x :: ys))) (e : x ≠ y) (q : Q false H) : tV K i y σ H Q := ⟨_, h, a, _, _, _, rfl, rfl, SqT.of ha, at0 _ _, rfl, _, rfl, by rw [dec_n e]; exact q⟩
end
/-- the name that the loop holds before its i-th turn -/
def lastN (fs : List (Str × PyData × Nat)) : Nat → V
  | 0 => .non
  | j + 1 => match fs[j]? with
    | some f => .str f.1
    | none => .non
section
variable {P : Program} {w : World} {K : PySem.W.Frag} {mg : Str → Option Value} {base : Heap} {k : Nat}
theorem ok_L_is_int (B : Bi mg) (D : Df K mg "_law_is_integer" s_L_is_integer p_L_is_integer) : Has P w K mg base (k + 1) "_law_is_integer" p_L_is_integer spIsInt := by
  have nd := sc_L_is_integer.nd
  refine D.ok sc_L_is_integer (fun vs H Q E h => ?_) (fun f cdv A outer s H vs Q E hr h => ?_)
  · obtain ⟨_, rfl, _⟩ := h
    rfl
  obtain ⟨i, rfl, q⟩ := h
  refine ⟨_, pss_one (ps_ret (pe_and (pe_callB call_isi (by rfl) B.isinstance (by decide +kernel) (pa_cons (pv 0) (pa_cons (pe_bltn (v := .ty "int") (by rfl) B.int_ (by decide +kernel) rfl) pa_nil))) (pe_one (pe_not (pe_callB call_isi (by rfl) B.isinstance (by decide +kernel) (pa_cons (pv 0) (pa_cons (pe_bltn (v := .ty "bool") (by rfl) B.bool_ (by decide +kernel) rfl) pa_nil))))))), ?_⟩
  refine ⟨_, rfl, _, _, _, _, true, rfl, .ty "int", .base (.int i), kit_ty (by decide +kernel), _, rfl, if_t rfl ?_⟩
  exact ⟨_, rfl, _, _, _, _, false, rfl, .ty "bool", .base (.int i), kit_ty (by decide +kernel), _, rfl, q⟩
theorem ok_L_is_str (B : Bi mg) (D : Df K mg "_law_is_string" s_L_is_string p_L_is_string) : Has P w K mg base (k + 1) "_law_is_string" p_L_is_string spIsStr := by
  have nd := sc_L_is_string.nd
  refine D.ok sc_L_is_string (fun vs H Q E h => ?_) (fun f cdv A outer s H vs Q E hr h => ?_)
  · obtain ⟨_, rfl, _⟩ := h
    rfl
  obtain ⟨x, rfl, ok, q⟩ := h
  refine ⟨_, pss_cons (ps_if (pt_not (pt_val (pe_callB call_isi (by rfl) B.isinstance (by decide +kernel) (pa_cons (pv 0) (pa_cons (pe_bltn (v := .ty "str") (by rfl) B.str_ (by decide +kernel) rfl) pa_nil))))) (pss_one (ps_ret pe_bl)) pss_nil)
    (pss_one (ps_ret (pe_callB (cr_all rfl) (by rfl) B.all (by decide +kernel) (pa_cons (pe_lc (own := [("_law_char_here", 1)]) (g := gName 1) (tt := tYes) rfl nd (pi_str (pv 0)) (blkOk_by (N := n_L_is_string) (sc := defScope s_L_is_string) (by decide +kernel)) (fun _ _ _ _ _ => pg_name (i := 1) nd rfl (Or.inl rfl)) (fun _ _ _ _ _ => pts_nil) (fun _ _ _ _ _ => (pe_and (pe_cmpR op_le_str pe_str (pv 1) (nomark _)) (pe_and (pe_cmpR op_le_str (pv 1) pe_str (nomark _)) (pe_one (pe_cmpR op_ne (pe_callB call_ord (by rfl) B.ord (by decide +kernel) (pa_cons (pv 1) pa_nil)) pe_int (nomark _))))))) pa_nil)))), ?_⟩
  refine ⟨_, rfl, _, _, _, _, true, rfl, .ty "str", .base (.str x), kit_ty (by decide +kernel), _, rfl, if_f rfl ?_⟩
  refine ⟨_, rfl, x, rfl, lcS ok.1 (fun y => y = .bl true) (fun i c H1 hc s1 K' kk => ?_) (fun D H1 ys s1 eD hR => ?_)⟩
  · obtain ⟨c1, c2, c3⟩ := ok.2 c (by simpa using Array.mem_of_getElem? hc)
    refine ⟨_, rfl, _, _, rfl, rfl, _, rfl, if_t (le_lo c1) ?_⟩
    refine ⟨_, rfl, _, _, rfl, rfl, _, rfl, if_t (le_hi c2) ?_⟩
    refine ⟨_, rfl, _, rfl, rfl, rfl, kk _ ?_⟩
    have e : decide (V.int ((c : Nat) : Int) = V.int 37) = false := decide_eq_false fun z => by
      have z' := V.int.inj z
      omega
    show V.bl (!decide (V.int ((c : Nat) : Int) = V.int 37)) = V.bl true
    rw [e]
    rfl
  · rw [bls_of hR] at eD
    refine ⟨D, _, rfl, SqL.of eD, ?_⟩
    rw [all_rep]
    exact q H1 s1
theorem ok_L_is_val_turn (B : Bi mg) (D : Df K mg "_law_is_value" s_L_is_value p_L_is_value) {n : Nat} (hL_is_value : Has P w K mg base k "_law_is_value" p_L_is_value (spIsVal n)) (hL_is_integer : Has P w K mg base k "_law_is_integer" p_L_is_integer spIsInt) (hL_is_string : Has P w K mg base k "_law_is_string" p_L_is_string spIsStr) :
    Has P w K mg base (k + 1) "_law_is_value" p_L_is_value (spIsVal (n + 1)) := by
  have nd := sc_L_is_value.nd
  refine D.ok sc_L_is_value (fun vs H Q E h => ?_) (fun f cdv A outer s H vs Q E hr h => ?_)
  · obtain ⟨_, _, _, _, rfl, _⟩ := h
    rfl
  obtain ⟨v, d, z, dep, rfl, hv, hdep, hd, q⟩ := h
  refine ⟨_, pss_cons (ps_if (PW.pt (pw_or (pt_cmpR op_eq (pv 1) pe_int (nomark _)) (pw_or (pt_not (pt_val (pe_callB call_isi (by rfl) B.isinstance (by decide +kernel) (pa_cons (pv 0) (pa_cons (pe_bltn (v := .ty "tuple") (by rfl) B.tuple_ (by decide +kernel) rfl) pa_nil))))) (pw_or1 (pt_cmpR op_eq (pe_callB call_len (by rfl) B.len (by decide +kernel) (pa_cons (pv 0) pa_nil)) pe_int (nomark _)))))) (pss_one (ps_ret pe_bl)) pss_nil)
    (pss_cons (ps_if (pt_cmpR op_eq (pe_ix ix_tup (pv 0) pe_int (fun _ _ => rfl)) pe_str (nomark _)) (pss_one (ps_ret (pe_cmpR op_eq (pe_callB call_len (by rfl) B.len (by decide +kernel) (pa_cons (pv 0) pa_nil)) pe_int (nomark _)))) pss_nil)
    (pss_cons (ps_if (pt_cmpR op_ne (pe_callB call_len (by rfl) B.len (by decide +kernel) (pa_cons (pv 0) pa_nil)) pe_int (nomark _)) (pss_one (ps_ret pe_bl)) pss_nil)
    (pss_cons (ps_if (pt_cmpR op_eq (pe_ix ix_tup (pv 0) pe_int (fun _ _ => rfl)) pe_str (nomark _)) (pss_one (ps_ret (pe_callB call_isi (by rfl) B.isinstance (by decide +kernel) (pa_cons (pe_ix ix_tup (pv 0) pe_int (fun _ _ => rfl)) (pa_cons (pe_bltn (v := .ty "bool") (by rfl) B.bool_ (by decide +kernel) rfl) pa_nil))))) pss_nil)
    (pss_cons (ps_if (pt_cmpR op_eq (pe_ix ix_tup (pv 0) pe_int (fun _ _ => rfl)) pe_str (nomark _)) (pss_one (ps_ret (pe_has hL_is_integer hr (by rfl) (pa_cons (pe_ix ix_tup (pv 0) pe_int (fun _ _ => rfl)) pa_nil)))) pss_nil)
    (pss_cons (ps_if (pt_cmpR op_eq (pe_ix ix_tup (pv 0) pe_int (fun _ _ => rfl)) pe_str (nomark _)) (pss_one (ps_ret (pe_has hL_is_string hr (by rfl) (pa_cons (pe_ix ix_tup (pv 0) pe_int (fun _ _ => rfl)) pa_nil)))) pss_nil)
    (pss_cons (ps_if (pt_cmpR op_eq (pe_ix ix_tup (pv 0) pe_int (fun _ _ => rfl)) pe_str (nomark _)) (pss_one (ps_ret (pe_and (pe_callB call_isi (by rfl) B.isinstance (by decide +kernel) (pa_cons (pe_ix ix_tup (pv 0) pe_int (fun _ _ => rfl)) (pa_cons (pe_bltn (v := .ty "tuple") (by rfl) B.tuple_ (by decide +kernel) rfl) pa_nil))) (pe_one (pe_callB (cr_all rfl) (by rfl) B.all (by decide +kernel) (pa_cons (pe_lc (own := [("_law_item", 4)]) (g := gName 4) (tt := tYes) rfl nd (pi_tup (pe_ix ix_tup (pv 0) pe_int (fun _ _ => rfl))) (blkOk_by (N := n_L_is_value) (sc := defScope s_L_is_value) (by decide +kernel)) (fun _ _ _ _ _ => pg_name (i := 4) nd rfl (Or.inl rfl)) (fun _ _ _ _ _ => pts_nil) (fun _ _ _ _ _ => (pe_has hL_is_value hr (by rfl) (pa_cons (pv 4) (pa_cons (pe_op op_sub (pv 1) pe_int) pa_nil))))) pa_nil)))))) pss_nil)
    (pss_cons (ps_if (PW.pt (pw_or (pt_cmpR op_ne (pe_ix ix_tup (pv 0) pe_int (fun _ _ => rfl)) pe_str (nomark _)) (pw_or1 (pt_not (pt_val (pe_callB call_isi (by rfl) B.isinstance (by decide +kernel) (pa_cons (pe_ix ix_tup (pv 0) pe_int (fun _ _ => rfl)) (pa_cons (pe_bltn (v := .ty "tuple") (by rfl) B.tuple_ (by decide +kernel) rfl) pa_nil)))))))) (pss_one (ps_ret pe_bl)) pss_nil)
    (pss_cons (ps_set (i := 2) nd rfl (by first | exact Or.inl rfl | exact Or.inr rfl) pe_non)
    (pss_cons (ps_for PassesOwn.never rfl (pi_tup (pe_ix ix_tup (pv 0) pe_int (fun _ _ => rfl))) (pg_name (i := 3) nd rfl (by first | exact Or.inl rfl | exact Or.inr rfl))
      (pss_cons (ps_if (PW.pt (pw_or (pt_not (pt_val (pe_callB call_isi (by rfl) B.isinstance (by decide +kernel) (pa_cons (pv 3) (pa_cons (pe_bltn (v := .ty "tuple") (by rfl) B.tuple_ (by decide +kernel) rfl) pa_nil))))) (pw_or (pt_cmpR op_ne (pe_callB call_len (by rfl) B.len (by decide +kernel) (pa_cons (pv 3) pa_nil)) pe_int (nomark _)) (pw_or1 (pt_not (pt_val (pe_has hL_is_string hr (by rfl) (pa_cons (pe_ix ix_tup (pv 3) pe_int (fun _ _ => rfl)) pa_nil)))))))) (pss_one (ps_ret pe_bl)) pss_nil)
      (pss_cons (ps_if (PW.pt (pw_and (pt_cmpR op_notN (pv 2) pe_non (nomark _)) (pw_and1 (pt_cmpR op_ge_str (pv 2) (pe_ix ix_tup (pv 3) pe_int (fun _ _ => rfl)) (nomark _))))) (pss_one (ps_ret pe_bl)) pss_nil)
      (pss_cons (ps_set (i := 2) nd rfl (by first | exact Or.inl rfl | exact Or.inr rfl) (pe_ix ix_tup (pv 3) pe_int (fun _ _ => rfl)))
      (pss_one (ps_if (pt_not (pt_val (pe_has hL_is_value hr (by rfl) (pa_cons (pe_ix ix_tup (pv 3) pe_int (fun _ _ => rfl)) (pa_cons (pe_op op_sub (pv 1) pe_int) pa_nil))))) (pss_one (ps_ret pe_bl)) pss_nil))))))
    (pss_one (ps_ret pe_bl))))))))))), ?_⟩
  have e0 : decide (V.int dep = V.int 0) = false := decide_eq_false fun z => by
    have z' := V.int.inj z
    omega
  cases hv with
  | null =>
    obtain ⟨a, x, rfl, ha, h1⟩ := hd.i_tup1
    cases h1
    refine ⟨_, rfl, rfl, _, rfl, if_f e0 ⟨_, rfl, _, _, _, _, true, rfl, .ty "tuple", .base (.tup ha), kit_ty (by decide +kernel), ⟨_, rfl, if_f rfl ⟨_, rfl, _, _, rfl, .inr ⟨_, SqT.of ha, rfl⟩, rfl, _, rfl, if_f (decide_eq_false (fun z => by cases V.int.inj z)) ?_⟩⟩⟩⟩
    refine v1t rfl ha rfl (if_t rfl ?_)
    refine ⟨_, rfl, _, _, rfl, .inr ⟨_, SqT.of ha, rfl⟩, rfl, ?_⟩
    exact q H (Same.refl H)
  | bool b =>
    obtain ⟨a, x, y, rfl, ha, h1, h2⟩ := hd.i_tup2
    cases h1
    cases h2
    refine ⟨_, rfl, rfl, _, rfl, if_f e0 ⟨_, rfl, _, _, _, _, true, rfl, .ty "tuple", .base (.tup ha), kit_ty (by decide +kernel), ⟨_, rfl, if_f rfl ⟨_, rfl, _, _, rfl, .inr ⟨_, SqT.of ha, rfl⟩, rfl, _, rfl, if_f (decide_eq_false (fun z => by cases V.int.inj z)) ?_⟩⟩⟩⟩
    refine v1f rfl ha (by decide +kernel) (if_f rfl ?_)
    refine ⟨_, rfl, _, _, rfl, .inr ⟨_, SqT.of ha, rfl⟩, rfl, _, rfl, if_f rfl ?_⟩
    refine v1t rfl ha rfl (if_t rfl ?_)
    exact ⟨_, rfl, a, _, _, _, rfl, rfl, SqT.of ha, rfl, _, _, _, _, true, rfl, .ty "bool", .base (.bl b), kit_ty (by decide +kernel), q H (Same.refl H)⟩
  | int i =>
    obtain ⟨a, x, y, rfl, ha, h1, h2⟩ := hd.i_tup2
    cases h1
    cases h2
    refine ⟨_, rfl, rfl, _, rfl, if_f e0 ⟨_, rfl, _, _, _, _, true, rfl, .ty "tuple", .base (.tup ha), kit_ty (by decide +kernel), ⟨_, rfl, if_f rfl ⟨_, rfl, _, _, rfl, .inr ⟨_, SqT.of ha, rfl⟩, rfl, _, rfl, if_f (decide_eq_false (fun z => by cases V.int.inj z)) ?_⟩⟩⟩⟩
    refine v1f rfl ha (by decide +kernel) (if_f rfl ?_)
    refine ⟨_, rfl, _, _, rfl, .inr ⟨_, SqT.of ha, rfl⟩, rfl, _, rfl, if_f rfl ?_⟩
    refine v1f rfl ha (by decide +kernel) (if_f rfl ?_)
    refine v1t rfl ha rfl (if_t rfl ?_)
    exact ⟨_, rfl, a, _, _, _, rfl, rfl, SqT.of ha, rfl, i, rfl, q H (Same.refl H)⟩
  | text x hx =>
    obtain ⟨a, x0, y, rfl, ha, h1, h2⟩ := hd.i_tup2
    cases h1
    cases h2
    refine ⟨_, rfl, rfl, _, rfl, if_f e0 ⟨_, rfl, _, _, _, _, true, rfl, .ty "tuple", .base (.tup ha), kit_ty (by decide +kernel), ⟨_, rfl, if_f rfl ⟨_, rfl, _, _, rfl, .inr ⟨_, SqT.of ha, rfl⟩, rfl, _, rfl, if_f (decide_eq_false (fun z => by cases V.int.inj z)) ?_⟩⟩⟩⟩
    refine v1f rfl ha (by decide +kernel) (if_f rfl ?_)
    refine ⟨_, rfl, _, _, rfl, .inr ⟨_, SqT.of ha, rfl⟩, rfl, _, rfl, if_f rfl ?_⟩
    refine v1f rfl ha (by decide +kernel) (if_f rfl ?_)
    refine v1f rfl ha (by decide +kernel) (if_f rfl ?_)
    refine v1t rfl ha rfl (if_t rfl ?_)
    exact ⟨_, rfl, a, _, _, _, rfl, rfl, SqT.of ha, rfl, x, rfl, hx, q⟩
  | list xs hl hx =>
    obtain ⟨a, x0, y, rfl, ha, h1, h2⟩ := hd.i_tup2
    cases h1
    obtain ⟨b, ys, rfl, hb, h3⟩ := h2.i_tup
    have hyl : ys.length = xs.length := by rw [h3.len, List.length_map]
    refine ⟨_, rfl, rfl, _, rfl, if_f e0 ⟨_, rfl, _, _, _, _, true, rfl, .ty "tuple", .base (.tup ha), kit_ty (by decide +kernel), ⟨_, rfl, if_f rfl ⟨_, rfl, _, _, rfl, .inr ⟨_, SqT.of ha, rfl⟩, rfl, _, rfl, if_f (decide_eq_false (fun z => by cases V.int.inj z)) ?_⟩⟩⟩⟩
    refine v1f rfl ha (by decide +kernel) (if_f rfl ?_)
    refine ⟨_, rfl, _, _, rfl, .inr ⟨_, SqT.of ha, rfl⟩, rfl, _, rfl, if_f rfl ?_⟩
    refine v1f rfl ha (by decide +kernel) (if_f rfl ?_)
    refine v1f rfl ha (by decide +kernel) (if_f rfl ?_)
    refine v1f rfl ha (by decide +kernel) (if_f rfl ?_)
    refine v1t rfl ha rfl (if_t rfl ?_)
    refine ⟨_, rfl, a, _, _, _, rfl, rfl, SqT.of ha, rfl, _, _, _, _, true, rfl, .ty "tuple", .base (.tup hb), kit_ty (by decide +kernel), ⟨_, rfl, if_t rfl ?_⟩⟩
    refine ⟨_, rfl, a, _, _, _, rfl, rfl, SqT.of ha, rfl, b, rfl, ⟨_, SqT.of hb⟩, lcT hb (by omega) (fun i y H' => y = .bl true) (fun i y H H' t z => z) (fun i x H1 hi s1 K' kk => ?_) (fun D H1 zs s1 eD hz hR => ?_)⟩
    · obtain ⟨e, he, te⟩ := h3.atM hi
      refine ⟨_, rfl, _, rfl, _, _, rfl, rfl, x, e.1, e.2, _, rfl, hx e (List.mem_of_getElem? he), by omega, te.sm s1, fun H' s => kk _ H' s rfl⟩
    · rw [bls_of hR] at eD
      refine ⟨D, _, rfl, SqL.of eD, ?_⟩
      rw [all_rep]
      exact q H1 s1
  | object fs hl hp ho hx =>
    obtain ⟨a, x0, y, rfl, ha, h1, h2⟩ := hd.i_tup2
    cases h1
    obtain ⟨b, ys, rfl, hb, h3⟩ := h2.i_tup
    have hyl : ys.length = fs.length := by rw [h3.len, List.length_map]
    refine ⟨_, rfl, rfl, _, rfl, if_f e0 ⟨_, rfl, _, _, _, _, true, rfl, .ty "tuple", .base (.tup ha), kit_ty (by decide +kernel), ⟨_, rfl, if_f rfl ⟨_, rfl, _, _, rfl, .inr ⟨_, SqT.of ha, rfl⟩, rfl, _, rfl, if_f (decide_eq_false (fun z => by cases V.int.inj z)) ?_⟩⟩⟩⟩
    refine v1f rfl ha (by decide +kernel) (if_f rfl ?_)
    refine ⟨_, rfl, _, _, rfl, .inr ⟨_, SqT.of ha, rfl⟩, rfl, _, rfl, if_f rfl ?_⟩
    refine v1f rfl ha (by decide +kernel) (if_f rfl ?_)
    refine v1f rfl ha (by decide +kernel) (if_f rfl ?_)
    refine v1f rfl ha (by decide +kernel) (if_f rfl ?_)
    refine v1f rfl ha (by decide +kernel) (if_f rfl ?_)
    refine ⟨_, rfl, a, _, _, _, rfl, rfl, SqT.of ha, rfl, rfl, _, rfl, if_f (by decide +kernel) ⟨_, rfl, a, _, _, _, rfl, rfl, SqT.of ha, rfl, _, _, _, _, true, rfl, .ty "tuple", .base (.tup hb), kit_ty (by decide +kernel), ⟨_, rfl, if_f rfl ?_⟩⟩⟩
    refine ⟨_, rfl, a, _, _, _, rfl, rfl, SqT.of ha, rfl, b, rfl, ⟨_, SqT.of hb⟩, ?_⟩
    refine for_tup (K := K) (a := b) (xs := ys) (fun i σ H' => ∃ x3, σ = [some (.ref a), some (.int dep), some (lastN fs i), x3, none] ∧ Same H H') ⟨none, rfl, Same.refl H⟩ (fun i σ H' _ ⟨_, _, s1⟩ => SqT.of (s1 _ _ hb))
      (fun i x σ H1 hi ⟨x3, eσ, s1⟩ => ?_) (fun σ H1 ⟨x3, eσ, s1⟩ => ?_)
    · subst eσ
      obtain ⟨f, hf, tf⟩ := h3.atM hi
      have mf := List.mem_of_getElem? hf
      obtain ⟨c, c1, c2, rfl, hc, g1, g2⟩ := tf.i_tup2
      cases g1
      have hc := s1 _ _ hc
      refine ⟨_, rfl, _, _, _, _, true, rfl, .ty "tuple", .base (.tup hc), kit_ty (by decide +kernel), ⟨_, rfl, if_f rfl ⟨_, rfl, _, _, rfl, .inr ⟨_, SqT.of hc, rfl⟩, rfl, _, rfl, if_f rfl ⟨_, rfl, c, _, _, _, rfl, rfl, SqT.of hc, rfl, f.1, rfl, ho f mf, fun H2 s2 => ⟨_, rfl, if_f rfl ?_⟩⟩⟩⟩⟩
      have hc := s2 _ _ hc
      have nxt : tSeq (tAsg (tOp (rIxT K) (tVar 3) (tC (.int 0))) (gName 2)) (tIfS (tNot (tB (tCall (spIsVal n) [] E0 (tCons (tOp (rIxT K) (tVar 3) (tC (.int 1))) (tCons (tOp (rI0 fun i j => .int (i - j)) (tVar 1) (tC (.int 1))) tNil))))) (tRet (tC (.bl false))) tNext)
          { nx := fun σ H' => ∃ x3, σ = [some (.ref a), some (.int dep), some (lastN fs (i + 1)), x3, none] ∧ Same H H', rt := Q, ct := fun σ H' => ∃ x3, σ = [some (.ref a), some (.int dep), some (lastN fs (i + 1)), x3, none] ∧ Same H H', bk := tRet (tC (.bl true)) { nx := fun _ H' => Q .non H', rt := Q } } [some (.ref a), some (.int dep), some (lastN fs i), some (.ref c), none] H2 := by
        refine ⟨_, rfl, c, _, _, _, rfl, rfl, SqT.of hc, rfl, ?_⟩
        refine ⟨_, rfl, c, _, _, _, rfl, rfl, SqT.of hc, rfl, _, rfl, _, _, rfl, rfl, c2, f.2.1, f.2.2, _, rfl, hx f mf, by omega, g2.sm (s1.trans s2), fun H3 s3 => ⟨_, rfl, if_f rfl ⟨some (.ref c), ?_, s1.trans (s2.trans s3)⟩⟩⟩
        have el : lastN fs (i + 1) = .str f.1 := by
          show (match fs[i]? with | some f => V.str f.1 | none => V.non) = .str f.1
          rw [hf]
        rw [el]
        rfl
      cases i with
      | zero => exact ⟨_, rfl, rfl, _, rfl, if_f rfl (if_f rfl nxt)⟩
      | succ j =>
        have hj : j < fs.length := by
          have := (List.getElem?_eq_some_iff.mp hf).1
          omega
        have el : lastN fs (j + 1) = .str (fs[j]).1 := by
          show (match fs[j]? with | some f => V.str f.1 | none => V.non) = _
          rw [List.getElem?_eq_getElem hj]
        have hlt : ltS (fs[j]).1 f.1 := by
          have hq := List.pairwise_iff_getElem.mp hp j (j + 1) (by rw [List.length_map]; exact hj) (by rw [List.length_map]; exact (List.getElem?_eq_some_iff.mp hf).1) (Nat.lt_succ_self j)
          rw [List.getElem_map, List.getElem_map] at hq
          rw [(List.getElem?_eq_some_iff.mp hf).2] at hq
          exact hq
        rw [el] at nxt ⊢
        refine ⟨_, rfl, rfl, _, rfl, if_t rfl ⟨_, rfl, _, rfl, c, _, _, _, rfl, rfl, SqT.of hc, rfl, _, _, rfl, rfl, _, rfl, if_f ?_ nxt⟩⟩
        rw [decide_eq_true (show (fs[j]).1.cps.toList < f.1.cps.toList from hlt)]
        rfl
    · exact q H1 s1
theorem ok_L_is_val (B : Bi mg) (D : Df K mg "_law_is_value" s_L_is_value p_L_is_value) (hi : Has P w K mg base 1 "_law_is_integer" p_L_is_integer spIsInt) (hs : Has P w K mg base 1 "_law_is_string" p_L_is_string spIsStr) : ∀ n : Nat, Has P w K mg base (n + 1) "_law_is_value" p_L_is_value (spIsVal n)
  | 0 => has_void D fun vs H Q E ⟨_, _, _, _, _, h, _⟩ => nomatch h
  | n + 1 => ok_L_is_val_turn (k := n + 1) B D (ok_L_is_val B D hi hs n) (hi.mono (by omega)) (hs.mono (by omega))
end
end Pk

/-! ### Pk, part I: the law's draws -/
namespace Pk
open PySem PySem.Spec PyProof.Rows L2
abbrev s_L_with : Stmt := top 30
abbrev n_L_with : List Str := ["_law_value", "_law_token", "_law_new", "_law_smaller", "_law_greater", "_law_field"]
abbrev p_L_with : List Str := ["_law_value", "_law_token", "_law_new"]
theorem sc_L_with : FnScope n_L_with p_L_with (defScope s_L_with) := ⟨rfl, rfl, rfl, by decide +kernel, rfl, by decide +kernel, by decide +kernel⟩
abbrev s_L_cell : Stmt := top 34
abbrev n_L_cell : List Str := ["_law_script", "_law_k"]
abbrev p_L_cell : List Str := ["_law_script", "_law_k"]
theorem sc_L_cell : FnScope n_L_cell p_L_cell (defScope s_L_cell) := ⟨rfl, rfl, rfl, by decide +kernel, rfl, by decide +kernel, by decide +kernel⟩
abbrev s_L_source : Stmt := top 35
abbrev n_L_source : List Str := ["_law_cell_here"]
abbrev p_L_source : List Str := ["_law_cell_here"]
theorem sc_L_source : FnScope n_L_source p_L_source (defScope s_L_source) := ⟨rfl, rfl, rfl, by decide +kernel, rfl, by decide +kernel, by decide +kernel⟩
abbrev s_L_draw : Stmt := top 36
abbrev n_L_draw : List Str := ["_law_source_here", "_law_many", "_law_mixed", "_law_digit"]
abbrev p_L_draw : List Str := ["_law_source_here", "_law_many"]
theorem sc_L_draw : FnScope n_L_draw p_L_draw (defScope s_L_draw) := ⟨rfl, rfl, rfl, by decide +kernel, rfl, by decide +kernel, by decide +kernel⟩
abbrev s_L_char : Stmt := top 37
abbrev n_L_char : List Str := ["_law_source_here", "_law_chars"]
abbrev p_L_char : List Str := ["_law_source_here"]
theorem sc_L_char : FnScope n_L_char p_L_char (defScope s_L_char) := ⟨rfl, rfl, rfl, by decide +kernel, rfl, by decide +kernel, by decide +kernel⟩
abbrev s_L_name : Stmt := top 38
abbrev n_L_name : List Str := ["_law_source_here", "_law_k", "_law_j"]
abbrev p_L_name : List Str := ["_law_source_here"]
theorem sc_L_name : FnScope n_L_name p_L_name (defScope s_L_name) := ⟨rfl, rfl, rfl, by decide +kernel, rfl, by decide +kernel, by decide +kernel⟩
abbrev s_L_number : Stmt := top 39
abbrev n_L_number : List Str := ["_law_source_here", "_law_k"]
abbrev p_L_number : List Str := ["_law_source_here"]
theorem sc_L_number : FnScope n_L_number p_L_number (defScope s_L_number) := ⟨rfl, rfl, rfl, by decide +kernel, rfl, by decide +kernel, by decide +kernel⟩
abbrev s_L_leaf : Stmt := top 40
abbrev n_L_leaf : List Str := ["_law_source_here", "_law_k"]
abbrev p_L_leaf : List Str := ["_law_source_here"]
theorem sc_L_leaf : FnScope n_L_leaf p_L_leaf (defScope s_L_leaf) := ⟨rfl, rfl, rfl, by decide +kernel, rfl, by decide +kernel, by decide +kernel⟩
abbrev s_L_object : Stmt := top 41
abbrev n_L_object : List Str := ["_law_pairs", "_law_made", "_law_pair"]
abbrev p_L_object : List Str := ["_law_pairs"]
theorem sc_L_object : FnScope n_L_object p_L_object (defScope s_L_object) := ⟨rfl, rfl, rfl, by decide +kernel, rfl, by decide +kernel, by decide +kernel⟩
abbrev s_L_small : Stmt := top 42
abbrev n_L_small : List Str := ["_law_source_here", "_law_k", "_law_j"]
abbrev p_L_small : List Str := ["_law_source_here"]
theorem sc_L_small : FnScope n_L_small p_L_small (defScope s_L_small) := ⟨rfl, rfl, rfl, by decide +kernel, rfl, by decide +kernel, by decide +kernel⟩
abbrev s_L_bounds : Stmt := top 43
abbrev n_L_bounds : List Str := ["_law_source_here", "_law_least", "_law_low", "_law_high"]
abbrev p_L_bounds : List Str := ["_law_source_here", "_law_least"]
theorem sc_L_bounds : FnScope n_L_bounds p_L_bounds (defScope s_L_bounds) := ⟨rfl, rfl, rfl, by decide +kernel, rfl, by decide +kernel, by decide +kernel⟩
/-! a text times a small number -/
def repS (z : Str) (n : Int) : Str := if n < 1 then Str.empty else if (n == 1 || z.length == 0) = true then z else ⟨(List.replicate n.toNat z.cps).foldl (· ++ ·) #[]⟩
theorem op_mul_str {X : Cx} : OpR X (binaryOp .Mult) (fun x y H Q => ∃ z n, x = .str z ∧ y = .int n ∧ 0 ≤ n ∧ n ≤ 1000 ∧ z.length ≤ 1000 ∧ (repS z n).length ≤ sizeLine ∧ Q (.str (repS z n)) H) := by
  intro pins s σ H x y v u Q I rx ry h
  obtain ⟨z, n, rfl, rfl, h0, h1, h2, h3, q⟩ := h
  obtain ⟨t, rfl⟩ := rx
  obtain ⟨t', rfl⟩ := ry
  refine PySem.P.mul_str ?_ (fun a b => ?_) (fun a b => ?_) ?_
  · rw [decide_eq_false (by omega), decide_eq_false (by omega)]
    rfl
  · have k1 : (1000 : Int) ≤ (2 ^ 63 - 1) / n := Int.le_ediv_of_mul_le (by omega) (by omega)
    omega
  · unfold Builtin.Str.tooLong
    refine decide_eq_false (Nat.not_lt.mpr ?_)
    have k1 : z.length * n.toNat ≤ 1000 * 1000 := Nat.mul_le_mul h2 (by omega)
    exact Nat.le_trans k1 (by decide)
  · unfold repS at q h3
    by_cases c : n < 1
    · rw [if_pos c] at q h3 ⊢
      exact ⟨h3, .str _, H, I.tok _, ⟨_, rfl⟩, q⟩
    · rw [if_neg c] at q h3 ⊢
      by_cases c2 : (n == 1 || z.length == 0) = true
      · rw [if_pos c2] at q ⊢
        exact ⟨.str _, H, I, ⟨_, rfl⟩, q⟩
      · rw [if_neg c2] at q h3 ⊢
        exact ⟨h3, .str _, H, I.tok _, ⟨_, rfl⟩, q⟩
/-! texts -/
def okC (c : Nat) : Prop := 32 ≤ c ∧ c ≤ 126 ∧ c ≠ 37
instance (c : Nat) : Decidable (okC c) := by unfold okC; infer_instance
def okL (n : Nat) (s : Str) : Prop := s.length ≤ n ∧ ∀ c ∈ s.cps.toList, okC c
instance (n : Nat) (s : Str) : Decidable (okL n s) := by unfold okL; infer_instance
theorem okL.ok {n : Nat} {s : Str} (h : okL n s) (l : n ≤ 1000) : okS s := ⟨Nat.le_trans h.1 l, h.2⟩
theorem okL.app {n m : Nat} {s t : Str} (h : okL n s) (k : okL m t) : okL (n + m) (s ++ t) := by
  refine ⟨?_, fun c hc => ?_⟩
  · rw [Str.length_append]
    exact Nat.add_le_add h.1 k.1
  · rw [show (s ++ t).cps = s.cps ++ t.cps from rfl, Array.toList_append] at hc
    rcases List.mem_append.mp hc with hc | hc
    · exact h.2 c hc
    · exact k.2 c hc
theorem okL_one {c : Nat} (h : okC c) : okL 1 ⟨#[c]⟩ := ⟨Nat.le_refl 1, fun d hd => by
  have e : d = c := by simpa using hd
  rw [e]; exact h⟩
theorem okL_join : ∀ ys : List Str, (∀ y ∈ ys, okL 1 y) → okL ys.length (Str.join ("" : Str) ys)
  | [], _ => ⟨Nat.le_refl 0, fun c hc => by simp [Str.join, Str.empty] at hc⟩
  | [y], h => h y List.mem_cons_self
  | x :: y :: r, h => by
    have e0 : okL 0 ("" : Str) := by decide +kernel
    have ih := okL_join (y :: r) fun z hz => h z (List.mem_cons_of_mem _ hz)
    have q := ((h x List.mem_cons_self).app e0).app ih
    show okL (r.length + 1 + 1) (x ++ ("" : Str) ++ Str.join ("" : Str) (y :: r))
    rw [show r.length + 1 + 1 = 1 + 0 + (y :: r).length by rw [List.length_cons]; omega]
    exact q
theorem atI_in {α : Type} {xs : List α} {i : Int} (h0 : 0 ≤ i) (h1 : i < (xs.length : Int)) : ∃ v, atI xs i = some v ∧ v ∈ xs := by
  have hk : i.toNat < xs.length := by omega
  have e : i = ((i.toNat : Nat) : Int) := by omega
  have q : atI xs ((i.toNat : Nat) : Int) = some xs[i.toNat] := atI_nat (List.getElem?_eq_getElem hk)
  rw [← e] at q
  exact ⟨_, q, List.getElem_mem hk⟩
/-! the source of the draws -/
def Src (H : Hp) (a : Addr) : Prop := ∃ x f c : Int, H a = some (.lst [.int x, .int f, .int c])
abbrev At (a : Addr) : Addr → Prop := fun b => b = a
theorem kp_upd {H : Hp} {a : Addr} {o : HO} : Kp (At a) H (upd H a o) := fun b u nb q => by rw [upd_ne nb]; exact q
theorem Src.tu {H H' : Hp} {a : Addr} (h : Src H a) (k : Kp (At a) H H') : Tu H H' := fun b xs q => k b _ (fun e => by
  obtain ⟨x, f, c, ha⟩ := h
  rw [show b = a from e, ha] at q
  cases q) q
theorem Src.sm {H H' : Hp} {a : Addr} (h : Src H a) (k : Same H H') : Src H' a := by
  obtain ⟨x, f, c, ha⟩ := h
  exact ⟨x, f, c, k _ _ ha⟩
theorem Src.some {H : Hp} {a : Addr} (h : Src H a) : ∀ b, At a b → H b ≠ none := fun b e z => by
  obtain ⟨x, f, c, ha⟩ := h
  rw [show b = a from e, ha] at z
  cases z
theorem Src.eq {H H' : Hp} {a : Addr} (h : Src H a) (e : ∀ b, At a b → H' b = H b) : Src H' a := by
  obtain ⟨x, f, c, ha⟩ := h
  exact ⟨x, f, c, by rw [e a rfl]; exact ha⟩
def spDraw : Sp := fun vs H Q _ => ∃ (a : Addr) (m : Int), vs = [.ref a, .int m] ∧ Src H a ∧ 0 < m ∧ m ≤ 100000000000000000000 ∧ ∀ (i : Int) (H' : Hp), 0 ≤ i → i < m → Kp (At a) H H' → Src H' a → Q (.int i) H'
def spChar : Sp := fun vs H Q _ => ∃ a : Addr, vs = [.ref a] ∧ Src H a ∧ ∀ (c : Nat) (H' : Hp), okC c → Kp (At a) H H' → Src H' a → Q (.str ⟨#[c]⟩) H'
def spName : Sp := fun vs H Q _ => ∃ a : Addr, vs = [.ref a] ∧ Src H a ∧ ∀ (x : Str) (H' : Hp), okS x → Kp (At a) H H' → Src H' a → Q (.str x) H'
def spNumber : Sp := fun vs H Q _ => ∃ a : Addr, vs = [.ref a] ∧ Src H a ∧ ∀ (i : Int) (H' : Hp), Kp (At a) H H' → Src H' a → Q (.int i) H'
def spLeaf : Sp := fun vs H Q _ => ∃ a : Addr, vs = [.ref a] ∧ Src H a ∧ ∀ (v : V) (d : PyData) (H' : Hp), Kp (At a) H H' → Src H' a → IsV 1 d 1 → TD H' v d → Q v H'
def spSmall : Sp := fun vs H Q _ => ∃ a : Addr, vs = [.ref a] ∧ Src H a ∧ ∀ (v : V) (d : PyData) (z : Nat) (H' : Hp), Kp (At a) H H' → Src H' a → IsV 2 d z → z ≤ 3 → TD H' v d → Q v H'
def spBounds : Sp := fun vs H Q _ => ∃ (a : Addr) (m : Int), vs = [.ref a, .int m] ∧ Src H a ∧ ∀ (p : Addr) (lo : Int) (hi : Option Int) (H' : Hp), Kp (At a) H H' → Src H' a → m ≤ lo → lo ≤ m + 3 → (∀ h, hi = Option.some h → m ≤ h ∧ h ≤ m + 6) → H' p = Option.some (.tup [.int lo, bndV hi]) → Q (.ref p) H'
def spCell (K : PySem.W.Frag) : Sp := fun vs H Q _ => ∃ (a : Addr) (ns : List Int) (k : Int), vs = [.ref a, .int k] ∧ SqL K H a (ns.map V.int) ∧ 0 ≤ k ∧ ∀ i : Int, Q (.int i) H
def spSource : Sp := fun vs H Q _ => ∃ i : Int, vs = [.int i] ∧ ∀ (a : Addr) (H' : Hp), Same H H' → H a = none → Src H' a → Q (.ref a) H'
abbrev insF (fs : List (Str × PyData × Nat)) (t : Str) (e : PyData × Nat) : List (Str × PyData × Nat) :=
  fs.filter (fun f => decide (f.1.cps.toList < t.cps.toList)) ++ (t, e) :: fs.filter (fun f => decide (t.cps.toList < f.1.cps.toList))
def spWith : Sp := fun vs H Q _ => ∃ (v : V) (fs : List (Str × PyData × Nat)) (t : Str) (x : V) (e : PyData × Nat), vs = [v, .str t, x] ∧ fs.length ≤ 100 ∧ TD H v (objD fs) ∧ TD H x e.1 ∧ ∀ r H', Same H H' → TD H' r (objD (insF fs t e)) → Q r H'
def spObj : Sp := fun vs H Q _ => ∃ (l : Addr) (ps : List (Str × PyData)) (ys : List V), vs = [.ref l] ∧ H l = some (.lst ys) ∧ TDs H ys (ps.map fun p => .tuple [.str p.1, p.2]) ∧ ps.length ≤ 3 ∧ (∀ p ∈ ps, okS p.1 ∧ IsV 1 p.2 1) ∧
  ∀ (v : V) (d : PyData) (z : Nat) (H' : Hp), Same H H' → IsV 2 d z → z ≤ 1 + ps.length → TD H' v d → Q v H'
/-! a filter -/
theorem lcF {α : Type} {K : PySem.W.Frag} {a : Addr} {xs : List V} {j : Nat} {tt : TT} {te : TE} {σ : L2.St} {H1 : Hp} {Qd : Addr → Hp → Prop} {L : List α} {g : α → PyData} (P : α → Bool) (hT : H1 a = some (.tup xs)) (hd : TDs H1 xs (L.map g)) (hlen : xs.length ≤ 1000)
    (test : ∀ (i : Nat) x e H (Kt : Bool → Hp → Prop), xs[i]? = some x → L[i]? = some e → Same H1 H → Kt (P e) H → tt ((wipe σ [j]).set j (some x)) H Kt)
    (el : ∀ (x : V) (H : Hp) (K' : VK), K' x H → te ((wipe σ [j]).set j (some x)) H K')
    (done : ∀ D H ys, Same H1 H → H D = some (.lst ys) → TDs H ys ((L.filter P).map g) → Qd D H) :
    ∀ D, H1 D = none → ∃ W : Nat → Nat → Hp → Prop, (∃ m, W 0 m (upd H1 D (.lst []))) ∧ ∀ i m H, W i m H →
      ((Itt K a).stop i H ∧ Qd D H) ∨ ((Itt K a).go i H ∧ ∃ Nx : Hp → Prop, (∀ H', Nx H' → ∃ m', m' < m ∧ W (i + 1) m' H') ∧ ∀ x H', (Itt K a).yld i H x H' → gName j x (wipe σ [j]) H' fun σ2 H2 => wipe σ2 [j] = wipe σ [j] ∧ tt σ2 H2 fun b H3 =>
        if b = true then te σ2 H3 fun y H4 => ∃ acc, H4 D = some (.lst acc) ∧ acc.length < sizeLine ∧ Nx (upd H4 D (.lst (acc ++ [y]))) else Nx H3) := by
  intro D hD
  have hLl : xs.length = L.length := by rw [hd.len, List.length_map]
  refine lc_tup (xs := xs) (fun i H => ∃ ys, H D = some (.lst ys) ∧ Same H1 H ∧ TDs H ys (((L.take i).filter P).map g)) ⟨[], upd_same, same_new hD _, .nil⟩
    (fun i H _ ⟨_, _, s, _⟩ => SqT.of (s _ _ hT)) (fun i x H hx ⟨ys, eD, s, tz⟩ => ?_) (fun H ⟨ys, eD, s, tz⟩ => done D H ys s eD (by rw [hLl, List.take_length] at tz; exact tz))
  refine ⟨wipe_one σ j _, ?_⟩
  obtain ⟨e, he, te'⟩ := hd.atM hx
  have hi : i < xs.length := (List.getElem?_eq_some_iff.mp hx).1
  have tk : L.take (i + 1) = L.take i ++ [e] := by rw [List.take_add_one, he]; rfl
  refine test i x e H _ hx he s ?_
  by_cases c : P e = true
  · refine if_t c (el x H _ ?_)
    have hys : ys.length ≤ 1000 := by
      rw [tz.len, List.length_map]
      refine Nat.le_trans (List.length_filter_le _ _) ?_
      rw [List.length_take]
      omega
    refine ⟨ys, eD, small1000 hys, ys ++ [x], upd_same, fun b o q => ?_, ?_⟩
    · rw [upd_ne (ne_of_none q hD)]; exact s _ _ q
    · have t4 : Tu H (upd H D (.lst (ys ++ [x]))) := tu_lst eD
      rw [tk, List.filter_append, List.map_append]
      refine TDs.app (tz.tu t4) ?_
      rw [List.filter_cons, if_pos c]
      exact tds1 ((te'.sm s).tu t4)
  · refine if_f (by simpa using c) ⟨ys, eD, s, ?_⟩
    rw [tk, List.filter_append, List.filter_cons, if_neg c]
    simpa using tz
theorem catA_td {K : PySem.W.Frag} {H : Hp} {a b : Addr} {xs ys : List V} {ds es : List PyData} {Q : VK} (ha : H a = some (.tup xs)) (hb : H b = some (.tup ys)) (da : TDs H xs ds) (db : TDs H ys es) (hl : xs.length + ys.length ≤ 1000)
    (q : ∀ r zs H', Same H H' → H' r = some (.tup zs) → TDs H' zs (ds ++ es) → zs.length = xs.length + ys.length → Q (.ref r) H') : rCatA K (.ref a) (.ref b) H Q := by
  refine ⟨a, b, xs, ys, rfl, rfl, SqT.of ha, SqT.of hb, line _ hl, fun z => ?_, fun _ z => ?_, fun _ _ p hp => ?_⟩
  · subst z
    cases da
    exact q b ys H (Same.refl H) hb db (by simp)
  · subst z
    cases db
    exact q a xs H (Same.refl H) ha (by rw [List.append_nil]; exact da) (by simp)
  · exact q p _ _ (same_new hp _) upd_same ((TDs.app da db).sm (same_new hp _)) (List.length_append ..)
/-! what the objects' fields mean -/
theorem ltS_trans {a b c : Str} (h : ltS a b) (k : ltS b c) : ltS a c := List.lt_trans h k
theorem ins_asc {fs : List (Str × PyData × Nat)} (t : Str) (e : PyData × Nat) (h : (fs.map fun f => f.1).Pairwise ltS) : ((insF fs t e).map fun f => f.1).Pairwise ltS := by
  have hh : fs.Pairwise fun f g => ltS f.1 g.1 := List.pairwise_map.mp h
  refine List.pairwise_map.mpr ?_
  refine List.pairwise_append.mpr ⟨hh.filter _, List.pairwise_cons.mpr ⟨fun g hg => ?_, hh.filter _⟩, fun f hf g hg => ?_⟩
  · exact of_decide_eq_true (p := t.cps.toList < g.1.cps.toList) (List.mem_filter.mp hg).2
  · have h1 : ltS f.1 t := of_decide_eq_true (p := f.1.cps.toList < t.cps.toList) (List.mem_filter.mp hf).2
    rcases List.mem_cons.mp hg with rfl | hg
    · exact h1
    · exact ltS_trans h1 (of_decide_eq_true (p := t.cps.toList < g.1.cps.toList) (List.mem_filter.mp hg).2)
theorem two_filters {α : Type} (p q : α → Bool) (hpq : ∀ x, p x = true → q x = false) : ∀ l : List α, (l.filter p).length + (l.filter q).length ≤ l.length
  | [] => Nat.le_refl 0
  | x :: l => by
    have ih := two_filters p q hpq l
    rw [List.filter_cons, List.filter_cons]
    cases hp : p x with
    | true =>
      rw [hpq x hp]
      simp only [if_true, Bool.false_eq_true, if_false, List.length_cons]
      omega
    | false =>
      cases hq : q x <;> simp only [if_true, Bool.false_eq_true, if_false, List.length_cons] <;> omega
theorem ins_len (fs : List (Str × PyData × Nat)) (t : Str) (e : PyData × Nat) : (insF fs t e).length ≤ fs.length + 1 := by
  have h := two_filters (fun f : Str × PyData × Nat => decide (f.1.cps.toList < t.cps.toList)) (fun f => decide (t.cps.toList < f.1.cps.toList)) (fun x hx => decide_eq_false fun z => List.lt_irrefl _ (List.lt_trans (of_decide_eq_true hx) z)) fs
  rw [List.length_append, List.length_cons]
  omega
theorem ins_mem {fs : List (Str × PyData × Nat)} {t : Str} {e : PyData × Nat} {f : Str × PyData × Nat} (h : f ∈ insF fs t e) : f ∈ fs ∨ f = (t, e) := by
  rcases List.mem_append.mp h with h | h
  · exact .inl (List.mem_filter.mp h).1
  · rcases List.mem_cons.mp h with h | h
    · exact .inr h
    · exact .inl (List.mem_filter.mp h).1
theorem sum_le {L : List Nat} : (∀ z ∈ L, z ≤ 1) → L.sum ≤ L.length := by
  induction L with
  | nil => intro _; exact Nat.le_refl 0
  | cons a L ih =>
    intro h
    have h1 := h a List.mem_cons_self
    have h2 := ih fun z hz => h z (List.mem_cons_of_mem _ hz)
    rw [List.sum_cons, List.length_cons]
    omega
end Pk

/-! ### Pk, part J: the draws walked -/
namespace Pk
open PySem PySem.Spec PyProof.Rows L2
theorem at_1 {α : Type} (x y : α) (xs : List α) : atI (x :: y :: xs) 1 = some y := atI_nat (j := 1) rfl
theorem at_2 {α : Type} (x y z : α) (xs : List α) : atI (x :: y :: z :: xs) 2 = some z := atI_nat (j := 2) rfl
section
variable {P : Program} {w : World} {K : PySem.W.Frag} {mg : Str → Option Value} {base : Heap} {k : Nat}
theorem ok_cell (B : Bi mg) (D : Df K mg "_law_cell" s_L_cell p_L_cell) : Has P w K mg base (k + 1) "_law_cell" p_L_cell (spCell K) := by
  have nd := sc_L_cell.nd
  refine D.ok sc_L_cell (fun vs H Q E h => ?_) (fun f cdv A outer s H vs Q E hr h => ?_)
  · obtain ⟨_, _, _, rfl, _⟩ := h
    rfl
  obtain ⟨a, ns, z, rfl, ha, hz, q⟩ := h
  refine ⟨_, pss_cons (ps_if (pt_cmpR op_lt (pv 1) (pe_callB call_len (by rfl) B.len (by decide +kernel) (pa_cons (pv 0) pa_nil)) (nomark _)) (pss_one (ps_ret (pe_ix ix_list (pv 0) (pv 1) (fun _ _ => rfl)))) pss_nil)
    (pss_one (ps_ret pe_int)), ?_⟩
  refine ⟨_, rfl, _, rfl, _, _, rfl, .inl ⟨_, ha, rfl⟩, _, _, rfl, rfl, _, rfl, ite2 (fun c => ?_) (fun c => ?_)⟩
  · have c' : z < (((ns.map V.int).length : Nat) : Int) := of_decide_eq_true c
    obtain ⟨v, hv, hm⟩ := atI_in hz c'
    obtain ⟨i, _, rfl⟩ := List.mem_map.mp hm
    exact ⟨_, rfl, _, rfl, a, _, _, _, rfl, rfl, ha, hv, q i⟩
  · exact q 0
theorem ok_source (B : Bi mg) (D : Df K mg "_law_source" s_L_source p_L_source) : Has P w K mg base (k + 1) "_law_source" p_L_source spSource := by
  have nd := sc_L_source.nd
  refine D.ok sc_L_source (fun vs H Q E h => ?_) (fun f cdv A outer s H vs Q E hr h => ?_)
  · obtain ⟨_, rfl, _⟩ := h
    rfl
  obtain ⟨i, rfl, q⟩ := h
  refine ⟨_, pss_one (ps_ret (pe_lst (pa_cons (pv 0) (pa_cons (pe_callTy call_int1 (by rfl) B.int_ (by decide +kernel) (pa_cons (pe_cmpR op_ge (pv 0) (pe_op op_pow pe_int pe_int) (nomark _)) pa_nil)) (pa_cons pe_int pa_nil))))), ?_⟩
  refine ⟨_, rfl, _, rfl, _, _, rfl, rfl, ⟨by decide, by decide, by decide⟩, _, _, rfl, rfl, .inr ⟨_, rfl, line 3 (by decide), fun l hl => ?_⟩⟩
  exact q l _ (same_new hl _) hl ⟨_, _, _, upd_same⟩
theorem ok_draw (B : Bi mg) (D : Df K mg "_law_draw" s_L_draw p_L_draw) : Has P w K mg base (k + 1) "_law_draw" p_L_draw spDraw := by
  have nd := sc_L_draw.nd
  refine D.ok sc_L_draw (fun vs H Q E h => ?_) (fun f cdv A outer s H vs Q E hr h => ?_)
  · obtain ⟨_, _, rfl, _⟩ := h
    rfl
  obtain ⟨a, m, rfl, ⟨x, fl, c, ha⟩, hm, hm2, q⟩ := h
  refine ⟨_, pss_cons (ps_if (pt_cmpR op_eq (pe_ix ix_list (pv 0) pe_int (fun _ _ => rfl)) pe_int (nomark _)) (pss_cons (ps_set (i := 3) nd rfl (by first | exact Or.inl rfl | exact Or.inr rfl) (pe_op op_mod (pe_callTy call_int1 (by rfl) B.int_ (by decide +kernel) (pa_cons (pe_ix ix_list (pv 0) pe_int (fun _ _ => rfl)) pa_nil)) (pv 1)))
      (pss_cons (ps_asg (pe_op op_fdivW (pe_ix ix_list (pv 0) pe_int (fun _ _ => rfl)) (pv 1)) (pg_sub (pv 0) pe_int set_list))
      (pss_one (ps_ret (pv 3))))) pss_nil)
    (pss_cons (ps_asg (pe_op op_add (pe_ix ix_list (pv 0) pe_int (fun _ _ => rfl)) pe_int) (pg_sub (pv 0) pe_int set_list))
    (pss_cons (ps_set (i := 2) nd rfl (by first | exact Or.inl rfl | exact Or.inr rfl) (pe_op op_mod (pe_callTy call_int1 (by rfl) B.int_ (by decide +kernel) (pa_cons (pe_op op_add (pe_op op_mul (pe_ix ix_list (pv 0) pe_int (fun _ _ => rfl)) pe_int) (pe_op op_mul (pe_ix ix_list (pv 0) pe_int (fun _ _ => rfl)) pe_int)) pa_nil)) pe_int))
    (pss_cons (ps_set (i := 2) nd rfl (by first | exact Or.inl rfl | exact Or.inr rfl) (pe_op op_mod (pe_callTy call_int1 (by rfl) B.int_ (by decide +kernel) (pa_cons (pe_op op_add (pe_op op_add (pe_op op_mul (pv 2) (pv 2)) (pe_op op_mul (pe_ix ix_list (pv 0) pe_int (fun _ _ => rfl)) pe_int)) (pe_op op_fdiv (pv 2) pe_int)) pa_nil)) pe_int))
    (pss_one (ps_ret (pe_op op_mod (pe_callTy call_int1 (by rfl) B.int_ (by decide +kernel) (pa_cons (pe_op op_fdiv (pv 2) pe_int) pa_nil)) (pv 1))))))), ?_⟩
  refine ⟨_, rfl, a, _, _, _, rfl, rfl, SqL.of ha, rfl, rfl, _, rfl, ite2 (fun _ => ?_) (fun _ => ?_)⟩
  · refine ⟨_, rfl, a, _, _, _, rfl, rfl, SqL.of ha, rfl, .inl ⟨_, rfl, _, rfl, _, _, rfl, rfl, hm, ?_⟩⟩
    have hW : CDivW x m := wide_div (b := 67) hm (by
      have e : (2 : Nat) ^ 67 = 147573952589676412928 := by decide
      omega) (by decide) (by decide)
    refine ⟨_, rfl, a, _, _, _, rfl, rfl, SqL.of ha, rfl, _, rfl, _, _, rfl, rfl, hW, ?_⟩
    refine ⟨_, rfl, a, _, 0, 0, rfl, rfl, ha, rfl, ?_⟩
    exact ⟨_, rfl, q _ _ (Int.emod_nonneg _ (by omega)) (Int.emod_lt_of_pos _ hm) kp_upd ⟨_, _, _, upd_same⟩⟩
  · refine ⟨_, rfl, a, _, _, _, rfl, rfl, SqL.of ha, rfl, _, _, rfl, rfl, ?_⟩
    refine ⟨_, rfl, a, _, 2, 2, rfl, rfl, ha, rfl, ?_⟩
    have k1 : Kp (At a) H (upd H a (.lst (([.int x, .int fl, .int c] : List V).set 2 (.int (c + 1))))) := kp_upd
    have e1 : (upd H a (.lst (([.int x, .int fl, .int c] : List V).set 2 (.int (c + 1))))) a = some (.lst [.int x, .int fl, .int (c + 1)]) := upd_same
    generalize upd H a (.lst (([.int x, .int fl, .int c] : List V).set 2 (.int (c + 1)))) = H1 at *
    refine ⟨_, rfl, a, _, _, _, rfl, rfl, SqL.of e1, rfl, _, _, rfl, rfl, .inr ⟨by decide, by decide⟩, ?_⟩
    refine ⟨_, rfl, a, _, _, _, rfl, rfl, SqL.of e1, rfl, _, _, rfl, rfl, .inr ⟨by decide, by decide⟩, _, _, rfl, rfl, .inl ⟨_, rfl, _, _, rfl, rfl, (show (0 : Int) < 2147483647 by decide), ?_⟩⟩
    have b0 : 0 ≤ (x * 48271 + (c + 1) * 69621) % 2147483647 := Int.emod_nonneg _ (by decide)
    have b1 : (x * 48271 + (c + 1) * 69621) % 2147483647 < 2147483647 := Int.emod_lt_of_pos _ (by decide)
    generalize (x * 48271 + (c + 1) * 69621) % 2147483647 = mx at *
    refine ⟨_, rfl, _, rfl, _, _, rfl, rfl, .inl ⟨by omega, by omega⟩, ?_⟩
    refine ⟨_, rfl, a, _, _, _, rfl, rfl, SqL.of e1, rfl, _, _, rfl, rfl, .inr ⟨by decide, by decide⟩, _, _, rfl, rfl, ?_⟩
    refine ⟨_, rfl, _, _, rfl, rfl, ⟨by decide, by decide⟩, _, _, rfl, rfl, .inl ⟨_, rfl, _, _, rfl, rfl, (show (0 : Int) < 2147483629 by decide), ?_⟩⟩
    refine ⟨_, rfl, _, _, rfl, rfl, ⟨by decide, by decide⟩, .inl ⟨_, rfl, _, rfl, _, _, rfl, rfl, hm, ?_⟩⟩
    exact q _ _ (Int.emod_nonneg _ (by omega)) (Int.emod_lt_of_pos _ hm) k1 ⟨_, _, _, e1⟩
theorem ok_char (B : Bi mg) (D : Df K mg "_law_char" s_L_char p_L_char) (hL_draw : Has P w K mg base k "_law_draw" p_L_draw spDraw) : Has P w K mg base (k + 1) "_law_char" p_L_char spChar := by
  have nd := sc_L_char.nd
  refine D.ok sc_L_char (fun vs H Q E h => ?_) (fun f cdv A outer s H vs Q E hr h => ?_)
  · obtain ⟨_, rfl, _⟩ := h
    rfl
  obtain ⟨a, rfl, hs, q⟩ := h
  refine ⟨_, pss_cons (ps_set (i := 1) nd rfl (by first | exact Or.inl rfl | exact Or.inr rfl) pe_str)
    (pss_cons (ps_set (i := 1) nd rfl (by first | exact Or.inl rfl | exact Or.inr rfl) (pe_op op_add_str (pv 1) pe_str))
    (pss_one (ps_ret (pe_ix ix_str (pv 1) (pe_has hL_draw hr (by rfl) (pa_cons (pv 0) (pa_cons pe_int pa_nil))) (fun _ _ => rfl))))), ?_⟩
  have chars : ∀ {z : Str} {i : Int}, (z.cps.toList.length = 94 ∧ ∀ c ∈ z.cps.toList, okC c) → 0 ≤ i → i < 94 → atI z.cps.toList i = some (z.cps.toList.getD i.toNat 0) ∧ okC (z.cps.toList.getD i.toNat 0) := fun {z i} hz h0 h1 => by
    have hk : i.toNat < z.cps.toList.length := by omega
    have q : atI z.cps.toList ((i.toNat : Nat) : Int) = some (z.cps.toList[i.toNat]) := atI_nat (List.getElem?_eq_getElem hk)
    have e : ((i.toNat : Nat) : Int) = i := by omega
    rw [e] at q
    have g : z.cps.toList.getD i.toNat 0 = z.cps.toList[i.toNat] := by
      rw [List.getD_eq_getElem?_getD, List.getElem?_eq_getElem hk]
      rfl
    rw [g]
    exact ⟨q, hz.2 _ (List.getElem_mem hk)⟩
  refine ⟨_, rfl, _, _, rfl, rfl, by decide +kernel, ?_⟩
  refine ⟨_, rfl, _, rfl, a, 94, rfl, hs, by decide, by decide, fun i H1 i0 i1 k1 hs1 => ?_⟩
  exact ⟨_, i, _, rfl, rfl, by decide +kernel, (chars (by decide +kernel) i0 i1).1, q _ H1 (chars (by decide +kernel) i0 i1).2 k1 hs1⟩
theorem ok_number (B : Bi mg) (D : Df K mg "_law_number" s_L_number p_L_number) (hL_draw : Has P w K mg base k "_law_draw" p_L_draw spDraw) : Has P w K mg base (k + 1) "_law_number" p_L_number spNumber := by
  have nd := sc_L_number.nd
  refine D.ok sc_L_number (fun vs H Q E h => ?_) (fun f cdv A outer s H vs Q E hr h => ?_)
  · obtain ⟨_, rfl, _⟩ := h
    rfl
  obtain ⟨a, rfl, hs, q⟩ := h
  refine ⟨_, pss_cons (ps_set (i := 1) nd rfl (by first | exact Or.inl rfl | exact Or.inr rfl) (pe_has hL_draw hr (by rfl) (pa_cons (pv 0) (pa_cons pe_int pa_nil))))
    (pss_cons (ps_if (pt_cmpR op_eq (pv 1) pe_int (nomark _)) (pss_one (ps_ret (pe_op op_sub (pe_has hL_draw hr (by rfl) (pa_cons (pv 0) (pa_cons pe_int pa_nil))) pe_int))) pss_nil)
    (pss_cons (ps_if (pt_cmpR op_eq (pv 1) pe_int (nomark _)) (pss_one (ps_ret (pe_op op_sub (pe_has hL_draw hr (by rfl) (pa_cons (pv 0) (pa_cons (pe_op op_pow pe_int pe_int) pa_nil))) (pe_op op_mul pe_int (pe_op op_pow pe_int pe_int))))) pss_nil)
    (pss_one (ps_ret (pe_op op_sub (pe_has hL_draw hr (by rfl) (pa_cons (pv 0) (pa_cons pe_int pa_nil))) pe_int))))), ?_⟩
  refine ⟨_, rfl, a, 6, rfl, hs, by decide, by decide, fun i H1 i0 i1 k1 s1 => ?_⟩
  refine ⟨_, rfl, rfl, _, rfl, ite2 (fun _ => ?_) (fun _ => ?_)⟩
  · exact ⟨_, rfl, a, 2000, rfl, s1, by decide, by decide, fun j H2 j0 j1 k2 s2 => ⟨_, _, rfl, rfl, q _ H2 (k1.trans k2) s2⟩⟩
  refine ⟨_, rfl, rfl, _, rfl, ite2 (fun _ => ?_) (fun _ => ?_)⟩
  · refine ⟨_, rfl, _, _, rfl, rfl, ⟨by decide, by decide, by decide⟩, a, _, rfl, s1, by decide, by decide, fun j H2 j0 j1 k2 s2 => ?_⟩
    exact ⟨_, _, rfl, rfl, ⟨by decide, by decide, by decide⟩, _, _, rfl, rfl, .inl ⟨by decide, by decide⟩, _, _, rfl, rfl, q _ H2 (k1.trans k2) s2⟩
  · exact ⟨_, rfl, a, 7, rfl, s1, by decide, by decide, fun j H2 j0 j1 k2 s2 => ⟨_, _, rfl, rfl, q _ H2 (k1.trans k2) s2⟩⟩
theorem rep_ok {n : Int} (h0 : 0 ≤ n) (h1 : n < 4) : okL 12 (repS "name" n) := by
  have h : n = 0 ∨ n = 1 ∨ n = 2 ∨ n = 3 := by omega
  rcases h with rfl | rfl | rfl | rfl <;> decide +kernel
theorem ok_name (B : Bi mg) (D : Df K mg "_law_name" s_L_name p_L_name) (hL_draw : Has P w K mg base k "_law_draw" p_L_draw spDraw) (hL_char : Has P w K mg base k "_law_char" p_L_char spChar) : Has P w K mg base (k + 1) "_law_name" p_L_name spName := by
  have nd := sc_L_name.nd
  refine D.ok sc_L_name (fun vs H Q E h => ?_) (fun f cdv A outer s H vs Q E hr h => ?_)
  · obtain ⟨_, rfl, _⟩ := h
    rfl
  obtain ⟨a, rfl, hs, q⟩ := h
  refine ⟨_, pss_cons (ps_set (i := 1) nd rfl (by first | exact Or.inl rfl | exact Or.inr rfl) (pe_has hL_draw hr (by rfl) (pa_cons (pv 0) (pa_cons pe_int pa_nil))))
    (pss_cons (ps_if (pt_cmpR op_lt (pv 1) pe_int (nomark _)) (pss_one (ps_ret (pe_ix ix_list (pe_lst (pa_cons pe_str (pa_cons pe_str (pa_cons pe_str (pa_cons pe_str (pa_cons pe_str (pa_cons pe_str (pa_cons pe_str (pa_cons pe_str pa_nil))))))))) (pv 1) (fun _ _ => rfl)))) pss_nil)
    (pss_cons (ps_if (pt_cmpR op_eq (pe_has hL_draw hr (by rfl) (pa_cons (pv 0) (pa_cons pe_int pa_nil))) pe_int (nomark _)) (pss_one (ps_ret (pe_op op_add_str (pe_op op_add_str (pe_op op_mul_str pe_str (pe_has hL_draw hr (by rfl) (pa_cons (pv 0) (pa_cons pe_int pa_nil)))) (pe_has hL_char hr (by rfl) (pa_cons (pv 0) pa_nil))) (pe_op op_mul_str pe_str (pe_has hL_draw hr (by rfl) (pa_cons (pv 0) (pa_cons pe_int pa_nil))))))) pss_nil)
    (pss_one (ps_ret (pe_join pe_str (pe_lc (own := [("_law_j", 2)]) (g := gName 2) (tt := tYes) rfl nd (pi_range1 (by rfl) B.range (pa_cons (pe_has hL_draw hr (by rfl) (pa_cons (pv 0) (pa_cons pe_int pa_nil))) pa_nil)) (blkOk_by (N := n_L_name) (sc := defScope s_L_name) (by decide +kernel)) (fun _ _ _ _ _ => pg_name (i := 2) nd rfl (Or.inl rfl)) (fun _ _ _ _ _ => pts_nil) (fun _ _ _ _ _ => (pe_has hL_char hr (by rfl) (pa_cons (pv 0) pa_nil))))))))), ?_⟩
  refine ⟨_, rfl, a, 10, rfl, hs, by decide, by decide, fun i H1 i0 i1 k1 s1 => ?_⟩
  refine ⟨_, rfl, _, _, rfl, rfl, _, rfl, ite2 (fun c => ?_) (fun _ => ?_)⟩
  · have c' : i < 8 := of_decide_eq_true c
    refine ⟨line 8 (by decide), fun l hl => ?_⟩
    have pick : ∀ v ∈ ([.str "a", .str "b", .str "c", .str "ab", .str "", .str "z9", .str "B", .str "ba"] : List V), ∃ x, v = .str x ∧ okS x := by
      intro v hv
      simp only [List.mem_cons, List.not_mem_nil, or_false] at hv
      rcases hv with rfl | rfl | rfl | rfl | rfl | rfl | rfl | rfl <;> exact ⟨_, rfl, by decide +kernel⟩
    obtain ⟨v, hv, hm⟩ := atI_in (xs := ([.str "a", .str "b", .str "c", .str "ab", .str "", .str "z9", .str "B", .str "ba"] : List V)) i0 (by simp; omega)
    obtain ⟨x, rfl, ok⟩ := pick v hm
    have s2 := same_new hl (.lst [.str "a", .str "b", .str "c", .str "ab", .str "", .str "z9", .str "B", .str "ba"])
    exact ⟨_, rfl, l, _, _, _, rfl, rfl, SqL.of upd_same, hv, q x _ ok (k1.trans (kp_same s2)) (s1.sm s2)⟩
  refine ⟨_, rfl, a, 3, rfl, s1, by decide, by decide, fun j H2 j0 j1 k2 s2 => ⟨rfl, _, rfl, ite2 (fun _ => ?_) (fun _ => ?_)⟩⟩
  · refine ⟨_, rfl, a, 4, rfl, s2, by decide, by decide, fun n H3 n0 n1 k3 s3 => ?_⟩
    have r1 := rep_ok n0 n1
    refine ⟨_, n, rfl, rfl, n0, by omega, by decide +kernel, line _ (Nat.le_trans r1.1 (by decide)), ?_⟩
    refine ⟨_, rfl, a, rfl, s3, fun c H4 hc k4 s4 => ?_⟩
    have r2 := r1.app (okL_one hc)
    refine ⟨_, _, rfl, rfl, line _ ?_, ?_⟩
    · have h1 := r1.1
      have h2 := (okL_one hc).1
      omega
    refine ⟨_, rfl, a, 3, rfl, s4, by decide, by decide, fun m H5 m0 m1 k5 s5 => ?_⟩
    have r3 := rep_ok m0 (show m < 4 by omega)
    refine ⟨_, m, rfl, rfl, m0, by omega, by decide +kernel, line _ (Nat.le_trans r3.1 (by decide)), ?_⟩
    have r4 := r2.app r3
    refine ⟨_, _, rfl, rfl, line _ ?_, ?_⟩
    · have h1 := r2.1
      have h2 := r3.1
      omega
    exact q _ H5 (r4.ok (by decide)) (k1.trans (k2.trans (k3.trans (k4.trans k5)))) s5
  · refine ⟨⟨_, rfl⟩, _, rfl, a, 4, rfl, s2, by decide, by decide, fun n H3 n0 n1 k3 s3 => ?_⟩
    refine ⟨n, rfl, by omega, by omega, ?_⟩
    refine lcR (lo := 0) (n := n.toNat) (j := 2) (by omega) (At a) s3.some (fun ys H' => Src H' a ∧ ∃ zs : List Str, ys = zs.map V.str ∧ ∀ z ∈ zs, okL 1 z) (fun ys H' H'' e _ ⟨h1, h2⟩ => ⟨h1.eq e, h2⟩) ⟨s3, [], rfl, fun z hz => by cases hz⟩ (fun i ys H4 hi hy k4 ⟨s4, zs, ez, hz⟩ K' kk => ?_) (fun D H4 ys k4 eD nS hD hn ⟨s4, zs, ez, hz⟩ => ?_)
    · refine ⟨_, rfl, a, rfl, s4, fun c H5 hc k5 s5 => kk _ H5 k5 ⟨s5, zs ++ [⟨#[c]⟩], by rw [ez, List.map_append]; rfl, fun z hz' => ?_⟩⟩
      rcases List.mem_append.mp hz' with hz' | hz'
      · exact hz z hz'
      · rw [List.mem_singleton.mp hz']
        exact okL_one hc
    · subst ez
      have hl : zs.length ≤ 3 := by
        rw [List.length_map] at hn
        omega
      refine ⟨_, D, zs, rfl, rfl, .inl (SqL.of eD), ?_, ?_⟩
      · have h1 := sum_le (L := zs.map (·.length)) fun z hz' => by
          obtain ⟨y, hy, rfl⟩ := List.mem_map.mp hz'
          exact (hz y hy).1
        rw [List.length_map] at h1
        have h2 : ("" : Str).length = 0 := by decide +kernel
        rw [h2]
        omega
      · rw [TL.join_eq]
        exact q _ H4 ((okL_join zs hz).ok (by omega)) (k1.trans (k2.trans (k3.trans k4))) s4
theorem ok_leaf (B : Bi mg) (D : Df K mg "_law_leaf" s_L_leaf p_L_leaf) (hL_draw : Has P w K mg base k "_law_draw" p_L_draw spDraw) (hL_number : Has P w K mg base k "_law_number" p_L_number spNumber) (hL_name : Has P w K mg base k "_law_name" p_L_name spName) :
    Has P w K mg base (k + 1) "_law_leaf" p_L_leaf spLeaf := by
  have nd := sc_L_leaf.nd
  refine D.ok sc_L_leaf (fun vs H Q E h => ?_) (fun f cdv A outer s H vs Q E hr h => ?_)
  · obtain ⟨_, rfl, _⟩ := h
    rfl
  obtain ⟨a, rfl, hs, q⟩ := h
  refine ⟨_, pss_cons (ps_set (i := 1) nd rfl (by first | exact Or.inl rfl | exact Or.inr rfl) (pe_has hL_draw hr (by rfl) (pa_cons (pv 0) (pa_cons pe_int pa_nil))))
    (pss_cons (ps_if (pt_cmpR op_eq (pv 1) pe_int (nomark _)) (pss_one (ps_ret (pe_tup (pa_cons pe_str pa_nil)))) pss_nil)
    (pss_cons (ps_if (pt_cmpR op_eq (pv 1) pe_int (nomark _)) (pss_one (ps_ret (pe_tup (pa_cons pe_str (pa_cons (pe_cmpR op_eq (pe_has hL_draw hr (by rfl) (pa_cons (pv 0) (pa_cons pe_int pa_nil))) pe_int (nomark _)) pa_nil))))) pss_nil)
    (pss_cons (ps_if (pt_cmpR op_lt (pv 1) pe_int (nomark _)) (pss_one (ps_ret (pe_tup (pa_cons pe_str (pa_cons (pe_has hL_number hr (by rfl) (pa_cons (pv 0) pa_nil)) pa_nil))))) pss_nil)
    (pss_one (ps_ret (pe_tup (pa_cons pe_str (pa_cons (pe_has hL_name hr (by rfl) (pa_cons (pv 0) pa_nil)) pa_nil)))))))), ?_⟩
  refine ⟨_, rfl, a, 8, rfl, hs, by decide, by decide, fun i H1 i0 i1 k1 s1 => ?_⟩
  refine ⟨_, rfl, rfl, _, rfl, ite2 (fun _ => ?_) (fun _ => ?_)⟩
  · refine ⟨line 1 (by decide), fun p hp => ?_⟩
    exact q _ _ _ (k1.trans (kp_same (same_new hp _))) (s1.sm (same_new hp _)) .null (td_new hp (tds1 (.str _)))
  refine ⟨_, rfl, rfl, _, rfl, ite2 (fun _ => ?_) (fun _ => ?_)⟩
  · refine ⟨_, rfl, a, 2, rfl, s1, by decide, by decide, fun j H2 j0 j1 k2 s2 => ⟨rfl, line 2 (by decide), fun p hp => ?_⟩⟩
    exact q _ _ _ (k1.trans (k2.trans (kp_same (same_new hp _)))) (s2.sm (same_new hp _)) (.bool _) (td_new hp (tds2 (.str _) (.bl _)))
  refine ⟨_, rfl, _, _, rfl, rfl, _, rfl, ite2 (fun _ => ?_) (fun _ => ?_)⟩
  · refine ⟨_, rfl, a, rfl, s1, fun j H2 k2 s2 => ⟨line 2 (by decide), fun p hp => ?_⟩⟩
    exact q _ _ _ (k1.trans (k2.trans (kp_same (same_new hp _)))) (s2.sm (same_new hp _)) (.int _) (td_new hp (tds2 (.str _) (.int _)))
  · refine ⟨_, rfl, a, rfl, s1, fun x H2 hx k2 s2 => ⟨line 2 (by decide), fun p hp => ?_⟩⟩
    exact q _ _ _ (k1.trans (k2.trans (kp_same (same_new hp _)))) (s2.sm (same_new hp _)) (.text x hx) (td_new hp (tds2 (.str _) (.str _)))
theorem ok_with (B : Bi mg) (D : Df K mg "_law_with" s_L_with p_L_with) : Has P w K mg base (k + 1) "_law_with" p_L_with spWith := by
  have nd := sc_L_with.nd
  refine D.ok sc_L_with (fun vs H Q E h => ?_) (fun f cdv A outer s H vs Q E hr h => ?_)
  · obtain ⟨_, _, _, _, _, rfl, _⟩ := h
    rfl
  obtain ⟨v, fs, t, x, e, rfl, hn, hd, hx, q⟩ := h
  refine ⟨_, pss_cons (ps_if (pt_cmpR op_eq (pe_ix ix_tup (pv 0) pe_int (fun _ _ => rfl)) pe_str (nomark _)) pss_never pss_nil)
    (pss_cons (ps_setLc (i := 3) (own := [("_law_field", 5)]) (g := gName 5) rfl nd rfl rfl (sw_true rfl rfl rfl (by decide +kernel)) (pi_tup (pe_ix ix_tup (pv 0) pe_int (fun _ _ => rfl))) (blkOk_by (N := n_L_with) (sc := defScope s_L_with) (by decide +kernel)) (fun _ _ _ _ _ => pg_name (i := 5) nd rfl (Or.inl rfl)) (fun _ _ _ _ _ => pts_one (pt_cmpR op_lt_str (pe_ix (ix_tupK (K := K) rfl) (pv 5) pe_int (fun _ _ => rfl)) (pv 1) (nomark _))) (fun _ _ _ _ _ => (pv 5)))
    (pss_cons (ps_setLc (i := 4) (own := [("_law_field", 5)]) (g := gName 5) rfl nd rfl rfl (sw_true rfl rfl rfl (by decide +kernel)) (pi_tup (pe_ix ix_tup (pv 0) pe_int (fun _ _ => rfl))) (blkOk_by (N := n_L_with) (sc := defScope s_L_with) (by decide +kernel)) (fun _ _ _ _ _ => pg_name (i := 5) nd rfl (Or.inl rfl)) (fun _ _ _ _ _ => pts_one (pt_cmpR op_gt_str (pe_ix (ix_tupK (K := K) rfl) (pv 5) pe_int (fun _ _ => rfl)) (pv 1) (nomark _))) (fun _ _ _ _ _ => (pv 5)))
    (pss_one (ps_ret (pe_tup (pa_cons pe_str (pa_cons (pe_op op_catA (pe_op op_catA (pe_callTy call_tuple_of (by rfl) B.tuple_ (by decide +kernel) (pa_cons (pv 3) pa_nil)) (pe_tup (pa_cons (pe_tup (pa_cons (pv 1) (pa_cons (pv 2) pa_nil))) pa_nil))) (pe_callTy call_tuple_of (by rfl) B.tuple_ (by decide +kernel) (pa_cons (pv 4) pa_nil))) pa_nil))))))), ?_⟩
  obtain ⟨a, a1, a2, rfl, ha, h1, h2⟩ := hd.i_tup2
  cases h1
  obtain ⟨b, ys, rfl, hb, h3⟩ := h2.i_tup
  have hl : ys.length = fs.length := by rw [h3.len, List.length_map]
  refine ⟨_, rfl, a, _, _, _, rfl, rfl, SqT.of ha, rfl, rfl, _, rfl, if_f (by decide +kernel) ?_⟩
  refine ⟨_, rfl, a, _, _, _, rfl, rfl, SqT.of ha, rfl, b, rfl, ⟨_, SqT.of hb⟩, ?_⟩
  refine lcF (g := fun f : Str × PyData × Nat => .tuple [.str f.1, f.2.1]) (fun f => decide (f.1.cps.toList < t.cps.toList)) hb h3 (by omega) (fun i x f H1 Kt hi hf s1 kk => ?_) (fun x H1 K' kk => ⟨_, rfl, kk⟩) (fun D H1 zs s1 eD tz => ?_)
  · obtain ⟨f', hf', tf⟩ := h3.atM hi
    rw [hf] at hf'
    cases hf'
    obtain ⟨c, c1, c2, rfl, hc, g1, g2⟩ := tf.i_tup2
    cases g1
    exact ⟨_, rfl, c, _, _, _, rfl, rfl, SqT.of (s1 _ _ hc), rfl, _, rfl, _, _, rfl, rfl, _, rfl, kk⟩
  have ha := s1 _ _ ha
  have hb := s1 _ _ hb
  have h3 := h3.sm s1
  refine ⟨_, rfl, a, _, _, _, rfl, rfl, SqT.of ha, rfl, b, rfl, ⟨_, SqT.of hb⟩, ?_⟩
  refine lcF (g := fun f : Str × PyData × Nat => .tuple [.str f.1, f.2.1]) (fun f => decide (t.cps.toList < f.1.cps.toList)) hb h3 (by omega) (fun i x f H1 Kt hi hf s1 kk => ?_) (fun x H1 K' kk => ⟨_, rfl, kk⟩) (fun D2 H2 us s2 eD2 tu => ?_)
  · obtain ⟨f', hf', tf⟩ := h3.atM hi
    rw [hf] at hf'
    cases hf'
    obtain ⟨c, c1, c2, rfl, hc, g1, g2⟩ := tf.i_tup2
    cases g1
    exact ⟨_, rfl, c, _, _, _, rfl, rfl, SqT.of (s1 _ _ hc), rfl, _, rfl, _, _, rfl, rfl, _, rfl, kk⟩
  have eD := s2 _ _ eD
  have tz := tz.sm s2
  have hx := hx.sm (s1.trans s2)
  refine ⟨_, rfl, D, zs, rfl, .inl ⟨SqL.of eD, fun p hp => ?_⟩⟩
  have s3 := same_new hp (.tup zs)
  have e3 : (upd H2 p (.tup zs)) p = some (.tup zs) := upd_same
  generalize upd H2 p (.tup zs) = H3 at *
  refine ⟨_, rfl, _, rfl, line 2 (by decide), fun p1 hp1 => ⟨line 1 (by decide), fun p2 hp2 => ?_⟩⟩
  have s4 := same_new hp1 (.tup [.str t, x])
  have t4 := td_new hp1 (tds2 (.str t) (hx.sm s3))
  generalize upd H3 p1 (.tup [.str t, x]) = H4 at *
  have s5 := same_new hp2 (.tup [.ref p1])
  have e5 : (upd H4 p2 (.tup [.ref p1])) p2 = some (.tup [.ref p1]) := upd_same
  generalize upd H4 p2 (.tup [.ref p1]) = H5 at *
  have lz : zs.length ≤ 100 := by
    rw [tz.len, List.length_map]
    exact Nat.le_trans (List.length_filter_le _ _) hn
  have lu : us.length ≤ 100 := by
    rw [tu.len, List.length_map]
    exact Nat.le_trans (List.length_filter_le _ _) hn
  refine catA_td (s5 _ _ (s4 _ _ e3)) e5 (tz.sm (s3.trans (s4.trans s5))) (tds1 (t4.sm s5)) (by simp; omega) fun r ws H6 s6 e6 t6 l6 => ?_
  refine ⟨_, rfl, D2, us, rfl, .inl ⟨SqL.of (s6 _ _ (s5 _ _ (s4 _ _ (s3 _ _ eD2)))), fun p3 hp3 => ?_⟩⟩
  have s7 := same_new hp3 (.tup us)
  have e7 : (upd H6 p3 (.tup us)) p3 = some (.tup us) := upd_same
  generalize upd H6 p3 (.tup us) = H7 at *
  refine catA_td (s7 _ _ e6) e7 (t6.sm s7) (tu.sm (s3.trans (s4.trans (s5.trans (s6.trans s7))))) (by rw [l6]; simp; omega) fun r2 ws2 H8 s8 e8 t8 l8 => ?_
  refine ⟨line 2 (by decide), fun p4 hp4 => ?_⟩
  refine q _ _ (s1.trans (s2.trans (s3.trans (s4.trans (s5.trans (s6.trans (s7.trans (s8.trans (same_new hp4 _)))))))) ) (td_new hp4 (tds2 (.str _) (.tup e8 ?_)))
  have em : (insF fs t e).map (fun f => PyData.tuple [.str f.1, f.2.1]) = (fs.filter fun f => decide (f.1.cps.toList < t.cps.toList)).map (fun f => PyData.tuple [.str f.1, f.2.1]) ++ [PyData.tuple [.str t, e.1]] ++ (fs.filter fun f => decide (t.cps.toList < f.1.cps.toList)).map (fun f => PyData.tuple [.str f.1, f.2.1]) := by
    rw [List.map_append, List.map_cons, List.append_assoc]
    rfl
  rw [em]
  exact t8
theorem ok_obj (B : Bi mg) (D : Df K mg "_law_object" s_L_object p_L_object) (hL_with : Has P w K mg base k "_law_with" p_L_with spWith) : Has P w K mg base (k + 1) "_law_object" p_L_object spObj := by
  have nd := sc_L_object.nd
  refine D.ok sc_L_object (fun vs H Q E h => ?_) (fun f cdv A outer s H vs Q E hr h => ?_)
  · obtain ⟨_, _, _, rfl, _⟩ := h
    rfl
  obtain ⟨l, ps, ys, rfl, el, ty, hn, hp, q⟩ := h
  refine ⟨_, pss_cons (ps_set (i := 1) nd rfl (by first | exact Or.inl rfl | exact Or.inr rfl) (pe_tup (pa_cons pe_str (pa_cons (pe_tup pa_nil) pa_nil))))
    (pss_cons (ps_for PassesOwn.never rfl (pi_list (pv 0)) (pg_name (i := 2) nd rfl (by first | exact Or.inl rfl | exact Or.inr rfl))
      (pss_one (ps_set (i := 1) nd rfl (by first | exact Or.inl rfl | exact Or.inr rfl) (pe_has hL_with hr (by rfl) (pa_cons (pv 1) (pa_cons (pe_ix ix_tup (pv 2) pe_int (fun _ _ => rfl)) (pa_cons (pe_ix ix_tup (pv 2) pe_int (fun _ _ => rfl)) pa_nil)))))))
    (pss_one (ps_ret (pv 1)))), ?_⟩
  have hl : ys.length = ps.length := by rw [ty.len, List.length_map]
  refine ⟨Nat.zero_le _, fun p1 hp1 => ⟨line 2 (by decide), fun p2 hp2 => ?_⟩⟩
  have s1 := same_new hp1 (.tup [])
  have e1 : TD (upd H p1 (.tup [])) (.ref p1) (.tuple []) := td_new hp1 .nil
  generalize upd H p1 (.tup []) = H1 at *
  have s2 := same_new hp2 (.tup [.str "object", .ref p1])
  have e2 : TD (upd H1 p2 (.tup [.str "object", .ref p1])) (.ref p2) (objD []) := td_new hp2 (tds2 (.str _) e1)
  generalize upd H1 p2 (.tup [.str "object", .ref p1]) = H2 at *
  refine ⟨_, rfl, l, rfl, ⟨_, SqL.of (s2 _ _ (s1 _ _ el))⟩, ?_⟩
  refine for_list (K := K) (a := l) (xs := ys) (fun i σ H' => ∃ (fs : List (Str × PyData × Nat)) (v : V) (x2 : Option V), σ = [some (.ref l), some v, x2] ∧ Same H H' ∧ TD H' v (objD fs) ∧ fs.length ≤ i ∧ (fs.map fun f => f.1).Pairwise ltS ∧ (∀ f ∈ fs, okS f.1) ∧ ∀ f ∈ fs, IsV 1 f.2.1 f.2.2 ∧ f.2.2 = 1)
    ⟨[], .ref p2, none, rfl, s1.trans s2, e2, Nat.le_refl 0, .nil, (fun f hf => by cases hf), fun f hf => by cases hf⟩ (fun i σ H' _ ⟨_, _, _, _, s, _⟩ => SqL.of (s _ _ el)) (fun i x σ H3 hi ⟨fs, v, x2, eσ, s3, tv, hf1, hf2, hf3, hf4⟩ => ?_) (fun σ H3 ⟨fs, v, x2, eσ, s3, tv, hf1, hf2, hf3, hf4⟩ => ?_)
  · subst eσ
    obtain ⟨p, hp', tp⟩ := ty.atM hi
    have tp := tp.sm s3
    obtain ⟨c, c1, c2, rfl, hc, g1, g2⟩ := tp.i_tup2
    cases g1
    obtain ⟨o1, o2⟩ := hp p (List.mem_of_getElem? hp')
    have hi' : i < ps.length := (List.getElem?_eq_some_iff.mp hp').1
    refine ⟨_, rfl, _, rfl, c, _, _, _, rfl, rfl, SqT.of hc, rfl, _, rfl, c, _, _, _, rfl, rfl, SqT.of hc, rfl, v, fs, p.1, c2, (p.2, 1), rfl, by omega, tv, g2, fun r H4 s4 t4 => ?_⟩
    refine ⟨insF fs p.1 (p.2, 1), r, some (.ref c), rfl, s3.trans s4, t4, Nat.le_trans (ins_len _ _ _) (by omega), ins_asc _ _ hf2, fun f hf => ?_, fun f hf => ?_⟩
    · rcases ins_mem hf with hf | rfl
      · exact hf3 f hf
      · exact o1
    · rcases ins_mem hf with hf | rfl
      · exact hf4 f hf
      · exact ⟨o2, rfl⟩
  · subst eσ
    refine ⟨_, rfl, q v _ _ H3 s3 (.object fs (by omega) hf2 hf3 fun f hf => (hf4 f hf).1) ?_ tv⟩
    have h1 := sum_le (L := fs.map fun f => f.2.2) fun z hz => by
      obtain ⟨f, hf, rfl⟩ := List.mem_map.mp hz
      rw [(hf4 f hf).2]
      exact Nat.le_refl 1
    rw [List.length_map] at h1
    omega
theorem ok_Lsmall (B : Bi mg) (D : Df K mg "_law_small" s_L_small p_L_small) (hL_draw : Has P w K mg base k "_law_draw" p_L_draw spDraw) (hL_name : Has P w K mg base k "_law_name" p_L_name spName) (hL_leaf : Has P w K mg base k "_law_leaf" p_L_leaf spLeaf) (hL_object : Has P w K mg base k "_law_object" p_L_object spObj) :
    Has P w K mg base (k + 1) "_law_small" p_L_small spSmall := by
  have nd := sc_L_small.nd
  refine D.ok sc_L_small (fun vs H Q E h => ?_) (fun f cdv A outer s H vs Q E hr h => ?_)
  · obtain ⟨_, rfl, _⟩ := h
    rfl
  obtain ⟨a, rfl, hs, q⟩ := h
  refine ⟨_, pss_cons (ps_set (i := 1) nd rfl (by first | exact Or.inl rfl | exact Or.inr rfl) (pe_has hL_draw hr (by rfl) (pa_cons (pv 0) (pa_cons pe_int pa_nil))))
    (pss_cons (ps_if (pt_cmpR op_eq (pv 1) pe_int (nomark _)) (pss_one (ps_ret (pe_tup (pa_cons pe_str (pa_cons (pe_callTy call_tuple_of (by rfl) B.tuple_ (by decide +kernel) (pa_cons (pe_lc (own := [("_law_j", 2)]) (g := gName 2) (tt := tYes) rfl nd (pi_range1 (by rfl) B.range (pa_cons (pe_has hL_draw hr (by rfl) (pa_cons (pv 0) (pa_cons pe_int pa_nil))) pa_nil)) (blkOk_by (N := n_L_small) (sc := defScope s_L_small) (by decide +kernel)) (fun _ _ _ _ _ => pg_name (i := 2) nd rfl (Or.inl rfl)) (fun _ _ _ _ _ => pts_nil) (fun _ _ _ _ _ => (pe_has hL_leaf hr (by rfl) (pa_cons (pv 0) pa_nil)))) pa_nil)) pa_nil))))) pss_nil)
    (pss_cons (ps_if (pt_cmpR op_eq (pv 1) pe_int (nomark _)) (pss_one (ps_ret (pe_has hL_object hr (by rfl) (pa_cons (pe_lc (own := [("_law_j", 2)]) (g := gName 2) (tt := tYes) rfl nd (pi_range1 (by rfl) B.range (pa_cons (pe_has hL_draw hr (by rfl) (pa_cons (pv 0) (pa_cons pe_int pa_nil))) pa_nil)) (blkOk_by (N := n_L_small) (sc := defScope s_L_small) (by decide +kernel)) (fun _ _ _ _ _ => pg_name (i := 2) nd rfl (Or.inl rfl)) (fun _ _ _ _ _ => pts_nil) (fun _ _ _ _ _ => (pe_tup (pa_cons (pe_has hL_name hr (by rfl) (pa_cons (pv 0) pa_nil)) (pa_cons (pe_has hL_leaf hr (by rfl) (pa_cons (pv 0) pa_nil)) pa_nil))))) pa_nil)))) pss_nil)
    (pss_one (ps_ret (pe_has hL_leaf hr (by rfl) (pa_cons (pv 0) pa_nil)))))), ?_⟩
  refine ⟨_, rfl, a, 6, rfl, hs, by decide, by decide, fun i H1 i0 i1 k1 s1 => ?_⟩
  refine ⟨_, rfl, rfl, _, rfl, ite2 (fun _ => ?_) (fun _ => ?_)⟩
  · refine ⟨_, rfl, a, 3, rfl, s1, by decide, by decide, fun n H2 n0 n1 k2 s2 => ⟨n, rfl, by omega, by omega, ?_⟩⟩
    refine lcR (lo := 0) (n := n.toNat) (j := 2) (by omega) (At a) s2.some (fun ys H' => Src H' a ∧ ∃ ds : List (PyData × Nat), TDs H' ys (ds.map fun (d : PyData × Nat) => d.1) ∧ (∀ d ∈ ds, IsV 1 d.1 d.2 ∧ d.2 = 1)) (fun ys H' H'' e t ⟨h1, ds, h2, h3⟩ => ⟨h1.eq e, ds, h2.tu t, h3⟩) ⟨s2, [], .nil, fun d hd => by cases hd⟩ (fun i ys H3 hi hy k3 ⟨s3, ds, td, hd⟩ K' kk => ?_) (fun D H3 ys k3 eD nS hD hn ⟨s3, ds, td, hd⟩ => ?_)
    · refine ⟨_, rfl, a, rfl, s3, fun v d H4 k4 s4 hv tv => kk v H4 k4 ⟨s4, ds ++ [(d, 1)], ?_, fun d' hd' => ?_⟩⟩
      · rw [List.map_append]
        exact TDs.app (td.tu (s3.tu k4)) (tds1 tv)
      · rcases List.mem_append.mp hd' with hd' | hd'
        · exact hd d' hd'
        · rw [List.mem_singleton.mp hd']
          exact ⟨hv, rfl⟩
    · have hl : ds.length ≤ 2 := by
        have := td.len
        rw [List.length_map] at this
        omega
      refine ⟨D, ys, rfl, .inl ⟨SqL.of eD, fun p hp => ⟨line 2 (by decide), fun p2 hp2 => ?_⟩⟩⟩
      have t1 := td_new hp td
      have ss := (same_new hp (.tup ys)).trans (same_new hp2 (.tup [.str "list", .ref p]))
      refine q _ _ _ _ (k1.trans (k2.trans (k3.trans (kp_same ss)))) (s3.sm ss) (.list ds (by omega) fun d hd' => (hd d hd').1) ?_ (td_new hp2 (tds2 (.str _) t1))
      have h1 := sum_le (L := ds.map fun d => d.2) fun z hz => by
        obtain ⟨d, hd', rfl⟩ := List.mem_map.mp hz
        rw [(hd d hd').2]
        exact Nat.le_refl 1
      rw [List.length_map] at h1
      omega
  refine ⟨_, rfl, rfl, _, rfl, ite2 (fun _ => ?_) (fun _ => ?_)⟩
  · refine ⟨_, rfl, a, 3, rfl, s1, by decide, by decide, fun n H2 n0 n1 k2 s2 => ⟨n, rfl, by omega, by omega, ?_⟩⟩
    refine lcR (lo := 0) (n := n.toNat) (j := 2) (by omega) (At a) s2.some (fun ys H' => Src H' a ∧ ∃ ps : List (Str × PyData), TDs H' ys (ps.map fun (p : Str × PyData) => PyData.tuple [.str p.1, p.2]) ∧ (∀ p ∈ ps, okS p.1 ∧ IsV 1 p.2 1)) (fun ys H' H'' e t ⟨h1, ds, h2, h3⟩ => ⟨h1.eq e, ds, h2.tu t, h3⟩) ⟨s2, [], .nil, fun d hd => by cases hd⟩ (fun i ys H3 hi hy k3 ⟨s3, ds, td, hd⟩ K' kk => ?_) (fun D H3 ys k3 eD nS hD hn ⟨s3, ds, td, hd⟩ => ?_)
    · refine ⟨_, rfl, a, rfl, s3, fun x H4 hx k4 s4 => ?_⟩
      refine ⟨_, rfl, a, rfl, s4, fun v d H5 k5 s5 hv tv => ⟨line 2 (by decide), fun p hp => ?_⟩⟩
      have s6 := same_new hp (.tup [.str x, v])
      refine kk _ _ (k4.trans (k5.trans (kp_same s6))) ⟨s5.sm s6, ds ++ [(x, d)], ?_, fun d' hd' => ?_⟩
      · rw [List.map_append]
        exact TDs.app (((td.tu (s3.tu k4)).tu (s4.tu k5)).sm s6) (tds1 (td_new hp (tds2 (.str _) tv)))
      · rcases List.mem_append.mp hd' with hd' | hd'
        · exact hd d' hd'
        · rw [List.mem_singleton.mp hd']
          exact ⟨hx, hv⟩
    · have hl : ds.length ≤ 2 := by
        have := td.len
        rw [List.length_map] at this
        omega
      exact ⟨D, ds, ys, rfl, eD, td, by omega, hd, fun v d z H4 s4 hv hz tv => q v d z H4 (k1.trans (k2.trans (k3.trans (kp_same s4)))) (s3.sm s4) hv (by omega) tv⟩
  · exact ⟨_, rfl, a, rfl, s1, fun v d H2 k2 s2 hv tv => q v d 1 H2 (k1.trans k2) s2 (hv.up (by decide)) (by decide) tv⟩
theorem ok_bounds (B : Bi mg) (D : Df K mg "_law_bounds" s_L_bounds p_L_bounds) (hL_draw : Has P w K mg base k "_law_draw" p_L_draw spDraw) : Has P w K mg base (k + 1) "_law_bounds" p_L_bounds spBounds := by
  have nd := sc_L_bounds.nd
  refine D.ok sc_L_bounds (fun vs H Q E h => ?_) (fun f cdv A outer s H vs Q E hr h => ?_)
  · obtain ⟨_, _, rfl, _⟩ := h
    rfl
  obtain ⟨a, m, rfl, hs, q⟩ := h
  refine ⟨_, pss_cons (ps_set (i := 2) nd rfl (by first | exact Or.inl rfl | exact Or.inr rfl) (pe_op op_add (pe_has hL_draw hr (by rfl) (pa_cons (pv 0) (pa_cons pe_int pa_nil))) (pv 1)))
    (pss_cons (ps_set (i := 3) nd rfl (by first | exact Or.inl rfl | exact Or.inr rfl) (pe_callB (call_max2 rfl) (by rfl) B.max (by decide +kernel) (pa_cons (pe_op op_sub (pe_op op_add (pv 2) (pe_has hL_draw hr (by rfl) (pa_cons (pv 0) (pa_cons pe_int pa_nil)))) pe_int) (pa_cons (pv 1) pa_nil))))
    (pss_cons (ps_if (pt_cmpR op_eq (pe_has hL_draw hr (by rfl) (pa_cons (pv 0) (pa_cons pe_int pa_nil))) pe_int (nomark _)) (pss_one (ps_set (i := 3) nd rfl (by first | exact Or.inl rfl | exact Or.inr rfl) pe_non)) pss_nil)
    (pss_one (ps_ret (pe_tup (pa_cons (pv 2) (pa_cons (pv 3) pa_nil))))))), ?_⟩
  refine ⟨_, rfl, a, 4, rfl, hs, by decide, by decide, fun i H1 i0 i1 k1 s1 => ⟨_, rfl, _, _, rfl, rfl, ?_⟩⟩
  refine ⟨_, rfl, _, rfl, a, 5, rfl, s1, by decide, by decide, fun j H2 j0 j1 k2 s2 => ⟨_, _, rfl, rfl, _, _, rfl, rfl, _, rfl, _, _, rfl, ?_⟩⟩
  refine ⟨_, rfl, a, 3, rfl, s2, by decide, by decide, fun n H3 n0 n1 k3 s3 => ⟨rfl, _, rfl, ite2 (fun _ => ?_) (fun _ => ?_)⟩⟩
  · refine ⟨_, rfl, _, rfl, line 2 (by decide), fun p hp => ?_⟩
    exact q p (i + m) none _ (k1.trans (k2.trans (k3.trans (kp_same (same_new hp _))))) (s3.sm (same_new hp _)) (by omega) (by omega) (fun h e => by cases e) upd_same
  · refine ⟨_, rfl, _, rfl, line 2 (by decide), fun p hp => ?_⟩
    refine q p (i + m) (some (if m > i + m + j - 1 then m else i + m + j - 1)) _ (k1.trans (k2.trans (k3.trans (kp_same (same_new hp _))))) (s3.sm (same_new hp _)) (by omega) (by omega) (fun h e => ?_) upd_same
    cases e
    split <;> omega
end
end Pk

/-! ### Pk, part K: the drawn schema -/
namespace Pk
open PySem PySem.Spec PyProof.Rows L2
abbrev s_L_leaf_schema : Stmt := top 44
abbrev n_L_leaf_schema : List Str := ["_law_source_here", "_law_room", "_law_k", "_law_bounds_here"]
abbrev p_L_leaf_schema : List Str := ["_law_source_here", "_law_room"]
theorem sc_L_leaf_schema : FnScope n_L_leaf_schema p_L_leaf_schema (defScope s_L_leaf_schema) := ⟨rfl, rfl, rfl, by decide +kernel, rfl, by decide +kernel, by decide +kernel⟩
abbrev s_L_rows : Stmt := top 45
abbrev n_L_rows : List Str := ["_law_source_here", "_law_depth", "_law_room", "_law_rows_here", "_law_k", "_law_name_here", "_law_row"]
abbrev p_L_rows : List Str := ["_law_source_here", "_law_depth", "_law_room"]
theorem sc_L_rows : FnScope n_L_rows p_L_rows (defScope s_L_rows) := ⟨rfl, rfl, rfl, by decide +kernel, rfl, by decide +kernel, by decide +kernel⟩
abbrev s_L_schema : Stmt := top 46
abbrev n_L_schema : List Str := ["_law_source_here", "_law_depth", "_law_room", "_law_k", "_law_word", "_law_rows_here", "_law_bounds_here", "_law_j"]
abbrev p_L_schema : List Str := ["_law_source_here", "_law_depth", "_law_room"]
theorem sc_L_schema : FnScope n_L_schema p_L_schema (defScope s_L_schema) := ⟨rfl, rfl, rfl, by decide +kernel, rfl, by decide +kernel, by decide +kernel⟩
def Rm (H : Hp) (r : Addr) (z : Int) : Prop := H r = some (.lst [.int z])
abbrev At2 (a r : Addr) : Addr → Prop := fun b => b = a ∨ b = r
theorem src_ne {H : Hp} {a r : Addr} {z : Int} (h : Src H a) (k : Rm H r z) : r ≠ a := fun e => by
  obtain ⟨x, f, c, ha⟩ := h
  unfold Rm at k
  rw [e, ha] at k
  cases k
theorem Rm.kp {H H' : Hp} {a r : Addr} {z : Int} (k : Rm H r z) (h : Src H a) (q : Kp (At a) H H') : Rm H' r z := q r _ (src_ne h k) k
theorem Rm.sm {H H' : Hp} {r : Addr} {z : Int} (k : Rm H r z) (q : Same H H') : Rm H' r z := q r _ k
theorem kp2 {H H' : Hp} {a r : Addr} (q : Kp (At a) H H') : Kp (At2 a r) H H' := q.mono fun b h => .inl h
theorem tu2 {H H' : Hp} {a r : Addr} {z : Int} (h : Src H a) (k : Rm H r z) (q : Kp (At2 a r) H H') : Tu H H' := fun b xs e => q b _ (fun z => by
  rcases z with z | z
  · obtain ⟨x, f, c, ha⟩ := h
    rw [z, ha] at e
    cases e
  · unfold Rm at k
    rw [z, k] at e
    cases e) e
theorem some2 {H : Hp} {a r : Addr} {z : Int} (h : Src H a) (k : Rm H r z) : ∀ b, At2 a r b → H b ≠ none := fun b e q => by
  rcases e with e | e
  · exact h.some b e q
  · unfold Rm at k
    rw [e, k] at q
    cases q
def spLS : Sp := fun vs H Q _ => ∃ (a r : Addr) (z : Int), vs = [.ref a, .ref r] ∧ Src H a ∧ Rm H r z ∧
  ∀ (v : V) (q : Q4) (z' : Int) (H' : Hp), Kp (At2 a r) H H' → Src H' a → Rm H' r z' → TD H' v q.s → (∀ n, SF (n + 1) q) → q.c = 1 → 3 * q.k + 2 * z'.toNat ≤ 3 + 2 * (z + 1).toNat → Q v H'
def spSchema (d B L : Nat) : Sp := fun vs H Q _ => ∃ (a r : Addr) (z dep : Int), vs = [.ref a, .int dep, .ref r] ∧ dep = (d : Nat) ∧ Src H a ∧ Rm H r z ∧
  ∀ (v : V) (q : Q4) (z' : Int) (H' : Hp), Kp (At2 a r) H H' → Src H' a → Rm H' r z' → TD H' v q.s → (∀ n, d ≤ n → SF n q) → q.c ≤ B → 3 * q.k + 2 * z'.toNat ≤ 3 * L + 2 * z.toNat → Q v H'
def spRows (d B L : Nat) : Sp := fun vs H Q _ => ∃ (a r : Addr) (z dep : Int), vs = [.ref a, .int dep, .ref r] ∧ dep = (d : Nat) ∧ Src H a ∧ Rm H r z ∧
  ∀ (v : V) (rs : List Rw) (z' : Int) (H' : Hp), Kp (At2 a r) H H' → Src H' a → Rm H' r z' → TD H' v (.tuple (rs.map rowS)) → rs.length ≤ 3 → (rs.map Rw.x).Nodup → (∀ x ∈ rs, okS x.x) → (∀ x ∈ rs, ∀ n, d ≤ n → SF n x.q) →
    (rs.map fun x => x.q.c).sum ≤ 3 * B → 3 * (rs.map fun x => x.q.k).sum + 2 * z'.toNat ≤ 9 * L + 2 * z.toNat → Q v H'
theorem lcMany {d B L n j : Nat} {te : TE} {σ : L2.St} {H1 : Hp} {Qd : Addr → Hp → Prop} {a r : Addr} {z : Int} (hn : n ≤ 3) (hs : Src H1 a) (hz : Rm H1 r z)
    (call : ∀ (i : Nat) (H : Hp) (z' : Int), Src H a → Rm H r z' → ∀ K' : VK, (∀ (v : V) (q : Q4) (z'' : Int) (H' : Hp), Kp (At2 a r) H H' → Src H' a → Rm H' r z'' → TD H' v q.s → (∀ m, d ≤ m → SF m q) → q.c ≤ B → 3 * q.k + 2 * z''.toNat ≤ 3 * L + 2 * z'.toNat → K' v H') → te ((wipe σ [j]).set j (some (.int (0 + (i : Nat))))) H K')
    (done : ∀ (D : Addr) (H : Hp) (ys : List V) (xs : List Q4) (z' : Int), Kp (At2 a r) H1 H → H D = some (.lst ys) → TDs H ys (xs.map Q4.s) → xs.length ≤ 3 → Src H a → Rm H r z' → (∀ x ∈ xs, ∀ m, d ≤ m → SF m x) → (xs.map Q4.c).sum ≤ 3 * B → 3 * (xs.map Q4.k).sum + 2 * z'.toNat ≤ 9 * L + 2 * z.toNat → Qd D H) :
    ∀ D, H1 D = none → ∃ W : Nat → Nat → Hp → Prop, (∃ m, W 0 m (upd H1 D (.lst []))) ∧ ∀ i m H, W i m H →
      ((Itr 0 n).stop i H ∧ Qd D H) ∨ ((Itr 0 n).go i H ∧ ∃ Nx : Hp → Prop, (∀ H', Nx H' → ∃ m', m' < m ∧ W (i + 1) m' H') ∧ ∀ x H', (Itr 0 n).yld i H x H' → gName j x (wipe σ [j]) H' fun σ2 H2 => wipe σ2 [j] = wipe σ [j] ∧ tYes σ2 H2 fun b H3 =>
        if b = true then te σ2 H3 fun y H4 => ∃ acc, H4 D = some (.lst acc) ∧ acc.length < sizeLine ∧ Nx (upd H4 D (.lst (acc ++ [y]))) else Nx H3) := by
  refine lcR (by omega) (At2 a r) (some2 hs hz) (fun ys H' => Src H' a ∧ ∃ (xs : List Q4) (z' : Int), Rm H' r z' ∧ TDs H' ys (xs.map Q4.s) ∧ (∀ x ∈ xs, ∀ m, d ≤ m → SF m x) ∧ (xs.map Q4.c).sum ≤ ys.length * B ∧ 3 * (xs.map Q4.k).sum + 2 * z'.toNat ≤ 3 * (ys.length * L) + 2 * z.toNat)
    (fun ys H' H'' e t ⟨h1, xs, z', h2, h3, h4⟩ => ⟨h1.eq fun b hb => e b (.inl hb), xs, z', ?_, h3.tu t, h4⟩) ⟨hs, [], z, hz, .nil, (fun x hx => by cases hx), by simp, by simp⟩
    (fun i ys H' hi hy k1 ⟨h1, xs, z', h2, h3, h4, h5, h6⟩ K' kk => call i H' z' h1 h2 K' fun v q z'' H'' k2 s2 r2 t2 f2 c2 b2 => kk v H'' k2 ⟨s2, xs ++ [q], z'', r2, ?_, fun x hx => ?_, ?_, ?_⟩)
    (fun D H' ys k1 eD nS hD hl ⟨h1, xs, z', h2, h3, h4, h5, h6⟩ => done D H' ys xs z' k1 eD h3 ?_ h1 h2 h4 ?_ ?_)
  · unfold Rm
    rw [e r (.inr rfl)]
    exact h2
  · rw [List.map_append]
    exact TDs.app (h3.tu (tu2 h1 h2 k2)) (tds1 t2)
  · rcases List.mem_append.mp hx with hx | hx
    · exact h4 x hx
    · rw [List.mem_singleton.mp hx]
      exact f2
  · rw [List.map_append, List.sum_append, List.length_append, List.length_singleton, Nat.add_mul, Nat.one_mul]
    simp only [List.map_cons, List.map_nil, List.sum_cons, List.sum_nil]
    omega
  · rw [List.map_append, List.sum_append, List.length_append, List.length_singleton, Nat.add_mul, Nat.one_mul]
    simp only [List.map_cons, List.map_nil, List.sum_cons, List.sum_nil]
    omega
  · have := h3.len
    rw [List.length_map] at this
    omega
  · have q1 : ys.length * B ≤ 3 * B := Nat.mul_le_mul_right B (by omega)
    omega
  · have q1 : ys.length * L ≤ 3 * L := Nat.mul_le_mul_right L (by omega)
    omega
section
variable {P : Program} {w : World} {K : PySem.W.Frag} {mg : Str → Option Value} {base : Heap} {k : Nat}
theorem ok_ls (B : Bi mg) (D : Df K mg "_law_leaf_schema" s_L_leaf_schema p_L_leaf_schema) (hL_draw : Has P w K mg base k "_law_draw" p_L_draw spDraw) (hL_bounds : Has P w K mg base k "_law_bounds" p_L_bounds spBounds) (hL_small : Has P w K mg base k "_law_small" p_L_small spSmall)
    (hL_leaf : Has P w K mg base k "_law_leaf" p_L_leaf spLeaf) : Has P w K mg base (k + 1) "_law_leaf_schema" p_L_leaf_schema spLS := by
  have nd := sc_L_leaf_schema.nd
  refine D.ok sc_L_leaf_schema (fun vs H Q E h => ?_) (fun f cdv A outer s H vs Q E hr h => ?_)
  · obtain ⟨_, _, _, rfl, _⟩ := h
    rfl
  obtain ⟨a, r, z, rfl, hs, hz, kq⟩ := h
  refine ⟨_, pss_cons (ps_set (i := 2) nd rfl (by first | exact Or.inl rfl | exact Or.inr rfl) (pe_has hL_draw hr (by rfl) (pa_cons (pv 0) (pa_cons pe_int pa_nil))))
    (pss_cons (ps_if (pt_cmpR op_eq (pv 2) pe_int (nomark _)) (pss_one (ps_ret (pe_tup (pa_cons pe_str pa_nil)))) pss_nil)
    (pss_cons (ps_if (pt_cmpR op_eq (pv 2) pe_int (nomark _)) (pss_one (ps_ret (pe_ix ix_list (pe_lst (pa_cons (pe_tup (pa_cons pe_str pa_nil)) (pa_cons (pe_tup (pa_cons pe_str pa_nil)) (pa_cons (pe_tup (pa_cons pe_str pa_nil)) pa_nil)))) (pe_has hL_draw hr (by rfl) (pa_cons (pv 0) (pa_cons pe_int pa_nil))) (fun _ _ => rfl)))) pss_nil)
    (pss_cons (ps_if (pt_cmpR op_lt (pv 2) pe_int (nomark _)) (pss_cons (ps_set (i := 3) nd rfl (by first | exact Or.inl rfl | exact Or.inr rfl) (pe_has hL_bounds hr (by rfl) (pa_cons (pv 0) (pa_cons (pe_un un_neg pe_int) pa_nil))))
      (pss_cons (ps_if (pt_cmpR op_eq (pe_has hL_draw hr (by rfl) (pa_cons (pv 0) (pa_cons pe_int pa_nil))) pe_int (nomark _)) (pss_one (ps_ret (pe_tup (pa_cons pe_str (pa_cons pe_non (pa_cons (pe_ix ix_tup (pv 3) pe_int (fun _ _ => rfl)) pa_nil)))))) pss_nil)
      (pss_one (ps_ret (pe_tup (pa_cons pe_str (pa_cons (pe_ix ix_tup (pv 3) pe_int (fun _ _ => rfl)) (pa_cons (pe_ix ix_tup (pv 3) pe_int (fun _ _ => rfl)) pa_nil)))))))) pss_nil)
    (pss_cons (ps_if (pt_cmpR op_lt (pv 2) pe_int (nomark _)) (pss_cons (ps_set (i := 3) nd rfl (by first | exact Or.inl rfl | exact Or.inr rfl) (pe_has hL_bounds hr (by rfl) (pa_cons (pv 0) (pa_cons pe_int pa_nil))))
      (pss_one (ps_ret (pe_tup (pa_cons pe_str (pa_cons (pe_ix ix_tup (pv 3) pe_int (fun _ _ => rfl)) (pa_cons (pe_ix ix_tup (pv 3) pe_int (fun _ _ => rfl)) pa_nil))))))) pss_nil)
    (pss_cons (ps_if (PW.pt (pw_and (pt_cmpR op_eq (pv 2) pe_int (nomark _)) (pw_and1 (pt_cmpR op_gt (pe_ix ix_list (pv 1) pe_int (fun _ _ => rfl)) pe_int (nomark _))))) (pss_cons (ps_asg (pe_op op_sub (pe_ix ix_list (pv 1) pe_int (fun _ _ => rfl)) pe_int) (pg_sub (pv 1) pe_int set_list))
      (pss_one (ps_ret (pe_tup (pa_cons pe_str (pa_cons (pe_has hL_small hr (by rfl) (pa_cons (pv 0) pa_nil)) pa_nil)))))) pss_nil)
    (pss_one (ps_ret (pe_tup (pa_cons pe_str (pa_cons (pe_has hL_leaf hr (by rfl) (pa_cons (pv 0) pa_nil)) pa_nil)))))))))), ?_⟩
  have fin : ∀ (v : V) (q : Q4) (H' : Hp), Kp (At a) H H' → Src H' a → TD H' v q.s → (∀ n, SF (n + 1) q) → q.c = 1 → q.k ≤ 1 → Q v H' :=
    fun v q H' k1 s1 t1 f1 c1 b1 => kq v q z H' (kp2 k1) s1 (hz.kp hs k1) t1 f1 c1 (by omega)
  refine ⟨_, rfl, a, 10, rfl, hs, by decide, by decide, fun i H1 i0 i1 k1 s1 => ?_⟩
  refine ⟨_, rfl, rfl, _, rfl, ite2 (fun _ => ?_) (fun _ => ?_)⟩
  · refine ⟨line 1 (by decide), fun p hp => ?_⟩
    exact fin _ ⟨_, formD "any" [], 1, 0⟩ _ (k1.trans (kp_same (same_new hp _))) (s1.sm (same_new hp _)) (td_new hp (tds1 (.str "any"))) (fun n => .word _ (.inl rfl)) rfl (Nat.zero_le _)
  refine ⟨_, rfl, rfl, _, rfl, ite2 (fun _ => ?_) (fun _ => ?_)⟩
  · refine ⟨line 1 (by decide), fun p1 hp1 => ?_⟩
    have q1 := same_new hp1 (.tup [.str "never"])
    have t1 : TD (upd H1 p1 (.tup [.str "never"])) (.ref p1) (.tuple [.str "never"]) := td_new hp1 (tds1 (.str "never"))
    generalize upd H1 p1 (.tup [.str "never"]) = H2 at *
    refine ⟨line 1 (by decide), fun p2 hp2 => ?_⟩
    have q2 := same_new hp2 (.tup [.str "null"])
    have t2 : TD (upd H2 p2 (.tup [.str "null"])) (.ref p2) (.tuple [.str "null"]) := td_new hp2 (tds1 (.str "null"))
    generalize upd H2 p2 (.tup [.str "null"]) = H3 at *
    refine ⟨line 1 (by decide), fun p3 hp3 => ?_⟩
    have q3 := same_new hp3 (.tup [.str "bool"])
    have t3 : TD (upd H3 p3 (.tup [.str "bool"])) (.ref p3) (.tuple [.str "bool"]) := td_new hp3 (tds1 (.str "bool"))
    generalize upd H3 p3 (.tup [.str "bool"]) = H4 at *
    refine ⟨line 3 (by decide), fun l hl => ?_⟩
    have q4 := same_new hl (.lst [.ref p1, .ref p2, .ref p3])
    have el : (upd H4 l (.lst [.ref p1, .ref p2, .ref p3])) l = some (.lst [.ref p1, .ref p2, .ref p3]) := upd_same
    have s4 := s1.sm (q1.trans (q2.trans q3))
    have la : l ≠ a := fun e => s4.some a rfl (e ▸ hl)
    generalize upd H4 l (.lst [.ref p1, .ref p2, .ref p3]) = H5 at *
    have s5 := s4.sm q4
    refine ⟨_, rfl, a, 3, rfl, s5, by decide, by decide, fun j H6 j0 j1 k6 s6 => ?_⟩
    obtain ⟨v, hv, hm⟩ := atI_in (xs := ([.ref p1, .ref p2, .ref p3] : List V)) j0 (by simp; omega)
    refine ⟨l, _, j, v, rfl, rfl, SqL.of (k6 l _ la el), hv, ?_⟩
    have kk : Kp (At a) H H6 := k1.trans ((kp_same (q1.trans (q2.trans (q3.trans q4)))).trans k6)
    have tt : Tu H5 H6 := s5.tu k6
    simp only [List.mem_cons, List.not_mem_nil, or_false] at hm
    rcases hm with rfl | rfl | rfl
    · exact fin _ ⟨_, formD "never" [], 1, 0⟩ _ kk s6 ((t1.sm (q2.trans (q3.trans q4))).tu tt) (fun n => .word _ (.inr (.inl rfl))) rfl (Nat.zero_le _)
    · exact fin _ ⟨_, formD "null" [], 1, 0⟩ _ kk s6 ((t2.sm (q3.trans q4)).tu tt) (fun n => .word _ (.inr (.inr (.inl rfl)))) rfl (Nat.zero_le _)
    · exact fin _ ⟨_, formD "bool" [], 1, 0⟩ _ kk s6 ((t3.sm q4).tu tt) (fun n => .word _ (.inr (.inr (.inr rfl)))) rfl (Nat.zero_le _)
  refine ⟨_, rfl, _, _, rfl, rfl, _, rfl, ite2 (fun _ => ?_) (fun _ => ?_)⟩
  · refine ⟨_, rfl, 2, rfl, a, -2, rfl, s1, fun p lo hi H2 k2 s2 b1 b2 b3 ep => ?_⟩
    refine ⟨_, rfl, a, 4, rfl, s2, by decide, by decide, fun j H3 j0 j1 k3 s3 => ⟨rfl, _, rfl, ite2 (fun _ => ?_) (fun _ => ?_)⟩⟩
    · refine ⟨_, rfl, p, _, _, _, rfl, rfl, SqT.of (s2.tu k3 _ _ ep), rfl, line 3 (by decide), fun p4 hp4 => ?_⟩
      exact fin _ ⟨_, formD "int" [bndF none, bndF hi], 1, 0⟩ _ (k1.trans (k2.trans (k3.trans (kp_same (same_new hp4 _))))) (s3.sm (same_new hp4 _)) (td_new hp4 (tds3 (.str "int") (bnd_d _ none) (bnd_d _ hi))) (fun n => .int none hi) rfl (Nat.zero_le _)
    · refine ⟨_, rfl, p, _, _, _, rfl, rfl, SqT.of (s2.tu k3 _ _ ep), rfl, _, rfl, p, _, _, _, rfl, rfl, SqT.of (s2.tu k3 _ _ ep), rfl, line 3 (by decide), fun p4 hp4 => ?_⟩
      exact fin _ ⟨_, formD "int" [bndF (some lo), bndF hi], 1, 0⟩ _ (k1.trans (k2.trans (k3.trans (kp_same (same_new hp4 _))))) (s3.sm (same_new hp4 _)) (td_new hp4 (tds3 (.str "int") (bnd_d _ (some lo)) (bnd_d _ hi))) (fun n => .int (some lo) hi) rfl (Nat.zero_le _)
  refine ⟨_, rfl, _, _, rfl, rfl, _, rfl, ite2 (fun _ => ?_) (fun _ => ?_)⟩
  · refine ⟨_, rfl, a, 0, rfl, s1, fun p lo hi H2 k2 s2 b1 b2 b3 ep => ?_⟩
    refine ⟨_, rfl, p, _, _, _, rfl, rfl, SqT.of ep, rfl, _, rfl, p, _, _, _, rfl, rfl, SqT.of ep, rfl, line 3 (by decide), fun p4 hp4 => ?_⟩
    exact fin _ ⟨_, formD "text" [bndF (some lo), bndF hi], 1, 0⟩ _ (k1.trans (k2.trans (kp_same (same_new hp4 _)))) (s2.sm (same_new hp4 _)) (td_new hp4 (tds3 (.str "text") (.int lo) (bnd_d _ hi))) (fun n => .text lo hi (by omega) (by omega) fun i e => by have := b3 i e; omega) rfl (Nat.zero_le _)
  have last : tRet (tTup (tCons (tC (.str "const")) (tCons (tCall spLeaf [] E0 (tCons (tVar 0) tNil)) tNil))) { nx := fun _ H' => Q .non H', rt := Q } [some (.ref a), some (.ref r), some (.int i), none] H1 := by
    refine ⟨_, rfl, a, rfl, s1, fun v d H2 k2 s2 hv tv => ⟨line 2 (by decide), fun p hp => ?_⟩⟩
    exact fin _ ⟨_, formD "const" [d], 1, 1⟩ _ (k1.trans (k2.trans (kp_same (same_new hp _)))) (s2.sm (same_new hp _)) (td_new hp (tds2 (.str "const") tv)) (fun n => .const d 1 (hv.up (by decide))) rfl (Nat.le_refl 1)
  have hz1 := hz.kp hs k1
  refine ⟨_, rfl, rfl, _, rfl, ite2 (fun _ => ?_) (fun _ => if_f rfl last)⟩
  refine ⟨_, rfl, r, _, _, _, rfl, rfl, SqL.of hz1, rfl, _, _, rfl, rfl, _, rfl, ite2 (fun c => ?_) (fun _ => last)⟩
  have hc : (1 : Int) < z := of_decide_eq_true c
  refine ⟨_, rfl, r, _, _, _, rfl, rfl, SqL.of hz1, rfl, _, _, rfl, rfl, _, rfl, r, _, 0, 0, rfl, rfl, hz1, rfl, ?_⟩
  have ra := src_ne s1 hz1
  have k2 : Kp (At2 a r) H1 (upd H1 r (.lst (([.int z] : List V).set 0 (.int (z - 2))))) := fun b o nb e => by
    rw [upd_ne (fun q => nb (.inr q))]; exact e
  have z2 : Rm (upd H1 r (.lst (([.int z] : List V).set 0 (.int (z - 2))))) r (z - 2) := upd_same
  have s2 : Src (upd H1 r (.lst (([.int z] : List V).set 0 (.int (z - 2))))) a := by
    obtain ⟨x, f, c, ha⟩ := s1
    exact ⟨x, f, c, by rw [upd_ne ra.symm]; exact ha⟩
  generalize upd H1 r (.lst (([.int z] : List V).set 0 (.int (z - 2)))) = H2 at *
  refine ⟨_, rfl, a, rfl, s2, fun v d n H3 k3 s3 hv hn tv => ⟨line 2 (by decide), fun p hp => ?_⟩⟩
  have q4 := same_new hp (.tup [.str "const", v])
  exact kq _ ⟨_, formD "const" [d], 1, n⟩ (z - 2) _ ((kp2 k1).trans (k2.trans ((kp2 k3).trans (kp_same q4)))) (s3.sm q4) ((z2.kp s2 k3).sm q4) (td_new hp (tds2 (.str "const") tv)) (fun m => .const d n hv) rfl (by show 3 * n + _ ≤ _; omega)
theorem ok_rows (B : Bi mg) (D : Df K mg "_law_rows" s_L_rows p_L_rows) {d Bn L : Nat} (hL_draw : Has P w K mg base k "_law_draw" p_L_draw spDraw) (hL_name : Has P w K mg base k "_law_name" p_L_name spName) (hL_schema : Has P w K mg base k "_law_schema" p_L_schema (spSchema d Bn L)) :
    Has P w K mg base (k + 1) "_law_rows" p_L_rows (spRows d Bn L) := by
  have nd := sc_L_rows.nd
  refine D.ok sc_L_rows (fun vs H Q E h => ?_) (fun f cdv A outer s H vs Q E hr h => ?_)
  · obtain ⟨_, _, _, _, rfl, _⟩ := h
    rfl
  obtain ⟨a, r, z, dep, rfl, hdep, hs, hz, kq⟩ := h
  refine ⟨_, pss_cons (ps_set (i := 3) nd rfl (by first | exact Or.inl rfl | exact Or.inr rfl) (pe_lst pa_nil))
    (pss_cons (ps_for PassesOwn.never rfl (pi_range1 (by rfl) B.range (pa_cons (pe_has hL_draw hr (by rfl) (pa_cons (pv 0) (pa_cons pe_int pa_nil))) pa_nil)) (pg_name (i := 4) nd rfl (by first | exact Or.inl rfl | exact Or.inr rfl))
      (pss_cons (ps_set (i := 5) nd rfl (by first | exact Or.inl rfl | exact Or.inr rfl) (pe_has hL_name hr (by rfl) (pa_cons (pv 0) pa_nil)))
      (pss_one (ps_if (pt_cmpR op_notIn_seq (pv 5) (pe_lc (own := [("_law_row", 6)]) (g := gName 6) (tt := tYes) rfl nd (pi_list (pv 3)) (blkOk_by (N := n_L_rows) (sc := defScope s_L_rows) (by decide +kernel)) (fun _ _ _ _ _ => pg_name (i := 6) nd rfl (Or.inl rfl)) (fun _ _ _ _ _ => pts_nil) (fun _ _ _ _ _ => (pe_ix (ix_tupK (K := K) rfl) (pv 6) pe_int (fun _ _ => rfl)))) (by rfl)) (pss_one (ps_expr (pe_bm PySem.F.plainAttrs_list PySem.F.slot_list_append PySem.F.type_list_append mt_append (pv 3) (pa_cons (pe_tup (pa_cons (pv 5) (pa_cons (pe_has hL_schema hr (by rfl) (pa_cons (pv 0) (pa_cons (pv 1) (pa_cons (pv 2) pa_nil)))) (pa_cons (pe_cmpR op_eq (pe_has hL_draw hr (by rfl) (pa_cons (pv 0) (pa_cons pe_int pa_nil))) pe_int (nomark _)) pa_nil)))) pa_nil)))) pss_nil))))
    (pss_one (ps_ret (pe_callTy call_tuple_of (by rfl) B.tuple_ (by decide +kernel) (pa_cons (pv 3) pa_nil))))), ?_⟩
  refine ⟨Nat.zero_le _, fun l hl => ?_⟩
  have q0 := same_new hl (.lst [])
  have el : (upd H l (.lst [])) l = some (.lst []) := upd_same
  have s0 := hs.sm q0
  have z0 := hz.sm q0
  have nl : ¬ At2 a r l := fun e => some2 hs hz l e hl
  refine ⟨_, rfl, a, 4, rfl, s0, by decide, by decide, fun n H1 n0 n1 k1 s1 => ⟨n, rfl, by omega, by omega, ?_⟩⟩
  refine for_range (lo := 0) (n := n.toNat) (fun i σ H' => ∃ (x4 x5 : Option V) (ys : List V) (rs : List Rw) (z' : Int), σ = [some (.ref a), some (.int dep), some (.ref r), some (.ref l), x4, x5, none] ∧ H' l = some (.lst ys) ∧ TDs H' ys (rs.map rowS) ∧ Kp (At2 a r) H H' ∧ Src H' a ∧ Rm H' r z' ∧ rs.length ≤ i ∧ (rs.map Rw.x).Nodup ∧
      (∀ x ∈ rs, okS x.x) ∧ (∀ x ∈ rs, ∀ n, d ≤ n → SF n x.q) ∧ (rs.map fun x => x.q.c).sum ≤ i * Bn ∧ 3 * (rs.map fun x => x.q.k).sum + 2 * z'.toNat ≤ 3 * (i * L) + 2 * z.toNat)
    ⟨none, none, [], [], z, rfl, k1 _ _ (fun e => nl (.inl e)) el, .nil, (kp_same q0).trans (kp2 k1), s1, z0.kp s0 k1, Nat.le_refl 0, .nil, (fun x hx => by cases hx), (fun x hx => by cases hx), by simp, by simp⟩ (fun i σ H2 hi h => ?_) (fun σ H2 h => ?_)
  · obtain ⟨x4, x5, ys, rs, z', rfl, el2, ty, k2, s2, z2, hl2, hnd, hok, hsf, hc, hb⟩ := h
    have hyl : ys.length = rs.length := by rw [ty.len, List.length_map]
    refine ⟨_, rfl, a, rfl, s2, fun x H3 hx k3 s3 => ?_⟩
    have el3 := k3 _ _ (fun e => nl (.inl e)) el2
    have ty := ty.tu (s2.tu k3)
    have z3 := z2.kp s2 k3
    refine ⟨_, rfl, _, rfl, l, rfl, ⟨_, SqL.of el3⟩, lcL el3 (by omega) (fun j y _ => ∃ e, rs[j]? = some e ∧ y = .str e.x) (fun i y H H' t z => z) (fun j y H4 hj s4 K' kk => ?_) (fun D H4 us s4 eD nD hu hR => ?_)⟩
    · obtain ⟨u, hu, tu⟩ := ty.atM hj
      obtain ⟨p, p1, p2, p3, rfl, hp, f1, f2, f3⟩ := tu.i_tup3
      cases f1
      exact ⟨_, rfl, p, _, _, _, rfl, rfl, SqT.of (s4 _ _ hp), rfl, kk _ _ (Same.refl _) ⟨u, hu, rfl⟩⟩
    have el4 := s4 _ _ el3
    have ty := ty.sm s4
    have s4' := s3.sm s4
    have z4 := z3.sm s4
    have k4 : Kp (At2 a r) H H4 := k2.trans ((kp2 k3).trans (kp_same s4))
    have flat : us.all flatV = true := List.all_eq_true.mpr fun y hy => by
      obtain ⟨i, hi⟩ := List.getElem?_of_mem hy
      obtain ⟨e, _, rfl⟩ := hR i y hi
      rfl
    refine ⟨D, us, rfl, .inl (SqL.of eD), rfl, flat, _, rfl, ite2 (fun c => ?_) (fun c => ?_)⟩
    · have fresh : ∀ e ∈ rs, e.x ≠ x := by
        intro e he ex
        obtain ⟨j, hj⟩ := List.getElem?_of_mem he
        have hj2 : j < us.length := by
          have := (List.getElem?_eq_some_iff.mp hj).1
          omega
        obtain ⟨e', he', ey⟩ := hR j _ (List.getElem?_eq_getElem hj2)
        rw [hj] at he'
        cases he'
        have hin : inV (.str x) us = true := by
          unfold inV
          rw [List.any_eq_true]
          refine ⟨us[j], List.getElem_mem hj2, ?_⟩
          rw [ey, ex]
          exact beq_self_eq_true x
        rw [hin] at c
        exact absurd c (by simp)
      refine ⟨_, rfl, .inl ⟨rfl, _, SqL.of el4⟩, ?_⟩
      refine ⟨_, rfl, _, rfl, _, rfl, _, rfl, a, r, z', dep, rfl, hdep, s4', z4, fun v q z5 H5 k5 s5 r5 t5 f5 c5 b5 => ?_⟩
      refine ⟨_, rfl, a, 2, rfl, s5, by decide, by decide, fun m H6 m0 m1 k6 s6 => ⟨rfl, line 3 (by decide), fun p hp => ?_⟩⟩
      have el6 := k6 _ _ (fun e => nl (.inl e)) (k5 _ _ nl el4)
      have t6 := t5.tu (s5.tu k6)
      have ty6 := (ty.tu (tu2 s4' z4 k5)).tu (s5.tu k6)
      have z6 := r5.kp s5 k6
      have q7 := same_new hp (.tup [.str x, v, .bl (decide (V.int m = V.int 1))])
      have t7 : TD (upd H6 p (.tup [.str x, v, .bl (decide (V.int m = V.int 1))])) (.ref p) (rowS ⟨x, q, decide (V.int m = V.int 1)⟩) := td_new hp (tds3 (.str x) t6 (.bl _))
      generalize upd H6 p (.tup [.str x, v, .bl (decide (V.int m = V.int 1))]) = H7 at *
      have el7 := q7 _ _ el6
      refine ⟨l, ys, _, rfl, rfl, el7, small1000 (by omega), ?_⟩
      have tu8 := tu_lst (ys := ys ++ [.ref p]) el7
      have ks : Kp (At2 a r) H H7 := k4.trans (k5.trans ((kp2 k6).trans (kp_same q7)))
      refine ⟨_, _, ys ++ [.ref p], rs ++ [⟨x, q, decide (V.int m = V.int 1)⟩], z5, rfl, upd_same, ?_, fun b o nb e => ?_, ?_, ?_, ?_, ?_, fun y hy => ?_, fun y hy => ?_, ?_, ?_⟩
      · rw [List.map_append]
        exact TDs.app ((ty6.sm q7).tu tu8) (tds1 (t7.tu tu8))
      · rw [upd_ne (ne_of_none e hl)]
        exact ks _ _ nb e
      · obtain ⟨x', f', c', ha⟩ := s6.sm q7
        exact ⟨x', f', c', by rw [upd_ne (fun e => nl (.inl e.symm))]; exact ha⟩
      · unfold Rm
        rw [upd_ne (fun e => nl (.inr e.symm))]
        exact z6.sm q7
      · rw [List.length_append, List.length_singleton]
        omega
      · rw [List.map_append]
        refine List.nodup_append.mpr ⟨hnd, by simp, fun u hu v hv e => ?_⟩
        obtain ⟨y, hy, rfl⟩ := List.mem_map.mp hu
        simp only [List.map_cons, List.map_nil, List.mem_singleton] at hv
        exact fresh y hy (e.trans hv)
      · rcases List.mem_append.mp hy with hy | hy
        · exact hok y hy
        · rw [List.mem_singleton.mp hy]
          exact hx
      · rcases List.mem_append.mp hy with hy | hy
        · exact hsf y hy
        · rw [List.mem_singleton.mp hy]
          exact f5
      · rw [List.map_append, List.sum_append, Nat.add_mul, Nat.one_mul]
        simp only [List.map_cons, List.map_nil, List.sum_cons, List.sum_nil]
        omega
      · rw [List.map_append, List.sum_append, Nat.add_mul, Nat.one_mul]
        simp only [List.map_cons, List.map_nil, List.sum_cons, List.sum_nil]
        omega
    · refine ⟨_, _, ys, rs, z', rfl, el4, ty, k4, s4', z4, by omega, hnd, hok, hsf, ?_, ?_⟩
      · rw [Nat.add_mul]
        omega
      · rw [Nat.add_mul]
        omega
  · obtain ⟨x4, x5, ys, rs, z', rfl, el2, ty, k2, s2, z2, hl2, hnd, hok, hsf, hc, hb⟩ := h
    refine ⟨_, rfl, l, ys, rfl, .inl ⟨SqL.of el2, fun p hp => ?_⟩⟩
    have q3 := same_new hp (.tup ys)
    have b1 : n.toNat * Bn ≤ 3 * Bn := Nat.mul_le_mul_right Bn (by omega)
    have b2 : n.toNat * L ≤ 3 * L := Nat.mul_le_mul_right L (by omega)
    exact kq _ rs z' _ (k2.trans (kp_same q3)) (s2.sm q3) (z2.sm q3) (td_new hp ty) (by omega) hnd hok hsf (by omega) (by omega)
theorem ok_schema1 (B : Bi mg) (D : Df K mg "_law_schema" s_L_schema p_L_schema) (hL_draw : Has P w K mg base k "_law_draw" p_L_draw spDraw) (hL_leaf_schema : Has P w K mg base k "_law_leaf_schema" p_L_leaf_schema spLS) : Has P w K mg base (k + 1) "_law_schema" p_L_schema (spSchema 1 1 1) := by
  have nd := sc_L_schema.nd
  refine D.ok sc_L_schema (fun vs H Q E h => ?_) (fun f cdv A outer s H vs Q E hr h => ?_)
  · obtain ⟨_, _, _, _, rfl, _⟩ := h
    rfl
  obtain ⟨a, r, z, dep, rfl, hdep, hs, hz, kq⟩ := h
  refine ⟨_, pss_cons (ps_asg (pe_op op_sub (pe_ix ix_list (pv 2) pe_int (fun _ _ => rfl)) pe_int) (pg_sub (pv 2) pe_int set_list))
    (pss_cons (ps_set (i := 3) nd rfl (by first | exact Or.inl rfl | exact Or.inr rfl) (pe_has hL_draw hr (by rfl) (pa_cons (pv 0) (pa_cons pe_int pa_nil))))
    (pss_cons (ps_if (PW.pt (pw_or (pt_cmpR op_lt (pv 1) pe_int (nomark _)) (pw_or (pt_cmpR op_lt (pe_ix ix_list (pv 2) pe_int (fun _ _ => rfl)) pe_int (nomark _)) (pw_or1 (pt_cmpR op_lt (pv 3) pe_int (nomark _)))))) (pss_one (ps_ret (pe_has hL_leaf_schema hr (by rfl) (pa_cons (pv 0) (pa_cons (pv 2) pa_nil))))) pss_nil) pss_never)), ?_⟩
  refine ⟨_, rfl, r, _, _, _, rfl, rfl, SqL.of hz, rfl, _, _, rfl, rfl, _, rfl, r, _, 0, 0, rfl, rfl, hz, rfl, ?_⟩
  have ra := src_ne hs hz
  have k1 : Kp (At2 a r) H (upd H r (.lst (([.int z] : List V).set 0 (.int (z - 1))))) := fun b o nb e => by
    rw [upd_ne (fun q => nb (.inr q))]; exact e
  have z1 : Rm (upd H r (.lst (([.int z] : List V).set 0 (.int (z - 1))))) r (z - 1) := upd_same
  have s1 : Src (upd H r (.lst (([.int z] : List V).set 0 (.int (z - 1))))) a := by
    obtain ⟨x, f, c, ha⟩ := hs
    exact ⟨x, f, c, by rw [upd_ne ra.symm]; exact ha⟩
  generalize upd H r (.lst (([.int z] : List V).set 0 (.int (z - 1)))) = H1 at *
  refine ⟨_, rfl, a, 12, rfl, s1, by decide, by decide, fun i H2 i0 i1 k2 s2 => ?_⟩
  have z2 := z1.kp s1 k2
  refine ⟨_, rfl, _, _, rfl, rfl, _, rfl, if_t (decide_eq_true (by omega)) (if_t rfl ?_)⟩
  exact ⟨_, rfl, _, rfl, a, r, z - 1, rfl, s2, z2, fun v q z' H' k3 s3 r3 t3 f3 c3 b3 => kq v q z' H' (k1.trans ((kp2 k2).trans k3)) s3 r3 t3 (fun n hn => (f3 0).up hn) (by omega) (by omega)⟩
theorem ok_schema_turn (B : Bi mg) (D : Df K mg "_law_schema" s_L_schema p_L_schema) {d Bn L : Nat} (hd1 : 1 ≤ d) (hL_draw : Has P w K mg base k "_law_draw" p_L_draw spDraw) (hL_leaf_schema : Has P w K mg base k "_law_leaf_schema" p_L_leaf_schema spLS) (hL_bounds : Has P w K mg base k "_law_bounds" p_L_bounds spBounds)
    (hL_rows : Has P w K mg base k "_law_rows" p_L_rows (spRows d Bn L)) (hL_schema : Has P w K mg base k "_law_schema" p_L_schema (spSchema d Bn L)) (hL_schema1 : Has P w K mg base k "_law_schema" p_L_schema (spSchema 1 1 1)) : Has P w K mg base (k + 1) "_law_schema" p_L_schema (spSchema (d + 1) (3 * Bn + 2) (3 * L + 1)) := by
  have nd := sc_L_schema.nd
  refine D.ok sc_L_schema (fun vs H Q E h => ?_) (fun f cdv A outer s H vs Q E hr h => ?_)
  · obtain ⟨_, _, _, _, rfl, _⟩ := h
    rfl
  obtain ⟨a, r, z, dep, rfl, hdep, hs, hz, kq⟩ := h
  refine ⟨_, pss_cons (ps_asg (pe_op op_sub (pe_ix ix_list (pv 2) pe_int (fun _ _ => rfl)) pe_int) (pg_sub (pv 2) pe_int set_list))
    (pss_cons (ps_set (i := 3) nd rfl (by first | exact Or.inl rfl | exact Or.inr rfl) (pe_has hL_draw hr (by rfl) (pa_cons (pv 0) (pa_cons pe_int pa_nil))))
    (pss_cons (ps_if (PW.pt (pw_or (pt_cmpR op_lt (pv 1) pe_int (nomark _)) (pw_or (pt_cmpR op_lt (pe_ix ix_list (pv 2) pe_int (fun _ _ => rfl)) pe_int (nomark _)) (pw_or1 (pt_cmpR op_lt (pv 3) pe_int (nomark _)))))) (pss_one (ps_ret (pe_has hL_leaf_schema hr (by rfl) (pa_cons (pv 0) (pa_cons (pv 2) pa_nil))))) pss_nil)
    (pss_cons (ps_if (pt_cmpR op_lt (pv 3) pe_int (nomark _)) (pss_cons (ps_set (i := 5) nd rfl (by first | exact Or.inl rfl | exact Or.inr rfl) (pe_has hL_rows hr (by rfl) (pa_cons (pv 0) (pa_cons (pe_op op_sub (pv 1) pe_int) (pa_cons (pv 2) pa_nil)))))
      (pss_one (ps_ret (pe_tup (pa_cons pe_str (pa_cons (pv 5) (pa_cons (pe_has hL_schema1 hr (by rfl) (pa_cons (pv 0) (pa_cons pe_int (pa_cons (pv 2) pa_nil)))) pa_nil))))))) pss_nil)
    (pss_cons (ps_if (pt_cmpR op_eq (pv 3) pe_int (nomark _)) (pss_cons (ps_set (i := 6) nd rfl (by first | exact Or.inl rfl | exact Or.inr rfl) (pe_has hL_bounds hr (by rfl) (pa_cons (pv 0) (pa_cons pe_int pa_nil))))
      (pss_one (ps_ret (pe_tup (pa_cons pe_str (pa_cons (pe_has hL_schema hr (by rfl) (pa_cons (pv 0) (pa_cons (pe_op op_sub (pv 1) pe_int) (pa_cons (pv 2) pa_nil)))) (pa_cons (pe_ix ix_tup (pv 6) pe_int (fun _ _ => rfl)) (pa_cons (pe_ix ix_tup (pv 6) pe_int (fun _ _ => rfl)) pa_nil)))))))) pss_nil)
    (pss_cons (ps_if (pt_cmpR op_eq (pv 3) pe_int (nomark _)) (pss_one (ps_ret (pe_tup (pa_cons pe_str (pa_cons (pe_callTy call_tuple_of (by rfl) B.tuple_ (by decide +kernel) (pa_cons (pe_lc (own := [("_law_j", 7)]) (g := gName 7) (tt := tYes) rfl nd (pi_range1 (by rfl) B.range (pa_cons (pe_has hL_draw hr (by rfl) (pa_cons (pv 0) (pa_cons pe_int pa_nil))) pa_nil)) (blkOk_by (N := n_L_schema) (sc := defScope s_L_schema) (by decide +kernel)) (fun _ _ _ _ _ => pg_name (i := 7) nd rfl (Or.inl rfl)) (fun _ _ _ _ _ => pts_nil) (fun _ _ _ _ _ => (pe_has hL_schema hr (by rfl) (pa_cons (pv 0) (pa_cons (pe_op op_sub (pv 1) pe_int) (pa_cons (pv 2) pa_nil)))))) pa_nil)) pa_nil))))) pss_nil)
    (pss_cons (ps_if (pt_cmpR op_eq (pv 3) pe_int (nomark _)) (pss_one (ps_ret (pe_tup (pa_cons pe_str (pa_cons (pe_has hL_schema hr (by rfl) (pa_cons (pv 0) (pa_cons (pe_op op_sub (pv 1) pe_int) (pa_cons (pv 2) pa_nil)))) pa_nil))))) pss_nil)
    (pss_cons (ps_set (i := 4) nd rfl (by first | exact Or.inl rfl | exact Or.inr rfl) (pe_ix ix_list (pe_lst (pa_cons pe_str (pa_cons pe_str pa_nil))) (pe_op op_sub (pv 3) pe_int) (fun _ _ => rfl)))
    (pss_one (ps_ret (pe_tup (pa_cons (pv 4) (pa_cons (pe_callTy call_tuple_of (by rfl) B.tuple_ (by decide +kernel) (pa_cons (pe_lc (own := [("_law_j", 7)]) (g := gName 7) (tt := tYes) rfl nd (pi_range1 (by rfl) B.range (pa_cons (pe_ix ix_list (pe_lst (pa_cons pe_int (pa_cons pe_int (pa_cons pe_int (pa_cons pe_int pa_nil))))) (pe_has hL_draw hr (by rfl) (pa_cons (pv 0) (pa_cons pe_int pa_nil))) (fun _ _ => rfl)) pa_nil)) (blkOk_by (N := n_L_schema) (sc := defScope s_L_schema) (by decide +kernel)) (fun _ _ _ _ _ => pg_name (i := 7) nd rfl (Or.inl rfl)) (fun _ _ _ _ _ => pts_nil) (fun _ _ _ _ _ => (pe_has hL_schema hr (by rfl) (pa_cons (pv 0) (pa_cons (pe_op op_sub (pv 1) pe_int) (pa_cons (pv 2) pa_nil)))))) pa_nil)) pa_nil)))))))))))), ?_⟩
  refine ⟨_, rfl, r, _, _, _, rfl, rfl, SqL.of hz, rfl, _, _, rfl, rfl, _, rfl, r, _, 0, 0, rfl, rfl, hz, rfl, ?_⟩
  have ra := src_ne hs hz
  have k1 : Kp (At2 a r) H (upd H r (.lst (([.int z] : List V).set 0 (.int (z - 1))))) := fun b o nb e => by
    rw [upd_ne (fun q => nb (.inr q))]; exact e
  have z1 : Rm (upd H r (.lst (([.int z] : List V).set 0 (.int (z - 1))))) r (z - 1) := upd_same
  have s1 : Src (upd H r (.lst (([.int z] : List V).set 0 (.int (z - 1))))) a := by
    obtain ⟨x, f, c, ha⟩ := hs
    exact ⟨x, f, c, by rw [upd_ne ra.symm]; exact ha⟩
  generalize upd H r (.lst (([.int z] : List V).set 0 (.int (z - 1)))) = H1 at *
  refine ⟨_, rfl, a, 12, rfl, s1, by decide, by decide, fun i H2 i0 i1 k2 s2 => ?_⟩
  have z2 := z1.kp s1 k2
  have kk2 : Kp (At2 a r) H H2 := k1.trans (kp2 k2)
  have leaf : tRet (tCall spLS [] E0 (tCons (tVar 0) (tCons (tVar 2) tNil))) { nx := fun _ H' => Q .non H', rt := Q } [some (.ref a), some (.int dep), some (.ref r), some (.int i), none, none, none, none] H2 :=
    ⟨_, rfl, _, rfl, a, r, z - 1, rfl, s2, z2, fun v q z' H' k3 s3 r3 t3 f3 c3 b3 => kq v q z' H' (kk2.trans k3) s3 r3 t3 (fun n hn => by
      cases n with
      | zero => omega
      | succ n => exact f3 n) (by omega) (by omega)⟩
  have up : ∀ {q : Q4}, (∀ n, d ≤ n → SF (n + 1) q) → ∀ n, d + 1 ≤ n → SF n q := fun {q} h n hn => by
    cases n with
    | zero => omega
    | succ n => exact h n (by omega)
  refine ⟨_, rfl, _, _, rfl, rfl, _, rfl, if_f (decide_eq_false (by omega)) ?_⟩
  refine ⟨_, rfl, r, _, _, _, rfl, rfl, SqL.of z2, rfl, _, _, rfl, rfl, _, rfl, ite2 (fun _ => if_t rfl leaf) (fun _ => ?_)⟩
  refine ⟨_, rfl, _, _, rfl, rfl, _, rfl, ite2 (fun _ => leaf) (fun c0 => ?_)⟩
  have g0 : ¬ i < 4 := fun h => c0 (decide_eq_true h)
  -- object
  refine ⟨_, rfl, _, _, rfl, rfl, _, rfl, ite2 (fun _ => ?_) (fun c1 => ?_)⟩
  · refine ⟨_, rfl, _, rfl, _, _, rfl, rfl, _, rfl, a, r, z - 1, _, rfl, by omega, s2, z2, fun v rs z3 H3 k3 s3 r3 t3 l3 n3 o3 f3 c3 b3 => ?_⟩
    refine ⟨_, rfl, _, rfl, _, rfl, a, r, z3, 1, rfl, rfl, s3, r3, fun u y z4 H4 k4 s4 r4 t4 f4 c4 b4 => ⟨line 3 (by decide), fun p hp => ?_⟩⟩
    have q5 := same_new hp (.tup [.str "object", v, u])
    refine kq _ ⟨_, formD "object" [.tuple [.str "list", .tuple (rs.map rowF)], y.f], _, _⟩ z4 _ (kk2.trans (k3.trans (k4.trans (kp_same q5)))) (s4.sm q5) (r4.sm q5) (td_new hp (tds3 (.str "object") (t3.tu (tu2 s3 r3 k4)) t4)) (up fun n hn => .object rs y l3 n3 o3 (fun x hx => f3 x hx n hn) (f4 n (by omega))) ?_ ?_
    · show 1 + ((rs.map fun x => x.q.c).sum + y.c) ≤ 3 * Bn + 2
      omega
    · show 3 * ((rs.map fun x => x.q.k).sum + y.k) + 2 * z4.toNat ≤ 3 * (3 * L + 1) + 2 * z.toNat
      omega
  have g1 : ¬ i < 7 := fun h => c1 (decide_eq_true h)
  -- list
  refine ⟨_, rfl, rfl, _, rfl, ite2 (fun _ => ?_) (fun c2 => ?_)⟩
  · refine ⟨_, rfl, a, 0, rfl, s2, fun p lo hi H3 k3 s3 b1 b2 b3 ep => ?_⟩
    have z3 := z2.kp s2 k3
    refine ⟨_, rfl, _, rfl, _, _, rfl, rfl, _, rfl, a, r, z - 1, _, rfl, by omega, s3, z3, fun v x z4 H4 k4 s4 r4 t4 f4 c4 b4 => ?_⟩
    have ep4 := tu2 s3 z3 k4 _ _ ep
    refine ⟨_, rfl, p, _, _, _, rfl, rfl, SqT.of ep4, rfl, _, rfl, p, _, _, _, rfl, rfl, SqT.of ep4, rfl, line 4 (by decide), fun p5 hp5 => ?_⟩
    have q5 := same_new hp5 (.tup [.str "list", v, .int lo, bndV hi])
    refine kq _ ⟨_, formD "list" [x.f, bndF (some lo), bndF hi], 1 + x.c, x.k⟩ z4 _ (kk2.trans ((kp2 k3).trans (k4.trans (kp_same q5)))) (s4.sm q5) (r4.sm q5) (td_new hp5 (tds4 (.str "list") t4 (.int lo) (bnd_d _ hi))) (up fun n hn => .list x lo hi (by omega) (by omega) (fun i e => by have := b3 i e; omega) (f4 n hn)) ?_ ?_
    · show 1 + x.c ≤ 3 * Bn + 2
      omega
    · show 3 * x.k + 2 * z4.toNat ≤ 3 * (3 * L + 1) + 2 * z.toNat
      omega
  -- tuple
  refine ⟨_, rfl, rfl, _, rfl, ite2 (fun _ => ?_) (fun c3 => ?_)⟩
  · refine ⟨_, rfl, a, 4, rfl, s2, by decide, by decide, fun n H3 n0 n1 k3 s3 => ⟨n, rfl, by omega, by omega, ?_⟩⟩
    have z3 := z2.kp s2 k3
    refine lcMany (d := d) (B := Bn) (L := L) (n := n.toNat) (j := 7) (by omega) s3 z3 (fun i H' z' h1 h2 K' kk => ⟨_, rfl, _, rfl, _, _, rfl, rfl, _, rfl, a, r, z', _, rfl, by omega, h1, h2, kk⟩) (fun D H4 ys xs z4 k4 eD ty hl s4 r4 f4 c4 b4 => ?_)
    refine ⟨D, ys, rfl, .inl ⟨SqL.of eD, fun p hp => ⟨line 2 (by decide), fun p2 hp2 => ?_⟩⟩⟩
    have t5 := td_new hp ty
    have q5 := (same_new hp (.tup ys)).trans (same_new hp2 (.tup [.str "tuple", .ref p]))
    refine kq _ ⟨_, formD "tuple" [.tuple [.str "list", .tuple (xs.map Q4.f)]], _, _⟩ z4 _ (kk2.trans ((kp2 k3).trans (k4.trans (kp_same q5)))) (s4.sm q5) (r4.sm q5) (td_new hp2 (tds2 (.str "tuple") t5)) (up fun n hn => .many "tuple" xs (.inl rfl) hl fun x hx => f4 x hx n hn) ?_ ?_
    · show 1 + (xs.map Q4.c).sum ≤ 3 * Bn + 2
      omega
    · show 3 * (xs.map Q4.k).sum + 2 * z4.toNat ≤ 3 * (3 * L + 1) + 2 * z.toNat
      omega
  -- not
  refine ⟨_, rfl, rfl, _, rfl, ite2 (fun _ => ?_) (fun c4 => ?_)⟩
  · refine ⟨_, rfl, _, rfl, _, _, rfl, rfl, _, rfl, a, r, z - 1, _, rfl, by omega, s2, z2, fun v x z4 H4 k4 s4 r4 t4 f4 c4 b4 => ⟨line 2 (by decide), fun p hp => ?_⟩⟩
    have q5 := same_new hp (.tup [.str "not", v])
    refine kq _ ⟨_, formD "not" [x.f], 1 + x.c, x.k⟩ z4 _ (kk2.trans (k4.trans (kp_same q5))) (s4.sm q5) (r4.sm q5) (td_new hp (tds2 (.str "not") t4)) (up fun n hn => .not x (f4 n hn)) ?_ ?_
    · show 1 + x.c ≤ 3 * Bn + 2
      omega
    · show 3 * x.k + 2 * z4.toNat ≤ 3 * (3 * L + 1) + 2 * z.toNat
      omega
  -- either, all
  have g2 : ¬ i = 7 := fun h => c2 (decide_eq_true (by rw [h]))
  have g3 : ¬ i = 8 := fun h => c3 (decide_eq_true (by rw [h]))
  have g4 : ¬ i = 9 := fun h => c4 (decide_eq_true (by rw [h]))
  obtain ⟨wv, hwv, hwm⟩ := atI_in (xs := ([.str "either", .str "all"] : List V)) (i := i - 10) (by omega) (by simp; omega)
  obtain ⟨x, rfl, hx⟩ : ∃ x : Str, wv = .str x ∧ (x = "tuple" ∨ x = "either" ∨ x = "all") := by
    simp only [List.mem_cons, List.not_mem_nil, or_false] at hwm
    rcases hwm with rfl | rfl
    · exact ⟨_, rfl, .inr (.inl rfl)⟩
    · exact ⟨_, rfl, .inr (.inr rfl)⟩
  refine ⟨line 2 (by decide), fun l hl => ?_⟩
  have q3 := same_new hl (.lst [.str "either", .str "all"])
  refine ⟨_, rfl, _, _, rfl, rfl, l, _, _, _, rfl, rfl, SqL.of upd_same, hwv, ?_⟩
  have s3 := s2.sm q3
  have z3 := z2.sm q3
  generalize upd H2 l (.lst [.str "either", .str "all"]) = H3 at *
  refine ⟨_, rfl, line 4 (by decide), fun l2 hl2 => ?_⟩
  have q4 := same_new hl2 (.lst [.int 1, .int 2, .int 2, .int 0])
  have el : (upd H3 l2 (.lst [.int 1, .int 2, .int 2, .int 0])) l2 = some (.lst [.int 1, .int 2, .int 2, .int 0]) := upd_same
  have s4 := s3.sm q4
  have z4 := z3.sm q4
  have la : l2 ≠ a := fun e => s3.some a rfl (e ▸ hl2)
  generalize upd H3 l2 (.lst [.int 1, .int 2, .int 2, .int 0]) = H4 at *
  refine ⟨_, rfl, a, 4, rfl, s4, by decide, by decide, fun m H5 m0 m1 k5 s5 => ?_⟩
  have z5 := z4.kp s4 k5
  obtain ⟨nv, hnv, hnm⟩ := atI_in (xs := ([.int 1, .int 2, .int 2, .int 0] : List V)) m0 (by simp; omega)
  obtain ⟨n, rfl, n0, n1⟩ : ∃ n : Int, nv = .int n ∧ 0 ≤ n ∧ n ≤ 2 := by
    simp only [List.mem_cons, List.not_mem_nil, or_false] at hnm
    rcases hnm with rfl | rfl | rfl | rfl <;> exact ⟨_, rfl, by decide, by decide⟩
  refine ⟨l2, _, _, _, rfl, rfl, SqL.of (k5 l2 _ la el), hnv, n, rfl, by omega, by omega, ?_⟩
  have kk5 : Kp (At2 a r) H H5 := kk2.trans ((kp_same (q3.trans q4)).trans (kp2 k5))
  refine lcMany (d := d) (B := Bn) (L := L) (n := n.toNat) (j := 7) (by omega) s5 z5 (fun i H' z' h1 h2 K' kk => ⟨_, rfl, _, rfl, _, _, rfl, rfl, _, rfl, a, r, z', _, rfl, by omega, h1, h2, kk⟩) (fun D H6 ys xs z6 k6 eD ty hl s6 r6 f6 c6 b6 => ?_)
  refine ⟨D, ys, rfl, .inl ⟨SqL.of eD, fun p hp => ⟨line 2 (by decide), fun p2 hp2 => ?_⟩⟩⟩
  have t7 := td_new hp ty
  have q7 := (same_new hp (.tup ys)).trans (same_new hp2 (.tup [.str x, .ref p]))
  refine kq _ ⟨_, formD x [.tuple [.str "list", .tuple (xs.map Q4.f)]], _, _⟩ z6 _ (kk5.trans (k6.trans (kp_same q7))) (s6.sm q7) (r6.sm q7) (td_new hp2 (tds2 (.str x) t7)) (up fun n hn => .many x xs hx hl fun x hx => f6 x hx n hn) ?_ ?_
  · show 1 + (xs.map Q4.c).sum ≤ 3 * Bn + 2
    omega
  · show 3 * (xs.map Q4.k).sum + 2 * z6.toNat ≤ 3 * (3 * L + 1) + 2 * z.toNat
    omega
end
end Pk

/-! ### Pk, part L: the law -/
namespace Pk
open PySem PySem.Spec PyProof.Rows L2
abbrev s_law : Stmt := top 50
abbrev n_law : List Str := ["_law_script", "_law_schema_here", "_law_form_here", "_law_actual", "_law_back", "_law_number_here"]
abbrev p_law : List Str := ["_law_script"]
theorem sc_law : FnScope n_law p_law (defScope s_law) := ⟨rfl, rfl, rfl, by decide +kernel, rfl, by decide +kernel, by decide +kernel⟩
def spLaw (K : PySem.W.Frag) : Sp := fun vs H Q _ => ∃ (a : Addr) (ns : List Int), vs = [.ref a] ∧ SqL K H a (ns.map V.int) ∧ ns.length ≤ 63 ∧ ∀ H', Q (.bl true) H'
def tRest (K : PySem.W.Frag) : TS :=
  tSeq (tAsg (tCall (spSTV 3) [] E0 (tCons (tVar 1) tNil)) (gName 2)) (tSeq (tAsg (tCall (spSTV 3) [] E0 (tCons (tVar 1) tNil)) (gName 3))
    (tSeq (tIfS (tOr (tNot (tB (tCall (spIsVal 9) [] E0 (tCons (tVar 3) (tCons (tC (.int 100)) tNil))))) (tTest (tOp (rNeD K) (tVar 3) (tVar 2)))) (tRet (tC (.bl false))) tNext)
      (tSeq (tAsg (tCall spSFV [] E0 (tCons (tVar 2) tNil)) (gName 4)) (tRet (tAndV (tCB (rIsi K) (tCons (tVar 4) (tCons (tC (.ty "tuple")) tNil))) (tOp (rEqD K) (tVar 4) (tVar 1)))))))
theorem SF.tup {n : Nat} {q : Q4} (h : SF n q) : ∃ ds, q.s = .tuple ds := by
  cases h <;> exact ⟨_, rfl⟩
theorem rest_ok {K : PySem.W.Frag} {Q : VK} {a : Addr} {v : V} {q : Q4} {x5 : Option V} {H : Hp} (hS : SF 3 q) (hc : q.c ≤ 30) (hk : q.k ≤ 20) (hd : TD H v q.s) (kq : ∀ H', Q (.bl true) H') :
    tRest K { nx := fun _ H' => Q .non H', rt := Q } [some (.ref a), some v, none, none, none, x5] H := by
  refine ⟨_, rfl, v, q, rfl, hS, hd, fun r1 H1 s1 t1 => ?_⟩
  refine ⟨_, rfl, v, q, rfl, hS, hd.sm s1, fun r2 H2 s2 t2 => ?_⟩
  obtain ⟨z, hz⟩ := hS.isv
  refine ⟨_, rfl, r2, q.f, z, 100, rfl, hz, by decide, t2, fun H3 s3 => ⟨_, rfl, if_f rfl ?_⟩⟩
  have shF := hS.shF (by decide)
  have shS := hS.shS (by decide)
  refine ⟨_, rfl, _, rfl, q.f, q.f, TD.dp _ _ (t2.sm s3), TD.dp _ _ (t1.sm (s2.trans s3)), shF, shF, _, rfl, if_f ?_ ?_⟩
  · rw [SeqAt.eqv_refl _ (SeqAt.canLay_of_shaped shF)]
    rfl
  refine ⟨_, rfl, r1, q, rfl, hS, hc, hk, t1.sm (s2.trans s3), fun r4 H4 s4 t4 => ?_⟩
  obtain ⟨ds, e⟩ := hS.tup
  have t4' := t4
  rw [e] at t4'
  obtain ⟨b, ys, rfl, hb, _⟩ := t4'.i_tup
  refine ⟨_, rfl, _, _, _, _, true, rfl, .ty "tuple", .base (.tup hb), kit_ty (by decide +kernel), _, rfl, if_t rfl ?_⟩
  refine ⟨_, rfl, _, rfl, q.s, q.s, TD.dp _ _ t4, TD.dp _ _ (hd.sm (s1.trans (s2.trans (s3.trans s4)))), shS, shS, ?_⟩
  rw [SeqAt.eqv_refl _ (SeqAt.canLay_of_shaped shS)]
  exact kq H4
def tPick (K : PySem.W.Frag) : TS :=
  tAsg (tOp (rIxL K) (tLst (tCons (tTup (tCons (tC (.str "int")) (tCons (tOp (rI0 fun i j => .int (i - j)) (tC (.int 0)) (tVar 5)) (tCons (tVar 5) tNil)))) (tCons (tTup (tCons (tC (.str "int")) (tCons (tC .non) (tCons (tVar 5) tNil)))) (tCons (tTup (tCons (tC (.str "int")) (tCons (tVar 5) (tCons (tC .non) tNil)))) tNil))))
    (tOp (rI (fun _ j => 0 < j) fun i j => .int (i % j)) (tOp (rI CDiv fun i j => .int (i / j)) (tCall (spCell K) [] E0 (tCons (tVar 0) (tCons (tC (.int 1)) tNil))) (tC (.int 4))) (tC (.int 3)))) (gName 1)
theorem pick_ok {K : PySem.W.Frag} {Q : VK} {a : Addr} {ns : List Int} {x1 : Option V} {n : Int} {H : Hp} (hS : SqL K H a (ns.map V.int)) (kq : ∀ H', Q (.bl true) H') :
    tPick K { nx := tRest K { nx := fun _ H' => Q .non H', rt := Q }, rt := Q } [some (.ref a), x1, none, none, none, some (.int n)] H := by
  refine ⟨_, rfl, _, _, rfl, rfl, _, rfl, line 3 (by decide), fun p1 hp1 => ?_⟩
  have q4 := same_new hp1 (.tup [.str "int", .int (0 - n), .int n])
  have t4 : TD (upd H p1 (.tup [.str "int", .int (0 - n), .int n])) (.ref p1) (.tuple [.str "int", bndD (some (0 - n)), bndD (some n)]) := td_new hp1 (tds3 (.str "int") (.int _) (.int _))
  refine ⟨_, rfl, line 3 (by decide), fun p2 hp2 => ?_⟩
  have hp2 : (upd H p1 (.tup [.str "int", .int (0 - n), .int n])) p2 = none := hp2
  have q5 := same_new hp2 (.tup [.str "int", .non, .int n])
  have t5 : TD (upd (upd H p1 (.tup [.str "int", .int (0 - n), .int n])) p2 (.tup [.str "int", .non, .int n])) (.ref p2) (.tuple [.str "int", bndD none, bndD (some n)]) := td_new hp2 (tds3 (.str "int") .non (.int _))
  refine ⟨_, rfl, line 3 (by decide), fun p3 hp3 => ?_⟩
  have hp3 : (upd (upd H p1 (.tup [.str "int", .int (0 - n), .int n])) p2 (.tup [.str "int", .non, .int n])) p3 = none := hp3
  have q6 := same_new hp3 (.tup [.str "int", .int n, .non])
  have t6 : TD (upd (upd (upd H p1 (.tup [.str "int", .int (0 - n), .int n])) p2 (.tup [.str "int", .non, .int n])) p3 (.tup [.str "int", .int n, .non])) (.ref p3) (.tuple [.str "int", bndD (some n), bndD none]) := td_new hp3 (tds3 (.str "int") (.int _) .non)
  refine ⟨line 3 (by decide), fun l hl => ?_⟩
  have hl : (upd (upd (upd H p1 (.tup [.str "int", .int (0 - n), .int n])) p2 (.tup [.str "int", .non, .int n])) p3 (.tup [.str "int", .int n, .non])) l = none := hl
  have q7 := same_new hl (.lst [.ref p1, .ref p2, .ref p3])
  have hS7 := (q4.trans (q5.trans (q6.trans q7))).seq hS
  refine ⟨_, rfl, a, ns, 1, rfl, hS7, by decide, fun i3 => ⟨_, _, rfl, rfl, ⟨by decide, by decide⟩, _, _, rfl, rfl, (show (0 : Int) < 3 by decide), ?_⟩⟩
  have j0 : 0 ≤ i3 / 4 % 3 := Int.emod_nonneg _ (by decide)
  have j1 : i3 / 4 % 3 < 3 := Int.emod_lt_of_pos _ (by decide)
  obtain ⟨u, hu, hm⟩ := atI_in (xs := ([.ref p1, .ref p2, .ref p3] : List V)) j0 (by simp; omega)
  refine ⟨l, _, _, u, rfl, rfl, SqL.of upd_same, hu, ?_⟩
  simp only [List.mem_cons, List.not_mem_nil, or_false] at hm
  rcases hm with rfl | rfl | rfl
  · exact rest_ok (q := ⟨_, formD "int" [bndF (some (0 - n)), bndF (some n)], 1, 0⟩) (.int (some (0 - n)) (some n)) (show 1 ≤ 30 by decide) (show 0 ≤ 20 by decide) (t4.sm (q5.trans (q6.trans q7))) kq
  · exact rest_ok (q := ⟨_, formD "int" [bndF none, bndF (some n)], 1, 0⟩) (.int none (some n)) (show 1 ≤ 30 by decide) (show 0 ≤ 20 by decide) (t5.sm (q6.trans q7)) kq
  · exact rest_ok (q := ⟨_, formD "int" [bndF (some n), bndF none], 1, 0⟩) (.int (some n) none) (show 1 ≤ 30 by decide) (show 0 ≤ 20 by decide) (t6.sm q7) kq
section
variable {P : Program} {w : World} {K : PySem.W.Frag} {mg : Str → Option Value} {base : Heap} {k : Nat}
theorem ok_law {f : Addr} {fd : FuncData} (B : Bi mg) (F : Fun K "law" "law" s_law f fd) (hL_cell : Has P w K mg base k "_law_cell" p_L_cell (spCell K)) (hL_source : Has P w K mg base k "_law_source" p_L_source spSource) (hL_schema : Has P w K mg base k "_law_schema" p_L_schema (spSchema 3 17 13))
    (hL_schema_form : Has P w K mg base k "_law_schema_form" p_L_schema_form (spSTV 3)) (hschema_to_value : Has P w K mg base k "schema_to_value" p_schema_to_value (spSTV 3)) (hL_is_value : Has P w K mg base k "_law_is_value" p_L_is_value (spIsVal 9)) (hschema_from_value : Has P w K mg base k "schema_from_value" p_schema_from_value spSFV) :
    FnOk P w K mg base CX0 (k + 1) f fd p_law (spLaw K) := by
  have nd := sc_law.nd
  refine F.ok sc_law (fun vs H Q E h => ?_) (fun cdv A outer s H vs Q E hr h => ?_)
  · obtain ⟨_, _, rfl, _⟩ := h
    rfl
  obtain ⟨a, ns, rfl, hS, hn, kq⟩ := h
  refine ⟨_, pss_cons (ps_set (i := 1) nd rfl (by first | exact Or.inl rfl | exact Or.inr rfl) (pe_has hL_schema hr (by rfl) (pa_cons (pe_has hL_source hr (by rfl) (pa_cons (pe_has hL_cell hr (by rfl) (pa_cons (pv 0) (pa_cons pe_int pa_nil))) pa_nil)) (pa_cons pe_int (pa_cons (pe_lst (pa_cons pe_int pa_nil)) pa_nil)))))
    (pss_cons (ps_if (pt_cmpR op_eq (pe_op op_mod (pe_has hL_cell hr (by rfl) (pa_cons (pv 0) (pa_cons pe_int pa_nil))) pe_int) pe_int (nomark _)) (pss_cons (ps_set (i := 5) nd rfl (by first | exact Or.inl rfl | exact Or.inr rfl) (pe_op op_mod (pe_callTy call_int1 (by rfl) B.int_ (by decide +kernel) (pa_cons (pe_has hL_cell hr (by rfl) (pa_cons (pv 0) (pa_cons pe_int pa_nil))) pa_nil)) (pe_op op_pow pe_int pe_int)))
      (pss_one (ps_set (i := 1) nd rfl (by first | exact Or.inl rfl | exact Or.inr rfl) (pe_ix ix_list (pe_lst (pa_cons (pe_tup (pa_cons pe_str (pa_cons (pe_op op_sub pe_int (pv 5)) (pa_cons (pv 5) pa_nil)))) (pa_cons (pe_tup (pa_cons pe_str (pa_cons pe_non (pa_cons (pv 5) pa_nil)))) (pa_cons (pe_tup (pa_cons pe_str (pa_cons (pv 5) (pa_cons pe_non pa_nil)))) pa_nil)))) (pe_op op_mod (pe_op op_fdiv (pe_has hL_cell hr (by rfl) (pa_cons (pv 0) (pa_cons pe_int pa_nil))) pe_int) pe_int) (fun _ _ => rfl))))) pss_nil)
    (pss_cons (ps_set (i := 2) nd rfl (by first | exact Or.inl rfl | exact Or.inr rfl) (pe_has hL_schema_form hr (by rfl) (pa_cons (pv 1) pa_nil)))
    (pss_cons (ps_set (i := 3) nd rfl (by first | exact Or.inl rfl | exact Or.inr rfl) (pe_has hschema_to_value hr (by rfl) (pa_cons (pv 1) pa_nil)))
    (pss_cons (ps_if (PW.pt (pw_or (pt_not (pt_val (pe_has hL_is_value hr (by rfl) (pa_cons (pv 3) (pa_cons pe_int pa_nil))))) (pw_or1 (pt_cmpR (op_neD hr.units) (pv 3) (pv 2) (nomark _))))) (pss_one (ps_ret pe_bl)) pss_nil)
    (pss_cons (ps_set (i := 4) nd rfl (by first | exact Or.inl rfl | exact Or.inr rfl) (pe_has hschema_from_value hr (by rfl) (pa_cons (pv 2) pa_nil)))
    (pss_one (ps_ret (pe_and (pe_callB call_isi (by rfl) B.isinstance (by decide +kernel) (pa_cons (pv 4) (pa_cons (pe_bltn (v := .ty "tuple") (by rfl) B.tuple_ (by decide +kernel) rfl) pa_nil))) (pe_one (pe_cmpR (op_eqD hr.units) (pv 4) (pv 1) (nomark _))))))))))), ?_⟩
  refine ⟨_, rfl, a, ns, 0, rfl, hS, by decide, fun i => ⟨i, rfl, fun s H1 q1 ns1 src1 => ?_⟩⟩
  refine ⟨line 1 (by decide), fun r hr' => ?_⟩
  have q2 := same_new hr' (.lst [.int 6])
  have rm2 : Rm (upd H1 r (.lst [.int 6])) r 6 := upd_same
  generalize upd H1 r (.lst [.int 6]) = H2 at *
  refine ⟨s, r, 6, 3, rfl, rfl, src1.sm q2, rm2, fun v q z H3 k3 s3 r3 t3 f3 c3 b3 => ?_⟩
  have sm : Same H H3 := fun b o e => k3 b o (fun z => by
    rcases z with z | z
    · rw [z, ns1] at e
      cases e
    · have := q1 b o e
      rw [z, hr'] at this
      cases this) (q2 b o (q1 b o e))
  have hS3 := sm.seq hS
  refine ⟨_, rfl, a, ns, 1, rfl, hS3, by decide, fun i1 => ⟨_, _, rfl, rfl, (show (0 : Int) < 4 by decide), rfl, _, rfl, ite2 (fun _ => ?_) (fun _ => ?_)⟩⟩
  · refine ⟨_, rfl, a, ns, 2, rfl, hS3, by decide, fun i2 => .inl ⟨_, rfl, _, _, rfl, rfl, ⟨by decide, by decide, by decide⟩, _, _, rfl, rfl, (show (0 : Int) < 10 ^ (60 : Int).toNat by decide), ?_⟩⟩
    exact pick_ok (n := i2 % (10 : Int) ^ (60 : Int).toNat) hS3 kq
  · exact rest_ok (q := q) (f3 3 (Nat.le_refl 3)) (by omega) (by have : (6 : Int).toNat = 6 := rfl; omega) t3 kq
end
/-- the program's defs as the top has made them -/
structure Dfs (K : PySem.W.Frag) (mg : Str → Option Value) : Prop where
  parts_of : Df K mg "parts_of" s_parts_of p_parts_of
  size_of : Df K mg "size_of" s_size_of p_size_of
  inner_schemas : Df K mg "inner_schemas" s_inner_schemas p_inner_schemas
  schema_count : Df K mg "schema_count" s_schema_count p_schema_count
  schema_depth : Df K mg "schema_depth" s_schema_depth p_schema_depth
  const_size : Df K mg "const_size" s_const_size p_const_size
  is_small_schema : Df K mg "is_small_schema" s_is_small_schema p_is_small_schema
  form : Df K mg "form" s_form p_form
  bound_to_value : Df K mg "bound_to_value" s_bound_to_value p_bound_to_value
  schemas_to_value : Df K mg "schemas_to_value" s_schemas_to_value p_schemas_to_value
  row_to_value : Df K mg "row_to_value" s_row_to_value p_row_to_value
  schema_to_value : Df K mg "schema_to_value" s_schema_to_value p_schema_to_value
  demand : Df K mg "demand" s_demand p_demand
  inside : Df K mg "inside" s_inside p_inside
  word_and_parts : Df K mg "word_and_parts" s_word_and_parts p_word_and_parts
  bound_from_value : Df K mg "bound_from_value" s_bound_from_value p_bound_from_value
  counts_from_values : Df K mg "counts_from_values" s_counts_from_values p_counts_from_values
  schemas_from_value : Df K mg "schemas_from_value" s_schemas_from_value p_schemas_from_value
  rows_from_value : Df K mg "rows_from_value" s_rows_from_value p_rows_from_value
  read_leaf : Df K mg "read_leaf" s_read_leaf p_read_leaf
  read_schema : Df K mg "read_schema" s_read_schema p_read_schema
  schema_from_value : Df K mg "schema_from_value" s_schema_from_value p_schema_from_value
  L_with : Df K mg "_law_with" s_L_with p_L_with
  L_is_integer : Df K mg "_law_is_integer" s_L_is_integer p_L_is_integer
  L_is_string : Df K mg "_law_is_string" s_L_is_string p_L_is_string
  L_is_value : Df K mg "_law_is_value" s_L_is_value p_L_is_value
  L_cell : Df K mg "_law_cell" s_L_cell p_L_cell
  L_source : Df K mg "_law_source" s_L_source p_L_source
  L_draw : Df K mg "_law_draw" s_L_draw p_L_draw
  L_char : Df K mg "_law_char" s_L_char p_L_char
  L_name : Df K mg "_law_name" s_L_name p_L_name
  L_number : Df K mg "_law_number" s_L_number p_L_number
  L_leaf : Df K mg "_law_leaf" s_L_leaf p_L_leaf
  L_object : Df K mg "_law_object" s_L_object p_L_object
  L_small : Df K mg "_law_small" s_L_small p_L_small
  L_bounds : Df K mg "_law_bounds" s_L_bounds p_L_bounds
  L_leaf_schema : Df K mg "_law_leaf_schema" s_L_leaf_schema p_L_leaf_schema
  L_rows : Df K mg "_law_rows" s_L_rows p_L_rows
  L_schema : Df K mg "_law_schema" s_L_schema p_L_schema
  L_form : Df K mg "_law_form" s_L_form p_L_form
  L_bound_form : Df K mg "_law_bound_form" s_L_bound_form p_L_bound_form
  L_schema_form : Df K mg "_law_schema_form" s_L_schema_form p_L_schema_form
section
variable {P : Program} {w : World} {K : PySem.W.Frag} {mg : Str → Option Value} {base : Heap}
theorem all_ok {f : Addr} {fd : FuncData} (B : Bi mg) (D : Dfs K mg) (F : Fun K "law" "law" s_law f fd) : FnOk P w K mg base CX0 12 f fd p_law (spLaw K) := by
  have demand : Has P w K mg base 1 "demand" p_demand spDemand := ok_demand D.demand
  have inside : Has P w K mg base 2 "inside" p_inside spInside := ok_inside D.inside demand
  have form : Has P w K mg base 1 "form" p_form spForm := ok_form B D.form
  have bound : Has P w K mg base 1 "bound_to_value" p_bound_to_value spBound := ok_bound D.bound_to_value
  have Lform : Has P w K mg base 1 "_law_form" p_L_form spForm := ok_L_form B D.L_form
  have Lbound : Has P w K mg base 1 "_law_bound_form" p_L_bound_form spBound := ok_L_bound D.L_bound_form
  have wp : Has P w K mg base 3 "word_and_parts" p_word_and_parts spWP := ok_wp B D.word_and_parts (demand.mono (by decide)) inside
  have bfv : Has P w K mg base 3 "bound_from_value" p_bound_from_value spBFV := ok_bfv D.bound_from_value inside
  have cfv : Has P w K mg base 4 "counts_from_values" p_counts_from_values spCFV := ok_cfv B D.counts_from_values (demand.mono (by decide)) (inside.mono (by decide)) bfv
  have leafR : Has P w K mg base 5 "read_leaf" p_read_leaf spRL := ok_read_leaf B D.read_leaf (demand.mono (by decide)) (bfv.mono (by decide)) cfv
  have rs : Has P w K mg base 10 "read_schema" p_read_schema (spRS 3) := ok_rs B D.read_schema D.schemas_from_value D.rows_from_value (demand.mono (by decide)) (inside.mono (by decide)) (wp.mono (by decide)) cfv leafR 3
  have stv : Has P w K mg base 6 "schema_to_value" p_schema_to_value (spSTV 3) := ok_stv B D.schema_to_value D.schemas_to_value D.row_to_value form bound 3
  have lsf : Has P w K mg base 4 "_law_schema_form" p_L_schema_form (spSTV 3) := ok_L_sf B D.L_schema_form Lform Lbound 3
  have size : Has P w K mg base 3 "size_of" p_size_of (spSize 2) := ok_size B D.size_of D.parts_of 2
  have count : Has P w K mg base 4 "schema_count" p_schema_count (spCount 3) := ok_count B D.schema_count D.inner_schemas 3
  have depth : Has P w K mg base 4 "schema_depth" p_schema_depth (spDepth 3) := ok_depth B D.schema_depth D.inner_schemas 3
  have csize : Has P w K mg base 6 "const_size" p_const_size (spCSize 3) := ok_csize B D.const_size D.inner_schemas size 3
  have small : Has P w K mg base 7 "is_small_schema" p_is_small_schema spSmall3 := ok_small B D.is_small_schema (count.mono (by decide)) (depth.mono (by decide)) csize
  have sfv : Has P w K mg base 11 "schema_from_value" p_schema_from_value spSFV := ok_sfv D.schema_from_value rs (demand.mono (by decide)) (small.mono (by decide))
  have isint : Has P w K mg base 1 "_law_is_integer" p_L_is_integer spIsInt := ok_L_is_int B D.L_is_integer
  have isstr : Has P w K mg base 1 "_law_is_string" p_L_is_string spIsStr := ok_L_is_str B D.L_is_string
  have isval : Has P w K mg base 10 "_law_is_value" p_L_is_value (spIsVal 9) := ok_L_is_val B D.L_is_value isint isstr 9
  have cell : Has P w K mg base 1 "_law_cell" p_L_cell (spCell K) := ok_cell B D.L_cell
  have source : Has P w K mg base 1 "_law_source" p_L_source spSource := ok_source B D.L_source
  have draw : Has P w K mg base 1 "_law_draw" p_L_draw spDraw := ok_draw B D.L_draw
  have char : Has P w K mg base 2 "_law_char" p_L_char spChar := ok_char B D.L_char draw
  have name : Has P w K mg base 3 "_law_name" p_L_name spName := ok_name B D.L_name (draw.mono (by decide)) char
  have number : Has P w K mg base 2 "_law_number" p_L_number spNumber := ok_number B D.L_number draw
  have leaf : Has P w K mg base 4 "_law_leaf" p_L_leaf spLeaf := ok_leaf B D.L_leaf (draw.mono (by decide)) (number.mono (by decide)) name
  have wth : Has P w K mg base 1 "_law_with" p_L_with spWith := ok_with B D.L_with
  have obj : Has P w K mg base 2 "_law_object" p_L_object spObj := ok_obj B D.L_object wth
  have lsmall : Has P w K mg base 5 "_law_small" p_L_small spSmall := ok_Lsmall B D.L_small (draw.mono (by decide)) (name.mono (by decide)) leaf (obj.mono (by decide))
  have bounds : Has P w K mg base 2 "_law_bounds" p_L_bounds spBounds := ok_bounds B D.L_bounds draw
  have ls : Has P w K mg base 6 "_law_leaf_schema" p_L_leaf_schema spLS := ok_ls B D.L_leaf_schema (draw.mono (by decide)) (bounds.mono (by decide)) lsmall (leaf.mono (by decide))
  have sc1 : Has P w K mg base 7 "_law_schema" p_L_schema (spSchema 1 1 1) := ok_schema1 B D.L_schema (draw.mono (by decide)) ls
  have rows1 : Has P w K mg base 8 "_law_rows" p_L_rows (spRows 1 1 1) := ok_rows B D.L_rows (draw.mono (by decide)) (name.mono (by decide)) sc1
  have sc2 : Has P w K mg base 9 "_law_schema" p_L_schema (spSchema 2 5 4) := ok_schema_turn B D.L_schema (by decide) (draw.mono (by decide)) (ls.mono (by decide)) (bounds.mono (by decide)) rows1 (sc1.mono (by decide)) (sc1.mono (by decide))
  have rows2 : Has P w K mg base 10 "_law_rows" p_L_rows (spRows 2 5 4) := ok_rows B D.L_rows (draw.mono (by decide)) (name.mono (by decide)) sc2
  have sc3 : Has P w K mg base 11 "_law_schema" p_L_schema (spSchema 3 17 13) := ok_schema_turn B D.L_schema (by decide) (draw.mono (by decide)) (ls.mono (by decide)) (bounds.mono (by decide)) rows2 (sc2.mono (by decide)) (sc1.mono (by decide))
  exact ok_law B F (cell.mono (by decide)) (source.mono (by decide)) sc3 (lsf.mono (by decide)) (stv.mono (by decide)) (isval.mono (by decide)) sfv
end
/-! #### what the top has written -/
theorem df_mk {K : PySem.W.Frag} {mg : Str → Option Value} {h : Heap} {x : Str} {st : Stmt} {ps : List Str} {f : Addr} {od an : Option Addr} {sl : Array (Option Value)} {oc kV dc pm cd ct : Value} (X : K.In h) (G : h.Ns mainGlobals mg)
    (a : PySem.W.nsIn K mainGlobals x = some (some (.ref f))) (l : K.lookup f = some ⟨oc, od, .func (PySem.W.fnOf x x (defArgs st) (defBody st) (defScope st) .none kV dc pm an cd ct), sl⟩) (c : PySem.W.codeIn K cd x = true) (kp : PySem.W.keepIn K (.ref f) = true)
    (b : ∀ (kV doc pm : Value) (an : Option Addr) (cdv ct : Value) (us : List Value), us.length = ps.length → bindArgs (PySem.W.fnOf x x (defArgs st) (defBody st) (defScope st) .none kV doc pm an cdv ct) ⟨us, []⟩ = pure (ps.zip us)) : Df K mg x st ps := by
  have F := fun_mk (st := st) l c kp
  exact ⟨f, _, F, PySem.W.mg_of X G a, F.binds (ps := ps) b⟩
theorem cont {p q : Prop} (h : p) (f : p → q) : q := f h
theorem most_mk {K : PySem.W.Frag} {mg : Str → Option Value} {h : Heap} {v : Value} (X : K.In h) (G : h.Ns mainGlobals mg) (a : PySem.W.nsIn K mainGlobals "MOST_COUNT" = some (some v)) (e : ∃ t, v = .int 30 t) : ∃ t, mg "MOST_COUNT" = some (.int 30 t) := by
  obtain ⟨t, rfl⟩ := e
  exact ⟨t, PySem.W.mg_of X G a⟩
theorem law_mk {l : PySem.W.OpenLaw} {w : World} {K : PySem.W.Frag} {mg : Str → Option Value} {h : Heap} {fa f : Addr} {od an : Option Addr} {sl : Array (Option Value)} {oc kV dc pm cd ct : Value} (X : K.In h) (G : h.Ns mainGlobals mg) (hfa : mg "law" = some (.ref fa))
    (a : PySem.W.nsIn K mainGlobals "law" = some (some (.ref f))) (lk : K.lookup f = some ⟨oc, od, .func (PySem.W.fnOf "law" "law" (defArgs s_law) (defBody s_law) (defScope s_law) .none kV dc pm an cd ct), sl⟩) (c : PySem.W.codeIn K cd "law" = true) (kp : PySem.W.keepIn K (.ref f) = true)
    (B : Bi mg) (D : Dfs K mg) : ∃ fd : FuncData, (∀ (s : Shared) (v : Value), BindsTo s fd ⟨[v], []⟩ [("_law_script", v)]) ∧ ∀ base : Heap, K.In base → base.Ns mainGlobals mg → FnOk l.prog w K mg base CX0 12 fa fd ["_law_script"] (spLaw K) := by
  have e := hfa.symm.trans (PySem.W.mg_of X G a)
  cases e
  exact ⟨_, fun s v => .of_eq rfl, fun base _ _ => all_ok B D (fun_mk (st := s_law) lk c kp)⟩
end Pk

open PySem PySem.W PyProof.Rows
set_option maxRecDepth 100000 in
set_option maxHeartbeats 0 in
theorem PySem.Challenge.cw_patchkept_k68_schemas_there_and_back_holds : PySem.Challenge.rw_patchkept_k68_schemas_there_and_back.Holds := by
  w_on; o_law; k_head; (case hw => w_witness2)
  k_fill
  refine L2.walk_of (l := PySem.Challenge.rw_patchkept_k68_schemas_there_and_back) (n := 63) (k := 12) (x := "_law_script") (CX := fun _ => L2.CX0) (sp := fun w => Pk.spLaw _) rfl (by decide) rfl ⟨rfl, by decide, by decide⟩ (fun w h Y => PySem.W.kIn_of Y) ?F (fun _ _ a ns hl _ hS => ⟨a, ns, rfl, hS, hl, fun _ => rfl⟩) (fun _ _ _ _ _ h => h)
  case F =>
    intro w mg fa h KX G hmg
    have B : Pk.Bi mg := by
      refine' ⟨PySem.W.mg_none_of KX G ?z0, PySem.W.mg_none_of KX G ?z1, PySem.W.mg_none_of KX G ?z2, PySem.W.mg_none_of KX G ?z3, PySem.W.mg_none_of KX G ?z4, PySem.W.mg_none_of KX G ?z5, PySem.W.mg_none_of KX G ?z6, PySem.W.mg_none_of KX G ?z7, PySem.W.mg_none_of KX G ?z8, PySem.W.mg_none_of KX G ?z9, PySem.W.mg_none_of KX G ?z10, PySem.W.mg_none_of KX G ?z11, Pk.most_mk KX G ?zm ?ze⟩
      (case z0 => k_is)
      (case z1 => k_is)
      (case z2 => k_is)
      (case z3 => k_is)
      (case z4 => k_is)
      (case z5 => k_is)
      (case z6 => k_is)
      (case z7 => k_is)
      (case z8 => k_is)
      (case z9 => k_is)
      (case z10 => k_is)
      (case z11 => k_is)
      (case zm => k_is)
      (case ze => exact ⟨_, rfl⟩)
    refine' Pk.cont (Pk.df_mk (x := "parts_of") (st := Pk.s_parts_of) (ps := Pk.p_parts_of) KX G ?a1 ?l1 ?c1 ?k1 (fun _ _ _ _ _ _ us hl => match us, hl with | [_], _ => rfl)) ?g1
    (case a1 => k_is); (case l1 => k_is); (case c1 => k_is); (case k1 => k_is)
    intro d_parts_of
    refine' Pk.cont (Pk.df_mk (x := "size_of") (st := Pk.s_size_of) (ps := Pk.p_size_of) KX G ?a2 ?l2 ?c2 ?k2 (fun _ _ _ _ _ _ us hl => match us, hl with | [_], _ => rfl)) ?g2
    (case a2 => k_is); (case l2 => k_is); (case c2 => k_is); (case k2 => k_is)
    intro d_size_of
    refine' Pk.cont (Pk.df_mk (x := "inner_schemas") (st := Pk.s_inner_schemas) (ps := Pk.p_inner_schemas) KX G ?a3 ?l3 ?c3 ?k3 (fun _ _ _ _ _ _ us hl => match us, hl with | [_], _ => rfl)) ?g3
    (case a3 => k_is); (case l3 => k_is); (case c3 => k_is); (case k3 => k_is)
    intro d_inner_schemas
    refine' Pk.cont (Pk.df_mk (x := "schema_count") (st := Pk.s_schema_count) (ps := Pk.p_schema_count) KX G ?a4 ?l4 ?c4 ?k4 (fun _ _ _ _ _ _ us hl => match us, hl with | [_], _ => rfl)) ?g4
    (case a4 => k_is); (case l4 => k_is); (case c4 => k_is); (case k4 => k_is)
    intro d_schema_count
    refine' Pk.cont (Pk.df_mk (x := "schema_depth") (st := Pk.s_schema_depth) (ps := Pk.p_schema_depth) KX G ?a5 ?l5 ?c5 ?k5 (fun _ _ _ _ _ _ us hl => match us, hl with | [_], _ => rfl)) ?g5
    (case a5 => k_is); (case l5 => k_is); (case c5 => k_is); (case k5 => k_is)
    intro d_schema_depth
    refine' Pk.cont (Pk.df_mk (x := "const_size") (st := Pk.s_const_size) (ps := Pk.p_const_size) KX G ?a6 ?l6 ?c6 ?k6 (fun _ _ _ _ _ _ us hl => match us, hl with | [_], _ => rfl)) ?g6
    (case a6 => k_is); (case l6 => k_is); (case c6 => k_is); (case k6 => k_is)
    intro d_const_size
    refine' Pk.cont (Pk.df_mk (x := "is_small_schema") (st := Pk.s_is_small_schema) (ps := Pk.p_is_small_schema) KX G ?a7 ?l7 ?c7 ?k7 (fun _ _ _ _ _ _ us hl => match us, hl with | [_], _ => rfl)) ?g7
    (case a7 => k_is); (case l7 => k_is); (case c7 => k_is); (case k7 => k_is)
    intro d_is_small_schema
    refine' Pk.cont (Pk.df_mk (x := "form") (st := Pk.s_form) (ps := Pk.p_form) KX G ?a8 ?l8 ?c8 ?k8 (fun _ _ _ _ _ _ us hl => match us, hl with | [_, _], _ => rfl)) ?g8
    (case a8 => k_is); (case l8 => k_is); (case c8 => k_is); (case k8 => k_is)
    intro d_form
    refine' Pk.cont (Pk.df_mk (x := "bound_to_value") (st := Pk.s_bound_to_value) (ps := Pk.p_bound_to_value) KX G ?a9 ?l9 ?c9 ?k9 (fun _ _ _ _ _ _ us hl => match us, hl with | [_], _ => rfl)) ?g9
    (case a9 => k_is); (case l9 => k_is); (case c9 => k_is); (case k9 => k_is)
    intro d_bound_to_value
    refine' Pk.cont (Pk.df_mk (x := "schemas_to_value") (st := Pk.s_schemas_to_value) (ps := Pk.p_schemas_to_value) KX G ?a10 ?l10 ?c10 ?k10 (fun _ _ _ _ _ _ us hl => match us, hl with | [_], _ => rfl)) ?g10
    (case a10 => k_is); (case l10 => k_is); (case c10 => k_is); (case k10 => k_is)
    intro d_schemas_to_value
    refine' Pk.cont (Pk.df_mk (x := "row_to_value") (st := Pk.s_row_to_value) (ps := Pk.p_row_to_value) KX G ?a11 ?l11 ?c11 ?k11 (fun _ _ _ _ _ _ us hl => match us, hl with | [_], _ => rfl)) ?g11
    (case a11 => k_is); (case l11 => k_is); (case c11 => k_is); (case k11 => k_is)
    intro d_row_to_value
    refine' Pk.cont (Pk.df_mk (x := "schema_to_value") (st := Pk.s_schema_to_value) (ps := Pk.p_schema_to_value) KX G ?a12 ?l12 ?c12 ?k12 (fun _ _ _ _ _ _ us hl => match us, hl with | [_], _ => rfl)) ?g12
    (case a12 => k_is); (case l12 => k_is); (case c12 => k_is); (case k12 => k_is)
    intro d_schema_to_value
    refine' Pk.cont (Pk.df_mk (x := "demand") (st := Pk.s_demand) (ps := Pk.p_demand) KX G ?a13 ?l13 ?c13 ?k13 (fun _ _ _ _ _ _ us hl => match us, hl with | [_], _ => rfl)) ?g13
    (case a13 => k_is); (case l13 => k_is); (case c13 => k_is); (case k13 => k_is)
    intro d_demand
    refine' Pk.cont (Pk.df_mk (x := "inside") (st := Pk.s_inside) (ps := Pk.p_inside) KX G ?a14 ?l14 ?c14 ?k14 (fun _ _ _ _ _ _ us hl => match us, hl with | [_, _], _ => rfl)) ?g14
    (case a14 => k_is); (case l14 => k_is); (case c14 => k_is); (case k14 => k_is)
    intro d_inside
    refine' Pk.cont (Pk.df_mk (x := "word_and_parts") (st := Pk.s_word_and_parts) (ps := Pk.p_word_and_parts) KX G ?a15 ?l15 ?c15 ?k15 (fun _ _ _ _ _ _ us hl => match us, hl with | [_], _ => rfl)) ?g15
    (case a15 => k_is); (case l15 => k_is); (case c15 => k_is); (case k15 => k_is)
    intro d_word_and_parts
    refine' Pk.cont (Pk.df_mk (x := "bound_from_value") (st := Pk.s_bound_from_value) (ps := Pk.p_bound_from_value) KX G ?a16 ?l16 ?c16 ?k16 (fun _ _ _ _ _ _ us hl => match us, hl with | [_], _ => rfl)) ?g16
    (case a16 => k_is); (case l16 => k_is); (case c16 => k_is); (case k16 => k_is)
    intro d_bound_from_value
    refine' Pk.cont (Pk.df_mk (x := "counts_from_values") (st := Pk.s_counts_from_values) (ps := Pk.p_counts_from_values) KX G ?a17 ?l17 ?c17 ?k17 (fun _ _ _ _ _ _ us hl => match us, hl with | [_, _], _ => rfl)) ?g17
    (case a17 => k_is); (case l17 => k_is); (case c17 => k_is); (case k17 => k_is)
    intro d_counts_from_values
    refine' Pk.cont (Pk.df_mk (x := "schemas_from_value") (st := Pk.s_schemas_from_value) (ps := Pk.p_schemas_from_value) KX G ?a18 ?l18 ?c18 ?k18 (fun _ _ _ _ _ _ us hl => match us, hl with | [_], _ => rfl)) ?g18
    (case a18 => k_is); (case l18 => k_is); (case c18 => k_is); (case k18 => k_is)
    intro d_schemas_from_value
    refine' Pk.cont (Pk.df_mk (x := "rows_from_value") (st := Pk.s_rows_from_value) (ps := Pk.p_rows_from_value) KX G ?a19 ?l19 ?c19 ?k19 (fun _ _ _ _ _ _ us hl => match us, hl with | [_], _ => rfl)) ?g19
    (case a19 => k_is); (case l19 => k_is); (case c19 => k_is); (case k19 => k_is)
    intro d_rows_from_value
    refine' Pk.cont (Pk.df_mk (x := "read_leaf") (st := Pk.s_read_leaf) (ps := Pk.p_read_leaf) KX G ?a20 ?l20 ?c20 ?k20 (fun _ _ _ _ _ _ us hl => match us, hl with | [_, _], _ => rfl)) ?g20
    (case a20 => k_is); (case l20 => k_is); (case c20 => k_is); (case k20 => k_is)
    intro d_read_leaf
    refine' Pk.cont (Pk.df_mk (x := "read_schema") (st := Pk.s_read_schema) (ps := Pk.p_read_schema) KX G ?a21 ?l21 ?c21 ?k21 (fun _ _ _ _ _ _ us hl => match us, hl with | [_], _ => rfl)) ?g21
    (case a21 => k_is); (case l21 => k_is); (case c21 => k_is); (case k21 => k_is)
    intro d_read_schema
    refine' Pk.cont (Pk.df_mk (x := "schema_from_value") (st := Pk.s_schema_from_value) (ps := Pk.p_schema_from_value) KX G ?a22 ?l22 ?c22 ?k22 (fun _ _ _ _ _ _ us hl => match us, hl with | [_], _ => rfl)) ?g22
    (case a22 => k_is); (case l22 => k_is); (case c22 => k_is); (case k22 => k_is)
    intro d_schema_from_value
    refine' Pk.cont (Pk.df_mk (x := "_law_with") (st := Pk.s_L_with) (ps := Pk.p_L_with) KX G ?a23 ?l23 ?c23 ?k23 (fun _ _ _ _ _ _ us hl => match us, hl with | [_, _, _], _ => rfl)) ?g23
    (case a23 => k_is); (case l23 => k_is); (case c23 => k_is); (case k23 => k_is)
    intro d_L_with
    refine' Pk.cont (Pk.df_mk (x := "_law_is_integer") (st := Pk.s_L_is_integer) (ps := Pk.p_L_is_integer) KX G ?a24 ?l24 ?c24 ?k24 (fun _ _ _ _ _ _ us hl => match us, hl with | [_], _ => rfl)) ?g24
    (case a24 => k_is); (case l24 => k_is); (case c24 => k_is); (case k24 => k_is)
    intro d_L_is_integer
    refine' Pk.cont (Pk.df_mk (x := "_law_is_string") (st := Pk.s_L_is_string) (ps := Pk.p_L_is_string) KX G ?a25 ?l25 ?c25 ?k25 (fun _ _ _ _ _ _ us hl => match us, hl with | [_], _ => rfl)) ?g25
    (case a25 => k_is); (case l25 => k_is); (case c25 => k_is); (case k25 => k_is)
    intro d_L_is_string
    refine' Pk.cont (Pk.df_mk (x := "_law_is_value") (st := Pk.s_L_is_value) (ps := Pk.p_L_is_value) KX G ?a26 ?l26 ?c26 ?k26 (fun _ _ _ _ _ _ us hl => match us, hl with | [_, _], _ => rfl)) ?g26
    (case a26 => k_is); (case l26 => k_is); (case c26 => k_is); (case k26 => k_is)
    intro d_L_is_value
    refine' Pk.cont (Pk.df_mk (x := "_law_cell") (st := Pk.s_L_cell) (ps := Pk.p_L_cell) KX G ?a27 ?l27 ?c27 ?k27 (fun _ _ _ _ _ _ us hl => match us, hl with | [_, _], _ => rfl)) ?g27
    (case a27 => k_is); (case l27 => k_is); (case c27 => k_is); (case k27 => k_is)
    intro d_L_cell
    refine' Pk.cont (Pk.df_mk (x := "_law_source") (st := Pk.s_L_source) (ps := Pk.p_L_source) KX G ?a28 ?l28 ?c28 ?k28 (fun _ _ _ _ _ _ us hl => match us, hl with | [_], _ => rfl)) ?g28
    (case a28 => k_is); (case l28 => k_is); (case c28 => k_is); (case k28 => k_is)
    intro d_L_source
    refine' Pk.cont (Pk.df_mk (x := "_law_draw") (st := Pk.s_L_draw) (ps := Pk.p_L_draw) KX G ?a29 ?l29 ?c29 ?k29 (fun _ _ _ _ _ _ us hl => match us, hl with | [_, _], _ => rfl)) ?g29
    (case a29 => k_is); (case l29 => k_is); (case c29 => k_is); (case k29 => k_is)
    intro d_L_draw
    refine' Pk.cont (Pk.df_mk (x := "_law_char") (st := Pk.s_L_char) (ps := Pk.p_L_char) KX G ?a30 ?l30 ?c30 ?k30 (fun _ _ _ _ _ _ us hl => match us, hl with | [_], _ => rfl)) ?g30
    (case a30 => k_is); (case l30 => k_is); (case c30 => k_is); (case k30 => k_is)
    intro d_L_char
    refine' Pk.cont (Pk.df_mk (x := "_law_name") (st := Pk.s_L_name) (ps := Pk.p_L_name) KX G ?a31 ?l31 ?c31 ?k31 (fun _ _ _ _ _ _ us hl => match us, hl with | [_], _ => rfl)) ?g31
    (case a31 => k_is); (case l31 => k_is); (case c31 => k_is); (case k31 => k_is)
    intro d_L_name
    refine' Pk.cont (Pk.df_mk (x := "_law_number") (st := Pk.s_L_number) (ps := Pk.p_L_number) KX G ?a32 ?l32 ?c32 ?k32 (fun _ _ _ _ _ _ us hl => match us, hl with | [_], _ => rfl)) ?g32
    (case a32 => k_is); (case l32 => k_is); (case c32 => k_is); (case k32 => k_is)
    intro d_L_number
    refine' Pk.cont (Pk.df_mk (x := "_law_leaf") (st := Pk.s_L_leaf) (ps := Pk.p_L_leaf) KX G ?a33 ?l33 ?c33 ?k33 (fun _ _ _ _ _ _ us hl => match us, hl with | [_], _ => rfl)) ?g33
    (case a33 => k_is); (case l33 => k_is); (case c33 => k_is); (case k33 => k_is)
    intro d_L_leaf
    refine' Pk.cont (Pk.df_mk (x := "_law_object") (st := Pk.s_L_object) (ps := Pk.p_L_object) KX G ?a34 ?l34 ?c34 ?k34 (fun _ _ _ _ _ _ us hl => match us, hl with | [_], _ => rfl)) ?g34
    (case a34 => k_is); (case l34 => k_is); (case c34 => k_is); (case k34 => k_is)
    intro d_L_object
    refine' Pk.cont (Pk.df_mk (x := "_law_small") (st := Pk.s_L_small) (ps := Pk.p_L_small) KX G ?a35 ?l35 ?c35 ?k35 (fun _ _ _ _ _ _ us hl => match us, hl with | [_], _ => rfl)) ?g35
    (case a35 => k_is); (case l35 => k_is); (case c35 => k_is); (case k35 => k_is)
    intro d_L_small
    refine' Pk.cont (Pk.df_mk (x := "_law_bounds") (st := Pk.s_L_bounds) (ps := Pk.p_L_bounds) KX G ?a36 ?l36 ?c36 ?k36 (fun _ _ _ _ _ _ us hl => match us, hl with | [_, _], _ => rfl)) ?g36
    (case a36 => k_is); (case l36 => k_is); (case c36 => k_is); (case k36 => k_is)
    intro d_L_bounds
    refine' Pk.cont (Pk.df_mk (x := "_law_leaf_schema") (st := Pk.s_L_leaf_schema) (ps := Pk.p_L_leaf_schema) KX G ?a37 ?l37 ?c37 ?k37 (fun _ _ _ _ _ _ us hl => match us, hl with | [_, _], _ => rfl)) ?g37
    (case a37 => k_is); (case l37 => k_is); (case c37 => k_is); (case k37 => k_is)
    intro d_L_leaf_schema
    refine' Pk.cont (Pk.df_mk (x := "_law_rows") (st := Pk.s_L_rows) (ps := Pk.p_L_rows) KX G ?a38 ?l38 ?c38 ?k38 (fun _ _ _ _ _ _ us hl => match us, hl with | [_, _, _], _ => rfl)) ?g38
    (case a38 => k_is); (case l38 => k_is); (case c38 => k_is); (case k38 => k_is)
    intro d_L_rows
    refine' Pk.cont (Pk.df_mk (x := "_law_schema") (st := Pk.s_L_schema) (ps := Pk.p_L_schema) KX G ?a39 ?l39 ?c39 ?k39 (fun _ _ _ _ _ _ us hl => match us, hl with | [_, _, _], _ => rfl)) ?g39
    (case a39 => k_is); (case l39 => k_is); (case c39 => k_is); (case k39 => k_is)
    intro d_L_schema
    refine' Pk.cont (Pk.df_mk (x := "_law_form") (st := Pk.s_L_form) (ps := Pk.p_L_form) KX G ?a40 ?l40 ?c40 ?k40 (fun _ _ _ _ _ _ us hl => match us, hl with | [_, _], _ => rfl)) ?g40
    (case a40 => k_is); (case l40 => k_is); (case c40 => k_is); (case k40 => k_is)
    intro d_L_form
    refine' Pk.cont (Pk.df_mk (x := "_law_bound_form") (st := Pk.s_L_bound_form) (ps := Pk.p_L_bound_form) KX G ?a41 ?l41 ?c41 ?k41 (fun _ _ _ _ _ _ us hl => match us, hl with | [_], _ => rfl)) ?g41
    (case a41 => k_is); (case l41 => k_is); (case c41 => k_is); (case k41 => k_is)
    intro d_L_bound_form
    refine' Pk.cont (Pk.df_mk (x := "_law_schema_form") (st := Pk.s_L_schema_form) (ps := Pk.p_L_schema_form) KX G ?a42 ?l42 ?c42 ?k42 (fun _ _ _ _ _ _ us hl => match us, hl with | [_], _ => rfl)) ?g42
    (case a42 => k_is); (case l42 => k_is); (case c42 => k_is); (case k42 => k_is)
    intro d_L_schema_form
    refine' Pk.law_mk KX G hmg ?a ?l ?c ?k B ⟨d_parts_of, d_size_of, d_inner_schemas, d_schema_count, d_schema_depth, d_const_size, d_is_small_schema, d_form, d_bound_to_value, d_schemas_to_value, d_row_to_value, d_schema_to_value, d_demand, d_inside, d_word_and_parts, d_bound_from_value, d_counts_from_values, d_schemas_from_value, d_rows_from_value, d_read_leaf, d_read_schema, d_schema_from_value, d_L_with, d_L_is_integer, d_L_is_string, d_L_is_value, d_L_cell, d_L_source, d_L_draw, d_L_char, d_L_name, d_L_number, d_L_leaf, d_L_object, d_L_small, d_L_bounds, d_L_leaf_schema, d_L_rows, d_L_schema, d_L_form, d_L_bound_form, d_L_schema_form⟩
    (case a => k_is); (case l => k_is); (case c => k_is); (case k => k_is)
