import PyProof.Rows.All
import Wide.All
import OpenK.AllK
import Wide.FinOn
import HandS.ForMost
import HandS.Evl
import HandS.Zip
import HandS.Walk
import HandS.TupAny
import HandS.TupMul
import HandS.Wide
import HandS.Style
import HandS.Conv
import HandS.Defaults
import HandS.HeadHook2
import PyProof.ListMulRoad
import PyProof.FactsAll.tuple_2
import HandS.DeepEq
import HandS.IsInst
import HandS.Property
import HandS.OwnEq
import PyProof.InstNe
import HandS.WideBits
import PyProof.Rows.SeqMore
import HandS.Head0
import HandS.Head1
import HandS.Head2
import HandS.HeadEnd
import HandS.HeadHook1
import HandS.RaiseMore
import KE.GoesMore
import KE.DataAny
import KE.GoesZip
import PySem.Challenge.RW_restkeepers_k81_whole_keepers_listed
set_option Elab.async false
set_option linter.all false
set_option autoImplicit false
set_option maxRecDepth 100000
set_option maxHeartbeats 2000000
/-! Abstract states over HandS: data trees, slots, the pot; weakest readings. -/
namespace Ab
open PySem PySem.Spec PyProof.Rows L2

/-! ### weakest readings -/
def W (X : Cx) (e : Expr) : TE := fun σ H Q => ∀ (pins : List (Addr × Obj)) (s : Shared), Inv X pins σ H s → wpAny (model X.prog X.w) X.A (eval e X.env) (EP X pins σ Q) X.xe s
theorem W.pe {X : Cx} {e : Expr} : PE X e (W X e) := ⟨fun pins s _ _ _ I h => h pins s I⟩
theorem W.of {X : Cx} {e : Expr} {t : TE} (h : PE X e t) {σ : L2.St} {H : Hp} {Q : VK} (q : t σ H Q) : W X e σ H Q := fun pins s I => h.run pins s σ H Q I q
def WT (X : Cx) (e : Expr) : TT := fun σ H Q => ∀ (pins : List (Addr × Obj)) (s : Shared), Inv X pins σ H s → wpAny (model X.prog X.w) X.A (isTrue e X.env (eval e X.env)) (TP X pins σ Q) X.xe s
theorem WT.pt {X : Cx} {e : Expr} : PT X e (WT X e) := ⟨fun pins s _ _ _ I h => h pins s I⟩
theorem WT.of {X : Cx} {e : Expr} {t : TT} (h : PT X e t) {σ : L2.St} {H : Hp} {Q : Bool → Hp → Prop} (q : t σ H Q) : WT X e σ H Q := fun pins s I => h.run pins s σ H Q I q
def WA (X : Cx) (es : List Expr) : TA := fun σ H Q => ∀ (pos : Pos) (pins : List (Addr × Obj)) (s : Shared), Inv X pins σ H s → wpAny (model X.prog X.w) X.A (spliced (backTo pos (starEach es X.env))) (AP X pins σ Q) X.xe s
theorem WA.pa {X : Cx} {es : List Expr} : PA X es (WA X es) := ⟨fun pos pins s _ _ _ I h => h pos pins s I⟩
theorem WA.of {X : Cx} {es : List Expr} {t : TA} (h : PA X es t) {σ : L2.St} {H : Hp} {Q : List V → Hp → Prop} (q : t σ H Q) : WA X es σ H Q := fun pos pins s I => h.run pos pins s σ H Q I q
def WP (X : Cx) (ifs : List Expr) : TT := fun σ H Q => ∀ (pins : List (Addr × Obj)) (s : Shared), Inv X pins σ H s →
  wpAny (model X.prog X.w) X.A (forIn ifs true fun c r => if r = true then do let ok ← isTrue c X.env (eval c X.env); pure (ForInStep.yield ok) else pure (ForInStep.yield r)) (TP X pins σ Q) X.xe s
theorem WP.pts {X : Cx} {ifs : List Expr} : PTs X ifs (WP X ifs) := ⟨fun pins s _ _ _ I h => h pins s I⟩
theorem WP.of {X : Cx} {ifs : List Expr} {t : TT} (h : PTs X ifs t) {σ : L2.St} {H : Hp} {Q : Bool → Hp → Prop} (q : t σ H Q) : WP X ifs σ H Q := fun pins s I => h.run pins s σ H Q I q
def WG (X : Cx) (tg : Expr) : TG := fun v σ H Q => ∀ (pins : List (Addr × Obj)) (s : Shared) (u : Value), Inv X pins σ H s → RelV v u → wpAny (model X.prog X.w) X.A (assign tg X.env u) (fun _ s' => ∃ σ' H', Inv X pins σ' H' s' ∧ Q σ' H') X.xe s
theorem WG.pg {X : Cx} {tg : Expr} : PG X tg (WG X tg) := ⟨fun pins s _ _ _ u _ I r h => h pins s u I r⟩
theorem WG.of {X : Cx} {tg : Expr} {t : TG} (h : PG X tg t) {v : V} {σ : L2.St} {H : Hp} {Q : L2.St → Hp → Prop} (q : t v σ H Q) : WG X tg v σ H Q := fun pins s u I r => h.run pins s σ H v u Q I r q
def WI (X : Cx) (tg iter : Expr) : TI := fun σ H R => ∀ (pins : List (Addr × Obj)) (s : Shared), Inv X pins σ H s → wpAny (model X.prog X.w) X.A (eval iter X.env) (fun v s1 => wpAny (model X.prog X.w) X.A (pyIter v) (PIE X pins σ tg R) X.xe s1) X.xe s
theorem WI.pi {X : Cx} {tg iter : Expr} : PI X tg iter (WI X tg iter) := ⟨fun pins s _ _ _ I h => h pins s I⟩
theorem WI.of {X : Cx} {tg iter : Expr} {t : TI} (h : PI X tg iter t) {σ : L2.St} {H : Hp} {R : It → Hp → Prop} (q : t σ H R) : WI X tg iter σ H R := fun pins s I => h.run pins s σ H R I q
def WS (X : Cx) (st : List Stmt) : TS := fun D σ H => ∀ (pins : List (Addr × Obj)) (s : Shared), Inv X pins σ H s → wpAny (model X.prog X.w) X.A (execs st X.env) (SP X pins D) X.xe s
theorem WS.ps {X : Cx} {st : List Stmt} : PSs X st (WS X st) := ⟨fun pins s _ _ _ I h => h pins s I⟩
theorem WS.of {X : Cx} {st : List Stmt} {t : TS} (h : PSs X st t) {D : Ends} {σ : L2.St} {H : Hp} (q : t D σ H) : WS X st D σ H := fun pins s I => h.run pins s σ H D I q

/-! ### data -/
inductive D where
  | non | bl (b : Bool) | int (i : Int) | str (x : Str) | tup (ds : List D) | lst (ds : List D)
  | ins (C : Addr) (fs : List (Str × D)) | adr (a : Addr) | ty (n : String)

abbrev Ex := Evl.Ex
mutual
inductive Is (K : PySem.W.Frag) (B : Hp) : V → D → Prop
  | non : Is K B .non .non
  | bl (b : Bool) : Is K B (.bl b) (.bl b)
  | int (i : Int) : Is K B (.int i) (.int i)
  | str (x : Str) : Is K B (.str x) (.str x)
  | tup {a : Addr} {xs : List V} {ds : List D} : SqT K B a xs → All K B xs ds → Is K B (.ref a) (.tup ds)
  | lst {a : Addr} {xs : List V} {ds : List D} : SqL K B a xs → All K B xs ds → Is K B (.ref a) (.lst ds)
  | ins {a C dx : Addr} {fv : List (Str × V)} {fs : List (Str × D)} : B a = some (.ins C dx fv) → AllF K B fv fs → Is K B (.ref a) (.ins C fs)
  | adr (a : Addr) : Is K B (.ref a) (.adr a)
  | ty (n : String) : Is K B (.ty n) (.ty n)
inductive All (K : PySem.W.Frag) (B : Hp) : List V → List D → Prop
  | nil : All K B [] []
  | cons {v : V} {vs : List V} {d : D} {ds : List D} : Is K B v d → All K B vs ds → All K B (v :: vs) (d :: ds)
inductive AllF (K : PySem.W.Frag) (B : Hp) : List (Str × V) → List (Str × D) → Prop
  | nil : AllF K B [] []
  | cons {n : Str} {v : V} {vs : List (Str × V)} {d : D} {ds : List (Str × D)} : Is K B v d → AllF K B vs ds → AllF K B ((n, v) :: vs) ((n, d) :: ds)
end

section
variable {K : PySem.W.Frag} {B B' : Hp}
mutual
theorem Is.mono (e : Ex B B') : ∀ {v : V} {d : D}, Is K B v d → Is K B' v d
  | _, _, .non => .non
  | _, _, .bl b => .bl b
  | _, _, .int i => .int i
  | _, _, .str x => .str x
  | _, _, .tup h t => .tup (Evl.ex_t e h) (All.mono e t)
  | _, _, .lst h t => .lst (Evl.ex_l e h) (All.mono e t)
  | _, _, .ins h t => .ins (e _ _ h) (AllF.mono e t)
  | _, _, .adr a => .adr a
  | _, _, .ty n => .ty n
theorem All.mono (e : Ex B B') : ∀ {v : List V} {d : List D}, All K B v d → All K B' v d
  | _, _, .nil => .nil
  | _, _, .cons h t => .cons (Is.mono e h) (All.mono e t)
theorem AllF.mono (e : Ex B B') : ∀ {v : List (Str × V)} {d : List (Str × D)}, AllF K B v d → AllF K B' v d
  | _, _, .nil => .nil
  | _, _, .cons h t => .cons (Is.mono e h) (AllF.mono e t)
end
theorem All.length : ∀ {vs : List V} {ds : List D}, All K B vs ds → vs.length = ds.length
  | _, _, .nil => rfl
  | _, _, .cons _ t => congrArg Nat.succ (All.length t)
theorem All.get : ∀ {vs : List V} {ds : List D} {i : Nat} {d : D}, All K B vs ds → ds[i]? = some d → ∃ v, vs[i]? = some v ∧ Is K B v d
  | _, _, _, _, .nil, e => by simp at e
  | _, _, 0, _, .cons h _, e => by
    simp at e
    subst e
    exact ⟨_, rfl, h⟩
  | _, _, i + 1, d, .cons _ t, e => by
    obtain ⟨v, h1, h2⟩ := All.get (i := i) (d := d) t (by simpa using e)
    exact ⟨v, by simpa using h1, h2⟩
theorem All.getV : ∀ {vs : List V} {ds : List D} {i : Nat} {v : V}, All K B vs ds → vs[i]? = some v → ∃ d, ds[i]? = some d ∧ Is K B v d
  | _, _, _, _, .nil, e => by simp at e
  | _, _, 0, _, .cons h _, e => by
    simp at e
    subst e
    exact ⟨_, rfl, h⟩
  | _, _, i + 1, d, .cons _ t, e => by
    obtain ⟨v, h1, h2⟩ := All.getV (i := i) (v := d) t (by simpa using e)
    exact ⟨v, by simpa using h1, h2⟩
theorem All.append : ∀ {vs us : List V} {ds es : List D}, All K B vs ds → All K B us es → All K B (vs ++ us) (ds ++ es)
  | _, _, _, _, .nil, t => t
  | _, _, _, _, .cons h r, t => .cons h (All.append r t)
theorem All.set {v : V} {d : D} (h : Is K B v d) : ∀ {vs : List V} {ds : List D} (i : Nat), All K B vs ds → All K B (vs.set i v) (ds.set i d)
  | _, _, _, .nil => .nil
  | _, _, 0, .cons _ t => .cons h t
  | _, _, i + 1, .cons g t => .cons g (All.set h i t)
theorem All.drop : ∀ {vs : List V} {ds : List D} (i : Nat), All K B vs ds → All K B (vs.drop i) (ds.drop i)
  | _, _, 0, h => h
  | _, _, _ + 1, .nil => .nil
  | _, _, i + 1, .cons _ t => All.drop i t
theorem All.take : ∀ {vs : List V} {ds : List D} (i : Nat), All K B vs ds → All K B (vs.take i) (ds.take i)
  | _, _, 0, _ => .nil
  | _, _, _ + 1, .nil => .nil
  | _, _, i + 1, .cons h t => .cons h (All.take i t)
theorem All.ints : ∀ {ns : List Int} {vs : List V}, All K B vs (ns.map D.int) → vs = ns.map V.int
  | [], _, .nil => rfl
  | n :: ns, _, .cons h t => by
    cases h
    rw [All.ints t]
    rfl
theorem All.of_ints : ∀ {ns : List Int}, All K B (ns.map V.int) (ns.map D.int)
  | [] => .nil
  | n :: ns => .cons (.int n) All.of_ints
theorem All.bools : ∀ {ns : List Bool} {vs : List V}, All K B vs (ns.map D.bl) → vs = ns.map V.bl
  | [], _, .nil => rfl
  | n :: ns, _, .cons h t => by
    cases h
    rw [All.bools t]
    rfl
theorem AllF.lookup : ∀ {vs : List (Str × V)} {ds : List (Str × D)} {f : Str} {d : D}, AllF K B vs ds → ds.lookup f = some d → ∃ v, vs.lookup f = some v ∧ Is K B v d
  | _, _, _, _, .nil, e => by cases e
  | _, _, f, d, .cons (n := n) h t, e => by
    rw [List.lookup_cons] at e ⊢
    split
    · rename_i hf
      rw [hf] at e
      cases e
      exact ⟨_, rfl, h⟩
    · rename_i hf
      rw [hf] at e
      exact AllF.lookup t e
theorem AllF.none : ∀ {vs : List (Str × V)} {ds : List (Str × D)} {f : Str}, AllF K B vs ds → ds.lookup f = none → vs.lookup f = none
  | _, _, _, .nil, e => rfl
  | _, _, f, .cons (n := n) h t, e => by
    rw [List.lookup_cons] at e ⊢
    split
    · rename_i hf
      rw [hf] at e
      cases e
    · rename_i hf
      rw [hf] at e
      exact AllF.none t e
end

/-! ### the pot, growth, states -/
abbrev PotS := Option (Addr × List Int)
def PotM (S : PotS) (a : Addr) : Prop := ∃ ns, S = some (a, ns)
def PotOk (S : PotS) (B H : Hp) : Prop := ∀ p ns, S = some (p, ns) → B p = none ∧ H p = some (.lst (ns.map V.int))
def PotEq (S S' : PotS) : Prop := S.map (·.1) = S'.map (·.1)
theorem PotEq.refl (S : PotS) : PotEq S S := rfl
theorem PotEq.trans {S S1 S2 : PotS} (a : PotEq S S1) (b : PotEq S1 S2) : PotEq S S2 := Eq.trans a b
theorem PotEq.m {S S' : PotS} (e : PotEq S S') {a : Addr} (h : PotM S' a) : PotM S a := by
  obtain ⟨ns, rfl⟩ := h
  cases S with
  | none => cases e
  | some q =>
    obtain ⟨b, ms⟩ := q
    have e2 : b = a := Option.some.inj e
    subst e2
    exact ⟨ms, rfl⟩
theorem PotEq.symm {S S' : PotS} (e : PotEq S S') : PotEq S' S := Eq.symm e

structure Gr (S : PotS) (B H B2 H2 : Hp) : Prop where
  ex : Ex B B2
  old : ∀ a o, ¬ PotM S a → H a = some o → H2 a = some o
  new : ∀ a o, B2 a = some o → B a = none → H a = none
  sub : Ex B2 H2
theorem Gr.refl {S : PotS} {B H : Hp} (h : Ex B H) : Gr S B H B H := ⟨Evl.Ex.refl B, fun _ _ _ e => e, fun a o e1 e2 => (nomatch e1.symm.trans e2), h⟩
theorem Gr.trans {S S1 : PotS} {B H B1 H1 B2 H2 : Hp} (po : PotOk S1 B1 H1) (e : PotEq S S1) (a : Gr S B H B1 H1) (b : Gr S1 B1 H1 B2 H2) : Gr S B H B2 H2 := by
  refine ⟨a.ex.trans b.ex, fun x o hm h => b.old x o (fun q => hm (e.m q)) (a.old x o hm h), fun x o h1 h2 => ?_, b.sub⟩
  cases q : B1 x with
  | some u => exact a.new x u q h2
  | none =>
    have z := b.new x o h1 q
    cases r : H x with
    | none => rfl
    | some u =>
      by_cases hm : PotM S x
      · obtain ⟨ns, hs⟩ := e.symm.m hm
        rw [(po x ns hs).2] at z
        cases z
      · rw [a.old x u hm r] at z
        cases z
/-- a new object that stays as it is -/
theorem Gr.data {S : PotS} {B H : Hp} {p : Addr} {o : HO} (h : Ex B H) (hp : H p = none) : Gr S B H (upd B p o) (upd H p o) := by
  have hb : B p = none := Evl.fresh_back h hp
  refine ⟨Evl.Ex.new hb, fun a u _ e => Evl.Ex.new hp a u e, fun a u h1 h2 => ?_, fun a u e => ?_⟩
  · by_cases q : a = p
    · rw [q]
      exact hp
    · rw [upd_ne q, h2] at h1
      cases h1
  · by_cases q : a = p
    · rw [q, upd_same] at e
      rw [q, upd_same]
      exact e
    · rw [upd_ne q] at e
      rw [upd_ne q]
      exact h a u e
/-- a new object of one's own -/
theorem Gr.mine {S : PotS} {B H : Hp} {p : Addr} {o : HO} (h : Ex B H) (hp : H p = none) : Gr S B H B (upd H p o) :=
  ⟨Evl.Ex.refl B, fun a u _ e => Evl.Ex.new hp a u e, fun a u h1 h2 => (nomatch h1.symm.trans h2), h.trans (Evl.Ex.new hp)⟩

inductive Sl where
  | no | dat (d : D) | own (ds : List D) | mk (x dx C : Addr) (fs : List (Str × D)) | grid (rs : List (List D))
def Sl.hold : Sl → Bool
  | .own _ => true
  | .mk _ _ _ _ => true
  | .grid _ => true
  | _ => false

/-- rows that are one's own -/
inductive RowsR (K : PySem.W.Frag) (B H : Hp) : List Addr → List (List D) → Prop
  | nil : RowsR K B H [] []
  | cons {p : Addr} {ps : List Addr} {vs : List V} {r : List D} {rs : List (List D)} : H p = some (.lst vs) → All K B vs r → RowsR K B H ps rs → RowsR K B H (p :: ps) (r :: rs)
/-- what a slot holds: the objects that it owns -/
inductive Reg (K : PySem.W.Frag) (B H : Hp) : Sl → Addr → List Addr → Prop
  | own {p : Addr} {vs : List V} {ds : List D} : H p = some (.lst vs) → All K B vs ds → Reg K B H (.own ds) p [p]
  | mk {p C dx : Addr} {fv : List (Str × V)} {fs : List (Str × D)} : H p = some (.ins C dx fv) → AllF K B fv fs → Reg K B H (.mk p dx C fs) p [p]
  | grid {p : Addr} {ps : List Addr} {rs : List (List D)} : H p = some (.lst (ps.map V.ref)) → RowsR K B H ps rs → (p :: ps).Nodup → Reg K B H (.grid rs) p (p :: ps)
section
variable {K : PySem.W.Frag} {B H B2 H2 : Hp}
theorem RowsR.mono : ∀ {ps : List Addr} {rs : List (List D)}, RowsR K B H ps rs → Ex B B2 → (∀ q, q ∈ ps → H2 q = H q) → RowsR K B2 H2 ps rs
  | _, _, .nil, _, _ => .nil
  | _, _, .cons h a t, e, f => .cons (by rw [f _ List.mem_cons_self]; exact h) (a.mono e) (t.mono e fun q hq => f q (List.mem_cons_of_mem _ hq))
theorem RowsR.obj : ∀ {ps : List Addr} {rs : List (List D)}, RowsR K B H ps rs → ∀ q, q ∈ ps → ∃ o, H q = some o
  | _, _, .cons h a t, q, hq => by
    rcases List.mem_cons.mp hq with rfl | hq
    · exact ⟨_, h⟩
    · exact t.obj q hq
theorem RowsR.length : ∀ {ps : List Addr} {rs : List (List D)}, RowsR K B H ps rs → ps.length = rs.length
  | _, _, .nil => rfl
  | _, _, .cons _ _ t => congrArg Nat.succ t.length
theorem map_ref_inj : ∀ {ps qs : List Addr}, ps.map V.ref = qs.map V.ref → ps = qs
  | [], [], _ => rfl
  | [], _ :: _, h => by cases h
  | _ :: _, [], h => by cases h
  | p :: ps, q :: qs, h => by
    rw [List.map_cons, List.map_cons, List.cons.injEq] at h
    rw [V.ref.inj h.1, map_ref_inj h.2]
theorem Reg.mono {s : Sl} {p : Addr} {as : List Addr} (h : Reg K B H s p as) (e : Ex B B2) (f : ∀ q, q ∈ as → H2 q = H q) : Reg K B2 H2 s p as := by
  cases h with
  | own h a => exact .own (by rw [f _ List.mem_cons_self]; exact h) (a.mono e)
  | mk h a => exact .mk (by rw [f _ List.mem_cons_self]; exact h) (a.mono e)
  | grid h a n => exact .grid (by rw [f _ List.mem_cons_self]; exact h) (a.mono e fun q hq => f q (List.mem_cons_of_mem _ hq)) n
theorem Reg.obj {s : Sl} {p : Addr} {as : List Addr} (h : Reg K B H s p as) (q : Addr) (hq : q ∈ as) : ∃ o, H q = some o := by
  cases h with
  | own h a =>
    rcases List.mem_cons.mp hq with rfl | hq
    · exact ⟨_, h⟩
    · cases hq
  | mk h a =>
    rcases List.mem_cons.mp hq with rfl | hq
    · exact ⟨_, h⟩
    · cases hq
  | grid h a n =>
    rcases List.mem_cons.mp hq with rfl | hq
    · exact ⟨_, h⟩
    · exact a.obj q hq
theorem Reg.mem {s : Sl} {p : Addr} {as : List Addr} (h : Reg K B H s p as) : p ∈ as := by
  cases h <;> exact List.mem_cons_self
/-- the objects are told by the heap -/
theorem Reg.det {B' : Hp} {s : Sl} {p : Addr} {as bs : List Addr} (h : Reg K B H s p as) (h' : Reg K B' H s p bs) : as = bs := by
  cases h with
  | own h a => cases h'; rfl
  | mk h a => cases h'; rfl
  | grid h a n => cases h' with
    | grid h' a' n' =>
      rw [h] at h'
      rw [map_ref_inj (HO.lst.inj (Option.some.inj h'))]
end

structure Stt (K : PySem.W.Frag) (B0 H0 : Hp) (σ : L2.St) (B H : Hp) (Δ : List Sl) (S : PotS) : Prop where
  gr : Gr S B0 H0 B H
  len : σ.length = Δ.length
  dat : ∀ (i : Nat) (d : D), Δ[i]? = some (Sl.dat d) → ∃ v, σ[i]? = some (some v) ∧ Is K B v d
  hold : ∀ (i : Nat) (s : Sl), Δ[i]? = some s → s.hold = true → ∃ p as, σ[i]? = some (some (V.ref p)) ∧ Reg K B H s p as ∧ ∀ q, q ∈ as → B q = none ∧ H0 q = none ∧ ¬ PotM S q
  sep : ∀ (i j : Nat) (s t : Sl) (p q : Addr) (as bs : List Addr), i ≠ j → Δ[i]? = some s → Δ[j]? = some t → σ[i]? = some (some (V.ref p)) → σ[j]? = some (some (V.ref q)) → Reg K B H s p as → Reg K B H t q bs → ∀ a, a ∈ as → a ∉ bs
  pot : PotOk S B H

section
variable {K : PySem.W.Frag} {B0 H0 B H B2 H2 : Hp} {σ σ' : L2.St} {Δ Δ' : List Sl} {S S2 : PotS}
theorem Stt.sub (z : Stt K B0 H0 σ B H Δ S) : Ex B H := z.gr.sub
theorem Stt.own (z : Stt K B0 H0 σ B H Δ S) (i : Nat) (ds : List D) (h : Δ[i]? = some (Sl.own ds)) : ∃ p vs, σ[i]? = some (some (V.ref p)) ∧ B p = none ∧ H0 p = none ∧ ¬ PotM S p ∧ H p = some (.lst vs) ∧ All K B vs ds := by
  obtain ⟨p, as, h1, h2, h3⟩ := z.hold i _ h rfl
  cases h2 with
  | own k1 k2 =>
    obtain ⟨m1, m2, m3⟩ := h3 p List.mem_cons_self
    exact ⟨p, _, h1, m1, m2, m3, k1, k2⟩
theorem some_none {α : Type} {x : Option α} (h : ∀ o, x = some o → False) : x = none := by
  cases x with
  | none => rfl
  | some o => exact (h o rfl).elim
theorem same_some {α : Type} {x y : Option α} (h : ∃ o, x = some o) (f : ∀ o, x = some o → y = some o) : y = x := by
  obtain ⟨o, h⟩ := h
  rw [h]
  exact f o h
theorem Stt.grow (z : Stt K B0 H0 σ B H Δ S) (e : PotEq S S2) (g : Gr S B H B2 H2) (po : PotOk S2 B2 H2) : Stt K B0 H0 σ B2 H2 Δ S2 := by
  -- an own object stands
  have st : ∀ {i : Nat} {s : Sl} {p : Addr}, Δ[i]? = some s → s.hold = true → σ[i]? = some (some (V.ref p)) → ∃ as, Reg K B H s p as ∧ Reg K B2 H2 s p as ∧ ∀ q, q ∈ as → B q = none ∧ H0 q = none ∧ ¬ PotM S q := fun {i s p} h hs hp => by
    obtain ⟨p', as, h1, h2, h3⟩ := z.hold i s h hs
    have e1 : p' = p := V.ref.inj (Option.some.inj (Option.some.inj (h1.symm.trans hp)))
    subst e1
    exact ⟨as, h2, h2.mono g.ex fun q hq => same_some (h2.obj q hq) fun o k => g.old q o (h3 q hq).2.2 k, h3⟩
  refine ⟨?_, z.len, fun i d h => ?_, fun i s h hs => ?_, fun i j s t p q as bs hij h1 h2 h3 h4 h5 h6 => ?_, po⟩
  · have q := Gr.trans z.pot (PotEq.refl S) z.gr g
    exact ⟨q.ex, fun a o hm h => q.old a o (fun k => hm (e.symm.m k)) h, q.new, q.sub⟩
  · obtain ⟨v, h1, h2⟩ := z.dat i d h
    exact ⟨v, h1, h2.mono g.ex⟩
  · obtain ⟨p, as, h1, _, _⟩ := z.hold i s h hs
    obtain ⟨as, k1, k2, k3⟩ := st h hs h1
    refine ⟨p, as, h1, k2, fun q hq => ⟨some_none fun o k => ?_, (k3 q hq).2.1, fun k => (k3 q hq).2.2 (e.m k)⟩⟩
    obtain ⟨u, hu⟩ := k1.obj q hq
    have w := g.new q o k (k3 q hq).1
    rw [hu] at w
    cases w
  · have hs : s.hold = true := by cases h5 <;> rfl
    have ht : t.hold = true := by cases h6 <;> rfl
    obtain ⟨as', k1, k2, _⟩ := st h1 hs h3
    obtain ⟨bs', l1, l2, _⟩ := st h2 ht h4
    rw [h5.det k2, h6.det l2]
    exact z.sep i j s t p q as' bs' hij h1 h2 h3 h4 k1 l1
theorem Reg.holds {s : Sl} {p : Addr} {as : List Addr} (h : Reg K B H s p as) : s.hold = true := by cases h <;> rfl
/-- the same objects, the slots otherwise -/
theorem Stt.re (z : Stt K B0 H0 σ B H Δ S) (hl : σ'.length = Δ'.length) (φ : Nat → Nat) (hd : ∀ (i : Nat) (d : D), Δ'[i]? = some (Sl.dat d) → ∃ v, σ'[i]? = some (some v) ∧ Is K B v d)
    (hh : ∀ (i : Nat) (s : Sl), Δ'[i]? = some s → s.hold = true → Δ[φ i]? = some s ∧ σ[φ i]? = σ'[i]?) (inj : ∀ (i j : Nat) (s t : Sl), Δ'[i]? = some s → Δ'[j]? = some t → s.hold = true → t.hold = true → φ i = φ j → i = j) : Stt K B0 H0 σ' B H Δ' S := by
  refine ⟨z.gr, hl, hd, fun i s h hs => ?_, fun i j s t p q as bs hij h1 h2 h3 h4 h5 h6 => ?_, z.pot⟩
  · obtain ⟨k1, k2⟩ := hh i s h hs
    obtain ⟨p, as, m1, m2⟩ := z.hold _ s k1 hs
    exact ⟨p, as, by rw [← k2]; exact m1, m2⟩
  · obtain ⟨k1, k2⟩ := hh i s h1 h5.holds
    obtain ⟨l1, l2⟩ := hh j t h2 h6.holds
    exact z.sep (φ i) (φ j) s t p q as bs (fun k => hij (inj i j s t h1 h2 h5.holds h6.holds k)) k1 l1 (by rw [k2]; exact h3) (by rw [l2]; exact h4) h5 h6
end

/-! ### expressions -/
abbrev Po := Hp → V → Hp → Hp → Prop
structure DG (X : Cx) (e : Expr) (Δ : List Sl) (S : PotS) (P : Po) (S' : PotS) : Prop where
  eq : PotEq S S'
  run : ∀ B0 H0 σ B H, Stt X.K B0 H0 σ B H Δ S → ∀ Q : VK, (∀ v B2 H2, Gr S B H B2 H2 → PotOk S' B2 H2 → P H v B2 H2 → Q v H2) → W X e σ H Q
/-- data | a sequence that is read | a new list | a new tuple -/
def pDat (K : PySem.W.Frag) (d : D) : Po := fun _ v B2 _ => Is K B2 v d
def Sq (K : PySem.W.Frag) (t : Bool) (H : Hp) (p : Addr) (vs : List V) : Prop := match t with
  | true => SqT K H p vs
  | false => SqL K H p vs
/-- all but the pot stands -/
def Old (S : PotS) (H H' : Hp) : Prop := ∀ a o, ¬ PotM S a → H a = some o → H' a = some o
def pSeq (K : PySem.W.Frag) (S : PotS) (t : Bool) (ds : List D) : Po := fun _ v B2 H2 => ∃ p vs, v = .ref p ∧ (∀ H3, Old S H2 H3 → Sq K t H3 p vs) ∧ All K B2 vs ds
def pNew (K : PySem.W.Frag) (ds : List D) : Po := fun H v B2 H2 => ∃ p vs, v = .ref p ∧ H p = none ∧ B2 p = none ∧ H2 p = some (.lst vs) ∧ All K B2 vs ds
abbrev DE (X : Cx) (e : Expr) (Δ : List Sl) (S : PotS) (d : D) (S' : PotS) : Prop := DG X e Δ S (pDat X.K d) S'
abbrev DQ (X : Cx) (e : Expr) (Δ : List Sl) (S : PotS) (t : Bool) (ds : List D) (S' : PotS) : Prop := DG X e Δ S (pSeq X.K S' t ds) S'
abbrev DN (X : Cx) (e : Expr) (Δ : List Sl) (S : PotS) (ds : List D) (S' : PotS) : Prop := DG X e Δ S (pNew X.K ds) S'
theorem Stt.run {X : Cx} {e : Expr} {Δ : List Sl} {S S' : PotS} {P : Po} {B0 H0 : Hp} {σ : L2.St} {B H : Hp} {Q : VK} (z : Stt X.K B0 H0 σ B H Δ S) (h : DG X e Δ S P S')
    (k : ∀ v B2 H2, Stt X.K B0 H0 σ B2 H2 Δ S' → Gr S B H B2 H2 → P H v B2 H2 → Q v H2) : W X e σ H Q :=
  h.2 B0 H0 σ B H z Q fun v B2 H2 g po p => k v B2 H2 (z.grow h.1 g po) g p
/-- a rule by its reading -/
theorem DG.by {X : Cx} {e : Expr} {Δ : List Sl} {S S' : PotS} {P : Po} {t : TE} (pe : PE X e t) (eq : PotEq S S')
    (h : ∀ B0 H0 σ B H, Stt X.K B0 H0 σ B H Δ S → ∀ Q : VK, (∀ v B2 H2, Gr S B H B2 H2 → PotOk S' B2 H2 → P H v B2 H2 → Q v H2) → t σ H Q) : DG X e Δ S P S' :=
  ⟨eq, fun B0 H0 σ B H z Q q => W.of pe (h B0 H0 σ B H z Q q)⟩
theorem DG.imp {X : Cx} {e : Expr} {Δ : List Sl} {S S' : PotS} {P P' : Po} (h : DG X e Δ S P S') (i : ∀ H v B2 H2 , Ex B2 H2 → PotOk S' B2 H2 → P H v B2 H2 → P' H v B2 H2) : DG X e Δ S P' S' :=
  ⟨h.1, fun B0 H0 σ B H z Q q => h.2 B0 H0 σ B H z Q fun v B2 H2 g po p => q v B2 H2 g po (i H v B2 H2 g.sub po p)⟩
/-- a new list becomes data -/
theorem DN.dat {X : Cx} {e : Expr} {Δ : List Sl} {S S' : PotS} {ds : List D} (h : DN X e Δ S ds S') : DE X e Δ S (.lst ds) S' := by
  refine ⟨h.1, fun B0 H0 σ B H z Q q => h.2 B0 H0 σ B H z Q fun v B2 H2 g po p => ?_⟩
  obtain ⟨a, vs, rfl, hn, hb, h2, ha⟩ := p
  have ex1 : Ex B2 (upd B2 a (.lst vs)) := Evl.Ex.new hb
  refine q (.ref a) (upd B2 a (.lst vs)) H2 ⟨g.ex.trans ex1, g.old, fun x o h1 h3 => ?_, fun x o hx => ?_⟩ (fun p ns e => ⟨?_, (po p ns e).2⟩) (.lst (Evl.sq_of upd_same) (ha.mono ex1))
  · by_cases k : x = a
    · rw [k]
      exact hn
    · rw [upd_ne k] at h1
      exact g.new x o h1 h3
  · by_cases k : x = a
    · rw [k, upd_same] at hx
      rw [k, h2]
      exact hx
    · rw [upd_ne k] at hx
      exact g.sub x o hx
  · have k : p ≠ a := fun k => by
      obtain ⟨k1, k2⟩ := po p ns e
      have m : PotM S p := (h.1).m ⟨ns, e⟩
      obtain ⟨ms, hm⟩ := m
      have k3 := (z.pot p ms hm).2
      rw [k, hn] at k3
      cases k3
    rw [upd_ne k]
    exact (po p ns e).1
theorem pot_free {S : PotS} {B H : Hp} (po : PotOk S B H) {a : Addr} {o : HO} (h : B a = some o) : ¬ PotM S a := fun ⟨ns, e⟩ => by
  rw [(po a ns e).1] at h
  cases h
theorem Old.refl (S : PotS) (H : Hp) : Old S H H := fun _ _ _ e => e
theorem rd_old {S : PotS} {B H H3 : Hp} (po : PotOk S B H) (e : Ex B H) (o : Old S H H3) {a : Addr} {u : HO} (h : Rd B a u) : Rd H3 a u := by
  rcases h with h | ⟨f, h⟩
  · exact .inl (o a _ (pot_free po h) (e a _ h))
  · exact .inr ⟨f, o a _ (pot_free po h) (e a _ h)⟩
theorem sqT_old {K : PySem.W.Frag} {S : PotS} {B H H3 : Hp} (po : PotOk S B H) (e : Ex B H) (o : Old S H H3) {a : Addr} {vs : List V} (h : SqT K B a vs) : SqT K H3 a vs := by
  rcases h with h | h
  · exact .inl (rd_old po e o h)
  · exact .inr h
theorem sqL_old {K : PySem.W.Frag} {S : PotS} {B H H3 : Hp} (po : PotOk S B H) (e : Ex B H) (o : Old S H H3) {a : Addr} {vs : List V} (h : SqL K B a vs) : SqL K H3 a vs := by
  rcases h with h | h
  · exact .inl (rd_old po e o h)
  · exact .inr h
theorem DE.tup {X : Cx} {e : Expr} {Δ : List Sl} {S S' : PotS} {ds : List D} (h : DE X e Δ S (.tup ds) S') : DQ X e Δ S true ds S' := h.imp fun H v B2 H2 ex po p => by
  cases p with
  | tup h1 h2 => exact ⟨_, _, rfl, fun H3 o => sqT_old po ex o h1, h2⟩
theorem DE.lst {X : Cx} {e : Expr} {Δ : List Sl} {S S' : PotS} {ds : List D} (h : DE X e Δ S (.lst ds) S') : DQ X e Δ S false ds S' := h.imp fun H v B2 H2 ex po p => by
  cases p with
  | lst h1 h2 => exact ⟨_, _, rfl, fun H3 o => sqL_old po ex o h1, h2⟩
theorem DN.seq {X : Cx} {e : Expr} {Δ : List Sl} {S S' : PotS} {ds : List D} (h : DN X e Δ S ds S') : DQ X e Δ S false ds S' := h.dat.lst
end Ab

set_option Elab.async false
set_option linter.all false
set_option autoImplicit false
set_option maxRecDepth 100000
set_option maxHeartbeats 2000000
/-! Expressions: a rule for each construct. -/
namespace Ab
open PySem PySem.Spec PyProof.Rows L2

/-- a name's place -/
inductive At : List Str → List Sl → Str → Nat → Sl → Prop
  | here {N : List Str} {Δ : List Sl} {x : Str} {s : Sl} : At (x :: N) (s :: Δ) x 0 s
  | there {N : List Str} {Δ : List Sl} {x y : Str} {s t : Sl} {i : Nat} : At N Δ x i s → At (y :: N) (t :: Δ) x (i + 1) s
theorem At.slot {N : List Str} {Δ : List Sl} {x : Str} {i : Nat} {s : Sl} (h : At N Δ x i s) : Δ[i]? = some s := by
  induction h with
  | here => rfl
  | there _ ih => simpa using ih
theorem At.name {N : List Str} {Δ : List Sl} {x : Str} {i : Nat} {s : Sl} (h : At N Δ x i s) : N[i]? = some x := by
  induction h with
  | here => rfl
  | there _ ih => simpa using ih

/-- the same, the place unsaid -/
inductive Has : List Str → List Sl → Str → Sl → Prop
  | here {N : List Str} {Δ : List Sl} {x : Str} {s : Sl} : Has (x :: N) (s :: Δ) x s
  | there {N : List Str} {Δ : List Sl} {x y : Str} {s t : Sl} : Has N Δ x s → Has (y :: N) (t :: Δ) x s
theorem Has.at_ {N : List Str} {Δ : List Sl} {x : Str} {s : Sl} (h : Has N Δ x s) : ∃ i, At N Δ x i s := by
  induction h with
  | here => exact ⟨0, .here⟩
  | there _ ih =>
    obtain ⟨i, h⟩ := ih
    exact ⟨i + 1, .there h⟩
section
variable {X : Cx} {Δ : List Sl} {S S1 S2 S3 : PotS} {pos : Pos} {a b c e : Expr}

theorem de_at {N : List Str} {x : Str} {i : Nat} {d : D} (hN : X.N = N) (h : At N Δ x i (.dat d)) (hv : Vis X.env.scope x := by first | exact Or.inl rfl | exact Or.inr (Or.inl rfl) | exact Or.inr (Or.inr rfl))
    (hd : (x == ("__debug__" : Str)) = false := by decide) (hcd : (x == ("__classdict__" : Str)) = false := by decide) : DE X (.Name x pos) Δ S d S :=
  DG.by (pe_var (by rw [hN]; exact h.name) hv hd hcd) (PotEq.refl S) fun B0 H0 σ B H z Q q => by
    obtain ⟨v, h1, h2⟩ := z.dat i d h.slot
    exact ⟨v, h1, q v B H (Gr.refl z.sub) z.pot h2⟩
theorem de_name {N : List Str} {x : Str} {d : D} (hN : X.N = N) (h : Has N Δ x (.dat d)) (hv : Vis X.env.scope x := by first | exact Or.inl rfl | exact Or.inr (Or.inl rfl) | exact Or.inr (Or.inr rfl))
    (hd : (x == ("__debug__" : Str)) = false := by decide) (hcd : (x == ("__classdict__" : Str)) = false := by decide) : DE X (.Name x pos) Δ S d S := by
  obtain ⟨i, h⟩ := h.at_
  exact de_at hN h hv hd hcd
/-- a list of one's own, read -/
theorem dq_ownA {N : List Str} {x : Str} {i : Nat} {ds : List D} (hN : X.N = N) (h : At N Δ x i (.own ds)) (hv : Vis X.env.scope x := by first | exact Or.inl rfl | exact Or.inr (Or.inl rfl) | exact Or.inr (Or.inr rfl))
    (hd : (x == ("__debug__" : Str)) = false := by decide) (hcd : (x == ("__classdict__" : Str)) = false := by decide) : DQ X (.Name x pos) Δ S false ds S :=
  DG.by (pe_var (by rw [hN]; exact h.name) hv hd hcd) (PotEq.refl S) fun B0 H0 σ B H z Q q => by
    obtain ⟨p, vs, h1, h2, h3, h4, h5, h6⟩ := z.own i ds h.slot
    exact ⟨.ref p, h1, q _ B H (Gr.refl z.sub) z.pot ⟨p, vs, rfl, fun H3 o => Evl.sq_of (o p _ h4 h5), h6⟩⟩
theorem dq_own {N : List Str} {x : Str} {ds : List D} (hN : X.N = N) (h : Has N Δ x (.own ds)) (hv : Vis X.env.scope x := by first | exact Or.inl rfl | exact Or.inr (Or.inl rfl) | exact Or.inr (Or.inr rfl))
    (hd : (x == ("__debug__" : Str)) = false := by decide) (hcd : (x == ("__classdict__" : Str)) = false := by decide) : DQ X (.Name x pos) Δ S false ds S := by
  obtain ⟨i, h⟩ := h.at_
  exact dq_ownA hN h hv hd hcd
theorem de_c {v : V} {d : D} (pe : PE X e (tC v)) (h : ∀ B, Is X.K B v d) : DE X e Δ S d S :=
  DG.by pe (PotEq.refl S) fun B0 H0 σ B H z Q q => q v B H (Gr.refl z.sub) z.pot (h B)
theorem de_int {i : Int} {j : Nat} : DE X (.Constant (.int i) j pos) Δ S (.int i) S := de_c pe_int fun _ => .int i
theorem de_bl {k : Bool} {j : Nat} : DE X (.Constant (.bool k) j pos) Δ S (.bl k) S := de_c pe_bl fun _ => .bl k
theorem de_non {j : Nat} : DE X (.Constant .none j pos) Δ S .non S := de_c pe_non fun _ => .non
theorem de_str {x : Str} {j : Nat} : DE X (.Constant (.str x) j pos) Δ S (.str x) S := de_c pe_str fun _ => .str x
/-- a constant of the module -/
theorem de_glob {x : Str} {v : V} {u : Value} {d : D} (hg : Gl X x) (hm : X.mg x = some u) (r : RelV v u) (h : ∀ B, Is X.K B v d) (hd : (x == ("__debug__" : Str)) = false := by decide) : DE X (.Name x pos) Δ S d S := de_c (pe_glob hg hm r hd) h

/-! ### two in a row -/
theorem gr_go {S S1 : PotS} {B H B1 H1 B2 H2 : Hp} (po : PotOk S1 B1 H1) (e : PotEq S S1) (a : Gr S B H B1 H1) (b : Gr S1 B1 H1 B2 H2) : Gr S B H B2 H2 := Gr.trans po e a b
theorem po_of {K : PySem.W.Frag} {B0 H0 B H : Hp} {σ : L2.St} (z : Stt K B0 H0 σ B H Δ S) : PotOk S B H := z.pot
/-- ints -/
theorem de_i {op : Operator} {g : Int → Int → V} {i j : Int} {d : D} (ho : OpR X (binaryOp op) (rI0 g)) (hd : ∀ B, Is X.K B (g i j) d) (ha : DE X a Δ S (.int i) S1) (hb : DE X b Δ S1 (.int j) S2) : DE X (.BinOp a op b pos) Δ S d S2 :=
  DG.by (pe_op ho W.pe W.pe) (ha.1.trans hb.1) fun B0 H0 σ B H z Q q => z.run ha fun v B1 H1 z1 g1 p1 => z1.run hb fun u B2 H2 z2 g2 p2 => by
    cases p1
    cases p2
    exact ⟨i, j, rfl, rfl, q _ B2 H2 (gr_go z1.pot ha.1 g1 g2) z2.pot (hd B2)⟩
theorem de_iC {op : Operator} {C : Int → Int → Prop} {g : Int → Int → V} {i j : Int} {d : D} (ho : OpR X (binaryOp op) (rI C g)) (hd : ∀ B, Is X.K B (g i j) d) (ha : DE X a Δ S (.int i) S1) (hb : DE X b Δ S1 (.int j) S2) (hc : C i j) : DE X (.BinOp a op b pos) Δ S d S2 :=
  DG.by (pe_op ho W.pe W.pe) (ha.1.trans hb.1) fun B0 H0 σ B H z Q q => z.run ha fun v B1 H1 z1 g1 p1 => z1.run hb fun u B2 H2 z2 g2 p2 => by
    cases p1
    cases p2
    exact ⟨i, j, rfl, rfl, hc, q _ B2 H2 (gr_go z1.pot ha.1 g1 g2) z2.pot (hd B2)⟩
theorem de_add {i j : Int} (ha : DE X a Δ S (.int i) S1) (hb : DE X b Δ S1 (.int j) S2) : DE X (.BinOp a .Add b pos) Δ S (.int (i + j)) S2 := de_i op_add (fun _ => .int _) ha hb
theorem de_sub {i j : Int} (ha : DE X a Δ S (.int i) S1) (hb : DE X b Δ S1 (.int j) S2) : DE X (.BinOp a .Sub b pos) Δ S (.int (i - j)) S2 := de_i op_sub (fun _ => .int _) ha hb
theorem de_mul {i j : Int} (ha : DE X a Δ S (.int i) S1) (hb : DE X b Δ S1 (.int j) S2) (hc : CMulW i j) : DE X (.BinOp a .Mult b pos) Δ S (.int (i * j)) S2 := de_iC op_mulW (fun _ => .int _) ha hb hc
theorem de_mod {i j : Int} (ha : DE X a Δ S (.int i) S1) (hb : DE X b Δ S1 (.int j) S2) (hc : 0 < j) : DE X (.BinOp a .Mod b pos) Δ S (.int (i % j)) S2 := de_iC op_mod (fun _ => .int _) ha hb hc
theorem de_fdiv {i j : Int} (ha : DE X a Δ S (.int i) S1) (hb : DE X b Δ S1 (.int j) S2) (hc : CDivW i j) : DE X (.BinOp a .FloorDiv b pos) Δ S (.int (i / j)) S2 := de_iC op_fdivW (fun _ => .int _) ha hb hc
theorem de_pow {i j : Int} (ha : DE X a Δ S (.int i) S1) (hb : DE X b Δ S1 (.int j) S2) (hc : CPow i j) : DE X (.BinOp a .Pow b pos) Δ S (.int (i ^ j.toNat)) S2 := de_iC op_pow (fun _ => .int _) ha hb hc
/-! ### tests: a value that is a bool, as a value and as a test -/
structure DT (X : Cx) (e : Expr) (Δ : List Sl) (S : PotS) (k : Bool) (S' : PotS) : Prop where
  eq : PotEq S S'
  run : ∀ B0 H0 σ B H, Stt X.K B0 H0 σ B H Δ S → ∀ Q : Bool → Hp → Prop, (∀ B2 H2, Gr S B H B2 H2 → PotOk S' B2 H2 → Q k H2) → WT X e σ H Q
theorem Stt.runT {S' : PotS} {k : Bool} {B0 H0 : Hp} {σ : L2.St} {B H : Hp} {Q : Bool → Hp → Prop} (z : Stt X.K B0 H0 σ B H Δ S) (h : DT X e Δ S k S')
    (q : ∀ B2 H2, Stt X.K B0 H0 σ B2 H2 Δ S' → Gr S B H B2 H2 → Q k H2) : WT X e σ H Q :=
  h.2 B0 H0 σ B H z Q fun B2 H2 g po => q B2 H2 (z.grow h.1 g po) g
theorem DT.by {t : TT} {k : Bool} (pt : PT X e t) (eq : PotEq S S1)
    (h : ∀ B0 H0 σ B H, Stt X.K B0 H0 σ B H Δ S → ∀ Q : Bool → Hp → Prop, (∀ B2 H2, Gr S B H B2 H2 → PotOk S1 B2 H2 → Q k H2) → t σ H Q) : DT X e Δ S k S1 :=
  ⟨eq, fun B0 H0 σ B H z Q q => WT.of pt (h B0 H0 σ B H z Q q)⟩
structure DB (X : Cx) (e : Expr) (Δ : List Sl) (S : PotS) (k : Bool) (S' : PotS) : Prop where
  de : DE X e Δ S (.bl k) S'
  dt : DT X e Δ S k S'
theorem db_val {k : Bool} (h : DE X e Δ S (.bl k) S1) (he : ∀ whole, isTrue e X.env whole = (do let v ← whole; standAt e.pos; holding [v] (truthy v)) := by intro _; rfl) : DB X e Δ S k S1 :=
  ⟨h, DT.by (pt_val W.pe he) h.1 fun B0 H0 σ B H z Q q => z.run h fun v B1 H1 z1 g1 p1 => by
    cases p1
    exact ⟨k, rfl, q B1 H1 g1 z1.pot⟩⟩
/-- a comparison by its operator's reading -/
theorem db_cmp {op : CmpOp} {r : R2} {k : Bool} {P1 P2 : Po} (ho : OpR X (compareOp op) r) (hm : behindInMarks op b = false) (ha : DG X a Δ S P1 S1) (hb : DG X b Δ S1 P2 S2)
    (hr : ∀ B H v B1 H1 u B2 H2, Gr S B H B1 H1 → PotOk S1 B1 H1 → P1 H v B1 H1 → Gr S1 B1 H1 B2 H2 → PotOk S2 B2 H2 → P2 H1 u B2 H2 → ∀ Q : VK, Q (.bl k) H2 → r v u H2 Q) : DB X (.Compare a [op] [b] pos) Δ S k S2 :=
  ⟨DG.by (pe_cmpR ho W.pe W.pe hm) (ha.1.trans hb.1) fun B0 H0 σ B H z Q q => z.run ha fun v B1 H1 z1 g1 p1 => z1.run hb fun u B2 H2 z2 g2 p2 =>
      hr B H v B1 H1 u B2 H2 g1 z1.pot p1 g2 z2.pot p2 Q (q _ B2 H2 (gr_go z1.pot ha.1 g1 g2) z2.pot (.bl _)),
    DT.by (pt_cmpR ho W.pe W.pe hm) (ha.1.trans hb.1) fun B0 H0 σ B H z Q q => z.run ha fun v B1 H1 z1 g1 p1 => z1.run hb fun u B2 H2 z2 g2 p2 =>
      hr B H v B1 H1 u B2 H2 g1 z1.pot p1 g2 z2.pot p2 _ ⟨k, rfl, q B2 H2 (gr_go z1.pot ha.1 g1 g2) z2.pot⟩⟩
theorem db_I {op : CmpOp} {f : Int → Int → Bool} {i j : Int} (ho : OpR X (compareOp op) (rI0 fun i j => .bl (f i j))) (hm : behindInMarks op b = false) (ha : DE X a Δ S (.int i) S1) (hb : DE X b Δ S1 (.int j) S2) : DB X (.Compare a [op] [b] pos) Δ S (f i j) S2 :=
  db_cmp ho hm ha hb fun B H v B1 H1 u B2 H2 _ _ p1 _ _ p2 Q q => by
    cases p1
    cases p2
    exact ⟨i, j, rfl, rfl, q⟩
theorem db_lt {i j : Int} (ha : DE X a Δ S (.int i) S1) (hb : DE X b Δ S1 (.int j) S2) : DB X (.Compare a [.Lt] [b] pos) Δ S (decide (i < j)) S2 := db_I op_lt (nomark _) ha hb
theorem db_le {i j : Int} (ha : DE X a Δ S (.int i) S1) (hb : DE X b Δ S1 (.int j) S2) : DB X (.Compare a [.LtE] [b] pos) Δ S (decide (i ≤ j)) S2 := db_I op_le (nomark _) ha hb
theorem db_gt {i j : Int} (ha : DE X a Δ S (.int i) S1) (hb : DE X b Δ S1 (.int j) S2) : DB X (.Compare a [.Gt] [b] pos) Δ S (decide (j < i)) S2 := db_I op_gt (nomark _) ha hb
theorem db_ge {i j : Int} (ha : DE X a Δ S (.int i) S1) (hb : DE X b Δ S1 (.int j) S2) : DB X (.Compare a [.GtE] [b] pos) Δ S (decide (j ≤ i)) S2 := db_I op_ge (nomark _) ha hb
theorem V_int {i j : Int} : decide (V.int i = V.int j) = decide (i = j) := decide_eq_decide.mpr (by rw [V.int.injEq])
theorem db_eqI {i j : Int} (ha : DE X a Δ S (.int i) S1) (hb : DE X b Δ S1 (.int j) S2) : DB X (.Compare a [.Eq] [b] pos) Δ S (decide (i = j)) S2 :=
  db_cmp op_eq (nomark _) ha hb fun B H v B1 H1 u B2 H2 _ _ p1 _ _ p2 Q q => by
    cases p1
    cases p2
    exact ⟨rfl, by rw [V_int]; exact q⟩
theorem db_neI {i j : Int} (ha : DE X a Δ S (.int i) S1) (hb : DE X b Δ S1 (.int j) S2) : DB X (.Compare a [.NotEq] [b] pos) Δ S (!decide (i = j)) S2 :=
  db_cmp op_ne (nomark _) ha hb fun B H v B1 H1 u B2 H2 _ _ p1 _ _ p2 Q q => by
    cases p1
    cases p2
    exact ⟨rfl, by rw [V_int]; exact q⟩
def isNon : D → Bool
  | .non => true
  | _ => false
theorem isNon_of {K : PySem.W.Frag} {B : Hp} {v : V} {d : D} (h : Is K B v d) : decide (v = .non) = isNon d := by
  cases h <;> rfl
theorem db_isN {d : D} {j : Nat} {p2 : Pos} (ha : DE X a Δ S d S1) : DB X (.Compare a [.Is] [.Constant .none j p2] pos) Δ S (isNon d) S1 :=
  db_cmp op_isN (nomark _) ha (de_non (S := S1)) fun B H v B1 H1 u B2 H2 _ _ p1 _ _ p2 Q q => by
    cases p2
    exact ⟨rfl, by rw [isNon_of p1]; exact q⟩
theorem db_notN {d : D} {j : Nat} {p2 : Pos} (ha : DE X a Δ S d S1) : DB X (.Compare a [.IsNot] [.Constant .none j p2] pos) Δ S (!isNon d) S1 :=
  db_cmp op_notN (nomark _) ha (de_non (S := S1)) fun B H v B1 H1 u B2 H2 _ _ p1 _ _ p2 Q q => by
    cases p2
    exact ⟨rfl, by rw [isNon_of p1]; exact q⟩
/-- a is True -/
theorem db_isB {k l : Bool} (ha : DE X a Δ S (.bl k) S1) (hb : DE X b Δ S1 (.bl l) S2) : DB X (.Compare a [.Is] [b] pos) Δ S (decide (k = l)) S2 :=
  db_cmp op_isBl (nomark _) ha hb fun B H v B1 H1 u B2 H2 _ _ p1 _ _ p2 Q q => by
    cases p1
    cases p2
    exact ⟨k, l, rfl, rfl, q⟩
/-- a <= b < c of ints -/
theorem db_chain {op op' : CmpOp} {f g : Int → Int → Bool} {i j k : Int} (ho : OpR X (compareOp op) (rI0 fun i j => .bl (f i j))) (ho' : OpR X (compareOp op') (rI0 fun i j => .bl (g i j)))
    (ha : DE X a Δ S (.int i) S) (hb : DE X b Δ S (.int j) S) (hc : DE X c Δ S (.int k) S) (hm : lastMarks [op, op'] [b, c] = false := by with_unfolding_all rfl) : DB X (.Compare a [op, op'] [b, c] pos) Δ S (f i j && g j k) S := by
  have key : ∀ B0 H0 σ B H, Stt X.K B0 H0 σ B H Δ S → ∀ Q : VK, (∀ B2 H2, Gr S B H B2 H2 → PotOk S B2 H2 → Q (.bl (f i j && g j k)) H2) → tChain (rI0 fun i j => .bl (f i j)) (rI0 fun i j => .bl (g i j)) (W X a) (W X b) (W X c) σ H Q := by
    intro B0 H0 σ B H z Q q
    refine z.run ha fun v B1 H1 z1 g1 p1 => z1.run hb fun u B2 H2 z2 g2 p2 => ?_
    cases p1
    cases p2
    have g3 := gr_go z1.pot ha.1 g1 g2
    refine ⟨i, j, rfl, rfl, f i j, rfl, ?_⟩
    cases hf : f i j with
    | false =>
      rw [if_neg Bool.false_ne_true]
      have z9 := q B2 H2 g3 z2.pot
      rw [hf] at z9
      exact z9
    | true =>
      rw [if_pos rfl]
      refine z2.run hc fun w B3 H3 z3 g4 p3 => ?_
      cases p3
      refine ⟨j, k, rfl, rfl, ?_⟩
      have z9 := q B3 H3 (gr_go z2.pot (PotEq.refl S) g3 g4) z3.pot
      rw [hf] at z9
      exact z9
  exact ⟨DG.by (pe_chain ho ho' W.pe W.pe W.pe hm) (PotEq.refl S) fun B0 H0 σ B H z Q q => key B0 H0 σ B H z Q fun B2 H2 g po => q _ B2 H2 g po (.bl _),
    DT.by (pt_chain ho ho' W.pe W.pe W.pe hm) (PotEq.refl S) fun B0 H0 σ B H z Q q => key B0 H0 σ B H z _ fun B2 H2 g po => ⟨_, rfl, q B2 H2 g po⟩⟩

/-! ### and, or, not, if else -/
theorem db_and1 {k : Bool} (h : DB X a Δ S k S1) : DB X (.BoolOp .And [a] pos) Δ S k S1 :=
  ⟨DG.by (pe_one W.pe) h.de.1 fun B0 H0 σ B H z Q q => z.run h.de fun v B1 H1 z1 g1 p1 => q v B1 H1 g1 z1.pot p1,
    DT.by (pw_and1 WT.pt).pt h.dt.1 fun B0 H0 σ B H z Q q => z.runT h.dt fun B1 H1 z1 g1 => q B1 H1 g1 z1.pot⟩
theorem db_or1 {k : Bool} (h : DB X a Δ S k S1) : DB X (.BoolOp .Or [a] pos) Δ S k S1 :=
  ⟨DG.by (pe_one W.pe) h.de.1 fun B0 H0 σ B H z Q q => z.run h.de fun v B1 H1 z1 g1 p1 => q v B1 H1 g1 z1.pot p1,
    DT.by (pw_or1 WT.pt).pt h.dt.1 fun B0 H0 σ B H z Q q => z.runT h.dt fun B1 H1 z1 g1 => q B1 H1 g1 z1.pot⟩
/-- the test of an and, an or leaves its whole aside -/
def WW (X : Cx) (e : Expr) : TT := fun σ H Q => ∀ (whole : Sem Value) (pins : List (Addr × Obj)) (s : Shared), Inv X pins σ H s → wpAny (model X.prog X.w) X.A (isTrue e X.env whole) (TP X pins σ Q) X.xe s
theorem WW.pw : PW X e (WW X e) := ⟨fun whole pins s _ _ _ I h => h whole pins s I⟩
theorem WW.of {t : TT} (h : PW X e t) {σ : L2.St} {H : Hp} {Q : Bool → Hp → Prop} (q : t σ H Q) : WW X e σ H Q := fun whole pins s I => h.run whole pins s σ H Q I q
/-- a chain of and, of or -/
structure DW (X : Cx) (e : Expr) (Δ : List Sl) (S : PotS) (k : Bool) (S' : PotS) : Prop where
  de : DE X e Δ S (.bl k) S'
  dw : ∀ B0 H0 σ B H, Stt X.K B0 H0 σ B H Δ S → ∀ Q : Bool → Hp → Prop, (∀ B2 H2, Gr S B H B2 H2 → PotOk S' B2 H2 → Q k H2) → WW X e σ H Q
theorem DW.db {k : Bool} (h : DW X e Δ S k S1) : DB X e Δ S k S1 := ⟨h.de, DT.by (WW.pw).pt h.de.1 h.dw⟩
theorem dw_and1 {k : Bool} (h : DB X a Δ S k S1) : DW X (.BoolOp .And [a] pos) Δ S k S1 :=
  ⟨(db_and1 h).de, fun B0 H0 σ B H z Q q => WW.of (pw_and1 WT.pt) (z.runT h.dt fun B1 H1 z1 g1 => q B1 H1 g1 z1.pot)⟩
theorem dw_or1 {k : Bool} (h : DB X a Δ S k S1) : DW X (.BoolOp .Or [a] pos) Δ S k S1 :=
  ⟨(db_or1 h).de, fun B0 H0 σ B H z Q q => WW.of (pw_or1 WT.pt) (z.runT h.dt fun B1 H1 z1 g1 => q B1 H1 g1 z1.pot)⟩
theorem dw_and {rest : List Expr} {k l : Bool} (ha : DB X a Δ S k S1) (hb : k = true → DW X (.BoolOp .And (b :: rest) pos) Δ S1 l S2) (hs : k = false → S1 = S2 := by intro _; rfl) : DW X (.BoolOp .And (a :: b :: rest) pos) Δ S (k && l) S2 := by
  cases k with
  | true =>
    have hb := hb rfl
    have e := ha.de.1.trans hb.de.1
    refine ⟨DG.by (pe_and W.pe W.pe) e fun B0 H0 σ B H z Q q => z.run ha.de fun v B1 H1 z1 g1 p1 => ?_, fun B0 H0 σ B H z Q q => WW.of (pw_and WT.pt WW.pw) (z.runT ha.dt fun B1 H1 z1 g1 => ?_)⟩
    · cases p1
      refine ⟨true, rfl, ?_⟩
      rw [if_pos rfl]
      exact z1.run hb.de fun u B2 H2 z2 g2 p2 => q u B2 H2 (gr_go z1.pot ha.de.1 g1 g2) z2.pot p2
    · rw [if_pos rfl]
      exact hb.dw B0 H0 σ B1 H1 z1 _ fun B2 H2 g2 po => q B2 H2 (gr_go z1.pot ha.de.1 g1 g2) po
  | false =>
    have hs := hs rfl
    subst hs
    refine ⟨DG.by (pe_and W.pe W.pe) ha.de.1 fun B0 H0 σ B H z Q q => z.run ha.de fun v B1 H1 z1 g1 p1 => ?_, fun B0 H0 σ B H z Q q => WW.of (pw_and WT.pt WW.pw) (z.runT ha.dt fun B1 H1 z1 g1 => ?_)⟩
    · cases p1
      refine ⟨false, rfl, ?_⟩
      rw [if_neg Bool.false_ne_true]
      exact q _ B1 H1 g1 z1.pot (.bl _)
    · rw [if_neg Bool.false_ne_true]
      exact q B1 H1 g1 z1.pot
theorem dw_or {rest : List Expr} {k l : Bool} (ha : DB X a Δ S k S1) (hb : k = false → DW X (.BoolOp .Or (b :: rest) pos) Δ S1 l S2) (hs : k = true → S1 = S2 := by intro _; rfl) : DW X (.BoolOp .Or (a :: b :: rest) pos) Δ S (k || l) S2 := by
  cases k with
  | false =>
    have hb := hb rfl
    have e := ha.de.1.trans hb.de.1
    refine ⟨DG.by (pe_or W.pe W.pe) e fun B0 H0 σ B H z Q q => z.run ha.de fun v B1 H1 z1 g1 p1 => ?_, fun B0 H0 σ B H z Q q => WW.of (pw_or WT.pt WW.pw) (z.runT ha.dt fun B1 H1 z1 g1 => ?_)⟩
    · cases p1
      refine ⟨false, rfl, ?_⟩
      rw [if_neg Bool.false_ne_true]
      exact z1.run hb.de fun u B2 H2 z2 g2 p2 => q u B2 H2 (gr_go z1.pot ha.de.1 g1 g2) z2.pot p2
    · rw [if_neg Bool.false_ne_true]
      exact hb.dw B0 H0 σ B1 H1 z1 _ fun B2 H2 g2 po => q B2 H2 (gr_go z1.pot ha.de.1 g1 g2) po
  | true =>
    have hs := hs rfl
    subst hs
    refine ⟨DG.by (pe_or W.pe W.pe) ha.de.1 fun B0 H0 σ B H z Q q => z.run ha.de fun v B1 H1 z1 g1 p1 => ?_, fun B0 H0 σ B H z Q q => WW.of (pw_or WT.pt WW.pw) (z.runT ha.dt fun B1 H1 z1 g1 => ?_)⟩
    · cases p1
      refine ⟨true, rfl, ?_⟩
      rw [if_pos rfl]
      exact q _ B1 H1 g1 z1.pot (.bl _)
    · rw [if_pos rfl]
      exact q B1 H1 g1 z1.pot
theorem db_not {k : Bool} (ha : DB X a Δ S k S1) : DB X (.UnaryOp .Not a pos) Δ S (!k) S1 :=
  ⟨DG.by (pe_not W.pe) ha.de.1 fun B0 H0 σ B H z Q q => z.run ha.de fun v B1 H1 z1 g1 p1 => by
      cases p1
      exact ⟨k, rfl, q _ B1 H1 g1 z1.pot (.bl _)⟩,
    DT.by (pt_not WT.pt) ha.dt.1 fun B0 H0 σ B H z Q q => z.runT ha.dt fun B1 H1 z1 g1 => q B1 H1 g1 z1.pot⟩
theorem de_neg {i : Int} (ha : DE X a Δ S (.int i) S1) : DE X (.UnaryOp .USub a pos) Δ S (.int (-i)) S1 := DG.by (pe_un un_neg W.pe) ha.1 fun B0 H0 σ B H z Q q => z.run ha fun v B1 H1 z1 g1 p1 => by
  cases p1
  exact ⟨i, rfl, q _ B1 H1 g1 z1.pot (.int _)⟩
/-- a if t else b, of any post -/
theorem dg_if {k : Bool} {P : Po} (hP : ∀ H v B2 H2 H1, Old S H H1 → P H1 v B2 H2 → P H v B2 H2) (hc : DB X c Δ S k S1) (ha : k = true → DG X a Δ S1 P S2) (hb : k = false → DG X b Δ S1 P S2) : DG X (.IfExp c a b pos) Δ S P S2 := by
  cases k with
  | true =>
    have ha := ha rfl
    refine DG.by (pe_ifExp WT.pt W.pe W.pe) (hc.dt.1.trans ha.1) fun B0 H0 σ B H z Q q => z.runT hc.dt fun B1 H1 z1 g1 => ?_
    rw [if_pos rfl]
    exact z1.run ha fun v B2 H2 z2 g2 p2 => q v B2 H2 (gr_go z1.pot hc.dt.1 g1 g2) z2.pot (hP H v B2 H2 H1 g1.old p2)
  | false =>
    have hb := hb rfl
    refine DG.by (pe_ifExp WT.pt W.pe W.pe) (hc.dt.1.trans hb.1) fun B0 H0 σ B H z Q q => z.runT hc.dt fun B1 H1 z1 g1 => ?_
    rw [if_neg Bool.false_ne_true]
    exact z1.run hb fun v B2 H2 z2 g2 p2 => q v B2 H2 (gr_go z1.pot hc.dt.1 g1 g2) z2.pot (hP H v B2 H2 H1 g1.old p2)
theorem de_if {k : Bool} {d1 d2 : D} (hc : DB X c Δ S k S1) (ha : k = true → DE X a Δ S1 d1 S2) (hb : k = false → DE X b Δ S1 d2 S2) : DE X (.IfExp c a b pos) Δ S (if k = true then d1 else d2) S2 :=
  dg_if (fun _ _ _ _ _ _ h => h) hc (fun h => by rw [if_pos h]; exact ha h) (fun h => by rw [if_neg (by rw [h]; exact Bool.false_ne_true)]; exact hb h)
end
end Ab

set_option Elab.async false
set_option linter.all false
set_option autoImplicit false
set_option maxRecDepth 100000
set_option maxHeartbeats 2000000
/-! Sequences, built-in calls, calls. -/
namespace Ab
open PySem PySem.Spec PyProof.Rows L2

section
variable {X : Cx} {Δ : List Sl} {S S1 S2 S3 : PotS} {pos : Pos} {a b c e : Expr} {es : List Expr}

theorem Sq.len {K : PySem.W.Frag} {t : Bool} {H : Hp} {p : Addr} {vs : List V} (h : Sq K t H p vs) : SqL K H p vs ∨ SqT K H p vs := by
  cases t with
  | true => exact .inr h
  | false => exact .inl h

theorem All.rep {K : PySem.W.Frag} {B : Hp} {vs : List V} {ds : List D} (h : All K B vs ds) : ∀ m : Nat, All K B (List.replicate m vs).flatten (List.replicate m ds).flatten
  | 0 => .nil
  | m + 1 => by
    rw [List.replicate_succ, List.replicate_succ, List.flatten_cons, List.flatten_cons]
    exact h.append (h.rep m)
/-! ### x[i] -/
theorem de_ix {t : Bool} {ds : List D} {i : Int} {d : D} (ha : DQ X a Δ S t ds S1) (hb : DE X b Δ S1 (.int i) S2) (hi : atI ds i = some d) (hs : PlainIx b := by exact fun _ _ => rfl) : DE X (.Subscript a b pos) Δ S d S2 := by
  have key : ∀ (B0 H0 : Hp) (σ : L2.St) (B H : Hp), Stt X.K B0 H0 σ B H Δ S → ∀ Q : VK, (∀ v B2 H2, Gr S B H B2 H2 → PotOk S2 B2 H2 → Is X.K B2 v d → Q v H2) → tOp (fun x y H Q => ∃ p xs i v, x = .ref p ∧ y = .int i ∧ Sq X.K t H p xs ∧ atI xs i = some v ∧ Q v H) (W X a) (W X b) σ H Q := by
    intro B0 H0 σ B H z Q q
    refine z.run ha fun v B1 H1 z1 g1 p1 => z1.run hb fun u B2 H2 z2 g2 p2 => ?_
    obtain ⟨p, vs, rfl, hp, hv⟩ := p1
    cases p2
    have hl := hv.length
    unfold atI at hi
    cases hx : ixN ds.length i with
    | none =>
      rw [hx] at hi
      cases hi
    | some j =>
      rw [hx] at hi
      obtain ⟨v, h1, h2⟩ := hv.get (i := j) (show ds[j]? = some d from hi)
      refine ⟨p, vs, i, v, rfl, rfl, hp H2 g2.old, ?_, q v B2 H2 (gr_go z1.pot ha.1 g1 g2) z2.pot (h2.mono g2.ex)⟩
      unfold atI
      rw [hl, hx]
      exact h1
  cases t with
  | true => exact DG.by (pe_ix ix_tup W.pe W.pe hs) (ha.1.trans hb.1) key
  | false => exact DG.by (pe_ix ix_list W.pe W.pe hs) (ha.1.trans hb.1) key
theorem atI_get {ds : List D} {j : Nat} {d : D} (h : ds[j]? = some d) : atI ds (j : Int) = some d := atI_nat h

/-! ### slices -/
def DO (X : Cx) (e : Option Expr) (i : Option Int) : Prop := ∃ t : TO, PO X e t ∧ ∀ σ H Q, Q i H → t σ H Q
theorem do_none : DO X none none := ⟨_, po_none, fun _ _ _ q => q⟩
theorem do_int {i : Int} {j : Nat} {p : Pos} : DO X (some (.Constant (.int i) j p)) (some i) := ⟨_, po_some pe_int, fun _ _ _ q => ⟨i, rfl, q⟩⟩
theorem do_neg {i : Int} {j : Nat} {p p2 : Pos} : DO X (some (.UnaryOp .USub (.Constant (.int i) j p) p2)) (some (-i)) := ⟨_, po_some (pe_un un_neg pe_int), fun _ _ _ q => ⟨i, rfl, -i, rfl, q⟩⟩
/-- a slice's end, an expression that changes nothing -/
structure DOE (X : Cx) (e : Option Expr) (Δ : List Sl) (S : PotS) (i : Option Int) : Prop where
  ex : ∃ t : TO, PO X e t ∧ ∀ B0 H0 σ B H, Stt X.K B0 H0 σ B H Δ S → ∀ Q : Option Int → Hp → Prop, (∀ B2 H2, Gr S B H B2 H2 → PotOk S B2 H2 → Q i H2) → t σ H Q
theorem doe_none : DOE X none Δ S none := ⟨⟨_, po_none, fun B0 H0 σ B H z Q q => q B H (Gr.refl z.sub) z.pot⟩⟩
theorem doe_some {i : Int} (h : DE X e Δ S (.int i) S) : DOE X (some e) Δ S (some i) := ⟨⟨_, po_some W.pe, fun B0 H0 σ B H z Q q => z.run h fun v B1 H1 z1 g1 p1 => by
  cases p1
  exact ⟨i, rfl, q B1 H1 g1 z1.pot⟩⟩⟩
def cutD (ds : List D) (lo hi : Option Int) : List D := (ds.drop (HT.sIx ds.length 0 lo)).take (HT.sIx ds.length ds.length hi - HT.sIx ds.length 0 lo)
theorem All.cut {K : PySem.W.Frag} {B : Hp} {vs : List V} {ds : List D} (h : All K B vs ds) (lo hi : Option Int) : All K B (cutV vs lo hi) (cutD ds lo hi) := by
  unfold cutV cutD
  rw [h.length]
  exact (h.drop _).take _
theorem dn_sl {lo hi : Option Expr} {l h : Option Int} {ds : List D} {p2 : Pos} (ha : DQ X a Δ S false ds S1) (hl : DOE X lo Δ S1 l) (hh : DOE X hi Δ S1 h) : DN X (.Subscript a (.Slice lo hi none p2) pos) Δ S (cutD ds l h) S1 := by
  obtain ⟨tl, pl, ql⟩ := hl.ex
  obtain ⟨th, ph, qh⟩ := hh.ex
  refine DG.by (pe_slice sl_list W.pe pl ph) ha.1 fun B0 H0 σ B H z Q q => z.run ha fun v B1 H1 z1 g1 p1 => ?_
  refine ql B0 H0 σ B1 H1 z1 _ fun B2 H2 g2 po2 => ?_
  have z2 := z1.grow (PotEq.refl S1) g2 po2
  refine qh B0 H0 σ B2 H2 z2 _ fun B3 H3 g3 po3 => ?_
  have z3 := z2.grow (PotEq.refl S1) g3 po3
  obtain ⟨p, vs, rfl, hp, hv⟩ := p1
  have o13 : Old S1 H1 H3 := fun x o hm h => g3.old x o hm (g2.old x o hm h)
  refine ⟨p, vs, rfl, hp H3 o13, fun n hn => ?_⟩
  have g : Gr S B H B3 H3 := gr_go z2.pot ha.1 (gr_go z1.pot ha.1 g1 g2) g3
  have gn : Gr S B H B3 (upd H3 n (.lst (cutV vs l h))) := gr_go z3.pot ha.1 g (Gr.mine z3.sub hn)
  have hB : B3 n = none := Evl.fresh_back z3.sub hn
  refine q _ B3 _ gn (fun x ns e => ?_) ⟨n, _, rfl, ?_, hB, upd_same, (hv.cut l h).mono (g2.ex.trans g3.ex)⟩
  · have k := z3.pot x ns e
    refine ⟨k.1, ?_⟩
    rw [upd_ne (ne_of_none k.2 hn)]
    exact k.2
  · cases r : H n with
    | none => rfl
    | some o =>
      by_cases hm : PotM S n
      · obtain ⟨ns, e⟩ := ha.1.symm.m hm
        rw [(z3.pot n ns e).2] at hn
        cases hn
      · rw [g.old n o hm r] at hn
        cases hn
/-- behind a growth an address that is free was free -/
theorem Gr.free {K : PySem.W.Frag} {B H B2 H2 : Hp} {n : Addr} (g : Gr S B H B2 H2) (e : PotEq S S1) (po : PotOk S1 B2 H2) (hn : H2 n = none) : H n = none := by
  cases r : H n with
  | none => rfl
  | some o =>
    by_cases hm : PotM S n
    · obtain ⟨ns, k⟩ := e.symm.m hm
      rw [(po n ns k).2] at hn
      cases hn
    · rw [g.old n o hm r] at hn
      cases hn
theorem PotOk.upd {B H : Hp} {n : Addr} {o : HO} (po : PotOk S B H) (hn : H n = none) : PotOk S B (upd H n o) := fun x ns e => by
  have k := po x ns e
  refine ⟨k.1, ?_⟩
  rw [upd_ne (ne_of_none k.2 hn)]
  exact k.2
theorem PotOk.upd2 {B H : Hp} {n : Addr} {o u : HO} (po : PotOk S B H) (hn : H n = none) : PotOk S (L2.upd B n u) (L2.upd H n o) := fun x ns e => by
  have k := po x ns e
  have ne := ne_of_none k.2 hn
  rw [upd_ne ne, upd_ne ne]
  exact k
/-- the end of a rule that makes a new list -/
theorem new_end {B H B2 H2 : Hp} {Q : VK} {n : Addr} {vs : List V} {ds : List D} (ex : Ex B2 H2) (g : Gr S B H B2 H2) (e : PotEq S S1) (po : PotOk S1 B2 H2) (hn : H2 n = none) (ha : All X.K B2 vs ds)
    (q : ∀ v B3 H3, Gr S B H B3 H3 → PotOk S1 B3 H3 → pNew X.K ds H v B3 H3 → Q v H3) : Q (.ref n) (upd H2 n (.lst vs)) :=
  q _ B2 _ (gr_go po e g (Gr.mine ex hn)) (po.upd hn) ⟨n, vs, rfl, g.free (K := X.K) e po hn, Evl.fresh_back ex hn, upd_same, ha⟩
/-- of a new tuple -/
theorem tup_end {B H B2 H2 : Hp} {Q : VK} {n : Addr} {vs : List V} {ds : List D} (ex : Ex B2 H2) (g : Gr S B H B2 H2) (e : PotEq S S1) (po : PotOk S1 B2 H2) (hn : H2 n = none) (ha : All X.K B2 vs ds)
    (q : ∀ v B3 H3, Gr S B H B3 H3 → PotOk S1 B3 H3 → Is X.K B3 v (.tup ds) → Q v H3) : Q (.ref n) (upd H2 n (.tup vs)) :=
  q _ (upd B2 n (.tup vs)) _ (gr_go po e g (Gr.data ex hn)) (po.upd2 hn) (.tup (Evl.st_of upd_same) (ha.mono (Evl.Ex.new (Evl.fresh_back ex hn))))

/-! ### arguments, displays -/
structure DA (X : Cx) (es : List Expr) (Δ : List Sl) (S : PotS) (ds : List D) (S' : PotS) : Prop where
  eq : PotEq S S'
  run : ∀ B0 H0 σ B H, Stt X.K B0 H0 σ B H Δ S → ∀ Q : List V → Hp → Prop, (∀ vs B2 H2, Gr S B H B2 H2 → PotOk S' B2 H2 → All X.K B2 vs ds → Q vs H2) → WA X es σ H Q
theorem Stt.runA {ds : List D} {B0 H0 : Hp} {σ : L2.St} {B H : Hp} {Q : List V → Hp → Prop} (z : Stt X.K B0 H0 σ B H Δ S) (h : DA X es Δ S ds S1)
    (q : ∀ vs B2 H2, Stt X.K B0 H0 σ B2 H2 Δ S1 → Gr S B H B2 H2 → All X.K B2 vs ds → Q vs H2) : WA X es σ H Q :=
  h.2 B0 H0 σ B H z Q fun vs B2 H2 g po => q vs B2 H2 (z.grow h.1 g po) g
theorem da_nil : DA X [] Δ S [] S := ⟨PotEq.refl S, fun B0 H0 σ B H z Q q => WA.of pa_nil (q [] B H (Gr.refl z.sub) z.pot .nil)⟩
theorem da_cons {d : D} {ds : List D} (ha : DE X e Δ S d S1) (hr : DA X es Δ S1 ds S2) (hs : starEach (e :: es) X.env = (false, eval e X.env) :: starEach es X.env := by rfl) : DA X (e :: es) Δ S (d :: ds) S2 :=
  ⟨ha.1.trans hr.1, fun B0 H0 σ B H z Q q => WA.of (pa_cons W.pe WA.pa hs) (z.run ha fun v B1 H1 z1 g1 p1 => z1.runA hr fun vs B2 H2 z2 g2 p2 =>
    q _ B2 H2 (gr_go z1.pot ha.1 g1 g2) z2.pot (.cons (Is.mono g2.ex p1) p2))⟩
theorem de_tup {ds : List D} {j : Nat} (h : DA X es Δ S ds S1) (hl : ds.length ≤ 100000 := by first | decide | (simp; done)) : DE X (.Tuple es j pos) Δ S (.tup ds) S1 :=
  DG.by (pe_tup WA.pa) h.1 fun B0 H0 σ B H z Q q => z.runA h fun vs B1 H1 z1 g1 p1 => ⟨by rw [p1.length]; exact Evl.sz_of hl, fun n hn => tup_end z1.sub g1 h.1 z1.pot hn p1 q⟩
theorem dn_lst {ds : List D} (h : DA X es Δ S ds S1) (hl : ds.length ≤ 100000 := by first | decide | (simp; done)) : DN X (.List es pos) Δ S ds S1 :=
  DG.by (pe_lst WA.pa) h.1 fun B0 H0 σ B H z Q q => z.runA h fun vs B1 H1 z1 g1 p1 => ⟨by rw [p1.length]; exact Evl.sz_of hl, fun n hn => new_end z1.sub g1 h.1 z1.pot hn p1 q⟩

/-! ### calls of built-ins with one argument -/
theorem pa_1 {P : Po} {Q : List V → Hp → Prop} {B0 H0 : Hp} {σ : L2.St} {B H : Hp} (z : Stt X.K B0 H0 σ B H Δ S) (h : DG X e Δ S P S1) (q : ∀ v B2 H2, Stt X.K B0 H0 σ B2 H2 Δ S1 → Gr S B H B2 H2 → P H v B2 H2 → Q [v] H2) : tCons (W X e) tNil σ H Q :=
  z.run h fun v B1 H1 z1 g1 p1 => q v B1 H1 z1 g1 p1
theorem de_len {t : Bool} {ds : List D} {p : Pos} (ha : DQ X e Δ S t ds S1) (hg : Gl X "len") (hm : X.mg "len" = none) (hs : starEach [e] X.env = (false, eval e X.env) :: starEach [] X.env := by rfl) : DE X (.Call (.Name "len" p) [e] [] pos) Δ S (.int (ds.length : Int)) S1 :=
  DG.by (pe_callB call_len_seq hg hm PySem.boot_len (pa_cons W.pe pa_nil hs) (he := hs)) ha.1 fun B0 H0 σ B H z Q q => pa_1 z ha fun v B1 H1 z1 g1 p1 => by
    obtain ⟨p, vs, rfl, hp, hv⟩ := p1
    refine ⟨p, vs, rfl, (hp H1 (Old.refl _ _)).len, ?_⟩
    rw [hv.length]
    exact q _ B1 H1 g1 z1.pot (.int _)
theorem dn_list {t : Bool} {ds : List D} {p : Pos} (ha : DQ X e Δ S t ds S1) (hg : Gl X "list") (hm : X.mg "list" = none) (hs : starEach [e] X.env = (false, eval e X.env) :: starEach [] X.env := by rfl) : DN X (.Call (.Name "list" p) [e] [] pos) Δ S ds S1 :=
  DG.by (pe_callTy call_list_of hg hm (by decide +kernel) (pa_cons W.pe pa_nil hs) (he := hs)) ha.1 fun B0 H0 σ B H z Q q => pa_1 z ha fun v B1 H1 z1 g1 p1 => by
    obtain ⟨p, vs, rfl, hp, hv⟩ := p1
    exact ⟨p, vs, rfl, (hp H1 (Old.refl _ _)).len, fun n hn => new_end z1.sub g1 ha.1 z1.pot hn hv q⟩
/-- tuple(list) -/
theorem de_tupL {ds : List D} {p : Pos} (ha : DQ X e Δ S false ds S1) (hg : Gl X "tuple") (hm : X.mg "tuple" = none) (hs : starEach [e] X.env = (false, eval e X.env) :: starEach [] X.env := by rfl) : DE X (.Call (.Name "tuple" p) [e] [] pos) Δ S (.tup ds) S1 :=
  DG.by (pe_callTy call_tuple_of hg hm (by decide +kernel) (pa_cons W.pe pa_nil hs) (he := hs)) ha.1 fun B0 H0 σ B H z Q q => pa_1 z ha fun v B1 H1 z1 g1 p1 => by
    obtain ⟨p, vs, rfl, hp, hv⟩ := p1
    exact ⟨p, vs, rfl, .inl ⟨hp H1 (Old.refl _ _), fun n hn => tup_end z1.sub g1 ha.1 z1.pot hn hv q⟩⟩
/-- tuple(tuple) -/
theorem de_tupT {ds : List D} {p : Pos} (ha : DE X e Δ S (.tup ds) S1) (hg : Gl X "tuple") (hm : X.mg "tuple" = none) (hs : starEach [e] X.env = (false, eval e X.env) :: starEach [] X.env := by rfl) : DE X (.Call (.Name "tuple" p) [e] [] pos) Δ S (.tup ds) S1 :=
  DG.by (pe_callTy call_tuple_of hg hm (by decide +kernel) (pa_cons W.pe pa_nil hs) (he := hs)) ha.1 fun B0 H0 σ B H z Q q => pa_1 z ha fun v B1 H1 z1 g1 p1 => by
    cases p1 with
    | tup h1 h2 => exact ⟨_, _, rfl, .inr ⟨Evl.ex_t z1.sub h1, q _ B1 H1 g1 z1.pot (.tup h1 h2)⟩⟩
theorem de_sum {ns : List Int} {p : Pos} (hc : X.calm = true) (ha : DQ X e Δ S false (ns.map D.int) S1) (hg : Gl X "sum") (hm : X.mg "sum" = none) (hs : starEach [e] X.env = (false, eval e X.env) :: starEach [] X.env := by rfl) : DE X (.Call (.Name "sum" p) [e] [] pos) Δ S (.int ns.sum) S1 :=
  DG.by (pe_callB (cr_sum hc) hg hm (by decide +kernel) (pa_cons W.pe pa_nil hs) (he := hs)) ha.1 fun B0 H0 σ B H z Q q => pa_1 z ha fun v B1 H1 z1 g1 p1 => by
    obtain ⟨p, vs, rfl, hp, hv⟩ := p1
    have e := hv.ints
    subst e
    exact ⟨p, ns, rfl, hp H1 (Old.refl _ _), q _ B1 H1 g1 z1.pot (.int _)⟩
theorem de_any {bs : List Bool} {p : Pos} (hc : X.calm = true) (ha : DQ X e Δ S false (bs.map D.bl) S1) (hg : Gl X "any") (hm : X.mg "any" = none) (hs : starEach [e] X.env = (false, eval e X.env) :: starEach [] X.env := by rfl) : DE X (.Call (.Name "any" p) [e] [] pos) Δ S (.bl (bs.any id)) S1 :=
  DG.by (pe_callB (cr_any hc) hg hm (by decide +kernel) (pa_cons W.pe pa_nil hs) (he := hs)) ha.1 fun B0 H0 σ B H z Q q => pa_1 z ha fun v B1 H1 z1 g1 p1 => by
    obtain ⟨p, vs, rfl, hp, hv⟩ := p1
    have e := hv.bools
    subst e
    exact ⟨p, bs, rfl, hp H1 (Old.refl _ _), q _ B1 H1 g1 z1.pot (.bl _)⟩
theorem de_all {bs : List Bool} {p : Pos} (hc : X.calm = true) (ha : DQ X e Δ S false (bs.map D.bl) S1) (hg : Gl X "all") (hm : X.mg "all" = none) (hs : starEach [e] X.env = (false, eval e X.env) :: starEach [] X.env := by rfl) : DE X (.Call (.Name "all" p) [e] [] pos) Δ S (.bl (bs.all id)) S1 :=
  DG.by (pe_callB (cr_all hc) hg hm (by decide +kernel) (pa_cons W.pe pa_nil hs) (he := hs)) ha.1 fun B0 H0 σ B H z Q q => pa_1 z ha fun v B1 H1 z1 g1 p1 => by
    obtain ⟨p, vs, rfl, hp, hv⟩ := p1
    have e := hv.bools
    subst e
    exact ⟨p, bs, rfl, hp H1 (Old.refl _ _), q _ B1 H1 g1 z1.pot (.bl _)⟩
theorem de_abs {i : Int} {p : Pos} (ha : DE X e Δ S (.int i) S1) (hg : Gl X "abs") (hm : X.mg "abs" = none) (hs : starEach [e] X.env = (false, eval e X.env) :: starEach [] X.env := by rfl) : DE X (.Call (.Name "abs" p) [e] [] pos) Δ S (.int (if i < 0 then -i else i)) S1 :=
  DG.by (pe_callB call_abs hg hm (by decide +kernel) (pa_cons W.pe pa_nil hs) (he := hs)) ha.1 fun B0 H0 σ B H z Q q => pa_1 z ha fun v B1 H1 z1 g1 p1 => by
    cases p1
    exact ⟨i, rfl, q _ B1 H1 g1 z1.pot (.int _)⟩
theorem de_intI {i : Int} {p : Pos} (ha : DE X e Δ S (.int i) S1) (hg : Gl X "int") (hm : X.mg "int" = none) (hs : starEach [e] X.env = (false, eval e X.env) :: starEach [] X.env := by rfl) : DE X (.Call (.Name "int" p) [e] [] pos) Δ S (.int i) S1 :=
  DG.by (pe_callTy call_int1 hg hm (by decide +kernel) (pa_cons W.pe pa_nil hs) (he := hs)) ha.1 fun B0 H0 σ B H z Q q => pa_1 z ha fun v B1 H1 z1 g1 p1 => by
    cases p1
    exact .inl ⟨i, rfl, q _ B1 H1 g1 z1.pot (.int _)⟩
theorem de_intB {k : Bool} {p : Pos} (ha : DE X e Δ S (.bl k) S1) (hg : Gl X "int") (hm : X.mg "int" = none) (hs : starEach [e] X.env = (false, eval e X.env) :: starEach [] X.env := by rfl) : DE X (.Call (.Name "int" p) [e] [] pos) Δ S (.int (if k then 1 else 0)) S1 :=
  DG.by (pe_callTy call_int1 hg hm (by decide +kernel) (pa_cons W.pe pa_nil hs) (he := hs)) ha.1 fun B0 H0 σ B H z Q q => pa_1 z ha fun v B1 H1 z1 g1 p1 => by
    cases p1
    exact .inr ⟨k, rfl, q _ B1 H1 g1 z1.pot (.int _)⟩
theorem de_max {i j : Int} {p : Pos} (hc : X.calm = true) (ha : DE X a Δ S (.int i) S1) (hb : DE X b Δ S1 (.int j) S2) (hg : Gl X "max") (hm : X.mg "max" = none) (hs : starEach [a, b] X.env = (false, eval a X.env) :: starEach [b] X.env := by rfl) (hs2 : starEach [b] X.env = (false, eval b X.env) :: starEach [] X.env := by rfl) (hpl : (backTo pos (starEach [b] X.env)).any (·.1) = false := by rfl) : DE X (.Call (.Name "max" p) [a, b] [] pos) Δ S (.int (if j > i then j else i)) S2 :=
  DG.by (pe_callB (call_max2 hc) hg hm (by decide +kernel) (pa_cons W.pe (pa_cons W.pe pa_nil hs2) hs) (he := hs) (hpl := hpl)) (ha.1.trans hb.1) fun B0 H0 σ B H z Q q => z.run ha fun v B1 H1 z1 g1 p1 => z1.run hb fun u B2 H2 z2 g2 p2 => by
    cases p1
    cases p2
    exact ⟨i, j, rfl, q _ B2 H2 (gr_go z1.pot ha.1 g1 g2) z2.pot (.int _)⟩

/-! ### + and * of lists and tuples -/
/-- a list that stands in the heap -/
def pLst (K : PySem.W.Frag) (S : PotS) (ds : List D) : Po := fun _ v B2 H2 => ∃ p vs, v = .ref p ∧ ¬ PotM S p ∧ H2 p = some (.lst vs) ∧ All K B2 vs ds
theorem DN.stand {ds : List D} (h : DN X e Δ S ds S1) : DG X e Δ S (pLst X.K S1 ds) S1 :=
  ⟨h.1, fun B0 H0 σ B H z Q q => h.2 B0 H0 σ B H z Q fun v B2 H2 g po p => by
    obtain ⟨n, vs, rfl, hn, hb, h2, ha⟩ := p
    refine q _ B2 H2 g po ⟨n, vs, rfl, fun hm => ?_, h2, ha⟩
    obtain ⟨ns, k⟩ := h.1.m hm
    rw [(z.pot n ns k).2] at hn
    cases hn⟩
theorem dl_own {N : List Str} {x : Str} {ds : List D} (hN : X.N = N) (hh : Has N Δ x (.own ds)) (hv : Vis X.env.scope x := by first | exact Or.inl rfl | exact Or.inr (Or.inl rfl) | exact Or.inr (Or.inr rfl))
    (hd : (x == ("__debug__" : Str)) = false := by decide) (hcd : (x == ("__classdict__" : Str)) = false := by decide) : DG X (.Name x pos) Δ S (pLst X.K S ds) S := by
  obtain ⟨i, h⟩ := hh.at_
  exact DG.by (pe_var (by rw [hN]; exact h.name) hv hd hcd) (PotEq.refl S) fun B0 H0 σ B H z Q q => by
    obtain ⟨p, vs, h1, h2, h3, h4, h5, h6⟩ := z.own i ds h.slot
    exact ⟨.ref p, h1, q _ B H (Gr.refl z.sub) z.pot ⟨p, vs, rfl, h4, h5, h6⟩⟩
/-- data whose list was made in the call: SqL by the heap alone -/
theorem pLst_dat {ds : List D} (h : DE X e Δ S (.lst ds) S1) (hk : ∀ (a : Addr) (o : Obj), X.K.lookup a = some o → o.cls ≠ .type "list") : DG X e Δ S (fun _ v B2 H2 => ∃ p vs, v = .ref p ∧ Rd B2 p (.lst vs) ∧ All X.K B2 vs ds) S1 :=
  h.imp fun H v B2 H2 ex po p => by
    cases p with
    | lst h1 h2 =>
      rcases h1 with h1 | ⟨o, its, n, h1, h3, _⟩
      · exact ⟨_, _, rfl, h1, h2⟩
      · exact absurd h3 (hk _ _ h1)
theorem dn_cat {ds es : List D} (ha : DG X a Δ S (pLst X.K S1 ds) S1) (hb : DG X b Δ S1 (pLst X.K S2 es) S2) (hl : ds.length + es.length ≤ 100000) : DN X (.BinOp a .Add b pos) Δ S (ds ++ es) S2 :=
  DG.by (pe_op op_cat W.pe W.pe) (ha.1.trans hb.1) fun B0 H0 σ B H z Q q => z.run ha fun v B1 H1 z1 g1 p1 => z1.run hb fun u B2 H2 z2 g2 p2 => by
    obtain ⟨p, vs, rfl, h1, h2, h3⟩ := p1
    obtain ⟨p', us, rfl, k1, k2, k3⟩ := p2
    refine ⟨p, p', vs, us, rfl, rfl, g2.old p _ h1 h2, k2, by rw [h3.length, k3.length]; exact Evl.sz_of hl, fun n hn => ?_⟩
    exact new_end z2.sub (gr_go z1.pot ha.1 g1 g2) (ha.1.trans hb.1) z2.pot hn ((h3.mono g2.ex).append k3) q
theorem dn_rep {ds : List D} {k : Int} (ha : DG X a Δ S (pLst X.K S1 ds) S1) (hb : DE X b Δ S1 (.int k) S2) (hl : ds.length * k.toNat ≤ 100000) (hk : -100000 ≤ k ∧ k ≤ 100000) : DN X (.BinOp a .Mult b pos) Δ S (List.replicate k.toNat ds).flatten S2 :=
  DG.by (pe_op op_rep W.pe W.pe) (ha.1.trans hb.1) fun B0 H0 σ B H z Q q => z.run ha fun v B1 H1 z1 g1 p1 => z1.run hb fun u B2 H2 z2 g2 p2 => by
    obtain ⟨p, vs, rfl, h1, h2, h3⟩ := p1
    cases p2
    refine ⟨p, k, vs, rfl, rfl, g2.old p _ h1 h2, by omega, by omega, by rw [h3.length]; exact Evl.sz_of hl, fun n hn => ?_⟩
    exact new_end z2.sub (gr_go z1.pot ha.1 g1 g2) (ha.1.trans hb.1) z2.pot hn ((h3.mono g2.ex).rep _) q
/-- tuple + tuple -/
theorem de_catT {ds es : List D} (ha : DE X a Δ S (.tup ds) S1) (hb : DE X b Δ S1 (.tup es) S2) (hl : ds.length + es.length ≤ 100000) : DE X (.BinOp a .Add b pos) Δ S (.tup (ds ++ es)) S2 :=
  DG.by (pe_op op_catA W.pe W.pe) (ha.1.trans hb.1) fun B0 H0 σ B H z Q q => z.run ha fun v B1 H1 z1 g1 p1 => z1.run hb fun u B2 H2 z2 g2 p2 => by
    cases p1 with
    | tup h1 h2 => cases p2 with
      | tup k1 k2 =>
        have g := gr_go z1.pot ha.1 g1 g2
        have h1' := Evl.ex_t g2.ex h1
        have h2' := h2.mono g2.ex
        refine ⟨_, _, _, _, rfl, rfl, Evl.ex_t z2.sub h1', Evl.ex_t z2.sub k1, by rw [h2.length, k2.length]; exact Evl.sz_of hl, fun e => ?_, fun e1 e2 => ?_, fun e1 e2 n hn => ?_⟩
        · subst e
          cases h2
          exact q _ B2 H2 g z2.pot (.tup k1 k2)
        · subst e2
          cases k2
          rw [List.append_nil] at q
          exact q _ B2 H2 g z2.pot (.tup h1' h2')
        · exact tup_end z2.sub g (ha.1.trans hb.1) z2.pot hn (h2'.append k2) q
end
end Ab

set_option Elab.async false
set_option linter.all false
set_option autoImplicit false
set_option maxRecDepth 100000
set_option maxHeartbeats 2000000
/-! What is walked, targets, comprehensions. -/
namespace Ab
open PySem PySem.Spec PyProof.Rows L2 RZ

/-! ### states: a slot stored, slots forgotten -/
section
variable {K : PySem.W.Frag} {B0 H0 B H : Hp} {σ : L2.St} {Δ : List Sl} {S : PotS}
theorem sl_set {Δ : List Sl} {i j : Nat} {s t : Sl} (h : (Δ.set j s)[i]? = some t) : (i = j ∧ t = s) ∨ (i ≠ j ∧ Δ[i]? = some t) := by
  rw [List.getElem?_set] at h
  split at h
  · rename_i e
    subst e
    split at h
    · exact .inl ⟨rfl, (Option.some.inj h).symm⟩
    · cases h
  · rename_i e
    exact .inr ⟨fun k => e k.symm, h⟩
theorem Stt.put (z : Stt K B0 H0 σ B H Δ S) {j : Nat} {v : V} {d : D} (hv : Is K B v d) : Stt K B0 H0 (σ.set j (some v)) B H (Δ.set j (.dat d)) S := by
  refine z.re (by rw [List.length_set, List.length_set]; exact z.len) id (fun i e h => ?_) (fun i s h hs => ?_) (fun i j s t _ _ _ _ h => h)
  · rcases sl_set h with ⟨rfl, e2⟩ | ⟨hne, h2⟩
    · cases e2
      have hl : i < Δ.length := by
        have := (List.getElem?_eq_some_iff.mp h).1
        rw [List.length_set] at this
        exact this
      exact ⟨v, List.getElem?_set_self (by rw [z.len]; exact hl), hv⟩
    · obtain ⟨u, k1, k2⟩ := z.dat i e h2
      exact ⟨u, by rw [List.getElem?_set_ne (fun q => hne q.symm)]; exact k1, k2⟩
  · rcases sl_set h with ⟨rfl, e2⟩ | ⟨hne, h2⟩
    · subst e2
      cases hs
    · exact ⟨h2, by rw [List.getElem?_set_ne (fun q => hne q.symm)]; rfl⟩
/-- forgotten -/
theorem Stt.drop (z : Stt K B0 H0 σ B H Δ S) {j : Nat} {o : Option V} : Stt K B0 H0 (σ.set j o) B H (Δ.set j .no) S := by
  refine z.re (by rw [List.length_set, List.length_set]; exact z.len) id (fun i e h => ?_) (fun i s h hs => ?_) (fun i j s t _ _ _ _ h => h)
  · rcases sl_set h with ⟨rfl, e2⟩ | ⟨hne, h2⟩
    · cases e2
    · obtain ⟨u, k1, k2⟩ := z.dat i e h2
      exact ⟨u, by rw [List.getElem?_set_ne (fun q => hne q.symm)]; exact k1, k2⟩
  · rcases sl_set h with ⟨rfl, e2⟩ | ⟨hne, h2⟩
    · subst e2
      cases hs
    · exact ⟨h2, by rw [List.getElem?_set_ne (fun q => hne q.symm)]; rfl⟩
/-- new objects of one's own -/
theorem Stt.mineR (z : Stt K B0 H0 σ B H Δ S) {j : Nat} {p : Addr} {s : Sl} {as : List Addr} (hr : Reg K B H s p as) (hf : ∀ q, q ∈ as → B q = none ∧ H0 q = none ∧ ¬ PotM S q)
    (ho : ∀ (i : Nat) (t : Sl) (q : Addr) (bs : List Addr), i ≠ j → Δ[i]? = some t → σ[i]? = some (some (V.ref q)) → Reg K B H t q bs → ∀ a, a ∈ as → a ∉ bs) : Stt K B0 H0 (σ.set j (some (.ref p))) B H (Δ.set j s) S := by
  have hself : ∀ {i : Nat} {t : Sl}, (Δ.set j s)[i]? = some t → i = j → i < σ.length := fun {i t} h e => by
    have := (List.getElem?_eq_some_iff.mp h).1
    rw [List.length_set] at this
    rw [z.len]
    exact this
  refine ⟨z.gr, by rw [List.length_set, List.length_set]; exact z.len, fun i e h => ?_, fun i t h ht => ?_, fun i k t u q r as' bs hik h1 h2 h3 h4 h5 h6 => ?_, z.pot⟩
  · rcases sl_set h with ⟨rfl, e2⟩ | ⟨hne, h2⟩
    · rw [← e2] at hr
      cases hr
    · obtain ⟨u, k1, k2⟩ := z.dat i e h2
      exact ⟨u, by rw [List.getElem?_set_ne (fun q => hne q.symm)]; exact k1, k2⟩
  · rcases sl_set h with ⟨rfl, e2⟩ | ⟨hne, h2⟩
    · subst e2
      exact ⟨p, as, List.getElem?_set_self (hself h rfl), hr, hf⟩
    · obtain ⟨q, bs, k1, k2⟩ := z.hold i t h2 ht
      exact ⟨q, bs, by rw [List.getElem?_set_ne (fun q => hne q.symm)]; exact k1, k2⟩
  · rcases sl_set h1 with ⟨rfl, e2⟩ | ⟨hne, k1⟩
    · subst e2
      rcases sl_set h2 with ⟨rfl, e3⟩ | ⟨hne2, k2⟩
      · exact absurd rfl hik
      · rw [List.getElem?_set_self (hself h1 rfl)] at h3
        rw [List.getElem?_set_ne (fun q => hne2 q.symm)] at h4
        have e : p = q := V.ref.inj (Option.some.inj (Option.some.inj h3))
        subst e
        rw [h5.det hr]
        exact ho k u r bs hne2 k2 h4 h6
    · rcases sl_set h2 with ⟨rfl, e3⟩ | ⟨hne2, k2⟩
      · subst e3
        rw [List.getElem?_set_self (hself h2 rfl)] at h4
        rw [List.getElem?_set_ne (fun q => hne q.symm)] at h3
        have e : p = r := V.ref.inj (Option.some.inj (Option.some.inj h4))
        subst e
        rw [h6.det hr]
        intro a ha hb
        exact ho i t q as' hne k1 h3 h5 a hb ha
      · rw [List.getElem?_set_ne (fun q => hne q.symm)] at h3
        rw [List.getElem?_set_ne (fun q => hne2 q.symm)] at h4
        exact z.sep i k t u q r as' bs hik k1 k2 h3 h4 h5 h6
/-- an object of a slot is not free -/
theorem Stt.held (z : Stt K B0 H0 σ B H Δ S) {p : Addr} (hp : H p = none) {i : Nat} {t : Sl} {q : Addr} {bs : List Addr} (hr : Reg K B H t q bs) : p ∉ bs := fun k => by
  obtain ⟨o, ho⟩ := hr.obj p k
  rw [hp] at ho
  cases ho
/-- the own objects of slot i changed -/
theorem Stt.mutR {H' : Hp} (z : Stt K B0 H0 σ B H Δ S) {i : Nat} {s s' : Sl} {p : Addr} {as as' : List Addr} (hi : Δ[i]? = some s) (hp : σ[i]? = some (some (V.ref p))) (hr : Reg K B H s p as) (hr' : Reg K B H' s' p as')
    (hsub : ∀ q, q ∈ as' → q ∈ as ∨ H q = none) (hoff : ∀ a o, H a = some o → a ∉ as → H' a = some o) : Stt K B0 H0 σ B H' (Δ.set i s') S := by
  have hl : i < Δ.length := (List.getElem?_eq_some_iff.mp hi).1
  obtain ⟨p', as0, k1, k2, k3⟩ := z.hold i s hi hr.holds
  have e1 : p' = p := V.ref.inj (Option.some.inj (Option.some.inj (k1.symm.trans hp)))
  subst e1
  have e2 := k2.det hr
  subst e2
  have fr : ∀ q, q ∈ as' → B q = none ∧ H0 q = none ∧ ¬ PotM S q := fun q hq => by
    rcases hsub q hq with h | h
    · exact k3 q h
    · have hm : ¬ PotM S q := fun ⟨ns, k⟩ => by
        rw [(z.pot q ns k).2] at h
        cases h
      refine ⟨Evl.fresh_back z.sub h, some_none fun o w => ?_, hm⟩
      have m := z.gr.old q o hm w
      rw [h] at m
      cases m
  -- what another slot owns
  have oth : ∀ {j : Nat} {t : Sl} {q : Addr} {bs : List Addr}, i ≠ j → Δ[j]? = some t → σ[j]? = some (some (V.ref q)) → Reg K B H t q bs → Reg K B H' t q bs := fun {j t q bs} hne hj hq h => h.mono (Evl.Ex.refl B) fun a ha => by
    refine same_some (h.obj a ha) fun o ho => hoff a o ho fun k => ?_
    exact z.sep i j s t p' q as0 bs hne hi hj hp hq hr h a k ha
  have back : ∀ {j : Nat} {t : Sl} {q : Addr} {bs : List Addr}, i ≠ j → Δ[j]? = some t → σ[j]? = some (some (V.ref q)) → Reg K B H' t q bs → Reg K B H t q bs := fun {j t q bs} hne hj hq h => by
    obtain ⟨q', cs, m1, m2, _⟩ := z.hold j t hj h.holds
    have e : q' = q := V.ref.inj (Option.some.inj (Option.some.inj (m1.symm.trans hq)))
    subst e
    rw [h.det (oth hne hj hq m2)]
    exact m2
  have dis : ∀ {j : Nat} {t : Sl} {q : Addr} {bs : List Addr}, i ≠ j → Δ[j]? = some t → σ[j]? = some (some (V.ref q)) → Reg K B H t q bs → ∀ a, a ∈ as' → a ∉ bs := fun {j t q bs} hne hj hq h a ha hb => by
    rcases hsub a ha with k | k
    · exact z.sep i j s t p' q as0 bs hne hi hj hp hq hr h a k hb
    · obtain ⟨o, ho⟩ := h.obj a hb
      rw [k] at ho
      cases ho
  refine ⟨⟨z.gr.ex, fun a o hm h => ?_, z.gr.new, fun a o h => ?_⟩, by rw [List.length_set]; exact z.len, fun j d h => ?_, fun j t h ht => ?_, fun j k t u q r as2 bs hjk h1 h2 h3 h4 h5 h6 => ?_, fun q ns e => ?_⟩
  · refine hoff a o (z.gr.old a o hm h) fun k => ?_
    rw [(k3 a k).2.1] at h
    cases h
  · refine hoff a o (z.sub a o h) fun k => ?_
    rw [(k3 a k).1] at h
    cases h
  · rcases sl_set h with ⟨rfl, e2⟩ | ⟨hne, h2⟩
    · rw [← e2] at hr'
      cases hr'
    · exact z.dat j d h2
  · rcases sl_set h with ⟨rfl, e2⟩ | ⟨hne, h2⟩
    · subst e2
      exact ⟨p', as', hp, hr', fr⟩
    · obtain ⟨q, bs, m1, m2, m3⟩ := z.hold j t h2 ht
      exact ⟨q, bs, m1, oth (fun k => hne k.symm) h2 m1 m2, m3⟩
  · rcases sl_set h1 with ⟨rfl, e2⟩ | ⟨hne, l1⟩
    · subst e2
      rcases sl_set h2 with ⟨rfl, e3⟩ | ⟨hne2, l2⟩
      · exact absurd rfl hjk
      · have e : p' = q := V.ref.inj (Option.some.inj (Option.some.inj (hp.symm.trans h3)))
        subst e
        rw [h5.det hr']
        exact dis (fun k => hne2 k.symm) l2 h4 (back (fun k => hne2 k.symm) l2 h4 h6)
    · rcases sl_set h2 with ⟨rfl, e3⟩ | ⟨hne2, l2⟩
      · subst e3
        have e : p' = r := V.ref.inj (Option.some.inj (Option.some.inj (hp.symm.trans h4)))
        subst e
        rw [h6.det hr']
        intro a ha hb
        exact dis (fun k => hne k.symm) l1 h3 (back (fun k => hne k.symm) l1 h3 h5) a hb ha
      · exact z.sep j k t u q r as2 bs hjk l1 l2 h3 h4 (back (fun k => hne k.symm) l1 h3 h5) (back (fun k => hne2 k.symm) l2 h4 h6)
  · obtain ⟨m1, m2⟩ := z.pot q ns e
    exact ⟨m1, hoff q _ m2 fun k => (k3 q k).2.2 ⟨ns, e⟩⟩
/-- an object that no slot owns -/
theorem Stt.upd_off (z : Stt K B0 H0 σ B H Δ S) {D : Addr} {o : HO} (h0 : H0 D = none) (hb : B D = none) (hm : ¬ PotM S D) (hx : ∀ (i : Nat) (t : Sl) (q : Addr) (bs : List Addr), Δ[i]? = some t → σ[i]? = some (some (V.ref q)) → Reg K B H t q bs → D ∉ bs) :
    Stt K B0 H0 σ B (upd H D o) Δ S := by
  have oth : ∀ {j : Nat} {t : Sl} {q : Addr} {bs : List Addr}, Δ[j]? = some t → σ[j]? = some (some (V.ref q)) → Reg K B H t q bs → Reg K B (upd H D o) t q bs := fun {j t q bs} hj hq h => h.mono (Evl.Ex.refl B) fun a ha => upd_ne fun k => hx j t q bs hj hq h (by rw [← k]; exact ha)
  have back : ∀ {j : Nat} {t : Sl} {q : Addr} {bs : List Addr}, Δ[j]? = some t → σ[j]? = some (some (V.ref q)) → Reg K B (upd H D o) t q bs → Reg K B H t q bs := fun {j t q bs} hj hq h => by
    obtain ⟨q', cs, m1, m2, _⟩ := z.hold j t hj h.holds
    have e : q' = q := V.ref.inj (Option.some.inj (Option.some.inj (m1.symm.trans hq)))
    subst e
    rw [h.det (oth hj hq m2)]
    exact m2
  refine ⟨⟨z.gr.ex, fun a u hm' h => ?_, z.gr.new, z.sub.mut hb⟩, z.len, z.dat, fun j t h ht => ?_, fun j k t u q r as2 bs hjk h1 h2 h3 h4 h5 h6 => z.sep j k t u q r as2 bs hjk h1 h2 h3 h4 (back h1 h3 h5) (back h2 h4 h6), fun q ns e => ?_⟩
  · rw [upd_ne (ne_of_none h h0)]
    exact z.gr.old a u hm' h
  · obtain ⟨q, bs, m1, m2, m3⟩ := z.hold j t h ht
    exact ⟨q, bs, m1, oth h m1 m2, m3⟩
  · obtain ⟨m1, m2⟩ := z.pot q ns e
    exact ⟨m1, by rw [upd_ne (fun k => hm (by rw [← k]; exact ⟨ns, e⟩))]; exact m2⟩
def wipeD (Δ : List Sl) : List Nat → List Sl
  | [] => Δ
  | v :: vs => (wipeD Δ vs).set v .no
theorem Stt.wipe (z : Stt K B0 H0 σ B H Δ S) : ∀ vs : List Nat, Stt K B0 H0 (L2.wipe σ vs) B H (wipeD Δ vs) S
  | [] => z
  | v :: vs => (Stt.wipe z vs).drop
theorem wipe_in {σ : L2.St} {x : Option V} {j : Nat} : ∀ {vs : List Nat}, j ∈ vs → L2.wipe (σ.set j x) vs = L2.wipe σ vs
  | [], h => by cases h
  | v :: vs, h => by
    show (L2.wipe (σ.set j x) vs).set v none = (L2.wipe σ vs).set v none
    by_cases hj : j ∈ vs
    · rw [wipe_in hj]
    · have e : j = v := by
        rcases List.mem_cons.mp h with e | e
        · exact e
        · exact absurd e hj
      subst e
      have k : ∀ (us : List Nat), j ∉ us → L2.wipe (σ.set j x) us = (L2.wipe σ us).set j x := fun us => by
        induction us with
        | nil => intro _; rfl
        | cons u us ih =>
          intro hu
          show (L2.wipe (σ.set j x) us).set u none = ((L2.wipe σ us).set u none).set j x
          rw [ih (fun q => hu (List.mem_cons_of_mem _ q)), List.set_comm _ _ (fun q => hu (by rw [← q]; exact List.mem_cons_self))]
      rw [k vs hj, List.set_set]
theorem wipe_wipe {σ : L2.St} : ∀ {vs us : List Nat}, (∀ v, v ∈ vs → v ∈ us) → L2.wipe (L2.wipe σ vs) us = L2.wipe σ us
  | [], us, _ => rfl
  | v :: vs, us, h => by
    show L2.wipe ((L2.wipe σ vs).set v none) us = L2.wipe σ us
    rw [wipe_in (h v List.mem_cons_self)]
    exact wipe_wipe fun u hu => h u (List.mem_cons_of_mem _ hu)
end


/-! ### slots behind the named ones -/
section
variable {K : PySem.W.Frag} {B0 H0 B H : Hp} {σ e : L2.St} {Δ f : List Sl} {S : PotS}
theorem get_left {α : Type} {l m : List α} {i : Nat} {x : α} (h : l[i]? = some x) : (l ++ m)[i]? = some x := by
  rw [List.getElem?_append_left (List.getElem?_eq_some_iff.mp h).1]
  exact h
theorem Stt.left (z : Stt K B0 H0 (σ ++ e) B H (Δ ++ f) S) (hl : σ.length = Δ.length) : Stt K B0 H0 σ B H Δ S := by
  have gl : ∀ {i : Nat} {s : Sl}, Δ[i]? = some s → (σ ++ e)[i]? = σ[i]? := fun {i s} h => by
    rw [List.getElem?_append_left (by rw [hl]; exact (List.getElem?_eq_some_iff.mp h).1)]
  refine z.re hl id (fun i d h => ?_) (fun i s h hs => ⟨get_left h, gl h⟩) (fun i j s t _ _ _ _ h => h)
  obtain ⟨v, k1, k2⟩ := z.dat i d (get_left h)
  exact ⟨v, by rw [← gl h]; exact k1, k2⟩
/-- one more slot at the end -/
theorem Stt.room (z : Stt K B0 H0 σ B H Δ S) : Stt K B0 H0 (σ ++ [none]) B H (Δ ++ [.no]) S := by
  have back : ∀ {i : Nat} {s : Sl}, (Δ ++ [Sl.no])[i]? = some s → s ≠ .no → Δ[i]? = some s ∧ (σ ++ [none])[i]? = σ[i]? := fun {i s} h hn => by
    by_cases hi : i < Δ.length
    · rw [List.getElem?_append_left hi] at h
      rw [List.getElem?_append_left (by rw [z.len]; exact hi)]
      exact ⟨h, rfl⟩
    · rw [List.getElem?_append_right (by omega)] at h
      cases hk : i - Δ.length with
      | zero =>
        rw [hk] at h
        exact absurd (Option.some.inj h).symm hn
      | succ m =>
        rw [hk] at h
        simp at h
  refine z.re (by rw [List.length_append, List.length_append, z.len]; rfl) id (fun i d h => ?_) (fun i s h hs => ?_) (fun i j s t _ _ _ _ h => h)
  · obtain ⟨k1, k2⟩ := back h (fun k => nomatch k)
    rw [k2]
    exact z.dat i d k1
  · obtain ⟨k1, k2⟩ := back h (fun k => by rw [k] at hs; cases hs)
    exact ⟨k1, k2.symm⟩
theorem set_last {α : Type} {l : List α} {x y : α} : (l ++ [x]).set l.length y = l ++ [y] := by
  rw [List.set_append_right _ _ (Nat.le_refl _), Nat.sub_self]
  rfl
theorem Stt.push (z : Stt K B0 H0 σ B H Δ S) {v : V} {d : D} (hv : Is K B v d) : Stt K B0 H0 (σ ++ [some v]) B H (Δ ++ [.dat d]) S := by
  have k := z.room.put (j := σ.length) hv
  rw [set_last, z.len, set_last] at k
  exact k
/-- a fresh list -/
theorem Stt.new {B2 H2 : Hp} {S1 : PotS} {v : V} {ds : List D} {j : Nat} (z : Stt K B0 H0 σ B H Δ S) (z2 : Stt K B0 H0 σ B2 H2 Δ S1) (e : PotEq S S1) (p : pNew K ds H v B2 H2) (g : ∀ a o, ¬ PotM S a → H a = some o → H2 a = some o := by assumption) (ex : Ex B B2 := by assumption) : Stt K B0 H0 (σ.set j (some v)) B2 H2 (Δ.set j (.own ds)) S1 := by
  obtain ⟨n, vs, rfl, hn, hb, h2, ha⟩ := p
  have hm : ¬ PotM S1 n := fun k => by
    obtain ⟨ns, k⟩ := e.m k
    rw [(z.pot n ns k).2] at hn
    cases hn
  have h0 : H0 n = none := some_none fun o r => by
    have k := z.gr.old n o (fun k => by
      obtain ⟨ns, k⟩ := k
      rw [(z.pot n ns k).2] at hn
      cases hn) r
    rw [hn] at k
    cases k
  refine z2.mineR (.own h2 ha) (fun q hq => ?_) fun i t q bs hij hi hq hr a ha hin => ?_
  · rcases List.mem_cons.mp hq with rfl | hq
    · exact ⟨hb, h0, hm⟩
    · cases hq
  · rcases List.mem_cons.mp ha with rfl | ha
    · obtain ⟨q', cs, m1, m2, m3⟩ := z.hold i t hi hr.holds
      have e1 : q' = q := V.ref.inj (Option.some.inj (Option.some.inj (m1.symm.trans hq)))
      subst e1
      have m4 : Reg K B2 H2 t q' cs := m2.mono ex fun a ha => same_some (m2.obj a ha) fun o ho => g a o (m3 a ha).2.2 ho
      rw [hr.det m4] at hin
      obtain ⟨o, ho⟩ := m2.obj a hin
      rw [hn] at ho
      cases ho
    · cases ha
theorem Stt.pushN {B2 H2 : Hp} {S1 : PotS} (z : Stt K B0 H0 σ B H Δ S) (z2 : Stt K B0 H0 σ B2 H2 Δ S1) (eq : PotEq S S1) {v : V} {ds : List D} (p : pNew K ds H v B2 H2) (g : Gr S B H B2 H2) : Stt K B0 H0 (σ ++ [some v]) B2 H2 (Δ ++ [.own ds]) S1 := by
  have k := Stt.new (j := σ.length) z.room z2.room eq p g.old g.ex
  rw [set_last, z.len, set_last] at k
  exact k
theorem set_ap {α : Type} {l m : List α} {x : α} {n : Nat} (h : n < l.length) : (l ++ m).set n x = l.set n x ++ m := List.set_append_left _ _ h
/-- the last slot becomes the j-th -/
theorem Stt.move {v : V} {s : Sl} {j : Nat} (z : Stt K B0 H0 (σ ++ [some v]) B H (Δ ++ [s]) S) (hl : σ.length = Δ.length) (hj : j < σ.length) : Stt K B0 H0 (σ.set j (some v)) B H (Δ.set j s) S := by
  have last : (Δ ++ [s])[Δ.length]? = some s := by
    rw [List.getElem?_append_right (Nat.le_refl _), Nat.sub_self]
    rfl
  have lastV : (σ ++ [some v])[Δ.length]? = some (some v) := by
    rw [← hl, List.getElem?_append_right (Nat.le_refl _), Nat.sub_self]
    rfl
  have low : ∀ {i : Nat} {t : Sl}, Δ[i]? = some t → (σ ++ [some v])[i]? = σ[i]? := fun {i t} h => List.getElem?_append_left (by rw [hl]; exact (List.getElem?_eq_some_iff.mp h).1)
  -- where a slot came from
  have src : ∀ {i : Nat} {t : Sl}, (Δ.set j s)[i]? = some t → (Δ ++ [s])[if i = j then Δ.length else i]? = some t ∧ (σ ++ [some v])[if i = j then Δ.length else i]? = (σ.set j (some v))[i]? := fun {i t} h => by
    rcases sl_set h with ⟨rfl, e2⟩ | ⟨hne, h2⟩
    · subst e2
      rw [if_pos rfl]
      exact ⟨last, by rw [lastV, List.getElem?_set_self hj]⟩
    · rw [if_neg hne]
      exact ⟨get_left h2, by rw [low h2, List.getElem?_set_ne (fun q => hne q.symm)]⟩
  refine z.re (by rw [List.length_set, List.length_set]; exact hl) (fun i => if i = j then Δ.length else i) (fun i d h => ?_) (fun i t h _ => src h) (fun i k t u h1 h2 _ _ h3 => ?_)
  · obtain ⟨k1, k2⟩ := src h
    rw [← k2]
    exact z.dat _ d k1
  · have b1 := (List.getElem?_eq_some_iff.mp h1).1
    have b2 := (List.getElem?_eq_some_iff.mp h2).1
    rw [List.length_set] at b1 b2
    have h3' : (if i = j then Δ.length else i) = (if k = j then Δ.length else k) := h3
    split at h3' <;> split at h3' <;> omega
end

/-! ### what is walked -/
inductive Src where
  | one (ds : List D) | two (ps : List (D × D))
def Src.len : Src → Nat
  | .one ds => ds.length
  | .two ps => ps.length
def YS (K : PySem.W.Frag) (B : Hp) : Src → Nat → Hp → V → Hp → Prop
  | .one ds, i, H, x, H' => H' = H ∧ ∃ d, ds[i]? = some d ∧ Is K B x d
  | .two ps, i, H, x, H' => ∃ T u v p, x = .ref T ∧ H T = none ∧ H' = upd H T (.tup [u, v]) ∧ ps[i]? = some p ∧ Is K B u p.1 ∧ Is K B v p.2
structure DS (X : Cx) (tg iter : Expr) (Δ : List Sl) (S : PotS) (src : Src) (S' : PotS) : Prop where
  eq : PotEq S S'
  run : ∀ B0 H0 σ B H, Stt X.K B0 H0 σ B H Δ S → ∀ R : It → Hp → Prop,
    (∀ J B2 H2, Gr S B H B2 H2 → PotOk S' B2 H2 → (∃ G : Hp → Prop, Walk J src.len G (YS X.K B2 src) ∧ ∀ H3, Ex B2 H3 → G H3) → R J H2) → WI X tg iter σ H R
/-- what a comprehension walks: nothing of it is changed by its turns -/
structure DSC (X : Cx) (tg iter : Expr) (Δ : List Sl) (S : PotS) (src : Src) (S' : PotS) : Prop where
  eq : PotEq S S'
  run : ∀ B0 H0 σ B H, Stt X.K B0 H0 σ B H Δ S → ∀ R : It → Hp → Prop,
    (∀ J B2 H2, Gr S B H B2 H2 → PotOk S' B2 H2 → (∃ G : Hp → Prop, Walk J src.len G (YS X.K B2 src) ∧ ∀ H3, Ex B2 H3 → Old S' H2 H3 → G H3) → R J H2) → WI X tg iter σ H R
theorem DS.c {X : Cx} {tg iter : Expr} {Δ : List Sl} {S S' : PotS} {src : Src} (h : DS X tg iter Δ S src S') : DSC X tg iter Δ S src S' :=
  ⟨h.1, fun B0 H0 σ B H z R r => h.2 B0 H0 σ B H z R fun J B2 H2 g po ⟨G, w, k⟩ => r J B2 H2 g po ⟨G, w, fun H3 e _ => k H3 e⟩⟩
section
variable {X : Cx} {Δ : List Sl} {S S1 S2 : PotS} {pos : Pos} {a b e tg : Expr}
theorem ds_list {ds : List D} (h : DE X e Δ S (.lst ds) S1) : DS X tg e Δ S (.one ds) S1 :=
  ⟨h.1, fun B0 H0 σ B H z R r => WI.of (pi_list W.pe) (z.run h fun v B1 H1 z1 g1 p1 => by
    cases p1 with
    | lst h1 h2 =>
      refine ⟨_, rfl, ⟨_, Evl.ex_l z1.sub h1⟩, r _ B1 H1 g1 z1.pot ⟨_, ?_, fun H3 ex => Evl.ex_l ex h1⟩⟩
      rw [show (Src.one ds).len = _ from h2.length.symm]
      exact (walk_list (K := X.K)).mono (fun _ q => q) fun i H x H' hi q y => by
        obtain ⟨d, k1, k2⟩ := h2.getV y.2
        exact ⟨y.1, d, k1, k2⟩)⟩
theorem ds_tup {ds : List D} (h : DE X e Δ S (.tup ds) S1) : DS X tg e Δ S (.one ds) S1 :=
  ⟨h.1, fun B0 H0 σ B H z R r => WI.of (pi_tup W.pe) (z.run h fun v B1 H1 z1 g1 p1 => by
    cases p1 with
    | tup h1 h2 =>
      refine ⟨_, rfl, ⟨_, Evl.ex_t z1.sub h1⟩, r _ B1 H1 g1 z1.pot ⟨_, ?_, fun H3 ex => Evl.ex_t ex h1⟩⟩
      rw [show (Src.one ds).len = _ from h2.length.symm]
      exact (walk_tup (K := X.K)).mono (fun _ q => q) fun i H x H' hi q y => by
        obtain ⟨d, k1, k2⟩ := h2.getV y.2
        exact ⟨y.1, d, k1, k2⟩)⟩
/-- the iot lo, lo + c, .. -/
def iot (lo c : Int) (n : Nat) : List Int := (List.range n).map fun (i : Nat) => lo + (i : Int) * c
theorem iot_len {lo c : Int} {n : Nat} : (iot lo c n).length = n := by
  unfold iot
  rw [List.length_map, List.length_range]
theorem iot_get {lo c : Int} {n i : Nat} (h : i < n) : (iot lo c n)[i]? = some (lo + (i : Int) * c) := by
  unfold iot
  rw [List.getElem?_map, List.getElem?_range h]
  rfl
theorem ds_ints {lo c : Int} {n : Nat} {J : It} {K : PySem.W.Frag} {B : Hp} (w : Walk J n (fun _ => True) (YFn fun i => .int (lo + (i : Nat) * c))) : ∃ G : Hp → Prop, Walk J (Src.one ((iot lo c n).map D.int)).len G (YS K B (.one ((iot lo c n).map D.int))) ∧ ∀ H3, Ex B H3 → G H3 := by
  refine ⟨fun _ => True, ?_, fun _ _ => trivial⟩
  have e : (Src.one ((iot lo c n).map D.int)).len = n := by
    show ((iot lo c n).map D.int).length = n
    rw [List.length_map, iot_len]
  rw [e]
  exact w.mono (fun _ q => q) fun i H x H' hi q y => by
    obtain ⟨y1, y2⟩ := y
    refine ⟨y1, .int (lo + (i : Nat) * c), ?_, ?_⟩
    · rw [List.getElem?_map, iot_get hi]
      rfl
    · rw [y2]
      exact .int _
theorem ds_range1 {p : Pos} {n : Int} (h : DE X a Δ S (.int n) S1) (hn : -1000000 ≤ n ∧ n ≤ 1000000) (hg : Gl X "range") (hm : X.mg "range" = none) (hs : starEach [a] X.env = [(false, eval a X.env)] := by rfl) :
    DS X tg (.Call (.Name "range" p) [a] [] pos) Δ S (.one ((iot 0 1 n.toNat).map D.int)) S1 :=
  ⟨h.1, fun B0 H0 σ B H z R r => WI.of (pi_range1 hg hm (pa_cons W.pe pa_nil hs) hs) (z.run h fun v B1 H1 z1 g1 p1 => by
    cases p1
    refine ⟨n, rfl, by omega, by omega, r _ B1 H1 g1 z1.pot (ds_ints ?_)⟩
    exact (walk_range (lo := 0)).mono (fun _ q => q) fun i H x H' hi q y => ⟨y.1, by
      rw [y.2]
      show V.int _ = V.int _
      rw [Int.mul_one]⟩)⟩
theorem ds_range2 {p : Pos} {m n : Int} (h : DE X a Δ S (.int m) S1) (h2 : DE X b Δ S1 (.int n) S2) (hn : -1000000 ≤ m ∧ m ≤ 1000000 ∧ -1000000 ≤ n ∧ n ≤ 1000000) (hg : Gl X "range") (hm : X.mg "range" = none)
    (hs : starEach [a, b] X.env = [(false, eval a X.env), (false, eval b X.env)] := by rfl) (hs2 : starEach [b] X.env = [(false, eval b X.env)] := by rfl) :
    DS X tg (.Call (.Name "range" p) [a, b] [] pos) Δ S (.one ((iot m 1 (n - m).toNat).map D.int)) S2 :=
  ⟨h.1.trans h2.1, fun B0 H0 σ B H z R r => WI.of (pi_range2 hg hm (pa_cons W.pe (pa_cons W.pe pa_nil (by rw [hs2]; rfl)) (by rw [hs, hs2])) hs (hs2 := hs2)) (z.run h fun v B1 H1 z1 g1 p1 => z1.run h2 fun u B2 H2 z2 g2 p2 => by
    cases p1
    cases p2
    refine ⟨m, n, rfl, by omega, r _ B2 H2 (gr_go z1.pot h.1 g1 g2) z2.pot (ds_ints ?_)⟩
    exact (walk_range (lo := m)).mono (fun _ q => q) fun i H x H' hi q y => ⟨y.1, by
      rw [y.2]
      show V.int _ = V.int _
      rw [Int.mul_one]⟩)⟩
theorem ds_range3 {c : Expr} {S3 : PotS} {p : Pos} {m n k : Int} {t : Nat} (h : DE X a Δ S (.int m) S1) (h2 : DE X b Δ S1 (.int n) S2) (h3 : DE X c Δ S2 (.int k) S3) (hn : RgC m n k t) (hg : Gl X "range") (hm : X.mg "range" = none)
    (hs1 : starEach [a, b, c] X.env = (false, eval a X.env) :: starEach [b, c] X.env := by rfl) (hs2 : starEach [b, c] X.env = (false, eval b X.env) :: starEach [c] X.env := by rfl) (hs3 : starEach [c] X.env = (false, eval c X.env) :: starEach [] X.env := by rfl)
    (hpi : ∀ ta : TA, PA X [a, b, c] ta → PI X tg (.Call (.Name "range" p) [a, b, c] [] pos) (iRng3 ta) := by exact fun _ ha => pi_range3 (by assumption) (by assumption) ha) :
    DS X tg (.Call (.Name "range" p) [a, b, c] [] pos) Δ S (.one ((iot m k t).map D.int)) S3 :=
  ⟨(h.1.trans h2.1).trans h3.1, fun B0 H0 σ B H z R r => WI.of (hpi _ (pa_cons W.pe (pa_cons W.pe (pa_cons W.pe pa_nil hs3) hs2) hs1)) (z.run h fun v B1 H1 z1 g1 p1 => z1.run h2 fun u B2 H2 z2 g2 p2 => z2.run h3 fun w B3 H3 z3 g3 p3 => by
    cases p1
    cases p2
    cases p3
    exact ⟨m, n, k, t, rfl, hn, r _ B3 H3 (gr_go z2.pot (h.1.trans h2.1) (gr_go z1.pot h.1 g1 g2) g3) z3.pot (ds_ints walk_rangeC)⟩)⟩
/-- pairs of two lists, two tuples -/
theorem zip_get {α β : Type} {xs : List α} {ys : List β} {i : Nat} {x : α} {y : β} (h1 : xs[i]? = some x) (h2 : ys[i]? = some y) : (xs.zip ys)[i]? = some (x, y) := by
  rw [List.getElem?_zip_eq_some]
  exact ⟨h1, h2⟩
theorem ys_pair {K : PySem.W.Frag} {B : Hp} {xs ys : List V} {ds es : List D} (h1 : All K B xs ds) (h2 : All K B ys es) {i : Nat} {H H' : Hp} {x : V} (y : YPair (fun i => xs[i]?) (fun i => ys[i]?) i H x H') : YS K B (.two (ds.zip es)) i H x H' := by
  obtain ⟨T, u, v, rfl, k1, k2, k3, k4⟩ := y
  obtain ⟨d, k5, k6⟩ := h1.getV k3
  obtain ⟨f, k7, k8⟩ := h2.getV k4
  exact ⟨T, u, v, (d, f), rfl, k1, k2, zip_get k5 k7, k6, k8⟩
theorem zip_len {ds es : List D} : (Src.two (ds.zip es)).len = min ds.length es.length := List.length_zip
theorem walk_zipT {K : PySem.W.Frag} {a b : Addr} {xs ys : List V} {n : Nat} (hn : n = min xs.length ys.length) : Walk (ItzT K a b) n (fun H => SqT K H a xs ∧ SqT K H b ys) (YPair (fun i => xs[i]?) (fun i => ys[i]?)) := by
  subst hn
  refine ⟨fun i _ hi q => ?_, fun _ q => ⟨xs, ys, q.1, q.2, by omega⟩, fun i H v H' _ q y => ?_⟩
  · have h1 : i < xs.length := by omega
    have h2 : i < ys.length := by omega
    exact ⟨xs, ys, xs[i], ys[i], q.1, q.2, by simp [h1], by simp [h2]⟩
  · obtain ⟨T, x, z, h1, h2, h3, h4, h5⟩ := y
    exact ⟨T, x, z, h1, h2, h3, h4 xs q.1, h5 ys q.2⟩
section
variable {elts : List Expr} {kk : Nat} {tpos p : Pos}
theorem ds_zipT {ds es : List D} (ha : DE X a Δ S (.tup ds) S1) (hb : DE X b Δ S1 (.tup es) S2) (hg : Gl X "zip") (hm : X.mg "zip" = none)
    (hs : starEach [a, b] X.env = (false, eval a X.env) :: starEach [b] X.env := by rfl) (hs2 : starEach [b] X.env = (false, eval b X.env) :: starEach [] X.env := by rfl) (hpl : (backTo pos (starEach [b] X.env)).any (·.1) = false := by rfl) :
    DS X (.Tuple elts kk tpos) (.Call (.Name "zip" p) [a, b] [] pos) Δ S (.two (ds.zip es)) S2 :=
  ⟨ha.1.trans hb.1, fun B0 H0 σ B H z R r => WI.of (pi_zipA hg hm (pa_cons W.pe (pa_cons W.pe pa_nil hs2) hs) hs hpl) (z.run ha fun v B1 H1 z1 g1 p1 => z1.run hb fun u B2 H2 z2 g2 p2 => by
    cases p1 with
    | tup h1 h2 => cases p2 with
      | tup k1 k2 =>
        have h1' := Evl.ex_t g2.ex h1
        have h2' := h2.mono g2.ex
        refine ⟨_, _, _, _, rfl, .inr ⟨Evl.ex_t z2.sub h1', Evl.ex_t z2.sub k1, r _ B2 H2 (gr_go z1.pot ha.1 g1 g2) z2.pot ⟨fun H3 => SqT X.K H3 _ _ ∧ SqT X.K H3 _ _, ?_, fun H3 ex => ⟨Evl.ex_t ex h1', Evl.ex_t ex k1⟩⟩⟩⟩
        exact (walk_zipT (by rw [zip_len, h2.length, k2.length])).mono (fun _ q => q) fun i H x H' hi q y => ys_pair h2' k2 y)⟩
theorem ds_zipL {ds es : List D} (ha : DE X a Δ S (.lst ds) S1) (hb : DE X b Δ S1 (.lst es) S2) (hg : Gl X "zip") (hm : X.mg "zip" = none)
    (hs : starEach [a, b] X.env = (false, eval a X.env) :: starEach [b] X.env := by rfl) (hs2 : starEach [b] X.env = (false, eval b X.env) :: starEach [] X.env := by rfl) (hpl : (backTo pos (starEach [b] X.env)).any (·.1) = false := by rfl) :
    DS X (.Tuple elts kk tpos) (.Call (.Name "zip" p) [a, b] [] pos) Δ S (.two (ds.zip es)) S2 :=
  ⟨ha.1.trans hb.1, fun B0 H0 σ B H z R r => WI.of (pi_zipA hg hm (pa_cons W.pe (pa_cons W.pe pa_nil hs2) hs) hs hpl) (z.run ha fun v B1 H1 z1 g1 p1 => z1.run hb fun u B2 H2 z2 g2 p2 => by
    cases p1 with
    | lst h1 h2 => cases p2 with
      | lst k1 k2 =>
        have h1' := Evl.ex_l g2.ex h1
        have h2' := h2.mono g2.ex
        refine ⟨_, _, _, _, rfl, .inl ⟨Evl.ex_l z2.sub h1', Evl.ex_l z2.sub k1, r _ B2 H2 (gr_go z1.pot ha.1 g1 g2) z2.pot ⟨fun H3 => SqL X.K H3 _ _ ∧ SqL X.K H3 _ _, ?_, fun H3 ex => ⟨Evl.ex_l ex h1', Evl.ex_l ex k1⟩⟩⟩⟩
        exact (walk_zip (by rw [zip_len, h2.length, k2.length])).mono (fun _ q => q) fun i H x H' hi q y => ys_pair h2' k2 y)⟩
theorem ds_enumL {ds : List D} (ha : DE X a Δ S (.lst ds) S1) (hg : Gl X "enumerate") (hm : X.mg "enumerate" = none) (hs : starEach [a] X.env = [(false, eval a X.env)] := by rfl) :
    DS X (.Tuple elts kk tpos) (.Call (.Name "enumerate" p) [a] [] pos) Δ S (.two (((iot 0 1 ds.length).map D.int).zip ds)) S1 :=
  ⟨ha.1, fun B0 H0 σ B H z R r => WI.of (pi_enum hg hm (pa_cons W.pe pa_nil hs) hs) (z.run ha fun v B1 H1 z1 g1 p1 => by
    cases p1 with
    | lst h1 h2 =>
      refine ⟨_, _, rfl, Evl.ex_l z1.sub h1, r _ B1 H1 g1 z1.pot ⟨_, ?_, fun H3 ex => Evl.ex_l ex h1⟩⟩
      have e : (Src.two (((iot 0 1 ds.length).map D.int).zip ds)).len = ds.length := by
        rw [zip_len, List.length_map, iot_len]
        omega
      rw [e, ← h2.length]
      exact (walk_enum (K := X.K)).mono (fun _ q => q) fun i H x H' hi q y => by
        obtain ⟨T, u, v, rfl, k1, k2, k3, k4⟩ := y
        obtain ⟨f, k7, k8⟩ := h2.getV k4
        cases k3
        refine ⟨T, _, v, (.int (i : Nat), f), rfl, k1, k2, zip_get ?_ k7, .int _, k8⟩
        rw [List.getElem?_map, iot_get (by have := h2.length; omega)]
        show some (D.int (0 + (i : Int) * 1)) = _
        rw [Int.mul_one, Int.zero_add])⟩
end
end

section
variable {X : Cx} {Δ : List Sl} {S S1 S2 : PotS} {pos : Pos} {a b e tg : Expr}
theorem dsc_seq {ds : List D} (h : DQ X e Δ S false ds S1) : DSC X tg e Δ S (.one ds) S1 :=
  ⟨h.1, fun B0 H0 σ B H z R r => WI.of (pi_list W.pe) (z.run h fun v B1 H1 z1 g1 p1 => by
    obtain ⟨p, vs, rfl, hp, hv⟩ := p1
    refine ⟨p, rfl, ⟨vs, hp H1 (Old.refl _ _)⟩, r _ B1 H1 g1 z1.pot ⟨_, ?_, fun H3 ex o => hp H3 o⟩⟩
    rw [show (Src.one ds).len = _ from hv.length.symm]
    exact (walk_list (K := X.K)).mono (fun _ q => q) fun i H x H' hi q y => by
      obtain ⟨d, k1, k2⟩ := hv.getV y.2
      exact ⟨y.1, d, k1, k2⟩)⟩
theorem dsc_zip {elts : List Expr} {kk : Nat} {tpos p : Pos} {ds es : List D} (ha : DQ X a Δ S false ds S1) (hb : DQ X b Δ S1 false es S2) (hg : Gl X "zip") (hm : X.mg "zip" = none)
    (hs : starEach [a, b] X.env = (false, eval a X.env) :: starEach [b] X.env := by rfl) (hs2 : starEach [b] X.env = (false, eval b X.env) :: starEach [] X.env := by rfl) (hpl : (backTo pos (starEach [b] X.env)).any (·.1) = false := by rfl) :
    DSC X (.Tuple elts kk tpos) (.Call (.Name "zip" p) [a, b] [] pos) Δ S (.two (ds.zip es)) S2 :=
  ⟨ha.1.trans hb.1, fun B0 H0 σ B H z R r => WI.of (pi_zipA hg hm (pa_cons W.pe (pa_cons W.pe pa_nil hs2) hs) hs hpl) (z.run ha fun v B1 H1 z1 g1 p1 => z1.run hb fun u B2 H2 z2 g2 p2 => by
    obtain ⟨p, vs, rfl, hp, hv⟩ := p1
    obtain ⟨q, us, rfl, hq, hu⟩ := p2
    have hv' := hv.mono g2.ex
    refine ⟨p, q, vs, us, rfl, .inl ⟨hp H2 g2.old, hq H2 (Old.refl _ _), r _ B2 H2 (gr_go z1.pot ha.1 g1 g2) z2.pot ⟨fun H3 => SqL X.K H3 p vs ∧ SqL X.K H3 q us, ?_, fun H3 ex o => ⟨hp H3 fun x y hm h => o x y (fun k => hm (hb.1.m k)) (g2.old x y hm h), hq H3 o⟩⟩⟩⟩
    exact (walk_zip (by rw [zip_len, hv.length, hu.length])).mono (fun _ q => q) fun i H x H' hi q y => ys_pair hv' hu y)⟩
end

/-! ### targets -/
section
variable {X : Cx} {Δ : List Sl} {S S1 S2 : PotS} {pos : Pos} {a b e tg : Expr} {K : PySem.W.Frag} {B0 H0 B H : Hp} {σ : L2.St}
/-- how an item is stored: the target's slots -/
inductive Tg where
  | one (j : Nat) | two (j k : Nat)
def Tg.ix : Tg → List Nat
  | .one j => [j]
  | .two j k => [j, k]
/-- the slots behind the i-th item -/
def bind (t : Tg) (src : Src) (i : Nat) (Δ : List Sl) : List Sl := match t, src with
  | .one j, .one ds => Δ.set j (match ds[i]? with
    | some d => .dat d
    | none => .no)
  | .two j k, .two ps => (match ps[i]? with
    | some p => (Δ.set j (.dat p.1)).set k (.dat p.2)
    | none => Δ)
  | _, _ => Δ
/-- the target fits what is walked -/
structure TgOk (X : Cx) (tg : Expr) (t : Tg) (src : Src) : Prop where
  st : ∀ (B0 H0 : Hp) (σ : L2.St) (B H H' : Hp) (Δ : List Sl) (S : PotS) (i : Nat) (x : V) (B1 : Hp), Stt X.K B0 H0 σ B H Δ S → i < src.len → Ex B1 B → YS X.K B1 src i H x H' → ∀ Q : L2.St → Hp → Prop,
    (∀ σ' B2 H2, Gr S B H B2 H2 → Stt X.K B0 H0 σ' B2 H2 (bind t src i Δ) S → (∀ vs : List Nat, (∀ v, v ∈ t.ix → v ∈ vs) → L2.wipe σ' vs = L2.wipe σ vs) → Q σ' H2) → WG X tg x σ H' Q
theorem tg_name {j : Nat} {x : Str} {ds : List D} (hN : X.N.Nodup) (hi : X.N[j]? = some x) (hx : Loc X.env.scope x) (hf : X.fn x = true ∨ X.env.scope.names.lookup x = some .local := by first | exact .inl rfl | exact .inr rfl | assumption) :
    TgOk X (.Name x pos) (.one j) (.one ds) := by
  refine ⟨fun B0 H0 σ B H H' Δ S i v B1 z hl ex y Q q => WG.of (pg_name hN hi hx hf) ?_⟩
  obtain ⟨rfl, d, h1, h2⟩ := y
  refine q _ B _ (Gr.refl z.sub) ?_ fun vs h => wipe_in (h j (by simp [Tg.ix]))
  have e : bind (.one j) (.one ds) i Δ = Δ.set j (.dat d) := by
    show Δ.set j _ = _
    rw [h1]
  rw [e]
  exact z.put (h2.mono ex)
theorem tg_pair {j k : Nat} {x y : Str} {ps : List (D × D)} {m : Nat} {p1 p2 : Pos} (hc : X.calm = true) (hN : X.N.Nodup) (hj : X.N[j]? = some x) (hx : Loc X.env.scope x) (hk : X.N[k]? = some y) (hy : Loc X.env.scope y)
    (hf : X.fn x = true ∨ X.env.scope.names.lookup x = some .local := by first | exact .inl rfl | exact .inr rfl | assumption) (hf2 : X.fn y = true ∨ X.env.scope.names.lookup y = some .local := by first | exact .inl rfl | exact .inr rfl | assumption)
    (hn : (assignEach [.Name x p1, .Name y p2] X.env).length = 2 := by rfl) (hst : (assignEach [.Name x p1, .Name y p2] X.env).findIdx? (·.1) = none := by rfl)
    (hs1 : (assignEach (.Name x p1 :: [.Name y p2]) X.env).map (·.2) = assign (.Name x p1) X.env :: (assignEach [.Name y p2] X.env).map (·.2) := by rfl)
    (hs2 : (assignEach (.Name y p2 :: []) X.env).map (·.2) = assign (.Name y p2) X.env :: (assignEach [] X.env).map (·.2) := by rfl) :
    TgOk X (.Tuple [.Name x p1, .Name y p2] m pos) (.two j k) (.two ps) := by
  refine ⟨fun B0 H0 σ B H H' Δ S i v B1 z hl ex yy Q q => WG.of (pg_tup hc (pgs_cons (pg_name hN hj hx hf) (pgs_cons (pg_name hN hk hy hf2) pgs_nil hs2) hs1) hn hst) ?_⟩
  obtain ⟨T, u, w, p, rfl, h1, rfl, h3, h4, h5⟩ := yy
  have ex2 : Ex B (upd B T (.tup [u, w])) := Evl.Ex.new (Evl.fresh_back z.sub h1)
  have g : Gr S B H (upd B T (.tup [u, w])) (upd H T (.tup [u, w])) := Gr.data z.sub h1
  have z2 := z.grow (PotEq.refl S) g (z.pot.upd2 h1)
  refine ⟨T, [u, w], rfl, Evl.st_of upd_same, rfl, u, [w], rfl, w, [], rfl, rfl, q _ _ _ g ?_ fun vs h => ?_⟩
  · have e : bind (.two j k) (.two ps) i Δ = (Δ.set j (.dat p.1)).set k (.dat p.2) := by
      show (match ps[i]? with
        | some p => (Δ.set j (.dat p.1)).set k (.dat p.2)
        | none => Δ) = _
      rw [h3]
    rw [e]
    exact (z2.put ((h4.mono ex).mono ex2)).put ((h5.mono ex).mono ex2)
  · rw [wipe_in (h k (by simp [Tg.ix])), wipe_in (h j (by simp [Tg.ix]))]

/-! ### comprehensions -/
/-- a clause's tests -/
structure DP (X : Cx) (ifs : List Expr) (Δ : List Sl) (S : PotS) (k : Bool) (S' : PotS) : Prop where
  eq : PotEq S S'
  run : ∀ B0 H0 σ B H, Stt X.K B0 H0 σ B H Δ S → ∀ Q : Bool → Hp → Prop, (∀ B2 H2, Gr S B H B2 H2 → PotOk S' B2 H2 → Q k H2) → WP X ifs σ H Q
theorem dp_nil : DP X [] Δ S true S := ⟨PotEq.refl S, fun B0 H0 σ B H z Q q => WP.of pts_nil (q B H (Gr.refl z.sub) z.pot)⟩
theorem dp_one {k : Bool} (h : DT X e Δ S k S1) : DP X [e] Δ S k S1 := ⟨h.1, fun B0 H0 σ B H z Q q => WP.of (pts_one WT.pt) (z.runT h fun B1 H1 z1 g1 => q B1 H1 g1 z1.pot)⟩
/-- what the turns give -/
def kept (n : Nat) (f : Nat → Bool) (d : Nat → D) : List D := ((List.range n).filter f).map d
theorem kept_yes {n : Nat} {f : Nat → Bool} {d : Nat → D} (h : f n = true) : kept (n + 1) f d = kept n f d ++ [d n] := by
  unfold kept
  rw [List.range_succ, List.filter_append, List.map_append, List.filter_cons, if_pos h] <;> rfl
theorem kept_no {n : Nat} {f : Nat → Bool} {d : Nat → D} (h : f n = false) : kept (n + 1) f d = kept n f d := by
  unfold kept
  rw [List.range_succ, List.filter_append, List.map_append, List.filter_cons, if_neg (by rw [h]; decide)]
  show _ ++ [] = _
  rw [List.append_nil]
theorem kept_len (n : Nat) (f : Nat → Bool) (d : Nat → D) : (kept n f d).length ≤ n := by
  unfold kept
  rw [List.length_map]
  have h := List.length_filter_le f (List.range n)
  rw [List.length_range] at h
  exact h
abbrev blk (X : Cx) (scope : Scope) (s : Shared) (H : Hp) (C : Addr) (cl : List (Str × Addr)) (fp : List Addr) : Cx := X.blk s H scope (compEnvC scope cl C X.env) fp
theorem lc_go {src : Src} {t : Tg} {iter : Expr} {vs : List Nat} {bs : Nat → Bool} {dd : Nat → D} {Ss : Nat → PotS} {wg : TG} {wt : TT} {we : TE}
    (hsrc : DSC X tg iter Δ S src (Ss 0)) (hl : src.len ≤ 99999) (hvs : ∀ v, v ∈ t.ix → v ∈ vs)
    (hg : ∀ (B0 H0 : Hp) (σ : L2.St) (B H H' : Hp) (Δ : List Sl) (S : PotS) (i : Nat) (x : V) (B1 : Hp), Stt X.K B0 H0 σ B H Δ S → i < src.len → Ex B1 B → YS X.K B1 src i H x H' → ∀ Q : L2.St → Hp → Prop,
      (∀ σ' B2 H2, Gr S B H B2 H2 → Stt X.K B0 H0 σ' B2 H2 (bind t src i Δ) S → L2.wipe σ' vs = L2.wipe σ vs → Q σ' H2) → wg x σ H' Q)
    (ht : ∀ i, i < src.len → PotEq (Ss i) (Ss i) ∧ ∀ B0 H0 σ B H, Stt X.K B0 H0 σ B H (bind t src i (wipeD Δ vs)) (Ss i) → ∀ Q : Bool → Hp → Prop, (∀ B2 H2, Gr (Ss i) B H B2 H2 → PotOk (Ss i) B2 H2 → Q (bs i) H2) → wt σ H Q)
    (he : ∀ i, i < src.len → bs i = true → PotEq (Ss i) (Ss (i + 1)) ∧ ∀ B0 H0 σ B H, Stt X.K B0 H0 σ B H (bind t src i (wipeD Δ vs)) (Ss i) → ∀ Q : VK, (∀ v B2 H2, Gr (Ss i) B H B2 H2 → PotOk (Ss (i + 1)) B2 H2 → Is X.K B2 v (dd i) → Q v H2) → we σ H Q)
    (hn : ∀ i, i < src.len → bs i = false → Ss (i + 1) = Ss i) :
    PotEq S (Ss src.len) ∧ ∀ B0 H0 σ B H, Stt X.K B0 H0 σ B H Δ S → ∀ Q : VK, (∀ v B2 H2, Gr S B H B2 H2 → PotOk (Ss src.len) B2 H2 → pNew X.K (kept src.len bs dd) H v B2 H2 → Q v H2) → tLc (WI X tg iter) wg wt we vs σ H Q := by
  have eqs : ∀ i, i ≤ src.len → PotEq S (Ss i) := by
    intro i
    induction i with
    | zero => intro _; exact hsrc.1
    | succ i ih =>
      intro hi
      have h1 := ih (by omega)
      cases hb : bs i with
      | true => exact h1.trans (he i (by omega) hb).1
      | false =>
        rw [hn i (by omega) hb]
        exact h1
  refine ⟨eqs _ (Nat.le_refl _), fun B0 H0 σ B H z Q q => ?_⟩
  refine hsrc.2 B0 H0 σ B H z _ fun J B1 H1 g1 po1 hJ D hD => ?_
  obtain ⟨G, w, hG⟩ := hJ
  have z1 := z.grow hsrc.1 g1 po1
  have hBD : B1 D = none := Evl.fresh_back z1.sub hD
  have hHD : H D = none := g1.free (K := X.K) hsrc.1 po1 hD
  have zl : (L2.wipe σ vs).length = (wipeD Δ vs).length := (z1.wipe vs).len
  have gm : Gr (Ss 0) B1 H1 B1 (upd H1 D (.lst [])) := Gr.mine z1.sub hD
  have zs : Stt X.K B0 H0 (L2.wipe σ vs ++ [some (.ref D)]) B1 (upd H1 D (.lst [])) (wipeD Δ vs ++ [.own []]) (Ss 0) := (z1.wipe vs).pushN ((z1.grow (PotEq.refl _) gm (po1.upd hD)).wipe vs) (PotEq.refl _) ⟨D, [], rfl, hD, hBD, upd_same, .nil⟩ gm
  have cont : ∀ {B' H' : Hp} {i : Nat} {S' : PotS}, Stt X.K B0 H0 (L2.wipe σ vs ++ [some (.ref D)]) B' H' (wipeD Δ vs ++ [.own (kept i bs dd)]) S' → ∃ acc, H' D = some (.lst acc) ∧ All X.K B' acc (kept i bs dd) ∧ B' D = none := fun {B' H' i S'} z' => by
    have l1 : (wipeD Δ vs ++ [Sl.own (kept i bs dd)])[(wipeD Δ vs).length]? = some (Sl.own (kept i bs dd)) := by
      rw [List.getElem?_append_right (Nat.le_refl _), Nat.sub_self]
      rfl
    obtain ⟨p, acc, h1, h2, h3, h4, h5, h6⟩ := z'.own _ _ l1
    rw [← zl, List.getElem?_append_right (Nat.le_refl _), Nat.sub_self] at h1
    have e : D = p := V.ref.inj (Option.some.inj (Option.some.inj h1))
    subst e
    exact ⟨acc, h5, h6, h2⟩
  -- the invariant: the state of the block at turn i, and the list that is made behind it
  refine lc_it w (fun i H' => ∃ B', Gr S B H B' H' ∧ (Ex B1 B' ∧ Old (Ss 0) H1 H') ∧ Stt X.K B0 H0 (L2.wipe σ vs ++ [some (.ref D)]) B' H' (wipeD Δ vs ++ [.own (kept i bs dd)]) (Ss i)) ?_ ?_ ?_ ?_
  · exact ⟨B1, gr_go po1 hsrc.1 g1 gm, ⟨Evl.Ex.refl B1, gm.old⟩, zs⟩
  · rintro i H' hi ⟨B', g, ⟨ex, old⟩, z'⟩
    exact hG H' (ex.trans z'.sub) old
  · rintro i x H2 H3 hi ⟨B', g, ⟨ex, old⟩, z'⟩ y
    have e0i : PotEq (Ss 0) (Ss i) := hsrc.1.symm.trans (eqs i (by omega))
    refine hg B0 H0 _ B' H2 H3 _ (Ss i) i x B1 (z'.left zl) hi ex y _ fun σ' B4 H4 g4 z4 hw => ?_
    refine ⟨by rw [hw, wipe_wipe (fun v h => h)], (ht i hi).2 B0 H0 σ' B4 H4 z4 _ fun B5 H5 g5 po5 => ?_⟩
    have z5 := z4.grow (PotEq.refl _) g5 po5
    have g45 : Gr (Ss i) B' H2 B5 H5 := gr_go z4.pot (PotEq.refl _) g4 g5
    have z25 := z'.grow (PotEq.refl _) g45 po5
    have gS5 : Gr S B H B5 H5 := gr_go z'.pot (eqs i (by omega)) g g45
    cases hb : bs i with
    | false =>
      rw [if_neg Bool.false_ne_true]
      refine ⟨B5, gS5, ⟨ex.trans g45.ex, fun a o hm h => g45.old a o (fun k => hm (e0i.m k)) (old a o hm h)⟩, ?_⟩
      rw [hn i hi hb, kept_no hb]
      exact z25
    | true =>
      rw [if_pos rfl]
      have h6 := he i hi hb
      refine h6.2 B0 H0 σ' B5 H5 z5 _ fun v B6 H6 g6 po6 hv => ?_
      have z6 := z25.grow h6.1 g6 po6
      obtain ⟨acc, hD6, hall, hB6⟩ := cont z6
      have hlen : acc.length ≤ 99999 := by
        rw [hall.length]
        have := kept_len i bs dd
        omega
      have gu : Gr S B H B6 (upd H6 D (.lst (acc ++ [v]))) := by
        have g7 := gr_go z25.pot (eqs i (by omega)) gS5 g6
        refine ⟨g7.ex, fun a o hm h => ?_, g7.new, z6.sub.mut hB6⟩
        have ne : a ≠ D := ne_of_none h hHD
        rw [upd_ne ne]
        exact g7.old a o hm h
      refine ⟨acc, hD6, Evl.sz_lt (by omega), B6, gu, ⟨(ex.trans g45.ex).trans g6.ex, fun a o hm h => ?_⟩, ?_⟩
      · have ne : a ≠ D := ne_of_none h hD
        rw [upd_ne ne]
        have hm' : ¬ PotM (Ss i) a := fun k => hm (e0i.m k)
        exact g6.old a o hm' (g45.old a o hm' (old a o hm h))
      have l1 : (wipeD Δ vs ++ [Sl.own (kept i bs dd)])[(wipeD Δ vs).length]? = some (Sl.own (kept i bs dd)) := by
        rw [List.getElem?_append_right (Nat.le_refl _), Nat.sub_self]
        rfl
      have l2 : (L2.wipe σ vs ++ [some (V.ref D)])[(wipeD Δ vs).length]? = some (some (V.ref D)) := by
        rw [← zl, List.getElem?_append_right (Nat.le_refl _), Nat.sub_self]
        rfl
      have z7 := z6.mutR (H' := upd H6 D (.lst (acc ++ [v]))) l1 l2 (.own hD6 hall) (.own upd_same (hall.append (.cons hv .nil))) (fun q hq => .inl hq) fun a o ho hna => by
        rw [upd_ne (fun k => hna (by rw [k]; exact List.mem_cons_self))]
        exact ho
      rw [set_last] at z7
      rw [kept_yes hb]
      exact z7
  · rintro H' ⟨B', g, _, z'⟩
    obtain ⟨acc, hacc, hall, hb'⟩ := cont z'
    exact q _ B' H' g z'.pot ⟨D, acc, rfl, hHD, hb', hacc, hall⟩
end
end Ab

set_option Elab.async false
set_option linter.all false
set_option autoImplicit false
set_option maxRecDepth 100000
set_option maxHeartbeats 2000000
/-! Comprehensions by typed lists; statements. -/
namespace Ab
open PySem PySem.Spec PyProof.Rows L2 RZ

section
variable {X : Cx} {Δ : List Sl} {S S1 S2 : PotS} {pos : Pos} {a b e tg iter elt : Expr} {ifs : List Expr} {scope : Scope} {own : List (Str × Nat)}
def WGb (X : Cx) (scope : Scope) (tg : Expr) : TG := fun v σ H Q => ∀ s H' C cl fp, WG (blk X scope s H' C cl fp) tg v σ H Q
def WPb (X : Cx) (scope : Scope) (ifs : List Expr) : TT := fun σ H Q => ∀ s H' C cl fp, WP (blk X scope s H' C cl fp) ifs σ H Q
def Wb (X : Cx) (scope : Scope) (elt : Expr) : TE := fun σ H Q => ∀ s H' C cl fp, W (blk X scope s H' C cl fp) elt σ H Q
theorem pgb {s H C cl fp} : PG (X.blk s H scope (compEnvC scope cl C X.env) fp) tg (WGb X scope tg) := ⟨fun pins s' σ H' v u Q I r h => h s H C cl fp pins s' u I r⟩
theorem ppb {s H C cl fp} : PTs (X.blk s H scope (compEnvC scope cl C X.env) fp) ifs (WPb X scope ifs) := ⟨fun pins s' σ H' Q I h => h s H C cl fp pins s' I⟩
theorem peb {s H C cl fp} : PE (X.blk s H scope (compEnvC scope cl C X.env) fp) elt (Wb X scope elt) := ⟨fun pins s' σ H' Q I h => h s H C cl fp pins s' I⟩
abbrev tComp (X : Cx) (tg iter elt : Expr) (ifs : List Expr) (scope : Scope) (vs : List Nat) : TE := tLc (WI X tg iter) (WGb X scope tg) (WPb X scope ifs) (Wb X scope elt) vs
/-- the list that a comprehension gives, whatever becomes of it -/
structure LC (X : Cx) (tg iter elt : Expr) (ifs : List Expr) (scope : Scope) (vs : List Nat) (Δ : List Sl) (S : PotS) (ds : List D) (S' : PotS) : Prop where
  eq : PotEq S S'
  run : ∀ B0 H0 σ B H, Stt X.K B0 H0 σ B H Δ S → ∀ Q : VK, (∀ v B2 H2, Gr S B H B2 H2 → PotOk S' B2 H2 → pNew X.K ds H v B2 H2 → Q v H2) → tComp X tg iter elt ifs scope vs σ H Q
theorem lc_all {src : Src} {t : Tg} {vs : List Nat} {bs : Nat → Bool} {dd : Nat → D} {Ss : Nat → PotS}
    (hsrc : DSC X tg iter Δ S src (Ss 0)) (hl : src.len ≤ 99999) (hvs : ∀ v, v ∈ t.ix → v ∈ vs) (hg : ∀ s H C cl fp, TgOk (blk X scope s H C cl fp) tg t src)
    (ht : ∀ s H C cl fp i, i < src.len → DP (blk X scope s H C cl fp) ifs (bind t src i (wipeD Δ vs)) (Ss i) (bs i) (Ss i))
    (he : ∀ s H C cl fp i, i < src.len → bs i = true → DE (blk X scope s H C cl fp) elt (bind t src i (wipeD Δ vs)) (Ss i) (dd i) (Ss (i + 1)))
    (hp : ∀ i, i < src.len → bs i = true → PotEq (Ss i) (Ss (i + 1))) (hn : ∀ i, i < src.len → bs i = false → Ss (i + 1) = Ss i) : LC X tg iter elt ifs scope vs Δ S (kept src.len bs dd) (Ss src.len) := by
  have h := lc_go (wg := WGb X scope tg) (wt := WPb X scope ifs) (we := Wb X scope elt) hsrc hl hvs
    (fun B0 H0 σ B H H' Δ S i x B1 z hi ex y Q q => fun s h C cl fp => (hg s h C cl fp).st B0 H0 σ B H H' Δ S i x B1 z hi ex y Q fun σ' B2 H2 g z2 hw => q σ' B2 H2 g z2 (hw vs hvs))
    (fun i hi => ⟨PotEq.refl _, fun B0 H0 σ B H z Q q => fun s h C cl fp => (ht s h C cl fp i hi).2 B0 H0 σ B H z Q q⟩)
    (fun i hi hb => ⟨hp i hi hb, fun B0 H0 σ B H z Q q => fun s h C cl fp => (he s h C cl fp i hi hb).2 B0 H0 σ B H z Q q⟩) hn
  exact ⟨h.1, h.2⟩
theorem LC.dn {ds : List D} (h : LC X tg iter elt ifs scope (own.map (·.2)) Δ S ds S1) (hc : X.calm = true) (hN : X.N.Nodup) (ok : BlkOk X.N X.env.scope scope own)
    (hs : ∀ x, foldedSetIterable iter X.env x = pure x := by intro _; rfl) : DN X (.ListComp elt [⟨tg, iter, ifs, 0⟩] scope pos) Δ S ds S1 :=
  DG.by (pe_lc hc hN WI.pi ok (fun _ _ _ _ _ => pgb) (fun _ _ _ _ _ => ppb) (fun _ _ _ _ _ => peb) hs) h.1 h.2

/-! ### by typed lists -/
structure Tm {α : Type} (src : Src) (t : Tg) (xs : List α) (bd : α → List Sl → List Sl) : Prop where
  len : src.len = xs.length
  at_ : ∀ (i : Nat) (x : α) (Δ : List Sl), xs[i]? = some x → bind t src i Δ = bd x Δ
theorem tm_one {α : Type} {xs : List α} {φ : α → D} {j : Nat} : Tm (.one (xs.map φ)) (.one j) xs (fun x Δ => Δ.set j (.dat (φ x))) :=
  ⟨List.length_map .., fun i x Δ h => by
    show Δ.set j (match (xs.map φ)[i]? with
      | some d => .dat d
      | none => .no) = _
    rw [List.getElem?_map, h]
    rfl⟩
theorem tm_two {α : Type} {xs : List α} {φ ψ : α → D} {j k : Nat} : Tm (.two (xs.map fun x => (φ x, ψ x))) (.two j k) xs (fun x Δ => (Δ.set j (.dat (φ x))).set k (.dat (ψ x))) :=
  ⟨List.length_map .., fun i x Δ h => by
    show (match (xs.map fun x => (φ x, ψ x))[i]? with
      | some p => (Δ.set j (.dat p.1)).set k (.dat p.2)
      | none => Δ) = _
    rw [List.getElem?_map, h]
    rfl⟩
theorem tm_zip {α β : Type} {xs : List α} {ys : List β} {φ : α → D} {ψ : β → D} {j k : Nat} : Tm (.two ((xs.map φ).zip (ys.map ψ))) (.two j k) (xs.zip ys) (fun p Δ => (Δ.set j (.dat (φ p.1))).set k (.dat (ψ p.2))) := by
  rw [List.zip_map]
  exact tm_two (φ := fun p : α × β => φ p.1) (ψ := fun p => ψ p.2)
theorem kept_typed {α : Type} {xs : List α} {b : α → Bool} {g : α → D} : kept xs.length (fun i => ((xs[i]?).map b).getD false) (fun i => ((xs[i]?).map g).getD .non) = (xs.filter b).map g := by
  unfold kept
  have key : ∀ (n : Nat), n ≤ xs.length → ((List.range n).filter fun i => ((xs[i]?).map b).getD false).map (fun i => ((xs[i]?).map g).getD .non) = ((xs.take n).filter b).map g := by
    intro n
    induction n with
    | zero => intro _; rfl
    | succ n ih =>
      intro hn
      have hlt : n < xs.length := hn
      rw [List.range_succ, List.filter_append, List.map_append, ih (by omega), List.take_add_one, List.filter_append, List.map_append]
      congr 1
      rw [List.getElem?_eq_getElem hlt]
      cases hb : b xs[n] with
      | true => simp [hb, hlt]
      | false => simp [hb, hlt]
  rw [key xs.length (Nat.le_refl _), List.take_length]
/-- [elt for tg in iter if ..], the pot as it is -/
theorem lc_typed {α : Type} {src : Src} {t : Tg} {xs : List α} {bd : α → List Sl → List Sl} {vs : List Nat} {b : α → Bool} {g : α → D}
    (hsrc : DSC X tg iter Δ S src S1) (hT : Tm src t xs bd) (hl : xs.length ≤ 99999) (hvs : ∀ v, v ∈ t.ix → v ∈ vs) (hg : ∀ s H C cl fp, TgOk (blk X scope s H C cl fp) tg t src)
    (ht : ∀ s H C cl fp x, x ∈ xs → DP (blk X scope s H C cl fp) ifs (bd x (wipeD Δ vs)) S1 (b x) S1)
    (he : ∀ s H C cl fp x, x ∈ xs → b x = true → DE (blk X scope s H C cl fp) elt (bd x (wipeD Δ vs)) S1 (g x) S1) : LC X tg iter elt ifs scope vs Δ S ((xs.filter b).map g) S1 := by
  have h := lc_all (X := X) (tg := tg) (iter := iter) (elt := elt) (ifs := ifs) (scope := scope) (Δ := Δ) (S := S) (t := t) (vs := vs) (Ss := fun _ => S1)
    (bs := fun i => ((xs[i]?).map b).getD false) (dd := fun i => ((xs[i]?).map g).getD .non) hsrc (by rw [hT.len]; exact hl) hvs hg
    (fun s H C cl fp i hi => by
      rw [hT.len] at hi
      have e : xs[i]? = some xs[i] := List.getElem?_eq_getElem hi
      rw [hT.at_ i _ _ e, e]
      exact ht s H C cl fp _ (List.getElem_mem hi))
    (fun s H C cl fp i hi hb => by
      rw [hT.len] at hi
      have e : xs[i]? = some xs[i] := List.getElem?_eq_getElem hi
      rw [e] at hb
      rw [hT.at_ i _ _ e, e]
      exact he s H C cl fp _ (List.getElem_mem hi) hb) (fun _ _ _ => PotEq.refl _) (fun _ _ _ => rfl)
  rw [hT.len, kept_typed] at h
  exact h
/-- without a test -/
theorem lc_map {α : Type} {src : Src} {t : Tg} {xs : List α} {bd : α → List Sl → List Sl} {vs : List Nat} {g : α → D}
    (hsrc : DSC X tg iter Δ S src S1) (hT : Tm src t xs bd) (hl : xs.length ≤ 99999) (hvs : ∀ v, v ∈ t.ix → v ∈ vs) (hg : ∀ s H C cl fp, TgOk (blk X scope s H C cl fp) tg t src)
    (he : ∀ s H C cl fp x, x ∈ xs → DE (blk X scope s H C cl fp) elt (bd x (wipeD Δ vs)) S1 (g x) S1) : LC X tg iter elt [] scope vs Δ S (xs.map g) S1 := by
  have h := lc_typed (b := fun _ => true) hsrc hT hl hvs hg (fun s H C cl fp x hx => dp_nil) (fun s H C cl fp x hx _ => he s H C cl fp x hx)
  rw [List.filter_eq_self.mpr (fun _ _ => rfl)] at h
  exact h
/-- the pot goes on from turn to turn -/
def goS {α : Type} (f : α → PotS → D × PotS) : List α → PotS → List D × PotS
  | [], S => ([], S)
  | x :: xs, S => ((f x S).1 :: (goS f xs (f x S).2).1, (goS f xs (f x S).2).2)
theorem goS_take {α : Type} (f : α → PotS → D × PotS) : ∀ (xs : List α) (S : PotS) (i : Nat) (x : α), xs[i]? = some x → goS f (xs.take (i + 1)) S = ((goS f (xs.take i) S).1 ++ [(f x (goS f (xs.take i) S).2).1], (f x (goS f (xs.take i) S).2).2)
  | [], _, _, _, h => by simp at h
  | y :: ys, S, 0, x, h => by
    have e : y = x := by simpa using h
    subst e
    rfl
  | y :: ys, S, i + 1, x, h => by
    have ih := goS_take f ys (f y S).2 i x (by simpa using h)
    rw [List.take_succ_cons, List.take_succ_cons]
    show ((f y S).1 :: (goS f (ys.take (i + 1)) (f y S).2).1, (goS f (ys.take (i + 1)) (f y S).2).2) = _
    rw [ih]
    rfl
theorem lc_pot {α : Type} {src : Src} {t : Tg} {xs : List α} {bd : α → List Sl → List Sl} {vs : List Nat} (f : α → PotS → D × PotS) (I : PotS → Prop) (hI : ∀ x S, x ∈ xs → I S → I (f x S).2 ∧ PotEq S (f x S).2)
    (hsrc : DSC X tg iter Δ S src S1) (h0 : I S1) (hT : Tm src t xs bd) (hl : xs.length ≤ 99999) (hvs : ∀ v, v ∈ t.ix → v ∈ vs) (hg : ∀ s H C cl fp, TgOk (blk X scope s H C cl fp) tg t src)
    (he : ∀ s H C cl fp x S, x ∈ xs → I S → PotEq S1 S → DE (blk X scope s H C cl fp) elt (bd x (wipeD Δ vs)) S (f x S).1 (f x S).2) : LC X tg iter elt [] scope vs Δ S (goS f xs S1).1 (goS f xs S1).2 := by
  have inv : ∀ i, i ≤ xs.length → I (goS f (xs.take i) S1).2 ∧ PotEq S1 (goS f (xs.take i) S1).2 := by
    intro i
    induction i with
    | zero => intro _; exact ⟨h0, PotEq.refl _⟩
    | succ i ih =>
      intro hi
      have hlt : i < xs.length := hi
      have e : xs[i]? = some xs[i] := List.getElem?_eq_getElem hlt
      obtain ⟨h1, h2⟩ := ih (by omega)
      rw [goS_take f xs S1 i _ e]
      have h3 := hI _ _ (List.getElem_mem hlt) h1
      exact ⟨h3.1, h2.trans h3.2⟩
  have h := lc_all (X := X) (tg := tg) (iter := iter) (elt := elt) (ifs := []) (scope := scope) (Δ := Δ) (S := S) (t := t) (vs := vs) (Ss := fun i => (goS f (xs.take i) S1).2)
    (bs := fun _ => true) (dd := fun i => ((xs[i]?).map fun x => (f x (goS f (xs.take i) S1).2).1).getD .non) hsrc (by rw [hT.len]; exact hl) hvs hg
    (fun s H C cl fp i hi => dp_nil)
    (fun s H C cl fp i hi hb => by
      rw [hT.len] at hi
      have e : xs[i]? = some xs[i] := List.getElem?_eq_getElem hi
      rw [hT.at_ i _ _ e, e, goS_take f xs S1 i _ e]
      obtain ⟨h1, h2⟩ := inv i (by omega)
      exact he s H C cl fp _ _ (List.getElem_mem hi) h1 h2)
    (fun i hi _ => by
      rw [hT.len] at hi
      exact ((inv i (by omega)).2.symm).trans (inv (i + 1) (by omega)).2) (fun _ _ hb => by cases hb)
  have e1 : kept src.len (fun _ => true) (fun i => ((xs[i]?).map fun x => (f x (goS f (xs.take i) S1).2).1).getD .non) = (goS f xs S1).1 := by
    have key : ∀ n, n ≤ xs.length → kept n (fun _ => true) (fun i => ((xs[i]?).map fun x => (f x (goS f (xs.take i) S1).2).1).getD .non) = (goS f (xs.take n) S1).1 := by
      intro n
      induction n with
      | zero => intro _; rfl
      | succ n ih =>
        intro hn
        have hlt : n < xs.length := hn
        have e : xs[n]? = some xs[n] := List.getElem?_eq_getElem hlt
        rw [kept_yes rfl, ih (by omega), goS_take f xs S1 n _ e, e]
        rfl
    rw [hT.len, key _ (Nat.le_refl _), List.take_length]
  have e2 : (goS f (xs.take src.len) S1).2 = (goS f xs S1).2 := by rw [hT.len, List.take_length]
  rw [e1] at h
  rw [← e2]
  exact h
end

/-! ### statements -/
structure AE where
  nx : List Sl → PotS → Prop
  rt : D → PotS → Prop
  bk : List Sl → PotS → Prop := fun _ _ => False
  ct : List Sl → PotS → Prop := fun _ _ => False
  rn : List D → PotS → Prop := fun _ _ => False
/-- what is wanted of a statement, by states -/
structure Rl (K : PySem.W.Frag) (B0 H0 : Hp) (A : Option Addr) (Dn : Ends) (ae : AE) : Prop where
  nx : ∀ σ B H Δ S, Stt K B0 H0 σ B H Δ S → S.map (·.1) = A → ae.nx Δ S → Dn.nx σ H
  rt : ∀ v B H d S, Gr S B0 H0 B H → PotOk S B H → S.map (·.1) = A → Is K B v d → ae.rt d S → Dn.rt v H
  bk : ∀ σ B H Δ S, Stt K B0 H0 σ B H Δ S → S.map (·.1) = A → ae.bk Δ S → Dn.bk σ H
  ct : ∀ σ B H Δ S, Stt K B0 H0 σ B H Δ S → S.map (·.1) = A → ae.ct Δ S → Dn.ct σ H
  rn : ∀ v B H ds S, Gr S B0 H0 B H → PotOk S B H → S.map (·.1) = A → pNew K ds H0 v B H → ae.rn ds S → Dn.rt v H
def W1 (X : Cx) (st : Stmt) : TS := fun D σ H => ∀ (pins : List (Addr × Obj)) (s : Shared), Inv X pins σ H s → wpAny (model X.prog X.w) X.A (exec st X.env) (SP X pins D) X.xe s
theorem W1.ps {X : Cx} {st : Stmt} : PS X st (W1 X st) := ⟨fun pins s _ _ _ I h => h pins s I⟩
theorem W1.of {X : Cx} {st : Stmt} {t : TS} (h : PS X st t) {D : Ends} {σ : L2.St} {H : Hp} (q : t D σ H) : W1 X st D σ H := fun pins s I => h.run pins s σ H D I q
structure SX (X : Cx) (st : List Stmt) (Δ : List Sl) (S : PotS) (ae : AE) : Prop where
  run : ∀ B0 H0 σ B H Dn, Stt X.K B0 H0 σ B H Δ S → Rl X.K B0 H0 (S.map (·.1)) Dn ae → WS X st Dn σ H
structure S1X (X : Cx) (st : Stmt) (Δ : List Sl) (S : PotS) (ae : AE) : Prop where
  run : ∀ B0 H0 σ B H Dn, Stt X.K B0 H0 σ B H Δ S → Rl X.K B0 H0 (S.map (·.1)) Dn ae → W1 X st Dn σ H
section
variable {X : Cx} {Δ Δ' : List Sl} {S S1 S2 : PotS} {pos p1 p2 : Pos} {a b c e tg iter elt : Expr} {ifs : List Expr} {scope : Scope} {own : List (Str × Nat)} {rest body orelse : List Stmt} {ae : AE} {st : Stmt}
theorem Gr.mv {B H B2 H2 : Hp} (e : PotEq S S1) (g : Gr S B H B2 H2) : Gr S1 B H B2 H2 := ⟨g.ex, fun a o hm h => g.old a o (fun k => hm (e.symm.m k)) h, g.new, g.sub⟩
theorem Stt.entry {K : PySem.W.Frag} {B0 H0 B H B2 H2 : Hp} {σ : L2.St} (z : Stt K B0 H0 σ B H Δ S) (e : PotEq S S1) (g : Gr S B H B2 H2) : Gr S1 B0 H0 B2 H2 := (gr_go z.pot (PotEq.refl S) z.gr g).mv e
theorem Rl.mv {K : PySem.W.Frag} {B0 H0 : Hp} {Dn : Ends} (e : PotEq S S1) (r : Rl K B0 H0 (S.map (·.1)) Dn ae) : Rl K B0 H0 (S1.map (·.1)) Dn ae := by
  have e2 : S.map (·.1) = S1.map (·.1) := e
  rw [← e2]
  exact r
theorem sx_nil (h : ae.nx Δ S) : SX X [] Δ S ae := .mk fun B0 H0 σ B H Dn z r => WS.of pss_nil (r.nx σ B H Δ S z rfl h)
theorem sx_cons (h : S1X X st Δ S { ae with nx := fun Δ' S' => SX X rest Δ' S' ae }) : SX X (st :: rest) Δ S ae := .mk fun B0 H0 σ B H Dn z r =>
  WS.of (pss_cons W1.ps WS.ps) (h.run B0 H0 σ B H { Dn with nx := fun σ' H' => WS X rest Dn σ' H' } z ⟨fun σ' B' H' Δ' S' z' e q => q.run B0 H0 σ' B' H' Dn z' (by rw [e]; exact r), r.rt, r.bk, r.ct, r.rn⟩)
theorem sx_one (h : S1X X st Δ S ae) : SX X [st] Δ S ae := .mk fun B0 H0 σ B H Dn z r => WS.of (pss_one W1.ps) (h.run B0 H0 σ B H Dn z r)
theorem SX.mono {ae' : AE} (h : SX X body Δ S ae) (h1 : ∀ Δ S, ae.nx Δ S → ae'.nx Δ S) (h2 : ∀ d S, ae.rt d S → ae'.rt d S) (h3 : ∀ Δ S, ae.bk Δ S → ae'.bk Δ S) (h4 : ∀ Δ S, ae.ct Δ S → ae'.ct Δ S) (h5 : ∀ ds S, ae.rn ds S → ae'.rn ds S) : SX X body Δ S ae' :=
  .mk fun B0 H0 σ B H Dn z r => h.run B0 H0 σ B H Dn z ⟨fun σ B H Δ S z e q => r.nx σ B H Δ S z e (h1 Δ S q), fun v B H d S g po e i q => r.rt v B H d S g po e i (h2 d S q), fun σ B H Δ S z e q => r.bk σ B H Δ S z e (h3 Δ S q), fun σ B H Δ S z e q => r.ct σ B H Δ S z e (h4 Δ S q), fun v B H ds S g po e i q => r.rn v B H ds S g po e i (h5 ds S q)⟩
theorem s1_pass (h : ae.nx Δ S) : S1X X (.Pass pos) Δ S ae := .mk fun B0 H0 σ B H Dn z r => W1.of ps_pass (r.nx σ B H Δ S z rfl h)
theorem s1_break (h : ae.bk Δ S) : S1X X (.Break pos) Δ S ae := .mk fun B0 H0 σ B H Dn z r => W1.of ps_break (r.bk σ B H Δ S z rfl h)
/-- return e -/
theorem s1_ret {d : D} (h : DE X e Δ S d S1) (q : ae.rt d S1) : S1X X (.Return (some e) pos) Δ S ae := .mk fun B0 H0 σ B H Dn z r => W1.of (ps_ret W.pe) (z.run h fun v B1 H1 z1 g1 p1 =>
  r.rt v B1 H1 d S1 (z.entry h.1 g1) z1.pot h.1.symm p1 q)
/-- return a new list -/
theorem s1_retN {ds : List D} (h : DN X e Δ S ds S1) (q : ae.rn ds S1) : S1X X (.Return (some e) pos) Δ S ae := .mk fun B0 H0 σ B H Dn z r => W1.of (ps_ret W.pe) (z.run h fun v B1 H1 z1 g1 p1 => by
  obtain ⟨n, vs, rfl, hn, hb, h2, ha⟩ := p1
  have h0 : H0 n = none := by
    cases w : H0 n with
    | none => rfl
    | some o =>
      have k := z.gr.old n o (fun k => by
        obtain ⟨ns, k⟩ := k
        rw [(z.pot n ns k).2] at hn
        cases hn) w
      rw [hn] at k
      cases k
  exact r.rn _ B1 H1 ds S1 (z.entry h.1 g1) z1.pot h.1.symm ⟨n, vs, rfl, h0, hb, h2, ha⟩ q)
/-- if -/
theorem s1_if {k : Bool} (hc : DB X c Δ S k S1) (h1 : k = true → SX X body Δ S1 ae) (h2 : k = false → SX X orelse Δ S1 ae) : S1X X (.If c body orelse pos) Δ S ae := .mk fun B0 H0 σ B H Dn z r =>
  W1.of (ps_if WT.pt WS.ps WS.ps) (z.runT hc.dt fun B1 H1 z1 g1 => by
    cases k with
    | true =>
      rw [if_pos rfl]
      exact (h1 rfl).run B0 H0 σ B1 H1 Dn z1 (r.mv hc.dt.1)
    | false =>
      rw [if_neg Bool.false_ne_true]
      exact (h2 rfl).run B0 H0 σ B1 H1 Dn z1 (r.mv hc.dt.1))
/-- x = e, data -/
theorem s1_set {N : List Str} {x : Str} {i : Nat} {s : Sl} {d : D} (hN : X.N = N) (hnd : X.N.Nodup) (hi : At N Δ x i s) (h : DE X e Δ S d S1) (q : ae.nx (Δ.set i (.dat d)) S1) (hx : Loc X.env.scope x := by first | exact .inl rfl | exact .inr rfl)
    (hs : swapsWith e (some (.Name x p1)) pos.line X.env = pure false := by rfl) (hf : X.fn x = true ∨ X.env.scope.names.lookup x = some .local := by first | exact .inl rfl | exact .inr rfl) : S1X X (.Assign [.Name x p1] e pos) Δ S ae := .mk fun B0 H0 σ B H Dn z r =>
  W1.of (ps_set hnd (by rw [hN]; exact hi.name) hx W.pe hs hf) (z.run h fun v B1 H1 z1 g1 p1 => r.nx _ B1 H1 _ S1 (z1.put p1) h.1.symm q)
/-- x = a new list of one's own -/
theorem s1_setN {N : List Str} {x : Str} {i : Nat} {s : Sl} {ds : List D} (hN : X.N = N) (hnd : X.N.Nodup) (hi : At N Δ x i s) (h : DN X e Δ S ds S1) (q : ae.nx (Δ.set i (.own ds)) S1) (hx : Loc X.env.scope x := by first | exact .inl rfl | exact .inr rfl)
    (hs : swapsWith e (some (.Name x p1)) pos.line X.env = pure false := by rfl) (hf : X.fn x = true ∨ X.env.scope.names.lookup x = some .local := by first | exact .inl rfl | exact .inr rfl) : S1X X (.Assign [.Name x p1] e pos) Δ S ae := .mk fun B0 H0 σ B H Dn z r =>
  W1.of (ps_set hnd (by rw [hN]; exact hi.name) hx W.pe hs hf) (z.run h fun v B1 H1 z1 g1 p1 => r.nx _ B1 H1 _ S1 (z.new z1 h.1 p1 g1.old g1.ex) h.1.symm q)
/-- x = [.. for ..], x a plain local -/
theorem s1_setLc {N : List Str} {x : Str} {i : Nat} {s : Sl} {ds : List D} (hN : X.N = N) (hnd : X.N.Nodup) (hi : At N Δ x i s) (h : LC X tg iter elt ifs scope (own.map (·.2)) Δ S ds S1) (q : ae.nx (Δ.set i (.own ds)) S1) (hc : X.calm = true)
    (hx : X.env.scope.names.lookup x = some .local) (hsw : swapsWith (.ListComp elt [⟨tg, iter, ifs, 0⟩] scope p2) (some (.Name x p1)) pos.line X.env = pure true) (ok : BlkOk X.N X.env.scope scope own)
    (hs : ∀ x, foldedSetIterable iter X.env x = pure x := by intro _; rfl) : S1X X (.Assign [.Name x p1] (.ListComp elt [⟨tg, iter, ifs, 0⟩] scope p2) pos) Δ S ae := .mk fun B0 H0 σ B H Dn z r =>
  W1.of (ps_setLc hc hnd (by rw [hN]; exact hi.name) hx hsw WI.pi ok (fun _ _ _ _ _ => pgb) (fun _ _ _ _ _ => ppb) (fun _ _ _ _ _ => peb) hs) (h.2 B0 H0 σ B H z _ fun v B1 H1 g1 po1 p1 =>
    r.nx _ B1 H1 _ S1 (z.new (z.grow h.1 g1 po1) h.1 p1 g1.old g1.ex) h.1.symm q)
theorem s1_setLcD {N : List Str} {x : Str} {i : Nat} {s : Sl} {ds : List D} (hN : X.N = N) (hnd : X.N.Nodup) (hi : At N Δ x i s) (h : LC X tg iter elt ifs scope (own.map (·.2)) Δ S ds S1) (q : ae.nx (Δ.set i (.dat (.lst ds))) S1) (hc : X.calm = true)
    (hx : X.env.scope.names.lookup x = some .local) (hsw : swapsWith (.ListComp elt [⟨tg, iter, ifs, 0⟩] scope p2) (some (.Name x p1)) pos.line X.env = pure true) (ok : BlkOk X.N X.env.scope scope own)
    (hs : ∀ x, foldedSetIterable iter X.env x = pure x := by intro _; rfl) : S1X X (.Assign [.Name x p1] (.ListComp elt [⟨tg, iter, ifs, 0⟩] scope p2) pos) Δ S ae := .mk fun B0 H0 σ B H Dn z r => by
  refine W1.of (ps_setLc hc hnd (by rw [hN]; exact hi.name) hx hsw WI.pi ok (fun _ _ _ _ _ => pgb) (fun _ _ _ _ _ => ppb) (fun _ _ _ _ _ => peb) hs) (h.2 B0 H0 σ B H z _ fun v B1 H1 g1 po1 p1 => ?_)
  obtain ⟨n, vs, rfl, hn, hb, h2, ha⟩ := p1
  have z1 := z.grow h.1 g1 po1
  have ex1 : Ex B1 (upd B1 n (.lst vs)) := Evl.Ex.new hb
  have g2 : Gr S B H (upd B1 n (.lst vs)) H1 := by
    refine ⟨g1.ex.trans ex1, g1.old, fun y o h1 h3 => ?_, fun y o hy => ?_⟩
    · by_cases k : y = n
      · rw [k]
        exact hn
      · rw [upd_ne k] at h1
        exact g1.new y o h1 h3
    · by_cases k : y = n
      · rw [k, upd_same] at hy
        rw [k, h2]
        exact hy
      · rw [upd_ne k] at hy
        exact g1.sub y o hy
  have po2 : PotOk S1 (upd B1 n (.lst vs)) H1 := fun p ns e => by
    have k : p ≠ n := fun k => by
      obtain ⟨ms, hm⟩ := h.1.m ⟨ns, e⟩
      have k3 := (z.pot p ms hm).2
      rw [k, hn] at k3
      cases k3
    exact ⟨by rw [upd_ne k]; exact (po1 p ns e).1, (po1 p ns e).2⟩
  exact r.nx _ _ H1 _ S1 ((z.grow h.1 g2 po2).put (.lst (Evl.sq_of upd_same) (ha.mono ex1))) h.1.symm q
/-- a list of one's own changed -/
theorem Stt.mut {K : PySem.W.Frag} {B0 H0 B H : Hp} {σ : L2.St} {i : Nat} {ds es : List D} {p : Addr} {us : List V} (z : Stt K B0 H0 σ B H Δ S) (hi : Δ[i]? = some (Sl.own ds)) (h1 : σ[i]? = some (some (V.ref p))) (ha : All K B us es) :
    Stt K B0 H0 σ B (upd H p (.lst us)) (Δ.set i (.own es)) S := by
  obtain ⟨p', vs, k1, k2, k3, k4, k5, k6⟩ := z.own i ds hi
  have e : p' = p := V.ref.inj (Option.some.inj (Option.some.inj (k1.symm.trans h1)))
  subst e
  exact z.mutR hi h1 (.own k5 k6) (.own upd_same ha) (fun q hq => .inl hq) fun a o ho hna => by
    rw [upd_ne (fun k => hna (by rw [k]; exact List.mem_cons_self))]
    exact ho
/-- xs.append(e) -/
theorem s1_app {N : List Str} {x : Str} {i : Nat} {ds : List D} {d : D} (hN : X.N = N) (hi : At N Δ x i (.own ds)) (h : DE X e Δ S d S1) (hl : ds.length ≤ 99999) (q : ae.nx (Δ.set i (.own (ds ++ [d]))) S1) {p3 p4 p5 : Pos}
    (hpe : PE X (.Call (.Attribute (.Name x p3) "append" p4) [e] [] p5) (tBM X.K "list" rAppend (tVar i) (tCons (W X e) tNil)) := by exact pe_bm PySem.F.plainAttrs_list PySem.F.slot_list_append PySem.F.type_list_append mt_append (pv _) (pa_cons W.pe pa_nil))
    (hs : swapsWith (.Call (.Attribute (.Name x p3) "append" p4) [e] [] p5) none pos.line X.env = pure false := by rfl) : S1X X (.Expr (.Call (.Attribute (.Name x p3) "append" p4) [e] [] p5) pos) Δ S ae := .mk fun B0 H0 σ B H Dn z r => by
  refine W1.of (ps_expr hpe hs) ?_
  obtain ⟨p, vs, h1, h2, h3, h4, h5, h6⟩ := z.own i ds hi.slot
  refine ⟨.ref p, h1, .inl ⟨rfl, vs, Evl.sq_of h5⟩, z.run h fun v B1 H1 z1 g1 p1 => ?_⟩
  exact ⟨p, vs, v, rfl, rfl, g1.old p _ h4 h5, Evl.sz_lt (by rw [h6.length]; omega), r.nx σ B1 _ _ S1 (z1.mut hi.slot h1 ((h6.mono g1.ex).append (.cons p1 .nil))) h.1.symm q⟩
/-- xs.extend(a new list) -/
theorem s1_ext {N : List Str} {x : Str} {i : Nat} {ds es : List D} (hN : X.N = N) (hi : At N Δ x i (.own ds)) (h : DN X e Δ S es S1) (hl : ds.length + es.length ≤ 100000) (q : ae.nx (Δ.set i (.own (ds ++ es))) S1) {p3 p4 p5 : Pos}
    (hpe : PE X (.Call (.Attribute (.Name x p3) "extend" p4) [e] [] p5) (tBM X.K "list" rExtend (tVar i) (tCons (W X e) tNil)) := by exact pe_bm PySem.F.plainAttrs_list PySem.F.slot_list_extend PySem.F.type_list_extend mt_extend (pv _) (pa_cons W.pe pa_nil))
    (hs : swapsWith (.Call (.Attribute (.Name x p3) "extend" p4) [e] [] p5) none pos.line X.env = pure false := by rfl) : S1X X (.Expr (.Call (.Attribute (.Name x p3) "extend" p4) [e] [] p5) pos) Δ S ae := .mk fun B0 H0 σ B H Dn z r => by
  refine W1.of (ps_expr hpe hs) ?_
  obtain ⟨p, vs, h1, h2, h3, h4, h5, h6⟩ := z.own i ds hi.slot
  refine ⟨.ref p, h1, .inl ⟨rfl, vs, Evl.sq_of h5⟩, z.run h fun v B1 H1 z1 g1 p1 => ?_⟩
  obtain ⟨n, us, rfl, hn, hb, hH, ha⟩ := p1
  exact ⟨p, n, vs, us, rfl, rfl, g1.old p _ h4 h5, hH, by rw [h6.length, ha.length]; exact Evl.sz_of hl, r.nx σ B1 _ _ S1 (z1.mut hi.slot h1 ((h6.mono g1.ex).append ha)) h.1.symm q⟩
/-- xs[j] = e -/
theorem s1_setIx {N : List Str} {x : Str} {i j : Nat} {ds : List D} {d : D} (hN : X.N = N) (hi : At N Δ x i (.own ds)) (h : DE X e Δ S d S1) (hb : DE X b Δ S1 (.int (j : Int)) S2) (hj : j < ds.length) (q : ae.nx (Δ.set i (.own (ds.set j d))) S2) {p3 p4 : Pos}
    (hv : Vis X.env.scope x := by first | exact Or.inl rfl | exact Or.inr (Or.inl rfl) | exact Or.inr (Or.inr rfl)) (hd : (x == ("__debug__" : Str)) = false := by decide) (hcd : (x == ("__classdict__" : Str)) = false := by decide)
    (ha : ∀ v, assign (.Subscript (.Name x p3) b p4) X.env v = (do
      let ov ← holding [v] (eval (.Name x p3) X.env)
      let iv ← holding [v, ov] (eval b X.env)
      standAt p4
      holding [v, ov, iv] (setItem ov iv v)
      release [v, ov, iv] []) := by intro _; rfl)
    (hs : swapsWithSole [.Subscript (.Name x p3) b p4] e pos.line X.env = pure false := by rfl) (hw : swappedStores [.Subscript (.Name x p3) b p4] e X.env = pure none := by rfl)
    (hq : (assignEach [.Subscript (.Name x p3) b p4] X.env).map (·.2) = [assign (.Subscript (.Name x p3) b p4) X.env] := by rfl) : S1X X (.Assign [.Subscript (.Name x p3) b p4] e pos) Δ S ae := .mk fun B0 H0 σ B H Dn z r => by
  refine W1.of (ps_asg W.pe (pg_sub (pe_var (by rw [hN]; exact hi.name) hv hd hcd) W.pe set_list ha) hs hw hq) (z.run h fun v B1 H1 z1 g1 p1 => ?_)
  obtain ⟨p, vs, h1, h2, h3, h4, h5, h6⟩ := z1.own i ds hi.slot
  refine ⟨.ref p, h1, z1.run hb fun u B2 H2 z2 g2 p2 => ?_⟩
  cases p2
  exact ⟨p, vs, (j : Int), j, rfl, rfl, g2.old p _ h4 h5, Evl.ixN_nat (by rw [h6.length]; exact hj), r.nx σ B2 _ _ S2 (z2.mut hi.slot h1 ((h6.mono g2.ex).set (Is.mono g2.ex p1) j)) (h.1.trans hb.1).symm q⟩

/-! ### loops -/
theorem Gr.low {B0 H0 B1 H1 B H : Hp} (g1 : Gr S B0 H0 B1 H1) (g : Gr S1 B1 H0 B H) : Gr S1 B0 H0 B H := by
  refine ⟨g1.ex.trans g.ex, g.old, fun a o h1 h2 => ?_, g.sub⟩
  cases r : B1 a with
  | some u => exact g1.new a u r h2
  | none => exact g.new a o h1 r
theorem Stt.low {K : PySem.W.Frag} {B0 H0 B1 H1 B H : Hp} {σ : L2.St} (g1 : Gr S B0 H0 B1 H1) (z : Stt K B1 H0 σ B H Δ S1) : Stt K B0 H0 σ B H Δ S1 := ⟨g1.low z.gr, z.len, z.dat, z.hold, z.sep, z.pot⟩
theorem Stt.up {K : PySem.W.Frag} {B0 H0 B H : Hp} {σ : L2.St} (z : Stt K B0 H0 σ B H Δ S) : Stt K B H0 σ B H Δ S := ⟨⟨Evl.Ex.refl B, z.gr.old, fun a o h1 h2 => (nomatch h1.symm.trans h2), z.gr.sub⟩, z.len, z.dat, z.hold, z.sep, z.pot⟩
theorem s1_for {src : Src} {t : Tg} {Iv : Nat → List Sl → PotS → Prop} (hsrc : DS X tg iter Δ S src S1) (hg : TgOk X tg t src) (h0 : Iv 0 Δ S1)
    (hs : ∀ i Δ' S', i < src.len → Iv i Δ' S' → PotEq S S' → SX X body (bind t src i Δ') S' { nx := Iv (i + 1), rt := ae.rt, bk := ae.nx, ct := Iv (i + 1), rn := ae.rn }) (hd : ∀ Δ' S', Iv src.len Δ' S' → PotEq S S' → ae.nx Δ' S')
    (hps : PS X (.For tg iter body [] pos) (tFor (WI X tg iter) (WG X tg) (WS X body))) : S1X X (.For tg iter body [] pos) Δ S ae := .mk fun B0 H0 σ B H Dn z r => by
  refine W1.of hps (hsrc.2 B0 H0 σ B H z _ fun J B1 H1 g1 po1 hJ => ?_)
  obtain ⟨G, w, hG⟩ := hJ
  have z1 := z.grow hsrc.1 g1 po1
  have low : ∀ {σ B' H' Δ' S'}, Stt X.K B1 H0 σ B' H' Δ' S' → Stt X.K B0 H0 σ B' H' Δ' S' := fun z' => Stt.low z1.gr z'
  refine for_it w (fun i σ' H' => ∃ B' Δ' S', Stt X.K B1 H0 σ' B' H' Δ' S' ∧ PotEq S S' ∧ Iv i Δ' S') ⟨B1, Δ, S1, z1.up, hsrc.1, h0⟩ ?_ ?_ ?_
  · rintro i σ' H' hi ⟨B', Δ', S', z', e, iv⟩
    exact hG H' (z'.gr.ex.trans z'.sub)
  · rintro i x σ' H2 H3 hi ⟨B', Δ', S', z', e, iv⟩ y
    refine hg.st B1 H0 σ' B' H2 H3 Δ' S' i x B1 z' hi z'.gr.ex y _ fun σ2 B4 H4 g4 z4 _ => ?_
    refine (hs i Δ' S' hi iv e).run B1 H0 σ2 B4 H4 _ z4 ⟨fun σ5 B5 H5 Δ5 S5 z5 e5 q => ⟨B5, Δ5, S5, z5, e.trans e5.symm, q⟩, fun v B5 H5 d S5 g5 po5 e5 iv5 q => ?_, fun σ5 B5 H5 Δ5 S5 z5 e5 q => ?_, fun σ5 B5 H5 Δ5 S5 z5 e5 q => ⟨B5, Δ5, S5, z5, e.trans e5.symm, q⟩, fun v B5 H5 ds S5 g5 po5 e5 iv5 q => r.rn v B5 H5 ds S5 (z1.gr.low g5) po5 (e.trans e5.symm).symm iv5 q⟩
    · exact r.rt v B5 H5 d S5 (z1.gr.low g5) po5 (e.trans e5.symm).symm iv5 q
    · exact r.nx σ5 B5 H5 Δ5 S5 (low z5) (e.trans e5.symm).symm q
  · rintro σ' H' ⟨B', Δ', S', z', e, iv⟩
    exact r.nx σ' B' H' Δ' S' (low z') e.symm (hd Δ' S' iv e)
/-- the same, some slots forgotten -/
inductive Wk : List Sl → List Sl → Prop
  | nil : Wk [] []
  | same {s : Sl} {Δ Δ' : List Sl} : Wk Δ Δ' → Wk (s :: Δ) (s :: Δ')
  | no {s : Sl} {Δ Δ' : List Sl} : Wk Δ Δ' → Wk (s :: Δ) (.no :: Δ')
  | eq {s t : Sl} {Δ Δ' : List Sl} : s = t → Wk Δ Δ' → Wk (s :: Δ) (t :: Δ')
theorem Wk.len {Δ Δ' : List Sl} (h : Wk Δ Δ') : Δ.length = Δ'.length := by
  induction h with
  | nil => rfl
  | same _ ih => exact congrArg Nat.succ ih
  | no _ ih => exact congrArg Nat.succ ih
  | eq _ _ ih => exact congrArg Nat.succ ih
theorem Wk.get {Δ Δ' : List Sl} (h : Wk Δ Δ') : ∀ (i : Nat) (s : Sl), Δ'[i]? = some s → s ≠ .no → Δ[i]? = some s := by
  induction h with
  | nil => intro i s h _; simp at h
  | same _ ih =>
    intro i s h hn
    cases i with
    | zero => simpa using h
    | succ i => simpa using ih i s (by simpa using h) hn
  | no _ ih =>
    intro i s h hn
    cases i with
    | zero =>
      simp at h
      exact absurd h.symm hn
    | succ i => simpa using ih i s (by simpa using h) hn
  | eq e _ ih =>
    subst e
    intro i s h hn
    cases i with
    | zero => simpa using h
    | succ i => simpa using ih i s (by simpa using h) hn
theorem Stt.wk {K : PySem.W.Frag} {B0 H0 B H : Hp} {σ : L2.St} (z : Stt K B0 H0 σ B H Δ S) (w : Wk Δ Δ') : Stt K B0 H0 σ B H Δ' S :=
  z.re (z.len.trans w.len) id (fun i d h => z.dat i d (w.get i _ h (fun k => nomatch k))) (fun i s h hs => ⟨w.get i _ h (fun k => by rw [k] at hs; cases hs), rfl⟩) (fun i j s t _ _ _ _ h => h)
theorem sx_wk (w : Wk Δ Δ') (h : SX X body Δ' S ae) : SX X body Δ S ae := .mk fun B0 H0 σ B H Dn z r => h.run B0 H0 σ B H Dn (z.wk w) r
theorem Wk.set {Δ Δ' : List Sl} (h : Wk Δ Δ') (j : Nat) (s : Sl) : Wk (Δ.set j s) (Δ'.set j s) := by
  induction h generalizing j with
  | nil => exact .nil
  | same h ih => cases j with
    | zero => exact .same h
    | succ j => exact .same (ih j)
  | no h ih => cases j with
    | zero => exact .same h
    | succ j => exact .no (ih j)
  | eq e h ih => cases j with
    | zero => exact .same h
    | succ j => exact .eq e (ih j)
theorem Wk.bind {Δ Δ' : List Sl} (h : Wk Δ Δ') (t : Tg) (src : Src) (i : Nat) : Wk (Ab.bind t src i Δ) (Ab.bind t src i Δ') := by
  cases t with
  | one j => cases src with
    | one ds => exact h.set j _
    | two ps => exact h
  | two j k => cases src with
    | one ds => exact h
    | two ps =>
      show Wk (match ps[i]? with
        | some p => (Δ.set j (.dat p.1)).set k (.dat p.2)
        | none => Δ) (match ps[i]? with
        | some p => (Δ'.set j (.dat p.1)).set k (.dat p.2)
        | none => Δ')
      cases ps[i]? with
      | none => exact h
      | some p => exact (h.set j _).set k _
/-- for over a typed list, then the rest: the state behind i turns is F i -/
theorem sx_forT {α : Type} {src : Src} {t : Tg} {xs : List α} {bd : α → List Sl → List Sl} (F : Nat → List Sl) (P : Nat → PotS) (hsrc : DS X tg iter Δ S src (P 0)) (hT : Tm src t xs bd) (hg : TgOk X tg t src) (h0 : Wk Δ (F 0))
    (hs : ∀ i x, xs[i]? = some x → PotEq S (P i) → SX X body (bd x (F i)) (P i) { nx := fun Δ' S' => Wk Δ' (F (i + 1)) ∧ S' = P (i + 1), rt := ae.rt, bk := fun Δ' S' => SX X rest Δ' S' ae, ct := fun Δ' S' => Wk Δ' (F (i + 1)) ∧ S' = P (i + 1), rn := ae.rn })
    (hd : PotEq S (P xs.length) → SX X rest (F xs.length) (P xs.length) ae)
    (hps : PS X (.For tg iter body [] pos) (tFor (WI X tg iter) (WG X tg) (WS X body))) : SX X (.For tg iter body [] pos :: rest) Δ S ae :=
  sx_cons (s1_for (Iv := fun i Δ' S' => Wk Δ' (F i) ∧ S' = P i) hsrc hg ⟨h0, rfl⟩ (fun i Δ' S' hi ⟨e1, e2⟩ eq => by
    rw [hT.len] at hi
    have e : xs[i]? = some xs[i] := List.getElem?_eq_getElem hi
    have w := e1.bind t src i
    rw [hT.at_ i _ _ e, hT.at_ i _ _ e] at w
    rw [hT.at_ i _ _ e, e2]
    exact sx_wk w (hs i _ e (by rw [← e2]; exact eq))) (fun Δ' S' ⟨e1, e2⟩ eq => by
    rw [hT.len] at e1 e2
    show SX X rest Δ' S' ae
    rw [e2]
    exact sx_wk e1 (hd (by rw [← e2]; exact eq))) hps)
/-- while: W by a measure; k the test's answer -/
theorem s1_while {Wv : Nat → List Sl → PotS → Prop} (m0 : Nat) (h0 : Wv m0 Δ S)
    (hs : ∀ m Δ' S', Wv m Δ' S' → PotEq S S' → ∃ k S2, DB X c Δ' S' k S2 ∧ (k = true → SX X body Δ' S2 { nx := fun Δ3 S3 => ∃ m', m' < m ∧ Wv m' Δ3 S3, rt := ae.rt, bk := ae.nx, ct := fun Δ3 S3 => ∃ m', m' < m ∧ Wv m' Δ3 S3, rn := ae.rn }) ∧ (k = false → ae.nx Δ' S2))
    (hps : PS X (.While c body [] pos) (tWhile (WT X c) (WS X body))) : S1X X (.While c body [] pos) Δ S ae := .mk fun B0 H0 σ B H Dn z r => by
  refine W1.of hps ⟨fun m σ' H' => ∃ B' Δ' S', Stt X.K B0 H0 σ' B' H' Δ' S' ∧ PotEq S S' ∧ Wv m Δ' S', ⟨m0, B, Δ, S, z, PotEq.refl S, h0⟩, ?_⟩
  rintro m σ' H' ⟨B', Δ', S', z', e, wv⟩
  obtain ⟨k, S2, hk, ht, hf⟩ := hs m Δ' S' wv e
  refine z'.runT hk.dt fun B2 H2 z2 g2 => ?_
  have e2 := e.trans hk.dt.1
  cases k with
  | true =>
    rw [if_pos rfl]
    refine ⟨fun σ3 H3 => ∃ m', m' < m ∧ ∃ B' Δ' S', Stt X.K B0 H0 σ3 B' H3 Δ' S' ∧ PotEq S S' ∧ Wv m' Δ' S', fun σ3 H3 q => q, ?_⟩
    refine (ht rfl).run B0 H0 σ' B2 H2 _ z2 ⟨fun σ5 B5 H5 Δ5 S5 z5 e5 ⟨m', hm, q⟩ => ⟨m', hm, B5, Δ5, S5, z5, e2.trans e5.symm, q⟩, fun v B5 H5 d S5 g5 po5 e5 iv5 q => r.rt v B5 H5 d S5 g5 po5 (e2.trans e5.symm).symm iv5 q,
      fun σ5 B5 H5 Δ5 S5 z5 e5 q => r.nx σ5 B5 H5 Δ5 S5 z5 (e2.trans e5.symm).symm q, fun σ5 B5 H5 Δ5 S5 z5 e5 ⟨m', hm, q⟩ => ⟨m', hm, B5, Δ5, S5, z5, e2.trans e5.symm, q⟩, fun v B5 H5 ds S5 g5 po5 e5 iv5 q => r.rn v B5 H5 ds S5 g5 po5 (e2.trans e5.symm).symm iv5 q⟩
  | false =>
    rw [if_neg Bool.false_ne_true]
    exact r.nx σ' B2 H2 Δ' S2 z2 e2.symm (hf rfl)
end

/-! ### defs -/
abbrev Sig := List D → PotS → D → PotS → Prop
/-- a promise by data -/
def spOf (K : PySem.W.Frag) (R : Sig) : Sp := fun vs H Q _ => ∃ B ds S d S', Ex B H ∧ All K B vs ds ∧ PotOk S B H ∧ PotEq S S' ∧ R ds S d S' ∧ ∀ v B2 H2, Gr S B H B2 H2 → PotOk S' B2 H2 → Is K B2 v d → Q v H2
def endOf (d : D) (S : PotS) : AE := { nx := fun _ S' => d = .non ∧ S' = S, rt := fun d' S' => d' = d ∧ S' = S }
def startD (N : List Str) (ds : List D) : List Sl := ds.map Sl.dat ++ List.replicate (N.length - ds.length) .no
theorem startD_get {N : List Str} {ds : List D} {i : Nat} {d : D} (h : (startD N ds)[i]? = some (Sl.dat d)) : ds[i]? = some d := by
  unfold startD at h
  by_cases hi : i < ds.length
  · rw [List.getElem?_append_left (by simpa using hi), List.getElem?_map] at h
    cases e : ds[i]? with
    | none =>
      rw [e] at h
      cases h
    | some a =>
      rw [e] at h
      cases h
      rfl
  · rw [List.getElem?_append_right (by simpa using hi), List.getElem?_replicate] at h
    split at h <;> cases h
theorem startD_hold {N : List Str} {ds : List D} {i : Nat} {s : Sl} (h : (startD N ds)[i]? = some s) : s.hold = false := by
  unfold startD at h
  by_cases hi : i < ds.length
  · rw [List.getElem?_append_left (by simpa using hi), List.getElem?_map] at h
    cases e : ds[i]? with
    | none =>
      rw [e] at h
      cases h
    | some a =>
      rw [e] at h
      cases h
      rfl
  · rw [List.getElem?_append_right (by simpa using hi), List.getElem?_replicate] at h
    split at h
    · cases h
      rfl
    · cases h
theorem stt_start {K : PySem.W.Frag} {B H : Hp} {N : List Str} {vs : List V} {ds : List D} {S : PotS} (ex : Ex B H) (ha : All K B vs ds) (po : PotOk S B H) : Stt K B H (start N vs) B H (startD N ds) S := by
  have hl := ha.length
  refine ⟨Gr.refl ex, ?_, fun i d h => ?_, fun i s h hs => ?_, fun i j s t p q as bs _ h _ _ _ k => ?_, po⟩
  · unfold L2.start startD
    rw [List.length_append, List.length_append, List.length_map, List.length_map, List.length_replicate, List.length_replicate, hl]
  · have h1 := startD_get h
    obtain ⟨v, h2, h3⟩ := ha.get h1
    refine ⟨v, ?_, h3⟩
    unfold L2.start
    rw [List.getElem?_append_left (by rw [List.length_map]; exact (List.getElem?_eq_some_iff.mp h2).1), List.getElem?_map, h2]
    rfl
  · rw [startD_hold h] at hs
    cases hs
  · have k2 := k.holds
    rw [startD_hold h] at k2
    cases k2
theorem sp_len {K : PySem.W.Frag} {R : Sig} {n : Nat} (h : ∀ ds S d S', R ds S d S' → ds.length = n) (vs : List V) (H : Hp) (Q : VK) (E : XK) (q : spOf K R vs H Q E) : vs.length = n := by
  obtain ⟨B, ds, S, d, S', _, ha, _, _, hr, _⟩ := q
  rw [ha.length]
  exact h ds S d S' hr
/-- the end of a def's proof -/
theorem sx_fn {X : Cx} {body : List Stmt} {R : Sig} {vs : List V} {H : Hp} {Q : VK} {E : XK} (hsp : spOf X.K R vs H Q E) (h : ∀ ds S d S', PotEq S S' → R ds S d S' → SX X body (startD X.N ds) S (endOf d S')) :
    ∃ t, PSs X body t ∧ t { nx := fun _ H' => Q .non H', rt := Q } (start X.N vs) H := by
  obtain ⟨B, ds, S, d, S', ex, ha, po, eq, hr, q⟩ := hsp
  refine ⟨WS X body, WS.ps, (h ds S d S' eq hr).run B H (start X.N vs) B H _ (stt_start ex ha po) ⟨fun σ B2 H2 Δ S2 z e k => ?_, fun v B2 H2 d2 S2 g po2 e i k => ?_, fun _ _ _ _ _ _ _ k => k.elim, fun _ _ _ _ _ _ _ k => k.elim, fun _ _ _ _ _ _ _ _ _ k => k.elim⟩⟩
  · obtain ⟨rfl, rfl⟩ := k
    exact q .non B2 H2 (z.gr.mv eq.symm) z.pot .non
  · obtain ⟨rfl, rfl⟩ := k
    exact q v B2 H2 (g.mv eq.symm) po2 i

/-! ### calls -/
section
variable {X : Cx} {CX : CXT} {Δ : List Sl} {S S1 S2 : PotS} {k : Nat} {f C : Addr} {fd : FuncData} {ps : List Str} {R : Sig} {x : Str} {p pos apos : Pos} {e o : Expr} {es : List Expr} {ds : List D} {d : D} {dvs : List V} {dsV : List Value} {dd : List D}
/-- behind the arguments -/
theorem sp_go {B0 H0 : Hp} {σ : L2.St} {B H B1 H1 : Hp} {Q : VK} {E : XK} {vs : List V} (z1 : Stt X.K B0 H0 σ B1 H1 Δ S1) (e0 : PotEq S S1) (g1 : Gr S B H B1 H1) (ha : All X.K B1 vs ds) (eq : PotEq S1 S2) (hr : R ds S1 d S2)
    (q : ∀ v B2 H2, Gr S B H B2 H2 → PotOk S2 B2 H2 → Is X.K B2 v d → Q v H2) : spOf X.K R vs H1 Q E :=
  ⟨B1, ds, S1, d, S2, z1.sub, ha, z1.pot, eq, hr, fun v B2 H2 g2 po2 i => q v B2 H2 (gr_go z1.pot e0 g1 g2) po2 i⟩
/-- f(e, ..), all parameters written -/
theorem de_call (F : FnOk X.prog X.w X.K X.mg X.base CX0 k f fd ps (spOf X.K R)) (hr : Room k X.A) (hg : Gl X x) (hm : X.mg x = some (.ref f)) (hk : PySem.W.keepIn X.K (.ref f) = true) (hb : Binds X.K fd ps []) (ha : DA X (e :: es) Δ S ds S1) (eq : PotEq S1 S2) (hR : R ds S1 d S2)
    (hdb : (x == ("__debug__" : Str)) = false := by decide) (he : starEach (e :: es) X.env = (false, eval e X.env) :: starEach es X.env := by rfl) (hpl : (backTo pos (starEach es X.env)).any (·.1) = false := by rfl) : DE X (.Call (.Name x p) (e :: es) [] pos) Δ S d S2 :=
  DG.by (pe_call F hr hg hm hk hb .nil pass0 WA.pa hdb he hpl) (ha.1.trans eq) fun B0 H0 σ B H z Q q => z.runA ha fun vs B1 H1 z1 g1 p1 => by
    show spOf X.K R (vs ++ []) H1 Q _
    rw [List.append_nil]
    exact sp_go z1 ha.1 g1 p1 eq hR q
/-- C(e, ..): a new instance; the defaults dvs stand for dd -/
def spInit (K : PySem.W.Frag) (C : Addr) (R : List D → List (Str × D) → Prop) : Sp := fun vs H Q _ => ∃ (x dx : Addr) (us : List V) (B : Hp) (ds : List D) (fs : List (Str × D)), vs = .ref x :: us ∧ H x = some (.ins C dx []) ∧ B x = none ∧ Ex B H ∧ All K B us ds ∧ R ds fs ∧
  ∀ B2 H2 fv, Ex B B2 → Ex B2 H2 → B2 x = none → (∀ a u, a ≠ x → H a = some u → H2 a = some u) → (∀ a u, B2 a = some u → B a = none → H a = none) → H2 x = some (.ins C dx fv) → AllF K B2 fv fs → Q .non H2
theorem de_make {R : List D → List (Str × D) → Prop} {fs : List (Str × D)} (M : Mk X.K C f) (F : FnOk X.prog X.w X.K X.mg X.base CX0 k f fd ps (spInit X.K C R)) (hr : Room (k + 1) X.A) (hg : Gl X x) (hm : X.mg x = some (.ref C)) (hb : Binds X.K fd ps dsV) (hd : Vals dvs dsV) (hdd : ∀ B, All X.K B dvs dd) (ha : DA X (e :: es) Δ S ds S1) (hR : R (ds ++ dd) fs)
    (hdb : (x == ("__debug__" : Str)) = false := by decide) (he : starEach (e :: es) X.env = (false, eval e X.env) :: starEach es X.env := by rfl) (hpl : (backTo pos (starEach es X.env)).any (·.1) = false := by rfl) : DE X (.Call (.Name x p) (e :: es) [] pos) Δ S (.ins C fs) S1 :=
  DG.by (pe_make M F hr hg hm hb hd pass0 WA.pa hdb he hpl) ha.1 fun B0 H0 σ B H z Q q => z.runA ha fun vs B1 H1 z1 g1 p1 => by
    intro x dx hx hdx hne
    have hxB : B1 x = none := Evl.fresh_back z1.sub hx
    have hdB : B1 dx = none := Evl.fresh_back z1.sub hdx
    have ex0 : Ex H1 (upd (upd H1 dx (.own x)) x (.ins C dx [])) := fun a u h => by
      rw [upd_ne (ne_of_none h hx), upd_ne (ne_of_none h hdx)]
      exact h
    refine ⟨x, dx, vs ++ dvs, B1, ds ++ dd, fs, rfl, upd_same, hxB, z1.sub.trans ex0, p1.append (hdd B1), hR, fun B2 H2 fv e1 e2 hb2 hold hnew hH2 hf => ⟨rfl, ?_⟩⟩
    have exu : Ex B2 (upd B2 x (.ins C dx fv)) := Evl.Ex.new hb2
    have old2 : ∀ a u, H1 a = some u → H2 a = some u := fun a u h => hold a u (ne_of_none h hx) (ex0 a u h)
    refine q (.ref x) (upd B2 x (.ins C dx fv)) H2 ⟨(g1.ex.trans e1).trans exu, fun a u hm h => old2 a u (g1.old a u hm h), fun a u h1 h2 => ?_, fun a u h1 => ?_⟩ (fun p ns e => ?_) (.ins upd_same (hf.mono exu))
    · by_cases k : a = x
      · rw [k]
        exact g1.free (K := X.K) ha.1 z1.pot hx
      · rw [upd_ne k] at h1
        cases w : B1 a with
        | some u' => exact g1.new a u' w h2
        | none =>
          have k1 := hnew a u h1 w
          rw [upd_ne k] at k1
          by_cases k2 : a = dx
          · rw [k2]
            exact g1.free (K := X.K) ha.1 z1.pot hdx
          · rw [upd_ne k2] at k1
            exact g1.free (K := X.K) ha.1 z1.pot k1
    · by_cases k : a = x
      · rw [k, upd_same] at h1
        rw [k, hH2]
        exact h1
      · rw [upd_ne k] at h1
        exact e2 a u h1
    · obtain ⟨k1, k2⟩ := z1.pot p ns e
      have ne : p ≠ x := ne_of_none k2 hx
      refine ⟨?_, old2 p _ k2⟩
      rw [upd_ne ne]
      cases w : B2 p with
      | none => rfl
      | some u =>
        have k3 := hnew p u w k1
        rw [ex0 p _ k2] at k3
        cases k3
/-- o.f of an instance that stands still -/
theorem de_fld {fs : List (Str × D)} {fl : Str} (ho : DE X o Δ S (.ins C fs) S1) (hf : fs.lookup fl = some d) (c : Cls X.K C) (n : NoAttr X.K C fl) (hb : attributeBase o fl X.env (eval o X.env) = eval o X.env := by rfl) : DE X (.Attribute o fl pos) Δ S d S1 :=
  DG.by (pe_fld W.pe hb) ho.1 fun B0 H0 σ B H z Q q => z.run ho fun v B1 H1 z1 g1 p1 => by
    cases p1 with
    | ins h1 h2 =>
      obtain ⟨v, h3, h4⟩ := h2.lookup hf
      exact ⟨_, C, _, _, v, rfl, z1.sub _ _ h1, c, n, h3, q v B1 H1 g1 z1.pot h4⟩
end
end Ab

set_option Elab.async false
set_option linter.all false
set_option autoImplicit false
set_option maxRecDepth 100000
set_option maxHeartbeats 2000000
/-! Defs of a text as they are called; slots written out. -/
namespace Ab
open PySem PySem.Spec PyProof.Rows L2 RZ

theorem set_self {α : Type} {l : List α} {j : Nat} {a : α} (h : l[j]? = some a) : l.set j a = l := by
  refine List.ext_getElem? fun i => ?_
  by_cases e : j = i
  · subst e
    rw [List.getElem?_set_self (List.getElem?_eq_some_iff.mp h).1, h]
  · rw [List.getElem?_set_ne e]
/-- a slot stored, the list written out -/
inductive PutA : List Str → List Sl → Str → Nat → Sl → List Sl → Prop
  | here {N : List Str} {Δ : List Sl} {x : Str} {s t : Sl} : PutA (x :: N) (t :: Δ) x 0 s (s :: Δ)
  | there {N : List Str} {Δ Δ' : List Sl} {x y : Str} {s t : Sl} {i : Nat} : PutA N Δ x i s Δ' → PutA (y :: N) (t :: Δ) x (i + 1) s (t :: Δ')
inductive Put : List Str → List Sl → Str → Sl → List Sl → Prop
  | here {N : List Str} {Δ : List Sl} {x : Str} {s t : Sl} : Put (x :: N) (t :: Δ) x s (s :: Δ)
  | there {N : List Str} {Δ Δ' : List Sl} {x y : Str} {s t : Sl} : Put N Δ x s Δ' → Put (y :: N) (t :: Δ) x s (t :: Δ')
theorem Put.a {N : List Str} {Δ Δ' : List Sl} {x : Str} {s : Sl} (h : Put N Δ x s Δ') : ∃ i, PutA N Δ x i s Δ' := by
  induction h with
  | here => exact ⟨0, .here⟩
  | there _ ih =>
    obtain ⟨i, h⟩ := ih
    exact ⟨i + 1, .there h⟩
theorem PutA.at_ {N : List Str} {Δ Δ' : List Sl} {x : Str} {i : Nat} {s : Sl} (h : PutA N Δ x i s Δ') : ∃ t, At N Δ x i t := by
  induction h with
  | here => exact ⟨_, .here⟩
  | there _ ih =>
    obtain ⟨t, h⟩ := ih
    exact ⟨t, .there h⟩
theorem PutA.eq {N : List Str} {Δ Δ' : List Sl} {x : Str} {i : Nat} {s : Sl} (h : PutA N Δ x i s Δ') : Δ.set i s = Δ' := by
  induction h with
  | here => rfl
  | there _ ih =>
    show _ :: List.set _ _ _ = _
    rw [ih]

/-- a list of one's own is given up: data -/
theorem Stt.give {K : PySem.W.Frag} {B0 H0 B H : Hp} {σ : L2.St} {Δ : List Sl} {S : PotS} {j : Nat} {ds : List D} {p : Addr} {vs : List V} (z : Stt K B0 H0 σ B H Δ S) (hj : Δ[j]? = some (.own ds)) (hp : σ[j]? = some (some (V.ref p))) (hv : H p = some (.lst vs)) :
    Stt K B0 H0 σ (upd B p (.lst vs)) H (Δ.set j .no) S := by
  obtain ⟨p', vs', h1, h2, h3, h4, h5, h6⟩ := z.own j ds hj
  have e : p' = p := V.ref.inj (Option.some.inj (Option.some.inj (h1.symm.trans hp)))
  subst e
  have ex1 : Ex B (upd B p' (.lst vs)) := Evl.Ex.new h2
  have z0 := z.drop (j := j) (o := some (V.ref p'))
  rw [show (σ.set j (some (V.ref p'))) = σ from set_self h1] at z0
  have up : ∀ {i : Nat} {t : Sl} {q : Addr} {bs : List Addr}, (Δ.set j .no)[i]? = some t → σ[i]? = some (some (V.ref q)) → Reg K (upd B p' (.lst vs)) H t q bs → Reg K B H t q bs := fun {i t q bs} hi hq hr => by
    obtain ⟨q', cs, m1, m2, _⟩ := z0.hold i t hi hr.holds
    have e : q' = q := V.ref.inj (Option.some.inj (Option.some.inj (m1.symm.trans hq)))
    subst e
    rw [hr.det (m2.mono ex1 fun _ _ => rfl)]
    exact m2
  refine ⟨⟨z.gr.ex.trans ex1, z.gr.old, fun a o k1 k2 => ?_, fun a o k1 => ?_⟩, z0.len, fun m d k => ?_, fun m t k kt => ?_, fun i k s t q r as bs hik k1 k2 k3 k4 k5 k6 => z0.sep i k s t q r as bs hik k1 k2 k3 k4 (up k1 k3 k5) (up k2 k4 k6), fun a ns e => ?_⟩
  · by_cases e : a = p'
    · rw [e]
      exact h3
    · rw [upd_ne e] at k1
      exact z.gr.new a o k1 k2
  · by_cases e : a = p'
    · rw [e, upd_same] at k1
      rw [e, hv]
      exact k1
    · rw [upd_ne e] at k1
      exact z.sub a o k1
  · obtain ⟨v, m1, m2⟩ := z0.dat m d k
    exact ⟨v, m1, m2.mono ex1⟩
  · obtain ⟨q, as, m1, m2, m3⟩ := z0.hold m t k kt
    refine ⟨q, as, m1, m2.mono ex1 fun _ _ => rfl, fun a ha => ⟨?_, (m3 a ha).2⟩⟩
    rcases sl_set k with ⟨rfl, e2⟩ | ⟨hne, k2⟩
    · rw [e2] at kt
      cases kt
    · have ne : a ≠ p' := fun e => by
        subst e
        exact z.sep j m (.own ds) t a q [a] as (fun e => hne e.symm) hj k2 h1 m1 (.own h5 h6) m2 a List.mem_cons_self ha
      rw [upd_ne ne]
      exact (m3 a ha).1
  · obtain ⟨m1, m2⟩ := z.pot a ns e
    exact ⟨by rw [upd_ne (fun k => h4 (by rw [← k]; exact ⟨ns, e⟩))]; exact m1, m2⟩
/-- a def of the module, as its callers see it -/
structure Ok (P : Program) (w : World) (K : PySem.W.Frag) (mg : Str → Option Value) (base : Heap) (x : Str) (k : Nat) (R : Sig) : Prop where
  ex : ∃ f fd ps, mg x = some (.ref f) ∧ PySem.W.keepIn K (.ref f) = true ∧ Binds K fd ps [] ∧ FnOk P w K mg base CX0 k f fd ps (spOf K R)
section
variable {X : Cx} {Δ Δ' : List Sl} {S S1 S2 : PotS} {k : Nat} {R : Sig} {x : Str} {p pos p1 p2 : Pos} {e tg iter elt : Expr} {es : List Expr} {ds : List D} {d : D} {ae : AE} {ifs : List Expr} {scope : Scope} {own : List (Str × Nat)}
theorem de_ok {j : Nat} (F : Ok X.prog X.w X.K X.mg X.base x k R) (hr : Room j X.A) (hk : k ≤ j) (hg : Gl X x) (ha : DA X (e :: es) Δ S ds S1) (eq : PotEq S1 S2) (hR : R ds S1 d S2)
    (hdb : (x == ("__debug__" : Str)) = false := by decide) (he : starEach (e :: es) X.env = (false, eval e X.env) :: starEach es X.env := by rfl) (hpl : (backTo pos (starEach es X.env)).any (·.1) = false := by rfl) : DE X (.Call (.Name x p) (e :: es) [] pos) Δ S d S2 := by
  obtain ⟨f, fd, ps, h1, h2, h3, h4⟩ := F.ex
  exact de_call h4 (hr.mono hk) hg h1 h2 h3 ha eq hR hdb he hpl
theorem ok_of {P : Program} {w : World} {K : PySem.W.Frag} {mg : Str → Option Value} {base : Heap} {params : Arguments} {body : List Stmt} {sc : Scope} {N ps : List Str} {f : Addr}
    (g : mg x = some (.ref f)) (F : ∃ fd, FunD K x x params body sc [] [] f fd) (S : FnScope N ps sc)
    (hb : ∀ (kV doc pm : Value) (an : Option Addr) (cdv ct : Value) (us : List Value), us.length = ps.length → bindArgs (PySem.W.fnOf x x params body sc .none kV doc pm an cdv ct) ⟨us, []⟩ = pure (ps.zip us))
    (hl : ∀ ds S d S', R ds S d S' → ds.length = ps.length)
    (h : ∀ (f : Addr) (cdv : Value) (A : Around) (outer : List Env) (s : Shared) (H : Hp) (E : XK), Room k (cxOf CX0 P w K mg base N x sc f cdv A outer s H E).nox.A → ∀ ds S d S', PotEq S S' → R ds S d S' →
      SX (cxOf CX0 P w K mg base N x sc f cdv A outer s H E).nox body (startD N ds) S (endOf d S')) : Ok P w K mg base x (k + 1) R := by
  obtain ⟨fd, F⟩ := F
  refine ⟨f, fd, ps, g, F.kp, F.bindsN hb, F.ok S (sp_len hl) fun cdv A outer s H vs Q E hr hsp => ?_⟩
  obtain ⟨t, ht, q⟩ := sx_fn (X := (cxOf CX0 P w K mg base N x sc f cdv A outer s H E).nox) (E := E) hsp fun ds S d S' eq hR => h f cdv A outer s H E hr ds S d S' eq hR
  exact ⟨t, ht.nox, q⟩
theorem Ok.mono {P : Program} {w : World} {K : PySem.W.Frag} {mg : Str → Option Value} {base : Heap} {R' : Sig} (F : Ok P w K mg base x k R) (h : ∀ ds S d S', R' ds S d S' → R ds S d S') : Ok P w K mg base x k R' := by
  obtain ⟨f, fd, ps, h1, h2, h3, h4⟩ := F.ex
  exact ⟨f, fd, ps, h1, h2, h3, h4.imp fun vs H Q E ⟨B, ds, S, d, S', a1, a2, a3, a4, a5, a6⟩ => ⟨B, ds, S, d, S', a1, a2, a3, a4, h _ _ _ _ a5, a6⟩⟩

/-! ### assignments, the slots written out -/
variable {N : List Str} {i : Nat} {s : Sl}
theorem p_set (hN : X.N = N) (hnd : X.N.Nodup) (h : DE X e Δ S d S1) (hpp : Put N Δ x (.dat d) Δ') (q : ae.nx Δ' S1) (hx : Loc X.env.scope x := by first | exact .inl rfl | exact .inr rfl)
    (hs : swapsWith e (some (.Name x p1)) pos.line X.env = pure false := by rfl) (hf : X.fn x = true ∨ X.env.scope.names.lookup x = some .local := by first | exact .inl rfl | exact .inr rfl) : S1X X (.Assign [.Name x p1] e pos) Δ S ae := by
  obtain ⟨i, hp⟩ := hpp.a
  obtain ⟨t, ha⟩ := hp.at_
  exact s1_set hN hnd ha h (by rw [hp.eq]; exact q) hx hs hf
theorem p_setN (hN : X.N = N) (hnd : X.N.Nodup) (h : DN X e Δ S ds S1) (hpp : Put N Δ x (.own ds) Δ') (q : ae.nx Δ' S1) (hx : Loc X.env.scope x := by first | exact .inl rfl | exact .inr rfl)
    (hs : swapsWith e (some (.Name x p1)) pos.line X.env = pure false := by rfl) (hf : X.fn x = true ∨ X.env.scope.names.lookup x = some .local := by first | exact .inl rfl | exact .inr rfl) : S1X X (.Assign [.Name x p1] e pos) Δ S ae := by
  obtain ⟨i, hp⟩ := hpp.a
  obtain ⟨t, ha⟩ := hp.at_
  exact s1_setN hN hnd ha h (by rw [hp.eq]; exact q) hx hs hf
theorem p_lc (hN : X.N = N) (hnd : X.N.Nodup) (h : LC X tg iter elt ifs scope (own.map (·.2)) Δ S ds S1) (hpp : Put N Δ x (.dat (.lst ds)) Δ') (q : ae.nx Δ' S1) (hc : X.calm = true)
    (hx : X.env.scope.names.lookup x = some .local) (hsw : swapsWith (.ListComp elt [⟨tg, iter, ifs, 0⟩] scope p2) (some (.Name x p1)) pos.line X.env = pure true) (ok : BlkOk X.N X.env.scope scope own)
    (hs : ∀ x, foldedSetIterable iter X.env x = pure x := by intro _; rfl) : S1X X (.Assign [.Name x p1] (.ListComp elt [⟨tg, iter, ifs, 0⟩] scope p2) pos) Δ S ae := by
  obtain ⟨i, hp⟩ := hpp.a
  obtain ⟨t, ha⟩ := hp.at_
  exact s1_setLcD hN hnd ha h (by rw [hp.eq]; exact q) hc hx hsw ok hs
theorem p_lcN (hN : X.N = N) (hnd : X.N.Nodup) (h : LC X tg iter elt ifs scope (own.map (·.2)) Δ S ds S1) (hpp : Put N Δ x (.own ds) Δ') (q : ae.nx Δ' S1) (hc : X.calm = true)
    (hx : X.env.scope.names.lookup x = some .local) (hsw : swapsWith (.ListComp elt [⟨tg, iter, ifs, 0⟩] scope p2) (some (.Name x p1)) pos.line X.env = pure true) (ok : BlkOk X.N X.env.scope scope own)
    (hs : ∀ x, foldedSetIterable iter X.env x = pure x := by intro _; rfl) : S1X X (.Assign [.Name x p1] (.ListComp elt [⟨tg, iter, ifs, 0⟩] scope p2) pos) Δ S ae := by
  obtain ⟨i, hp⟩ := hpp.a
  obtain ⟨t, ha⟩ := hp.at_
  exact s1_setLc hN hnd ha h (by rw [hp.eq]; exact q) hc hx hsw ok hs
theorem p_app (hN : X.N = N) (hi : At N Δ x i (.own ds)) (h : DE X e Δ S d S1) (hl : ds.length ≤ 99999) (hp : PutA N Δ x i (.own (ds ++ [d])) Δ') (q : ae.nx Δ' S1) {p3 p4 p5 : Pos}
    (hpe : PE X (.Call (.Attribute (.Name x p3) "append" p4) [e] [] p5) (tBM X.K "list" rAppend (tVar i) (tCons (W X e) tNil)) := by exact pe_bm PySem.F.plainAttrs_list PySem.F.slot_list_append PySem.F.type_list_append mt_append (pv _) (pa_cons W.pe pa_nil))
    (hs : swapsWith (.Call (.Attribute (.Name x p3) "append" p4) [e] [] p5) none pos.line X.env = pure false := by rfl) : S1X X (.Expr (.Call (.Attribute (.Name x p3) "append" p4) [e] [] p5) pos) Δ S ae :=
  s1_app hN hi h hl (by rw [hp.eq]; exact q) hpe hs
theorem p_ext {fs : List D} (hN : X.N = N) (hi : At N Δ x i (.own ds)) (h : DN X e Δ S fs S1) (hl : ds.length + fs.length ≤ 100000) (hp : PutA N Δ x i (.own (ds ++ fs)) Δ') (q : ae.nx Δ' S1) {p3 p4 p5 : Pos}
    (hpe : PE X (.Call (.Attribute (.Name x p3) "extend" p4) [e] [] p5) (tBM X.K "list" rExtend (tVar i) (tCons (W X e) tNil)) := by exact pe_bm PySem.F.plainAttrs_list PySem.F.slot_list_extend PySem.F.type_list_extend mt_extend (pv _) (pa_cons W.pe pa_nil))
    (hs : swapsWith (.Call (.Attribute (.Name x p3) "extend" p4) [e] [] p5) none pos.line X.env = pure false := by rfl) : S1X X (.Expr (.Call (.Attribute (.Name x p3) "extend" p4) [e] [] p5) pos) Δ S ae :=
  s1_ext hN hi h hl (by rw [hp.eq]; exact q) hpe hs
/-- x = y, y a list of one's own that is given up: data under both names -/
theorem p_give {y : Str} {j : Nat} {Δ2 : List Sl} (hN : X.N = N) (hnd : X.N.Nodup) (hy : At N Δ y j (.own ds)) (hp : PutA N Δ x i (.dat (.lst ds)) Δ') (hp2 : PutA N Δ' y j .no Δ2) (hxy : i ≠ j) (q : ae.nx Δ2 S) (hx : Loc X.env.scope x := by first | exact .inl rfl | exact .inr rfl)
    (hv : Vis X.env.scope y := by first | exact Or.inl rfl | exact Or.inr (Or.inl rfl) | exact Or.inr (Or.inr rfl)) (hd : (y == ("__debug__" : Str)) = false := by decide) (hcd : (y == ("__classdict__" : Str)) = false := by decide)
    (hs : swapsWith (.Name y p2) (some (.Name x p1)) pos.line X.env = pure false := by rfl) (hf : X.fn x = true ∨ X.env.scope.names.lookup x = some .local := by first | exact .inl rfl | exact .inr rfl) : S1X X (.Assign [.Name x p1] (.Name y p2) pos) Δ S ae := .mk fun B0 H0 σ B H Dn z r => by
  obtain ⟨t, ha⟩ := hp.at_
  refine W1.of (ps_set hnd (by rw [hN]; exact ha.name) hx (pe_var (by rw [hN]; exact hy.name) hv hd hcd) hs hf) ?_
  obtain ⟨p, vs, h1, h2, h3, h4, h5, h6⟩ := z.own j ds hy.slot
  refine ⟨.ref p, h1, ?_⟩
  have ex1 : Ex B (upd B p (.lst vs)) := Evl.Ex.new h2
  have z2 : Stt X.K B0 H0 σ (upd B p (.lst vs)) H (Δ.set j .no) S := z.give hy.slot h1 h5
  have z3 := z2.put (j := i) (Is.lst (K := X.K) (Evl.sq_of upd_same) (h6.mono ex1))
  rw [List.set_comm _ _ (fun e => hxy e.symm), hp.eq, hp2.eq] at z3
  exact r.nx _ _ H _ S z3 rfl q
end

/-! ### typed data -/
abbrev tI (r : List Int) : D := .tup (r.map .int)
abbrev tT (t : List (List Int)) : D := .tup (t.map tI)
abbrev lI (r : List Int) : D := .lst (r.map .int)
abbrev lT (t : List (List Int)) : D := .lst (t.map tI)
abbrev lL (t : List (List Int)) : D := .lst (t.map lI)
end Ab

set_option Elab.async false
set_option linter.all false
set_option maxRecDepth 100000
set_option maxHeartbeats 4000000
/-! tuple * 0, tuple * 1. -/
namespace Ab
open PySem PySem.Spec PyProof.Rows L2
theorem tuple_mul0 (l : Addr) (items : Array Value) (n : Nat) (dd : Option Addr) (sl : Array (Option Value)) (u : Tok) (c1 : items.isEmpty = false) :
    Meets (Builtin.«tuple.__mul__» ⟨[.ref l, .int 0 u], []⟩) (fun _ R s => s.heap.get? l = some { cls := .type "tuple", dict := dd, data := .seq items n, slots := sl } ∧
      R (.ok (.ret (Value.ref s.heap.objs.size))) { s with heap := s.heap.push { cls := Value.type "tuple", data := Data.seq #[] }, toks := s.toks }) :=
  .of_wp fun prog w A R s h => by
    obtain ⟨hp, g, d, tk, os⟩ := s
    obtain ⟨hl, h⟩ := h
    have f1 := AutoSeq1.idx_int
    wp_walk using wpAny_loadPart' hl
    repeat (first
      | (refine wpAny_ite_false (by decide) ?_; wp_walk using wpAny_loadPart' hl)
      | (refine wpAny_ite_false (by rw [c1]; decide) ?_; wp_walk using wpAny_loadPart' hl)
      | (refine wpAny_ite_true (by rw [c1]; decide) ?_; wp_walk using wpAny_loadPart' hl))
    exact ⟨_, rfl, h⟩
theorem tuple_mul1 (l : Addr) (items : Array Value) (n : Nat) (dd : Option Addr) (sl : Array (Option Value)) (u : Tok) (c1 : items.isEmpty = false) :
    Meets (Builtin.«tuple.__mul__» ⟨[.ref l, .int 1 u], []⟩) (fun _ R s => s.heap.get? l = some { cls := .type "tuple", dict := dd, data := .seq items n, slots := sl } ∧
      R (.ok (.ret (Value.ref l))) s) :=
  .of_wp fun prog w A R s h => by
    obtain ⟨hp, g, d, tk, os⟩ := s
    obtain ⟨hl, h⟩ := h
    have f1 := AutoSeq1.idx_int
    wp_walk using wpAny_loadPart' hl
    exact ⟨_, rfl, h⟩
def rRepA (K : PySem.W.Frag) : R2 := fun x y H Q => ∃ l k xs, x = .ref l ∧ y = .int k ∧ SqT K H l xs ∧ xs ≠ [] ∧ 0 ≤ k ∧ k ≤ 1000 ∧ xs.length ≤ 1000 ∧ (k = 1 → Q (.ref l) H) ∧ (k ≠ 1 → ∀ p, H p = none → Q (.ref p) (upd H p (.tup (List.replicate k.toNat xs).flatten)))
theorem op_repA {X : Cx} : OpR X (binaryOp .Mult) (rRepA X.K) := by
  intro pins s σ H x y v u Q I rx ry h
  obtain ⟨l, k, xs, rfl, rfl, hT, hne, h0, h2, hz, q1, q2⟩ := h
  by_cases h3 : 2 ≤ k
  · exact op_repT pins s σ H _ _ v u Q I rx ry ⟨l, k, xs, rfl, rfl, hT, hne, h3, h2, hz, q2 (by omega)⟩
  cases rx
  obtain ⟨t, rfl⟩ := ry
  obtain ⟨its, r, ⟨⟨cls, dd, data, sl⟩, ho, hc, n, hd⟩, hs⟩ := I.tuple hT
  simp only at hc hd
  subst hc hd
  have hle : its.length = xs.length := r.length.symm
  have hn : its ≠ [] := fun e => hne (by
    rw [e] at hle
    exact List.eq_nil_of_length_eq_zero hle.symm)
  have hi : its.toArray.isEmpty = false := by
    cases its with
    | nil => exact absurd rfl hn
    | cons a b => rfl
  have h4 : k = 0 ∨ k = 1 := by omega
  rcases h4 with rfl | rfl
  · refine wpAny_binaryOp_repeat_ref (T := "tuple") (U := "int") (by decide) ⟨_, ho, rfl⟩ (fun s' => typeIs_int s' 0 t) noFill_tuple_mul F.fills_int_mul F.slot_int_rmul repeat_tuple F.slot_int_index.lookup
      (call_meets F.slot_int_rmul (typeIs_int s 0 t) F.entry_int_rmul (F.args_int_rmul_2 _ _) (int_rmul_tuple 0 t l its.toArray n dd sl)
        ⟨ho, rfl, ⟨_, ho, rfl⟩, call_meets F.slot_tuple_mul ⟨_, ho, rfl⟩ F.entry_tuple_mul (F.args_tuple_mul_2 _ _) (tuple_mul0 l its.toArray n dd sl t hi) ⟨ho, ?_⟩⟩)
    refine ⟨.ref s.heap.objs.size, _, I.laid (t' := s.toks) (o := .tup []) (fun b ob q => Heap.get?_push_of_some _ q) (Nat.le_refl _) ?_, rfl, q2 (by omega) _ (I.hok.fresh (Nat.le_refl _))⟩
    exact ⟨Nat.zero_le _, [], .nil, IsTup.new _ _⟩
  · refine wpAny_binaryOp_repeat_ref (T := "tuple") (U := "int") (by decide) ⟨_, ho, rfl⟩ (fun s' => typeIs_int s' 1 t) noFill_tuple_mul F.fills_int_mul F.slot_int_rmul repeat_tuple F.slot_int_index.lookup
      (call_meets F.slot_int_rmul (typeIs_int s 1 t) F.entry_int_rmul (F.args_int_rmul_2 _ _) (int_rmul_tuple 1 t l its.toArray n dd sl)
        ⟨ho, rfl, ⟨_, ho, rfl⟩, call_meets F.slot_tuple_mul ⟨_, ho, rfl⟩ F.entry_tuple_mul (F.args_tuple_mul_2 _ _) (tuple_mul1 l its.toArray n dd sl t hi) ⟨ho, ?_⟩⟩)
    exact ⟨.ref l, H, I, rfl, q1 rfl⟩
/-- tuple * int -/
theorem de_repT {X : Cx} {Δ : List Sl} {S S1 S2 : PotS} {pos : Pos} {a b : Expr} {ds : List D} {k : Int} (ha : DE X a Δ S (.tup ds) S1) (hb : DE X b Δ S1 (.int k) S2) (hne : ds ≠ []) (hl : ds.length ≤ 1000) (hk : 0 ≤ k ∧ k ≤ 1000) :
    DE X (.BinOp a .Mult b pos) Δ S (.tup (List.replicate k.toNat ds).flatten) S2 :=
  DG.by (pe_op op_repA W.pe W.pe) (ha.1.trans hb.1) fun B0 H0 σ B H z Q q => z.run ha fun v B1 H1 z1 g1 p1 => z1.run hb fun u B2 H2 z2 g2 p2 => by
    cases p2
    cases p1 with
    | tup h1 h2 =>
      have h1' := Evl.ex_t g2.ex h1
      have h2' := h2.mono g2.ex
      refine ⟨_, k, _, rfl, rfl, Evl.ex_t z2.sub h1', fun e => hne ?_, hk.1, hk.2, by rw [h2.length]; exact hl, fun e => ?_, fun _ p hp => tup_end z2.sub (gr_go z1.pot ha.1 g1 g2) (ha.1.trans hb.1) z2.pot hp (h2'.rep _) q⟩
      · subst e
        cases h2
        rfl
      · subst e
        have k1 : (List.replicate (1 : Int).toNat ds).flatten = ds := by simp
        rw [k1] at q
        exact q _ B2 H2 (gr_go z1.pot ha.1 g1 g2) z2.pot (.tup h1' h2')
end Ab

set_option Elab.async false
set_option linter.all false
set_option autoImplicit false
set_option maxRecDepth 100000
set_option maxHeartbeats 2000000
/-! Comparisons of data, in, isinstance. -/
namespace Ab
open PySem PySem.Spec PyProof.Rows L2 RZ

/-! ### == of data -/
mutual
def dP : D → PyData
  | .non => .none
  | .bl b => .bool b
  | .int i => .int i
  | .str x => .str x
  | .tup ds => .tuple (dPs ds)
  | .lst ds => .list (dPs ds)
  | _ => .none
def dPs : List D → List PyData
  | [] => []
  | d :: ds => dP d :: dPs ds
end
/-- may be compared: no bools, no instances, short strings -/
def dOk : Nat → D → Bool
  | _, .non => true
  | _, .int _ => true
  | _, .str x => (PyData.str x).canLay0
  | n + 1, .tup ds => ds.all (dOk n)
  | n + 1, .lst ds => ds.all (dOk n)
  | _, _ => false
theorem d_lay : ∀ (n : Nat) (d : D), dOk n d = true → (dP d).canLay0 = true ∧ (dP d).depth ≤ n := by
  have all : ∀ (n : Nat), (∀ d, dOk n d = true → (dP d).canLay0 = true ∧ (dP d).depth ≤ n) → ∀ ds : List D, (∀ d ∈ ds, dOk n d = true) → PyData.canLayAll0 (dPs ds) = true ∧ PyData.depthAll (dPs ds) ≤ n := by
    intro n ih ds
    induction ds with
    | nil => intro _; simp [dPs, PyData.canLayAll0, PyData.depthAll]
    | cons d ds hi =>
      intro h
      have h1 := ih d (h d (.head _))
      have h2 := hi fun e he => h e (.tail _ he)
      simp only [dPs, PyData.canLayAll0, PyData.depthAll, h1.1, h2.1, Bool.and_self, true_and]
      have a1 := h1.2
      have a2 := h2.2
      omega
  intro n
  induction n with
  | zero =>
    intro d h
    cases d <;> simp_all [dOk, dP, PyData.canLay0, PyData.depth]
  | succ n ih =>
    intro d h
    cases d with
    | non => simp [dP, PyData.canLay0, PyData.depth]
    | bl b => simp [dOk] at h
    | int i => simp [dP, PyData.canLay0, PyData.depth]
    | str x =>
      simp only [dOk] at h
      simp [dP, h, PyData.depth]
    | tup ds =>
      have q := all n ih ds (by simpa [dOk] using h)
      have q2 := q.2
      simp only [dP, PyData.canLay0, PyData.depth, q.1, true_and]
      omega
    | lst ds =>
      have q := all n ih ds (by simpa [dOk] using h)
      have q2 := q.2
      simp only [dP, PyData.canLay0, PyData.depth, q.1, true_and]
      omega
    | _ => simp [dOk] at h
theorem d_eqv : ∀ (n : Nat) (d e : D) (k : Nat), dOk n d = true → dOk k e = true → (PyData.eqv (dP d) (dP e) = true ↔ d = e) := by
  have all : ∀ (n : Nat), (∀ d e k, dOk n d = true → dOk k e = true → (PyData.eqv (dP d) (dP e) = true ↔ d = e)) → ∀ (k : Nat) (ds es : List D), (∀ d ∈ ds, dOk n d = true) → (∀ d ∈ es, dOk k d = true) →
      (PyData.eqvAll (dPs ds) (dPs es) = true ↔ ds = es) := by
    intro n ih k ds
    induction ds with
    | nil => intro es _ _; cases es <;> simp [dPs, PyData.eqvAll]
    | cons d ds hi =>
      intro es h1 h2
      cases es with
      | nil => simp [dPs, PyData.eqvAll]
      | cons e es =>
        have q1 := ih d e k (h1 d (.head _)) (h2 e (.head _))
        have q2 := hi es (fun x hx => h1 x (.tail _ hx)) fun x hx => h2 x (.tail _ hx)
        simp only [dPs, PyData.eqvAll, Bool.and_eq_true, q1, q2, List.cons.injEq]
  intro n
  induction n with
  | zero =>
    intro d e k h1 h2
    cases d <;> cases e <;> cases k <;> simp_all [dOk, dP, PyData.eqv]
  | succ n ih =>
    intro d e k h1 h2
    cases d with
    | tup ds =>
      cases e with
      | tup es =>
        cases k with
        | zero => simp [dOk] at h2
        | succ k =>
          have q := all n ih k ds es (by simpa [dOk] using h1) (by simpa [dOk] using h2)
          simp only [dP, PyData.eqv, q, D.tup.injEq]
      | _ => simp_all [dOk, dP, PyData.eqv]
    | lst ds =>
      cases e with
      | lst es =>
        cases k with
        | zero => simp [dOk] at h2
        | succ k =>
          have q := all n ih k ds es (by simpa [dOk] using h1) (by simpa [dOk] using h2)
          simp only [dP, PyData.eqv, q, D.lst.injEq]
      | _ => simp_all [dOk, dP, PyData.eqv]
    | _ => cases e <;> simp_all [dOk, dP, PyData.eqv]
mutual
theorem Is.dp {K : PySem.W.Frag} {B H : Hp} (ex : Ex B H) : ∀ {v : V} {d : D} (n : Nat), Is K B v d → dOk n d = true → Dp K H v (dP d)
  | _, _, _, .non, _ => .non
  | _, _, _, .bl b, h => .bl b
  | _, _, _, .int i, _ => .int i
  | _, _, _, .str x, _ => .str x
  | _, _, n + 1, .tup h t, q => .tup (Evl.ex_t ex h) (All.dp ex n t (by simpa [dOk] using q))
  | _, _, 0, .tup h t, q => by simp [dOk] at q
  | _, _, n + 1, .lst h t, q => .lst (Evl.ex_l ex h) (All.dp ex n t (by simpa [dOk] using q))
  | _, _, 0, .lst h t, q => by simp [dOk] at q
  | _, _, n, .ins h t, q => by cases n <;> simp [dOk] at q
  | _, _, n, .adr a, q => by cases n <;> simp [dOk] at q
  | _, _, n, .ty a, q => by cases n <;> simp [dOk] at q
theorem All.dp {K : PySem.W.Frag} {B H : Hp} (ex : Ex B H) : ∀ {v : List V} {d : List D} (n : Nat), All K B v d → (∀ x ∈ d, dOk n x = true) → DpAll K H v (dPs d)
  | _, _, _, .nil, _ => .nil
  | _, _, n, .cons h t, q => .cons (Is.dp ex n h (q _ (.head _))) (All.dp ex n t fun x hx => q x (.tail _ hx))
end
section
variable {X : Cx} {Δ : List Sl} {S S1 S2 S3 : PotS} {pos : Pos} {a b c e : Expr} {es : List Expr}
theorem d_sh {n : Nat} {d : D} (h : dOk n d = true) (hn : n ≤ 60) : SeqAt.shaped (dP d) = true := by
  obtain ⟨h1, h2⟩ := d_lay n d h
  unfold SeqAt.shaped
  rw [h1, Bool.true_and]
  exact decide_eq_true (by omega)
theorem bool_iff {x y : Bool} (h : x = true ↔ y = true) : x = y := by
  cases x <;> cases y <;> simp_all
/-- a == b -/
theorem db_eq {d f : D} {k : Bool} {j : Nat} (n m : Nat) (hr : Room j X.A) (ha : DE X a Δ S d S1) (hb : DE X b Δ S1 f S2) (hd : dOk n d = true) (hf : dOk m f = true) (hk : k = true ↔ d = f) (hn : n ≤ 60 := by decide) (hm : m ≤ 60 := by decide) : DB X (.Compare a [.Eq] [b] pos) Δ S k S2 :=
  db_cmp (op_eqD hr.units) (nomark _) ha hb fun B H v B1 H1 u B2 H2 g1 po1 p1 g2 po2 p2 Q q =>
    ⟨dP d, dP f, (Is.mono g2.ex p1).dp g2.sub n hd, Is.dp g2.sub m p2 hf, d_sh hd hn, d_sh hf hm, by
      rw [bool_iff ((d_eqv n d f m hd hf).trans hk.symm)]
      exact q⟩
theorem db_ne {d f : D} {k : Bool} {j : Nat} (n m : Nat) (hr : Room j X.A) (ha : DE X a Δ S d S1) (hb : DE X b Δ S1 f S2) (hd : dOk n d = true) (hf : dOk m f = true) (hk : k = true ↔ d = f) (hn : n ≤ 60 := by decide) (hm : m ≤ 60 := by decide) : DB X (.Compare a [.NotEq] [b] pos) Δ S (!k) S2 :=
  db_cmp (op_neD hr.units) (nomark _) ha hb fun B H v B1 H1 u B2 H2 g1 po1 p1 g2 po2 p2 Q q =>
    ⟨dP d, dP f, (Is.mono g2.ex p1).dp g2.sub n hd, Is.dp g2.sub m p2 hf, d_sh hd hn, d_sh hf hm, by
      rw [bool_iff ((d_eqv n d f m hd hf).trans hk.symm)]
      exact q⟩
theorem ok_ints (r : List Int) : (r.map D.int).all (dOk 0) = true := by
  rw [List.all_map, List.all_eq_true]
  intro x _
  rfl
theorem ok_tI (r : List Int) : dOk 1 (tI r) = true := ok_ints r
theorem ok_lI (r : List Int) : dOk 1 (lI r) = true := ok_ints r
theorem ok_tT (t : List (List Int)) : dOk 2 (tT t) = true := by
  show (t.map tI).all (dOk 1) = true
  rw [List.all_map, List.all_eq_true]
  intro x _
  exact ok_tI x
theorem ok_lT (t : List (List Int)) : dOk 2 (lT t) = true := ok_tT t
theorem ok_lL (t : List (List Int)) : dOk 2 (lL t) = true := by
  show (t.map lI).all (dOk 1) = true
  rw [List.all_map, List.all_eq_true]
  intro x _
  exact ok_lI x
theorem map_inj {α β : Type} {f : α → β} (hf : ∀ x y, f x = f y → x = y) : ∀ {xs ys : List α}, xs.map f = ys.map f ↔ xs = ys
  | [], [] => by simp
  | [], _ :: _ => by simp
  | _ :: _, [] => by simp
  | x :: xs, y :: ys => by
    rw [List.map_cons, List.map_cons, List.cons.injEq, List.cons.injEq, map_inj hf]
    exact ⟨fun ⟨h1, h2⟩ => ⟨hf _ _ h1, h2⟩, fun ⟨h1, h2⟩ => ⟨congrArg f h1, h2⟩⟩
theorem inj_ints {r s : List Int} : r.map D.int = s.map D.int ↔ r = s := map_inj fun x y h => D.int.inj h
theorem inj_tI {r s : List Int} : tI r = tI s ↔ r = s := by rw [D.tup.injEq, inj_ints]
theorem inj_lI {r s : List Int} : lI r = lI s ↔ r = s := by rw [D.lst.injEq, inj_ints]
theorem inj_tT {r s : List (List Int)} : tT r = tT s ↔ r = s := by rw [D.tup.injEq, map_inj fun x y h => inj_tI.mp h]
theorem inj_lT {r s : List (List Int)} : lT r = lT s ↔ r = s := by rw [D.lst.injEq, map_inj fun x y h => inj_tI.mp h]
theorem inj_lL {r s : List (List Int)} : lL r = lL s ↔ r = s := by rw [D.lst.injEq, map_inj fun x y h => inj_lI.mp h]
/-- a list is compared with [] -/
theorem db_eqNil {t : Bool} {ds : List D} {p2 : Pos} {j : Nat} (hr : Room j X.A) (ha : DE X a Δ S (.lst ds) S1) (hd : dOk 60 (.lst ds) = true) : DB X (.Compare a [.Eq] [.List [] p2] pos) Δ S ds.isEmpty S1 :=
  db_eq 60 1 hr ha (dn_lst da_nil).dat hd rfl (by rw [D.lst.injEq, List.isEmpty_iff])
theorem db_neNil {t : Bool} {ds : List D} {p2 : Pos} {j : Nat} (hr : Room j X.A) (ha : DE X a Δ S (.lst ds) S1) (hd : dOk 60 (.lst ds) = true) : DB X (.Compare a [.NotEq] [.List [] p2] pos) Δ S (!ds.isEmpty) S1 :=
  db_ne 60 1 hr ha (dn_lst da_nil).dat hd rfl (by rw [D.lst.injEq, List.isEmpty_iff])

/-! ### in -/
theorem db_inI {t : Bool} {i : Int} {ns : List Int} (ha : DE X a Δ S (.int i) S1) (hb : DQ X b Δ S1 t (ns.map D.int) S2) (hm : behindInMarks .In b = false := by rfl) : DB X (.Compare a [.In] [b] pos) Δ S (decide (i ∈ ns)) S2 :=
  db_cmp op_in_seq hm ha hb fun B H v B1 H1 u B2 H2 g1 po1 p1 g2 po2 p2 Q q => by
    cases p1
    obtain ⟨p, vs, rfl, hp, hv⟩ := p2
    have e := hv.ints
    subst e
    refine ⟨p, _, rfl, (hp H2 (Old.refl _ _)).len, rfl, ?_, ?_⟩
    · rw [List.all_map, List.all_eq_true]
      intro x _
      rfl
    · rw [if_neg Bool.false_ne_true]
      have e : inV (.int i) (ns.map V.int) = decide (i ∈ ns) := by
        unfold inV
        rw [List.any_map]
        refine bool_iff ?_
        rw [List.any_eq_true, decide_eq_true_iff]
        constructor
        · rintro ⟨x, h1, h2⟩
          have h3 : decide (x = i) = true := h2
          rw [← of_decide_eq_true h3]
          exact h1
        · intro h
          exact ⟨i, h, decide_eq_true rfl⟩
      rw [e]
      exact q

/-! ### isinstance -/
/-- a datum's type -/
inductive TyD (K : PySem.W.Frag) : D → Value → Prop
  | non : TyD K .non (.type "NoneType")
  | bl (b : Bool) : TyD K (.bl b) (.type "bool")
  | int (i : Int) : TyD K (.int i) (.type "int")
  | str (x : Str) : TyD K (.str x) (.type "str")
  | tup (ds : List D) : TyD K (.tup ds) (.type "tuple")
  | lst (ds : List D) : TyD K (.lst ds) (.type "list")
  | ins {C : Addr} {fs : List (Str × D)} (cl : Cls K C) (ha : PySem.W.findIn K (.ref C) "__class__" = some (some (.builtin "object.__class__")))
      (hn : PySem.W.specialIn K (.builtin "object.__class__") "__get__" = some (some (.builtin "getset_descriptor.__get__"))) (htk : PySem.W.takesIn K (.builtin "object.__class__") = some true)
      (hm : PySem.W.mroIn K C (.type "object") = some true) : TyD K (.ins C fs) (.ref C)
theorem SqT.ty {K : PySem.W.Frag} {H : Hp} {a : Addr} {xs : List V} (h : SqT K H a xs) : TyX K H (.ref a) (.type "tuple") := by
  rcases h with (h | ⟨o, h⟩) | ⟨o, _, _, e, c, _⟩
  · exact .base (.tup h)
  · exact .fTuple h
  · exact .kTuple e c
theorem SqL.ty {K : PySem.W.Frag} {H : Hp} {a : Addr} {xs : List V} (h : SqL K H a xs) : TyX K H (.ref a) (.type "list") := by
  rcases h with (h | ⟨o, h⟩) | ⟨o, _, _, e, c, _⟩
  · exact .base (.lst h)
  · exact .base (.frz h)
  · exact .kList e c
theorem TyD.of {K : PySem.W.Frag} {B H : Hp} {v : V} {d : D} {t : Value} (ex : Ex B H) (i : Is K B v d) (h : TyD K d t) : TyX K H v t := by
  cases h with
  | non => cases i; exact .base .non
  | bl b => cases i; exact .base (.bl b)
  | int b => cases i; exact .base (.int b)
  | str b => cases i; exact .base (.str b)
  | tup ds => cases i with
    | tup h t => exact SqT.ty (Evl.ex_t ex h)
  | lst ds => cases i with
    | lst h t => exact SqL.ty (Evl.ex_l ex h)
  | ins cl ha hn htk hm => cases i with
    | ins h t => exact .base (.ins (ex _ _ h) cl ha hn htk hm)
/-- a class as a datum -/
inductive ClD : D → Value → Prop
  | ty (n : String) : ClD (.ty n) (.type n)
  | own (C : Addr) : ClD (.adr C) (.ref C)
theorem ClD.cls {K : PySem.W.Frag} {B : Hp} {v : V} {d : D} {u : Value} (i : Is K B v d) (h : ClD d u) : ClsV v u := by
  cases h with
  | ty n => cases i; exact .ty n
  | own C => cases i; exact .own C
theorem db_isi {p : Pos} {d f : D} {t u : Value} {k : Bool} (ha : DE X a Δ S d S1) (hb : DE X b Δ S1 f S2) (ty : TyD X.K d t) (cl : ClD f u) (hk : PySem.W.kitOne X.K t u = some k) (hg : Gl X "isinstance") (hm : X.mg "isinstance" = none)
    (hs : starEach [a, b] X.env = (false, eval a X.env) :: starEach [b] X.env := by rfl) (hs2 : starEach [b] X.env = (false, eval b X.env) :: starEach [] X.env := by rfl) (hpl : (backTo pos (starEach [b] X.env)).any (·.1) = false := by rfl) :
    DE X (.Call (.Name "isinstance" p) [a, b] [] pos) Δ S (.bl k) S2 :=
  DG.by (pe_callB call_isi hg hm (by decide +kernel) (pa_cons W.pe (pa_cons W.pe pa_nil hs2) hs) (he := hs) (hpl := hpl)) (ha.1.trans hb.1) fun B0 H0 σ B H z Q q => z.run ha fun v B1 H1 z1 g1 p1 => z1.run hb fun w B2 H2 z2 g2 p2 =>
    ⟨v, w, t, u, k, rfl, cl.cls p2, ty.of z2.sub (Is.mono g2.ex p1), hk, q _ B2 H2 (gr_go z1.pot ha.1 g1 g2) z2.pot (.bl k)⟩
/-- isinstance(x, (c1, ..)) -/
inductive ClDs : List D → List Value → Prop
  | nil : ClDs [] []
  | cons {d : D} {u : Value} {ds : List D} {us : List Value} : ClD d u → ClDs ds us → ClDs (d :: ds) (u :: us)
theorem ClDs.cls {K : PySem.W.Frag} {B : Hp} : ∀ {vs : List V} {ds : List D} {us : List Value}, All K B vs ds → ClDs ds us → Paired ClsV vs us
  | _, _, _, .nil, .nil => .nil
  | _, _, _, .cons i t, .cons h r => .cons (h.cls i) (ClDs.cls t r)
theorem db_isiT {p p2 : Pos} {j : Nat} {d : D} {fs : List D} {t : Value} {us : List Value} {k : Bool} (ha : DE X a Δ S d S1) (hb : DA X es Δ S1 fs S2) (ty : TyD X.K d t) (cl : ClDs fs us) (hk : PySem.W.kitAny X.K t us = some k) (hl : fs.length ≤ 100000) (hg : Gl X "isinstance") (hm : X.mg "isinstance" = none)
    (hs : starEach [a, .Tuple es j p2] X.env = (false, eval a X.env) :: starEach [.Tuple es j p2] X.env := by rfl) (hs2 : starEach [.Tuple es j p2] X.env = (false, eval (.Tuple es j p2) X.env) :: starEach [] X.env := by rfl) (hpl : (backTo pos (starEach [.Tuple es j p2] X.env)).any (·.1) = false := by rfl) :
    DE X (.Call (.Name "isinstance" p) [a, .Tuple es j p2] [] pos) Δ S (.bl k) S2 :=
  DG.by (pe_callB call_isiT hg hm (by decide +kernel) (pa_cons W.pe (pa_cons (pe_tup WA.pa) pa_nil hs2) hs) (he := hs) (hpl := hpl)) (ha.1.trans hb.1) fun B0 H0 σ B H z Q q => z.run ha fun v B1 H1 z1 g1 p1 => z1.runA hb fun ws B2 H2 z2 g2 p2 => by
    refine ⟨by rw [p2.length]; exact Evl.sz_of hl, fun n hn => ?_⟩
    have ex : Ex B2 (upd H2 n (.tup ws)) := z2.sub.trans (Evl.Ex.new hn)
    exact ⟨v, n, ws, t, us, k, rfl, upd_same, cl.cls p2, ty.of ex (Is.mono g2.ex p1), hk, q _ B2 _ (gr_go z2.pot (ha.1.trans hb.1) (gr_go z1.pot ha.1 g1 g2) (Gr.mine z2.sub hn)) (z2.pot.upd hn) (.bl k)⟩
end
end Ab

set_option Elab.async false
set_option linter.all false
set_option autoImplicit false
set_option maxRecDepth 100000
set_option maxHeartbeats 2000000
/-! == and != of instances with an own __eq__. -/
namespace PySem.W
open PySem PySem.Calls PyProof.Rows Builtin
section
variable {prog : Program} {w : World} {A : Around} {E : Value → Shared → Prop} {s : Shared} {K : Frag} {x C L f : Addr} {h₀ : Heap} {m : Str → Option Value} {ox : Obj} {od : Option Obj} {b tb : Value}
theorem checkNe_K {M : Model} {rest : List Value} {Q : Unit → Shared → Prop} (X : K.In s.heap) (I : InstAt s.heap x ox C od) (hm : subIn K (.ref C) (.type "object") = some true) (ha : argsOk "object.__ne__" ⟨.ref x :: rest, []⟩)
    (hq : Q () s) : wpAny M A (checkBuiltinCall "object.__ne__" ⟨.ref x :: rest, []⟩) Q E s := by
  simp only [checkBuiltinCall, PySem.F.cmpKind_ne, PySem.F.cmpSplit_ne]
  refine wpAny_bind ?_
  unfold isInstance
  refine wpAny_bind (I.type.here ((looks_subIn X hm).here ?_))
  cases hsig : Manifest.signature? "object.__ne__" with
  | none => exact wpAny_pure hq
  | some sig =>
    simp only [argsOk, hsig] at ha
    have h2 : Bind.checkArgs "object.__ne__" sig ⟨.ref x :: rest, []⟩ = pure () := ha
    show wpAny M A (Bind.checkArgs "object.__ne__" sig ⟨.ref x :: rest, []⟩) Q E _
    rw [h2]
    exact wpAny_pure hq
theorem objNe_K {Q : Fin → Shared → Prop} (hu : A.units < cLine) (X : K.In s.heap) (I : InstAt s.heap x ox C od) (hs : findIn K (.ref C) "__eq__" = some (some (.ref f))) (hf : isFn K (.ref f) = true)
    (hcall : wpAny (model prog w) A (call (.ref f) [.ref x, b]) (fun v s' => ∃ b, v = .bool b ∧ Q (.done (.ret (.bool (!b)))) s') E s) :
    wpAny (model prog w) A (Builtin.«object.__ne__» ⟨[.ref x, b], []⟩) Q E s := by
  obtain ⟨hh, g, d, t, os⟩ := s
  unfold Builtin.«object.__ne__»
  repeat (first
    | with_reducible refine wpAny_cRoomFor hu ?_
    | (refine wpAny_bind (m := callSpecialIfBound? (.ref x) (Str.ofString "__eq__") [b])
        (ifBound_K X I hs hf (wpAny_mono hcall (fun r s' hr => by
          obtain ⟨b, rfl, hq⟩ := hr
          repeat (first | exact hq | exact wpAny_pure hq | exact wpAny_truthy_bool hq | (refine wpAny_bind (m := truthy (.bool _)) (wpAny_truthy_bool ?_)) | wp_step)) fun _ _ e => e)))
    | wp_step)
theorem neC_K {Q : Value → Shared → Prop} (hu : A.units + 1 < cLine) (F : Fr h₀ L s.heap m) (X₀ : K.In h₀) (I : InstAt s.heap x ox C od) (hb : Looks (model prog w) s.heap (typeOf b) tb) (hn : notFirst K C tb = true)
    (hne : findIn K (.ref C) "__ne__" = some (some (.builtin "object.__ne__"))) (hm : subIn K (.ref C) (.type "object") = some true)
    (hs : findIn K (.ref C) "__eq__" = some (some (.ref f))) (hf : isFn K (.ref f) = true)
    (h : wpAny (model prog w) A.in1 (call (.ref f) [.ref x, b]) (fun v s' => ∃ k, v = .bool k ∧ Q (.bool (!k)) s') E s) : wpAny (model prog w) A (richCompare .NotEq (.ref x) b) Q E s := by
  have X := X₀.keeps F.keep
  have ent : wpAny (model prog w) A (call (.builtin "object.__ne__") [.ref x, b]) (fun v s' => ∃ k, v = .bool k ∧ Q (.bool k) s') E s := by
    refine wpAny_call (codeAny_call_builtin PySem.F.cmp_object.ne.plain PySem.F.cmpEntry_ne (checkNe_K X I hm (PySem.F.cmpArgs_ne _ _) (objNe_K (A := A.in1) (by show A.units + 1 < cLine; exact hu) X I hs hf (wpAny_mono h (fun v s' hv => ?_) fun _ _ e => e))))
    obtain ⟨b, rfl, hq⟩ := hv
    first | exact ⟨b, rfl, ⟨_, rfl, hq⟩⟩ | exact ⟨b, rfl, wpAny_pure ⟨_, rfl, hq⟩⟩
  have one : wpAny (model prog w) A (tryCompare (.ref x) "__ne__" b) (fun r s' => ∃ v, r = some v ∧ Q v s') E s := by
    unfold tryCompare
    refine wpAny_bind ?_
    simp only [callSpecialIfBound?, bindSpecialIfBound?]
    refine wpAny_holding (wpAny_bind (wpAny_bind (wpAny_bind (I.type.here ((looks_findIn X hne).here ?_)))))
    simp only [PySem.F.cmp_object.ne.bind]
    refine wpAny_bind (wpAny_askSetting (wpAny_ite ?_))
    split
    · refine wpAny_bind (wpAny_pure (wpAny_pure ?_))
      refine wpAny_bind (wpAny_mono ent (fun v s' h' => wpAny_pure ?_) fun _ _ h' => h')
      obtain ⟨k, rfl, hq⟩ := h'
      exact wpAny_pure ⟨_, rfl, hq⟩
    · refine wpAny_tryCatch (wpAny_bind (wpAny_pure (wpAny_pure ?_)))
      refine wpAny_bind (wpAny_mono ent (fun v s' h' => wpAny_pure ?_) fun _ _ h' => h')
      obtain ⟨k, rfl, hq⟩ := h'
      exact wpAny_pure ⟨_, rfl, hq⟩
  unfold richCompare
  simp only [oneThing_ref]
  refine wpAny_holding (wpAny_bind (wpAny_cRoomFor (by omega) ?_))
  rw [cmpInfo_NotEq]
  dsimp only
  refine wpAny_bind (I.type.here (wpAny_bind (hb.here ?_)))
  split
  · rename_i q
    have e : subIn K tb (.ref C) = some false := by
      rcases Bool.or_eq_true_iff.mp hn with e | e
      · rw [beq_iff_eq.mp e] at q; simp at q
      · exact beq_iff_eq.mp e
    refine wpAny_bind ((looks_subIn X e).here ?_)
    simp only [Bool.false_eq_true, if_false]
    refine wpAny_bind (wpAny_mono one (fun r s' z => ?_) fun _ _ e => e)
    obtain ⟨v, rfl, hq⟩ := z
    exact wpAny_pure hq
  · refine wpAny_bind (wpAny_pure ?_)
    simp only [Bool.false_eq_true, if_false]
    refine wpAny_bind (wpAny_mono one (fun r s' z => ?_) fun _ _ e => e)
    obtain ⟨v, rfl, hq⟩ := z
    exact wpAny_pure hq
end
end PySem.W
namespace Ab
open PySem PySem.Spec PyProof.Rows L2 RZ
/-- what a class with an own __eq__ must have -/
structure OwnQ (K : PySem.W.Frag) (C f : Addr) : Prop where
  eq : PySem.W.findIn K (.ref C) "__eq__" = some (some (.ref f))
  fn : PySem.W.isFn K (.ref f) = true
  ne : PySem.W.findIn K (.ref C) "__ne__" = some (some (.builtin "object.__ne__"))
  sub : PySem.W.subIn K (.ref C) (.type "object") = some true
def rOwn (C : Addr) (sp : Sp) (g : Bool → Bool) : R2 := fun x y H Q => ∃ a b dx dy fs gs, x = .ref a ∧ y = .ref b ∧ H a = some (.ins C dx fs) ∧ H b = some (.ins C dy gs) ∧ sp [x, y] H (fun v H' => ∃ k, v = .bl k ∧ Q (.bl (g k)) H') E0
section
variable {X : Cx} {C f : Addr} {fd : FuncData} {ps : List Str} {sp : Sp} {n : Nat}
theorem run_own {A : Around} {pins : List (Addr × Obj)} {s : Shared} {σ : L2.St} {H : Hp} {a b : Addr} {Q : VK} (hA : Room n A) (hfr : A.frames = X.A.frames) (F : FnOk X.prog X.w X.K X.mg X.base CX0 n f fd ps sp) (hb : Binds X.K fd ps []) (I : Inv X pins σ H s)
    (h : sp [.ref a, .ref b] H Q E0) : wpAny (model X.prog X.w) A (call (.ref f) [.ref a, .ref b]) (EP X pins σ Q) X.xe s := by
  have e0 : Env0 X.prog X.w X.K X.mg X.base A X.stack s H := by
    have e := I.env0
    exact ⟨by rw [hfr]; exact e.frames, e.mod, e.bs, e.bsz, e.funs, e.frf, e.hok, e.bare⟩
  have hl := F.len _ _ _ _ h
  have r2 : Vals [V.ref a, V.ref b] [Value.ref a, Value.ref b] := .cons rfl (.cons rfl .nil)
  refine wpAny_call (codeAny_mono (F.run A X.stack s H ⟨[.ref a, .ref b], []⟩ [.ref a, .ref b] [.ref a, .ref b] _ E0 hA e0 (by
    have := hb s [.ref a, .ref b] I.kIn (by simpa using hl)
    simpa using this) r2 h) fun r s' hq => ?_)
  cases r with
  | error e => exact pass0 pins σ H s e s' I hq
  | ok fl =>
    cases fl with
    | ret w => exact I.after hq
    | next => exact False.elim hq
    | brk => exact False.elim hq
    | cont => exact False.elim hq
theorem op_ownEq (o : OwnQ X.K C f) (F : FnOk X.prog X.w X.K X.mg X.base CX0 n f fd ps sp) (hr : Room n X.A) (hb : Binds X.K fd ps []) : OpR X (compareOp .Eq) (rOwn C sp id) := by
  intro pins s σ H x y v u Q I rx ry h
  obtain ⟨a, b, dx, dy, fs, gs, rfl, rfl, ha, hb', hsp⟩ := h
  cases rx
  cases ry
  obtain ⟨mA, J, _⟩ := ins_get I.hok ha
  obtain ⟨mB, J', _⟩ := ins_get I.hok hb'
  obtain ⟨od, J, _⟩ := J.look
  obtain ⟨od', J', _⟩ := J'.look
  obtain ⟨m, hF⟩ := I.fr
  refine PySem.W.cmp_K (op := .Eq) (tb := .ref C) hr.units0 hF I.ok.mod.kin J J'.type (by simp [PySem.W.notFirst]) o.eq o.fn ?_
  refine wpAny_mono (run_own hr rfl F hb I hsp) (fun r s' hq => ?_) fun _ _ x => x
  obtain ⟨v, H', I', rv, k, rfl, q⟩ := hq
  cases (show r = Value.bool k from rv)
  exact ⟨.bl (id k), H', I', rfl, q⟩
theorem op_ownNe (o : OwnQ X.K C f) (F : FnOk X.prog X.w X.K X.mg X.base CX0 n f fd ps sp) (hr : Room (n + 1) X.A) (hb : Binds X.K fd ps []) : OpR X (compareOp .NotEq) (rOwn C sp not) := by
  intro pins s σ H x y v u Q I rx ry h
  obtain ⟨a, b, dx, dy, fs, gs, rfl, rfl, ha, hb', hsp⟩ := h
  cases rx
  cases ry
  obtain ⟨mA, J, _⟩ := ins_get I.hok ha
  obtain ⟨mB, J', _⟩ := ins_get I.hok hb'
  obtain ⟨od, J, _⟩ := J.look
  obtain ⟨od', J', _⟩ := J'.look
  obtain ⟨m, hF⟩ := I.fr
  refine PySem.W.neC_K (tb := .ref C) (by have := hr.units; omega) hF I.ok.mod.kin J J'.type (by simp [PySem.W.notFirst]) o.ne o.sub o.eq o.fn ?_
  refine wpAny_mono (run_own hr.in1 rfl F hb I hsp) (fun r s' hq => ?_) fun _ _ x => x
  obtain ⟨v, H', I', rv, k, rfl, q⟩ := hq
  cases (show r = Value.bool k from rv)
  exact ⟨k, rfl, .bl (!k), H', I', rfl, q⟩
end
section
variable {X : Cx} {Δ : List Sl} {S S1 S2 S3 : PotS} {pos : Pos} {a b c e : Expr} {es : List Expr} {C f : Addr} {fd : FuncData} {ps : List Str} {n : Nat} {R : Sig} {fs gs : List (Str × D)} {k : Bool}
theorem db_ownEq {j : Nat} (o : OwnQ X.K C f) (F : FnOk X.prog X.w X.K X.mg X.base CX0 n f fd ps (spOf X.K R)) (hr : Room j X.A) (hj : n ≤ j) (hbi : Binds X.K fd ps []) (ha : DE X a Δ S (.ins C fs) S1) (hb : DE X b Δ S1 (.ins C gs) S2) (hR : R [.ins C fs, .ins C gs] S2 (.bl k) S2) : DB X (.Compare a [.Eq] [b] pos) Δ S k S2 := by
  have key : ∀ B H v B1 H1 u B2 H2, Gr S B H B1 H1 → PotOk S1 B1 H1 → Is X.K B1 v (.ins C fs) → Gr S1 B1 H1 B2 H2 → PotOk S2 B2 H2 → Is X.K B2 u (.ins C gs) → ∀ Q : VK, (∀ B3 H3, Gr S2 B2 H2 B3 H3 → PotOk S2 B3 H3 → Q (.bl k) H3) → rOwn C (spOf X.K R) id v u H2 Q := by
    intro B H v B1 H1 u B2 H2 g1 po1 p1 g2 po2 p2 Q q
    have p1' := Is.mono g2.ex p1
    cases p1' with
    | ins h1 t1 => cases p2 with
      | ins h2 t2 => exact ⟨_, _, _, _, _, _, rfl, rfl, g2.sub _ _ h1, g2.sub _ _ h2, B2, _, S2, _, S2, g2.sub, .cons (.ins h1 t1) (.cons (.ins h2 t2) .nil), po2, PotEq.refl S2, hR, fun v B3 H3 g3 po3 i => by
          cases i
          exact ⟨k, rfl, q B3 H3 g3 po3⟩⟩
  exact ⟨DG.by (pe_cmpR (op_ownEq o F (hr.mono hj) hbi) W.pe W.pe (nomark _)) (ha.1.trans hb.1) fun B0 H0 σ B H z Q q => z.run ha fun v B1 H1 z1 g1 p1 => z1.run hb fun u B2 H2 z2 g2 p2 =>
      key B H v B1 H1 u B2 H2 g1 z1.pot p1 g2 z2.pot p2 Q fun B3 H3 g3 po3 => q _ B3 H3 (gr_go z2.pot (ha.1.trans hb.1) (gr_go z1.pot ha.1 g1 g2) g3) po3 (.bl _),
    DT.by (pt_cmpR (op_ownEq o F (hr.mono hj) hbi) W.pe W.pe (nomark _)) (ha.1.trans hb.1) fun B0 H0 σ B H z Q q => z.run ha fun v B1 H1 z1 g1 p1 => z1.run hb fun u B2 H2 z2 g2 p2 =>
      key B H v B1 H1 u B2 H2 g1 z1.pot p1 g2 z2.pot p2 _ fun B3 H3 g3 po3 => ⟨k, rfl, q B3 H3 (gr_go z2.pot (ha.1.trans hb.1) (gr_go z1.pot ha.1 g1 g2) g3) po3⟩⟩
theorem db_ownNe {j : Nat} (o : OwnQ X.K C f) (F : FnOk X.prog X.w X.K X.mg X.base CX0 n f fd ps (spOf X.K R)) (hr : Room j X.A) (hj : n + 1 ≤ j) (hbi : Binds X.K fd ps []) (ha : DE X a Δ S (.ins C fs) S1) (hb : DE X b Δ S1 (.ins C gs) S2) (hR : R [.ins C fs, .ins C gs] S2 (.bl k) S2) : DB X (.Compare a [.NotEq] [b] pos) Δ S (!k) S2 := by
  have key : ∀ B H v B1 H1 u B2 H2, Gr S B H B1 H1 → PotOk S1 B1 H1 → Is X.K B1 v (.ins C fs) → Gr S1 B1 H1 B2 H2 → PotOk S2 B2 H2 → Is X.K B2 u (.ins C gs) → ∀ Q : VK, (∀ B3 H3, Gr S2 B2 H2 B3 H3 → PotOk S2 B3 H3 → Q (.bl (!k)) H3) → rOwn C (spOf X.K R) not v u H2 Q := by
    intro B H v B1 H1 u B2 H2 g1 po1 p1 g2 po2 p2 Q q
    have p1' := Is.mono g2.ex p1
    cases p1' with
    | ins h1 t1 => cases p2 with
      | ins h2 t2 => exact ⟨_, _, _, _, _, _, rfl, rfl, g2.sub _ _ h1, g2.sub _ _ h2, B2, _, S2, _, S2, g2.sub, .cons (.ins h1 t1) (.cons (.ins h2 t2) .nil), po2, PotEq.refl S2, hR, fun v B3 H3 g3 po3 i => by
          cases i
          exact ⟨k, rfl, q B3 H3 g3 po3⟩⟩
  exact ⟨DG.by (pe_cmpR (op_ownNe o F (hr.mono hj) hbi) W.pe W.pe (nomark _)) (ha.1.trans hb.1) fun B0 H0 σ B H z Q q => z.run ha fun v B1 H1 z1 g1 p1 => z1.run hb fun u B2 H2 z2 g2 p2 =>
      key B H v B1 H1 u B2 H2 g1 z1.pot p1 g2 z2.pot p2 Q fun B3 H3 g3 po3 => q _ B3 H3 (gr_go z2.pot (ha.1.trans hb.1) (gr_go z1.pot ha.1 g1 g2) g3) po3 (.bl _),
    DT.by (pt_cmpR (op_ownNe o F (hr.mono hj) hbi) W.pe W.pe (nomark _)) (ha.1.trans hb.1) fun B0 H0 σ B H z Q q => z.run ha fun v B1 H1 z1 g1 p1 => z1.run hb fun u B2 H2 z2 g2 p2 =>
      key B H v B1 H1 u B2 H2 g1 z1.pot p1 g2 z2.pot p2 _ fun B3 H3 g3 po3 => ⟨!k, rfl, q B3 H3 (gr_go z2.pot (ha.1.trans hb.1) (gr_go z1.pot ha.1 g1 g2) g3) po3⟩⟩
/-- o.f, a property: the getter's promise -/
theorem de_prop {g p : Addr} {fl : Str} {d : D} {j : Nat} (ha : DE X a Δ S (.ins C fs) S1) (c : Cls X.K C) (hp : PropOf X.K C fl p g) (F : FnOk X.prog X.w X.K X.mg X.base CX0 n g fd ps (spOf X.K R)) (hr : Room j X.A) (hj : n + 1 ≤ j) (hbi : Binds X.K fd ps []) (hR : R [.ins C fs] S1 d S1)
    (hab : attributeBase a fl X.env (eval a X.env) = eval a X.env := by rfl) : DE X (.Attribute a fl pos) Δ S d S1 :=
  DG.by (pe_prop W.pe c hp F (hr.mono hj) hbi .nil pass0 hab) ha.1 fun B0 H0 σ B H z Q q => z.run ha fun v B1 H1 z1 g1 p1 => by
    cases p1 with
    | ins h1 t1 => exact ⟨_, _, _, rfl, z1.sub _ _ h1, B1, _, S1, _, S1, z1.sub, .cons (.ins h1 t1) .nil, z1.pot, PotEq.refl S1, hR, fun v B3 H3 g3 po3 i => q v B3 H3 (gr_go z1.pot ha.1 g1 g3) po3 i⟩
/-- o.m(e, ..) -/
theorem de_meth {m : Str} {apos : Pos} {ds : List D} {d : D} {j : Nat} {pl : Sem Bool} {o : Expr} (ho : DE X o Δ S (.ins C fs) S1) (c : Cls X.K C) (hm : Meth X.K C m f) (hf : fs.lookup m = none) (F : FnOk X.prog X.w X.K X.mg X.base CX0 n f fd ps (spOf X.K R)) (hr : Room j X.A) (hj : n ≤ j) (hbi : Binds X.K fd ps [])
    (ha : DA X (e :: es) Δ S1 ds S2) (eq : PotEq S2 S3) (hR : R (.ins C fs :: ds) S2 d S3) (hst : starEach (e :: es) X.env = (false, eval e X.env) :: starEach es X.env := by rfl) (hpl : (backTo pos (starEach es X.env)).any (·.1) = false := by rfl)
    (ht : eval (.Call (.Attribute o m apos) (e :: es) [] pos) X.env = (do
      let ov ← eval o X.env
      standAt apos.atName
      let (f, first) ← holding [ov] (getMethod ov m pl)
      callWith pos f first (backTo pos (starEach (e :: es) X.env)) (backToKw pos (keywordEach [] X.env))) := by rfl) : DE X (.Call (.Attribute o m apos) (e :: es) [] pos) Δ S d S3 :=
  DG.by (pe_meth W.pe c hm F (hr.mono hj) hbi .nil pass0 WA.pa hst hpl ht) ((ho.1.trans ha.1).trans eq) fun B0 H0 σ B H z Q q => z.run ho fun v B1 H1 z1 g1 p1 => by
    cases p1 with
    | ins h1 t1 => exact ⟨_, _, _, rfl, z1.sub _ _ h1, t1.none hf, z1.runA ha fun vs B2 H2 z2 g2 p2 => by
        show spOf X.K R (_ :: (vs ++ [])) H2 Q _
        rw [List.append_nil]
        exact sp_go z2 (ho.1.trans ha.1) (gr_go z1.pot ho.1 g1 g2) (.cons (Is.mono g2.ex (.ins h1 t1)) p2) eq hR q⟩
theorem de_meth0 {m : Str} {apos : Pos} {d : D} {j : Nat} {pl : Sem Bool} {o : Expr} (ho : DE X o Δ S (.ins C fs) S1) (c : Cls X.K C) (hm : Meth X.K C m f) (hf : fs.lookup m = none) (F : FnOk X.prog X.w X.K X.mg X.base CX0 n f fd ps (spOf X.K R)) (hr : Room j X.A) (hj : n ≤ j) (hbi : Binds X.K fd ps [])
    (eq : PotEq S1 S2) (hR : R [.ins C fs] S1 d S2)
    (ht : eval (.Call (.Attribute o m apos) [] [] pos) X.env = (do
      let ov ← eval o X.env
      standAt apos.atName
      let (f, first) ← holding [ov] (getMethod ov m pl)
      callWith pos f first (backTo pos (starEach [] X.env)) (backToKw pos (keywordEach [] X.env))) := by rfl) : DE X (.Call (.Attribute o m apos) [] [] pos) Δ S d S2 :=
  DG.by (pe_meth0 W.pe c hm F (hr.mono hj) hbi .nil pass0 ht) (ho.1.trans eq) fun B0 H0 σ B H z Q q => z.run ho fun v B1 H1 z1 g1 p1 => by
    cases p1 with
    | ins h1 t1 => exact ⟨_, _, _, rfl, z1.sub _ _ h1, t1.none hf, sp_go (E := E0) z1 ho.1 g1 (.cons (.ins h1 t1) .nil) eq hR q⟩
end
end Ab

set_option Elab.async false
set_option linter.all false
set_option autoImplicit false
set_option maxRecDepth 100000
set_option maxHeartbeats 2000000
/-! Several values at once; the pot; keywords; new instances. -/
namespace Ab
open PySem PySem.Spec PyProof.Rows L2 RZ

/-! ### several values, data or new lists -/
structure DV (X : Cx) (es : List Expr) (Δ : List Sl) (S : PotS) (ss : List Sl) (S' : PotS) : Prop where
  eq : PotEq S S'
  run : ∀ B0 H0 σ e f B H, Stt X.K B0 H0 (σ ++ e) B H (Δ ++ f) S → σ.length = Δ.length → ∀ Q : List V → Hp → Prop, (∀ vs B2 H2, Stt X.K B0 H0 (σ ++ (e ++ vs.map some)) B2 H2 (Δ ++ (f ++ ss)) S' → Gr S B H B2 H2 → vs.length = ss.length → Q vs H2) → WA X es σ H Q
section
variable {X : Cx} {Δ Δ' Δ2 Δ3 : List Sl} {S S1 S2 S3 : PotS} {pos : Pos} {a b c e : Expr} {es : List Expr} {ss : List Sl} {ae : AE}
theorem dv_nil : DV X [] Δ S [] S := ⟨PotEq.refl S, fun B0 H0 σ e f B H z hl Q q => WA.of pa_nil (q [] B H (by rw [List.map_nil, List.append_nil, List.append_nil]; exact z) (Gr.refl z.sub) rfl)⟩
theorem dv_dat {d : D} (ha : DE X e Δ S d S1) (hr : DV X es Δ S1 ss S2) (hs : starEach (e :: es) X.env = (false, eval e X.env) :: starEach es X.env := by rfl) : DV X (e :: es) Δ S (.dat d :: ss) S2 :=
  ⟨ha.1.trans hr.1, fun B0 H0 σ ex f B H z hl Q q => WA.of (pa_cons W.pe WA.pa hs) (ha.2 B0 H0 σ B H (z.left hl) _ fun v B1 H1 g1 po1 p1 => by
    have z1 := (z.grow ha.1 g1 po1).push p1
    rw [List.append_assoc, List.append_assoc] at z1
    refine hr.2 B0 H0 σ (ex ++ [some v]) (f ++ [.dat d]) B1 H1 z1 hl _ fun vs B2 H2 z2 g2 h2 => ?_
    refine q (v :: vs) B2 H2 ?_ (gr_go po1 ha.1 g1 g2) (by rw [List.length_cons, List.length_cons, h2])
    rw [List.append_assoc, List.append_assoc] at z2
    exact z2)⟩
theorem dv_own {ds : List D} (ha : DN X e Δ S ds S1) (hr : DV X es Δ S1 ss S2) (hs : starEach (e :: es) X.env = (false, eval e X.env) :: starEach es X.env := by rfl) : DV X (e :: es) Δ S (.own ds :: ss) S2 :=
  ⟨ha.1.trans hr.1, fun B0 H0 σ ex f B H z hl Q q => WA.of (pa_cons W.pe WA.pa hs) (ha.2 B0 H0 σ B H (z.left hl) _ fun v B1 H1 g1 po1 p1 => by
    have z1 := z.pushN (z.grow ha.1 g1 po1) ha.1 p1 g1
    rw [List.append_assoc, List.append_assoc] at z1
    refine hr.2 B0 H0 σ (ex ++ [some v]) (f ++ [.own ds]) B1 H1 z1 hl _ fun vs B2 H2 z2 g2 h2 => ?_
    refine q (v :: vs) B2 H2 ?_ (gr_go po1 ha.1 g1 g2) (by rw [List.length_cons, List.length_cons, h2])
    rw [List.append_assoc, List.append_assoc] at z2
    exact z2)⟩
theorem len2 {α β : Type} {vs : List α} {a b : β} (h : vs.length = [a, b].length) : ∃ x y, vs = [x, y] := by
  match vs, h with
  | [x, y], _ => exact ⟨x, y, rfl⟩
theorem len3 {α β : Type} {vs : List α} {a b c : β} (h : vs.length = [a, b, c].length) : ∃ x y z, vs = [x, y, z] := by
  match vs, h with
  | [x, y, z], _ => exact ⟨x, y, z, rfl⟩
theorem PutA.lt {N : List Str} {x : Str} {i : Nat} {s : Sl} (h : PutA N Δ x i s Δ') : i < Δ.length := by
  obtain ⟨t, h⟩ := h.at_
  exact (List.getElem?_eq_some_iff.mp h.slot).1
theorem PutA.name {N : List Str} {x : Str} {i : Nat} {s : Sl} (h : PutA N Δ x i s Δ') : N[i]? = some x := by
  obtain ⟨t, h⟩ := h.at_
  exact h.name
/-- x, y = a, b -/
theorem p_par2 {N : List Str} {x y : Str} {i j : Nat} {s t : Sl} {px py pt pt2 : Pos} {kt k2 : Nat} (hN : X.N = N) (hc : X.calm = true) (hnd : X.N.Nodup) (h : DV X [a, b] Δ S [s, t] S1) (h1 : PutA N Δ x i s Δ2) (h2 : PutA N Δ2 y j t Δ3) (q : ae.nx Δ3 S1) (hij : i ≠ j)
    (hx : X.env.scope.names.lookup x = some .local) (hy : X.env.scope.names.lookup y = some .local) 
    (hw : swappedStores [.Tuple [.Name x px, .Name y py] kt pt] (.Tuple [a, b] k2 pt2) X.env = pure (some [x, y]))
    (hs : swapsWithSole [.Tuple [.Name x px, .Name y py] kt pt] (.Tuple [a, b] k2 pt2) pos.line X.env = pure false := by rfl) :
    S1X X (.Assign [.Tuple [.Name x px, .Name y py] kt pt] (.Tuple [a, b] k2 pt2) pos) Δ S ae := .mk fun B0 H0 σ B H Dn z r => by
  refine W1.of (ps_par hc hnd (by rw [hN]; exact h1.name) (by rw [hN]; exact h2.name) hij hx hy WA.pa hw hs) ?_
  refine h.2 B0 H0 σ [] [] B H (by rw [List.append_nil, List.append_nil]; exact z) z.len _ fun vs B2 H2 z2 g2 hl => ?_
  obtain ⟨v, w, rfl⟩ := len2 hl
  refine ⟨v, w, rfl, r.nx _ B2 H2 _ S1 ?_ h.1.symm q⟩
  have hlen := z.len
  have k1 := h1.lt
  have k2 := h2.lt
  have e2 := h2.eq
  have e1 := h1.eq
  have z3 : Stt X.K B0 H0 ((σ ++ [some v]) ++ [some w]) B2 H2 ((Δ ++ [s]) ++ [t]) S1 := by
    rw [List.append_assoc, List.append_assoc]
    exact z2
  have z4 := z3.move (j := j) (by rw [List.length_append, List.length_append, hlen]; rfl) (by
    rw [← e1, List.length_set] at k2
    rw [List.length_append]
    omega)
  have kj : j < Δ.length := by
    rw [← e1, List.length_set] at k2
    exact k2
  rw [List.set_append_left _ _ (by omega), List.set_append_left _ _ kj] at z4
  have z5 := z4.move (j := i) (by rw [List.length_set, List.length_set]; exact hlen) (by rw [List.length_set]; omega)
  rw [List.set_comm _ _ (Ne.symm hij), List.set_comm _ _ (Ne.symm hij), e1, e2] at z5
  exact z5
theorem p_par3 {N : List Str} {x y u : Str} {i j l : Nat} {s t w : Sl} {Δ4 : List Sl} {px py pz pt pt2 : Pos} {kt k2 : Nat} (hN : X.N = N) (hc : X.calm = true) (hnd : X.N.Nodup) (h : DV X [a, b, c] Δ S [s, t, w] S1) (h1 : PutA N Δ x i s Δ2) (h2 : PutA N Δ2 y j t Δ3) (h3 : PutA N Δ3 u l w Δ4) (q : ae.nx Δ4 S1) (hij : i ≠ j) (hil : i ≠ l) (hjl : j ≠ l)
    (hx : X.env.scope.names.lookup x = some .local) (hy : X.env.scope.names.lookup y = some .local) (hu : X.env.scope.names.lookup u = some .local)
    (hw : swappedStores [.Tuple [.Name x px, .Name y py, .Name u pz] kt pt] (.Tuple [a, b, c] k2 pt2) X.env = pure (some [x, y, u]))
    (hs : swapsWithSole [.Tuple [.Name x px, .Name y py, .Name u pz] kt pt] (.Tuple [a, b, c] k2 pt2) pos.line X.env = pure false := by rfl) :
    S1X X (.Assign [.Tuple [.Name x px, .Name y py, .Name u pz] kt pt] (.Tuple [a, b, c] k2 pt2) pos) Δ S ae := .mk fun B0 H0 σ B H Dn z r => by
  refine W1.of (ps_par3 hc hnd (by rw [hN]; exact h1.name) (by rw [hN]; exact h2.name) (by rw [hN]; exact h3.name) hij hil hjl hx hy hu WA.pa hw hs) ?_
  refine h.2 B0 H0 σ [] [] B H (by rw [List.append_nil, List.append_nil]; exact z) z.len _ fun vs B2 H2 z2 g2 hl => ?_
  obtain ⟨v1, v2, v3, rfl⟩ := len3 hl
  refine ⟨v1, v2, v3, rfl, r.nx _ B2 H2 _ S1 ?_ h.1.symm q⟩
  have hlen := z.len
  have e1 := h1.eq
  have e2 := h2.eq
  have e3 := h3.eq
  have k1 := h1.lt
  have k2 := h2.lt
  have k3 := h3.lt
  rw [← e1, List.length_set] at k2
  rw [← e2, List.length_set, ← e1, List.length_set] at k3
  have z3 : Stt X.K B0 H0 (((σ ++ [some v1]) ++ [some v2]) ++ [some v3]) B2 H2 (((Δ ++ [s]) ++ [t]) ++ [w]) S1 := by
    rw [List.append_assoc, List.append_assoc, List.append_assoc, List.append_assoc]
    exact z2
  have z4 := z3.move (j := l) (by simp only [List.length_append, hlen]; rfl) (by simp only [List.length_append]; omega)
  rw [set_ap (l := σ ++ [some v1]) (by rw [List.length_append]; omega), set_ap (l := σ) (by omega), set_ap (l := Δ ++ [s]) (by rw [List.length_append]; omega), set_ap (l := Δ) (by omega)] at z4
  have z5 := z4.move (j := j) (by simp only [List.length_append, List.length_set, hlen]; rfl) (by simp only [List.length_append, List.length_set]; omega)
  rw [set_ap (l := σ.set l (some v3)) (by rw [List.length_set]; omega), set_ap (l := Δ.set l w) (by rw [List.length_set]; omega)] at z5
  have z6 := z5.move (j := i) (by rw [List.length_set, List.length_set, List.length_set, List.length_set]; exact hlen) (by rw [List.length_set, List.length_set]; omega)
  rw [List.set_comm _ _ (Ne.symm hjl), List.set_comm _ _ (Ne.symm hil), List.set_comm _ _ (Ne.symm hij)] at z6
  rw [List.set_comm (l := Δ) _ _ (Ne.symm hjl), List.set_comm _ _ (Ne.symm hil), List.set_comm (l := Δ) _ _ (Ne.symm hij), e1, e2, e3] at z6
  exact z6

/-- x, y = e, e a tuple -/
theorem p_tup2 {N : List Str} {x y : Str} {d1 d2 : D} {px py pt : Pos} {kt : Nat} (hN : X.N = N) (hc : X.calm = true) (hnd : X.N.Nodup) (h : DE X e Δ S (.tup [d1, d2]) S1) (h1 : Put N Δ x (.dat d1) Δ2) (h2 : Put N Δ2 y (.dat d2) Δ3) (q : ae.nx Δ3 S1)
    (hx : Loc X.env.scope x := by first | exact .inl rfl | exact .inr rfl) (hy : Loc X.env.scope y := by first | exact .inl rfl | exact .inr rfl)
    (hf : X.fn x = true ∨ X.env.scope.names.lookup x = some .local := by first | exact .inl rfl | exact .inr rfl) (hf2 : X.fn y = true ∨ X.env.scope.names.lookup y = some .local := by first | exact .inl rfl | exact .inr rfl)
    (hs : swapsWithSole [.Tuple [.Name x px, .Name y py] kt pt] e pos.line X.env = pure false := by rfl) (hw : swappedStores [.Tuple [.Name x px, .Name y py] kt pt] e X.env = pure none := by rfl)
    (hq : (assignEach [.Tuple [.Name x px, .Name y py] kt pt] X.env).map (·.2) = [assign (.Tuple [.Name x px, .Name y py] kt pt) X.env] := by rfl)
    (hn : (assignEach [.Name x px, .Name y py] X.env).length = 2 := by rfl) (hst : (assignEach [.Name x px, .Name y py] X.env).findIdx? (·.1) = none := by rfl)
    (hs1 : (assignEach (.Name x px :: [.Name y py]) X.env).map (·.2) = assign (.Name x px) X.env :: (assignEach [.Name y py] X.env).map (·.2) := by rfl)
    (hs2 : (assignEach (.Name y py :: []) X.env).map (·.2) = assign (.Name y py) X.env :: (assignEach [] X.env).map (·.2) := by rfl) : S1X X (.Assign [.Tuple [.Name x px, .Name y py] kt pt] e pos) Δ S ae := .mk fun B0 H0 σ B H Dn z r => by
  obtain ⟨i, h1⟩ := h1.a
  obtain ⟨j, h2⟩ := h2.a
  refine W1.of (ps_asg W.pe (pg_tup hc (pgs_cons (pg_name hnd (by rw [hN]; exact h1.name) hx hf) (pgs_cons (pg_name hnd (by rw [hN]; exact h2.name) hy hf2) pgs_nil hs2) hs1) hn hst) hs hw hq) (z.run h fun v B1 H1 z1 g1 p1 => ?_)
  cases p1 with
  | tup k1 k2 => cases k2 with
    | cons i1 k2 => cases k2 with
      | cons i2 k2 => cases k2
                      refine ⟨_, _, rfl, Evl.ex_t z1.sub k1, rfl, _, _, rfl, _, _, rfl, rfl, r.nx _ B1 H1 _ S1 ?_ h.1.symm q⟩
                      have z2 := (z1.put (j := i) i1).put (j := j) i2
                      rw [h1.eq, h2.eq] at z2
                      exact z2
theorem p_tup3 {N : List Str} {x y u : Str} {d1 d2 d3 : D} {Δ4 : List Sl} {px py pu pt : Pos} {kt : Nat} (hN : X.N = N) (hc : X.calm = true) (hnd : X.N.Nodup) (h : DE X e Δ S (.tup [d1, d2, d3]) S1) (h1 : Put N Δ x (.dat d1) Δ2) (h2 : Put N Δ2 y (.dat d2) Δ3) (h3 : Put N Δ3 u (.dat d3) Δ4) (q : ae.nx Δ4 S1)
    (hx : Loc X.env.scope x := by first | exact .inl rfl | exact .inr rfl) (hy : Loc X.env.scope y := by first | exact .inl rfl | exact .inr rfl) (hu : Loc X.env.scope u := by first | exact .inl rfl | exact .inr rfl)
    (hf : X.fn x = true ∨ X.env.scope.names.lookup x = some .local := by first | exact .inl rfl | exact .inr rfl) (hf2 : X.fn y = true ∨ X.env.scope.names.lookup y = some .local := by first | exact .inl rfl | exact .inr rfl) (hf3 : X.fn u = true ∨ X.env.scope.names.lookup u = some .local := by first | exact .inl rfl | exact .inr rfl)
    (hs : swapsWithSole [.Tuple [.Name x px, .Name y py, .Name u pu] kt pt] e pos.line X.env = pure false := by rfl) (hw : swappedStores [.Tuple [.Name x px, .Name y py, .Name u pu] kt pt] e X.env = pure none := by rfl)
    (hq : (assignEach [.Tuple [.Name x px, .Name y py, .Name u pu] kt pt] X.env).map (·.2) = [assign (.Tuple [.Name x px, .Name y py, .Name u pu] kt pt) X.env] := by rfl)
    (hn : (assignEach [.Name x px, .Name y py, .Name u pu] X.env).length = 3 := by rfl) (hst : (assignEach [.Name x px, .Name y py, .Name u pu] X.env).findIdx? (·.1) = none := by rfl)
    (hs1 : (assignEach (.Name x px :: [.Name y py, .Name u pu]) X.env).map (·.2) = assign (.Name x px) X.env :: (assignEach [.Name y py, .Name u pu] X.env).map (·.2) := by rfl)
    (hs2 : (assignEach (.Name y py :: [.Name u pu]) X.env).map (·.2) = assign (.Name y py) X.env :: (assignEach [.Name u pu] X.env).map (·.2) := by rfl)
    (hs3 : (assignEach (.Name u pu :: []) X.env).map (·.2) = assign (.Name u pu) X.env :: (assignEach [] X.env).map (·.2) := by rfl) : S1X X (.Assign [.Tuple [.Name x px, .Name y py, .Name u pu] kt pt] e pos) Δ S ae := .mk fun B0 H0 σ B H Dn z r => by
  obtain ⟨i, h1⟩ := h1.a
  obtain ⟨j, h2⟩ := h2.a
  obtain ⟨l, h3⟩ := h3.a
  refine W1.of (ps_asg W.pe (pg_tup hc (pgs_cons (pg_name hnd (by rw [hN]; exact h1.name) hx hf) (pgs_cons (pg_name hnd (by rw [hN]; exact h2.name) hy hf2) (pgs_cons (pg_name hnd (by rw [hN]; exact h3.name) hu hf3) pgs_nil hs3) hs2) hs1) hn hst) hs hw hq) (z.run h fun v B1 H1 z1 g1 p1 => ?_)
  cases p1 with
  | tup k1 k2 => cases k2 with
    | cons i1 k2 => cases k2 with
      | cons i2 k2 => cases k2 with
        | cons i3 k2 => cases k2
                        refine ⟨_, _, rfl, Evl.ex_t z1.sub k1, rfl, _, _, rfl, _, _, rfl, _, _, rfl, rfl, r.nx _ B1 H1 _ S1 ?_ h.1.symm q⟩
                        have z2 := ((z1.put (j := i) i1).put (j := j) i2).put (j := l) i3
                        rw [h1.eq, h2.eq, h3.eq] at z2
                        exact z2
end
end Ab

set_option Elab.async false
set_option linter.all false
set_option autoImplicit false
set_option maxRecDepth 100000
set_option maxHeartbeats 2000000
/-! The pot; keywords; new instances; grids. -/
namespace Ab
open PySem PySem.Spec PyProof.Rows L2 RZ
theorem mulW {i j : Int} (ha : i.natAbs < 2 ^ 200) (hb : j.natAbs < 2 ^ 200) : CMulW i j := wide_mul ha hb (by decide) (by decide) (by decide)
theorem mulW1 {i j : Int} (ha : -1000000000000 < i ∧ i < 1000000000000) (hb : -1000000000000 < j ∧ j < 1000000000000) : CMulW i j :=
  mulW (Nat.lt_trans (show i.natAbs < 1000000000000 by omega) (by decide)) (Nat.lt_trans (show j.natAbs < 1000000000000 by omega) (by decide))
theorem divW {i j : Int} (h : 0 < j ∧ j < 1000000000000) : CDivW i j := wide_div (b := 200) h.1 (Nat.lt_trans (show j.natAbs < 1000000000000 by omega) (by decide)) (by decide) (by decide)

section
variable {X : Cx} {Δ Δ' Δ2 Δ3 : List Sl} {S S1 S2 S3 : PotS} {pos : Pos} {a b c e : Expr} {es : List Expr} {ss : List Sl} {ae : AE} {p : Addr} {ns ms : List Int}
/-! ### the pot -/
theorem de_potIx {i : Int} {k : Int} (ha : DE X a Δ S (.adr p) (some (p, ns))) (hb : DE X b Δ (some (p, ns)) (.int k) (some (p, ns))) (hi : atI ns k = some i) (hs : PlainIx b := by exact fun _ _ => rfl) : DE X (.Subscript a b pos) Δ S (.int i) (some (p, ns)) :=
  DG.by (pe_ix ix_list W.pe W.pe hs) ha.1 fun B0 H0 σ B H z Q q => z.run ha fun v B1 H1 z1 g1 p1 => z1.run hb fun u B2 H2 z2 g2 p2 => by
    cases p1
    cases p2
    refine ⟨p, ns.map V.int, k, .int i, rfl, rfl, .inl (.inl (z2.pot p ns rfl).2), ?_, q _ B2 H2 (gr_go z1.pot ha.1 g1 g2) z2.pot (.int i)⟩
    unfold atI at hi ⊢
    rw [List.length_map]
    cases hx : ixN ns.length k with
    | none =>
      rw [hx] at hi
      cases hi
    | some j =>
      rw [hx] at hi
      show (ns.map V.int)[j]? = some (V.int i)
      rw [List.getElem?_map, show ns[j]? = some i from hi]
      rfl
theorem Stt.potset {K : PySem.W.Frag} {B0 H0 B H : Hp} {σ : L2.St} (z : Stt K B0 H0 σ B H Δ (some (p, ns))) : Stt K B0 H0 σ B (upd H p (.lst (ms.map V.int))) Δ (some (p, ms)) := by
  have pm : ∀ a, PotM (some (p, ms)) a ↔ PotM (some (p, ns)) a := fun a => ⟨fun ⟨l, h⟩ => ⟨ns, by
      have e := Option.some.inj h
      rw [(Prod.mk.inj e).1]⟩, fun ⟨l, h⟩ => ⟨ms, by
      have e := Option.some.inj h
      rw [(Prod.mk.inj e).1]⟩⟩
  have hp : PotM (some (p, ns)) p := ⟨ns, rfl⟩
  have hb := (z.pot p ns rfl).1
  have oth : ∀ {j : Nat} {t : Sl} {q : Addr} {bs : List Addr}, Δ[j]? = some t → σ[j]? = some (some (V.ref q)) → Reg K B H t q bs → Reg K B (upd H p (.lst (ms.map V.int))) t q bs := fun {j t q bs} hj hq h => h.mono (Evl.Ex.refl B) fun a ha => upd_ne fun k => by
    obtain ⟨q', cs, m1, m2, m3⟩ := z.hold j t hj h.holds
    have e : q' = q := V.ref.inj (Option.some.inj (Option.some.inj (m1.symm.trans hq)))
    subst e
    rw [h.det m2] at ha
    exact (m3 a ha).2.2 (by rw [k]; exact hp)
  have back : ∀ {j : Nat} {t : Sl} {q : Addr} {bs : List Addr}, Δ[j]? = some t → σ[j]? = some (some (V.ref q)) → Reg K B (upd H p (.lst (ms.map V.int))) t q bs → Reg K B H t q bs := fun {j t q bs} hj hq h => by
    obtain ⟨q', cs, m1, m2, _⟩ := z.hold j t hj h.holds
    have e : q' = q := V.ref.inj (Option.some.inj (Option.some.inj (m1.symm.trans hq)))
    subst e
    rw [h.det (oth hj hq m2)]
    exact m2
  refine ⟨⟨z.gr.ex, fun a u hm h => ?_, z.gr.new, z.sub.mut hb⟩, z.len, z.dat, fun j t h ht => ?_, fun j k t u q r as2 bs hjk h1 h2 h3 h4 h5 h6 => z.sep j k t u q r as2 bs hjk h1 h2 h3 h4 (back h1 h3 h5) (back h2 h4 h6), fun q l e => ?_⟩
  · have hm' : ¬ PotM (some (p, ns)) a := fun k => hm ((pm a).mpr k)
    rw [upd_ne (fun k => hm' (by rw [k]; exact hp))]
    exact z.gr.old a u hm' h
  · obtain ⟨q, bs, m1, m2, m3⟩ := z.hold j t h ht
    exact ⟨q, bs, m1, oth h m1 m2, fun a ha => ⟨(m3 a ha).1, (m3 a ha).2.1, fun k => (m3 a ha).2.2 ((pm a).mp k)⟩⟩
  · have e2 := Option.some.inj e
    have e3 := (Prod.mk.inj e2).1
    have e4 := (Prod.mk.inj e2).2
    subst e3
    subst e4
    exact ⟨hb, upd_same⟩
/-- pot[j] = e -/
theorem s1_potSet {i : Int} {j : Nat} {o : Expr} {p4 : Pos} (h : DE X e Δ S (.int i) S1) (ho : DE X o Δ S1 (.adr p) (some (p, ns))) (hb : DE X b Δ (some (p, ns)) (.int (j : Int)) (some (p, ns))) (hj : j < ns.length) (q : ae.nx Δ (some (p, ns.set j i)))
    (ha : ∀ v, assign (.Subscript o b p4) X.env v = (do
      let ov ← holding [v] (eval o X.env)
      let iv ← holding [v, ov] (eval b X.env)
      standAt p4
      holding [v, ov, iv] (setItem ov iv v)
      release [v, ov, iv] []) := by intro _; rfl)
    (hs : swapsWithSole [.Subscript o b p4] e pos.line X.env = pure false := by rfl) (hw : swappedStores [.Subscript o b p4] e X.env = pure none := by rfl)
    (hq : (assignEach [.Subscript o b p4] X.env).map (·.2) = [assign (.Subscript o b p4) X.env] := by rfl) : S1X X (.Assign [.Subscript o b p4] e pos) Δ S ae := .mk fun B0 H0 σ B H Dn z r => by
  refine W1.of (ps_asg W.pe (pg_sub W.pe W.pe set_list ha) hs hw hq) (z.run h fun v B1 H1 z1 g1 p1 => z1.run ho fun u B2 H2 z2 g2 p2 => z2.run hb fun w B3 H3 z3 g3 p3 => ?_)
  cases p1
  cases p2
  cases p3
  refine ⟨p, ns.map V.int, (j : Int), j, rfl, rfl, (z3.pot p ns rfl).2, Evl.ixN_nat (by rw [List.length_map]; exact hj), ?_⟩
  have e1 : (ns.map V.int).set j (V.int i) = (ns.set j i).map V.int := List.map_set.symm
  rw [e1]
  exact r.nx _ B3 _ Δ _ z3.potset ((h.1.trans ho.1).symm) q
theorem de_divmod {i j : Int} {p2 : Pos} (ha : DE X a Δ S (.int i) S1) (hb : DE X b Δ S1 (.int j) S2) (hc : CDivP i j) (hg : Gl X "divmod") (hm : X.mg "divmod" = none) (hs : starEach [a, b] X.env = (false, eval a X.env) :: starEach [b] X.env := by rfl) (hs2 : starEach [b] X.env = (false, eval b X.env) :: starEach [] X.env := by rfl) (hpl : (backTo pos (starEach [b] X.env)).any (·.1) = false := by rfl) :
    DE X (.Call (.Name "divmod" p2) [a, b] [] pos) Δ S (.tup [.int (i / j), .int (i % j)]) S2 :=
  DG.by (pe_callB call_divmodW hg hm (by decide +kernel) (pa_cons W.pe (pa_cons W.pe pa_nil hs2) hs) (he := hs) (hpl := hpl)) (ha.1.trans hb.1) fun B0 H0 σ B H z Q q => z.run ha fun v B1 H1 z1 g1 p1 => z1.run hb fun u B2 H2 z2 g2 p2 => by
    cases p1
    cases p2
    exact ⟨i, j, rfl, hc, fun n hn => tup_end z2.sub (gr_go z1.pot ha.1 g1 g2) (ha.1.trans hb.1) z2.pot hn (.cons (.int _) (.cons (.int _) .nil)) q⟩
/-- pot[j], x = e, e a tuple -/
theorem p_potTup {N : List Str} {x : Str} {i : Int} {d : D} {j : Nat} {o : Expr} {p4 px pt : Pos} {kt : Nat} (hN : X.N = N) (hc : X.calm = true) (hnd : X.N.Nodup) (h : DE X e Δ S (.tup [.int i, d]) S1) (ho : DE X o Δ S1 (.adr p) (some (p, ns))) (hb : DE X b Δ (some (p, ns)) (.int (j : Int)) (some (p, ns))) (hj : j < ns.length)
    (hp : Put N Δ x (.dat d) Δ') (q : ae.nx Δ' (some (p, ns.set j i)))
    (ha : ∀ v, assign (.Subscript o b p4) X.env v = (do
      let ov ← holding [v] (eval o X.env)
      let iv ← holding [v, ov] (eval b X.env)
      standAt p4
      holding [v, ov, iv] (setItem ov iv v)
      release [v, ov, iv] []) := by intro _; rfl)
    (hx : Loc X.env.scope x := by first | exact .inl rfl | exact .inr rfl) (hf : X.fn x = true ∨ X.env.scope.names.lookup x = some .local := by first | exact .inl rfl | exact .inr rfl)
    (hs : swapsWithSole [.Tuple [.Subscript o b p4, .Name x px] kt pt] e pos.line X.env = pure false := by rfl) (hw : swappedStores [.Tuple [.Subscript o b p4, .Name x px] kt pt] e X.env = pure none := by rfl)
    (hq : (assignEach [.Tuple [.Subscript o b p4, .Name x px] kt pt] X.env).map (·.2) = [assign (.Tuple [.Subscript o b p4, .Name x px] kt pt) X.env] := by rfl)
    (hn : (assignEach [.Subscript o b p4, .Name x px] X.env).length = 2 := by rfl) (hst : (assignEach [.Subscript o b p4, .Name x px] X.env).findIdx? (·.1) = none := by rfl)
    (hs1 : (assignEach (.Subscript o b p4 :: [.Name x px]) X.env).map (·.2) = assign (.Subscript o b p4) X.env :: (assignEach [.Name x px] X.env).map (·.2) := by rfl)
    (hs2 : (assignEach (.Name x px :: []) X.env).map (·.2) = assign (.Name x px) X.env :: (assignEach [] X.env).map (·.2) := by rfl) : S1X X (.Assign [.Tuple [.Subscript o b p4, .Name x px] kt pt] e pos) Δ S ae := .mk fun B0 H0 σ B H Dn z r => by
  obtain ⟨l, hp⟩ := hp.a
  refine W1.of (ps_asg W.pe (pg_tup hc (pgs_cons (pg_sub W.pe W.pe set_list ha) (pgs_cons (pg_name hnd (by rw [hN]; exact hp.name) hx hf) pgs_nil hs2) hs1) hn hst) hs hw hq) (z.run h fun v B1 H1 z1 g1 p1 => ?_)
  cases p1 with
  | tup k1 k2 => cases k2 with
    | cons i1 k2 => cases k2 with
      | cons i2 k2 =>
        cases k2
        cases i1
        refine ⟨_, _, rfl, Evl.ex_t z1.sub k1, rfl, _, _, rfl, z1.run ho fun u B2 H2 z2 g2 p2 => z2.run hb fun w B3 H3 z3 g3 p3 => ?_⟩
        cases p2
        cases p3
        refine ⟨p, ns.map V.int, (j : Int), j, rfl, rfl, (z3.pot p ns rfl).2, Evl.ixN_nat (by rw [List.length_map]; exact hj), _, _, rfl, rfl, ?_⟩
        have e1 : (ns.map V.int).set j (V.int i) = (ns.set j i).map V.int := List.map_set.symm
        rw [e1]
        have z4 := (z3.potset (ms := ns.set j i)).put (j := l) ((Is.mono g2.ex i2).mono g3.ex)
        rw [hp.eq] at z4
        exact r.nx _ B3 _ Δ' _ z4 ((h.1.trans ho.1).symm) q

/-- xs[i], xs[j], y = a, b, c: xs a list of one's own -/
theorem p_swap {N : List Str} {x y : Str} {l i j : Nat} {ds : List D} {u v w : D} {b2 : Expr} {p3 p4 p5 p6 px pt pt2 : Pos} {kt k2 : Nat} (hN : X.N = N) (hc : X.calm = true) (hnd : X.N.Nodup) (h : DA X [a, b, c] Δ S [u, v, w] S1) (hi : At N Δ x l (.own ds))
    (h1 : DE X e Δ S1 (.int (i : Int)) S1) (h2 : DE X b2 Δ2 S1 (.int (j : Int)) S1) (hli : i < ds.length) (hlj : j < ds.length) (hp : PutA N Δ x l (.own (ds.set i u)) Δ2) (hp2 : PutA N Δ2 x l (.own ((ds.set i u).set j v)) Δ3) (hp3 : Put N Δ3 y (.dat w) Δ') (q : ae.nx Δ' S1)
    (hv : Vis X.env.scope x := by first | exact Or.inl rfl | exact Or.inr (Or.inl rfl) | exact Or.inr (Or.inr rfl)) (hd : (x == ("__debug__" : Str)) = false := by decide) (hcd : (x == ("__classdict__" : Str)) = false := by decide)
    (ha : ∀ v, assign (.Subscript (.Name x p3) e p4) X.env v = (do
      let ov ← holding [v] (eval (.Name x p3) X.env)
      let iv ← holding [v, ov] (eval e X.env)
      standAt p4
      holding [v, ov, iv] (setItem ov iv v)
      release [v, ov, iv] []) := by intro _; rfl)
    (ha2 : ∀ v, assign (.Subscript (.Name x p5) b2 p6) X.env v = (do
      let ov ← holding [v] (eval (.Name x p5) X.env)
      let iv ← holding [v, ov] (eval b2 X.env)
      standAt p6
      holding [v, ov, iv] (setItem ov iv v)
      release [v, ov, iv] []) := by intro _; rfl)
    (hx : Loc X.env.scope y := by first | exact .inl rfl | exact .inr rfl) (hf : X.fn y = true ∨ X.env.scope.names.lookup y = some .local := by first | exact .inl rfl | exact .inr rfl)
    (hs : swapsWithSole [.Tuple [.Subscript (.Name x p3) e p4, .Subscript (.Name x p5) b2 p6, .Name y px] kt pt] (.Tuple [a, b, c] k2 pt2) pos.line X.env = pure false := by rfl) (hw : swappedStores [.Tuple [.Subscript (.Name x p3) e p4, .Subscript (.Name x p5) b2 p6, .Name y px] kt pt] (.Tuple [a, b, c] k2 pt2) X.env = pure none := by rfl)
    (hq : (assignEach [.Tuple [.Subscript (.Name x p3) e p4, .Subscript (.Name x p5) b2 p6, .Name y px] kt pt] X.env).map (·.2) = [assign (.Tuple [.Subscript (.Name x p3) e p4, .Subscript (.Name x p5) b2 p6, .Name y px] kt pt) X.env] := by rfl)
    (hn : (assignEach [.Subscript (.Name x p3) e p4, .Subscript (.Name x p5) b2 p6, .Name y px] X.env).length = 3 := by rfl) (hst : (assignEach [.Subscript (.Name x p3) e p4, .Subscript (.Name x p5) b2 p6, .Name y px] X.env).findIdx? (·.1) = none := by rfl)
    (hs1 : (assignEach (.Subscript (.Name x p3) e p4 :: [.Subscript (.Name x p5) b2 p6, .Name y px]) X.env).map (·.2) = assign (.Subscript (.Name x p3) e p4) X.env :: (assignEach [.Subscript (.Name x p5) b2 p6, .Name y px] X.env).map (·.2) := by rfl)
    (hs2 : (assignEach (.Subscript (.Name x p5) b2 p6 :: [.Name y px]) X.env).map (·.2) = assign (.Subscript (.Name x p5) b2 p6) X.env :: (assignEach [.Name y px] X.env).map (·.2) := by rfl)
    (hs3 : (assignEach (.Name y px :: []) X.env).map (·.2) = assign (.Name y px) X.env :: (assignEach [] X.env).map (·.2) := by rfl) :
    S1X X (.Assign [.Tuple [.Subscript (.Name x p3) e p4, .Subscript (.Name x p5) b2 p6, .Name y px] kt pt] (.Tuple [a, b, c] k2 pt2) pos) Δ S ae := .mk fun B0 H0 σ B H Dn z r => by
  obtain ⟨m, hp3⟩ := hp3.a
  have hx1 : X.N[l]? = some x := by rw [hN]; exact hi.name
  refine W1.of (ps_asg (pe_tup WA.pa) (pg_tup hc (pgs_cons (pg_sub (pe_var hx1 hv hd hcd) W.pe set_list ha) (pgs_cons (pg_sub (pe_var hx1 hv hd hcd) W.pe set_list ha2) (pgs_cons (pg_name hnd (by rw [hN]; exact hp3.name) hx hf) pgs_nil hs3) hs2) hs1) hn hst) hs hw hq) (z.runA h fun vs B1 H1 z1 g1 p1 => ?_)
  cases p1 with
  | @cons w1 _ _ _ i1 p1 => cases p1 with
    | @cons w2 _ _ _ i2 p1 => cases p1 with
      | @cons w3 _ _ _ i3 p1 =>
        cases p1
        refine ⟨by show 3 ≤ sizeLine; decide, fun n hn => ?_⟩
        have ex2 : Ex B1 (upd B1 n (.tup [w1, w2, w3])) := Evl.Ex.new (Evl.fresh_back z1.sub hn)
        have z2 := z1.grow (PotEq.refl S1) (Gr.data (o := .tup [w1, w2, w3]) z1.sub hn) (z1.pot.upd2 hn)
        refine ⟨_, _, rfl, Evl.st_of upd_same, rfl, _, _, rfl, ?_⟩
        obtain ⟨pp, vs, k1, k2, k3, k4, k5, k6⟩ := z2.own l ds hi.slot
        refine ⟨.ref pp, k1, z2.run h1 fun t B3 H3 z3 g3 p3 => ?_⟩
        cases p3
        have k6' := k6.mono g3.ex
        have k5' := g3.old pp _ k4 k5
        refine ⟨pp, vs, (i : Int), i, rfl, rfl, k5', Evl.ixN_nat (by rw [k6.length]; exact hli), _, _, rfl, ?_⟩
        have z4 := z3.mut hi.slot k1 (k6'.set ((Is.mono ex2 i1).mono g3.ex) i)
        rw [hp.eq] at z4
        refine ⟨.ref pp, k1, z4.run h2 fun t B5 H5 z5 g5 p5 => ?_⟩
        cases p5
        have hi2 : Δ2[l]? = some (Sl.own (ds.set i u)) := by
          rw [← hp.eq]
          exact List.getElem?_set_self (List.getElem?_eq_some_iff.mp hi.slot).1
        obtain ⟨pp2, vs2, m1, m2, m3, m4, m5, m6⟩ := z5.own l _ hi2
        have e : pp2 = pp := V.ref.inj (Option.some.inj (Option.some.inj (m1.symm.trans k1)))
        subst e
        refine ⟨pp2, vs2, (j : Int), j, rfl, rfl, m5, Evl.ixN_nat (by rw [m6.length, List.length_set]; exact hlj), _, _, rfl, rfl, ?_⟩
        have z6 := z5.mut hi2 m1 (m6.set (((Is.mono ex2 i2).mono g3.ex).mono g5.ex) j)
        rw [hp2.eq] at z6
        have z7 := z6.put (j := m) (((Is.mono ex2 i3).mono g3.ex).mono g5.ex)
        rw [hp3.eq] at z7
        exact r.nx _ B5 _ Δ' _ z7 h.1.symm q
end
end Ab

set_option Elab.async false
set_option linter.all false
set_option autoImplicit false
set_option maxRecDepth 100000
set_option maxHeartbeats 2000000
/-! New instances, methods, keywords. -/
namespace Ab
open PySem PySem.Spec PyProof.Rows L2 RZ

/-! ### fields -/
def putD (f : Str) (d : D) : List (Str × D) → List (Str × D)
  | [] => [(f, d)]
  | (g, x) :: r => if g = f then (g, d) :: r else (g, x) :: putD f d r
theorem AllF.put {K : PySem.W.Frag} {B : Hp} {f : Str} {v : V} {d : D} (i : Is K B v d) : ∀ {fv : List (Str × V)} {fs : List (Str × D)}, AllF K B fv fs → AllF K B (putF f v fv) (putD f d fs)
  | _, _, .nil => .cons i .nil
  | _, _, .cons (n := g) h t => by
    unfold putF putD
    by_cases e : g = f
    · rw [if_pos e, if_pos e]
      exact .cons i t
    · rw [if_neg e, if_neg e]
      exact .cons h (AllF.put i t)
theorem AllF.length {K : PySem.W.Frag} {B : Hp} : ∀ {fv : List (Str × V)} {fs : List (Str × D)}, AllF K B fv fs → fv.length = fs.length
  | _, _, .nil => rfl
  | _, _, .cons _ t => congrArg Nat.succ t.length
def gFld (K : PySem.W.Frag) (to : TE) (f : Str) : TG := fun v σ H Q => to σ H fun x H2 => ∃ a C dx fs, x = .ref a ∧ H2 a = some (.ins C dx fs) ∧ Cls K C ∧ NoAttr K C f ∧ fs.length < 1000 ∧ Q σ (upd H2 a (.ins C dx (putF f v fs)))
section
variable {X : Cx} {Δ Δ' Δ2 Δ3 : List Sl} {S S1 S2 S3 : PotS} {pos : Pos} {a b c e o : Expr} {es : List Expr} {ss : List Sl} {ae : AE} {x dx C : Addr} {fs : List (Str × D)} {f g : Str}
theorem pg_fld {to : TE} (ho : PE X o to) : PG X (.Attribute o f pos) (gFld X.K to f) := by
  refine ⟨fun pins s σ H v u Q I r h => ?_⟩
  show wpAny _ _ (do
    let ov ← holding [u] (eval o X.env)
    standAt pos.atName
    holding [u, ov] (setAttr ov f u)
    release [u, ov] []) _ _ s
  refine wpAny_bind (wpAny_holding (thn (ho.run pins s σ H _ I h) fun ov s1 ⟨y, H1, I1, r1, a, C, dx, fs, ey, ea, c, n, l, q⟩ => ?_))
  subst ey
  obtain rfl : ov = Value.ref a := r1
  refine wpAny_bind (wpAny_standAt (wpAny_bind (wpAny_holding (setattr_ok I1 ea c n l r fun s3 I3 => ?_))))
  exact wpAny_release ⟨σ, _, I3, q⟩
theorem Stt.mkAt {K : PySem.W.Frag} {B0 H0 B H : Hp} {σ : L2.St} {i : Nat} (z : Stt K B0 H0 σ B H Δ S) (h : Δ[i]? = some (.mk x dx C fs)) : ∃ fv, σ[i]? = some (some (.ref x)) ∧ H x = some (.ins C dx fv) ∧ AllF K B fv fs := by
  obtain ⟨p, as, h1, h2, h3⟩ := z.hold i _ h rfl
  cases h2 with
  | mk k1 k2 => exact ⟨_, h1, k1, k2⟩
theorem Stt.setF {K : PySem.W.Frag} {B0 H0 B H : Hp} {σ : L2.St} {i : Nat} {fv : List (Str × V)} {v : V} {d : D} (z : Stt K B0 H0 σ B H Δ S) (h : Δ[i]? = some (.mk x dx C fs)) (h1 : σ[i]? = some (some (.ref x))) (h2 : H x = some (.ins C dx fv)) (h3 : AllF K B fv fs) (hv : Is K B v d) :
    Stt K B0 H0 σ B (upd H x (.ins C dx (putF f v fv))) (Δ.set i (.mk x dx C (putD f d fs))) S :=
  z.mutR h h1 (.mk h2 h3) (.mk upd_same (h3.put hv)) (fun q hq => .inl hq) fun a o ho hna => by
    rw [upd_ne (fun k => hna (by rw [k]; exact List.mem_cons_self))]
    exact ho
/-- self.f = e -/
theorem p_setF {N : List Str} {y : Str} {i : Nat} {d : D} {p1 p2 : Pos} (hN : X.N = N) (h : DE X e Δ S d S1) (hi : At N Δ y i (.mk x dx C fs)) (hp : PutA N Δ y i (.mk x dx C (putD f d fs)) Δ') (c : Cls X.K C) (n : NoAttr X.K C f) (hl : fs.length < 1000) (q : ae.nx Δ' S1)
    (hv : Vis X.env.scope y := by first | exact Or.inl rfl | exact Or.inr (Or.inl rfl) | exact Or.inr (Or.inr rfl)) (hd : (y == ("__debug__" : Str)) = false := by decide) (hcd : (y == ("__classdict__" : Str)) = false := by decide)
    (hs : swapsWith e (some (.Attribute (.Name y p1) f p2)) pos.line X.env = pure false := by rfl) : S1X X (.Assign [.Attribute (.Name y p1) f p2] e pos) Δ S ae := .mk fun B0 H0 σ B H Dn z r => by
  refine W1.of (ps_fld (pe_var (by rw [hN]; exact hi.name) hv hd hcd) W.pe hs) (z.run h fun v B1 H1 z1 g1 p1 => ?_)
  obtain ⟨fv, k1, k2, k3⟩ := z1.mkAt hi.slot
  refine ⟨.ref x, k1, x, C, dx, fv, rfl, k2, c, n, by rw [k3.length]; exact hl, ?_⟩
  have z2 := z1.setF (f := f) hi.slot k1 k2 k3 p1
  rw [hp.eq] at z2
  exact r.nx _ B1 _ Δ' _ z2 h.1.symm q
/-- self.f, self.g = a, b -/
theorem p_setF2 {N : List Str} {y : Str} {i : Nat} {d1 d2 : D} {p1 p2 p3 p4 pt pt2 : Pos} {kt k2 : Nat} (hN : X.N = N) (hc : X.calm = true) (h : DA X [a, b] Δ S [d1, d2] S1) (hi : At N Δ y i (.mk x dx C fs)) (hp : PutA N Δ y i (.mk x dx C (putD g d2 (putD f d1 fs))) Δ') (c : Cls X.K C) (n : NoAttr X.K C f) (n2 : NoAttr X.K C g) (hl : fs.length < 900) (q : ae.nx Δ' S1)
    (hv : Vis X.env.scope y := by first | exact Or.inl rfl | exact Or.inr (Or.inl rfl) | exact Or.inr (Or.inr rfl)) (hd : (y == ("__debug__" : Str)) = false := by decide) (hcd : (y == ("__classdict__" : Str)) = false := by decide)
    (hs : swapsWithSole [.Tuple [.Attribute (.Name y p1) f p2, .Attribute (.Name y p3) g p4] kt pt] (.Tuple [a, b] k2 pt2) pos.line X.env = pure false := by rfl) (hw : swappedStores [.Tuple [.Attribute (.Name y p1) f p2, .Attribute (.Name y p3) g p4] kt pt] (.Tuple [a, b] k2 pt2) X.env = pure none := by rfl)
    (hq : (assignEach [.Tuple [.Attribute (.Name y p1) f p2, .Attribute (.Name y p3) g p4] kt pt] X.env).map (·.2) = [assign (.Tuple [.Attribute (.Name y p1) f p2, .Attribute (.Name y p3) g p4] kt pt) X.env] := by rfl)
    (hn : (assignEach [.Attribute (.Name y p1) f p2, .Attribute (.Name y p3) g p4] X.env).length = 2 := by rfl) (hst : (assignEach [.Attribute (.Name y p1) f p2, .Attribute (.Name y p3) g p4] X.env).findIdx? (·.1) = none := by rfl)
    (hs1 : (assignEach (.Attribute (.Name y p1) f p2 :: [.Attribute (.Name y p3) g p4]) X.env).map (·.2) = assign (.Attribute (.Name y p1) f p2) X.env :: (assignEach [.Attribute (.Name y p3) g p4] X.env).map (·.2) := by rfl)
    (hs2 : (assignEach (.Attribute (.Name y p3) g p4 :: []) X.env).map (·.2) = assign (.Attribute (.Name y p3) g p4) X.env :: (assignEach [] X.env).map (·.2) := by rfl) :
    S1X X (.Assign [.Tuple [.Attribute (.Name y p1) f p2, .Attribute (.Name y p3) g p4] kt pt] (.Tuple [a, b] k2 pt2) pos) Δ S ae := .mk fun B0 H0 σ B H Dn z r => by
  have hx1 : X.N[i]? = some y := by rw [hN]; exact hi.name
  refine W1.of (ps_asg (pe_tup WA.pa) (pg_tup hc (pgs_cons (pg_fld (pe_var hx1 hv hd hcd)) (pgs_cons (pg_fld (pe_var hx1 hv hd hcd)) pgs_nil hs2) hs1) hn hst) hs hw hq) (z.runA h fun vs B1 H1 z1 g1 p1 => ?_)
  cases p1 with
  | @cons w1 _ _ _ i1 p1 => cases p1 with
    | @cons w2 _ _ _ i2 p1 =>
        cases p1
        refine ⟨by show 2 ≤ sizeLine; decide, fun n hn => ?_⟩
        have ex2 : Ex B1 (upd B1 n (.tup [w1, w2])) := Evl.Ex.new (Evl.fresh_back z1.sub hn)
        have z2 := z1.grow (PotEq.refl S1) (Gr.data (o := .tup [w1, w2]) z1.sub hn) (z1.pot.upd2 hn)
        refine ⟨_, _, rfl, Evl.st_of upd_same, rfl, _, _, rfl, ?_⟩
        obtain ⟨fv, k1, k2, k3⟩ := z2.mkAt hi.slot
        refine ⟨.ref x, k1, x, C, dx, fv, rfl, k2, c, by assumption, by rw [k3.length]; omega, _, _, rfl, ?_⟩
        have z3 := z2.setF (f := f) hi.slot k1 k2 k3 (Is.mono ex2 i1)
        have hi2 : (Δ.set i (.mk x dx C (putD f d1 fs)))[i]? = some (.mk x dx C (putD f d1 fs)) := List.getElem?_set_self (List.getElem?_eq_some_iff.mp hi.slot).1
        obtain ⟨fv2, m1, m2, m3⟩ := z3.mkAt hi2
        refine ⟨.ref x, m1, x, C, dx, fv2, rfl, m2, c, n2, ?_, rfl, ?_⟩
        · rw [m3.length]
          have hlen : ∀ fs : List (Str × D), (putD f d1 fs).length ≤ fs.length + 1 := fun fs => by
            induction fs with
            | nil => exact Nat.le_refl _
            | cons q fs ih =>
              obtain ⟨u, w⟩ := q
              unfold putD
              split
              · rw [List.length_cons, List.length_cons]
                omega
              · rw [List.length_cons, List.length_cons]
                omega
          have := hlen fs
          omega
        have z4 := z3.setF (f := g) hi2 m1 m2 m3 (Is.mono ex2 i2)
        rw [List.set_set, hp.eq] at z4
        exact r.nx _ _ _ Δ' _ z4 h.1.symm q
/-- o.f of the instance that is being made -/
theorem de_fldM {N : List Str} {y : Str} {i : Nat} {d : D} {p1 : Pos} (hN : X.N = N) (hi : At N Δ y i (.mk x dx C fs)) (hf : fs.lookup f = some d) (c : Cls X.K C) (n : NoAttr X.K C f)
    (hv : Vis X.env.scope y := by first | exact Or.inl rfl | exact Or.inr (Or.inl rfl) | exact Or.inr (Or.inr rfl)) (hd : (y == ("__debug__" : Str)) = false := by decide) (hcd : (y == ("__classdict__" : Str)) = false := by decide)
    (hb : attributeBase (.Name y p1) f X.env (eval (.Name y p1) X.env) = eval (.Name y p1) X.env := by rfl) : DE X (.Attribute (.Name y p1) f pos) Δ S d S :=
  DG.by (pe_fld (pe_var (by rw [hN]; exact hi.name) hv hd hcd) hb) (PotEq.refl S) fun B0 H0 σ B H z Q q => by
    obtain ⟨fv, k1, k2, k3⟩ := z.mkAt hi.slot
    obtain ⟨v, h3, h4⟩ := k3.lookup hf
    exact ⟨.ref x, k1, x, C, dx, fv, v, rfl, k2, c, n, h3, q v B H (Gr.refl z.sub) z.pot h4⟩
/-- the start of an __init__ -/
theorem stt_mk {K : PySem.W.Frag} {B H : Hp} {n : Str} {N : List Str} {us : List V} {ds : List D} (ex : Ex B H) (hx : H x = some (.ins C dx [])) (hb : B x = none) (ha : All K B us ds) :
    Stt K B (fun a => if a = x then none else H a) (start (n :: N) (.ref x :: us)) B H (.mk x dx C [] :: startD N ds) none := by
  have hl := ha.length
  have z0 : Stt K B H (start N us) B H (startD N ds) none := stt_start ex ha (fun _ _ e => nomatch e)
  have es : start (n :: N) (.ref x :: us) = some (V.ref x) :: start N us := by
    unfold L2.start
    simp [Nat.succ_sub_succ]
  rw [es]
  refine ⟨⟨Evl.Ex.refl B, fun a o _ h => ?_, fun a o h1 h2 => (nomatch h1.symm.trans h2), ex⟩, by rw [List.length_cons, List.length_cons, z0.len], fun i d h => ?_, fun i s h hs => ?_, fun i j s t p q as bs hij h1 h2 _ _ k l => ?_, fun _ _ e => nomatch e⟩
  · by_cases e : a = x
    · rw [if_pos e] at h
      cases h
    · rw [if_neg e] at h
      exact h
  · cases i with
    | zero => cases h
    | succ i =>
      obtain ⟨v, k1, k2⟩ := z0.dat i d (by simpa using h)
      exact ⟨v, by simpa using k1, k2⟩
  · cases i with
    | zero =>
      have e : Sl.mk x dx C [] = s := by simpa using h
      subst e
      refine ⟨x, [x], rfl, .mk hx .nil, fun q hq => ?_⟩
      rcases List.mem_cons.mp hq with rfl | hq
      · exact ⟨hb, if_pos rfl, fun ⟨_, e⟩ => nomatch e⟩
      · cases hq
    | succ i =>
      rw [startD_hold (N := N) (ds := ds) (i := i) (by simpa using h)] at hs
      cases hs
  · have z : ∀ {i : Nat} {s : Sl}, (Sl.mk x dx C [] :: startD N ds)[i]? = some s → s.hold = true → i = 0 := fun {i s} h hs => by
      cases i with
      | zero => rfl
      | succ i =>
        rw [startD_hold (N := N) (ds := ds) (i := i) (by simpa using h)] at hs
        cases hs
    exact absurd ((z h1 k.holds).trans (z h2 l.holds).symm) hij
/-- a promise of an __init__ -/
theorem sx_init {body : List Stmt} {n : Str} {N : List Str} {R : List D → List (Str × D) → Prop} {vs : List V} {H : Hp} {Q : VK} {E : XK} (hN : X.N = n :: N) (hsp : spInit X.K C R vs H Q E)
    (h : ∀ x dx ds fs, R ds fs → SX X body (.mk x dx C [] :: startD N ds) none { nx := fun Δ' S' => S' = none ∧ ∃ Δr, Δ' = .mk x dx C fs :: Δr, rt := fun _ _ => False }) :
    ∃ t, PSs X body t ∧ t { nx := fun _ H' => Q .non H', rt := Q } (start X.N vs) H := by
  obtain ⟨x, dx, us, B, ds, fs, rfl, hx, hb, ex, ha, hr, q⟩ := hsp
  rw [hN]
  refine ⟨WS X body, WS.ps, (h x dx ds fs hr).run B _ _ B H _ (stt_mk ex hx hb ha) ⟨fun σ B2 H2 Δ S2 z e k => ?_, fun v B2 H2 d2 S2 g po2 e i k => k.elim, fun _ _ _ _ _ _ _ k => k.elim, fun _ _ _ _ _ _ _ k => k.elim, fun _ _ _ _ _ _ _ _ _ k => k.elim⟩⟩
  obtain ⟨rfl, Δr, rfl⟩ := k
  obtain ⟨fv, k1, k2, k3⟩ := z.mkAt (i := 0) rfl
  obtain ⟨p, as, m1, m2, m3⟩ := z.hold 0 _ rfl rfl
  have hb2 : B2 x = none := by
    cases m2 with
    | mk _ _ => exact (m3 _ List.mem_cons_self).1
  refine q B2 H2 fv z.gr.ex z.sub hb2 (fun a u hne hu => z.gr.old a u (fun ⟨_, e⟩ => nomatch e) ?_) (fun a u h1 h2 => ?_) k2 k3
  · show (if a = x then none else H a) = some u
    rw [if_neg hne]
    exact hu
  · have w := z.gr.new a u h1 h2
    have w2 : (if a = x then none else H a) = none := w
    by_cases e : a = x
    · subst e
      rw [hb2] at h1
      cases h1
    · rw [if_neg e] at w2
      exact w2
end

/-! ### methods, by their functions -/
structure OkA (P : Program) (w : World) (K : PySem.W.Frag) (mg : Str → Option Value) (base : Heap) (f : Addr) (k : Nat) (R : Sig) : Prop where
  ex : ∃ fd ps, PySem.W.keepIn K (.ref f) = true ∧ Binds K fd ps [] ∧ FnOk P w K mg base CX0 k f fd ps (spOf K R)
theorem oka_of {P : Program} {w : World} {K : PySem.W.Frag} {mg : Str → Option Value} {base : Heap} {x qual : Str} {params : Arguments} {body : List Stmt} {sc : Scope} {N ps : List Str} {f : Addr} {k : Nat} {R : Sig}
    (F : ∃ fd, FunD K x qual params body sc [] [] f fd) (S : FnScope N ps sc)
    (hb : ∀ (kV doc pm : Value) (an : Option Addr) (cdv ct : Value) (us : List Value), us.length = ps.length → bindArgs (PySem.W.fnOf x qual params body sc .none kV doc pm an cdv ct) ⟨us, []⟩ = pure (ps.zip us))
    (hl : ∀ ds S d S', R ds S d S' → ds.length = ps.length)
    (h : ∀ (f : Addr) (cdv : Value) (A : Around) (outer : List Env) (s : Shared) (H : Hp) (E : XK), Room k (cxOf CX0 P w K mg base N qual sc f cdv A outer s H E).nox.A → ∀ ds S d S', PotEq S S' → R ds S d S' →
      SX (cxOf CX0 P w K mg base N qual sc f cdv A outer s H E).nox body (startD N ds) S (endOf d S')) : OkA P w K mg base f (k + 1) R := by
  obtain ⟨fd, F⟩ := F
  refine ⟨fd, ps, F.kp, F.bindsN hb, F.ok S (sp_len hl) fun cdv A outer s H vs Q E hr hsp => ?_⟩
  obtain ⟨t, ht, q⟩ := sx_fn (X := (cxOf CX0 P w K mg base N qual sc f cdv A outer s H E).nox) (E := E) hsp fun ds S d S' eq hR => h f cdv A outer s H E hr ds S d S' eq hR
  exact ⟨t, ht.nox, q⟩
/-- a class that is made: dd the defaults of its __init__ -/
structure OkI (P : Program) (w : World) (K : PySem.W.Frag) (mg : Str → Option Value) (base : Heap) (x : Str) (C : Addr) (k : Nat) (dd : List D) (R : List D → List (Str × D) → Prop) : Prop where
  ex : ∃ f fd ps dvs dsV, mg x = some (.ref C) ∧ Mk K C f ∧ Binds K fd ps dsV ∧ Vals dvs dsV ∧ (∀ B, All K B dvs dd) ∧ FnOk P w K mg base CX0 k f fd ps (spInit K C R)
section
variable {X : Cx} {Δ Δ' Δ2 Δ3 : List Sl} {S S1 S2 S3 : PotS} {pos : Pos} {a b c e o : Expr} {es : List Expr} {ss : List Sl} {ae : AE} {C f : Addr} {fs gs : List (Str × D)} {R : Sig} {k : Nat} {j : Nat} {d : D} {ds dd : List D} {x : Str} {p : Pos}
theorem de_new {RI : List D → List (Str × D) → Prop} (F : OkI X.prog X.w X.K X.mg X.base x C k dd RI) (hr : Room j X.A) (hj : k + 1 ≤ j) (hg : Gl X x) (ha : DA X (e :: es) Δ S ds S1) (hR : RI (ds ++ dd) fs)
    (hdb : (x == ("__debug__" : Str)) = false := by decide) (he : starEach (e :: es) X.env = (false, eval e X.env) :: starEach es X.env := by rfl) (hpl : (backTo pos (starEach es X.env)).any (·.1) = false := by rfl) : DE X (.Call (.Name x p) (e :: es) [] pos) Δ S (.ins C fs) S1 := by
  obtain ⟨f, fd, ps, dvs, dsV, h1, h2, h3, h4, h5, h6⟩ := F.ex
  exact de_make h2 h6 (hr.mono hj) hg h1 h3 h4 h5 ha hR hdb he hpl
theorem de_propA {g q : Addr} {fl : Str} (F : OkA X.prog X.w X.K X.mg X.base g k R) (hr : Room j X.A) (hj : k + 1 ≤ j) (ha : DE X a Δ S (.ins C fs) S1) (c : Cls X.K C) (hp : PropOf X.K C fl q g) (hR : R [.ins C fs] S1 d S1)
    (hab : attributeBase a fl X.env (eval a X.env) = eval a X.env := by rfl) : DE X (.Attribute a fl pos) Δ S d S1 := by
  obtain ⟨fd, ps, h1, h2, h3⟩ := F.ex
  exact de_prop ha c hp h3 hr hj h2 hR hab
theorem db_eqA {t : Bool} (o : OwnQ X.K C f) (F : OkA X.prog X.w X.K X.mg X.base f k R) (hr : Room j X.A) (hj : k ≤ j) (ha : DE X a Δ S (.ins C fs) S1) (hb : DE X b Δ S1 (.ins C gs) S2) (hR : R [.ins C fs, .ins C gs] S2 (.bl t) S2) : DB X (.Compare a [.Eq] [b] pos) Δ S t S2 := by
  obtain ⟨fd, ps, h1, h2, h3⟩ := F.ex
  exact db_ownEq o h3 hr hj h2 ha hb hR
theorem db_neA {t : Bool} (o : OwnQ X.K C f) (F : OkA X.prog X.w X.K X.mg X.base f k R) (hr : Room j X.A) (hj : k + 1 ≤ j) (ha : DE X a Δ S (.ins C fs) S1) (hb : DE X b Δ S1 (.ins C gs) S2) (hR : R [.ins C fs, .ins C gs] S2 (.bl t) S2) : DB X (.Compare a [.NotEq] [b] pos) Δ S (!t) S2 := by
  obtain ⟨fd, ps, h1, h2, h3⟩ := F.ex
  exact db_ownNe o h3 hr hj h2 ha hb hR

/-! ### keywords only -/
def WK (X : Cx) (kws : List Keyword) : TA := fun σ H Q => ∀ (pos : Pos) (pins : List (Addr × Obj)) (s : Shared), Inv X pins σ H s → wpAny (model X.prog X.w) X.A (evalAll ((backToKw pos (keywordEach kws X.env)).map (·.2))) (AP X pins σ Q) X.xe s
theorem WK.pk {kws : List Keyword} : PK X kws (WK X kws) := ⟨fun pos pins s σ H Q I h => h pos pins s I⟩
theorem WK.of {kws : List Keyword} {t : TA} (h : PK X kws t) {σ : L2.St} {H : Hp} {Q : List V → Hp → Prop} (q : t σ H Q) : WK X kws σ H Q := fun pos pins s I => h.run pos pins s σ H Q I q
structure DK (X : Cx) (kws : List Keyword) (Δ : List Sl) (S : PotS) (ds : List D) (S' : PotS) : Prop where
  eq : PotEq S S'
  run : ∀ B0 H0 σ B H, Stt X.K B0 H0 σ B H Δ S → ∀ Q : List V → Hp → Prop, (∀ vs B2 H2, Gr S B H B2 H2 → PotOk S' B2 H2 → All X.K B2 vs ds → Q vs H2) → WK X kws σ H Q
theorem dk_nil : DK X [] Δ S [] S := ⟨PotEq.refl S, fun B0 H0 σ B H z Q q => WK.of pk_nil (q [] B H (Gr.refl z.sub) z.pot .nil)⟩
theorem dk_cons {nm : Option Str} {kpos : Pos} {kws : List Keyword} (ha : DE X e Δ S d S1) (hr : DK X kws Δ S1 ds S2) : DK X (⟨nm, e, kpos⟩ :: kws) Δ S (d :: ds) S2 :=
  ⟨ha.1.trans hr.1, fun B0 H0 σ B H z Q q => WK.of (pk_cons W.pe WK.pk) (z.run ha fun v B1 H1 z1 g1 p1 => hr.2 B0 H0 σ B1 H1 z1 _ fun vs B2 H2 g2 po2 p2 =>
    q _ B2 H2 (gr_go z1.pot ha.1 g1 g2) po2 (.cons (Is.mono g2.ex p1) p2))⟩
/-- a def called by keywords alone, as they are written: ks; perm puts the values in the parameters' order -/
structure OkK (P : Program) (w : World) (K : PySem.W.Frag) (mg : Str → Option Value) (base : Heap) (x : Str) (k : Nat) (ks : List Str) (perm : {α : Type} → List α → List α) (R : Sig) : Prop where
  ex : ∃ f fd ps, mg x = some (.ref f) ∧ PySem.W.keepIn K (.ref f) = true ∧ (∀ (s : Shared) (ws : List Value), K.In s.heap → ws.length = ks.length → (perm ws).length = ps.length → BindsTo s fd ⟨[], ks.zip ws⟩ (ps.zip (perm ws))) ∧ FnOk P w K mg base CX0 k f fd ps (spOf K R)
theorem okk_of {P : Program} {w : World} {K : PySem.W.Frag} {mg : Str → Option Value} {base : Heap} {params : Arguments} {body : List Stmt} {sc : Scope} {N ps ks : List Str} {f : Addr} {perm : {α : Type} → List α → List α}
    (g : mg x = some (.ref f)) (F : ∃ fd, FunD K x x params body sc [] [] f fd) (S : FnScope N ps sc)
    (hb : ∀ (kV doc pm : Value) (an : Option Addr) (cdv ct : Value) (ws : List Value), ws.length = ks.length → bindArgs (PySem.W.fnOf x x params body sc .none kV doc pm an cdv ct) ⟨[], ks.zip ws⟩ = pure (ps.zip (perm ws)))
    (hl : ∀ ds S d S', R ds S d S' → ds.length = ps.length)
    (h : ∀ (f : Addr) (cdv : Value) (A : Around) (outer : List Env) (s : Shared) (H : Hp) (E : XK), Room k (cxOf CX0 P w K mg base N x sc f cdv A outer s H E).nox.A → ∀ ds S d S', PotEq S S' → R ds S d S' →
      SX (cxOf CX0 P w K mg base N x sc f cdv A outer s H E).nox body (startD N ds) S (endOf d S')) : OkK P w K mg base x (k + 1) ks @perm R := by
  obtain ⟨fd, F⟩ := F
  refine ⟨f, fd, ps, g, F.kp, fun s ws _ hlen _ => ?_, F.ok S (sp_len hl) fun cdv A outer s H vs Q E hr hsp => ?_⟩
  · obtain ⟨oc, od, dV, kV, doc, pm, an, cdv, ct, osl, rfl, lk, hcd, hD, hK⟩ := F.ex
    rcases hD with ⟨_, rfl⟩ | ⟨e, _⟩
    · exact .of_eq (hb kV doc pm an cdv ct ws hlen)
    · exact absurd rfl e
  · obtain ⟨t, ht, q⟩ := sx_fn (X := (cxOf CX0 P w K mg base N x sc f cdv A outer s H E).nox) (E := E) hsp fun ds S d S' eq hR => h f cdv A outer s H E hr ds S d S' eq hR
    exact ⟨t, ht.nox, q⟩
theorem de_kw {kws : List Keyword} {ks : List Str} {perm : {α : Type} → List α → List α} (F : OkK X.prog X.w X.K X.mg X.base x k ks @perm R) (hr : Room j X.A) (hj : k ≤ j) (hg : Gl X x) (hk : DK X kws Δ S ds S1) (hlen : ds.length = ks.length)
    (hper : ∀ (vs : List V) (us : List Value), Vals vs us → Vals (perm vs) (perm us)) (hperA : ∀ (B : Hp) (vs : List V), All X.K B vs ds → All X.K B (perm vs) (perm ds)) (eq : PotEq S1 S2) (hR : R (perm ds) S1 d S2)
    (hall : (backToKw pos (keywordEach kws X.env)).all (·.1.isSome) = true := by rfl) (hks : (backToKw pos (keywordEach kws X.env)).filterMap (·.1) = ks := by rfl)
    (hdb : (x == ("__debug__" : Str)) = false := by decide) (hpl : ((backTo pos (starEach [] X.env)).any (·.1) || (backToKw pos (keywordEach kws X.env)).any (·.1.isNone)) = false := by rfl) : DE X (.Call (.Name x p) [] kws pos) Δ S d S2 := by
  obtain ⟨f, fd, ps, h1, h2, h3, h4⟩ := F.ex
  refine ⟨hk.1.trans eq, fun B0 H0 σ B H z Q q => ?_⟩
  refine fun pins s I => ?_
  refine wpAny_Call_Name_kw (ld_glob I hg h1 ?_ hdb)
  refine PySem.W.callWith_KW0 (h₀ := X.base) I.ok.mod.kin h2 hall ?_ hpl
  refine thn (hk.2 B0 H0 σ B H z (fun vs H1 => ∃ B1, Gr S B H B1 H1 ∧ PotOk S1 B1 H1 ∧ All X.K B1 vs ds) (fun vs B1 H1 g1 po1 a1 => ⟨B1, g1, po1, a1⟩) pos pins s I) fun ws s2 ⟨zs, H2, I2, rz, B1, g1, po1, a1⟩ => ⟨I2.kIn, ?_⟩
  rw [hks]
  have hsp : spOf X.K R (perm zs) H2 Q E0 := ⟨B1, perm ds, S1, d, S2, (g1.sub), hperA B1 zs a1, po1, eq, hR, fun v B2 H3 g2 po2 i => q v B2 H3 (gr_go po1 hk.1 g1 g2) po2 i⟩
  have hl := h4.len _ _ _ _ hsp
  have rp := hper zs ws rz
  refine wpAny_call (codeAny_mono (h4.run X.A X.stack s2 H2 ⟨[], ks.zip ws⟩ (perm ws) (perm zs) Q E0 (hr.mono hj) I2.env0 (h3 s2 ws I2.kIn (by rw [← rz.length, a1.length]; exact hlen) (by rw [← rp.length]; exact hl)) rp hsp) fun r s' hq => ?_)
  cases r with
  | error e => exact pass0 pins σ H2 s2 e s' I2 hq
  | ok fl =>
    cases fl with
    | ret w => exact I2.after hq
    | next => exact False.elim hq
    | brk => exact False.elim hq
    | cont => exact False.elim hq
end
end Ab

set_option Elab.async false
set_option linter.all false
set_option autoImplicit false
set_option maxRecDepth 100000
set_option maxHeartbeats 2000000
/-! Lists of lists that are one's own. -/
namespace Ab
open PySem PySem.Spec PyProof.Rows L2 RZ

section
variable {K : PySem.W.Frag} {B B0 H0 H H' B2 H2 : Hp} {σ : L2.St} {Δ Δ' : List Sl} {S S1 : PotS}
theorem RowsR.get : ∀ {ps : List Addr} {rs : List (List D)} {i : Nat} {r : List D}, RowsR K B H ps rs → rs[i]? = some r → ∃ q vs, ps[i]? = some q ∧ H q = some (.lst vs) ∧ All K B vs r
  | _, _, _, _, .nil, e => by simp at e
  | _, _, 0, _, .cons h a t, e => by
    simp at e
    subst e
    exact ⟨_, _, rfl, h, a⟩
  | _, _, i + 1, r, .cons h a t, e => by
    obtain ⟨q, vs, h1, h2⟩ := RowsR.get (i := i) (r := r) t (by simpa using e)
    exact ⟨q, vs, by simpa using h1, h2⟩
theorem RowsR.getP : ∀ {ps : List Addr} {rs : List (List D)} {i : Nat} {q : Addr}, RowsR K B H ps rs → ps[i]? = some q → ∃ r vs, rs[i]? = some r ∧ H q = some (.lst vs) ∧ All K B vs r
  | _, _, _, _, .nil, e => by simp at e
  | _, _, 0, _, .cons h a t, e => by
    simp at e
    subst e
    exact ⟨_, _, rfl, h, a⟩
  | _, _, i + 1, r, .cons h a t, e => by
    obtain ⟨q, vs, h1, h2⟩ := RowsR.getP (i := i) (q := r) t (by simpa using e)
    exact ⟨q, vs, by simpa using h1, h2⟩
theorem RowsR.append {q : Addr} {vs : List V} {r : List D} (h : H q = some (.lst vs)) (a : All K B vs r) : ∀ {ps : List Addr} {rs : List (List D)}, RowsR K B H ps rs → RowsR K B H (ps ++ [q]) (rs ++ [r])
  | _, _, .nil => .cons h a .nil
  | _, _, .cons k b t => .cons k b (RowsR.append h a t)
/-- row i is q now -/
theorem RowsR.set {q : Addr} {vs : List V} {r : List D} (hq : H' q = some (.lst vs)) (a : All K B vs r) : ∀ {ps : List Addr} {rs : List (List D)} (i : Nat), RowsR K B H ps rs → (∀ (j : Nat) (p : Addr), ps[j]? = some p → j ≠ i → H' p = H p) → RowsR K B H' (ps.set i q) (rs.set i r)
  | _, _, _, .nil, _ => .nil
  | _, _, 0, .cons k b t, f => .cons hq a (t.mono (Evl.Ex.refl B) fun p hp => by
    obtain ⟨j, hj⟩ := List.getElem?_of_mem hp
    exact f (j + 1) p (by simpa using hj) (by omega))
  | _, _, i + 1, .cons k b t, f => .cons (by rw [f 0 _ rfl (by omega)]; exact k) b (RowsR.set hq a i t fun j p hj hne => f (j + 1) p (by simpa using hj) (by omega))
theorem nodup_get : ∀ {l : List Addr}, l.Nodup → ∀ {i j : Nat} {a : Addr}, l[i]? = some a → l[j]? = some a → i = j
  | [], _, i, j, a, hi, _ => by simp at hi
  | x :: l, h, i, j, a, hi, hj => by
    obtain ⟨h1, h2⟩ := List.nodup_cons.mp h
    cases i with
    | zero =>
      cases j with
      | zero => rfl
      | succ j =>
        have e : x = a := by simpa using hi
        exact absurd (List.mem_of_getElem? (show l[j]? = some x by rw [e]; simpa using hj)) h1
    | succ i =>
      cases j with
      | zero =>
        have e : x = a := by simpa using hj
        exact absurd (List.mem_of_getElem? (show l[i]? = some x by rw [e]; simpa using hi)) h1
      | succ j => rw [nodup_get h2 (show l[i]? = some a by simpa using hi) (show l[j]? = some a by simpa using hj)]
/-- a grid's objects -/
theorem Stt.gridAt {i : Nat} {rs : List (List D)} (z : Stt K B0 H0 σ B H Δ S) (h : Δ[i]? = some (.grid rs)) : ∃ p ps, σ[i]? = some (some (.ref p)) ∧ H p = some (.lst (ps.map V.ref)) ∧ RowsR K B H ps rs ∧ (p :: ps).Nodup ∧ ∀ q, q ∈ p :: ps → B q = none ∧ H0 q = none ∧ ¬ PotM S q := by
  obtain ⟨p, as, h1, h2, h3⟩ := z.hold i _ h rfl
  cases h2 with
  | grid k1 k2 k3 => exact ⟨p, _, h1, k1, k2, k3, h3⟩
theorem Stt.toGrid {i : Nat} (z : Stt K B0 H0 σ B H Δ S) (h : Δ[i]? = some (.own [])) : Stt K B0 H0 σ B H (Δ.set i (.grid [])) S := by
  obtain ⟨p, vs, h1, h2, h3, h4, h5, h6⟩ := z.own i _ h
  have e : vs = [] := by
    cases h6
    rfl
  subst e
  exact z.mutR h h1 (.own h5 h6) (.grid (ps := []) h5 .nil (by simp)) (fun q hq => .inl hq) fun a o ho _ => ho
/-- row i is changed where it stands -/
theorem Stt.gridRow {i j : Nat} {rs : List (List D)} {p q : Addr} {ps : List Addr} {us : List V} {r : List D} (z : Stt K B0 H0 σ B H Δ S) (h : Δ[i]? = some (.grid rs)) (h1 : σ[i]? = some (some (.ref p))) (h2 : H p = some (.lst (ps.map V.ref))) (h3 : RowsR K B H ps rs) (h4 : (p :: ps).Nodup)
    (hj : ps[j]? = some q) (ha : All K B us r) : Stt K B0 H0 σ B (upd H q (.lst us)) (Δ.set i (.grid (rs.set j r))) S := by
  have hq : q ∈ ps := List.mem_of_getElem? hj
  have hpq : p ≠ q := fun e => (List.nodup_cons.mp h4).1 (by rw [e]; exact hq)
  have es : ps.set j q = ps := set_self hj
  have k := RowsR.set (H' := upd H q (.lst us)) (q := q) upd_same ha j h3 fun m a hm hne => upd_ne fun e => by
    subst e
    exact hne (nodup_get (List.nodup_cons.mp h4).2 hm hj)
  rw [es] at k
  refine z.mutR h h1 (.grid h2 h3 h4) (.grid (by rw [upd_ne hpq]; exact h2) k h4) (fun a ha => .inl ha) fun a o ho hna => ?_
  rw [upd_ne (fun e => hna (by rw [e]; exact List.mem_cons_of_mem _ hq))]
  exact ho
/-- row i is another list now, a fresh one -/
theorem Stt.gridNew {i j : Nat} {rs : List (List D)} {p q : Addr} {ps : List Addr} {us : List V} {r : List D} {H1 : Hp} (z : Stt K B0 H0 σ B H Δ S) (z1 : Stt K B0 H0 σ B H1 Δ S1) (e01 : PotEq S1 S) (h : Δ[i]? = some (.grid rs)) (h1 : σ[i]? = some (some (.ref p))) (h2 : H p = some (.lst (ps.map V.ref))) (h3 : RowsR K B H ps rs) (h4 : (p :: ps).Nodup)
    (hq : H q = some (.lst us)) (hf : B q = none ∧ H0 q = none ∧ ¬ PotM S q) (hnew : ∀ (i : Nat) (t : Sl) (p : Addr) (as : List Addr), Δ[i]? = some t → σ[i]? = some (some (.ref p)) → Reg K B H t p as → q ∉ as) (ha : All K B us r) : Stt K B0 H0 σ B (upd H p (.lst ((ps.set j q).map V.ref))) (Δ.set i (.grid (rs.set j r))) S := by
  have hqn : q ∉ p :: ps := hnew i _ p _ h h1 (.grid h2 h3 h4)
  have hpq : q ≠ p := fun e => hqn (by rw [e]; exact List.mem_cons_self)
  have hp : p ∉ ps := (List.nodup_cons.mp h4).1
  -- a step through an own slot: the new row is taken first
  have n4 : (p :: ps.set j q).Nodup := by
    have hs : ∀ (ps : List Addr) (j : Nat), ps.Nodup → q ∉ ps → (ps.set j q).Nodup ∧ ∀ x, x ∈ ps.set j q → x = q ∨ x ∈ ps := fun ps => by
      induction ps with
      | nil => intro j h _; exact ⟨h, fun x hx => by simp at hx⟩
      | cons a ps ih =>
        intro j h hn
        obtain ⟨k1, k2⟩ := List.nodup_cons.mp h
        cases j with
        | zero => exact ⟨List.nodup_cons.mpr ⟨fun k => hn (List.mem_cons_of_mem _ k), k2⟩, fun x hx => by
            rcases List.mem_cons.mp hx with rfl | hx
            · exact .inl rfl
            · exact .inr (List.mem_cons_of_mem _ hx)⟩
        | succ j =>
          obtain ⟨m1, m2⟩ := ih j k2 fun k => hn (List.mem_cons_of_mem _ k)
          refine ⟨List.nodup_cons.mpr ⟨fun k => ?_, m1⟩, fun x hx => ?_⟩
          · rcases m2 a k with e | e
            · exact hn (by rw [e]; exact List.mem_cons_self)
            · exact k1 e
          · rcases List.mem_cons.mp hx with rfl | hx
            · exact .inr List.mem_cons_self
            · rcases m2 x hx with e | e
              · exact .inl e
              · exact .inr (List.mem_cons_of_mem _ e)
    obtain ⟨m1, m2⟩ := hs ps j (List.nodup_cons.mp h4).2 fun k => hqn (List.mem_cons_of_mem _ k)
    refine List.nodup_cons.mpr ⟨fun k => ?_, m1⟩
    rcases m2 p k with e | e
    · exact hpq e.symm
    · exact hp e
  have rr : RowsR K B (upd H p (.lst ((ps.set j q).map V.ref))) (ps.set j q) (rs.set j r) := RowsR.set (by rw [upd_ne hpq]; exact hq) ha j h3 fun m a hm hne => upd_ne fun e => hp (by rw [← e]; exact List.mem_of_getElem? hm)
  -- as mutR, the fresh row among what is owned
  have hl : i < Δ.length := (List.getElem?_eq_some_iff.mp h).1
  obtain ⟨p', as0, k1, k2, k3⟩ := z.hold i _ h rfl
  have e1 : p' = p := V.ref.inj (Option.some.inj (Option.some.inj (k1.symm.trans h1)))
  subst e1
  have e2 := k2.det (.grid h2 h3 h4)
  subst e2
  have off : ∀ a, a ≠ p' → (upd H p' (.lst ((ps.set j q).map V.ref))) a = H a := fun a ha => upd_ne ha
  have mem : ∀ a, a ∈ p' :: ps.set j q → a = q ∨ a ∈ p' :: ps := fun a ha => by
    rcases List.mem_cons.mp ha with rfl | ha
    · exact .inr List.mem_cons_self
    · obtain ⟨m, hm⟩ := List.getElem?_of_mem ha
      rw [List.getElem?_set] at hm
      split at hm
      · split at hm
        · exact .inl (Option.some.inj hm).symm
        · cases hm
      · exact .inr (List.mem_cons_of_mem _ (List.mem_of_getElem? hm))
  have oth : ∀ {j : Nat} {t : Sl} {r : Addr} {bs : List Addr}, i ≠ j → Δ[j]? = some t → σ[j]? = some (some (V.ref r)) → Reg K B H t r bs → p' ∉ bs := fun {j t r bs} hne hj hr hg k => z.sep i j _ t p' r _ bs hne h hj h1 hr (.grid h2 h3 h4) hg p' List.mem_cons_self k
  have fwd : ∀ {j : Nat} {t : Sl} {r : Addr} {bs : List Addr}, i ≠ j → Δ[j]? = some t → σ[j]? = some (some (V.ref r)) → Reg K B H t r bs → Reg K B (upd H p' (.lst ((ps.set _ q).map V.ref))) t r bs := fun {j t r bs} hne hj hr hg => hg.mono (Evl.Ex.refl B) fun a ha => off a fun e => oth hne hj hr hg (by rw [← e]; exact ha)
  have back : ∀ {j : Nat} {t : Sl} {r : Addr} {bs : List Addr}, i ≠ j → Δ[j]? = some t → σ[j]? = some (some (V.ref r)) → Reg K B (upd H p' (.lst ((ps.set _ q).map V.ref))) t r bs → Reg K B H t r bs := fun {j t r bs} hne hj hr hg => by
    obtain ⟨r', cs, m1, m2, _⟩ := z.hold j t hj hg.holds
    have e : r' = r := V.ref.inj (Option.some.inj (Option.some.inj (m1.symm.trans hr)))
    subst e
    rw [hg.det (fwd hne hj hr m2)]
    exact m2
  have dis : ∀ {j : Nat} {t : Sl} {r : Addr} {bs : List Addr}, i ≠ j → Δ[j]? = some t → σ[j]? = some (some (V.ref r)) → Reg K B H t r bs → ∀ a, a ∈ p' :: ps.set _ q → a ∉ bs := fun {j t r bs} hne hj hr hg a ha hb => by
    rcases mem a ha with rfl | ha
    · exact hnew j t r bs hj hr hg hb
    · exact z.sep i j _ t p' r _ bs hne h hj h1 hr (.grid h2 h3 h4) hg a ha hb
  refine ⟨⟨z.gr.ex, fun a o hm hh => ?_, z.gr.new, fun a o hh => ?_⟩, by rw [List.length_set]; exact z.len, fun m d hh => ?_, fun m t hh ht => ?_, fun m k t u x y as2 bs hjk g1 g2 g3 g4 g5 g6 => ?_, fun x ns e => ?_⟩
  · rw [off a fun e => by
      have w := (k3 p' List.mem_cons_self).2.1
      rw [e, w] at hh
      cases hh]
    exact z.gr.old a o hm hh
  · rw [off a fun e => by
      have w := (k3 p' List.mem_cons_self).1
      rw [e, w] at hh
      cases hh]
    exact z.sub a o hh
  · rcases sl_set hh with ⟨_, e2⟩ | ⟨hne, h2'⟩
    · cases e2
    · exact z.dat m d h2'
  · rcases sl_set hh with ⟨rfl, e2⟩ | ⟨hne, h2'⟩
    · subst e2
      refine ⟨p', p' :: ps.set j q, h1, .grid upd_same rr n4, fun a ha => ?_⟩
      rcases mem a ha with rfl | ha
      · exact hf
      · exact k3 a ha
    · obtain ⟨x, bs, m1, m2, m3⟩ := z.hold m t h2' ht
      exact ⟨x, bs, m1, fwd (fun k => hne k.symm) h2' m1 m2, m3⟩
  · rcases sl_set g1 with ⟨rfl, e2⟩ | ⟨hne, l1⟩
    · subst e2
      rcases sl_set g2 with ⟨rfl, e3⟩ | ⟨hne2, l2⟩
      · exact absurd rfl hjk
      · have e : p' = x := V.ref.inj (Option.some.inj (Option.some.inj (h1.symm.trans g3)))
        subst e
        rw [g5.det (.grid upd_same rr n4)]
        exact dis (fun k => hne2 k.symm) l2 g4 (back (fun k => hne2 k.symm) l2 g4 g6)
    · rcases sl_set g2 with ⟨rfl, e3⟩ | ⟨hne2, l2⟩
      · subst e3
        have e : p' = y := V.ref.inj (Option.some.inj (Option.some.inj (h1.symm.trans g4)))
        subst e
        rw [g6.det (.grid upd_same rr n4)]
        intro a ha hb
        exact dis (fun k => hne k.symm) l1 g3 (back (fun k => hne k.symm) l1 g3 g5) a hb ha
      · exact z.sep m k t u x y as2 bs hjk l1 l2 g3 g4 (back (fun k => hne k.symm) l1 g3 g5) (back (fun k => hne2 k.symm) l2 g4 g6)
  · obtain ⟨m1, m2⟩ := z.pot x ns e
    exact ⟨m1, by rw [off x fun e2 => (k3 p' List.mem_cons_self).2.2 (by rw [← e2]; exact ⟨ns, e⟩)]; exact m2⟩
end

section
variable {X : Cx} {Δ Δ' Δ2 Δ3 : List Sl} {S S1 S2 S3 : PotS} {pos : Pos} {a b c e o : Expr} {es : List Expr} {ss : List Sl} {ae : AE} {N : List Str} {x y : Str} {it : Nat} {rs : List (List D)} {r : List D} {d : D}
theorem p_toGrid (hi : At N Δ x it (.own [])) (hp : PutA N Δ x it (.grid []) Δ') {body : List Stmt} (h : SX X body Δ' S ae) : SX X body Δ S ae := .mk fun B0 H0 σ B H Dn z r => by
  have z2 := z.toGrid hi.slot
  rw [hp.eq] at z2
  exact h.run B0 H0 σ B H Dn z2 r
/-- t[b], a row that is read -/
theorem dq_grid {k : Int} {p1 : Pos} (hN : X.N = N) (hi : At N Δ x it (.grid rs)) (hb : DE X b Δ S (.int k) S1) (hk : atI rs k = some r)
    (hv : Vis X.env.scope x := by first | exact Or.inl rfl | exact Or.inr (Or.inl rfl) | exact Or.inr (Or.inr rfl)) (hd : (x == ("__debug__" : Str)) = false := by decide) (hcd : (x == ("__classdict__" : Str)) = false := by decide) (hs : PlainIx b := by exact fun _ _ => rfl) :
    DQ X (.Subscript (.Name x p1) b pos) Δ S false r S1 :=
  DG.by (pe_ix ix_list (pe_var (by rw [hN]; exact hi.name) hv hd hcd) W.pe hs) hb.1 fun B0 H0 σ B H z Q q => by
    obtain ⟨p, ps, h1, _⟩ := z.gridAt hi.slot
    refine ⟨.ref p, h1, z.run hb fun u B2 H2 z2 g2 p2 => ?_⟩
    cases p2
    obtain ⟨p', ps, h1', h2, h3, h4, h5⟩ := z2.gridAt hi.slot
    have e : p' = p := V.ref.inj (Option.some.inj (Option.some.inj (h1'.symm.trans h1)))
    subst e
    unfold atI at hk
    cases hx : ixN rs.length k with
    | none =>
      rw [hx] at hk
      cases hk
    | some j =>
      rw [hx] at hk
      obtain ⟨w, vs, m1, m2, m3⟩ := h3.get (i := j) (show rs[j]? = some r from hk)
      refine ⟨p', ps.map V.ref, k, .ref w, rfl, rfl, Evl.sq_of h2, ?_, q _ B2 H2 g2 z2.pot ⟨w, vs, rfl, fun H3 o => Evl.sq_of (o w _ ((h5 w (List.mem_cons_of_mem _ (List.mem_of_getElem? m1))).2.2) m2), m3⟩⟩
      unfold atI
      rw [List.length_map, h3.length, hx]
      show (ps.map V.ref)[j]? = _
      rw [List.getElem?_map, m1]
      rfl
/-- a fresh row more -/
theorem Stt.gridApp {K : PySem.W.Frag} {B0 H0 B H B1 H1 : Hp} {σ : L2.St} {v : V} {p : Addr} (z : Stt K B0 H0 σ B H Δ S) (z1 : Stt K B0 H0 σ B1 H1 Δ S1) (e01 : PotEq S S1) (g1 : Gr S B H B1 H1) (p1 : pNew K r H v B1 H1) (hi : Δ[it]? = some (.grid rs)) (h1 : σ[it]? = some (some (.ref p))) :
    ∃ w ps, v = .ref w ∧ H1 p = some (.lst (ps.map V.ref)) ∧ ps.length = rs.length ∧ Stt K B0 H0 σ B1 (upd H1 p (.lst ((ps ++ [w]).map V.ref))) (Δ.set it (.grid (rs ++ [r]))) S1 := by
  obtain ⟨p0, ps, h1', h2, h3, h4, h5⟩ := z.gridAt hi
  have ep0 : p0 = p := V.ref.inj (Option.some.inj (Option.some.inj (h1'.symm.trans h1)))
  subst ep0
  obtain ⟨w, us, rfl, hn, hb, hw, ha⟩ := p1
  have h2' := g1.old p0 _ (h5 p0 List.mem_cons_self).2.2 h2
  -- the new row is one's own
  have z1' := z.pushN z1 e01 ⟨w, us, rfl, hn, hb, hw, ha⟩ g1
  have lw : (Δ ++ [Sl.own r])[Δ.length]? = some (Sl.own r) := by
    rw [List.getElem?_append_right (Nat.le_refl _), Nat.sub_self]
    rfl
  have lv : (σ ++ [some (V.ref w)])[Δ.length]? = some (some (V.ref w)) := by
    rw [← z.len, List.getElem?_append_right (Nat.le_refl _), Nat.sub_self]
    rfl
  obtain ⟨w', ws, k1, k2, k3, k4, k5, k6⟩ := z1'.own _ _ lw
  have ew : w' = w := V.ref.inj (Option.some.inj (Option.some.inj (k1.symm.trans lv)))
  subst ew
  obtain ⟨p', ps', m1, m2, m3, m4, m5⟩ := z1.gridAt hi
  have ep : p' = p0 := V.ref.inj (Option.some.inj (Option.some.inj (m1.symm.trans h1)))
  subst ep
  have eps : ps' = ps := by
    rw [h2'] at m2
    exact (map_ref_inj (HO.lst.inj (Option.some.inj m2))).symm
  subst eps
  have hnew : ∀ (i : Nat) (t : Sl) (q : Addr) (as : List Addr), Δ[i]? = some t → σ[i]? = some (some (.ref q)) → Reg K B1 H1 t q as → w' ∉ as := fun i t q as hi' hq hr k => by
    obtain ⟨q', cs, n1, n2, n3⟩ := z.hold i t hi' hr.holds
    have e : q' = q := V.ref.inj (Option.some.inj (Option.some.inj (n1.symm.trans hq)))
    subst e
    rw [hr.det (n2.mono g1.ex fun a ha => same_some (n2.obj a ha) fun o ho => g1.old a o (n3 a ha).2.2 ho)] at k
    obtain ⟨o, ho⟩ := n2.obj w' k
    rw [hn] at ho
    cases ho
  have hwn : w' ∉ p' :: ps' := hnew it _ p' _ hi h1 (.grid m2 m3 m4)
  have hpw : p' ≠ w' := fun e => hwn (by rw [← e]; exact List.mem_cons_self)
  have nd : (p' :: (ps' ++ [w'])).Nodup := by
    obtain ⟨n1, n2⟩ := List.nodup_cons.mp m4
    refine List.nodup_cons.mpr ⟨fun k => ?_, ?_⟩
    · rcases List.mem_append.mp k with k | k
      · exact n1 k
      · exact hpw (List.mem_singleton.mp k)
    · rw [List.nodup_append]
      exact ⟨n2, by simp, fun a ha b hb' => by
        rw [List.mem_singleton.mp hb']
        exact fun e => hwn (List.mem_cons_of_mem _ (by rw [← e]; exact ha))⟩
  have rows : RowsR K B1 (upd H1 p' (.lst ((ps' ++ [w']).map V.ref))) (ps' ++ [w']) (rs ++ [r]) :=
    RowsR.append (by rw [upd_ne (fun e => hpw e.symm)]; exact hw) ha (m3.mono (Evl.Ex.refl B1) fun q hq => upd_ne fun e => (List.nodup_cons.mp m4).1 (by rw [← e]; exact hq))
  -- two slots into one
  have z2 : Stt K B0 H0 σ B1 (upd H1 p' (.lst ((ps' ++ [w']).map V.ref))) (Δ.set it (.grid (rs ++ [r]))) S1 := by
    have li : it < Δ.length := (List.getElem?_eq_some_iff.mp hi).1
    have fr : ∀ q, q ∈ p' :: (ps' ++ [w']) → B1 q = none ∧ H0 q = none ∧ ¬ PotM S1 q := fun q hq => by
      rcases List.mem_cons.mp hq with rfl | hq
      · exact m5 _ List.mem_cons_self
      · rcases List.mem_append.mp hq with hq | hq
        · exact m5 q (List.mem_cons_of_mem _ hq)
        · rw [List.mem_singleton.mp hq]
          exact ⟨k2, k3, k4⟩
    have off : ∀ a, a ≠ p' → (upd H1 p' (.lst ((ps' ++ [w']).map V.ref))) a = H1 a := fun a ha => upd_ne ha
    have oth : ∀ {j : Nat} {t : Sl} {q : Addr} {bs : List Addr}, it ≠ j → Δ[j]? = some t → σ[j]? = some (some (V.ref q)) → Reg K B1 H1 t q bs → ∀ a, a ∈ p' :: (ps' ++ [w']) → a ∉ bs := fun {j t q bs} hne hj hq hr a ha hb' => by
      have old := z1.sep it j _ t p' q _ bs hne hi hj h1 hq (.grid m2 m3 m4) hr
      rcases List.mem_cons.mp ha with rfl | ha
      · exact old _ List.mem_cons_self hb'
      · rcases List.mem_append.mp ha with ha | ha
        · exact old a (List.mem_cons_of_mem _ ha) hb'
        · rw [List.mem_singleton.mp ha] at hb'
          exact hnew j t q bs hj hq hr hb'
    have fwd : ∀ {j : Nat} {t : Sl} {q : Addr} {bs : List Addr}, it ≠ j → Δ[j]? = some t → σ[j]? = some (some (V.ref q)) → Reg K B1 H1 t q bs → Reg K B1 (upd H1 p' (.lst ((ps' ++ [w']).map V.ref))) t q bs := fun {j t q bs} hne hj hq hr => hr.mono (Evl.Ex.refl B1) fun a ha => off a fun e => oth hne hj hq hr p' List.mem_cons_self (by rw [← e]; exact ha)
    have back : ∀ {j : Nat} {t : Sl} {q : Addr} {bs : List Addr}, it ≠ j → Δ[j]? = some t → σ[j]? = some (some (V.ref q)) → Reg K B1 (upd H1 p' (.lst ((ps' ++ [w']).map V.ref))) t q bs → Reg K B1 H1 t q bs := fun {j t q bs} hne hj hq hr => by
      obtain ⟨q', cs, n1, n2, _⟩ := z1.hold j t hj hr.holds
      have e : q' = q := V.ref.inj (Option.some.inj (Option.some.inj (n1.symm.trans hq)))
      subst e
      rw [hr.det (fwd hne hj hq n2)]
      exact n2
    refine ⟨⟨z1.gr.ex, fun a o hm hh => ?_, z1.gr.new, fun a o hh => ?_⟩, by rw [List.length_set]; exact z1.len, fun m d hh => ?_, fun m t hh ht => ?_, fun m k t u q1 q2 as2 bs hjk g1 g2 g3 g4 g5 g6 => ?_, fun q1 ns e => ?_⟩
    · rw [off a fun e => by
        have w := (m5 p' List.mem_cons_self).2.1
        rw [e, w] at hh
        cases hh]
      exact z1.gr.old a o hm hh
    · rw [off a fun e => by
        have w := (m5 p' List.mem_cons_self).1
        rw [e, w] at hh
        cases hh]
      exact z1.sub a o hh
    · rcases sl_set hh with ⟨_, e2⟩ | ⟨hne, h2'⟩
      · cases e2
      · exact z1.dat m d h2'
    · rcases sl_set hh with ⟨rfl, e2⟩ | ⟨hne, h2'⟩
      · subst e2
        exact ⟨p', _, h1, .grid upd_same rows nd, fr⟩
      · obtain ⟨q1, bs, n1, n2, n3⟩ := z1.hold m t h2' ht
        exact ⟨q1, bs, n1, fwd (fun k => hne k.symm) h2' n1 n2, n3⟩
    · rcases sl_set g1 with ⟨rfl, e2⟩ | ⟨hne, l1⟩
      · subst e2
        rcases sl_set g2 with ⟨rfl, e3⟩ | ⟨hne2, l2⟩
        · exact absurd rfl hjk
        · have e : p' = q1 := V.ref.inj (Option.some.inj (Option.some.inj (h1.symm.trans g3)))
          subst e
          rw [g5.det (.grid upd_same rows nd)]
          exact oth (fun k => hne2 k.symm) l2 g4 (back (fun k => hne2 k.symm) l2 g4 g6)
      · rcases sl_set g2 with ⟨rfl, e3⟩ | ⟨hne2, l2⟩
        · subst e3
          have e : p' = q2 := V.ref.inj (Option.some.inj (Option.some.inj (h1.symm.trans g4)))
          subst e
          rw [g6.det (.grid upd_same rows nd)]
          intro a ha hb'
          exact oth (fun k => hne k.symm) l1 g3 (back (fun k => hne k.symm) l1 g3 g5) a hb' ha
        · exact z1.sep m k t u q1 q2 as2 bs hjk l1 l2 g3 g4 (back (fun k => hne k.symm) l1 g3 g5) (back (fun k => hne2 k.symm) l2 g4 g6)
    · obtain ⟨n1, n2⟩ := z1.pot q1 ns e
      exact ⟨n1, by rw [off q1 fun e2 => (m5 p' List.mem_cons_self).2.2 (by rw [← e2]; exact ⟨ns, e⟩)]; exact n2⟩
  exact ⟨w', ps', rfl, m2, m3.length, z2⟩
/-- t.append(a new list) -/
theorem p_gapp (hN : X.N = N) (hi : At N Δ x it (.grid rs)) (h : DN X e Δ S r S1) (hl : rs.length ≤ 9999) (hp : PutA N Δ x it (.grid (rs ++ [r])) Δ') (q : ae.nx Δ' S1) {p3 p4 p5 : Pos}
    (hpe : PE X (.Call (.Attribute (.Name x p3) "append" p4) [e] [] p5) (tBM X.K "list" rAppend (tVar it) (tCons (W X e) tNil)) := by exact pe_bm PySem.F.plainAttrs_list PySem.F.slot_list_append PySem.F.type_list_append mt_append (pv _) (pa_cons W.pe pa_nil))
    (hs : swapsWith (.Call (.Attribute (.Name x p3) "append" p4) [e] [] p5) none pos.line X.env = pure false := by rfl) : S1X X (.Expr (.Call (.Attribute (.Name x p3) "append" p4) [e] [] p5) pos) Δ S ae := .mk fun B0 H0 σ B H Dn z r' => by
  refine W1.of (ps_expr hpe hs) ?_
  obtain ⟨p, ps, h1, h2, h3, h4, h5⟩ := z.gridAt hi.slot
  refine ⟨.ref p, h1, .inl ⟨rfl, _, Evl.sq_of h2⟩, z.run h fun v B1 H1 z1 g1 p1 => ?_⟩
  obtain ⟨w, ps', rfl, h2', hlen, z2⟩ := z.gridApp z1 h.1 g1 p1 hi.slot h1
  refine ⟨p, ps'.map V.ref, .ref w, rfl, rfl, h2', Evl.sz_lt (by rw [List.length_map, hlen]; omega), ?_⟩
  have e1 : ps'.map V.ref ++ [V.ref w] = (ps' ++ [w]).map V.ref := by rw [List.map_append]; rfl
  rw [e1]
  rw [hp.eq] at z2
  exact r'.nx σ B1 _ Δ' S1 z2 h.1.symm q
end
end Ab

set_option Elab.async false
set_option linter.all false
set_option autoImplicit false
set_option maxRecDepth 100000
set_option maxHeartbeats 2000000
/-! Lists of lists that are one's own: stores, loops, comprehensions. -/
namespace Ab
open PySem PySem.Spec PyProof.Rows L2 RZ
section
variable {X : Cx} {Δ Δ' Δ2 Δ3 : List Sl} {S S1 S2 S3 : PotS} {pos : Pos} {a b c e o : Expr} {es : List Expr} {ss : List Sl} {ae : AE} {N : List Str} {x y : Str} {it : Nat} {rs : List (List D)} {r : List D} {d : D}
/-- t[a][b] = e -/
theorem p_gset {i j : Nat} {p1 p2 p3 : Pos} (hN : X.N = N) (hi : At N Δ x it (.grid rs)) (h : DE X e Δ S d S1) (ha : DE X a Δ S1 (.int (i : Int)) S1) (hb : DE X b Δ S1 (.int (j : Int)) S2) (hr : rs[i]? = some r) (hj : j < r.length) (hp : PutA N Δ x it (.grid (rs.set i (r.set j d))) Δ') (q : ae.nx Δ' S2)
    (hv : Vis X.env.scope x := by first | exact Or.inl rfl | exact Or.inr (Or.inl rfl) | exact Or.inr (Or.inr rfl)) (hd : (x == ("__debug__" : Str)) = false := by decide) (hcd : (x == ("__classdict__" : Str)) = false := by decide) (hs0 : PlainIx a := by exact fun _ _ => rfl)
    (has : ∀ v, assign (.Subscript (.Subscript (.Name x p1) a p2) b p3) X.env v = (do
      let ov ← holding [v] (eval (.Subscript (.Name x p1) a p2) X.env)
      let iv ← holding [v, ov] (eval b X.env)
      standAt p3
      holding [v, ov, iv] (setItem ov iv v)
      release [v, ov, iv] []) := by intro _; rfl)
    (hs : swapsWithSole [.Subscript (.Subscript (.Name x p1) a p2) b p3] e pos.line X.env = pure false := by rfl) (hw : swappedStores [.Subscript (.Subscript (.Name x p1) a p2) b p3] e X.env = pure none := by rfl)
    (hq : (assignEach [.Subscript (.Subscript (.Name x p1) a p2) b p3] X.env).map (·.2) = [assign (.Subscript (.Subscript (.Name x p1) a p2) b p3) X.env] := by rfl) : S1X X (.Assign [.Subscript (.Subscript (.Name x p1) a p2) b p3] e pos) Δ S ae := .mk fun B0 H0 σ B H Dn z rl => by
  have hx1 : X.N[it]? = some x := by rw [hN]; exact hi.name
  refine W1.of (ps_asg W.pe (pg_sub (pe_ix ix_list (pe_var hx1 hv hd hcd) W.pe hs0) W.pe set_list has) hs hw hq) (z.run h fun v B1 H1 z1 g1 p1 => ?_)
  obtain ⟨p, ps, h1, _⟩ := z1.gridAt hi.slot
  refine ⟨.ref p, h1, z1.run ha fun u B2 H2 z2 g2 p2 => ?_⟩
  cases p2
  obtain ⟨p', ps, h1', h2, h3, h4, h5⟩ := z2.gridAt hi.slot
  have ep : p' = p := V.ref.inj (Option.some.inj (Option.some.inj (h1'.symm.trans h1)))
  subst ep
  obtain ⟨w, vs, m1, m2, m3⟩ := h3.get hr
  refine ⟨p', ps.map V.ref, (i : Int), .ref w, rfl, rfl, Evl.sq_of h2, ?_, ?_⟩
  · unfold atI
    rw [Evl.ixN_nat (by rw [List.length_map]; exact (List.getElem?_eq_some_iff.mp m1).1)]
    show (ps.map V.ref)[i]? = _
    rw [List.getElem?_map, m1]
    rfl
  · refine z2.run hb fun u B3 H3 z3 g3 p3 => ?_
    cases p3
    obtain ⟨p3', ps', k1, k2, k3, k4, k5⟩ := z3.gridAt hi.slot
    have ep : p3' = p' := V.ref.inj (Option.some.inj (Option.some.inj (k1.symm.trans h1)))
    subst ep
    have k2' := g3.old p3' _ (h5 p3' List.mem_cons_self).2.2 h2
    have eps : ps' = ps := by
      rw [k2'] at k2
      exact (map_ref_inj (HO.lst.inj (Option.some.inj k2))).symm
    subst eps
    obtain ⟨w', vs', n1, n2, n3⟩ := k3.get hr
    have ew : w' = w := Option.some.inj (n1.symm.trans m1)
    subst ew
    refine ⟨w', vs', (j : Int), j, rfl, rfl, n2, Evl.ixN_nat (by rw [n3.length]; exact hj), ?_⟩
    have z4 := z3.gridRow hi.slot k1 k2 k3 k4 n1 (n3.set (((Is.mono g2.ex p1).mono g3.ex)) j)
    rw [hp.eq] at z4
    exact rl.nx σ B3 _ Δ' S2 z4 ((h.1.trans ha.1).trans hb.1).symm q
/-- t[a] = a new list -/
theorem p_grow {i : Nat} {p1 p3 : Pos} (hN : X.N = N) (hi : At N Δ x it (.grid rs)) (h : DN X e Δ S r S1) (hb : DE X b Δ S1 (.int (i : Int)) S2) (hr : i < rs.length) (hp : PutA N Δ x it (.grid (rs.set i r)) Δ') (q : ae.nx Δ' S2)
    (hv : Vis X.env.scope x := by first | exact Or.inl rfl | exact Or.inr (Or.inl rfl) | exact Or.inr (Or.inr rfl)) (hd : (x == ("__debug__" : Str)) = false := by decide) (hcd : (x == ("__classdict__" : Str)) = false := by decide)
    (has : ∀ v, assign (.Subscript (.Name x p1) b p3) X.env v = (do
      let ov ← holding [v] (eval (.Name x p1) X.env)
      let iv ← holding [v, ov] (eval b X.env)
      standAt p3
      holding [v, ov, iv] (setItem ov iv v)
      release [v, ov, iv] []) := by intro _; rfl)
    (hs : swapsWithSole [.Subscript (.Name x p1) b p3] e pos.line X.env = pure false := by rfl) (hw : swappedStores [.Subscript (.Name x p1) b p3] e X.env = pure none := by rfl)
    (hq : (assignEach [.Subscript (.Name x p1) b p3] X.env).map (·.2) = [assign (.Subscript (.Name x p1) b p3) X.env] := by rfl) : S1X X (.Assign [.Subscript (.Name x p1) b p3] e pos) Δ S ae := .mk fun B0 H0 σ B H Dn z rl => by
  have hx1 : X.N[it]? = some x := by rw [hN]; exact hi.name
  refine W1.of (ps_asg W.pe (pg_sub (pe_var hx1 hv hd hcd) W.pe set_list has) hs hw hq) (z.run h fun v B1 H1 z1 g1 p1 => ?_)
  obtain ⟨w, us, rfl, hn, hbw, hw1, ha⟩ := p1
  obtain ⟨p, ps, h1, _⟩ := z1.gridAt hi.slot
  refine ⟨.ref p, h1, z1.run hb fun u B2 H2 z2 g2 p2 => ?_⟩
  cases p2
  obtain ⟨p', ps, h1', h2, h3, h4, h5⟩ := z2.gridAt hi.slot
  have ep : p' = p := V.ref.inj (Option.some.inj (Option.some.inj (h1'.symm.trans h1)))
  subst ep
  -- the new row is one's own
  have z1' := z.pushN z1 h.1 ⟨w, us, rfl, hn, hbw, hw1, ha⟩ g1
  have z2' := z1'.grow hb.1 g2 z2.pot
  have lw : (Δ ++ [Sl.own r])[Δ.length]? = some (Sl.own r) := by
    rw [List.getElem?_append_right (Nat.le_refl _), Nat.sub_self]
    rfl
  have lv : (σ ++ [some (V.ref w)])[Δ.length]? = some (some (V.ref w)) := by
    rw [← z.len, List.getElem?_append_right (Nat.le_refl _), Nat.sub_self]
    rfl
  obtain ⟨w', ws, k1, k2, k3, k4, k5, k6⟩ := z2'.own _ _ lw
  have ew : w' = w := V.ref.inj (Option.some.inj (Option.some.inj (k1.symm.trans lv)))
  subst ew
  have hnew : ∀ (i : Nat) (t : Sl) (q : Addr) (as : List Addr), Δ[i]? = some t → σ[i]? = some (some (.ref q)) → Reg X.K B2 H2 t q as → w' ∉ as := fun i t q as hi' hq' hr' k => by
    have li : i < Δ.length := (List.getElem?_eq_some_iff.mp hi').1
    have d := z2'.sep i Δ.length t _ q w' as [w'] (by omega) (get_left hi') lw (by rw [List.getElem?_append_left (by rw [z.len]; exact li)]; exact hq') lv hr' (.own k5 k6) w' k
    exact d List.mem_cons_self
  refine ⟨p', ps.map V.ref, (i : Int), i, rfl, rfl, h2, Evl.ixN_nat (by rw [List.length_map, h3.length]; exact hr), ?_⟩
  have e1 : (ps.map V.ref).set i (V.ref w') = (ps.set i w').map V.ref := List.map_set.symm
  rw [e1]
  have z3 := z2.gridNew (j := i) z2 (PotEq.refl _) hi.slot h1 h2 h3 h4 k5 ⟨k2, k3, k4⟩ hnew k6
  rw [hp.eq] at z3
  exact rl.nx σ B2 _ Δ' S2 z3 (h.1.trans hb.1).symm q
/-- the view of one row: the grid aside, the row's name holds it -/
theorem Stt.view {K : PySem.W.Frag} {B0 H0 B H : Hp} {σ : L2.St} {ir i : Nat} {p w : Addr} {ps : List Addr} (z : Stt K B0 H0 σ B H Δ S) (hi : Δ[it]? = some (.grid rs)) (h1 : σ[it]? = some (some (.ref p))) (h2 : H p = some (.lst (ps.map V.ref))) (h3 : RowsR K B H ps rs) (h4 : (p :: ps).Nodup) (hw : ps[i]? = some w) (hr : rs[i]? = some r)
    (hir : σ[ir]? = some (some (.ref w))) (hne : ir ≠ it) : Stt K B0 H0 σ B H ((Δ.set it .no).set ir (.own r)) S := by
  obtain ⟨w', vs', n1, n2, n3⟩ := h3.get hr
  have ew : w' = w := Option.some.inj (n1.symm.trans hw)
  subst ew
  have hwp : w' ∈ p :: ps := List.mem_cons_of_mem _ (List.mem_of_getElem? hw)
  have z0 := z.drop (j := it) (o := some (V.ref p))
  rw [set_self h1] at z0
  have hg := z.gridAt hi
  obtain ⟨p0, ps0, m1, m2, m3, m4, m5⟩ := hg
  have e0 : p0 = p := V.ref.inj (Option.some.inj (Option.some.inj (m1.symm.trans h1)))
  subst e0
  have eps : ps0 = ps := by
    rw [h2] at m2
    exact (map_ref_inj (HO.lst.inj (Option.some.inj m2))).symm
  subst eps
  have k := z0.mineR (j := ir) (p := w') (s := .own r) (as := [w']) (.own n2 n3) (fun q hq => by
    rw [List.mem_singleton.mp hq]
    exact m5 w' hwp) fun j t q bs hj hjt hq hrg a ha hb => by
      rw [List.mem_singleton.mp ha] at hb
      rcases sl_set hjt with ⟨rfl, e2⟩ | ⟨hjn, hj2⟩
      · rw [e2] at hrg
        cases hrg
      · exact z.sep it j (.grid rs) t p0 q (p0 :: ps0) bs (fun e => hjn e.symm) hi hj2 h1 hq (.grid h2 h3 h4) hrg w' hwp hb
  rw [set_self hir] at k
  exact k
/-- for row in t: row[b] = e -/
theorem p_forRow {ir j : Nat} {f : List D → D} {p1 p2 p3 p4 p5 : Pos} (hN : X.N = N) (hnd : X.N.Nodup) (hi : At N Δ x it (.grid rs)) (hir : PutA N Δ y ir .no Δ2) (hne : ir ≠ it) (hp : PutA N Δ2 x it (.grid (rs.map fun r => r.set j (f r))) Δ')
    (h : ∀ r, r ∈ rs → j < r.length ∧ DE X e ((Δ.set it .no).set ir (.own r)) S (f r) S) (hb : ∀ r, r ∈ rs → DE X b ((Δ.set it .no).set ir (.own r)) S (.int (j : Int)) S) (q : ae.nx Δ' S)
    (hv : Vis X.env.scope x := by first | exact Or.inl rfl | exact Or.inr (Or.inl rfl) | exact Or.inr (Or.inr rfl)) (hd : (x == ("__debug__" : Str)) = false := by decide) (hcd : (x == ("__classdict__" : Str)) = false := by decide)
    (hv2 : Vis X.env.scope y := by first | exact Or.inl rfl | exact Or.inr (Or.inl rfl) | exact Or.inr (Or.inr rfl)) (hd2 : (y == ("__debug__" : Str)) = false := by decide) (hcd2 : (y == ("__classdict__" : Str)) = false := by decide)
    (hx : Loc X.env.scope y := by first | exact .inl rfl | exact .inr rfl) (hf : X.fn y = true ∨ X.env.scope.names.lookup y = some .local := by first | exact .inl rfl | exact .inr rfl)
    (has : ∀ v, assign (.Subscript (.Name y p3) b p4) X.env v = (do
      let ov ← holding [v] (eval (.Name y p3) X.env)
      let iv ← holding [v, ov] (eval b X.env)
      standAt p4
      holding [v, ov, iv] (setItem ov iv v)
      release [v, ov, iv] []) := by intro _; rfl)
    (hs : swapsWithSole [.Subscript (.Name y p3) b p4] e p5.line X.env = pure false := by rfl) (hw : swappedStores [.Subscript (.Name y p3) b p4] e X.env = pure none := by rfl)
    (hq : (assignEach [.Subscript (.Name y p3) b p4] X.env).map (·.2) = [assign (.Subscript (.Name y p3) b p4) X.env] := by rfl)
    (hps : PS X (.For (.Name y p1) (.Name x p2) [.Assign [.Subscript (.Name y p3) b p4] e p5] [] pos) (tFor (WI X (.Name y p1) (.Name x p2)) (WG X (.Name y p1)) (WS X [.Assign [.Subscript (.Name y p3) b p4] e p5])) := by exact ps_for PassesOwn.never rfl WI.pi WG.pg WS.ps) :
    S1X X (.For (.Name y p1) (.Name x p2) [.Assign [.Subscript (.Name y p3) b p4] e p5] [] pos) Δ S ae := .mk fun B0 H0 σ B H Dn z rl => by
  have hx1 : X.N[it]? = some x := by rw [hN]; exact hi.name
  have hy1 : X.N[ir]? = some y := by rw [hN]; exact hir.name
  have lr : ir < Δ.length := hir.lt
  have li : it < Δ.length := (List.getElem?_eq_some_iff.mp hi.slot).1
  obtain ⟨p, ps, h1, h2, h3, h4, h5⟩ := z.gridAt hi.slot
  let g : List D → List D := fun r => r.set j (f r)
  have part : ∀ i, (i ≤ rs.length) → ((rs.take i).map g ++ rs.drop i).length = rs.length := fun i hle => by
    rw [List.length_append, List.length_map, List.length_take, List.length_drop]
    omega
  have at_ : ∀ i r, rs[i]? = some r → ((rs.take i).map g ++ rs.drop i)[i]? = some r ∧ ((rs.take i).map g ++ rs.drop i).set i (g r) = (rs.take (i + 1)).map g ++ rs.drop (i + 1) := fun i r hr => by
    have hlt := (List.getElem?_eq_some_iff.mp hr).1
    have hl : ((rs.take i).map g).length = i := by rw [List.length_map, List.length_take]; omega
    have hd : rs.drop i = r :: rs.drop (i + 1) := by
      rw [List.drop_eq_getElem_cons hlt, (List.getElem?_eq_some_iff.mp hr).2]
    refine ⟨?_, ?_⟩
    · rw [List.getElem?_append_right (by omega), hl, Nat.sub_self, hd]
      rfl
    · rw [List.set_append_right _ _ (by omega), hl, Nat.sub_self, hd, List.take_add_one, hr]
      simp
  refine W1.of hps (WI.of (pi_list (pe_var hx1 hv hd hcd)) ⟨.ref p, h1, ?_⟩)
  refine ⟨p, rfl, ⟨ps.map V.ref, Evl.sq_of h2⟩, ?_⟩
  have wk := walk_list (K := X.K) (a := p) (xs := ps.map V.ref)
  rw [List.length_map, h3.length] at wk
  refine for_it wk (fun i σ' H' => ∃ B' rr, rr = (rs.take i).map g ++ rs.drop i ∧ H' p = some (.lst (ps.map V.ref)) ∧ σ'[it]? = some (some (.ref p)) ∧ Stt X.K B0 H0 σ' B' H' ((Δ.set ir .no).set it (.grid rr)) S) ?_ ?_ ?_ ?_
  · refine ⟨B, rs, by simp, h2, h1, ?_⟩
    have z0 := z.drop (j := ir) (o := σ.getD ir none)
    have es : σ.set ir (σ.getD ir none) = σ := by
      have hl : ir < List.length σ := by rw [z.len]; exact lr
      rw [List.getD_eq_getElem?_getD, List.getElem?_eq_getElem hl]
      exact set_self (List.getElem?_eq_getElem hl)
    rw [es] at z0
    have e2 : (Δ.set ir .no).set it (.grid rs) = Δ.set ir .no := set_self (by rw [List.getElem?_set_ne hne]; exact hi.slot)
    rw [e2]
    exact z0
  · rintro i σ' H' hi' ⟨B', rr, _, k1, _⟩
    exact Evl.sq_of k1
  · rintro i w σ' H2 H3 hi' ⟨B', rr, er, k1, k2, z'⟩ ⟨rfl, yy⟩
    subst er
    have hrl : rs[i]? = some rs[i] := List.getElem?_eq_getElem hi'
    obtain ⟨a1, a2⟩ := at_ i _ hrl
    rw [List.getElem?_map] at yy
    cases hps' : ps[i]? with
    | none =>
      rw [hps'] at yy
      cases yy
    | some w0 =>
      rw [hps'] at yy
      obtain rfl : V.ref w0 = w := Option.some.inj yy
      refine WG.of (pg_name hnd hy1 hx hf) ?_
      -- the name holds the row
      have hi2 : ((Δ.set ir .no).set it (.grid ((rs.take i).map g ++ rs.drop i)))[it]? = some (.grid ((rs.take i).map g ++ rs.drop i)) := List.getElem?_set_self (by rw [List.length_set]; exact li)
      have zs := z'.drop (j := ir) (o := some (V.ref w0))
      have es : (((Δ.set ir Sl.no).set it (.grid ((rs.take i).map g ++ rs.drop i))).set ir .no) = (Δ.set ir Sl.no).set it (.grid ((rs.take i).map g ++ rs.drop i)) := set_self (by rw [List.getElem?_set_ne (Ne.symm hne), List.getElem?_set_self lr])
      rw [es] at zs
      have s1 : (List.set σ' ir (some (V.ref w0)))[it]? = some (some (V.ref p)) := by rw [List.getElem?_set_ne hne]; exact k2
      have s2 : (List.set σ' ir (some (V.ref w0)))[ir]? = some (some (V.ref w0)) := List.getElem?_set_self (by
        have := z'.len
        rw [List.length_set, List.length_set] at this
        omega)
      obtain ⟨p2, ps2, m1, m2, m3, m4, m5⟩ := zs.gridAt hi2
      have ep : p2 = p := V.ref.inj (Option.some.inj (Option.some.inj (m1.symm.trans s1)))
      subst ep
      have eps : ps2 = ps := by
        rw [k1] at m2
        exact (map_ref_inj (HO.lst.inj (Option.some.inj m2))).symm
      subst eps
      have hmem : rs[i] ∈ rs := List.getElem_mem hi'
      obtain ⟨hj, hde⟩ := h _ hmem
      have hdb := hb _ hmem
      have ev : ∀ rr : List (List D), ((((Δ.set ir Sl.no).set it (.grid rr)).set it .no).set ir (.own rs[i])) = ((Δ.set it .no).set ir (.own rs[i])) := fun rr => by
        rw [List.set_set, List.set_comm _ _ hne, List.set_set]
      have zv := zs.view hi2 m1 m2 m3 m4 hps' a1 s2 hne
      rw [ev] at zv
      refine WS.of (pss_one (ps_asg W.pe (pg_sub (pe_var hy1 hv2 hd2 hcd2) W.pe set_list has) hs hw hq)) (zv.run hde fun v B5 H5 z5 g5 p5 => ?_)
      refine ⟨.ref w0, s2, z5.run hdb fun u B6 H6 z6 g6 p6 => ?_⟩
      cases p6
      have zg := (zs.grow hde.1 g5 z5.pot).grow hdb.1 g6 z6.pot
      obtain ⟨p3', ps3, n1, n2, n3, n4, n5⟩ := zg.gridAt hi2
      have ep : p3' = p2 := V.ref.inj (Option.some.inj (Option.some.inj (n1.symm.trans s1)))
      subst ep
      have k6 : H6 p3' = some (.lst (ps2.map V.ref)) := g6.old p3' _ (m5 p3' List.mem_cons_self).2.2 (g5.old p3' _ (m5 p3' List.mem_cons_self).2.2 k1)
      have eps : ps3 = ps2 := by
        rw [k6] at n2
        exact (map_ref_inj (HO.lst.inj (Option.some.inj n2))).symm
      subst eps
      obtain ⟨w', vs', l1, l2, l3⟩ := n3.get a1
      have ew : w' = w0 := Option.some.inj (l1.symm.trans hps')
      subst ew
      refine ⟨w', vs', (j : Int), j, rfl, rfl, l2, Evl.ixN_nat (by rw [l3.length]; exact hj), ?_⟩
      have z7 := zg.gridRow hi2 n1 n2 n3 n4 l1 (l3.set (Is.mono g6.ex p5) j)
      rw [List.set_set] at z7
      rw [show ((rs.take i).map g ++ rs.drop i).set i (rs[i].set j (f rs[i])) = _ from a2] at z7
      refine ⟨B6, _, rfl, ?_, s1, z7⟩
      have hpw : p3' ≠ w' := fun e => (List.nodup_cons.mp n4).1 (by rw [e]; exact List.mem_of_getElem? l1)
      rw [upd_ne hpw]
      exact k6
  · rintro σ' H' ⟨B', rr, er, k1, k2, z'⟩
    subst er
    have e1 : (rs.take rs.length).map g ++ rs.drop rs.length = rs.map g := by
      rw [List.take_length, List.drop_length, List.append_nil]
    rw [e1] at z'
    rw [hir.eq, hp.eq] at z'
    exact rl.nx σ' B' H' Δ' S z' rfl q
/-- return t -/
theorem s1_retG {p1 : Pos} (hN : X.N = N) (hi : At N Δ x it (.grid rs)) (q : ae.rt (.lst (rs.map .lst)) S)
    (hv : Vis X.env.scope x := by first | exact Or.inl rfl | exact Or.inr (Or.inl rfl) | exact Or.inr (Or.inr rfl)) (hd : (x == ("__debug__" : Str)) = false := by decide) (hcd : (x == ("__classdict__" : Str)) = false := by decide) : S1X X (.Return (some (.Name x p1)) pos) Δ S ae := .mk fun B0 H0 σ B H Dn z r => by
  refine W1.of (ps_ret (pe_var (by rw [hN]; exact hi.name) hv hd hcd)) ?_
  obtain ⟨p, ps, h1, h2, h3, h4, h5⟩ := z.gridAt hi.slot
  refine ⟨.ref p, h1, ?_⟩
  classical
  let B' : Hp := fun a => if a ∈ p :: ps then H a else B a
  have exB : Ex B B' := fun a o h => by
    show (if a ∈ p :: ps then H a else B a) = some o
    split
    · rename_i k
      rw [(h5 a k).1] at h
      cases h
    · exact h
  have atB : ∀ a, a ∈ p :: ps → B' a = H a := fun a ha => if_pos ha
  have rows : ∀ (ps' : List Addr) (rs' : List (List D)), RowsR X.K B H ps' rs' → (∀ a, a ∈ ps' → a ∈ p :: ps) → All X.K B' (ps'.map V.ref) (rs'.map D.lst) := fun ps' rs' h => by
    induction h with
    | nil => intro _; exact .nil
    | cons k a t ih =>
      intro hs
      refine .cons (.lst (Evl.sq_of (by rw [atB _ (hs _ List.mem_cons_self)]; exact k)) (a.mono exB)) (ih fun a ha => hs a (List.mem_cons_of_mem _ ha))
  have is : Is X.K B' (.ref p) (.lst (rs.map .lst)) := .lst (Evl.sq_of (by rw [atB _ List.mem_cons_self]; exact h2)) (rows ps rs h3 fun a ha => List.mem_cons_of_mem _ ha)
  refine r.rt _ B' H _ S ⟨z.gr.ex.trans exB, z.gr.old, fun a o k1 k2 => ?_, fun a o k => ?_⟩ (fun a ns e => ?_) rfl is q
  · have k1' : (if a ∈ p :: ps then H a else B a) = some o := k1
    by_cases m : a ∈ p :: ps
    · exact (h5 a m).2.1
    · rw [if_neg m] at k1'
      exact z.gr.new a o k1' k2
  · have k1' : (if a ∈ p :: ps then H a else B a) = some o := k
    by_cases m : a ∈ p :: ps
    · rw [if_pos m] at k1'
      exact k1'
    · rw [if_neg m] at k1'
      exact z.sub a o k1'
  · obtain ⟨m1, m2⟩ := z.pot a ns e
    refine ⟨?_, m2⟩
    show (if a ∈ p :: ps then H a else B a) = none
    rw [if_neg fun m => (h5 a m).2.2 ⟨ns, e⟩]
    exact m1
end
end Ab

set_option Elab.async false
set_option linter.all false
set_option autoImplicit false
set_option maxRecDepth 100000
set_option maxHeartbeats 2000000
/-! Comprehensions of new lists: a list of lists of one's own. -/
namespace Ab
open PySem PySem.Spec PyProof.Rows L2 RZ
def pGrid (K : PySem.W.Frag) (rs : List (List D)) : Po := fun H v B2 H2 => ∃ p ps, v = .ref p ∧ Reg K B2 H2 (.grid rs) p (p :: ps) ∧ ∀ q, q ∈ p :: ps → H q = none ∧ B2 q = none
abbrev DGr (X : Cx) (e : Expr) (Δ : List Sl) (S : PotS) (rs : List (List D)) (S' : PotS) : Prop := DG X e Δ S (pGrid X.K rs) S'
section
variable {X : Cx} {Δ Δ' Δ2 Δ3 : List Sl} {S S1 S2 S3 : PotS} {pos : Pos} {a b c e tg iter elt : Expr} {es : List Expr} {ss : List Sl} {ae : AE} {scope : Scope} {own : List (Str × Nat)}
theorem lc_goG {src : Src} {t : Tg} {vs : List Nat} {dd : Nat → List D} {wg : TG} {wt : TT} {we : TE}
    (hsrc : DSC X tg iter Δ S src S1) (hl : src.len ≤ 9999) (hvs : ∀ v, v ∈ t.ix → v ∈ vs)
    (hg : ∀ (B0 H0 : Hp) (σ : L2.St) (B H H' : Hp) (Δ : List Sl) (S : PotS) (i : Nat) (x : V) (B1 : Hp), Stt X.K B0 H0 σ B H Δ S → i < src.len → Ex B1 B → YS X.K B1 src i H x H' → ∀ Q : L2.St → Hp → Prop,
      (∀ σ' B2 H2, Gr S B H B2 H2 → Stt X.K B0 H0 σ' B2 H2 (bind t src i Δ) S → L2.wipe σ' vs = L2.wipe σ vs → Q σ' H2) → wg x σ H' Q)
    (ht : ∀ i, i < src.len → ∀ B0 H0 σ B H, Stt X.K B0 H0 σ B H (bind t src i (wipeD Δ vs)) S1 → ∀ Q : Bool → Hp → Prop, (∀ B2 H2, Gr S1 B H B2 H2 → PotOk S1 B2 H2 → Q true H2) → wt σ H Q)
    (he : ∀ i, i < src.len → ∀ B0 H0 σ B H, Stt X.K B0 H0 σ B H (bind t src i (wipeD Δ vs)) S1 → ∀ Q : VK, (∀ v B2 H2, Gr S1 B H B2 H2 → PotOk S1 B2 H2 → pNew X.K (dd i) H v B2 H2 → Q v H2) → we σ H Q) :
    PotEq S S1 ∧ ∀ B0 H0 σ B H, Stt X.K B0 H0 σ B H Δ S → ∀ Q : VK, (∀ v B2 H2, Gr S B H B2 H2 → PotOk S1 B2 H2 → pGrid X.K ((List.range src.len).map dd) H v B2 H2 → Q v H2) → tLc (WI X tg iter) wg wt we vs σ H Q := by
  refine ⟨hsrc.1, fun B0 H0 σ B H z Q q => ?_⟩
  refine hsrc.2 B0 H0 σ B H z _ fun J B1 H1 g1 po1 hJ D hD => ?_
  obtain ⟨G, w, hG⟩ := hJ
  have z1 := z.grow hsrc.1 g1 po1
  have hBD : B1 D = none := Evl.fresh_back z1.sub hD
  have hHD : H D = none := g1.free (K := X.K) hsrc.1 po1 hD
  have zl : (L2.wipe σ vs).length = (wipeD Δ vs).length := (z1.wipe vs).len
  have gm : Gr S1 B1 H1 B1 (upd H1 D (.lst [])) := Gr.mine z1.sub hD
  have last : ∀ (s : Sl), (wipeD Δ vs ++ [s])[(wipeD Δ vs).length]? = some s := fun s => by
    rw [List.getElem?_append_right (Nat.le_refl _), Nat.sub_self]
    rfl
  have lastV : (L2.wipe σ vs ++ [some (V.ref D)])[(wipeD Δ vs).length]? = some (some (V.ref D)) := by
    rw [← zl, List.getElem?_append_right (Nat.le_refl _), Nat.sub_self]
    rfl
  have zs0 : Stt X.K B0 H0 (L2.wipe σ vs ++ [some (.ref D)]) B1 (upd H1 D (.lst [])) (wipeD Δ vs ++ [.own []]) S1 := (z1.wipe vs).pushN ((z1.grow (PotEq.refl _) gm (po1.upd hD)).wipe vs) (PotEq.refl _) ⟨D, [], rfl, hD, hBD, upd_same, .nil⟩ gm
  have zs := zs0.toGrid (last _)
  rw [set_last] at zs
  -- all of the grid is new
  let New : Hp → Prop := fun H' => ∀ p ps, H' D = some (.lst (ps.map V.ref)) → p = D → ∀ q, q ∈ p :: ps → H q = none
  refine lc_it w (fun i H' => ∃ B', Gr S B H B' H' ∧ (Ex B1 B' ∧ Old S1 H1 H') ∧ New H' ∧ Stt X.K B0 H0 (L2.wipe σ vs ++ [some (.ref D)]) B' H' (wipeD Δ vs ++ [.grid ((List.range i).map dd)]) S1) ?_ ?_ ?_ ?_
  · refine ⟨B1, gr_go po1 hsrc.1 g1 gm, ⟨Evl.Ex.refl B1, gm.old⟩, fun p ps e ep q hq => ?_, zs⟩
    rw [upd_same] at e
    have e2 : ps = [] := (map_ref_inj (qs := []) (HO.lst.inj (Option.some.inj e)).symm)
    subst e2
    rw [List.mem_singleton.mp hq, ep]
    exact hHD
  · rintro i H' hi ⟨B', g, ⟨ex, old⟩, _, z'⟩
    exact hG H' (ex.trans z'.sub) old
  · rintro i x H2 H3 hi ⟨B', g, ⟨ex, old⟩, new, z'⟩ y
    refine hg B0 H0 _ B' H2 H3 _ S1 i x B1 (z'.left zl) hi ex y _ fun σ' B4 H4 g4 z4 hw => ?_
    refine ⟨by rw [hw, wipe_wipe (fun v h => h)], ht i hi B0 H0 σ' B4 H4 z4 _ fun B5 H5 g5 po5 => ?_⟩
    have z5 := z4.grow (PotEq.refl _) g5 po5
    have g45 : Gr S1 B' H2 B5 H5 := gr_go z4.pot (PotEq.refl _) g4 g5
    have z25 := z'.grow (PotEq.refl _) g45 po5
    have gS5 : Gr S B H B5 H5 := gr_go z'.pot hsrc.1 g g45
    rw [if_pos rfl]
    refine he i hi B0 H0 σ' B5 H5 z5 _ fun v B6 H6 g6 po6 hv => ?_
    have z6 := z25.grow (PotEq.refl _) g6 po6
    have g7 := gr_go z25.pot hsrc.1 gS5 g6
    obtain ⟨w', ps, rfl, hD6, hlen, z7⟩ := z25.gridApp z6 (PotEq.refl _) g6 hv (last _) lastV
    rw [set_last] at z7
    have hm1 : ¬ PotM S1 D := fun ⟨ns, k⟩ => by
      rw [(po1 D ns k).2] at hD
      cases hD
    -- the rows ahead stood
    obtain ⟨p0, ps0, n1, n2, n3, n4, n5⟩ := z'.gridAt (last _)
    have e0 : p0 = D := V.ref.inj (Option.some.inj (Option.some.inj (n1.symm.trans lastV)))
    subst e0
    have hD2 : H6 p0 = some (.lst (ps0.map V.ref)) := g6.old p0 _ hm1 (g45.old p0 _ hm1 n2)
    have eps : ps = ps0 := by
      rw [hD6] at hD2
      exact map_ref_inj (HO.lst.inj (Option.some.inj hD2))
    subst eps
    have hw0 : H w' = none := by
      obtain ⟨n, us, ev, hn, _⟩ := hv
      cases ev
      exact gS5.free (K := X.K) hsrc.1 z25.pot hn
    have e1 : ps.map V.ref ++ [V.ref w'] = (ps ++ [w']).map V.ref := by rw [List.map_append]; rfl
    refine ⟨ps.map V.ref, hD6, Evl.sz_lt (by
      rw [List.length_map, hlen, List.length_map, List.length_range]
      omega), B6, ?_⟩
    rw [e1]
    refine ⟨⟨g7.ex, fun a o hm h => ?_, g7.new, z7.sub⟩, ⟨(ex.trans g45.ex).trans g6.ex, fun a o hm h => ?_⟩, fun p qs e ep q hq => ?_, ?_⟩
    · rw [upd_ne (ne_of_none h hHD)]
      exact g7.old a o hm h
    · rw [upd_ne (ne_of_none h hD)]
      exact g6.old a o hm (g45.old a o hm (old a o hm h))
    · rw [upd_same] at e
      have e2 := map_ref_inj (HO.lst.inj (Option.some.inj e))
      subst e2
      rcases List.mem_cons.mp hq with rfl | hq
      · rw [ep]
        exact hHD
      · rcases List.mem_append.mp hq with hq | hq
        · exact new p ps n2 ep q (List.mem_cons_of_mem _ hq)
        · rw [List.mem_singleton.mp hq]
          exact hw0
    · have er : (List.range (i + 1)).map dd = (List.range i).map dd ++ [dd i] := by rw [List.range_succ, List.map_append]; rfl
      rw [er]
      exact z7
  · rintro H' ⟨B', g, _, new, z'⟩
    obtain ⟨p0, ps0, n1, n2, n3, n4, n5⟩ := z'.gridAt (last _)
    have e0 : p0 = D := V.ref.inj (Option.some.inj (Option.some.inj (n1.symm.trans lastV)))
    subst e0
    exact q _ B' H' g z'.pot ⟨p0, ps0, rfl, .grid n2 n3 n4, fun q hq => ⟨new p0 ps0 n2 rfl q hq, (n5 q hq).1⟩⟩
/-- [a new list for tg in iter] -/
theorem lc_grid {α : Type} {src : Src} {t : Tg} {xs : List α} {bd : α → List Sl → List Sl} {g : α → List D}
    (hsrc : DSC X tg iter Δ S src S1) (hT : Tm src t xs bd) (hl : xs.length ≤ 9999) (hvs : ∀ v, v ∈ t.ix → v ∈ own.map (·.2)) (hg : ∀ s H C cl fp, TgOk (blk X scope s H C cl fp) tg t src)
    (he : ∀ s H C cl fp x, x ∈ xs → DN (blk X scope s H C cl fp) elt (bd x (wipeD Δ (own.map (·.2)))) S1 (g x) S1)
    (hc : X.calm = true) (hN : X.N.Nodup) (ok : BlkOk X.N X.env.scope scope own) (hs : ∀ x, foldedSetIterable iter X.env x = pure x := by intro _; rfl) :
    DGr X (.ListComp elt [⟨tg, iter, [], 0⟩] scope pos) Δ S (xs.map g) S1 := by
  have h := lc_goG (X := X) (tg := tg) (iter := iter) (Δ := Δ) (S := S) (t := t) (vs := own.map (·.2)) (dd := fun i => ((xs[i]?).map g).getD []) (wg := WGb X scope tg) (wt := WPb X scope []) (we := Wb X scope elt) hsrc (by rw [hT.len]; exact hl) hvs
    (fun B0 H0 σ B H H' Δ S i x B1 z hi ex y Q q => fun s h C cl fp => (hg s h C cl fp).st B0 H0 σ B H H' Δ S i x B1 z hi ex y Q fun σ' B2 H2 g z2 hw => q σ' B2 H2 g z2 (hw _ hvs))
    (fun i hi B0 H0 σ B H z Q q => fun s h C cl fp => (dp_nil (X := blk X scope s h C cl fp) (S := S1)).2 B0 H0 σ B H z Q q)
    (fun i hi B0 H0 σ B H z Q q => fun s h C cl fp => by
      rw [hT.len] at hi
      have e : xs[i]? = some xs[i] := List.getElem?_eq_getElem hi
      rw [hT.at_ i _ _ e] at z
      refine (he s h C cl fp _ (List.getElem_mem hi)).2 B0 H0 σ B H z Q fun v B2 H2 g2 po p => q v B2 H2 g2 po ?_
      rw [e]
      exact p)
  have e1 : (List.range src.len).map (fun i => ((xs[i]?).map g).getD []) = xs.map g := by
    rw [hT.len]
    refine List.ext_getElem? fun i => ?_
    rw [List.getElem?_map, List.getElem?_map]
    by_cases hi : i < xs.length
    · rw [List.getElem?_range hi, List.getElem?_eq_getElem hi]
      simp [hi]
    · rw [List.getElem?_eq_none (by simpa using hi), List.getElem?_eq_none (by simpa using hi)]
      rfl
  rw [e1] at h
  exact DG.by (pe_lc hc hN WI.pi ok (fun _ _ _ _ _ => pgb) (fun _ _ _ _ _ => ppb) (fun _ _ _ _ _ => peb) hs) h.1 h.2
theorem Stt.pushR {K : PySem.W.Frag} {B0 H0 B H B2 H2 : Hp} {σ : L2.St} {s : Sl} {p : Addr} {as : List Addr} (z : Stt K B0 H0 σ B H Δ S) (z2 : Stt K B0 H0 σ B2 H2 Δ S1) (eq : PotEq S S1) (g : Gr S B H B2 H2) (hr : Reg K B2 H2 s p as) (hf : ∀ q, q ∈ as → H q = none ∧ B2 q = none) : Stt K B0 H0 (σ ++ [some (.ref p)]) B2 H2 (Δ ++ [s]) S1 := by
  have k := z2.room.mineR (j := σ.length) hr (fun q hq => ?_) fun i t q bs hij hi hq hrg a ha hb => ?_
  · rw [set_last, z.len, set_last] at k
    exact k
  · have h0 : H0 q = none := some_none fun o r => by
      have k := z.gr.old q o (fun k => by
        obtain ⟨ns, k⟩ := k
        have w := (z.pot q ns k).2
        rw [(hf q hq).1] at w
        cases w) r
      rw [(hf q hq).1] at k
      cases k
    exact ⟨(hf q hq).2, h0, fun k => by
      obtain ⟨ns, k⟩ := eq.m k
      have w := (z.pot q ns k).2
      rw [(hf q hq).1] at w
      cases w⟩
  · obtain ⟨q', cs, m1, m2, m3⟩ := z.room.hold i t hi hrg.holds
    have e1 : q' = q := V.ref.inj (Option.some.inj (Option.some.inj (m1.symm.trans hq)))
    subst e1
    rw [hrg.det (m2.mono g.ex fun a ha => same_some (m2.obj a ha) fun o ho => g.old a o (m3 a ha).2.2 ho)] at hb
    obtain ⟨o, ho⟩ := m2.obj a hb
    rw [(hf a ha).1] at ho
    cases ho
theorem dv_grid {rs : List (List D)} (ha : DGr X e Δ S rs S1) (hr : DV X es Δ S1 ss S2) (hs : starEach (e :: es) X.env = (false, eval e X.env) :: starEach es X.env := by rfl) : DV X (e :: es) Δ S (.grid rs :: ss) S2 :=
  ⟨ha.1.trans hr.1, fun B0 H0 σ ex f B H z hl Q q => WA.of (pa_cons W.pe WA.pa hs) (ha.2 B0 H0 σ B H (z.left hl) _ fun v B1 H1 g1 po1 p1 => by
    obtain ⟨p, ps, rfl, hreg, hf⟩ := p1
    have z1 := z.pushR (z.grow ha.1 g1 po1) ha.1 g1 hreg hf
    rw [List.append_assoc, List.append_assoc] at z1
    refine hr.2 B0 H0 σ (ex ++ [some (.ref p)]) (f ++ [.grid rs]) B1 H1 z1 hl _ fun vs B2 H2 z2 g2 h2 => ?_
    refine q (_ :: vs) B2 H2 ?_ (gr_go po1 ha.1 g1 g2) (by rw [List.length_cons, List.length_cons, h2])
    rw [List.append_assoc, List.append_assoc] at z2
    exact z2)⟩
end
end Ab

set_option Elab.async false
set_option linter.all false
set_option autoImplicit false
set_option maxRecDepth 100000
set_option maxHeartbeats 2000000
/-! Shorter forms. -/
namespace Ab
open PySem PySem.Spec PyProof.Rows L2 RZ
section
variable {X : Cx} {Δ Δ' Δ2 Δ3 : List Sl} {S S1 S2 S3 : PotS} {pos p : Pos} {a b c e tg iter elt : Expr} {es ifs : List Expr} {ss : List Sl} {ae : AE} {scope : Scope} {x y : Str}
theorem de_bty {n : String} (hg : Gl X x) (hm : X.mg x = none) (hv : bootBuiltins x = some (.type n)) (hn : x ≠ "__name__" := by decide) (hd : (x == ("__debug__" : Str)) = false := by decide) : DE X (.Name x pos) Δ S (.ty n) S := de_c (v := .ty n) (pe_bltn hg hm hv rfl hn hd) fun _ => .ty n
theorem DE.cast {d d' : D} (h : DE X e Δ S d S1) (k : d = d') : DE X e Δ S d' S1 := k ▸ h
theorem DB.cast {k l : Bool} (h : DB X e Δ S k S1) (q : k = l) : DB X e Δ S l S1 := q ▸ h
theorem DN.cast {d d' : List D} (h : DN X e Δ S d S1) (k : d = d') : DN X e Δ S d' S1 := k ▸ h
theorem sx_cast {body : List Stmt} (h : SX X body Δ' S ae) (k : Δ = Δ') : SX X body Δ S ae := k ▸ h
/-- [elt for x in iter if ..] -/
theorem lc_name {α : Type} {xs : List α} {φ g : α → D} {bt : α → Bool} {j : Nat} (hsrc : DSC X (.Name x p) iter Δ S (.one (xs.map φ)) S1) (hN : X.N.Nodup) (hj : X.N[j]? = some x) (hl : xs.length ≤ 99999)
    (ht : ∀ s H C cl fp v, v ∈ xs → DP (blk X scope s H C cl fp) ifs ((Δ.set j .no).set j (.dat (φ v))) S1 (bt v) S1)
    (he : ∀ s H C cl fp v, v ∈ xs → bt v = true → DE (blk X scope s H C cl fp) elt ((Δ.set j .no).set j (.dat (φ v))) S1 (g v) S1) (hx : ∀ s H C cl fp, Loc (blk X scope s H C cl fp).env.scope x := by intros; first | exact .inl rfl | exact .inr rfl) (hfx : ∀ s H C cl fp, (blk X scope s H C cl fp).fn x = true ∨ (blk X scope s H C cl fp).env.scope.names.lookup x = some .local := by intros; first | exact .inl rfl | exact .inr rfl) : LC X (.Name x p) iter elt ifs scope [j] Δ S ((xs.filter bt).map g) S1 :=
  lc_typed hsrc tm_one hl (fun v hv => hv) (fun s H C cl fp => tg_name (X := blk X scope s H C cl fp) hN hj (hx s H C cl fp) (hfx s H C cl fp)) ht he
theorem lc_nameM {α : Type} {xs : List α} {φ g : α → D} {j : Nat} (hsrc : DSC X (.Name x p) iter Δ S (.one (xs.map φ)) S1) (hN : X.N.Nodup) (hj : X.N[j]? = some x) (hl : xs.length ≤ 99999)
    (he : ∀ s H C cl fp v, v ∈ xs → DE (blk X scope s H C cl fp) elt ((Δ.set j .no).set j (.dat (φ v))) S1 (g v) S1) (hx : ∀ s H C cl fp, Loc (blk X scope s H C cl fp).env.scope x := by intros; first | exact .inl rfl | exact .inr rfl) (hfx : ∀ s H C cl fp, (blk X scope s H C cl fp).fn x = true ∨ (blk X scope s H C cl fp).env.scope.names.lookup x = some .local := by intros; first | exact .inl rfl | exact .inr rfl) : LC X (.Name x p) iter elt [] scope [j] Δ S (xs.map g) S1 :=
  lc_map hsrc tm_one hl (fun v hv => hv) (fun s H C cl fp => tg_name (X := blk X scope s H C cl fp) hN hj (hx s H C cl fp) (hfx s H C cl fp)) he
/-- [elt for x, y in iter] -/
theorem lc_pairM {α : Type} {xs : List α} {φ ψ g : α → D} {j k m : Nat} {p1 p2 : Pos} (hc : X.calm = true) (hsrc : DSC X (.Tuple [.Name x p1, .Name y p2] m p) iter Δ S (.two (xs.map fun v => (φ v, ψ v))) S1) (hN : X.N.Nodup) (hj : X.N[j]? = some x) (hk : X.N[k]? = some y) (hl : xs.length ≤ 99999)
    (he : ∀ s H C cl fp v, v ∈ xs → DE (blk X scope s H C cl fp) elt ((((Δ.set k .no).set j .no).set j (.dat (φ v))).set k (.dat (ψ v))) S1 (g v) S1) (hx : ∀ s H C cl fp, Loc (blk X scope s H C cl fp).env.scope x := by intros; first | exact .inl rfl | exact .inr rfl) (hfx : ∀ s H C cl fp, (blk X scope s H C cl fp).fn x = true ∨ (blk X scope s H C cl fp).env.scope.names.lookup x = some .local := by intros; first | exact .inl rfl | exact .inr rfl) (hy : ∀ s H C cl fp, Loc (blk X scope s H C cl fp).env.scope y := by intros; first | exact .inl rfl | exact .inr rfl) (hfy : ∀ s H C cl fp, (blk X scope s H C cl fp).fn y = true ∨ (blk X scope s H C cl fp).env.scope.names.lookup y = some .local := by intros; first | exact .inl rfl | exact .inr rfl)
    (hn : ∀ s H C cl fp, (assignEach [.Name x p1, .Name y p2] (blk X scope s H C cl fp).env).length = 2 := by intros; rfl) (hst : ∀ s H C cl fp, (assignEach [.Name x p1, .Name y p2] (blk X scope s H C cl fp).env).findIdx? (·.1) = none := by intros; rfl) : LC X (.Tuple [.Name x p1, .Name y p2] m p) iter elt [] scope [j, k] Δ S (xs.map g) S1 :=
  lc_map hsrc tm_two hl (fun v hv => hv) (fun s H C cl fp => tg_pair (X := blk X scope s H C cl fp) hc hN hj (hx s H C cl fp) hk (hy s H C cl fp) (hfx s H C cl fp) (hfy s H C cl fp) (hn s H C cl fp) (hst s H C cl fp)) he
theorem zip_map2 {α β : Type} {xs : List α} {ys : List β} {φ : α → D} {ψ : β → D} : (xs.map φ).zip (ys.map ψ) = (xs.zip ys).map fun v => (φ v.1, ψ v.2) := List.zip_map ..
theorem DSC.cast {src src' : Src} (h : DSC X tg iter Δ S src S1) (k : src = src') : DSC X tg iter Δ S src' S1 := k ▸ h
theorem DS.cast {src src' : Src} (h : DS X tg iter Δ S src S1) (k : src = src') : DS X tg iter Δ S src' S1 := k ▸ h
/-- zip of two sequences of one type each -/
theorem ds_zipT2 {α β : Type} {xs : List α} {ys : List β} {φ : α → D} {ψ : β → D} {elts : List Expr} {kk : Nat} {tpos q : Pos} (ha : DE X a Δ S (.tup (xs.map φ)) S1) (hb : DE X b Δ S1 (.tup (ys.map ψ)) S2) (hg : Gl X "zip") (hm : X.mg "zip" = none)
    (hs : starEach [a, b] X.env = (false, eval a X.env) :: starEach [b] X.env := by rfl) (hs2 : starEach [b] X.env = (false, eval b X.env) :: starEach [] X.env := by rfl) (hpl : (backTo pos (starEach [b] X.env)).any (·.1) = false := by rfl) :
    DS X (.Tuple elts kk tpos) (.Call (.Name "zip" q) [a, b] [] pos) Δ S (.two ((xs.zip ys).map fun v => (φ v.1, ψ v.2))) S2 := (ds_zipT ha hb hg hm hs hs2 hpl).cast (by rw [zip_map2])
theorem dsc_zip2 {α β : Type} {xs : List α} {ys : List β} {φ : α → D} {ψ : β → D} {elts : List Expr} {kk : Nat} {tpos q : Pos} (ha : DQ X a Δ S false (xs.map φ) S1) (hb : DQ X b Δ S1 false (ys.map ψ) S2) (hg : Gl X "zip") (hm : X.mg "zip" = none)
    (hs : starEach [a, b] X.env = (false, eval a X.env) :: starEach [b] X.env := by rfl) (hs2 : starEach [b] X.env = (false, eval b X.env) :: starEach [] X.env := by rfl) (hpl : (backTo pos (starEach [b] X.env)).any (·.1) = false := by rfl) :
    DSC X (.Tuple elts kk tpos) (.Call (.Name "zip" q) [a, b] [] pos) Δ S (.two ((xs.zip ys).map fun v => (φ v.1, ψ v.2))) S2 := (dsc_zip ha hb hg hm hs hs2 hpl).cast (by rw [zip_map2])
theorem atI_map {α : Type} {xs : List α} {φ : α → D} {i : Nat} {v : α} (h : xs[i]? = some v) : atI (xs.map φ) (i : Int) = some (φ v) := atI_get (by rw [List.getElem?_map, h]; rfl)
theorem db_isF {d : D} {j : Nat} {p2 : Pos} (ha : DE X a Δ S d S1) (h : isNon d = false) : DB X (.Compare a [.Is] [.Constant .none j p2] pos) Δ S false S1 := (db_isN ha).cast h
theorem db_isY {j : Nat} {p2 : Pos} (ha : DE X a Δ S .non S1) : DB X (.Compare a [.Is] [.Constant .none j p2] pos) Δ S true S1 := (db_isN ha).cast rfl
theorem db_notF {j : Nat} {p2 : Pos} (ha : DE X a Δ S .non S1) : DB X (.Compare a [.IsNot] [.Constant .none j p2] pos) Δ S false S1 := (db_notN ha).cast rfl
theorem db_notY {d : D} {j : Nat} {p2 : Pos} (ha : DE X a Δ S d S1) (h : isNon d = false) : DB X (.Compare a [.IsNot] [.Constant .none j p2] pos) Δ S true S1 := (db_notN ha).cast (by rw [h]; rfl)
theorem map_id_ints {α : Type} {xs : List α} {f : α → Int} : xs.map (fun v => D.int (f v)) = (xs.map f).map D.int := by rw [List.map_map]; rfl
theorem map_comp {α β : Type} {xs : List α} {f : α → β} {φ : β → D} : xs.map (fun v => φ (f v)) = (xs.map f).map φ := by rw [List.map_map]; rfl
theorem mem_iot {lo c x : Int} {n : Nat} : x ∈ iot lo c n ↔ ∃ i : Nat, i < n ∧ x = lo + (i : Int) * c := by
  unfold iot
  rw [List.mem_map]
  constructor
  · rintro ⟨i, h1, h2⟩
    exact ⟨i, List.mem_range.mp h1, h2.symm⟩
  · rintro ⟨i, h1, h2⟩
    exact ⟨i, List.mem_range.mpr h1, h2.symm⟩
theorem mem_iot1 {lo x : Int} {n : Nat} : x ∈ iot lo 1 n ↔ lo ≤ x ∧ x < lo + n := by
  rw [mem_iot]
  constructor
  · rintro ⟨i, h1, h2⟩
    omega
  · rintro ⟨h1, h2⟩
    exact ⟨(x - lo).toNat, by omega, by omega⟩
end
end Ab

set_option Elab.async false
set_option linter.all false
set_option autoImplicit false
set_option maxRecDepth 100000
set_option maxHeartbeats 2000000
/-! More statements. -/
namespace Ab
open PySem PySem.Spec PyProof.Rows L2 RZ
section
variable {X : Cx}
def rCatS (K : PySem.W.Frag) : R2 := fun x y H Q => ∃ l b xs zs, x = .ref l ∧ y = .ref b ∧ SqL K H l xs ∧ SqL K H b zs ∧ xs.length + zs.length ≤ sizeLine ∧ ∀ p, H p = none → Q (.ref p) (upd H p (.lst (xs ++ zs)))
theorem op_catS : OpR X (binaryOp .Add) (rCatS X.K) := by
  intro pins s σ H x y v u Q I rx ry h
  obtain ⟨l, b, xs, zs, rfl, rfl, hH, hB, hz, q⟩ := h
  cases rx
  cases ry
  obtain ⟨vs, r, pl, hl⟩ := I.list hH
  obtain ⟨ws, r2, pl2, hl2⟩ := I.list hB
  obtain ⟨⟨cls, dd, data, sl⟩, ho, hc, n, hd⟩ := id pl.isList
  obtain ⟨⟨cls2, dd2, data2, sl2⟩, ho2, hc2, n2, hd2⟩ := id pl2.isList
  simp only at hc hd hc2 hd2
  subst hc hd hc2 hd2
  have e : vs.toArray ++ ws.toArray = (vs ++ ws).toArray := by simp
  have hsz : vs.length + ws.length ≤ sizeLine := by rw [← r.length, ← r2.length]; exact hz
  refine concat_meets ⟨_, ho, rfl⟩ ⟨_, ho2, rfl⟩ noFill_list_add seq_list_add PySem.F.slot_list_add PySem.F.entry_list_add (PySem.F.args_list_add_2 _ _) (list_addW l b vs.toArray ws.toArray n n2 dd dd2 sl sl2 (by simpa using hsz)) ⟨ho, ho2, ?_⟩
  rw [e]
  exact ⟨.ref _, _, I.lnew (t' := s.toks) (r.append r2) (by rw [List.length_append]; omega), rfl, q _ I.fresh⟩
end
section
variable {X : Cx} {Δ Δ' Δ2 Δ3 : List Sl} {S S1 S2 S3 : PotS} {pos p p1 p2 : Pos} {a b c e tg iter elt : Expr} {es ifs : List Expr} {ss : List Sl} {ae : AE} {scope : Scope} {x y : Str} {rest body : List Stmt}
/-- list + list, of any lists -/
theorem dn_catQ {ds es : List D} (ha : DQ X a Δ S false ds S1) (hb : DQ X b Δ S1 false es S2) (hl : ds.length + es.length ≤ 100000) : DN X (.BinOp a .Add b pos) Δ S (ds ++ es) S2 :=
  DG.by (pe_op op_catS W.pe W.pe) (ha.1.trans hb.1) fun B0 H0 σ B H z Q q => z.run ha fun v B1 H1 z1 g1 p1 => z1.run hb fun u B2 H2 z2 g2 p2 => by
    obtain ⟨p, vs, rfl, h1, h3⟩ := p1
    obtain ⟨p', us, rfl, k1, k3⟩ := p2
    refine ⟨p, p', vs, us, rfl, rfl, h1 H2 g2.old, k1 H2 (Old.refl _ _), by rw [h3.length, k3.length]; exact Evl.sz_of hl, fun n hn => ?_⟩
    exact new_end z2.sub (gr_go z1.pot ha.1 g1 g2) (ha.1.trans hb.1) z2.pot hn ((h3.mono g2.ex).append k3) q
theorem de_tupX {ds : List D} {j : Nat} (h : DA X es Δ S ds S1) (hl : ds.length ≤ 100000) : DE X (.Tuple es j pos) Δ S (.tup ds) S1 := de_tup h hl
/-- e alone -/
theorem s1_expr {d : D} (h : DE X e Δ S d S1) (q : ae.nx Δ S1) (hs : swapsWith e none pos.line X.env = pure false := by rfl) : S1X X (.Expr e pos) Δ S ae := .mk fun B0 H0 σ B H Dn z r =>
  W1.of (ps_expr W.pe hs) (z.run h fun v B1 H1 z1 g1 p1 => r.nx σ B1 H1 Δ S1 z1 h.1.symm q)
/-- for over a typed list with a fact that grows -/
theorem sx_forJ {α : Type} {src : Src} {t : Tg} {xs : List α} {bd : α → List Sl → List Sl} (F : Nat → List Sl) (J : Nat → Prop) (hsrc : DS X tg iter Δ S src S1) (hT : Tm src t xs bd) (hg : TgOk X tg t src) (h0 : Wk Δ (F 0)) (j0 : J 0)
    (hs : ∀ i x, xs[i]? = some x → J i → SX X body (bd x (F i)) S1 { nx := fun Δ' S' => Wk Δ' (F (i + 1)) ∧ S' = S1 ∧ J (i + 1), rt := ae.rt, bk := fun Δ' S' => SX X rest Δ' S' ae, ct := fun Δ' S' => Wk Δ' (F (i + 1)) ∧ S' = S1 ∧ J (i + 1), rn := ae.rn })
    (hd : J xs.length → SX X rest (F xs.length) S1 ae)
    (hps : PS X (.For tg iter body [] pos) (tFor (WI X tg iter) (WG X tg) (WS X body))) : SX X (.For tg iter body [] pos :: rest) Δ S ae :=
  sx_cons (s1_for (Iv := fun i Δ' S' => Wk Δ' (F i) ∧ S' = S1 ∧ J i) hsrc hg ⟨h0, rfl, j0⟩ (fun i Δ' S' hi ⟨e1, e2, j⟩ eq => by
    rw [hT.len] at hi
    have e : xs[i]? = some xs[i] := List.getElem?_eq_getElem hi
    have w := e1.bind t src i
    rw [hT.at_ i _ _ e, hT.at_ i _ _ e] at w
    rw [hT.at_ i _ _ e, e2]
    exact sx_wk w (hs i _ e j)) (fun Δ' S' ⟨e1, e2, j⟩ eq => by
    rw [hT.len] at e1 j
    show SX X rest Δ' S' ae
    rw [e2]
    exact sx_wk e1 (hd j)) hps)
theorem DB.wk {k : Bool} (h : DB X c Δ' S k S1) (w : Wk Δ Δ') : DB X c Δ S k S1 :=
  ⟨⟨h.de.1, fun B0 H0 σ B H z Q q => h.de.2 B0 H0 σ B H (z.wk w) Q q⟩, ⟨h.dt.1, fun B0 H0 σ B H z Q q => h.dt.2 B0 H0 σ B H (z.wk w) Q q⟩⟩
/-- while: a family of states, a measure -/
theorem sx_while {α : Type} (F : α → List Sl) (Iv : α → Prop) (μ : α → Nat) (a0 : α) (h0 : Wk Δ (F a0)) (i0 : Iv a0)
    (hs : ∀ a, Iv a → ∃ k, DB X c (F a) S k S ∧ (k = true → SX X body (F a) S { nx := fun Δ' S' => S' = S ∧ ∃ a', μ a' < μ a ∧ Iv a' ∧ Wk Δ' (F a'), rt := ae.rt, bk := fun Δ' S' => SX X rest Δ' S' ae, ct := fun Δ' S' => S' = S ∧ ∃ a', μ a' < μ a ∧ Iv a' ∧ Wk Δ' (F a'), rn := ae.rn }) ∧ (k = false → SX X rest (F a) S ae))
    (hps : PS X (.While c body [] pos) (tWhile (WT X c) (WS X body))) : SX X (.While c body [] pos :: rest) Δ S ae :=
  sx_cons (s1_while (S := S) (Δ := Δ) (Wv := fun m Δ' S' => S' = S ∧ ∃ a, μ a = m ∧ Iv a ∧ Wk Δ' (F a)) (μ a0) ⟨rfl, a0, rfl, i0, h0⟩ (fun m Δ' S' ⟨e, a, em, ia, ed⟩ _ => by
    subst e
    subst em
    obtain ⟨k, h1, h2, h3⟩ := hs a ia
    exact ⟨k, _, h1.wk ed, fun hk => (sx_wk ed (h2 hk)).mono (fun Δ3 S3 ⟨e, a', m1, m2, m3⟩ => ⟨μ a', m1, e, a', rfl, m2, m3⟩) (fun _ _ q => q) (fun _ _ q => q) (fun Δ3 S3 ⟨e, a', m1, m2, m3⟩ => ⟨μ a', m1, e, a', rfl, m2, m3⟩) (fun _ _ q => q), fun hk => sx_wk ed (h3 hk)⟩) hps)
theorem cut_from {ds : List D} {k : Nat} : cutD ds (some (k : Int)) none = ds.drop k := by
  unfold cutD
  rw [HT.sIx_nat, HT.sIx_none]
  by_cases h : k ≤ ds.length
  · rw [Nat.min_eq_left h, List.take_of_length_le (by rw [List.length_drop]; omega)]
  · rw [Nat.min_eq_right (by omega), List.drop_of_length_le (Nat.le_refl _), List.drop_of_length_le (by omega), List.take_nil]
theorem cut_to {ds : List D} {k : Nat} : cutD ds none (some (k : Int)) = ds.take k := by
  unfold cutD
  rw [HT.sIx_nat, HT.sIx_none, List.drop_zero, Nat.sub_zero]
  by_cases h : k ≤ ds.length
  · rw [Nat.min_eq_left h]
  · rw [Nat.min_eq_right (by omega), List.take_of_length_le (Nat.le_refl _), List.take_of_length_le (by omega)]
end
/-- a class that is made, from its __init__ -/
theorem oki_of {P : Program} {w : World} {K : PySem.W.Frag} {mg : Str → Option Value} {base : Heap} {x n qual : Str} {C f : Addr} {params : Arguments} {body : List Stmt} {sc : Scope} {N ps : List Str} {dvs : List V} {dd : List D} {k : Nat} {RI : List D → List (Str × D) → Prop} (j : Nat)
    (g : mg x = some (.ref C)) (M : Mk K C f) (F : ∃ fd, FunD K "__init__" qual params body sc dvs [] f fd) (S : FnScope (n :: N) ps sc) (hl : ∀ ds fs, RI ds fs → ds.length + 1 = ps.length)
    (hb : ∀ fd, FunD K "__init__" qual params body sc dvs [] f fd → ∃ dsV, Vals (dvs.drop j) dsV ∧ Binds K fd ps dsV) (hdd : ∀ B, All K B (dvs.drop j) dd)
    (h : ∀ (cdv : Value) (A : Around) (outer : List Env) (s : Shared) (H : Hp) (E : XK), Room k (cxOf CX0 P w K mg base (n :: N) qual sc f cdv A outer s H E).nox.A → ∀ x dx ds fs, RI ds fs →
      SX (cxOf CX0 P w K mg base (n :: N) qual sc f cdv A outer s H E).nox body (.mk x dx C [] :: startD N ds) none { nx := fun Δ' S' => S' = none ∧ ∃ Δr, Δ' = .mk x dx C fs :: Δr, rt := fun _ _ => False }) : OkI P w K mg base x C (k + 1) dd RI := by
  obtain ⟨fd, F⟩ := F
  obtain ⟨dsV, hv, hbi⟩ := hb fd F
  refine ⟨f, fd, ps, dvs.drop j, dsV, g, M, hbi, hv, hdd, F.ok S (fun vs H Q E q => ?_) fun cdv A outer s H vs Q E hr hsp => ?_⟩
  · obtain ⟨x, dx, us, B, ds, fs, rfl, _, _, _, ha, hr, _⟩ := q
    rw [List.length_cons, ha.length]
    exact hl ds fs hr
  · obtain ⟨t, ht, q⟩ := sx_init (X := (cxOf CX0 P w K mg base (n :: N) qual sc f cdv A outer s H E).nox) (n := n) (N := N) (E := E) rfl hsp fun x dx ds fs hR => h cdv A outer s H E hr x dx ds fs hR
    exact ⟨t, ht.nox, q⟩
end Ab

set_option Elab.async false
set_option linter.all false
set_option autoImplicit false
set_option maxRecDepth 100000
set_option maxHeartbeats 2000000
/-! A def that gives a new list (the pot). -/
namespace Ab
open PySem PySem.Spec PyProof.Rows L2 RZ
def spNew (K : PySem.W.Frag) (R : List D → List D → Prop) : Sp := fun vs H Q _ => ∃ B ds out, Ex B H ∧ All K B vs ds ∧ R ds out ∧ ∀ v B2 H2, Gr none B H B2 H2 → pNew K out H v B2 H2 → Q v H2
structure OkN (P : Program) (w : World) (K : PySem.W.Frag) (mg : Str → Option Value) (base : Heap) (x : Str) (k : Nat) (R : List D → List D → Prop) : Prop where
  ex : ∃ f fd ps, mg x = some (.ref f) ∧ PySem.W.keepIn K (.ref f) = true ∧ Binds K fd ps [] ∧ FnOk P w K mg base CX0 k f fd ps (spNew K R)
theorem okn_of {P : Program} {w : World} {K : PySem.W.Frag} {mg : Str → Option Value} {base : Heap} {x : Str} {params : Arguments} {body : List Stmt} {sc : Scope} {N ps : List Str} {f : Addr} {k : Nat} {R : List D → List D → Prop}
    (g : mg x = some (.ref f)) (F : ∃ fd, FunD K x x params body sc [] [] f fd) (S : FnScope N ps sc)
    (hb : ∀ (kV doc pm : Value) (an : Option Addr) (cdv ct : Value) (us : List Value), us.length = ps.length → bindArgs (PySem.W.fnOf x x params body sc .none kV doc pm an cdv ct) ⟨us, []⟩ = pure (ps.zip us))
    (hl : ∀ ds out, R ds out → ds.length = ps.length)
    (h : ∀ (f : Addr) (cdv : Value) (A : Around) (outer : List Env) (s : Shared) (H : Hp) (E : XK), Room k (cxOf CX0 P w K mg base N x sc f cdv A outer s H E).nox.A → ∀ ds out, R ds out →
      SX (cxOf CX0 P w K mg base N x sc f cdv A outer s H E).nox body (startD N ds) none { nx := fun _ _ => False, rt := fun _ _ => False, rn := fun o S' => o = out ∧ S' = none }) : OkN P w K mg base x (k + 1) R := by
  obtain ⟨fd, F⟩ := F
  refine ⟨f, fd, ps, g, F.kp, F.bindsN hb, F.ok S (fun vs H Q E ⟨B, ds, out, _, ha, hr, _⟩ => by rw [ha.length]; exact hl ds out hr) fun cdv A outer s H vs Q E hr hsp => ?_⟩
  obtain ⟨B, ds, out, ex, ha, hR, q⟩ := hsp
  have hs := h f cdv A outer s H E hr ds out hR
  refine ⟨WS _ body, WS.ps.nox, hs.run B H (start N vs) B H _ (stt_start ex ha (fun _ _ e => nomatch e)) ⟨fun _ _ _ _ _ _ _ k => k.elim, fun _ _ _ _ _ _ _ _ _ k => k.elim, fun _ _ _ _ _ _ _ k => k.elim, fun _ _ _ _ _ _ _ k => k.elim, fun v B2 H2 o S2 g po e i k => ?_⟩⟩
  obtain ⟨rfl, rfl⟩ := k
  exact q v B2 H2 g i
section
variable {X : Cx} {Δ Δ' Δ2 Δ3 : List Sl} {S S1 : PotS} {pos : Pos} {a b : Expr} {ae : AE}
/-- if, both ways to one state -/
theorem s1_ifJ {k : Bool} {c : Expr} {body orelse : List Stmt} {S2 : PotS} (hc : DB X c Δ S k S1) (h1 : k = true → SX X body Δ S1 { ae with nx := fun Δ' S' => Δ' = Δ2 ∧ S' = S2 }) (h2 : k = false → SX X orelse Δ S1 { ae with nx := fun Δ' S' => Δ' = Δ2 ∧ S' = S2 }) (q : ae.nx Δ2 S2) : S1X X (.If c body orelse pos) Δ S ae :=
  s1_if hc (fun k => (h1 k).mono (fun Δ' S' ⟨e1, e2⟩ => by rw [e1, e2]; exact q) (fun _ _ q => q) (fun _ _ q => q) (fun _ _ q => q) (fun _ _ q => q)) (fun k => (h2 k).mono (fun Δ' S' ⟨e1, e2⟩ => by rw [e1, e2]; exact q) (fun _ _ q => q) (fun _ _ q => q) (fun _ _ q => q) (fun _ _ q => q))
/-- x, y = a, b by a tuple that is not kept: captured names -/
theorem p_tupV2 {N : List Str} {x y : Str} {i j : Nat} {s t : Sl} {px py pt pt2 : Pos} {kt k2 : Nat} (hN : X.N = N) (hc : X.calm = true) (hnd : X.N.Nodup) (h : DV X [a, b] Δ S [s, t] S1) (h1 : PutA N Δ x i s Δ2) (h2 : PutA N Δ2 y j t Δ3) (q : ae.nx Δ3 S1) (hij : i ≠ j)
    (hx : Loc X.env.scope x := by first | exact .inl rfl | exact .inr rfl) (hy : Loc X.env.scope y := by first | exact .inl rfl | exact .inr rfl)
    (hf : X.fn x = true ∨ X.env.scope.names.lookup x = some .local := by first | exact .inl rfl | exact .inr rfl) (hf2 : X.fn y = true ∨ X.env.scope.names.lookup y = some .local := by first | exact .inl rfl | exact .inr rfl)
    (hs : swapsWithSole [.Tuple [.Name x px, .Name y py] kt pt] (.Tuple [a, b] k2 pt2) pos.line X.env = pure false := by rfl) (hw : swappedStores [.Tuple [.Name x px, .Name y py] kt pt] (.Tuple [a, b] k2 pt2) X.env = pure none := by rfl)
    (hq : (assignEach [.Tuple [.Name x px, .Name y py] kt pt] X.env).map (·.2) = [assign (.Tuple [.Name x px, .Name y py] kt pt) X.env] := by rfl)
    (hn : (assignEach [.Name x px, .Name y py] X.env).length = 2 := by rfl) (hst : (assignEach [.Name x px, .Name y py] X.env).findIdx? (·.1) = none := by rfl)
    (hs1 : (assignEach (.Name x px :: [.Name y py]) X.env).map (·.2) = assign (.Name x px) X.env :: (assignEach [.Name y py] X.env).map (·.2) := by rfl)
    (hs2 : (assignEach (.Name y py :: []) X.env).map (·.2) = assign (.Name y py) X.env :: (assignEach [] X.env).map (·.2) := by rfl) : S1X X (.Assign [.Tuple [.Name x px, .Name y py] kt pt] (.Tuple [a, b] k2 pt2) pos) Δ S ae := .mk fun B0 H0 σ B H Dn z r => by
  refine W1.of (ps_asg (pe_tup WA.pa) (pg_tup hc (pgs_cons (pg_name hnd (by rw [hN]; exact h1.name) hx hf) (pgs_cons (pg_name hnd (by rw [hN]; exact h2.name) hy hf2) pgs_nil hs2) hs1) hn hst) hs hw hq) ?_
  refine h.2 B0 H0 σ [] [] B H (by rw [List.append_nil, List.append_nil]; exact z) z.len _ fun vs B2 H2 z2 g2 hl => ?_
  obtain ⟨v, w, rfl⟩ := len2 hl
  refine ⟨by show 2 ≤ sizeLine; decide, fun n hn => ?_⟩
  refine ⟨n, [v, w], rfl, Evl.st_of upd_same, rfl, _, _, rfl, _, _, rfl, rfl, r.nx _ B2 _ _ S1 ?_ h.1.symm q⟩
  have hlen := z.len
  have k1 := h1.lt
  have k2 := h2.lt
  have e2 := h2.eq
  have e1 := h1.eq
  have zg := z2.grow (PotEq.refl S1) (Gr.mine (o := .tup [v, w]) z2.sub hn) (z2.pot.upd hn)
  have z3 : Stt X.K B0 H0 ((σ ++ [some v]) ++ [some w]) B2 (upd H2 n (.tup [v, w])) ((Δ ++ [s]) ++ [t]) S1 := by
    rw [List.append_assoc, List.append_assoc]
    exact zg
  have z4 := z3.move (j := j) (by rw [List.length_append, List.length_append, hlen]; rfl) (by
    rw [← e1, List.length_set] at k2
    rw [List.length_append]
    omega)
  have kj : j < Δ.length := by
    rw [← e1, List.length_set] at k2
    exact k2
  rw [List.set_append_left _ _ (by omega), List.set_append_left _ _ kj] at z4
  have z5 := z4.move (j := i) (by rw [List.length_set, List.length_set]; exact hlen) (by rw [List.length_set]; omega)
  rw [List.set_comm _ _ (Ne.symm hij), List.set_comm _ _ (Ne.symm hij), e1, e2] at z5
  exact z5
end
end Ab

set_option Elab.async false
set_option linter.all false
set_option autoImplicit false
set_option maxRecDepth 100000
set_option maxHeartbeats 2000000
/-! The head's facts: defs at any place, own tests. -/
namespace Hk
open PySem PySem.Spec PyProof.Rows L2 He
/-- a def at a place told by what is looked at -/
structure DefA where
  at_ : PySem.W.Frag → Addr
  name : Str
  qual : Str
  params : Arguments
  body : List Stmt
  scope : Scope
  dfl : List Dv := []
  kwd : List (Str × Dv) := []
def fnA (K : PySem.W.Frag) (a : Addr) : FnW := match K.lookup a with
  | some ⟨_, _, .func fd, _⟩ => some (fd.name, fd.qualname, fd.params, fd.body, fd.scope, fd.globals, fd.closure, fd.builtins)
  | _ => none
def DefA.val (d : DefA) : FnW := some (d.name, d.qual, d.params, .stmts d.body, d.scope, mainGlobals, [], builtinsNs)
def DefA.dvs (K : PySem.W.Frag) (d : DefA) : List V := d.dfl.map (Dv.v K)
def DefA.kws (K : PySem.W.Frag) (d : DefA) : List (Str × V) := d.kwd.map fun q => (q.1, q.2.v K)
def DefA.ok (K : PySem.W.Frag) (d : DefA) : Bool := PySem.W.keepIn K (.ref (d.at_ K)) && (match K.lookup (d.at_ K) with
  | some ⟨_, _, .func fd, _⟩ => PySem.W.codeIn K fd.code d.qual && (dflB K fd.defaults (d.dvs K) && kwdB K fd.kwdefaults (d.kws K))
  | _ => false)
theorem DefA.funD {K : PySem.W.Frag} {d : DefA} (e : fnA K (d.at_ K) = d.val) (c : d.ok K = true) : ∃ fd, FunD K d.name d.qual d.params d.body d.scope (d.dvs K) (d.kws K) (d.at_ K) fd := by
  obtain ⟨kp, c2⟩ := ba c
  unfold fnA at e
  cases q : K.lookup (d.at_ K) with
  | none =>
    rw [q] at c2
    cases c2
  | some o =>
    obtain ⟨oc, od, dt, osl⟩ := o
    rw [q] at c2 e
    cases dt with
    | func fd =>
      obtain ⟨n1, n2, n3, n4, n5, n6, n7, n8, n9, n10, n11, n12, n13, n14, n15⟩ := fd
      have e2 : (some (n1, n2, n3, n4, n5, n6, n7, n15) : FnW) = some (d.name, d.qual, d.params, .stmts d.body, d.scope, mainGlobals, [], builtinsNs) := e
      simp only [Option.some.injEq, Prod.mk.injEq] at e2
      obtain ⟨h1, h2, h3, h4, h5, h6, h7, h8⟩ := e2
      subst h1 h2 h3 h4 h5 h6 h7 h8
      have c3 : (PySem.W.codeIn K n13 d.qual && (dflB K n8 (d.dvs K) && kwdB K n9 (d.kws K))) = true := c2
      obtain ⟨k1, k2⟩ := ba c3
      obtain ⟨k3, k4⟩ := ba k2
      exact ⟨_, ⟨oc, od, n8, n9, n10, n11, n12, n13, n14, osl, rfl, q, k1, dflB_ok k3, kwdB_ok k4⟩, kp⟩
    | _ => cases c2
/-- a tuple at a place -/
def tupA (K : PySem.W.Frag) (a : Addr) (vs : List Dv) : Bool := match K.lookup a with
  | some ⟨.type c, _, .seq its _, _⟩ => decide (c = "tuple") && (decide (its.size ≤ sizeLine) && relAll (vs.map (Dv.v K)) its.toList)
  | _ => false
theorem tupA_ok {K : PySem.W.Frag} {a : Addr} {vs : List Dv} (h : tupA K a vs = true) (H : Hp) : SqT K H a (vs.map (Dv.v K)) := by
  unfold tupA at h
  cases q : K.lookup a with
  | none =>
    rw [q] at h
    cases h
  | some o =>
    obtain ⟨oc, od, dt, osl⟩ := o
    rw [q] at h
    cases oc with
    | type c =>
      cases dt with
      | seq its n =>
        obtain ⟨h1, h2⟩ := ba (show (decide (c = "tuple") && (decide (its.size ≤ sizeLine) && relAll (vs.map (Dv.v K)) its.toList)) = true from h)
        obtain ⟨h3, h4⟩ := ba h2
        exact .inr ⟨_, its, n, q, congrArg Value.type (of_decide_eq_true h1), rfl, of_decide_eq_true h3, relAll_ok h4⟩
      | _ => cases h
    | _ => cases dt <;> cases h
/-- a property's getter -/
def getA (K : PySem.W.Frag) (p : Addr) : Addr := match PySem.W.recIn K p "property" with
  | some (.ref g :: _) => g
  | _ => 0
def propB (K : PySem.W.Frag) (C : Addr) (m : Str) : Bool := eqO (PySem.W.findIn K (.ref C) m) (some (some (.ref (ma K C m)))) && (eqO (PySem.W.specialIn K (.ref (ma K C m)) "__get__") (some (some (.builtin "property.__get__"))) && (decide (PySem.W.takesIn K (.ref (ma K C m)) = some true) && (match PySem.W.recIn K (ma K C m) "property" with
  | some (.ref _ :: _) => true
  | _ => false)))
theorem propB_ok {K : PySem.W.Frag} {C : Addr} {m : Str} (h : propB K C m = true) : PropOf K C m (ma K C m) (getA K (ma K C m)) := by
  obtain ⟨h1, h⟩ := ba h
  obtain ⟨h2, h⟩ := ba h
  obtain ⟨h3, h4⟩ := ba h
  refine ⟨eqO_ok h1, eqO_ok h2, of_decide_eq_true h3, ?_⟩
  unfold getA
  split at h4
  · rename_i g r e
    rw [e]
    exact ⟨r, rfl⟩
  · cases h4
def ownB (K : PySem.W.Frag) (C : Addr) : Bool := eqO (PySem.W.findIn K (.ref C) "__eq__") (some (some (.ref (ma K C "__eq__")))) && (PySem.W.isFn K (.ref (ma K C "__eq__")) && (eqO (PySem.W.findIn K (.ref C) "__ne__") (some (some (.builtin "object.__ne__"))) && decide (PySem.W.subIn K (.ref C) (.type "object") = some true)))
theorem ownB_ok {K : PySem.W.Frag} {C : Addr} (h : ownB K C = true) : Ab.OwnQ K C (ma K C "__eq__") := by
  obtain ⟨h1, h⟩ := ba h
  obtain ⟨h2, h⟩ := ba h
  obtain ⟨h3, h4⟩ := ba h
  exact ⟨eqO_ok h1, h2, eqO_ok h3, of_decide_eq_true h4⟩
def ob (a b : Option Bool) : Bool := decide (a = b)
theorem ob_ok {a b : Option Bool} (h : ob a b = true) : a = b := of_decide_eq_true h
/-! ### what is looked at -/
/-- a dict's values, a function's code and defaults, a class's dict and order, a property's parts -/
def refsN (o : Obj) : List Addr := match o.data with
  | .dict es _ => es.toList.flatMap fun e => refV e.val
  | .func fd => refV fd.code ++ refV fd.defaults
  | .cls cd => cd.ns :: cd.mro.flatMap refV
  | .seq its _ => its.toList.flatMap refV
  | .fields vs => (match o.cls with
    | .type c => (match decide (c = "property") with
      | true => vs.toList.flatMap refV
      | false => [])
    | _ => [])
  | _ => []
def lvN (g : Addr → Option Obj) (as : List Addr) : List Addr := as.flatMap fun a => match g a with
  | some o => refsN o
  | none => []
def asN (g : Addr → Option Obj) : Nat → List Addr → List Addr
  | 0, as => as
  | n + 1, as => as ++ asN g n (lvN g as)
/-- from the module's names, five steps -/
def az (g : Addr → Option Obj) : List Addr := asN g 5 [mainGlobals]
/-! ### the Hook -/
abbrev Al : Type := AlD × (Bool × List FnW)
abbrev Ex : Type := List (PySem.W.Frag → Bool)
def obsB (fa : List Fa) (fn : List DefD) (fb : List DefA) (ex : Ex) (K : PySem.W.Frag) : Al := (obsD fa fn K, ((ex.all fun f => f K) && fb.all fun d => d.ok K, fb.map fun d => fnA K (d.at_ K)))
def valB (fn : List DefD) (fb : List DefA) : Al := (valD fn, (true, fb.map DefA.val))
def SaysB (fa : List Fa) (fn : List DefD) (fb : List DefA) (ex : Ex) (K : PySem.W.Frag) : Prop := obsB fa fn fb ex K = valB fn fb
def obsBG (fa : List Fa) (fn : List DefD) (fb : List DefA) (ex : Ex) (g : Addr → Option Obj) : Al := obsB fa fn fb ex (frG g (az g))
def hookB (fa : List Fa) (fn : List DefD) (fb : List DefA) (ex : Ex) : PySem.W.Hook where
  α := Al
  obs := fun s => obsBG fa fn fb ex s.heap.get?
  val := fun _ => valB fn fb
  says := fun _ h => ∃ K : PySem.W.Frag, K.In h ∧ SaysB fa fn fb ex K
  of := fun _ _ e => ⟨_, frG_in, e⟩
  keeps := fun _ _ _ ⟨K, hK, c⟩ k => ⟨K, PySem.W.Frag.In.keeps hK k, c⟩
theorem obsBG_eq {fa : List Fa} {fn : List DefD} {fb : List DefA} {ex : Ex} {g : Addr → Option Obj} {s : Shared} (h : ∀ a, g a = s.heap.get? a) : obsBG fa fn fb ex g = (hookB fa fn fb ex).obs s := by
  have e : g = s.heap.get? := funext h
  rw [e] <;> rfl
section
variable {fa : List Fa} {fn : List DefD} {fb : List DefA} {ex : Ex} {K : PySem.W.Frag}
theorem SaysB.d (c : SaysB fa fn fb ex K) : SaysD fa fn K := congrArg (fun z : Al => z.1) c
theorem SaysB.x (c : SaysB fa fn fb ex K) (i : Nat) {f : PySem.W.Frag → Bool} (h : ex[i]? = some f := by rfl) : f K = true := by
  have c1 := (ba (show ((ex.all fun f => f K) && fb.all fun d => d.ok K) = true from congrArg (fun z : Al => z.2.1) c)).1
  exact List.all_eq_true.mp c1 f (List.mem_of_getElem? h)
theorem SaysB.b (c : SaysB fa fn fb ex K) (i : Nat) {d : DefA} (h : fb[i]? = some d := by rfl) : ∃ fd, FunD K d.name d.qual d.params d.body d.scope (d.dvs K) (d.kws K) (d.at_ K) fd := by
  have c2 := (ba (show ((ex.all fun f => f K) && fb.all fun d => d.ok K) = true from congrArg (fun z : Al => z.2.1) c)).2
  have e : fb.map (fun d => fnA K (d.at_ K)) = fb.map DefA.val := congrArg (fun z : Al => z.2.2) c
  have e2 : (fb.map fun d => fnA K (d.at_ K))[i]? = (fb.map DefA.val)[i]? := by rw [e]
  rw [List.getElem?_map, List.getElem?_map, h] at e2
  exact DefA.funD (Option.some.inj e2) (List.all_eq_true.mp c2 d (List.mem_of_getElem? h))
end
end Hk

set_option Elab.async false
set_option linter.all false
set_option autoImplicit false
set_option maxRecDepth 100000
set_option maxHeartbeats 2000000
/-! Where nothing is being shown: defs that call repr; repr of data. -/
namespace Ab
open PySem PySem.Spec PyProof.Rows L2 RZ
structure FnOkG (P : Program) (w : World) (K : PySem.W.Frag) (mg : Str → Option Value) (base : Heap) (k : Nat) (f : Addr) (fd : FuncData) (ps : List Str) (sp : Sp) : Prop where
  len : ∀ vs H Q E, sp vs H Q E → vs.length = ps.length
  run : ∀ (A : Around), Room k A → A.guards = some [] → ∀ (outer : List Env) (s : Shared) (H : Hp) (args : Args) (us : List Value) (vs : List V) (Q : VK) (E : XK), Env0 P w K mg base A outer s H →
    BindsTo s fd args (ps.zip us) → Vals vs us → sp vs H Q E → codeAny (model P w) A (.call (.ref f) args) (CR CX0 outer P w H s Q E) s
section
variable {P : Program} {w : World} {K : PySem.W.Frag} {mg : Str → Option Value} {base : Heap} {k : Nat} {f : Addr} {fd : FuncData} {N ps : List Str} {sp : Sp} {x qual : Str} {params : Arguments} {body : List Stmt} {scope : Scope} {dvs : List V} {kws : List (Str × V)}
theorem FnOkG.of (F : FnOk P w K mg base CX0 k f fd ps sp) : FnOkG P w K mg base k f fd ps sp := ⟨F.len, fun A hr _ outer s H args us vs Q E => F.run A outer s H args us vs Q E hr⟩
/-- a def that may call repr, from its body -/
theorem funD_okG (F : FunD K x qual params body scope dvs kws f fd) (S : FnScope N ps scope) (len : ∀ vs H Q E, sp vs H Q E → vs.length = ps.length)
    (hbody : ∀ (cdv : Value) (A : Around) (outer : List Env) (s : Shared) (H : Hp) (vs : List V) (Q : VK) (E : XK), Room k (A.deeper (envOfC qual scope s.heap.objs.size f cdv)) → A.guards = some [] → sp vs H Q E →
      ∃ t, PSs (cxOf CX0 P w K mg base N qual scope f cdv A outer s H E) body t ∧ t { nx := fun _ H' => Q .non H', rt := Q } (start N vs) H) : FnOkG P w K mg base (k + 1) f fd ps sp := by
  obtain ⟨oc, od, dV, kV, doc, pm, an, cdv, ct, osl, rfl, lk, hcd, _, _⟩ := F.ex
  constructor
  · exact len
  · intro A hr hG outer s H args us vs Q E e0 hb r hsp
    have inS : K.In s.heap := e0.mod.kin.keeps fun b o e => (e0.bs b o e).1
    have kinds : ∀ y ∈ ps.zip us, scope.names.lookup y.1 = some .local ∨ (scope.names.lookup y.1 = some .cell ∧ ((cellsFrom (s.heap.objs.size + 1) scope.names []).lookup y.1).isSome = true) := by
      rintro ⟨n, v⟩ hy
      cases S.par n (List.of_mem_zip hy).1 with
      | inl q => exact .inl q
      | inr q => exact .inr ⟨q, PySem.W.cellsFrom_some _ _ _ (.inl q)⟩
    refine codeAny_call_function hr.depth (inS _ _ lk) rfl S.co S.gen rfl (PySem.W.codeRec_of inS hcd) (hb _ _ _ _ ?_)
    refine wpAny_newFunctionEnv_cells S.kind kinds ?_
    intro env he s1 y
    subst he
    refine ⟨(e0.mod.nolimit.keeps fun b o e => (e0.bs b o e).1).keeps y.toInCall.keep, codeAny_func ?_⟩
    obtain ⟨t, ht, hq⟩ := hbody cdv A outer s H vs Q E (hr.deeper _) hG hsp
    refine wpAny_mono (ht.run [] s1 (start N vs) H _ (inv_start S hr.hd e0 (len _ _ _ _ hsp) r y) hq) ?_ fun e s' hs => hs
    intro fl s' hs
    match fl, hs with
    | .ret u, ⟨v, σ', H', J, rv, q⟩ => exact ⟨v, H', J.os, J.bare, J.base, J.hok, rv, q⟩
    | .next, ⟨σ', H', J, q⟩ => exact ⟨V.non, H', J.os, J.bare, J.base, J.hok, rfl, q⟩
    | .brk, ⟨_, _, _, q⟩ => exact q.elim
    | .cont, ⟨_, _, _, q⟩ => exact q.elim
end
section
variable {X : Cx} {Δ : List Sl} {S S1 S2 : PotS} {pos p : Pos} {e : Expr} {es : List Expr} {x : Str} {k : Nat} {f : Addr} {fd : FuncData} {ps : List Str} {sp : Sp} {R : Sig} {ds : List D} {d : D} {t : TA}
theorem pe_callG (F : FnOkG X.prog X.w X.K X.mg X.base k f fd ps sp) (hr : Room k X.A) (hG : X.A.guards = some []) (hg : Gl X x) (hm : X.mg x = some (.ref f)) (hk : PySem.W.keepIn X.K (.ref f) = true) (hb : Binds X.K fd ps [])
    (ha : PA X (e :: es) t) (hdb : (x == ("__debug__" : Str)) = false := by decide) (he : starEach (e :: es) X.env = (false, eval e X.env) :: starEach es X.env := by rfl) (hpl : (backTo pos (starEach es X.env)).any (·.1) = false := by rfl) :
    PE X (.Call (.Name x p) (e :: es) [] pos) (tCall sp [] E0 t) := by
  constructor
  intro pins s σ H Q I h
  refine wpAny_Call_Name_kw (ld_glob I hg hm ?_ hdb)
  refine PySem.W.callWith_K (h₀ := X.base) I.ok.mod.kin hk (thn (ha.run pos pins s σ H _ I h) fun us s1 ⟨vs, H1, I1, r, q⟩ => ⟨I1.kIn, ?_⟩) he hpl
  have q : sp (vs ++ []) H1 Q E0 := q
  rw [List.append_nil] at q
  have hl : us.length = ps.length := by rw [← r.length]; exact F.len _ _ _ _ q
  have hb2 := hb s1 us I1.kIn (by rw [List.append_nil]; exact hl)
  rw [List.append_nil] at hb2
  refine wpAny_call (codeAny_mono (F.run X.A hr hG X.stack s1 H1 ⟨us, []⟩ us vs Q E0 I1.env0 hb2 r q) ?_)
  intro r s' hq
  match r, hq with
  | .error e, hq => exact pass0 pins σ H1 s1 e s' I1 hq
  | .ok (.ret w), hq => exact I1.after hq
  | .ok .next, hq => exact hq.elim
  | .ok .brk, hq => exact hq.elim
  | .ok .cont, hq => exact hq.elim
/-- a def of the module that may call repr -/
structure OkG (P : Program) (w : World) (K : PySem.W.Frag) (mg : Str → Option Value) (base : Heap) (x : Str) (k : Nat) (R : Sig) : Prop where
  ex : ∃ f fd ps, mg x = some (.ref f) ∧ PySem.W.keepIn K (.ref f) = true ∧ Binds K fd ps [] ∧ FnOkG P w K mg base k f fd ps (spOf K R)
theorem de_okG {j : Nat} (F : OkG X.prog X.w X.K X.mg X.base x k R) (hr : Room j X.A) (hk : k ≤ j) (hG : X.A.guards = some []) (hg : Gl X x) (ha : DA X (e :: es) Δ S ds S1) (eq : PotEq S1 S2) (hR : R ds S1 d S2)
    (hdb : (x == ("__debug__" : Str)) = false := by decide) (he : starEach (e :: es) X.env = (false, eval e X.env) :: starEach es X.env := by rfl) (hpl : (backTo pos (starEach es X.env)).any (·.1) = false := by rfl) : DE X (.Call (.Name x p) (e :: es) [] pos) Δ S d S2 := by
  obtain ⟨f, fd, ps, h1, h2, h3, h4⟩ := F.ex
  refine DG.by (pe_callG h4 (hr.mono hk) hG hg h1 h2 h3 WA.pa hdb he hpl) (ha.1.trans eq) fun B0 H0 σ B H z Q q => z.runA ha fun vs B1 H1 z1 g1 p1 => ?_
  show spOf X.K R (vs ++ []) H1 Q _
  rw [List.append_nil]
  exact sp_go z1 ha.1 g1 p1 eq hR q
end
theorem okg_of {P : Program} {w : World} {K : PySem.W.Frag} {mg : Str → Option Value} {base : Heap} {x : Str} {params : Arguments} {body : List Stmt} {sc : Scope} {N ps : List Str} {f : Addr} {k : Nat} {R : Sig}
    (g : mg x = some (.ref f)) (F : ∃ fd, FunD K x x params body sc [] [] f fd) (S : FnScope N ps sc)
    (hb : ∀ (kV doc pm : Value) (an : Option Addr) (cdv ct : Value) (us : List Value), us.length = ps.length → bindArgs (PySem.W.fnOf x x params body sc .none kV doc pm an cdv ct) ⟨us, []⟩ = pure (ps.zip us))
    (hl : ∀ ds S d S', R ds S d S' → ds.length = ps.length)
    (h : ∀ (f : Addr) (cdv : Value) (A : Around) (outer : List Env) (s : Shared) (H : Hp) (E : XK), Room k (cxOf CX0 P w K mg base N x sc f cdv A outer s H E).nox.A → A.guards = some [] → ∀ ds S d S', PotEq S S' → R ds S d S' →
      SX (cxOf CX0 P w K mg base N x sc f cdv A outer s H E).nox body (startD N ds) S (endOf d S')) : OkG P w K mg base x (k + 1) R := by
  obtain ⟨fd, F⟩ := F
  refine ⟨f, fd, ps, g, F.kp, F.bindsN hb, funD_okG F S (sp_len hl) fun cdv A outer s H vs Q E hr hG hsp => ?_⟩
  obtain ⟨t, ht, q⟩ := sx_fn (X := (cxOf CX0 P w K mg base N x sc f cdv A outer s H E).nox) (E := E) hsp fun ds S d S' eq hR => h f cdv A outer s H E hr hG ds S d S' eq hR
  exact ⟨t, ht.nox, q⟩
theorem OkG.of {P : Program} {w : World} {K : PySem.W.Frag} {mg : Str → Option Value} {base : Heap} {x : Str} {k : Nat} {R : Sig} (F : Ok P w K mg base x k R) : OkG P w K mg base x k R := by
  obtain ⟨f, fd, ps, h1, h2, h3, h4⟩ := F.ex
  exact ⟨f, fd, ps, h1, h2, h3, .of h4⟩
/-! ### repr of data -/
/-- may be shown: bools too; whole numbers below 2 ** 1920 -/
def rOk : Nat → D → Bool
  | _, .non => true
  | _, .bl _ => true
  | _, .int i => decide (i.natAbs.log2 < 1920)
  | _, .str x => x.cps.toList.all fun c => decide (c < 16 ^ 8)
  | n + 1, .tup ds => ds.all (rOk n)
  | n + 1, .lst ds => ds.all (rOk n)
  | _, _ => false
theorem dps_map : ∀ ds : List D, dPs ds = ds.map dP
  | [] => rfl
  | d :: ds => by
    show dP d :: dPs ds = dP d :: ds.map dP
    rw [dps_map]
section
open PySem.PyData
theorem r_facts : ∀ (n : Nat) (d : D), rOk n d = true → (dP d).showable = true ∧ (dP d).hasDict = false ∧ (dP d).depth ≤ n := by
  have all : ∀ (n : Nat), (∀ d, rOk n d = true → (dP d).showable = true ∧ (dP d).hasDict = false ∧ (dP d).depth ≤ n) → ∀ ds : List D, (∀ d ∈ ds, rOk n d = true) → PyData.showableAll (dPs ds) = true ∧ PyData.hasDictAll (dPs ds) = false ∧ PyData.depthAll (dPs ds) ≤ n := by
    intro n ih ds
    induction ds with
    | nil => intro _; exact ⟨rfl, rfl, Nat.zero_le _⟩
    | cons d ds ih2 =>
      intro h
      obtain ⟨a1, a2, a3⟩ := ih d (h d List.mem_cons_self)
      obtain ⟨b1, b2, b3⟩ := ih2 fun e he => h e (List.mem_cons_of_mem _ he)
      refine ⟨?_, ?_, ?_⟩
      · show (PyData.showable (dP d) && PyData.showableAll (dPs ds)) = true
        rw [a1, b1]
        rfl
      · show (PyData.hasDict (dP d) || PyData.hasDictAll (dPs ds)) = false
        rw [a2, b2]
        rfl
      · show max (dP d).depth (PyData.depthAll (dPs ds)) ≤ n
        omega
  intro n
  induction n with
  | zero =>
    intro d h
    cases d with
    | non => exact ⟨rfl, rfl, Nat.le_refl _⟩
    | bl b => exact ⟨rfl, rfl, Nat.le_refl _⟩
    | int i => exact ⟨h, rfl, Nat.le_refl _⟩
    | str x => exact ⟨rfl, rfl, Nat.le_refl _⟩
    | _ => cases h
  | succ n ih =>
    intro d h
    cases d with
    | non => exact ⟨rfl, rfl, Nat.zero_le _⟩
    | bl b => exact ⟨rfl, rfl, Nat.zero_le _⟩
    | int i => exact ⟨h, rfl, Nat.zero_le _⟩
    | str x => exact ⟨rfl, rfl, Nat.zero_le _⟩
    | tup ds =>
      obtain ⟨a1, a2, a3⟩ := all n ih ds (List.all_eq_true.mp h)
      refine ⟨a1, a2, ?_⟩
      show PyData.depthAll (dPs ds) + 1 ≤ n + 1
      omega
    | lst ds =>
      obtain ⟨a1, a2, a3⟩ := all n ih ds (List.all_eq_true.mp h)
      refine ⟨a1, a2, ?_⟩
      show PyData.depthAll (dPs ds) + 1 ≤ n + 1
      omega
    | _ => cases h
end
section
variable {K : PySem.W.Frag} {B H : Hp}
theorem All.dpR (ex : Ex B H) {n : Nat} (ih : ∀ {v : V} {d : D}, Is K B v d → rOk n d = true → Dp K H v (dP d)) : ∀ {vs : List V} {ds : List D}, All K B vs ds → (∀ d, d ∈ ds → rOk n d = true) → DpAll K H vs (dPs ds)
  | _, _, .nil, _ => .nil
  | _, _, .cons h t, o => .cons (ih h (o _ List.mem_cons_self)) (All.dpR ex ih t fun d hd => o d (List.mem_cons_of_mem _ hd))
theorem Is.dpR (ex : Ex B H) : ∀ (n : Nat) {v : V} {d : D}, Is K B v d → rOk n d = true → Dp K H v (dP d) := by
  intro n
  induction n with
  | zero =>
    intro v d h o
    cases h with
    | non => exact .non
    | bl b => exact .bl b
    | int i => exact .int i
    | str x => exact .str x
    | _ => cases o
  | succ n ih =>
    intro v d h o
    cases h with
    | non => exact .non
    | bl b => exact .bl b
    | int i => exact .int i
    | str x => exact .str x
    | tup h1 h2 => exact .tup (Evl.ex_t ex h1) (All.dpR ex (fun h o => ih h o) h2 fun d hd => List.all_eq_true.mp o d hd)
    | lst h1 h2 => exact .lst (Evl.ex_l ex h1) (All.dpR ex (fun h o => ih h o) h2 fun d hd => List.all_eq_true.mp o d hd)
    | _ => cases o
end
/-! ### how long it is -/
theorem r_short : ∀ (n : Nat) (d : D), rOk n d = true → (dP d).leavesShort 1921 = true := by
  have all : ∀ (n : Nat), (∀ d, rOk n d = true → (dP d).leavesShort 1921 = true) → ∀ ds : List D, (∀ d ∈ ds, rOk n d = true) → PyData.leavesShortAll 1921 (dPs ds) = true := by
    intro n ih ds
    induction ds with
    | nil => intro _; rfl
    | cons d ds ih2 =>
      intro h
      show (PyData.leavesShort 1921 (dP d) && PyData.leavesShortAll 1921 (dPs ds)) = true
      rw [ih d (h d List.mem_cons_self), ih2 fun e he => h e (List.mem_cons_of_mem _ he)]
      rfl
  have base : ∀ (n : Nat) (i : Int), rOk n (.int i) = true → (PyData.int i).leavesShort 1921 = true := fun n i h => by
    have h2 : i.natAbs.log2 < 1920 := by
      cases n <;> exact of_decide_eq_true h
    show decide ((PyData.shown (.int i)).length ≤ 1921) = true
    refine decide_eq_true ?_
    rw [PyData.shown_int]
    exact int_text_len_1921 h2
  have bs : ∀ (n : Nat) (x : Str), rOk n (.str x) = true → (PyData.str x).leavesShort 1921 = true := fun n x h => by
    cases n <;> exact h
  intro n
  induction n with
  | zero =>
    intro d h
    cases d with
    | non => rfl
    | bl b => rfl
    | int i => exact base _ _ h
    | str x => exact bs _ _ h
    | _ => cases h
  | succ n ih =>
    intro d h
    cases d with
    | non => rfl
    | bl b => rfl
    | int i => exact base _ _ h
    | str x => exact bs _ _ h
    | tup ds => exact all n ih ds (List.all_eq_true.mp h)
    | lst ds => exact all n ih ds (List.all_eq_true.mp h)
    | _ => cases h
/-- what repr tells -/
def shD (d : D) : Str := (dP d).shown
theorem sh_len {n : Nat} {d : D} (h : rOk n d = true) (hb : (dP d).bulk ≤ 8000) : (shD d).length ≤ sizeLine := by
  have h1 := PyData.shown_le_bulk 1921 (by decide) (dP d) (r_short n d h)
  have h2 : (1921 + 2) * (dP d).bulk ≤ (1921 + 2) * 8000 := Nat.mul_le_mul_left _ hb
  have h3 : (1921 + 2) * 8000 + 1921 ≤ sizeLine := by decide
  show (dP d).shown.length ≤ sizeLine
  omega
theorem bulks_le {b : Nat} : ∀ {ds : List D}, (∀ d, d ∈ ds → (dP d).bulk ≤ b) → PyData.bulkAll (dPs ds) ≤ (b + 1) * ds.length
  | [], _ => Nat.zero_le _
  | d :: ds, h => by
    have h1 := h d List.mem_cons_self
    have h2 := bulks_le (ds := ds) fun e he => h e (List.mem_cons_of_mem _ he)
    show PyData.bulk (dP d) + 1 + PyData.bulkAll (dPs ds) ≤ (b + 1) * (ds.length + 1)
    rw [Nat.mul_succ]
    omega
section
variable {X : Cx} {Δ : List Sl} {S S1 : PotS} {pos p : Pos} {e : Expr} {d : D}
theorem call_reprD {j n : Nat} (hr : Room j X.A) (hG : X.A.guards = some []) (ho : rOk n d = true) (hn : n ≤ 60) (hs : (shD d).length ≤ sizeLine) (hd : isDisplay (dP d) = true) : CallR X (.builtin "repr") (fun xs H Q => ∃ v, xs = [v] ∧ Dp X.K H v (dP d) ∧ Q (.str (shD d)) H) := by
  intro pins s σ H xs us Q I r h
  obtain ⟨v, rfl, hv, q⟩ := h
  obtain ⟨u, rfl, ru⟩ := vals1 r
  obtain ⟨as, rd⟩ := Dp.reads I (dP d) v u hv ru
  obtain ⟨a, rfl⟩ := isRef_of_reads rd hd
  obtain ⟨f1, f2, f3⟩ := r_facts n d ho
  have hu := hr.units
  exact repr_of_reads' rd f1 (PyData.noDict_hsm f2) hG (by omega) (fun _ _ e => e) (fun h' u tk hk => ⟨.str (shD d), H, I.kept hk, ⟨_, rfl⟩, q⟩) hs
/-- repr(e) of a list, of a tuple -/
theorem de_repr {j n : Nat} (hr : Room j X.A) (hG : X.A.guards = some []) (ha : DE X e Δ S d S1) (ho : rOk n d = true) (hb : (dP d).bulk ≤ 8000) (hd : isDisplay (dP d) = true) (hg : Gl X "repr") (hm : X.mg "repr" = none)
    (he : starEach [e] X.env = (false, eval e X.env) :: starEach [] X.env := by rfl) (hpl : (backTo pos (starEach [] X.env)).any (·.1) = false := by rfl) (hn : n ≤ 60 := by decide) : DE X (.Call (.Name "repr" p) [e] [] pos) Δ S (.str (shD d)) S1 :=
  DG.by (pe_callB (call_reprD hr hG ho hn (sh_len ho hb) hd) hg hm bootS_repr WA.pa (by decide) (by decide) he hpl) ha.1 fun B0 H0 σ B H z Q q => by
    refine WA.of (pa_cons W.pe pa_nil he) ?_
    exact z.run ha fun v B1 H1 z1 g1 p1 => ⟨v, rfl, Is.dpR z1.sub n p1 ho, q _ B1 H1 g1 z1.pot (.str _)⟩
end
end Ab

set_option Elab.async false
set_option linter.all false
set_option autoImplicit false
set_option maxRecDepth 100000
set_option maxHeartbeats 2000000
/-! Texts compared; a law's end over a def that may call repr. -/
namespace Ab
open PySem PySem.Spec PyProof.Rows L2 RZ
section
variable {X : Cx} {Δ : List Sl} {S S1 S2 : PotS} {pos : Pos} {a b : Expr}
theorem V_str {x y : Str} : decide (V.str x = V.str y) = decide (x = y) := by
  by_cases h : x = y
  · rw [h, decide_eq_true rfl, decide_eq_true rfl]
  · rw [decide_eq_false h, decide_eq_false fun e => h (V.str.inj e)]
theorem db_eqS {x y : Str} (ha : DE X a Δ S (.str x) S1) (hb : DE X b Δ S1 (.str y) S2) : DB X (.Compare a [.Eq] [b] pos) Δ S (decide (x = y)) S2 :=
  db_cmp op_eq (nomark _) ha hb fun B H v B1 H1 u B2 H2 _ _ p1 _ _ p2 Q q => by
    cases p1
    cases p2
    exact ⟨rfl, by rw [V_str]; exact q⟩
theorem db_neS {x y : Str} (ha : DE X a Δ S (.str x) S1) (hb : DE X b Δ S1 (.str y) S2) : DB X (.Compare a [.NotEq] [b] pos) Δ S (!decide (x = y)) S2 :=
  db_cmp op_ne (nomark _) ha hb fun B H v B1 H1 u B2 H2 _ _ p1 _ _ p2 Q q => by
    cases p1
    cases p2
    exact ⟨rfl, by rw [V_str]; exact q⟩
end
/-- the abstract heap at the law's call: the script, or nothing -/
structure At0 (P : Program) (w : World) (K : PySem.W.Frag) (s : Shared) (a : Addr) (ns : List Int) (H : Hp) : Prop where
  only : Only H
  seq : SqL K H a (ns.map V.int)
  ok : HOk P w H s.heap
  at_ : ∀ b, H b ≠ none → b = a
  off : H a ≠ none → K.lookup a = none
theorem at0_ex {P : Program} {w : World} {K : PySem.W.Frag} {s : Shared} {a : Addr} {vs : List Value} {ns : List Int} (KX : K.In s.heap) (ha : s.heap.get? a = some { cls := .type "list", data := .seq vs.toArray }) (hi : IntsAre vs ns) (hl : ns.length ≤ sizeLine) : ∃ H, At0 P w K s a ns H := by
  have rv := vals_ints hi
  cases hk : K.lookup a with
  | some o =>
    have e := ha.symm.trans (KX a o hk)
    cases e
    exact ⟨fun _ => none, fun _ => .inl rfl, .inr ⟨_, vs.toArray, _, hk, rfl, rfl, rfl, by rw [List.size_toArray, hi.length]; exact hl, by simpa using rv⟩, (fun b u z => nomatch (show (none : Option HO) = some u from z)), fun b z => absurd rfl z, fun z => absurd rfl z⟩
  | none =>
    refine ⟨fun b => if b = a then some (.frz { cls := .type "list", data := .seq vs.toArray } (.lst (ns.map V.int))) else none, fun b => ?_, .inl (.inr ⟨_, if_pos rfl⟩), fun b u z => ?_, fun b z => Classical.byContradiction fun hb => z (if_neg hb), fun _ => hk⟩
    · by_cases hb : b = a
      · exact .inr ⟨_, _, if_pos hb⟩
      · exact .inl (if_neg hb)
    · have z : (if b = a then some (HO.frz { cls := .type "list", data := .seq vs.toArray } (.lst (ns.map V.int))) else none) = some u := z
      by_cases hb : b = a
      · rw [if_pos hb] at z
        have z2 := Option.some.inj z
        subst z2
        subst hb
        exact ⟨ha, by rw [List.length_map]; exact hl, vs, _, rv, ha⟩
      · rw [if_neg hb] at z
        cases z
theorem law_callG {P : Program} {w : World} {K : PySem.W.Frag} {mg mb : Str → Option Value} {k : Nat} {fa a : Addr} {fd : FuncData} {x : Str} {sp : Sp} {s : Shared} {vs : List Value} {ns : List Int}
    (KX : K.In s.heap) (hns : s.heap.Ns mainGlobals mg) (hb : s.heap.Ns builtinsNs mb) (hbb : ∀ x : Str, x ≠ "__name__" → mb x = bootBuiltins x) (hlim : s.heap.NoLimit) (hg : s.gens = #[])
    (ha : s.heap.get? a = some { cls := .type "list", data := .seq vs.toArray }) (hi : IntsAre vs ns) (hl : ns.length ≤ sizeLine) (hr : Room k callerA)
    (F : ∀ base : Heap, K.In base → base.Ns mainGlobals mg → FnOkG P w K mg base k fa fd [x] sp) (hbind : ∀ (s : Shared) (u : Value), BindsTo s fd ⟨[u], []⟩ [(x, u)])
    (hsp : ∀ H : Hp, Only H → SqL K H a (ns.map V.int) → sp [.ref a] H (fun v _ => v = .bl true) fun _ _ _ => False) :
    codeAny (model P w) callerA (.call (.ref fa) ⟨[.ref a], []⟩) (fun r s' => r = .ok (.ret (.bool true)) ∧ OldK s.heap s'.heap ∧ s'.os = s.os ∧ AllBare s'.gens) s := by
  obtain ⟨H, z⟩ := at0_ex (P := P) (w := w) KX ha hi hl
  -- what the abstract heap does not hold is the base
  have put : ∀ {b : Addr} {o : Obj}, s.heap.get? b = some o → H b = none → (hidT s.heap H).get? b = some o := fun e n => hidT_get e n
  have free : ∀ {b : Addr} {o : Obj} {es : Array DictEntry} {ep : Nat}, s.heap.get? b = some o → o.data = .dict es ep → H b = none := by
    intro b o es ep e d
    refine Classical.byContradiction fun q => ?_
    have eb := z.at_ b q
    subst eb
    have e2 := Option.some.inj (ha.symm.trans e)
    subst e2
    cases d
  have nsB : ∀ {b : Addr} {m : Str → Option Value}, s.heap.Ns b m → (hidT s.heap H).Ns b m := by
    rintro b m ⟨o, es, ep, e, d, r⟩
    exact ⟨o, es, ep, put e (free e d), d, r⟩
  have inB : K.In (hidT s.heap H) := by
    intro b o e
    refine put (KX b o e) (Classical.byContradiction fun q => ?_)
    have eb := z.at_ b q
    subst eb
    rw [z.off q] at e
    cases e
  have md : Mod K mg (hidT s.heap H) := ⟨inB, nsB hns, ⟨mb, nsB hb, hbb⟩, by
    obtain ⟨mc, h1, h2⟩ := hlim
    exact ⟨mc, nsB h1, h2⟩⟩
  have e0 : Env0 P w K mg (hidT s.heap H) callerA [] s H := ⟨rfl, md, fun b o e => of_hidT e, Nat.le_of_eq (hidT_size _ _), trivial, fun b hb => absurd (show b ∈ ([] : List Addr) from hb) (by simp), z.ok, .of_eq hg⟩
  refine codeAny_mono ((F _ inB (nsB hns)).run callerA hr rfl [] s H ⟨[.ref a], []⟩ [.ref a] [.ref a] _ _ e0 (hbind s (.ref a)) (.cons rfl .nil) (hsp H z.only z.seq)) ?_
  intro r s' h
  match r, h with
  | .error e, h => exact False.elim h
  | .ok .next, h => exact False.elim h
  | .ok .brk, h => exact False.elim h
  | .ok .cont, h => exact False.elim h
  | .ok (.ret u), ⟨v, H', os, bare, un, hok', r', q⟩ =>
    have q : v = .bl true := q
    subst q
    have r' : u = Value.bool true := r'
    subst r'
    refine ⟨rfl, OldK.of_keep fun b o e => ?_, os, bare⟩
    cases q : H b with
    | none => exact un.keep b o e q (by intro y; cases y) (by simp)
    | some u =>
      rcases z.only b with y | ⟨ob, xs, y⟩
      · rw [q] at y
        cases y
      · obtain ⟨e1, _⟩ := z.ok b _ y
        obtain ⟨e2, _⟩ := hok' b _ (un.frzs b ob _ y)
        have e3 := Option.some.inj (e1.symm.trans e)
        subst e3
        exact e2
/-- the goal that the head leaves, by a promise that may lean on repr -/
theorem walk_ofG {l : PySem.W.OpenLaw} {n k : Nat} {q : Program} {loose : List Str} {XP : (Str → Option Value) → Heap → Prop} {YP : World → Heap → Prop} {d : DefRec} {x : Str}
    (hn : l.most = some n) (hn2 : n ≤ sizeLine) (hdf : d.params.defaults = []) (hr : Room k callerA)
    (F : ∀ (w : World) (mg : Str → Option Value) (fa : Addr) (h : Heap), YP w h → h.Ns mainGlobals mg → mg d.name = some (.ref fa) →
      ∃ (K : PySem.W.Frag) (fd : FuncData) (sp : Sp), K.In h ∧ (∀ (s : Shared) (u : Value), BindsTo s fd ⟨[u], []⟩ [(x, u)]) ∧
        (∀ (H : Hp) (a : Addr) (ns : List Int), ns.length ≤ n → Only H → SqL K H a (ns.map V.int) → sp [.ref a] H (fun v _ => v = .bl true) fun _ _ _ => False) ∧
        ∀ base : Heap, K.In base → base.Ns mainGlobals mg → FnOkG l.prog w K mg base k fa fd [x] sp) :
    PySem.W.WalkO q loose XP YP l.row.toRowW d [] (fun f vs => PySem.call f vs) := by
  refine Att.attach_call hn hdf ?_
  intro w s₀ s₁ mg mb fa o pm cd doc a vs ns G Y ho hd hcd hmg hobj hints hlen hg
  obtain ⟨K, fd, sp, KX, hb, hsp, hF⟩ := F w mg fa _ Y G.T.g hmg
  exact law_callG KX G.T.g G.T.b G.T.builtins G.T.nolimit hg hobj hints (Nat.le_trans hlen hn2) hr hF hb fun H hO hS => hsp H a ns hlen hO hS
end Ab

set_option Elab.async false
set_option linter.all false
set_option autoImplicit false
set_option maxRecDepth 100000
set_option maxHeartbeats 2000000
/-! in, not in, of data. -/
namespace Ab
open PySem PySem.Spec PyProof.Rows L2 RZ
section
variable {X : Cx} {Δ Δ2 Δ3 : List Sl} {S S1 S2 : PotS} {pos : Pos} {a b e : Expr} {ae : AE}
def sq (t : Bool) (ds : List D) : D := if t then .tup ds else .lst ds
def rInD (K : PySem.W.Frag) (t neg : Bool) : R2 := fun x y H Q => ∃ (d : PyData) (ds : List PyData), Dp K H x d ∧ Dp K H y (if t then .tuple ds else .list ds) ∧ PyData.canLayAll0 ds = true ∧ d.canLay0 = true ∧ min (PyData.depthAll ds) d.depth ≤ 60 ∧ Q (.bl (if neg then !(ds.any fun y => PyData.eqv y d) else ds.any fun y => PyData.eqv y d)) H
theorem op_inD {t : Bool} (hu : X.A.units + 64 < cLine) : OpR X (compareOp .In) (rInD X.K t false) := by
  intro pins s σ H x y v u Q I rx ry h
  obtain ⟨d, ds, hd, he, sd, se, hm, q⟩ := h
  obtain ⟨as, r1⟩ := Dp.reads I d x v hd rx
  cases t with
  | true =>
    obtain ⟨bs, r2⟩ := Dp.reads I (.tuple ds) y u he ry
    exact SeqAt.in_tuple_reads r2 r1 sd se (by omega) ⟨.bl _, H, I, rfl, q⟩
  | false =>
    obtain ⟨bs, r2⟩ := Dp.reads I (.list ds) y u he ry
    exact SeqAt.in_list_reads r2 r1 sd se (by omega) ⟨.bl _, H, I, rfl, q⟩
theorem op_notInD {t : Bool} (hu : X.A.units + 64 < cLine) : OpR X (compareOp .NotIn) (rInD X.K t true) := by
  intro pins s σ H x y v u Q I rx ry h
  obtain ⟨d, ds, hd, he, sd, se, hm, q⟩ := h
  obtain ⟨as, r1⟩ := Dp.reads I d x v hd rx
  cases t with
  | true =>
    obtain ⟨bs, r2⟩ := Dp.reads I (.tuple ds) y u he ry
    exact SeqAt.notIn_tuple_reads r2 r1 sd se (by omega) ⟨.bl _, H, I, rfl, q⟩
  | false =>
    obtain ⟨bs, r2⟩ := Dp.reads I (.list ds) y u he ry
    exact SeqAt.notIn_list_reads r2 r1 sd se (by omega) ⟨.bl _, H, I, rfl, q⟩
theorem dps_lay {n : Nat} : ∀ {ds : List D}, (∀ d, d ∈ ds → dOk n d = true) → PyData.canLayAll0 (dPs ds) = true
  | [], _ => rfl
  | d :: ds, h => by
    show (PyData.canLay0 (dP d) && PyData.canLayAll0 (dPs ds)) = true
    rw [(d_lay n d (h d List.mem_cons_self)).1, dps_lay fun e he => h e (List.mem_cons_of_mem _ he)]
    rfl
theorem any_D {n m : Nat} {d : D} (hd : dOk m d = true) : ∀ {ds : List D}, (∀ e, e ∈ ds → dOk n e = true) → (((dPs ds).any fun y => PyData.eqv y (dP d)) = true ↔ d ∈ ds)
  | [], _ => by
    constructor
    · intro h; cases h
    · intro h; cases h
  | e :: ds, h => by
    show (PyData.eqv (dP e) (dP d) || (dPs ds).any fun y => PyData.eqv y (dP d)) = true ↔ _
    rw [Bool.or_eq_true, any_D hd fun x hx => h x (List.mem_cons_of_mem _ hx), d_eqv n e d m (h e List.mem_cons_self) hd, List.mem_cons, eq_comm]
theorem inD_arg {K : PySem.W.Frag} {t : Bool} {n m : Nat} {d : D} {ds : List D} {k neg : Bool} {B1 B2 H2 : Hp} {v u : V} {Q : VK} (hd : dOk m d = true) (hs : ∀ e, e ∈ ds → dOk n e = true) (hk : k = true ↔ d ∈ ds) (hm : m ≤ 60) (e1 : Ex B1 B2) (e2 : Ex B2 H2) (p1 : Is K B1 v d) (p2 : Is K B2 u (sq t ds)) (q : Q (.bl (if neg then !k else k)) H2) : rInD K t neg v u H2 Q := by
  obtain ⟨h1, h2⟩ := d_lay m d hd
  refine ⟨dP d, dPs ds, (Is.mono e1 p1).dp e2 m hd, ?_, dps_lay hs, h1, Nat.le_trans (Nat.min_le_right _ _) (by omega), ?_⟩
  · cases t with
    | true => exact Is.dp (d := .tup ds) e2 (n + 1) p2 (by simpa [dOk] using hs)
    | false => exact Is.dp (d := .lst ds) e2 (n + 1) p2 (by simpa [dOk] using hs)
  · rw [bool_iff ((any_D hd hs).trans hk.symm)]
    exact q
/-- a in b, data -/
theorem db_inD {t : Bool} {d : D} {ds : List D} {k : Bool} {j : Nat} (n m : Nat) (hr : Room j X.A) (ha : DE X a Δ S d S1) (hb : DE X b Δ S1 (sq t ds) S2) (hd : dOk m d = true) (hs : ∀ e, e ∈ ds → dOk n e = true) (hk : k = true ↔ d ∈ ds) (hm : m ≤ 60 := by decide) (hmk : behindInMarks .In b = false := by rfl) : DB X (.Compare a [.In] [b] pos) Δ S k S2 :=
  db_cmp (op_inD (t := t) hr.units) hmk ha hb fun B H v B1 H1 u B2 H2 g1 po1 p1 g2 po2 p2 Q q => inD_arg (neg := false) hd hs hk hm g2.ex g2.sub p1 p2 q
theorem db_notInD {t : Bool} {d : D} {ds : List D} {k : Bool} {j : Nat} (n m : Nat) (hr : Room j X.A) (ha : DE X a Δ S d S1) (hb : DE X b Δ S1 (sq t ds) S2) (hd : dOk m d = true) (hs : ∀ e, e ∈ ds → dOk n e = true) (hk : k = true ↔ d ∈ ds) (hm : m ≤ 60 := by decide) (hmk : behindInMarks .NotIn b = false := by rfl) : DB X (.Compare a [.NotIn] [b] pos) Δ S (!k) S2 :=
  db_cmp (op_notInD (t := t) hr.units) hmk ha hb fun B H v B1 H1 u B2 H2 g1 po1 p1 g2 po2 p2 Q q => inD_arg (neg := true) hd hs hk hm g2.ex g2.sub p1 p2 q
/-- x != y of truth values -/
theorem db_neB {k l : Bool} {j : Nat} (hr : Room j X.A) (ha : DE X a Δ S (.bl k) S1) (hb : DE X b Δ S1 (.bl l) S2) : DB X (.Compare a [.NotEq] [b] pos) Δ S (!decide (k = l)) S2 :=
  db_cmp (op_neD hr.units) (nomark _) ha hb fun B H v B1 H1 u B2 H2 g1 po1 p1 g2 po2 p2 Q q => by
    cases p1
    cases p2
    exact ⟨.bool k, .bool l, .bl k, .bl l, rfl, rfl, by
      have e : (!PyData.eqv (.bool k) (.bool l)) = !decide (k = l) := by cases k <;> cases l <;> rfl
      rw [e]
      exact q⟩
theorem p_tup4 {N : List Str} {x y u w : Str} {d1 d2 d3 d4 : D} {Δ4 Δ5 : List Sl} {px py pu pw pt : Pos} {kt : Nat} (hN : X.N = N) (hc : X.calm = true) (hnd : X.N.Nodup) (h : DE X e Δ S (.tup [d1, d2, d3, d4]) S1) (h1 : Put N Δ x (.dat d1) Δ2) (h2 : Put N Δ2 y (.dat d2) Δ3) (h3 : Put N Δ3 u (.dat d3) Δ4) (h4 : Put N Δ4 w (.dat d4) Δ5) (q : ae.nx Δ5 S1)
    (hx : Loc X.env.scope x := by first | exact .inl rfl | exact .inr rfl) (hy : Loc X.env.scope y := by first | exact .inl rfl | exact .inr rfl) (hu : Loc X.env.scope u := by first | exact .inl rfl | exact .inr rfl) (hw4 : Loc X.env.scope w := by first | exact .inl rfl | exact .inr rfl)
    (hf : X.fn x = true ∨ X.env.scope.names.lookup x = some .local := by first | exact .inl rfl | exact .inr rfl) (hf2 : X.fn y = true ∨ X.env.scope.names.lookup y = some .local := by first | exact .inl rfl | exact .inr rfl) (hf3 : X.fn u = true ∨ X.env.scope.names.lookup u = some .local := by first | exact .inl rfl | exact .inr rfl) (hf4 : X.fn w = true ∨ X.env.scope.names.lookup w = some .local := by first | exact .inl rfl | exact .inr rfl)
    (hs : swapsWithSole [.Tuple [.Name x px, .Name y py, .Name u pu, .Name w pw] kt pt] e pos.line X.env = pure false := by rfl) (hw : swappedStores [.Tuple [.Name x px, .Name y py, .Name u pu, .Name w pw] kt pt] e X.env = pure none := by rfl)
    (hq : (assignEach [.Tuple [.Name x px, .Name y py, .Name u pu, .Name w pw] kt pt] X.env).map (·.2) = [assign (.Tuple [.Name x px, .Name y py, .Name u pu, .Name w pw] kt pt) X.env] := by rfl)
    (hn : (assignEach [.Name x px, .Name y py, .Name u pu, .Name w pw] X.env).length = 4 := by rfl) (hst : (assignEach [.Name x px, .Name y py, .Name u pu, .Name w pw] X.env).findIdx? (·.1) = none := by rfl)
    (hs1 : (assignEach (.Name x px :: [.Name y py, .Name u pu, .Name w pw]) X.env).map (·.2) = assign (.Name x px) X.env :: (assignEach [.Name y py, .Name u pu, .Name w pw] X.env).map (·.2) := by rfl)
    (hs2 : (assignEach (.Name y py :: [.Name u pu, .Name w pw]) X.env).map (·.2) = assign (.Name y py) X.env :: (assignEach [.Name u pu, .Name w pw] X.env).map (·.2) := by rfl)
    (hs3 : (assignEach (.Name u pu :: [.Name w pw]) X.env).map (·.2) = assign (.Name u pu) X.env :: (assignEach [.Name w pw] X.env).map (·.2) := by rfl)
    (hs4 : (assignEach (.Name w pw :: []) X.env).map (·.2) = assign (.Name w pw) X.env :: (assignEach [] X.env).map (·.2) := by rfl) : S1X X (.Assign [.Tuple [.Name x px, .Name y py, .Name u pu, .Name w pw] kt pt] e pos) Δ S ae := .mk fun B0 H0 σ B H Dn z r => by
  obtain ⟨i, h1⟩ := h1.a
  obtain ⟨j, h2⟩ := h2.a
  obtain ⟨l, h3⟩ := h3.a
  obtain ⟨m, h4⟩ := h4.a
  refine W1.of (ps_asg W.pe (pg_tup hc (pgs_cons (pg_name hnd (by rw [hN]; exact h1.name) hx hf) (pgs_cons (pg_name hnd (by rw [hN]; exact h2.name) hy hf2) (pgs_cons (pg_name hnd (by rw [hN]; exact h3.name) hu hf3) (pgs_cons (pg_name hnd (by rw [hN]; exact h4.name) hw4 hf4) pgs_nil hs4) hs3) hs2) hs1) hn hst) hs hw hq) (z.run h fun v B1 H1 z1 g1 p1 => ?_)
  cases p1 with
  | tup k1 k2 => cases k2 with
    | cons i1 k2 => cases k2 with
      | cons i2 k2 => cases k2 with
        | cons i3 k2 => cases k2 with
          | cons i4 k2 =>
            cases k2
            refine ⟨_, _, rfl, Evl.ex_t z1.sub k1, rfl, _, _, rfl, _, _, rfl, _, _, rfl, _, _, rfl, rfl, r.nx _ B1 H1 _ S1 ?_ h.1.symm q⟩
            have z2 := (((z1.put (j := i) i1).put (j := j) i2).put (j := l) i3).put (j := m) i4
            rw [h1.eq, h2.eq, h3.eq, h4.eq] at z2
            exact z2
end
end Ab

set_option Elab.async false
set_option linter.all false
set_option autoImplicit false
set_option maxRecDepth 100000
set_option maxHeartbeats 2000000
/-! enumerate of a tuple. -/
namespace PySem
open Sem (wp)
open AutoSeq1 (wpAny_loadPart')
theorem ab_enum_newT (l : Addr) (items : Array Value) (n : Nat) (dct : Option Addr) (sl : Array (Option Value)) :
    Meets (Builtin.«enumerate.__new__» ⟨[.type "enumerate", .ref l], []⟩) (fun _ R s => s.heap.get? l = some { cls := .type "tuple", dict := dct, data := .seq items n, slots := sl } ∧
      R (.ok (.ret (.ref (s.heap.push { cls := .type "tuple_iterator", data := .fields #[.ref l, .int 0 0] }).objs.size)))
        { s with heap := (s.heap.push { cls := .type "tuple_iterator", data := .fields #[.ref l, .int 0 0] }).push { cls := .type "enumerate", data := .fields #[.none, .bool false, .ref s.heap.objs.size, rawInt 0, .none, .none] } }) :=
  .of_wp fun prog w A R s h => by
    obtain ⟨hp, g, d, tk, os⟩ := s; obtain ⟨hl, h⟩ := h
    have hsub := sub_enumerate
    have hL : Heap.IsTuple (Shared.heap ⟨hp, g, d, tk, os⟩) l items := ⟨_, hl, rfl, n, rfl⟩
    wp_walk using wpAny_loadPart' hl
    refine wpAny_stack_any fun st => wpAny_pure ?_
    split
    · rename_i c _ _ _ _ _
      cases (c == Value.type "enumerate")
      · wp_walk using wpAny_loadPart' hl, wpAny_pyIter_tuple hL
        exact ⟨_, rfl, h⟩
      · wp_walk using wpAny_loadPart' hl, wpAny_pyIter_tuple hL
        exact ⟨_, rfl, h⟩
    · wp_walk using wpAny_loadPart' hl, wpAny_pyIter_tuple hL
      exact ⟨_, rfl, h⟩
theorem ab_call_enumT {prog : Program} {w : World} {A : Around} {E : Value → Shared → Prop} {s : Shared} {l : Addr} {items : Array Value} {Q : Value → Shared → Prop} (hL : s.heap.IsTuple l items)
    (h : ∀ h', IsEnum h' (s.heap.objs.size + 1) s.heap.objs.size 0 .none → h'.IsTupleIter s.heap.objs.size l 0 → h'.objs.size = s.heap.objs.size + 2 →
      (∀ b o, s.heap.get? b = some o → h'.get? b = some o) → Q (.ref (s.heap.objs.size + 1)) { s with heap := h' }) :
    wpAny (model prog w) A (call (.type "enumerate") [.ref l]) Q E s := by
  obtain ⟨⟨c, dct, dt, sl⟩, hl, hc, n, hd⟩ := hL
  replace hc : c = .type "tuple" := hc
  replace hd : dt = .seq items n := hd
  subst hc hd
  refine callType_new F.called_enumerate (by decide) (F.typeCall_enumerate_1 _) (F.newCall_enumerate_1 _) (fun obj => F.args_object_init_2 obj _) F.entry_enumerate_new
    (ab_enum_newT l items n dct sl) ⟨hl, ?_⟩
  have hz : (s.heap.push { cls := .type "tuple_iterator", data := .fields #[.ref l, .int 0 0] }).objs.size = s.heap.objs.size + 1 := Heap.size_push ..
  show _ ∧ _
  rw [hz]
  have he : IsEnum ((s.heap.push { cls := .type "tuple_iterator", data := .fields #[.ref l, .int 0 0] }).push
      { cls := .type "enumerate", data := .fields #[.none, .bool false, .ref s.heap.objs.size, rawInt 0, .none, .none] }) (s.heap.objs.size + 1) s.heap.objs.size 0 .none := by
    have := Heap.get?_push_size (s.heap.push { cls := .type "tuple_iterator", data := .fields #[.ref l, .int 0 0] })
      (o := { cls := .type "enumerate", data := .fields #[.none, .bool false, .ref s.heap.objs.size, rawInt 0, .none, .none] }) rfl
    rw [hz] at this; exact this
  refine ⟨⟨_, he, rfl⟩, h _ he ⟨_, Heap.get?_push_of_some _ (Heap.get?_push_size _ rfl), rfl, rfl⟩ (by rw [Heap.size_push, hz]) fun b o x => Heap.get?_push_of_some _ (Heap.get?_push_of_some _ x)⟩
end PySem
namespace Ab
open PySem PySem.Spec PyProof.Rows L2 RZ
def IteT (K : PySem.W.Frag) (a : Addr) : It :=
  ⟨fun i H => ∃ (xs : List V) (x : V), SqT K H a xs ∧ xs[i]? = some x, fun i H v H' => ∃ T x, v = .ref T ∧ H T = none ∧ H' = upd H T (.tup [.int (i : Nat), x]) ∧ ∀ xs, SqT K H a xs → xs[i]? = some x, fun i H => ∃ xs : List V, SqT K H a xs ∧ xs.length = i⟩
theorem turn_enumT {P : Program} {w : World} {K : PySem.W.Frag} {elts : List Expr} {kk : Nat} {tpos : Pos} (a e it : Addr) :
    Turn P w K (.Tuple elts kk tpos) (IteT K a) [e, it] e (fun i h => (∃ old, IsEnum h e it ((i : Nat) : Int) old) ∧ h.IsTupleIter it a i ∧ e ≠ it ∧ e ≠ a ∧ a ≠ it) where
  mem := by simp
  obj := fun i h st b hb => by
    obtain ⟨⟨old, he⟩, ⟨o, ho, hc, hd⟩, _⟩ := st
    have e' : b = e ∨ b = it := by simpa using hb
    rcases e' with z | z
    · rw [z]; exact ⟨_, he, fun v q => nomatch q⟩
    · rw [z]; exact ⟨o, ho, fun v q => by rw [hd] at q; cases q⟩
  keep := fun i h h' st k => let ⟨⟨old, he⟩, hi, hne⟩ := st; ⟨⟨old, k e (by simp) _ he⟩, hi.at fun o q => k it (by simp) o q, hne⟩
  item := by
    intro X hP hw hK hc i pins s σ H E I hf st hg
    subst hP hw hK
    obtain ⟨⟨old, he⟩, hit, hne, hea, hai⟩ := st
    obtain ⟨xs, x, hq, hx⟩ := hg
    obtain ⟨its, rv, p, hz⟩ := I.tuple hq
    obtain ⟨u, hu, ru⟩ := rv.get hx
    have hel : e < s.heap.objs.size := Heap.lt_size he
    have hil : it < s.heap.objs.size := by obtain ⟨_, q, _⟩ := hit; exact Heap.lt_size q
    have hlt : i < its.toArray.size := by
      have := (List.getElem?_eq_some_iff.mp hu).1
      simpa using this
    refine wpAny_pyNext_enum_itemD (Draws.tuple (prog := X.prog) (w := X.w) (A := X.A.in1) (show X.A.in1.handled = none from I.ok.hd hc) it a hai its.toArray) he ⟨hit, p⟩ hlt hne (by simp [hne, hea]) fun v h' tk hv ho hit' hT hsz hk => ?_
    have ev : v = u := by
      have h1 : its.toArray[i]? = some u := by simpa using hu
      exact Option.some.inj (hv.symm.trans h1)
    subst ev
    refine ⟨_, rfl, wpAny_letOwnedTupleGo_enum (s := { s with heap := h', toks := tk + 1 }) ho fun h'' he' sb => ?_⟩
    have hT2 : h''.get? s.heap.objs.size = some { cls := .type "tuple", data := .seq #[.int i tk, v] } := (sb.2 _ (Nat.ne_of_gt hel)).trans hT
    have new : ObjOk X.prog X.w (upd H s.heap.objs.size (.tup [.int (i : Nat), x])) h'' s.heap.objs.size (.tup [.int (i : Nat), x]) :=
      ⟨by show 2 ≤ sizeLine; decide, [.int i tk, v], .cons ⟨_, rfl⟩ (.cons ru .nil), ⟨_, hT2, rfl, _, rfl⟩⟩
    have I1 : Inv X pins σ (upd H s.heap.objs.size (.tup [.int (i : Nat), x])) { s with heap := h'', toks := tk + 1 } :=
      I.turnedNew (ch := [e, it]) (fun b ob hb q => (sb.2 b (fun z => hb (by simp [z]))).trans (hk b ob (fun z => hb (by simp [z])) (fun z => hb (by simp [z])) q)) hf (Nat.le_refl _) new
    refine ⟨.ref s.heap.objs.size, _, I1, rfl, ⟨_, x, rfl, I.hok.fresh (Nat.le_refl _), rfl, fun ys hy => by
      obtain ⟨jts, rj, pj, _⟩ := I.tuple hy
      have e1 : its.toArray = jts.toArray := by
        obtain ⟨o1, q1, _, n1, d1⟩ := p
        obtain ⟨o2, q2, _, n2, d2⟩ := pj
        have e2 := Option.some.inj (q1.symm.trans q2)
        subst e2
        rw [d1] at d2
        cases d2
        rfl
      have e2 : its = jts := by simpa using e1
      subst e2
      rw [← rv.inj rj]
      exact hx⟩, ⟨⟨v, ?_⟩, hit'.1.at fun o q => (sb.2 it (Ne.symm hne)).trans q, hne, hea, hai⟩, fun b hb => ?_⟩
    · have e1 : ((i + 1 : Nat) : Int) = (i : Int) + 1 := by omega
      rw [e1]; exact he'
    · have hb' : b < s.heap.objs.size := by
        have e' : b = e ∨ b = it := by simpa using hb
        rcases e' with z | z
        · rw [z]; exact hel
        · rw [z]; exact hil
      rw [upd_ne (Nat.ne_of_lt hb')]
      exact (hf b hb).1
  done := by
    intro X hP hw hK hc i pins s σ H E I hf st hg
    subst hP hw hK
    obtain ⟨⟨old, he⟩, hit, hne, hea, hai⟩ := st
    obtain ⟨xs, hq, hx⟩ := hg
    obtain ⟨its, rv, p, hz⟩ := I.tuple hq
    obtain ⟨f0, f1, f2, f3, f4, f5⟩ := hf it (by simp)
    have hl := rv.length
    have hi : i = its.toArray.size := by simp; omega
    subst hi
    exact wpAny_pyNext_enum_endD (Draws.tuple (prog := X.prog) (w := X.w) (A := X.A.in1) (show X.A.in1.handled = none from I.ok.hd hc) it a hai its.toArray) he ⟨hit, p⟩ fun h' eb => ⟨rfl, I.turned (t' := s.toks) (fun b o hb q => eb b o hb q) f0 f1 f3 f4 f5⟩
  self := fun A i s Q E st h => let ⟨⟨_, he⟩, _⟩ := st; wpAny_pyIter_enum he h
def iEnumT (K : PySem.W.Frag) (ta : TA) : TI := fun σ H R => ta σ H fun vs H1 => ∃ a xs, vs = [.ref a] ∧ SqT K H1 a xs ∧ R (IteT K a) H1
theorem pi_enumT {X : Cx} {e : Expr} {ta : TA} {p pos tpos : Pos} {elts : List Expr} {kk : Nat} (hg : Gl X "enumerate") (hm : X.mg "enumerate" = none) (ha : PA X [e] ta) (hs : starEach [e] X.env = [(false, eval e X.env)] := by rfl) :
    PI X (.Tuple elts kk tpos) (.Call (.Name "enumerate" p) [e] [] pos) (iEnumT X.K ta) := by
  refine ⟨fun pins s σ H R I h => ?_⟩
  refine Call_ (ld_blt I hg hm boot_enumerate (PyProof.Rows.callWith_type1 (thn (ha.run pos pins s σ H _ I h) fun us s1 ⟨vs, H1, I1, r1, q1⟩ => ?_) hs rfl))
  obtain ⟨a, xs, ex, hq, q⟩ := q1
  subst ex
  cases r1 with
  | cons r rr =>
    cases rr
    cases r
    obtain ⟨its, rv, p', hz⟩ := I1.tuple hq
    have hal : a < s1.heap.objs.size := by
      obtain ⟨_, q, _⟩ := p'
      exact Heap.lt_size q
    refine ab_call_enumT p' fun h' he hit hsz hk => wpAny_pyIter_enum he ?_
    have I2 : Inv X pins σ H1 { s1 with heap := h' } := I1.kept (t' := s1.toks) hk
    refine ⟨s1.heap.objs.size + 1, [s1.heap.objs.size + 1, s1.heap.objs.size], _, _, H1, rfl, I2, turn_enumT a (s1.heap.objs.size + 1) s1.heap.objs.size, ⟨⟨.none, he⟩, hit, Nat.succ_ne_self _, Nat.ne_of_gt (Nat.lt_succ_of_lt hal), Nat.ne_of_lt hal⟩, fun b hb => ?_, q⟩
    have e' : b = s1.heap.objs.size + 1 ∨ b = s1.heap.objs.size := by simpa using hb
    have hle : s1.heap.objs.size ≤ b := by
      rcases e' with z | z
      · rw [z]; exact Nat.le_add_right _ _
      · rw [z]; exact Nat.le_refl _
    exact I1.fpOk hle (I1.hok.fresh hle)
theorem walk_enumT {K : PySem.W.Frag} {a : Addr} {xs : List V} : Walk (IteT K a) xs.length (fun H => SqT K H a xs) (YPair (fun i => some (.int (i : Nat))) (fun i => xs[i]?)) := by
  refine ⟨fun i _ hi q => ⟨xs, xs[i], q, by simp [hi]⟩, fun _ q => ⟨xs, q, rfl⟩, fun i H v H' _ q y => ?_⟩
  obtain ⟨T, x, h1, h2, h3, h4⟩ := y
  exact ⟨T, .int (i : Nat), x, h1, h2, h3, rfl, h4 xs q⟩
section
variable {X : Cx} {Δ : List Sl} {S S1 : PotS} {pos : Pos} {a : Expr} {elts : List Expr} {kk : Nat} {tpos p : Pos}
theorem ds_enumT {ds : List D} (ha : DE X a Δ S (.tup ds) S1) (hg : Gl X "enumerate") (hm : X.mg "enumerate" = none) (hs : starEach [a] X.env = [(false, eval a X.env)] := by rfl) :
    DS X (.Tuple elts kk tpos) (.Call (.Name "enumerate" p) [a] [] pos) Δ S (.two (((iot 0 1 ds.length).map D.int).zip ds)) S1 :=
  ⟨ha.1, fun B0 H0 σ B H z R r => WI.of (pi_enumT hg hm (pa_cons W.pe pa_nil hs) hs) (z.run ha fun v B1 H1 z1 g1 p1 => by
    cases p1 with
    | tup h1 h2 =>
      refine ⟨_, _, rfl, Evl.ex_t z1.sub h1, r _ B1 H1 g1 z1.pot ⟨_, ?_, fun H3 ex => Evl.ex_t ex h1⟩⟩
      have e : (Src.two (((iot 0 1 ds.length).map D.int).zip ds)).len = ds.length := by
        rw [zip_len, List.length_map, iot_len]
        omega
      rw [e, ← h2.length]
      exact (walk_enumT (K := X.K)).mono (fun _ q => q) fun i H x H' hi q y => by
        obtain ⟨T, u, v, rfl, k1, k2, k3, k4⟩ := y
        obtain ⟨f, k7, k8⟩ := h2.getV k4
        cases k3
        refine ⟨T, _, v, (.int (i : Nat), f), rfl, k1, k2, zip_get ?_ k7, .int _, k8⟩
        rw [List.getElem?_map, iot_get (by have := h2.length; omega)]
        show some (D.int (0 + (i : Int) * 1)) = _
        rw [Int.mul_one, Int.zero_add])⟩
end
end Ab

set_option Elab.async false
set_option linter.all false
set_option autoImplicit false
set_option maxRecDepth 100000
set_option maxHeartbeats 2000000
/-! A list of one's own: returned, compared. -/
namespace Ab
open PySem PySem.Spec PyProof.Rows L2 RZ
section
variable {X : Cx} {Δ : List Sl} {S S1 S2 : PotS} {pos : Pos} {a b e : Expr} {ae : AE}
/-- return x, x a list of one's own -/
theorem s1_retO {N : List Str} {x : Str} {i : Nat} {ds : List D} {p1 : Pos} (hN : X.N = N) (hi : At N Δ x i (.own ds)) (q : ae.rt (.lst ds) S)
    (hv : Vis X.env.scope x := by first | exact Or.inl rfl | exact Or.inr (Or.inl rfl) | exact Or.inr (Or.inr rfl)) (hd : (x == ("__debug__" : Str)) = false := by decide) (hcd : (x == ("__classdict__" : Str)) = false := by decide) : S1X X (.Return (some (.Name x p1)) pos) Δ S ae := .mk fun B0 H0 σ B H Dn z r => by
  refine W1.of (ps_ret (pe_var (by rw [hN]; exact hi.name) hv hd hcd)) ?_
  obtain ⟨p, vs, h1, h2, h3, h4, h5, h6⟩ := z.own i ds hi.slot
  refine ⟨.ref p, h1, ?_⟩
  have exB : Ex B (upd B p (.lst vs)) := Evl.Ex.new h2
  have is : Is X.K (upd B p (.lst vs)) (.ref p) (.lst ds) := .lst (Evl.sq_of upd_same) (h6.mono exB)
  refine r.rt _ (upd B p (.lst vs)) H _ S ⟨z.gr.ex.trans exB, z.gr.old, fun a o k1 k2 => ?_, fun a o k => ?_⟩ (fun a ns e => ?_) rfl is q
  · by_cases m : a = p
    · rw [m]
      exact h3
    · rw [upd_ne m] at k1
      exact z.gr.new a o k1 k2
  · by_cases m : a = p
    · rw [m, upd_same] at k
      rw [m, h5]
      exact k
    · rw [upd_ne m] at k
      exact z.sub a o k
  · obtain ⟨m1, m2⟩ := z.pot a ns e
    refine ⟨?_, m2⟩
    have m : a ≠ p := fun m => h4 (m ▸ ⟨ns, e⟩)
    rw [upd_ne m]
    exact m1
/-- x != b, x a list of one's own -/
theorem db_neO {N : List Str} {x : Str} {ds : List D} {f : D} {k : Bool} {j : Nat} {p1 : Pos} (n m : Nat) (hr : Room j X.A) (hN : X.N = N) (ha : Has N Δ x (.own ds)) (hb : DE X b Δ S f S2) (hd : dOk (n + 1) (.lst ds) = true) (hf : dOk m f = true) (hk : k = true ↔ D.lst ds = f) (hn : n + 1 ≤ 60 := by decide) (hm : m ≤ 60 := by decide)
    (hv : Vis X.env.scope x := by first | exact Or.inl rfl | exact Or.inr (Or.inl rfl) | exact Or.inr (Or.inr rfl)) (hdb : (x == ("__debug__" : Str)) = false := by decide) (hcd : (x == ("__classdict__" : Str)) = false := by decide) : DB X (.Compare (.Name x p1) [.NotEq] [b] pos) Δ S (!k) S2 :=
  db_cmp (op_neD hr.units) (nomark _) (dl_own hN ha hv hdb hcd) hb fun B H v B1 H1 u B2 H2 g1 po1 p1 g2 po2 p2 Q q => by
    obtain ⟨p, vs, rfl, h1, h2, h3⟩ := p1
    have h4 : H2 p = some (.lst vs) := g2.old p _ h1 h2
    refine ⟨dP (.lst ds), dP f, .lst (Evl.sq_of h4) (All.dp g2.sub n (h3.mono g2.ex) (by simpa [dOk] using hd)), Is.dp g2.sub m p2 hf, d_sh hd hn, d_sh hf hm, ?_⟩
    rw [bool_iff ((d_eqv (n + 1) (.lst ds) f m hd hf).trans hk.symm)]
    exact q
end
end Ab

set_option Elab.async false
set_option linter.all false
set_option autoImplicit false
set_option maxRecDepth 100000
set_option maxHeartbeats 2000000
/-! for x, y in a list of pairs. -/
namespace Ab
open PySem PySem.Spec PyProof.Rows L2 RZ
section
variable {X : Cx} {Δ : List Sl} {S S1 S2 : PotS} {pos : Pos} {a b e tg iter : Expr} {body rest : List Stmt} {ae : AE}
structure TgB (X : Cx) (tg : Expr) (src : Src) (bnd : Nat → List Sl → List Sl) : Prop where
  st : ∀ (B0 H0 : Hp) (σ : L2.St) (B H H' : Hp) (Δ : List Sl) (S : PotS) (i : Nat) (x : V) (B1 : Hp), Stt X.K B0 H0 σ B H Δ S → i < src.len → Ex B1 B → YS X.K B1 src i H x H' → ∀ Q : L2.St → Hp → Prop,
    (∀ σ' B2 H2, Gr S B H B2 H2 → Stt X.K B0 H0 σ' B2 H2 (bnd i Δ) S → Q σ' H2) → WG X tg x σ H' Q
def bndP {α : Type} (xs : List α) (φ ψ : α → D) (j k : Nat) (i : Nat) (Δ : List Sl) : List Sl := match xs[i]? with
  | some v => (Δ.set j (.dat (φ v))).set k (.dat (ψ v))
  | none => Δ
theorem tg_tupB {α : Type} {xs : List α} {φ ψ : α → D} {j k : Nat} {x y : Str} {m : Nat} {p1 p2 : Pos} (hc : X.calm = true) (hN : X.N.Nodup) (hj : X.N[j]? = some x) (hk : X.N[k]? = some y)
    (hx : Loc X.env.scope x := by first | exact .inl rfl | exact .inr rfl) (hy : Loc X.env.scope y := by first | exact .inl rfl | exact .inr rfl)
    (hf : X.fn x = true ∨ X.env.scope.names.lookup x = some .local := by first | exact .inl rfl | exact .inr rfl | assumption) (hf2 : X.fn y = true ∨ X.env.scope.names.lookup y = some .local := by first | exact .inl rfl | exact .inr rfl | assumption)
    (hn : (assignEach [.Name x p1, .Name y p2] X.env).length = 2 := by rfl) (hst : (assignEach [.Name x p1, .Name y p2] X.env).findIdx? (·.1) = none := by rfl)
    (hs1 : (assignEach (.Name x p1 :: [.Name y p2]) X.env).map (·.2) = assign (.Name x p1) X.env :: (assignEach [.Name y p2] X.env).map (·.2) := by rfl)
    (hs2 : (assignEach (.Name y p2 :: []) X.env).map (·.2) = assign (.Name y p2) X.env :: (assignEach [] X.env).map (·.2) := by rfl) :
    TgB X (.Tuple [.Name x p1, .Name y p2] m pos) (.one (xs.map fun v => .tup [φ v, ψ v])) (bndP xs φ ψ j k) := by
  refine ⟨fun B0 H0 σ B H H' Δ S i v B1 z hl ex yy Q q => WG.of (pg_tup hc (pgs_cons (pg_name hN hj hx hf) (pgs_cons (pg_name hN hk hy hf2) pgs_nil hs2) hs1) hn hst) ?_⟩
  obtain ⟨rfl, d, h1, h2⟩ := yy
  rw [List.getElem?_map] at h1
  cases hv : xs[i]? with
  | none => rw [hv] at h1; cases h1
  | some w =>
    rw [hv] at h1
    have h1 : D.tup [φ w, ψ w] = d := Option.some.inj h1
    subst h1
    have h3 := Is.mono ex h2
    cases h3 with
    | tup k1 k2 => cases k2 with
      | cons i1 k2 => cases k2 with
        | cons i2 k2 =>
          cases k2
          refine ⟨_, _, rfl, Evl.ex_t z.sub k1, rfl, _, _, rfl, _, _, rfl, rfl, q _ B _ (Gr.refl z.sub) ?_⟩
          have e : bndP xs φ ψ j k i Δ = (Δ.set j (.dat (φ w))).set k (.dat (ψ w)) := by
            unfold bndP
            rw [hv]
          rw [e]
          exact (z.put i1).put i2
theorem s1_forB {src : Src} {bnd : Nat → List Sl → List Sl} {Iv : Nat → List Sl → PotS → Prop} (hsrc : DS X tg iter Δ S src S1) (hg : TgB X tg src bnd) (h0 : Iv 0 Δ S1)
    (hs : ∀ i Δ' S', i < src.len → Iv i Δ' S' → PotEq S S' → SX X body (bnd i Δ') S' { nx := Iv (i + 1), rt := ae.rt, bk := ae.nx, ct := Iv (i + 1), rn := ae.rn }) (hd : ∀ Δ' S', Iv src.len Δ' S' → PotEq S S' → ae.nx Δ' S')
    (hps : PS X (.For tg iter body [] pos) (tFor (WI X tg iter) (WG X tg) (WS X body))) : S1X X (.For tg iter body [] pos) Δ S ae := .mk fun B0 H0 σ B H Dn z r => by
  refine W1.of hps (hsrc.2 B0 H0 σ B H z _ fun J B1 H1 g1 po1 hJ => ?_)
  obtain ⟨G, w, hG⟩ := hJ
  have z1 := z.grow hsrc.1 g1 po1
  have low : ∀ {σ B' H' Δ' S'}, Stt X.K B1 H0 σ B' H' Δ' S' → Stt X.K B0 H0 σ B' H' Δ' S' := fun z' => Stt.low z1.gr z'
  refine for_it w (fun i σ' H' => ∃ B' Δ' S', Stt X.K B1 H0 σ' B' H' Δ' S' ∧ PotEq S S' ∧ Iv i Δ' S') ⟨B1, Δ, S1, z1.up, hsrc.1, h0⟩ ?_ ?_ ?_
  · rintro i σ' H' hi ⟨B', Δ', S', z', e, iv⟩
    exact hG H' (z'.gr.ex.trans z'.sub)
  · rintro i x σ' H2 H3 hi ⟨B', Δ', S', z', e, iv⟩ y
    refine hg.st B1 H0 σ' B' H2 H3 Δ' S' i x B1 z' hi z'.gr.ex y _ fun σ2 B4 H4 g4 z4 => ?_
    refine (hs i Δ' S' hi iv e).run B1 H0 σ2 B4 H4 _ z4 ⟨fun σ5 B5 H5 Δ5 S5 z5 e5 q => ⟨B5, Δ5, S5, z5, e.trans e5.symm, q⟩, fun v B5 H5 d S5 g5 po5 e5 iv5 q => ?_, fun σ5 B5 H5 Δ5 S5 z5 e5 q => ?_, fun σ5 B5 H5 Δ5 S5 z5 e5 q => ⟨B5, Δ5, S5, z5, e.trans e5.symm, q⟩, fun v B5 H5 ds S5 g5 po5 e5 iv5 q => r.rn v B5 H5 ds S5 (z1.gr.low g5) po5 (e.trans e5.symm).symm iv5 q⟩
    · exact r.rt v B5 H5 d S5 (z1.gr.low g5) po5 (e.trans e5.symm).symm iv5 q
    · exact r.nx σ5 B5 H5 Δ5 S5 (low z5) (e.trans e5.symm).symm q
  · rintro σ' H' ⟨B', Δ', S', z', e, iv⟩
    exact r.nx σ' B' H' Δ' S' (low z') e.symm (hd Δ' S' iv e)
/-- for x, y in a typed list of pairs, then the rest -/
theorem sx_forP {α : Type} {xs : List α} {φ ψ : α → D} {j k : Nat} (F : Nat → List Sl) (P : Nat → PotS) (hsrc : DS X tg iter Δ S (.one (xs.map fun v => .tup [φ v, ψ v])) (P 0)) (hg : TgB X tg (.one (xs.map fun v => .tup [φ v, ψ v])) (bndP xs φ ψ j k)) (h0 : Wk Δ (F 0))
    (hs : ∀ i x, xs[i]? = some x → PotEq S (P i) → SX X body (((F i).set j (.dat (φ x))).set k (.dat (ψ x))) (P i) { nx := fun Δ' S' => Wk Δ' (F (i + 1)) ∧ S' = P (i + 1), rt := ae.rt, bk := fun Δ' S' => SX X rest Δ' S' ae, ct := fun Δ' S' => Wk Δ' (F (i + 1)) ∧ S' = P (i + 1), rn := ae.rn })
    (hd : PotEq S (P xs.length) → SX X rest (F xs.length) (P xs.length) ae)
    (hps : PS X (.For tg iter body [] pos) (tFor (WI X tg iter) (WG X tg) (WS X body))) : SX X (.For tg iter body [] pos :: rest) Δ S ae :=
  have hlen : (Src.one (xs.map fun v => D.tup [φ v, ψ v])).len = xs.length := List.length_map ..
  sx_cons (s1_forB (Iv := fun i Δ' S' => Wk Δ' (F i) ∧ S' = P i) hsrc hg ⟨h0, rfl⟩ (fun i Δ' S' hi ⟨e1, e2⟩ eq => by
    rw [hlen] at hi
    have e : xs[i]? = some xs[i] := List.getElem?_eq_getElem hi
    have eb : bndP xs φ ψ j k i Δ' = (Δ'.set j (.dat (φ xs[i]))).set k (.dat (ψ xs[i])) := by
      unfold bndP
      rw [e]
    rw [eb, e2]
    exact sx_wk ((e1.set j _).set k _) (hs i _ e (by rw [← e2]; exact eq))) (fun Δ' S' ⟨e1, e2⟩ eq => by
    rw [hlen] at e1 e2
    show SX X rest Δ' S' ae
    rw [e2]
    exact sx_wk e1 (hd (by rw [← e2]; exact eq))) hps)
end
end Ab

set_option Elab.async false
set_option linter.all false
set_option autoImplicit false
set_option maxRecDepth 100000
set_option maxHeartbeats 2000000
/-! any of a tuple of whole numbers. -/
namespace Ab
open PySem PySem.Spec PyProof.Rows L2 RZ
theorem dp_ints {K : PySem.W.Frag} {H : Hp} : ∀ ns : List Int, DpAll K H (ns.map V.int) (ns.map PyData.int)
  | [] => .nil
  | n :: ns => .cons (.int n) (dp_ints ns)
theorem plain_ints : ∀ ns : List Int, PyData.plainAll (ns.map PyData.int) = true
  | [] => rfl
  | n :: ns => by
    show (PyData.plain (.int n) && PyData.plainAll (ns.map PyData.int)) = true
    rw [plain_ints ns]
    rfl
def rAnyT (K : PySem.W.Frag) : List V → Hp → VK → Prop := fun vs H Q => ∃ (a : Addr) (ns : List Int), vs = [V.ref a] ∧ SqT K H a (ns.map V.int) ∧ Q (.bl (ns.any fun x => decide (x ≠ 0))) H
theorem cr_anyT {X : Cx} (hc : X.calm = true) : CallR X (.builtin "any") (rAnyT X.K) := by
  intro pins s σ H vs us Q I r h
  obtain ⟨a, ns, rfl, hs, q⟩ := h
  obtain ⟨its, rv, hl, _⟩ := I.tuple hs
  rw [Vals.ref1 r]
  obtain ⟨as, hr⟩ := Dp.readsAll I (ns.map PyData.int) (ns.map V.int) its (dp_ints ns) rv
  refine PySem.W.any_tuple_data (vs := its.toArray) (I.ok.hd hc) hl (by simpa using hr) (plain_ints ns) (fun x hx => by
    obtain ⟨n, _, rfl⟩ := List.mem_map.mp hx
    exact trivial) fun h' tk hk => ⟨.bl _, H, I.kept hk, ?_, q⟩
  show Value.bool _ = Value.bool _
  have e : ∀ l : List Int, (l.map PyData.int).any PyData.truthy = l.any fun x => decide (x ≠ 0) := fun l => by
    induction l with
    | nil => rfl
    | cons n l ih =>
      rw [List.map_cons, List.any_cons, List.any_cons, ih]
      congr 1
      show (n != 0) = decide (n ≠ 0)
      by_cases h : n = 0
      · rw [h]; rfl
      · rw [decide_eq_true h]
        simpa using h
  rw [e]
section
variable {X : Cx} {Δ : List Sl} {S S1 : PotS} {pos p : Pos} {e : Expr}
/-- any(row) -/
theorem de_anyT {ns : List Int} (hc : X.calm = true) (ha : DE X e Δ S (tI ns) S1) (hg : Gl X "any") (hm : X.mg "any" = none) (hs : starEach [e] X.env = (false, eval e X.env) :: starEach [] X.env := by rfl) : DE X (.Call (.Name "any" p) [e] [] pos) Δ S (.bl (ns.any fun x => decide (x ≠ 0))) S1 :=
  DG.by (pe_callB (cr_anyT hc) hg hm (by decide +kernel) (pa_cons W.pe pa_nil hs) (he := hs)) ha.1 fun B0 H0 σ B H z Q q => pa_1 z ha fun v B1 H1 z1 g1 p1 => by
    cases p1 with
    | tup h1 h2 =>
      have e := All.ints h2
      subst e
      exact ⟨_, ns, rfl, Evl.ex_t z1.sub h1, q _ B1 H1 g1 z1.pot (.bl _)⟩
end
section
variable {X : Cx} {Δ : List Sl} {S S1 : PotS} {iter elt : Expr} {ifs : List Expr} {scope : Scope} {x y : Str} {p : Pos}
/-- [elt for x, y in iter if ..] -/
theorem lc_pair {α : Type} {xs : List α} {φ ψ g : α → D} {bt : α → Bool} {j k m : Nat} {p1 p2 : Pos} (hc : X.calm = true) (hsrc : DSC X (.Tuple [.Name x p1, .Name y p2] m p) iter Δ S (.two (xs.map fun v => (φ v, ψ v))) S1) (hN : X.N.Nodup) (hj : X.N[j]? = some x) (hk : X.N[k]? = some y) (hl : xs.length ≤ 99999)
    (ht : ∀ s H C cl fp v, v ∈ xs → DP (blk X scope s H C cl fp) ifs ((((Δ.set k .no).set j .no).set j (.dat (φ v))).set k (.dat (ψ v))) S1 (bt v) S1)
    (he : ∀ s H C cl fp v, v ∈ xs → bt v = true → DE (blk X scope s H C cl fp) elt ((((Δ.set k .no).set j .no).set j (.dat (φ v))).set k (.dat (ψ v))) S1 (g v) S1) (hx : ∀ s H C cl fp, Loc (blk X scope s H C cl fp).env.scope x := by intros; first | exact .inl rfl | exact .inr rfl) (hfx : ∀ s H C cl fp, (blk X scope s H C cl fp).fn x = true ∨ (blk X scope s H C cl fp).env.scope.names.lookup x = some .local := by intros; first | exact .inl rfl | exact .inr rfl) (hy : ∀ s H C cl fp, Loc (blk X scope s H C cl fp).env.scope y := by intros; first | exact .inl rfl | exact .inr rfl) (hfy : ∀ s H C cl fp, (blk X scope s H C cl fp).fn y = true ∨ (blk X scope s H C cl fp).env.scope.names.lookup y = some .local := by intros; first | exact .inl rfl | exact .inr rfl)
    (hn : ∀ s H C cl fp, (assignEach [.Name x p1, .Name y p2] (blk X scope s H C cl fp).env).length = 2 := by intros; rfl) (hst : ∀ s H C cl fp, (assignEach [.Name x p1, .Name y p2] (blk X scope s H C cl fp).env).findIdx? (·.1) = none := by intros; rfl) : LC X (.Tuple [.Name x p1, .Name y p2] m p) iter elt ifs scope [j, k] Δ S ((xs.filter bt).map g) S1 :=
  lc_typed hsrc tm_two hl (fun v hv => hv) (fun s H C cl fp => tg_pair (X := blk X scope s H C cl fp) hc hN hj (hx s H C cl fp) hk (hy s H C cl fp) (hfx s H C cl fp) (hfy s H C cl fp) (hn s H C cl fp) (hst s H C cl fp)) ht he
end
end Ab

set_option Elab.async false
set_option linter.all false
set_option autoImplicit false
set_option maxRecDepth 100000
set_option maxHeartbeats 2000000
/-! A list of one's own becomes data in place. -/
namespace Ab
open PySem PySem.Spec PyProof.Rows L2 RZ
section
variable {X : Cx} {Δ : List Sl} {S : PotS} {body : List Stmt} {ae : AE}
theorem sx_freeze {j : Nat} {ds : List D} (hj : Δ[j]? = some (.own ds)) (h : SX X body (Δ.set j (.dat (.lst ds))) S ae) : SX X body Δ S ae := .mk fun B0 H0 σ B H Dn z r => by
  obtain ⟨p, vs, h1, h2, h3, h4, h5, h6⟩ := z.own j ds hj
  have z2 := z.give hj h1 h5
  have is : Is X.K (upd B p (.lst vs)) (.ref p) (.lst ds) := .lst (Evl.sq_of upd_same) (h6.mono (Evl.Ex.new h2))
  have z3 := z2.put (j := j) is
  rw [set_self h1, List.set_set] at z3
  exact h.run B0 H0 σ _ H Dn z3 r
end
end Ab

set_option Elab.async false
set_option linter.all false
set_option autoImplicit false
set_option maxRecDepth 100000
set_option maxHeartbeats 2000000
/-! zip of lists and tuples in any mix. -/
namespace Ab
open PySem PySem.Spec PyProof.Rows L2 RZ
def SqB (t : Bool) (K : PySem.W.Frag) (H : Hp) (a : Addr) (xs : List V) : Prop := match t with
  | true => SqT K H a xs
  | false => SqL K H a xs
def IterB (t : Bool) (h : Heap) (it a : Addr) (i : Nat) : Prop := match t with
  | true => h.IsTupleIter it a i
  | false => h.IsListIter it a i
def SeqB (t : Bool) (h : Heap) (a : Addr) (its : Array Value) : Prop := match t with
  | true => h.IsTuple a its
  | false => h.IsList a its
def begO (t : Bool) (a : Addr) : Obj := match t with
  | true => { cls := .type "tuple_iterator", data := .fields #[.ref a, .int 0 0] }
  | false => { cls := .type "list_iterator", data := .fields #[.ref a, .int 0 0] }
theorem beginsB (t : Bool) (a : Addr) (its : Array Value) : Begins (.ref a) (begO t a) fun h => SeqB t h a its := by
  cases t with
  | true => exact begins_tuple a its
  | false => exact begins_list a its
theorem drawsB {prog : Program} {w : World} {A : Around} (hh : A.handled = none) (t : Bool) (it a : Addr) (hne : a ≠ it) (its : Array Value) :
    Draws prog w A it [it, a] its.size (fun i v => its[i]? = some v) (fun i h => IterB t h it a i ∧ SeqB t h a its) := by
  cases t with
  | true => exact Draws.tuple hh it a hne its
  | false => exact Draws.list hh it a hne its
theorem beg_iter {t : Bool} {h : Heap} {it a : Addr} (e : h.get? it = some (begO t a)) : IterB t h it a 0 := by
  cases t with
  | true => exact ⟨_, e, rfl, rfl⟩
  | false => exact ⟨_, e, rfl, rfl⟩
theorem iter_at {t : Bool} {h h' : Heap} {it a : Addr} {i : Nat} (s : IterB t h it a i) (k : ∀ o, h.get? it = some o → h'.get? it = some o) : IterB t h' it a i := by
  cases t with
  | true => exact Heap.IsTupleIter.at s fun o e => k o e
  | false => exact Heap.IsListIter.at s fun o e => k o e
theorem iter_obj {t : Bool} {h : Heap} {it a : Addr} {i : Nat} (s : IterB t h it a i) : ∃ o, h.get? it = some o ∧ ∀ v n, o.data ≠ .seq v n := by
  cases t with
  | true =>
    obtain ⟨o, e, _, d⟩ := s
    exact ⟨o, e, fun v n q => by rw [d] at q; cases q⟩
  | false =>
    obtain ⟨o, e, _, d⟩ := s
    exact ⟨o, e, fun v n q => by rw [d] at q; cases q⟩
section
variable {X : Cx} {pins : List (Addr × Obj)} {σ : L2.St} {H : Hp} {s : Shared}
theorem inv_seq (I : Inv X pins σ H s) {t : Bool} {a : Addr} {xs : List V} (q : SqB t X.K H a xs) : ∃ its : List Value, Vals xs its ∧ SeqB t s.heap a its.toArray ∧ a < s.heap.objs.size := by
  cases t with
  | true =>
    obtain ⟨its, r, p, _⟩ := I.tuple q
    exact ⟨its, r, p, by obtain ⟨_, e, _⟩ := p; exact Heap.lt_size e⟩
  | false =>
    obtain ⟨its, r, p, _⟩ := I.list q
    exact ⟨its, r, p.isList, p.lt⟩
theorem inv_inj (I : Inv X pins σ H s) {t : Bool} {a : Addr} {xs ys : List V} (q : SqB t X.K H a xs) (q' : SqB t X.K H a ys) : xs = ys := by
  cases t with
  | true => exact I.tuple_inj q q'
  | false => exact I.list_inj q q'
end
def ItzB (K : PySem.W.Frag) (t u : Bool) (a b : Addr) : It :=
  ⟨fun i H => ∃ (xs ys : List V) (x y : V), SqB t K H a xs ∧ SqB u K H b ys ∧ xs[i]? = some x ∧ ys[i]? = some y,
    fun i H v H' => ∃ T x y, v = .ref T ∧ H T = none ∧ H' = upd H T (.tup [x, y]) ∧ (∀ xs, SqB t K H a xs → xs[i]? = some x) ∧ ∀ ys, SqB u K H b ys → ys[i]? = some y,
    fun i H => ∃ xs ys : List V, SqB t K H a xs ∧ SqB u K H b ys ∧ i ≤ xs.length ∧ i ≤ ys.length ∧ (xs.length = i ∨ ys.length = i)⟩
theorem turn_zipB {P : Program} {w : World} {K : PySem.W.Frag} {elts : List Expr} {kk : Nat} {tpos : Pos} {t u : Bool} {a b z TI TO i1 i2 : Addr} (D : ZipApart z TI TO i1 i2 a b) :
    Turn P w K (.Tuple elts kk tpos) (ItzB K t u a b) [z, TI, TO, i1, i2] z (fun i h => IsZip h z TI TO .none ∧ IsTupOf2 h TI (.ref i1) (.ref i2) ∧ (∃ x y, IsTupOf2 h TO x y) ∧ IterB t h i1 a i ∧ IterB u h i2 b i) where
  mem := by simp
  obj := fun i h st c hc => by
    obtain ⟨hz, hTI, ⟨x, y, hTO⟩, h1, h2⟩ := st
    obtain ⟨o1, e1, d1⟩ := iter_obj h1
    obtain ⟨o2, e2, d2⟩ := iter_obj h2
    have e' : c = z ∨ c = TI ∨ c = TO ∨ c = i1 ∨ c = i2 := by simpa using hc
    rcases e' with q | q | q | q | q
    · rw [q]; exact ⟨_, hz, fun v q => nomatch q⟩
    · rw [q]; exact ⟨_, hTI, fun v q => nomatch q⟩
    · rw [q]; exact ⟨_, hTO, fun v q => nomatch q⟩
    · rw [q]; exact ⟨o1, e1, fun v q => by
        cases t with
        | true => obtain ⟨o, e, _, d⟩ := h1; rw [e] at e1; cases e1; rw [d] at q; cases q
        | false => obtain ⟨o, e, _, d⟩ := h1; rw [e] at e1; cases e1; rw [d] at q; cases q⟩
    · rw [q]; exact ⟨o2, e2, fun v q => by
        cases u with
        | true => obtain ⟨o, e, _, d⟩ := h2; rw [e] at e2; cases e2; rw [d] at q; cases q
        | false => obtain ⟨o, e, _, d⟩ := h2; rw [e] at e2; cases e2; rw [d] at q; cases q⟩
  keep := fun i h h' st k => by
    obtain ⟨hz, hTI, ⟨x, y, hTO⟩, h1, h2⟩ := st
    exact ⟨k z (by simp) _ hz, k TI (by simp) _ hTI, ⟨x, y, k TO (by simp) _ hTO⟩, iter_at h1 fun o q => k i1 (by simp) o q, iter_at h2 fun o q => k i2 (by simp) o q⟩
  item := by
    intro X hP hw hK hc i pins s σ H E I hf st hg
    subst hP hw hK
    obtain ⟨hz, hTI, ⟨x0, y0, hTO⟩, h1, h2⟩ := st
    obtain ⟨xs, ys, x, y, hqx, hqy, hx, hy⟩ := hg
    obtain ⟨its, rv, p, _⟩ := inv_seq I hqx
    obtain ⟨its2, rv2, p2, _⟩ := inv_seq I hqy
    obtain ⟨u1, hu, ru⟩ := rv.get hx
    obtain ⟨u2, hu2, ru2⟩ := rv2.get hy
    have hzl : z < s.heap.objs.size := Heap.lt_size hz
    have hh : X.A.in1.handled = none := I.ok.hd hc
    have hS : ZipSep2 z TI TO i1 i2 [i1, a] [i2, b] := ⟨D.TIz, D.TOz, D.TITO, D.TIi1, by simp, by simp [D.i1z.symm, D.l1z.symm], by simp [D.TOi1, D.l1TO.symm], D.TIi2, by simp, by simp [D.i2z.symm, D.l2z.symm], by simp [D.TOi2, D.l2TO.symm], by simp [D.i12, D.l2i1.symm], by simp [D.i12.symm, D.l1i2.symm]⟩
    have li : i < its.toArray.size := by
      have := (List.getElem?_eq_some_iff.mp hu).1
      simpa using this
    have li2 : i < its2.toArray.size := by
      have := (List.getElem?_eq_some_iff.mp hu2).1
      simpa using this
    refine wpAny_pyNext_zipD2_item hS (drawsB hh t i1 a D.l1i1 its.toArray) (drawsB hh u i2 b D.l2i2 its2.toArray) hz hTI hTO ⟨h1, p⟩ ⟨h2, p2⟩ li li2 fun x1 x2 h' tk q1 q2 z' TO' s1' s2' hT hsz hk => ?_
    have e1 : x1 = u1 := by
      have h1 : its.toArray[i]? = some u1 := by simpa using hu
      exact Option.some.inj (q1.symm.trans h1)
    have e2 : x2 = u2 := by
      have h1 : its2.toArray[i]? = some u2 := by simpa using hu2
      exact Option.some.inj (q2.symm.trans h1)
    subst e1
    subst e2
    refine ⟨_, rfl, wpAny_letOwnedTupleGo_zip (s := { s with heap := h', toks := tk }) z' fun h'' z'' sb => ?_⟩
    have hT2 : h''.get? s.heap.objs.size = some { cls := .type "tuple", data := .seq #[x1, x2] } := (sb.2 _ (Nat.ne_of_gt hzl)).trans hT
    have new : ObjOk X.prog X.w (upd H s.heap.objs.size (.tup [x, y])) h'' s.heap.objs.size (.tup [x, y]) :=
      ⟨by show 2 ≤ sizeLine; decide, [x1, x2], .cons ru (.cons ru2 .nil), ⟨_, hT2, rfl, _, rfl⟩⟩
    have I1 : Inv X pins σ (upd H s.heap.objs.size (.tup [x, y])) { s with heap := h'', toks := tk } :=
      I.turnedNew (t' := tk) (ch := [z, TI, TO, i1, i2]) (fun c o hb q => (sb.2 c (fun q' => hb (by simp [q']))).trans (hk c o (fun q' => hb (by simp [q'])) (fun q' => hb (by simp [q'])) (fun q' => hb (by simp [q'])) (fun q' => hb (by simp [q'])) q)) hf (Nat.le_refl _) new
    refine ⟨.ref s.heap.objs.size, _, I1, rfl, ⟨_, x, y, rfl, I.hok.fresh (Nat.le_refl _), rfl, fun l hl => by rw [inv_inj I hl hqx]; exact hx, fun l hl => by rw [inv_inj I hl hqy]; exact hy⟩, ⟨z'', ?_, ⟨x1, x2, ?_⟩, ?_, ?_⟩, fun c hcm => ?_⟩
    · exact (sb.2 _ D.TIz).trans (hk _ _ D.TIz D.TITO D.TIi1 D.TIi2 hTI)
    · exact (sb.2 _ D.TOz).trans TO'
    · exact iter_at s1'.1 fun o q => (sb.2 _ D.i1z).trans q
    · exact iter_at s2'.1 fun o q => (sb.2 _ D.i2z).trans q
    · have hlt : c < s.heap.objs.size := by
        have e' : c = z ∨ c = TI ∨ c = TO ∨ c = i1 ∨ c = i2 := by simpa using hcm
        rcases e' with q | q | q | q | q
        · rw [q]; exact hzl
        · rw [q]; exact Heap.lt_size hTI
        · rw [q]; exact Heap.lt_size hTO
        · rw [q]; obtain ⟨_, e1, _⟩ := iter_obj h1; exact Heap.lt_size e1
        · rw [q]; obtain ⟨_, e2, _⟩ := iter_obj h2; exact Heap.lt_size e2
      rw [upd_ne (Nat.ne_of_lt hlt)]
      exact (hf c hcm).1
  done := by
    intro X hP hw hK hc i pins s σ H E I hf st hg
    subst hP hw hK
    obtain ⟨hz, hTI, ⟨x0, y0, hTO⟩, h1, h2⟩ := st
    obtain ⟨xs, ys, hqx, hqy, hl1, hl2, hend⟩ := hg
    obtain ⟨its, rv, p, _⟩ := inv_seq I hqx
    obtain ⟨its2, rv2, p2, _⟩ := inv_seq I hqy
    have l1 := rv.length
    have l2 := rv2.length
    have hh : X.A.in1.handled = none := I.ok.hd hc
    have hS : ZipSep2 z TI TO i1 i2 [i1, a] [i2, b] := ⟨D.TIz, D.TOz, D.TITO, D.TIi1, by simp, by simp [D.i1z.symm, D.l1z.symm], by simp [D.TOi1, D.l1TO.symm], D.TIi2, by simp, by simp [D.i2z.symm, D.l2z.symm], by simp [D.TOi2, D.l2TO.symm], by simp [D.i12, D.l2i1.symm], by simp [D.i12.symm, D.l1i2.symm]⟩
    exact wpAny_pyNext_zipD2_end hS (drawsB hh t i1 a D.l1i1 its.toArray) (drawsB hh u i2 b D.l2i2 its2.toArray) hz hTI hTO ⟨h1, p⟩ ⟨h2, p2⟩ (by simp; omega) (by simp; omega) (by simp; omega) fun h' tk hk => ⟨rfl, I.turnedL (t' := tk) (ch := [z, TI, TO, i1, i2]) (fun c o hb q =>
      hk c o (fun q' => hb (by simp [q'])) (fun q' => hb (by simp [q'])) (fun q' => hb (by simp [q'])) (fun q' => hb (by simp [q'])) q) hf⟩
  self := fun A i s Q E st h => wpAny_pyIter_zip st.1 h
def iZipB (K : PySem.W.Frag) (t u : Bool) (ta : TA) : TI := fun σ H R => ta σ H fun vs H1 => ∃ a b xs ys, vs = [.ref a, .ref b] ∧ SqB t K H1 a xs ∧ SqB u K H1 b ys ∧ R (ItzB K t u a b) H1
theorem pi_zipB {X : Cx} {e e2 : Expr} {ta : TA} {p pos tpos : Pos} {elts : List Expr} {kk : Nat} (t u : Bool) (hg : Gl X "zip") (hm : X.mg "zip" = none) (ha : PA X [e, e2] ta)
    (hs : starEach [e, e2] X.env = (false, eval e X.env) :: starEach [e2] X.env := by rfl) (hpl : (backTo pos (starEach [e2] X.env)).any (·.1) = false := by rfl) :
    PI X (.Tuple elts kk tpos) (.Call (.Name "zip" p) [e, e2] [] pos) (iZipB X.K t u ta) := by
  refine ⟨fun pins s σ H R I h => ?_⟩
  refine Call_ (ld_blt I hg hm PyProof.Rows.boot_zip (PyProof.Rows.callWith_type1 (thn (ha.run pos pins s σ H _ I h) fun us s1 ⟨vs, H1, I1, r1, q1⟩ => ?_) hs hpl))
  obtain ⟨a, b, xs, ys, ex, hqx, hqy, q⟩ := q1
  subst ex
  cases r1 with
  | cons r rr =>
    cases rr with
    | cons r' rr =>
      cases rr
      cases r
      cases r'
      have fresh5 : ∀ c, c ∈ [s1.heap.objs.size + 4, s1.heap.objs.size + 2, s1.heap.objs.size + 3, s1.heap.objs.size, s1.heap.objs.size + 1] → FpOk X pins H1 c := fun c hcm => by
        have e' : c = s1.heap.objs.size + 4 ∨ c = s1.heap.objs.size + 2 ∨ c = s1.heap.objs.size + 3 ∨ c = s1.heap.objs.size ∨ c = s1.heap.objs.size + 1 := by simpa using hcm
        have hle : s1.heap.objs.size ≤ c := by
          rcases e' with z | z | z | z | z
          · rw [z]; exact Nat.le_add_right _ _
          · rw [z]; exact Nat.le_add_right _ _
          · rw [z]; exact Nat.le_add_right _ _
          · rw [z]; exact Nat.le_refl _
          · rw [z]; exact Nat.le_add_right _ _
        exact I1.fpOk hle (I1.hok.fresh hle)
      obtain ⟨its, rv, p1, l1⟩ := inv_seq I1 hqx
      obtain ⟨its2, rv2, p2, l2⟩ := inv_seq I1 hqy
      refine zip_begins2 (beginsB t a its.toArray) (beginsB u b its2.toArray) p1 p2 fun h' hz hTI hTO h1 h2 hsz hk => wpAny_pyIter_zip hz ?_
      have I2 : Inv X pins σ H1 { s1 with heap := h' } := I1.kept (t' := s1.toks) hk
      exact ⟨s1.heap.objs.size + 4, [s1.heap.objs.size + 4, s1.heap.objs.size + 2, s1.heap.objs.size + 3, s1.heap.objs.size, s1.heap.objs.size + 1], _, _, H1, rfl, I2, turn_zipB (PySem.W.ktu_apart s1.heap.objs.size a b l1 l2), ⟨hz, hTI, ⟨_, _, hTO⟩, beg_iter h1, beg_iter h2⟩, fresh5, q⟩
section
variable {X : Cx} {Δ : List Sl} {S S1 S2 : PotS} {pos : Pos} {a b e tg : Expr}
theorem walk_zipB {K : PySem.W.Frag} {t u : Bool} {a b : Addr} {xs ys : List V} {n : Nat} (hn : n = min xs.length ys.length) : Walk (ItzB K t u a b) n (fun H => SqB t K H a xs ∧ SqB u K H b ys) (YPair (fun i => xs[i]?) (fun i => ys[i]?)) := by
  subst hn
  refine ⟨fun i _ hi q => ?_, fun _ q => ⟨xs, ys, q.1, q.2, by omega, by omega, by omega⟩, fun i H v H' _ q y => ?_⟩
  · have h1 : i < xs.length := by omega
    have h2 : i < ys.length := by omega
    exact ⟨xs, ys, xs[i], ys[i], q.1, q.2, by simp [h1], by simp [h2]⟩
  · obtain ⟨T, x, z, h1, h2, h3, h4, h5⟩ := y
    exact ⟨T, x, z, h1, h2, h3, h4 xs q.1, h5 ys q.2⟩
theorem ex_b {t : Bool} {K : PySem.W.Frag} {B B' : Hp} {a : Addr} {xs : List V} (e : Ex B B') (h : SqB t K B a xs) : SqB t K B' a xs := by
  cases t with
  | true => exact Evl.ex_t e h
  | false => exact Evl.ex_l e h
/-- a told sequence: its value -/
theorem is_seq {t : Bool} {K : PySem.W.Frag} {B : Hp} {v : V} {ds : List D} (h : Is K B v (match t with | true => .tup ds | false => .lst ds)) : ∃ a xs, v = .ref a ∧ SqB t K B a xs ∧ All K B xs ds := by
  cases t with
  | true =>
    cases h with
    | tup h1 h2 => exact ⟨_, _, rfl, h1, h2⟩
  | false =>
    cases h with
    | lst h1 h2 => exact ⟨_, _, rfl, h1, h2⟩
theorem ds_zipB {elts : List Expr} {kk : Nat} {tpos p : Pos} {ds es : List D} (t u : Bool) (ha : DE X a Δ S (match t with | true => .tup ds | false => .lst ds) S1) (hb : DE X b Δ S1 (match u with | true => .tup es | false => .lst es) S2) (hg : Gl X "zip") (hm : X.mg "zip" = none)
    (hs : starEach [a, b] X.env = (false, eval a X.env) :: starEach [b] X.env := by rfl) (hs2 : starEach [b] X.env = (false, eval b X.env) :: starEach [] X.env := by rfl) (hpl : (backTo pos (starEach [b] X.env)).any (·.1) = false := by rfl) :
    DS X (.Tuple elts kk tpos) (.Call (.Name "zip" p) [a, b] [] pos) Δ S (.two (ds.zip es)) S2 :=
  ⟨ha.1.trans hb.1, fun B0 H0 σ B H z R r => WI.of (pi_zipB t u hg hm (pa_cons W.pe (pa_cons W.pe pa_nil hs2) hs) hs hpl) (z.run ha fun v B1 H1 z1 g1 p1 => z1.run hb fun w B2 H2 z2 g2 p2 => by
    obtain ⟨a1, xs, rfl, h1, h2⟩ := is_seq p1
    obtain ⟨b1, ys, rfl, k1, k2⟩ := is_seq p2
    have h1' := ex_b g2.ex h1
    have h2' := h2.mono g2.ex
    refine ⟨_, _, _, _, rfl, ex_b z2.sub h1', ex_b z2.sub k1, r _ B2 H2 (gr_go z1.pot ha.1 g1 g2) z2.pot ⟨fun H3 => SqB t X.K H3 _ _ ∧ SqB u X.K H3 _ _, ?_, fun H3 ex => ⟨ex_b ex h1', ex_b ex k1⟩⟩⟩
    exact (walk_zipB (by rw [zip_len, h2.length, k2.length])).mono (fun _ q => q) fun i H x H' hi q y => ys_pair h2' k2 y)⟩
/-- zip of a tuple and a list -/
theorem ds_zipTL {α β : Type} {xs : List α} {ys : List β} {φ : α → D} {ψ : β → D} {elts : List Expr} {kk : Nat} {tpos q : Pos} (ha : DE X a Δ S (.tup (xs.map φ)) S1) (hb : DE X b Δ S1 (.lst (ys.map ψ)) S2) (hg : Gl X "zip") (hm : X.mg "zip" = none)
    (hs : starEach [a, b] X.env = (false, eval a X.env) :: starEach [b] X.env := by rfl) (hs2 : starEach [b] X.env = (false, eval b X.env) :: starEach [] X.env := by rfl) (hpl : (backTo pos (starEach [b] X.env)).any (·.1) = false := by rfl) :
    DS X (.Tuple elts kk tpos) (.Call (.Name "zip" q) [a, b] [] pos) Δ S (.two ((xs.zip ys).map fun v => (φ v.1, ψ v.2))) S2 := (ds_zipB true false ha hb hg hm hs hs2 hpl).cast (by rw [zip_map2])
/-- zip of a list and a tuple -/
theorem ds_zipLT {α β : Type} {xs : List α} {ys : List β} {φ : α → D} {ψ : β → D} {elts : List Expr} {kk : Nat} {tpos q : Pos} (ha : DE X a Δ S (.lst (xs.map φ)) S1) (hb : DE X b Δ S1 (.tup (ys.map ψ)) S2) (hg : Gl X "zip") (hm : X.mg "zip" = none)
    (hs : starEach [a, b] X.env = (false, eval a X.env) :: starEach [b] X.env := by rfl) (hs2 : starEach [b] X.env = (false, eval b X.env) :: starEach [] X.env := by rfl) (hpl : (backTo pos (starEach [b] X.env)).any (·.1) = false := by rfl) :
    DS X (.Tuple elts kk tpos) (.Call (.Name "zip" q) [a, b] [] pos) Δ S (.two ((xs.zip ys).map fun v => (φ v.1, ψ v.2))) S2 := (ds_zipB false true ha hb hg hm hs hs2 hpl).cast (by rw [zip_map2])
end
end Ab

set_option Elab.async false
set_option linter.all false
set_option autoImplicit false
set_option maxRecDepth 100000
set_option maxHeartbeats 2000000
/-! Two items of one list exchanged; sequences of either kind. -/
namespace Ab
open PySem PySem.Spec PyProof.Rows L2 RZ
section
variable {X : Cx} {Δ Δ' Δ2 Δ3 : List Sl} {S S1 S2 S3 : PotS} {pos : Pos} {a b c e : Expr} {es : List Expr} {ss : List Sl} {ae : AE} {p : Addr} {ns ms : List Int}
/-! ### the pot -/
theorem p_swap2 {N : List Str} {x : Str} {l i j : Nat} {ds : List D} {u v : D} {b2 : Expr} {p3 p4 p5 p6 pt pt2 : Pos} {kt k2 : Nat} (hN : X.N = N) (hc : X.calm = true) (hnd : X.N.Nodup) (h : DA X [a, b] Δ S [u, v] S1) (hi : At N Δ x l (.own ds))
    (h1 : DE X e Δ S1 (.int (i : Int)) S1) (h2 : DE X b2 Δ2 S1 (.int (j : Int)) S1) (hli : i < ds.length) (hlj : j < ds.length) (hp : PutA N Δ x l (.own (ds.set i u)) Δ2) (hp2 : PutA N Δ2 x l (.own ((ds.set i u).set j v)) Δ3) (q : ae.nx Δ3 S1)
    (hv : Vis X.env.scope x := by first | exact Or.inl rfl | exact Or.inr (Or.inl rfl) | exact Or.inr (Or.inr rfl)) (hd : (x == ("__debug__" : Str)) = false := by decide) (hcd : (x == ("__classdict__" : Str)) = false := by decide)
    (ha : ∀ v, assign (.Subscript (.Name x p3) e p4) X.env v = (do
      let ov ← holding [v] (eval (.Name x p3) X.env)
      let iv ← holding [v, ov] (eval e X.env)
      standAt p4
      holding [v, ov, iv] (setItem ov iv v)
      release [v, ov, iv] []) := by intro _; rfl)
    (ha2 : ∀ v, assign (.Subscript (.Name x p5) b2 p6) X.env v = (do
      let ov ← holding [v] (eval (.Name x p5) X.env)
      let iv ← holding [v, ov] (eval b2 X.env)
      standAt p6
      holding [v, ov, iv] (setItem ov iv v)
      release [v, ov, iv] []) := by intro _; rfl)
    (hs : swapsWithSole [.Tuple [.Subscript (.Name x p3) e p4, .Subscript (.Name x p5) b2 p6] kt pt] (.Tuple [a, b] k2 pt2) pos.line X.env = pure false := by rfl) (hw : swappedStores [.Tuple [.Subscript (.Name x p3) e p4, .Subscript (.Name x p5) b2 p6] kt pt] (.Tuple [a, b] k2 pt2) X.env = pure none := by rfl)
    (hq : (assignEach [.Tuple [.Subscript (.Name x p3) e p4, .Subscript (.Name x p5) b2 p6] kt pt] X.env).map (·.2) = [assign (.Tuple [.Subscript (.Name x p3) e p4, .Subscript (.Name x p5) b2 p6] kt pt) X.env] := by rfl)
    (hn : (assignEach [.Subscript (.Name x p3) e p4, .Subscript (.Name x p5) b2 p6] X.env).length = 2 := by rfl) (hst : (assignEach [.Subscript (.Name x p3) e p4, .Subscript (.Name x p5) b2 p6] X.env).findIdx? (·.1) = none := by rfl)
    (hs1 : (assignEach (.Subscript (.Name x p3) e p4 :: [.Subscript (.Name x p5) b2 p6]) X.env).map (·.2) = assign (.Subscript (.Name x p3) e p4) X.env :: (assignEach [.Subscript (.Name x p5) b2 p6] X.env).map (·.2) := by rfl)
    (hs2 : (assignEach (.Subscript (.Name x p5) b2 p6 :: []) X.env).map (·.2) = assign (.Subscript (.Name x p5) b2 p6) X.env :: (assignEach [] X.env).map (·.2) := by rfl) :
    S1X X (.Assign [.Tuple [.Subscript (.Name x p3) e p4, .Subscript (.Name x p5) b2 p6] kt pt] (.Tuple [a, b] k2 pt2) pos) Δ S ae := .mk fun B0 H0 σ B H Dn z r => by
  have hx1 : X.N[l]? = some x := by rw [hN]; exact hi.name
  refine W1.of (ps_asg (pe_tup WA.pa) (pg_tup hc (pgs_cons (pg_sub (pe_var hx1 hv hd hcd) W.pe set_list ha) (pgs_cons (pg_sub (pe_var hx1 hv hd hcd) W.pe set_list ha2) pgs_nil hs2) hs1) hn hst) hs hw hq) (z.runA h fun vs B1 H1 z1 g1 p1 => ?_)
  cases p1 with
  | @cons w1 _ _ _ i1 p1 => cases p1 with
    | @cons w2 _ _ _ i2 p1 =>
        cases p1
        refine ⟨by show 2 ≤ sizeLine; decide, fun n hn => ?_⟩
        have ex2 : Ex B1 (upd B1 n (.tup [w1, w2])) := Evl.Ex.new (Evl.fresh_back z1.sub hn)
        have z2 := z1.grow (PotEq.refl S1) (Gr.data (o := .tup [w1, w2]) z1.sub hn) (z1.pot.upd2 hn)
        refine ⟨_, _, rfl, Evl.st_of upd_same, rfl, _, _, rfl, ?_⟩
        obtain ⟨pp, vs, k1, k2, k3, k4, k5, k6⟩ := z2.own l ds hi.slot
        refine ⟨.ref pp, k1, z2.run h1 fun t B3 H3 z3 g3 p3 => ?_⟩
        cases p3
        have k6' := k6.mono g3.ex
        have k5' := g3.old pp _ k4 k5
        refine ⟨pp, vs, (i : Int), i, rfl, rfl, k5', Evl.ixN_nat (by rw [k6.length]; exact hli), _, _, rfl, ?_⟩
        have z4 := z3.mut hi.slot k1 (k6'.set ((Is.mono ex2 i1).mono g3.ex) i)
        rw [hp.eq] at z4
        refine ⟨.ref pp, k1, z4.run h2 fun t B5 H5 z5 g5 p5 => ?_⟩
        cases p5
        have hi2 : Δ2[l]? = some (Sl.own (ds.set i u)) := by
          rw [← hp.eq]
          exact List.getElem?_set_self (List.getElem?_eq_some_iff.mp hi.slot).1
        obtain ⟨pp2, vs2, m1, m2, m3, m4, m5, m6⟩ := z5.own l _ hi2
        have e : pp2 = pp := V.ref.inj (Option.some.inj (Option.some.inj (m1.symm.trans k1)))
        subst e
        refine ⟨pp2, vs2, (j : Int), j, rfl, rfl, m5, Evl.ixN_nat (by rw [m6.length, List.length_set]; exact hlj), rfl, ?_⟩
        have z6 := z5.mut hi2 m1 (m6.set (((Is.mono ex2 i2).mono g3.ex).mono g5.ex) j)
        rw [hp2.eq] at z6
        exact r.nx _ B5 _ Δ3 _ z6 h.1.symm q
theorem dqs {t : Bool} {ds : List D} {X : Cx} {e : Expr} {Δ : List Sl} {S S1 : PotS} (h : DE X e Δ S (sq t ds) S1) : DQ X e Δ S t ds S1 := by
  cases t with
  | true => exact DE.tup h
  | false => exact DE.lst h
theorem dss {t : Bool} {ds : List D} {X : Cx} {e tg : Expr} {Δ : List Sl} {S S1 : PotS} (h : DE X e Δ S (sq t ds) S1) : DS X tg e Δ S (.one ds) S1 := by
  cases t with
  | true => exact ds_tup h
  | false => exact ds_list h
theorem de_tupQ {t : Bool} {ds : List D} {X : Cx} {e : Expr} {Δ : List Sl} {S S1 : PotS} {p pos : Pos} (h : DE X e Δ S (sq t ds) S1) (hg : Gl X "tuple") (hm : X.mg "tuple" = none) (hs : starEach [e] X.env = (false, eval e X.env) :: starEach [] X.env := by rfl) : DE X (.Call (.Name "tuple" p) [e] [] pos) Δ S (.tup ds) S1 := by
  cases t with
  | true => exact de_tupT h hg hm hs
  | false => exact de_tupL (DE.lst h) hg hm hs
/-- t[lo:hi] -/
theorem de_slT {X : Cx} {a : Expr} {Δ : List Sl} {S S1 : PotS} {pos : Pos} {lo hi : Option Expr} {l h : Option Int} {ds : List D} {p2 : Pos} (ha : DE X a Δ S (.tup ds) S1) (hl : DOE X lo Δ S1 l) (hh : DOE X hi Δ S1 h) : DE X (.Subscript a (.Slice lo hi none p2) pos) Δ S (.tup (cutD ds l h)) S1 := by
  obtain ⟨tl, pl, ql⟩ := hl.ex
  obtain ⟨th, ph, qh⟩ := hh.ex
  refine DG.by (pe_slice sl_tupA W.pe pl ph) ha.1 fun B0 H0 σ B H z Q q => z.run ha fun v B1 H1 z1 g1 p1 => ?_
  refine ql B0 H0 σ B1 H1 z1 _ fun B2 H2 g2 po2 => ?_
  have z2 := z1.grow (PotEq.refl S1) g2 po2
  refine qh B0 H0 σ B2 H2 z2 _ fun B3 H3 g3 po3 => ?_
  have z3 := z2.grow (PotEq.refl S1) g3 po3
  have g : Gr S B H B3 H3 := gr_go z2.pot ha.1 (gr_go z1.pot ha.1 g1 g2) g3
  cases p1 with
  | tup h1 h2 =>
    have e13 := g2.ex.trans g3.ex
    have h1' := Evl.ex_t e13 h1
    have h2' := h2.mono e13
    refine ⟨_, _, rfl, Evl.ex_t z3.sub h1', fun hw => ?_, fun _ n hn => ?_⟩
    · have e : cutD ds l h = ds := by
        unfold cutD
        rw [← h2.length, hw.1, hw.2, Nat.sub_zero, List.drop_zero, h2.length, List.take_length]
      rw [e] at q
      exact q _ B3 H3 g z3.pot (.tup h1' h2')
    · exact tup_end z3.sub g ha.1 z3.pot hn (h2'.cut l h) q
end
end Ab

set_option Elab.async false
set_option linter.all false
set_option autoImplicit false
set_option maxRecDepth 100000
set_option maxHeartbeats 2000000
/-! is not, of bools. -/
namespace Ab
open PySem PySem.Spec PyProof.Rows L2 RZ
section
variable {X : Cx} {Δ : List Sl} {S S1 S2 : PotS} {pos : Pos} {a b : Expr}
theorem db_notB {k l : Bool} (ha : DE X a Δ S (.bl k) S1) (hb : DE X b Δ S1 (.bl l) S2) : DB X (.Compare a [.IsNot] [b] pos) Δ S (!decide (k = l)) S2 :=
  db_cmp op_notBl (nomark _) ha hb fun B H v B1 H1 u B2 H2 _ _ p1 _ _ p2 Q q => by
    cases p1
    cases p2
    exact ⟨k, l, rfl, rfl, q⟩
/-- repr of a whole number -/
theorem de_reprI {i : Int} {p : Pos} {e : Expr} (ha : DE X e Δ S (.int i) S1) (hi : i.natAbs.log2 < 1920) (hg : Gl X "repr") (hm : X.mg "repr" = none)
    (he : starEach [e] X.env = (false, eval e X.env) :: starEach [] X.env := by rfl) (hpl : (backTo pos (starEach [] X.env)).any (·.1) = false := by rfl) : DE X (.Call (.Name "repr" p) [e] [] pos) Δ S (.str (toString i)) S1 :=
  DG.by (pe_callB SkE.call_repr_int hg hm bootS_repr WA.pa (by decide) (by decide) he hpl) ha.1 fun B0 H0 σ B H z Q q => by
    refine WA.of (pa_cons W.pe pa_nil he) ?_
    exact z.run ha fun v B1 H1 z1 g1 p1 => by
      cases p1
      exact ⟨i, rfl, hi, q _ B1 H1 g1 z1.pot (.str _)⟩
end
end Ab

set_option Elab.async false
set_option linter.all false
set_option autoImplicit false
/-! What the package's functions compute: plain functions on lists of whole numbers. -/
namespace Rk
def rg (n : Nat) : List Int := (List.range n).map Int.ofNat
theorem rg_len {n : Nat} : (rg n).length = n := by rw [rg, List.length_map, List.length_range]
theorem rg_get {n i : Nat} (h : i < n) : (rg n)[i]? = some (i : Int) := by rw [rg, List.getElem?_map, List.getElem?_range h]; rfl
theorem mem_rg {n : Nat} {x : Int} : x ∈ rg n ↔ 0 ≤ x ∧ x < n := by
  rw [rg, List.mem_map]
  constructor
  · rintro ⟨i, h1, rfl⟩
    have := List.mem_range.mp h1
    show 0 ≤ (i : Int) ∧ (i : Int) < n
    omega
  · rintro ⟨h1, h2⟩
    exact ⟨x.toNat, List.mem_range.mpr (by omega), by show ((x.toNat : Nat) : Int) = x; omega⟩
/-- the primes -/
def Pr (p : Int) : Prop := p = 3 ∨ p = 5 ∨ p = 7 ∨ p = 11 ∨ p = 13
theorem Pr.b {p : Int} (h : Pr p) : 3 ≤ p ∧ p ≤ 13 := by unfold Pr at h; omega
/-- a row of rests, a table -/
def Row (p : Int) (n : Nat) (r : List Int) : Prop := r.length = n ∧ ∀ x, x ∈ r → 0 ≤ x ∧ x < p
def Tab (p : Int) (n m : Nat) (t : List (List Int)) : Prop := t.length = n ∧ ∀ r, r ∈ t → Row p m r
def powN (p n : Int) : Nat → Int
  | 0 => 1
  | i + 1 => powN p n i * n % p
theorem powN_b {p n : Int} (hp : 1 < p) : ∀ i : Nat, 0 ≤ powN p n i ∧ powN p n i < p
  | 0 => ⟨by show (0 : Int) ≤ 1; decide, hp⟩
  | i + 1 => ⟨Int.emod_nonneg _ (by omega), Int.emod_lt_of_pos _ (by omega)⟩
def undone (p r : Int) : Int := powN p r (p - 2).toNat
def signF (p r : Int) : Int := if r = 0 then 0 else if powN p r ((p - 1) / 2).toNat = 1 then 1 else -1
def oddF (p : Int) : Int := ((rg p.toNat).filter fun r => signF p r == -1).headD 0
theorem oddF_get {p : Int} (h : Pr p) : ((rg p.toNat).filter fun r => signF p r == -1)[0]? = some (oddF p) := by
  rcases h with rfl | rfl | rfl | rfl | rfl <;> decide +kernel
theorem oddF_b {p : Int} (h : Pr p) : 0 < oddF p ∧ oddF p < p ∧ signF p (oddF p) = -1 := by
  rcases h with rfl | rfl | rfl | rfl | rfl <;> decide +kernel
def unitF (n : Nat) (k : Int) : List Int := (rg n).map fun a => if a = k then 1 else 0
def idF (n : Nat) : List (List Int) := (rg n).map (unitF n)
def dotF (p : Int) (r s : List Int) : Int := ((r.zip s).map fun v => v.1 * v.2).sum % p
def addF (p : Int) (r s : List Int) (c : Int) : List Int := (r.zip s).map fun v => (v.1 + c * v.2) % p
def mixF (p : Int) (cs : List Int) (rows : List (List Int)) (n : Nat) : List Int := (cs.zip rows).foldl (fun acc v => addF p acc v.2 v.1) (List.replicate n 0)
def ledF (p : Int) (row : List Int) (t : List (List Int)) : List Int := mixF p row t (t.headD []).length
def betF (p : Int) (t : List (List Int)) (x y : List Int) : Int := dotF p (ledF p x t) y
def turnF (t : List (List Int)) : List (List Int) := (rg t.length).map fun k => t.map fun r => r.getD k.toNat 0
def fw1 (p : Int) (t : List (List Int)) : Nat → List (List Int) → Option (Nat × List Int)
  | _, [] => none
  | k, r :: l => if betF p t r r ≠ 0 then some (k, r) else fw1 p t (k + 1) l
def fw2 (p : Int) (t : List (List Int)) : Nat → List (List Int) → Option (Nat × List Int)
  | _, [] => none
  | k, r :: l => match l.find? (fun o => betF p t r o != 0) with
    | some o => some (k, addF p r o 1)
    | none => fw2 p t (k + 1) l
def fwF (p : Int) (t l : List (List Int)) : Option (Nat × List Int) := match fw1 p t 0 l with
  | some q => some q
  | none => fw2 p t 0 l
/-- what is left behind a square: the others, at right angles to it -/
def restF (p : Int) (t l : List (List Int)) (k : Nat) (r : List Int) : List (List Int) :=
  (l.take k ++ l.drop (k + 1)).map fun o => addF p o r ((0 - betF p t o r * undone p (betF p t r r)) % p)
def sqF (p : Int) (t : List (List Int)) : Nat → List (List Int) → List (List Int) → List Int → List (List Int) × List Int
  | 0, l, f, ns => (f ++ l, ns ++ List.replicate l.length 0)
  | m + 1, l, f, ns => match fwF p t l with
    | none => (f ++ l, ns ++ List.replicate l.length 0)
    | some (k, r) => sqF p t m (restF p t l k r) (f ++ [r]) (ns ++ [betF p t r r])
def squaresF (p : Int) (t : List (List Int)) : List (List Int) × List Int := sqF p t t.length (idF t.length) [] []
def worthsF (p : Int) (t : List (List Int)) : List Int := (squaresF p t).2.filter fun r => r != 0
def signsF (p : Int) (ns : List Int) : Int := ns.foldl (fun s x => s * signF p x) 1
/-- size, rank, sign -/
abbrev Kind := Int × Int × Int
def kindF (p : Int) (t : List (List Int)) : Kind := (t.length, (worthsF p t).length, signsF p (worthsF p t))
def lastF (p s : Int) : Int := if s = 1 then 1 else oddF p
def fullF (p : Int) (k : Kind) : List Int := (if k.2.1 > 0 then List.replicate (k.2.1 - 1).toNat 1 ++ [lastF p k.2.2] else []) ++ List.replicate (k.1 - k.2.1).toNat 0
def diagF (d : List Int) : List (List Int) := (rg d.length).map fun a => (rg d.length).map fun b => if a = b then d.getD a.toNat 0 else 0
def plainF (p : Int) (k : Kind) : List (List Int) := diagF (fullF p k)
/-- side by side -/
def besideF (t u : List (List Int)) : List (List Int) := (t.map fun r => r ++ List.replicate u.length 0) ++ u.map fun r => List.replicate t.length 0 ++ r
def offF (p : Int) (t u : List (List Int)) : Option (List (List Int)) :=
  let a := kindF p t
  let b := kindF p u
  if a.2.1 - b.2.1 < 0 ∨ a.1 - b.1 < a.2.1 - b.2.1 ∨ (a.2.1 - b.2.1 = 0 ∧ a.2.2 * b.2.2 ≠ 1) then none else some (plainF p (a.1 - b.1, a.2.1 - b.2.1, a.2.2 * b.2.2))

/-! ### shapes -/
theorem emod_b {p x : Int} (h : 0 < p) : 0 ≤ x % p ∧ x % p < p := ⟨Int.emod_nonneg _ (by omega), Int.emod_lt_of_pos _ h⟩
theorem addF_row {p c : Int} {n : Nat} {r s : List Int} (hp : 0 < p) (h1 : r.length = n) (h2 : s.length = n) : Row p n (addF p r s c) := by
  refine ⟨by unfold addF; rw [List.length_map, List.length_zip]; omega, fun x hx => ?_⟩
  unfold addF at hx
  obtain ⟨v, _, rfl⟩ := List.mem_map.mp hx
  exact emod_b hp
theorem Row.zero {p : Int} {n : Nat} (hp : 0 < p) : Row p n (List.replicate n 0) := ⟨List.length_replicate, fun x hx => by
  rw [(List.mem_replicate.mp hx).2]
  exact ⟨by decide, hp⟩⟩
theorem mix_go {p : Int} {n : Nat} (hp : 0 < p) : ∀ (l : List (Int × List Int)) (acc : List Int), Row p n acc → (∀ v, v ∈ l → v.2.length = n) → Row p n (l.foldl (fun acc v => addF p acc v.2 v.1) acc)
  | [], _, h, _ => h
  | v :: l, acc, h, hl => mix_go hp l _ (addF_row hp h.1 (hl v List.mem_cons_self)) fun u hu => hl u (List.mem_cons_of_mem _ hu)
theorem mixF_row {p : Int} {n : Nat} {cs : List Int} {rows : List (List Int)} (hp : 0 < p) (h : ∀ r, r ∈ rows → r.length = n) : Row p n (mixF p cs rows n) :=
  mix_go hp _ _ (Row.zero hp) fun v hv => h _ (List.of_mem_zip hv).2
theorem Tab.head {p : Int} {n m : Nat} {t : List (List Int)} (h : Tab p n m t) (hn : 0 < n) : (t.headD []).length = m := by
  cases t with
  | nil =>
    have := h.1
    simp at this
    omega
  | cons r t => exact (h.2 r List.mem_cons_self).1
theorem ledF_row {p : Int} {n m : Nat} {row : List Int} {t : List (List Int)} (hp : 0 < p) (h : Tab p n m t) (hn : 0 < n) : Row p m (ledF p row t) := by
  unfold ledF
  rw [h.head hn]
  exact mixF_row hp fun r hr => (h.2 r hr).1
theorem idF_tab {p : Int} {n : Nat} (hp : 1 < p) : Tab p n n (idF n) := by
  refine ⟨by rw [idF, List.length_map, rg_len], fun r hr => ?_⟩
  obtain ⟨k, _, rfl⟩ := List.mem_map.mp hr
  refine ⟨by rw [unitF, List.length_map, rg_len], fun x hx => ?_⟩
  obtain ⟨a, _, rfl⟩ := List.mem_map.mp hx
  show 0 ≤ (if a = k then (1 : Int) else 0) ∧ (if a = k then (1 : Int) else 0) < p
  split <;> omega
theorem turnF_tab {p : Int} {n : Nat} {t : List (List Int)} (h : Tab p n n t) : Tab p n n (turnF t) := by
  refine ⟨by rw [turnF, List.length_map, rg_len, h.1], fun r hr => ?_⟩
  obtain ⟨k, hk, rfl⟩ := List.mem_map.mp hr
  refine ⟨by rw [List.length_map, h.1], fun x hx => ?_⟩
  obtain ⟨r, hr, rfl⟩ := List.mem_map.mp hx
  have hkb := mem_rg.mp hk
  rw [h.1] at hkb
  have hl : k.toNat < r.length := by rw [(h.2 r hr).1]; omega
  rw [List.getD_eq_getElem?_getD, List.getElem?_eq_getElem hl]
  exact (h.2 r hr).2 _ (List.getElem_mem hl)
end Rk

set_option Elab.async false
set_option linter.all false
set_option autoImplicit false
/-! More shapes. -/
namespace Rk
theorem addF_len {p c : Int} {r s : List Int} : (addF p r s c).length = min r.length s.length := by unfold addF; rw [List.length_map, List.length_zip]
theorem fw1_some {p : Int} {t : List (List Int)} : ∀ {l : List (List Int)} {k i : Nat} {r : List Int}, fw1 p t k l = some (i, r) → k ≤ i ∧ l[i - k]? = some r
  | [], _, _, _, h => by cases h
  | a :: l, k, i, r, h => by
    have h' : (if betF p t a a ≠ 0 then some (k, a) else fw1 p t (k + 1) l) = some (i, r) := h
    split at h'
    · have e := Option.some.inj h'
      have e1 := (Prod.mk.inj e).1
      have e2 := (Prod.mk.inj e).2
      subst e1
      subst e2
      exact ⟨Nat.le_refl _, by rw [Nat.sub_self]; rfl⟩
    · obtain ⟨h1, h2⟩ := fw1_some h'
      refine ⟨by omega, ?_⟩
      rw [show i - k = (i - (k + 1)) + 1 by omega, List.getElem?_cons_succ]
      exact h2
theorem fw2_some {p : Int} {t : List (List Int)} : ∀ {l : List (List Int)} {k i : Nat} {r : List Int}, fw2 p t k l = some (i, r) → k ≤ i ∧ ∃ a o, l[i - k]? = some a ∧ o ∈ l.drop (i - k + 1) ∧ r = addF p a o 1 ∧ betF p t a o ≠ 0
  | [], _, _, _, h => by cases h
  | a :: l, k, i, r, h => by
    have h' : (match l.find? (fun o => betF p t a o != 0) with
      | some o => some (k, addF p a o 1)
      | none => fw2 p t (k + 1) l) = some (i, r) := h
    cases hf : l.find? (fun o => betF p t a o != 0) with
    | some o =>
      rw [hf] at h'
      have e := Option.some.inj h'
      have e1 := (Prod.mk.inj e).1
      have e2 := (Prod.mk.inj e).2
      subst e1
      subst e2
      have hb := List.find?_some hf
      exact ⟨Nat.le_refl _, a, o, by rw [Nat.sub_self]; rfl, by rw [Nat.sub_self]; exact List.mem_of_find?_eq_some hf, rfl, by simpa using hb⟩
    | none =>
      rw [hf] at h'
      obtain ⟨h1, b, o, h2, h3, h4⟩ := fw2_some h'
      refine ⟨by omega, b, o, ?_, ?_, h4⟩
      · rw [show i - k = (i - (k + 1)) + 1 by omega, List.getElem?_cons_succ]
        exact h2
      · rw [show i - k + 1 = (i - (k + 1) + 1) + 1 by omega, List.drop_succ_cons]
        exact h3
theorem fwF_row {p : Int} {t l : List (List Int)} {n k : Nat} {r : List Int} (hp : 0 < p) (hl : ∀ a, a ∈ l → Row p n a) (h : fwF p t l = some (k, r)) : k < l.length ∧ Row p n r := by
  unfold fwF at h
  cases h1 : fw1 p t 0 l with
  | some q =>
    rw [h1] at h
    have e : q = (k, r) := Option.some.inj h
    subst e
    obtain ⟨_, h3⟩ := fw1_some h1
    exact ⟨(List.getElem?_eq_some_iff.mp h3).1, hl r (List.mem_of_getElem? h3)⟩
  | none =>
    rw [h1] at h
    obtain ⟨_, a, o, h3, h4, h5, _⟩ := fw2_some h
    refine ⟨(List.getElem?_eq_some_iff.mp h3).1, ?_⟩
    rw [h5]
    exact addF_row hp (hl a (List.mem_of_getElem? h3)).1 (hl o (List.mem_of_mem_drop h4)).1
theorem restF_rows {p : Int} {t l : List (List Int)} {n k : Nat} {r : List Int} (hp : 0 < p) (hl : ∀ a, a ∈ l → Row p n a) (hr : Row p n r) : ∀ a, a ∈ restF p t l k r → Row p n a := fun a ha => by
  unfold restF at ha
  obtain ⟨o, ho, rfl⟩ := List.mem_map.mp ha
  have hol : o ∈ l := by
    rcases List.mem_append.mp ho with h | h
    · exact List.mem_of_mem_take h
    · exact List.mem_of_mem_drop h
  exact addF_row hp (hl o hol).1 hr.1
theorem restF_len {p : Int} {t l : List (List Int)} {k : Nat} {r : List Int} (hk : k < l.length) : (restF p t l k r).length = l.length - 1 := by
  unfold restF
  rw [List.length_map, List.length_append, List.length_take, List.length_drop]
  omega
theorem fwF_nil {p : Int} {t : List (List Int)} : fwF p t [] = none := rfl
/-- one turn -/
theorem sqF_some {p : Int} {t l f : List (List Int)} {ns : List Int} {k : Nat} {r : List Int} (hk : k < l.length) (h : fwF p t l = some (k, r)) : sqF p t l.length l f ns = sqF p t (restF p t l k r).length (restF p t l k r) (f ++ [r]) (ns ++ [betF p t r r]) := by
  rw [restF_len hk]
  obtain ⟨m, hm⟩ : ∃ m, l.length = m + 1 := ⟨l.length - 1, by omega⟩
  rw [hm]
  show (match fwF p t l with
    | none => (f ++ l, ns ++ List.replicate l.length 0)
    | some (k, r) => sqF p t m (restF p t l k r) (f ++ [r]) (ns ++ [betF p t r r])) = _
  rw [h]
  rfl
theorem sqF_none {p : Int} {t l f : List (List Int)} {ns : List Int} (h : fwF p t l = none) : sqF p t l.length l f ns = (f ++ l, ns ++ List.replicate l.length 0) := by
  cases hl : l.length with
  | zero =>
    show (f ++ l, ns ++ List.replicate l.length 0) = _
    rw [hl]
  | succ m =>
    show (match fwF p t l with
      | none => (f ++ l, ns ++ List.replicate l.length 0)
      | some (k, r) => sqF p t m (restF p t l k r) (f ++ [r]) (ns ++ [betF p t r r])) = _
    rw [h, hl]
theorem sqF_rests {p : Int} {t : List (List Int)} (hp : 0 < p) : ∀ (m : Nat) (l f : List (List Int)) (ns : List Int), (∀ x, x ∈ ns → 0 ≤ x ∧ x < p) → ∀ x, x ∈ (sqF p t m l f ns).2 → 0 ≤ x ∧ x < p := by
  have z : ∀ (l : List (List Int)) (ns : List Int), (∀ x, x ∈ ns → 0 ≤ x ∧ x < p) → ∀ x, x ∈ ns ++ List.replicate l.length 0 → 0 ≤ x ∧ x < p := fun l ns h x hx => by
    rcases List.mem_append.mp hx with hx | hx
    · exact h x hx
    · rw [(List.mem_replicate.mp hx).2]
      exact ⟨Int.le_refl _, hp⟩
  intro m
  induction m with
  | zero => intro l f ns h x hx; exact z l ns h x hx
  | succ m ih =>
    intro l f ns h x hx
    have hx' : x ∈ (match fwF p t l with
      | none => (f ++ l, ns ++ List.replicate l.length 0)
      | some (k, r) => sqF p t m (restF p t l k r) (f ++ [r]) (ns ++ [betF p t r r])).2 := hx
    cases hf : fwF p t l with
    | none =>
      rw [hf] at hx'
      exact z l ns h x hx'
    | some q =>
      rw [hf] at hx'
      obtain ⟨k, r⟩ := q
      refine ih _ _ _ (fun y hy => ?_) x hx'
      rcases List.mem_append.mp hy with hy | hy
      · exact h y hy
      · rw [List.mem_singleton.mp hy]
        exact emod_b hp
theorem worths_b {p : Int} {t : List (List Int)} (hp : 0 < p) : ∀ x, x ∈ worthsF p t → 0 ≤ x ∧ x < p := fun x hx => sqF_rests hp _ _ _ _ (fun y hy => by cases hy) x (List.mem_filter.mp hx).1
theorem sqF_len {p : Int} {t : List (List Int)} {n : Nat} (hp : 0 < p) : ∀ (m : Nat) (l f : List (List Int)) (ns : List Int), (∀ a, a ∈ l → Row p n a) → (sqF p t m l f ns).2.length = ns.length + l.length := by
  intro m
  induction m with
  | zero =>
    intro l f ns _
    show (ns ++ List.replicate l.length 0).length = _
    rw [List.length_append, List.length_replicate]
  | succ m ih =>
    intro l f ns hl
    show (match fwF p t l with
      | none => (f ++ l, ns ++ List.replicate l.length 0)
      | some (k, r) => sqF p t m (restF p t l k r) (f ++ [r]) (ns ++ [betF p t r r])).2.length = _
    cases hf : fwF p t l with
    | none =>
      show (ns ++ List.replicate l.length 0).length = _
      rw [List.length_append, List.length_replicate]
    | some q =>
      obtain ⟨k, r⟩ := q
      obtain ⟨hk, hr⟩ := fwF_row hp hl hf
      show (sqF p t m (restF p t l k r) (f ++ [r]) (ns ++ [betF p t r r])).2.length = _
      rw [ih _ _ _ (restF_rows hp hl hr), restF_len hk, List.length_append, List.length_singleton]
      omega
theorem squares_len {p : Int} {t : List (List Int)} (hp : 1 < p) : (squaresF p t).2.length = t.length := by
  unfold squaresF
  rw [sqF_len (n := t.length) (by omega) _ _ _ _ (idF_tab hp).2, (idF_tab hp).1]
  simp
theorem rank_le {p : Int} {t : List (List Int)} (hp : 1 < p) : (worthsF p t).length ≤ t.length := by
  have := List.length_filter_le (fun r : Int => r != 0) (squaresF p t).2
  rw [squares_len hp] at this
  exact this
theorem signF_b {p r : Int} : signF p r = 0 ∨ signF p r = 1 ∨ signF p r = -1 := by
  unfold signF
  split
  · exact .inl rfl
  · split
    · exact .inr (.inl rfl)
    · exact .inr (.inr rfl)
theorem sgn_mul {a b : Int} (ha : a = 0 ∨ a = 1 ∨ a = -1) (hb : b = 0 ∨ b = 1 ∨ b = -1) : a * b = 0 ∨ a * b = 1 ∨ a * b = -1 := by
  rcases ha with rfl | rfl | rfl <;> rcases hb with rfl | rfl | rfl <;> decide
theorem fold_b {p : Int} : ∀ (ns : List Int) (a : Int), (a = 0 ∨ a = 1 ∨ a = -1) → (ns.foldl (fun s x => s * signF p x) a = 0 ∨ ns.foldl (fun s x => s * signF p x) a = 1 ∨ ns.foldl (fun s x => s * signF p x) a = -1)
  | [], a, h => h
  | x :: ns, a, h => fold_b ns _ (sgn_mul h signF_b)
theorem signs_b {p : Int} {ns : List Int} : signsF p ns = 0 ∨ signsF p ns = 1 ∨ signsF p ns = -1 := fold_b ns 1 (.inr (.inl rfl))
end Rk

set_option Elab.async false
set_option linter.all false
set_option autoImplicit false
/-! The law's own functions: drawing, its own sign. -/
namespace Rk
/-- the pot: what is left of the cell, the mixed number -/
abbrev Pot := Int × Int
def potF (ns : List Int) : Pot :=
  let c := match ns with
    | [] => 487
    | x :: _ => if x < 0 then -x else x
  (if c - 1000000000000000000 > 0 then c - 1000000000000000000 else 0, (c % 2147483549 * 40692 + 541) % 2147483563 + 1)
def drawF (q : Pot) (m : Int) : Int × Pot :=
  if q.1 > 0 then (q.1 % m, (q.1 / m, q.2)) else
    let c := (q.2 * 39373 + 541) % 2147483587
    ((c * c % 2147483563 / 17) % m, (q.1, c))
/-- the mixed number stays small -/
def pOk (q : Pot) : Prop := 0 ≤ q.2 ∧ q.2 ≤ 2147483600
theorem pot_ok {ns : List Int} : pOk (potF ns) := by
  unfold potF pOk
  cases ns with
  | nil =>
    constructor
    · show (0 : Int) ≤ (487 % 2147483549 * 40692 + 541) % 2147483563 + 1
      decide
    · show ((487 : Int) % 2147483549 * 40692 + 541) % 2147483563 + 1 ≤ 2147483600
      decide
  | cons x ns =>
    show 0 ≤ ((if x < 0 then -x else x) % 2147483549 * 40692 + 541) % 2147483563 + 1 ∧ ((if x < 0 then -x else x) % 2147483549 * 40692 + 541) % 2147483563 + 1 ≤ 2147483600
    omega
theorem draw_ok {q : Pot} {m : Int} (h : pOk q) : pOk (drawF q m).2 := by
  unfold drawF
  by_cases k : q.1 > 0
  · rw [if_pos k]
    exact h
  · rw [if_neg k]
    show 0 ≤ (q.2 * 39373 + 541) % 2147483587 ∧ (q.2 * 39373 + 541) % 2147483587 ≤ 2147483600
    omega
theorem draw_b {q : Pot} {m : Int} (h : 0 < m) : 0 ≤ (drawF q m).1 ∧ (drawF q m).1 < m := by
  unfold drawF
  by_cases k : q.1 > 0
  · rw [if_pos k]
    exact emod_b h
  · rw [if_neg k]
    exact emod_b h
/-- the law's sign -/
def lroots (p r : Int) : List Int := ((rg (p - 1).toNat).map fun a => 1 + a).filter fun a => (a * a - r) % p == 0
theorem lsign {p r : Int} (hp : Pr p) (h : 0 ≤ r ∧ r < p) : (if r % p = 0 then (0 : Int) else if (lroots p r).isEmpty = false then 1 else -1) = signF p r := by
  have key : ∀ p : Int, Pr p → ∀ r ∈ rg p.toNat, (if r % p = 0 then (0 : Int) else if (lroots p r).isEmpty = false then 1 else -1) = signF p r := by
    rintro p (rfl | rfl | rfl | rfl | rfl) <;> decide +kernel
  exact key p hp r (mem_rg.mpr (by omega))
end Rk

set_option Elab.async false
set_option linter.all false
set_option autoImplicit false
/-! The law's determinant, as it is computed. -/
namespace Rk
def gr (rows : List (List Int)) (i : Nat) : List Int := rows.getD i []
def ge (rows : List (List Int)) (i j : Nat) : Int := (gr rows i).getD j 0
def bkF (p x : Int) : Int := ((rg p.toNat).filter fun n => n * x % p == 1).headD 0
theorem bk_get {p x : Int} (hp : Pr p) (h : 0 < x ∧ x < p) : ((rg p.toNat).filter fun n => n * x % p == 1)[0]? = some (bkF p x) ∧ 0 ≤ bkF p x ∧ bkF p x < p ∧ bkF p x * x % p = 1 := by
  have key : ∀ p : Int, Pr p → ∀ x ∈ rg p.toNat, 0 < x → ((rg p.toNat).filter fun n => n * x % p == 1)[0]? = some (bkF p x) ∧ 0 ≤ bkF p x ∧ bkF p x < p ∧ bkF p x * x % p = 1 := by
    rintro p (rfl | rfl | rfl | rfl | rfl) <;> decide +kernel
  exact key p hp x (mem_rg.mpr (by omega)) h.1
/-- row - often * other -/
def combF (p : Int) (piv : List Int) (k : Nat) (back : Int) (r : List Int) : List Int := (r.zip piv).map fun v => (v.1 - (r.getD k 0 * back % p) * v.2) % p
/-- the places below k that are not 0 in column k -/
def spotsF (p : Int) (rows : List (List Int)) (k : Nat) : List Nat := ((List.range (rows.length - k)).map fun i => k + i).filter fun s => ge rows s k % p != 0
def swapF (rows : List (List Int)) (k s : Nat) : List (List Int) := (rows.set k (gr rows s)).set s (gr rows k)
def elimF (p : Int) (rows : List (List Int)) (k : Nat) : List (List Int) := rows.take (k + 1) ++ (rows.drop (k + 1)).map (combF p (gr rows k) k (bkF p (ge rows k k)))
/-- one column: none where the law answers 0 -/
def stepF (p : Int) (k : Nat) (q : List (List Int) × Int) : Option (List (List Int) × Int) := match spotsF p q.1 k with
  | [] => none
  | s :: _ =>
    let rows := if s = k then q.1 else swapF q.1 k s
    let f := if s = k then q.2 else 0 - q.2
    some (elimF p rows k, f * ge rows k k % p)
def stN (p : Int) (t : List (List Int)) : Nat → Option (List (List Int) × Int)
  | 0 => some (t, 1)
  | i + 1 => (stN p t i).bind (stepF p i)
def ldetF (p : Int) (t : List (List Int)) : Int := match stN p t t.length with
  | none => 0
  | some q => q.2 % p
theorem stN_none {p : Int} {t : List (List Int)} {i : Nat} (h : stN p t i = none) : ∀ j, stN p t (i + j) = none
  | 0 => h
  | j + 1 => by
    show (stN p t (i + j)).bind (stepF p (i + j)) = none
    rw [stN_none h j]
    rfl
/-- rows of rests of length m -/
def Mat (p : Int) (n m : Nat) (rows : List (List Int)) : Prop := rows.length = n ∧ ∀ r, r ∈ rows → Row p m r
theorem Mat.get {p : Int} {n m : Nat} {rows : List (List Int)} (h : Mat p n m rows) {i : Nat} (hi : i < n) : rows[i]? = some (gr rows i) ∧ Row p m (gr rows i) := by
  have hl : i < rows.length := by rw [h.1]; exact hi
  have e : gr rows i = rows[i] := by
    unfold gr
    rw [List.getD_eq_getElem?_getD, List.getElem?_eq_getElem hl]
    rfl
  rw [e]
  exact ⟨List.getElem?_eq_getElem hl, h.2 _ (List.getElem_mem hl)⟩
theorem Row.get {p : Int} {m : Nat} {r : List Int} (h : Row p m r) {j : Nat} (hj : j < m) : r[j]? = some (r.getD j 0) ∧ 0 ≤ r.getD j 0 ∧ r.getD j 0 < p := by
  have hl : j < r.length := by rw [h.1]; exact hj
  have e : r.getD j 0 = r[j] := by
    rw [List.getD_eq_getElem?_getD, List.getElem?_eq_getElem hl]
    rfl
  rw [e]
  exact ⟨List.getElem?_eq_getElem hl, (h.2 _ (List.getElem_mem hl)).1, (h.2 _ (List.getElem_mem hl)).2⟩
theorem combF_row {p b : Int} {m k : Nat} {r piv : List Int} (hp : 0 < p) (h1 : r.length = m) (h2 : piv.length = m) : Row p m (combF p piv k b r) := by
  refine ⟨by unfold combF; rw [List.length_map, List.length_zip]; omega, fun x hx => ?_⟩
  unfold combF at hx
  obtain ⟨v, _, rfl⟩ := List.mem_map.mp hx
  exact emod_b hp
theorem swapF_mat {p : Int} {n m k s : Nat} {rows : List (List Int)} (h : Mat p n m rows) (hk : k < n) (hs : s < n) : Mat p n m (swapF rows k s) := by
  refine ⟨by unfold swapF; rw [List.length_set, List.length_set]; exact h.1, fun r hr => ?_⟩
  unfold swapF at hr
  rcases List.mem_or_eq_of_mem_set hr with hr | hr
  · rcases List.mem_or_eq_of_mem_set hr with hr | hr
    · exact h.2 r hr
    · rw [hr]
      exact (h.get hs).2
  · rw [hr]
    exact (h.get hk).2
theorem elimF_mat {p : Int} {n m k : Nat} {rows : List (List Int)} (hp : 0 < p) (h : Mat p n m rows) (hk : k < n) : Mat p n m (elimF p rows k) := by
  refine ⟨by unfold elimF; rw [List.length_append, List.length_map, List.length_take, List.length_drop, h.1]; omega, fun r hr => ?_⟩
  unfold elimF at hr
  rcases List.mem_append.mp hr with hr | hr
  · exact h.2 r (List.mem_of_mem_take hr)
  · obtain ⟨r0, h0, rfl⟩ := List.mem_map.mp hr
    exact combF_row hp (h.2 r0 (List.mem_of_mem_drop h0)).1 (h.get hk).2.1
theorem spots_mem {p : Int} {rows : List (List Int)} {k s : Nat} (h : s ∈ spotsF p rows k) : k ≤ s ∧ s < rows.length ∧ ge rows s k % p ≠ 0 := by
  unfold spotsF at h
  obtain ⟨h1, h2⟩ := List.mem_filter.mp h
  obtain ⟨i, h3, rfl⟩ := List.mem_map.mp h1
  have := List.mem_range.mp h3
  exact ⟨by omega, by omega, by simpa using h2⟩
theorem stepF_mat {p : Int} {n m k : Nat} {q q' : List (List Int) × Int} (hp : 0 < p) (h : Mat p n m q.1) (hk : k < n) (hs : stepF p k q = some q') : Mat p n m q'.1 ∧ 0 ≤ q'.2 ∧ q'.2 < p := by
  unfold stepF at hs
  cases hsp : spotsF p q.1 k with
  | nil =>
    rw [hsp] at hs
    cases hs
  | cons s l =>
    rw [hsp] at hs
    have e := (Option.some.inj hs).symm
    subst e
    have hb := spots_mem (p := p) (rows := q.1) (k := k) (s := s) (by rw [hsp]; exact List.mem_cons_self)
    have hm : Mat p n m (if s = k then q.1 else swapF q.1 k s) := by
      split
      · exact h
      · exact swapF_mat h hk (by rw [← h.1]; exact hb.2.1)
    exact ⟨elimF_mat hp hm hk, emod_b hp⟩
theorem stN_mat {p : Int} {n m : Nat} {t : List (List Int)} (hp : 1 < p) (h : Mat p n m t) : ∀ (i : Nat) (q : List (List Int) × Int), i ≤ n → stN p t i = some q → Mat p n m q.1 ∧ 0 ≤ q.2 ∧ q.2 < p
  | 0, q, _, e => by
    have e2 : (t, 1) = q := Option.some.inj e
    subst e2
    exact ⟨h, by show (0 : Int) ≤ 1; decide, hp⟩
  | i + 1, q, hi, e => by
    have e' : (stN p t i).bind (stepF p i) = some q := e
    cases hq : stN p t i with
    | none =>
      rw [hq] at e'
      cases e'
    | some q0 =>
      rw [hq] at e'
      exact stepF_mat (by omega) (stN_mat hp h i q0 (by omega) hq).1 (by omega) e'
end Rk

set_option Elab.async false
set_option linter.all false
set_option autoImplicit false
/-! The inner loop of the determinant. -/
namespace Rk
/-- m rows below k are done -/
def elimN (p : Int) (rows : List (List Int)) (k m : Nat) : List (List Int) := rows.take (k + 1) ++ (((rows.drop (k + 1)).take m).map (combF p (gr rows k) k (bkF p (ge rows k k))) ++ (rows.drop (k + 1)).drop m)
theorem elimN_zero {p : Int} {rows : List (List Int)} {k : Nat} : elimN p rows k 0 = rows := by
  unfold elimN
  simp
theorem elimN_all {p : Int} {rows : List (List Int)} {k m : Nat} (h : m = rows.length - (k + 1)) : elimN p rows k m = elimF p rows k := by
  unfold elimN elimF
  rw [List.take_of_length_le (l := rows.drop (k + 1)) (by rw [List.length_drop]; omega), List.drop_of_length_le (l := rows.drop (k + 1)) (by rw [List.length_drop]; omega), List.append_nil]
theorem elimN_get {p : Int} {rows : List (List Int)} {n c k m : Nat} (hm : Mat p n c rows) (hk : k + 1 + m < n) : (elimN p rows k m)[k + 1 + m]? = some (gr rows (k + 1 + m)) ∧ elimN p rows k (m + 1) = (elimN p rows k m).set (k + 1 + m) (combF p (gr rows k) k (bkF p (ge rows k k)) (gr rows (k + 1 + m))) ∧ (elimN p rows k m)[k]? = some (gr rows k) := by
  have hl := hm.1
  have g1 := (hm.get hk).1
  have hlen1 : (rows.take (k + 1)).length = k + 1 := by rw [List.length_take]; omega
  have hlen2 : (((rows.drop (k + 1)).take m).map (combF p (gr rows k) k (bkF p (ge rows k k)))).length = m := by rw [List.length_map, List.length_take, List.length_drop]; omega
  have hd : (rows.drop (k + 1)).drop m = gr rows (k + 1 + m) :: (rows.drop (k + 1)).drop (m + 1) := by
    rw [List.drop_drop, List.drop_drop]
    obtain ⟨h1, h2⟩ := List.getElem?_eq_some_iff.mp g1
    rw [List.drop_eq_getElem_cons h1, h2]
    rfl
  have ht : (rows.drop (k + 1)).take (m + 1) = (rows.drop (k + 1)).take m ++ [gr rows (k + 1 + m)] := by
    rw [List.take_add_one, List.getElem?_drop, g1]
    rfl
  refine ⟨?_, ?_, ?_⟩
  · unfold elimN
    rw [List.getElem?_append_right (by omega), hlen1, List.getElem?_append_right (by omega), hlen2, show k + 1 + m - (k + 1) - m = 0 by omega, hd]
    rfl
  · unfold elimN
    rw [List.set_append_right _ _ (by omega), hlen1, List.set_append_right _ _ (by omega), hlen2, show k + 1 + m - (k + 1) - m = 0 by omega, hd, ht, List.map_append, List.append_assoc]
    rfl
  · unfold elimN
    rw [List.getElem?_append_left (by omega), List.getElem?_take]
    rw [if_pos (by omega)]
    exact (hm.get (by omega)).1
theorem elimN_mat {p : Int} {rows : List (List Int)} {n c k m : Nat} (hp : 0 < p) (hm : Mat p n c rows) (hk : k < n) : Mat p n c (elimN p rows k m) := by
  refine ⟨?_, fun r hr => ?_⟩
  · unfold elimN
    have := hm.1
    simp only [List.length_append, List.length_map, List.length_take, List.length_drop]
    omega
  · unfold elimN at hr
    rcases List.mem_append.mp hr with hr | hr
    · exact hm.2 r (List.mem_of_mem_take hr)
    · rcases List.mem_append.mp hr with hr | hr
      · obtain ⟨r0, h0, rfl⟩ := List.mem_map.mp hr
        exact combF_row hp (hm.2 r0 (List.mem_of_mem_drop (List.mem_of_mem_take h0))).1 (hm.get hk).2.1
      · exact hm.2 r (List.mem_of_mem_drop (List.mem_of_mem_drop hr))
end Rk

set_option Elab.async false
set_option linter.all false
set_option autoImplicit false
/-! The law's lots, its kind. -/
namespace Rk
/-- the places behind a lot's last one -/
def nextF (n : Nat) (lot : List Int) : List Int :=
  let lo : Int := match lot.getLast? with
    | none => 0
    | some x => x + 1
  (List.range ((n : Int) - lo).toNat).map fun (i : Nat) => lo + (i : Int)
def lotsF (n : Nat) : Nat → List (List Int)
  | 0 => [[]]
  | k + 1 => (lotsF n k).flatMap fun lot => (nextF n lot).map fun a => lot ++ [a]
theorem lots_ok {n m : Nat} (hn : n ≤ 6) (hm : m ≤ 6) : (lotsF n m).length ≤ 20 ∧ ∀ lot, lot ∈ lotsF n m → lot.length = m ∧ ∀ x, x ∈ lot → 0 ≤ x ∧ x < n := by
  have key : ((List.range 7).all fun n => (List.range 7).all fun m => decide ((lotsF n m).length ≤ 20) && (lotsF n m).all fun lot => decide (lot.length = m) && lot.all fun x => decide (0 ≤ x) && decide (x < n)) = true := by decide +kernel
  have h1 := List.all_eq_true.mp (List.all_eq_true.mp key n (List.mem_range.mpr (by omega))) m (List.mem_range.mpr (by omega))
  rw [Bool.and_eq_true, decide_eq_true_iff] at h1
  refine ⟨h1.1, fun lot hl => ?_⟩
  have h2 := List.all_eq_true.mp h1.2 lot hl
  rw [Bool.and_eq_true, decide_eq_true_iff] at h2
  refine ⟨h2.1, fun x hx => ?_⟩
  have h3 := List.all_eq_true.mp h2.2 x hx
  rw [Bool.and_eq_true, decide_eq_true_iff, decide_eq_true_iff] at h3
  exact h3
/-- the minor -/
def minorF (t : List (List Int)) (lot : List Int) : List (List Int) := lot.map fun a => lot.map fun b => ge t a.toNat b.toNat
def lkF (p : Int) (t : List (List Int)) : Nat → Int × Int
  | 0 => (0, 1)
  | m + 1 => match (lotsF t.length (m + 1)).find? (fun lot => ldetF p (minorF t lot) != 0) with
    | some lot => ((m + 1 : Nat), signF p (ldetF p (minorF t lot)))
    | none => lkF p t m
/-- rank and sign, as the law tells them -/
def lkindF (p : Int) (t : List (List Int)) : Int × Int := lkF p t t.length
end Rk

set_option Elab.async false
set_option linter.all false
set_option autoImplicit false
/-! Determinants of whole numbers: expansion along the first column; rows; products. -/
namespace Dt
abbrev M := Nat → Nat → Int
/-- the sum of f 0 .. f (n - 1) -/
def su : Nat → (Nat → Int) → Int
  | 0, _ => 0
  | n + 1, f => su n f + f n
theorem su_congr {f g : Nat → Int} : ∀ {n : Nat}, (∀ i, i < n → f i = g i) → su n f = su n g
  | 0, _ => rfl
  | n + 1, h => by
    show su n f + f n = su n g + g n
    rw [su_congr fun i hi => h i (by omega), h n (by omega)]
theorem su_add {f g : Nat → Int} : ∀ {n : Nat}, su n (fun i => f i + g i) = su n f + su n g
  | 0 => rfl
  | n + 1 => by
    show su n (fun i => f i + g i) + (f n + g n) = (su n f + f n) + (su n g + g n)
    rw [su_add]
    omega
theorem su_mul {f : Nat → Int} {c : Int} : ∀ {n : Nat}, su n (fun i => c * f i) = c * su n f
  | 0 => (Int.mul_zero c).symm
  | n + 1 => by
    show su n (fun i => c * f i) + c * f n = c * (su n f + f n)
    rw [su_mul, Int.mul_add]
theorem su_mulr {f : Nat → Int} {c : Int} {n : Nat} : su n (fun i => f i * c) = su n f * c := by
  rw [show (fun i => f i * c) = fun i => c * f i from funext fun i => Int.mul_comm _ _, su_mul, Int.mul_comm]
theorem su_zero {f : Nat → Int} {n : Nat} (h : ∀ i, i < n → f i = 0) : su n f = 0 := by
  induction n with
  | zero => rfl
  | succ n ih =>
    show su n f + f n = 0
    rw [ih fun i hi => h i (by omega), h n (by omega)]
    rfl
theorem su_comm {f : Nat → Nat → Int} {m : Nat} : ∀ {n : Nat}, su n (fun i => su m (f i)) = su m fun j => su n fun i => f i j
  | 0 => by
    show 0 = su m fun _ => 0
    rw [su_zero fun _ _ => rfl]
  | n + 1 => by
    show su n (fun i => su m (f i)) + su m (f n) = su m fun j => su n (fun i => f i j) + f n j
    rw [su_add, su_comm]
/-- the first one taken off -/
theorem su_first {f : Nat → Int} : ∀ {n : Nat}, su (n + 1) f = f 0 + su n fun i => f (i + 1)
  | 0 => by
    show 0 + f 0 = f 0 + 0
    omega
  | n + 1 => by
    show su (n + 1) f + f (n + 1) = f 0 + (su n (fun i => f (i + 1)) + f (n + 1))
    rw [su_first]
    omega
/-- one alone -/
theorem su_one {f : Nat → Int} {k : Nat} : ∀ {n : Nat}, k < n → (∀ i, i < n → i ≠ k → f i = 0) → su n f = f k
  | 0, h, _ => by omega
  | n + 1, h, z => by
    show su n f + f n = f k
    by_cases e : k = n
    · subst e
      rw [su_zero fun i hi => z i (by omega) (by omega)]
      omega
    · rw [su_one (k := k) (by omega) fun i hi => z i (by omega), z n (by omega) (by omega)]
      omega
/-- two that are neighbours alone -/
theorem su_two {f : Nat → Int} {k : Nat} : ∀ {n : Nat}, k + 1 < n → (∀ i, i < n → i ≠ k → i ≠ k + 1 → f i = 0) → su n f = f k + f (k + 1)
  | 0, h, _ => by omega
  | n + 1, h, z => by
    show su n f + f n = f k + f (k + 1)
    by_cases e : k + 1 = n
    · subst e
      rw [su_one (k := k) (by omega) fun i hi hk => z i (by omega) hk (by omega)]
    · rw [su_two (k := k) (by omega) fun i hi => z i (by omega), z n (by omega) (by omega) (by omega)]
      omega
/-! ### places left out, signs -/
def sk (i a : Nat) : Nat := if a < i then a else a + 1
def sg (i : Nat) : Int := if i % 2 = 0 then 1 else -1
theorem sg_succ {i : Nat} : sg (i + 1) = - sg i := by
  unfold sg
  by_cases h : i % 2 = 0
  · rw [if_pos h, if_neg (by omega)]
  · rw [if_neg h, if_pos (by omega)]
    rfl
theorem sg_mul {i : Nat} : sg i * sg i = 1 := by
  unfold sg
  split <;> rfl
theorem sk_lt {i a n : Nat} (h : a < n) : sk i a < n + 1 := by unfold sk; split <;> omega
theorem sk_ne {i a : Nat} : sk i a ≠ i := by unfold sk; split <;> omega
/-- the determinant, along the first column -/
def det : Nat → M → Int
  | 0, _ => 1
  | n + 1, A => su (n + 1) fun i => sg i * A i 0 * det n fun a b => A (sk i a) (b + 1)
theorem det_congr : ∀ {n : Nat} {A B : M}, (∀ i j, i < n → j < n → A i j = B i j) → det n A = det n B
  | 0, _, _, _ => rfl
  | n + 1, A, B, h => su_congr fun i hi => by
    rw [h i 0 hi (by omega), det_congr fun a b ha hb => h _ _ (sk_lt ha) (by omega)]
/-! ### rows -/
def setr (A : M) (k : Nat) (u : Nat → Int) : M := fun i j => if i = k then u j else A i j
theorem sk_set_ne {A : M} {i k : Nat} {u : Nat → Int} : i ≠ k → (fun a b => setr A k u (sk i a) (b + 1)) = setr (fun a b => A (sk i a) (b + 1)) (if k < i then k else k - 1) fun b => u (b + 1) := fun h => by
  funext a b
  unfold setr sk
  by_cases h1 : a < i <;> by_cases h2 : k < i <;> simp only [h1, h2, if_true, if_false]
  all_goals
    split <;> split <;> first | rfl | omega
theorem sk_set_eq {A : M} {k : Nat} {u : Nat → Int} : (fun a b => setr A k u (sk k a) (b + 1)) = fun a b => A (sk k a) (b + 1) := by
  funext a b
  unfold setr
  rw [if_neg sk_ne]
theorem det_lin : ∀ {n : Nat} {A : M} {k : Nat} {u v : Nat → Int} {c : Int}, k < n → det n (setr A k fun j => c * u j + v j) = c * det n (setr A k u) + det n (setr A k v)
  | 0, _, _, _, _, _, h => by omega
  | n + 1, A, k, u, v, c, h => by
    show su (n + 1) _ = c * su (n + 1) _ + su (n + 1) _
    rw [← su_mul, ← su_add]
    refine su_congr fun i hi => ?_
    by_cases e : i = k
    · subst e
      rw [sk_set_eq, sk_set_eq, sk_set_eq]
      simp only [setr, if_true]
      grind
    · rw [sk_set_ne e, sk_set_ne e, sk_set_ne e, det_lin (by split <;> omega)]
      simp only [setr, if_neg e]
      grind
theorem det_alt : ∀ {n : Nat} {A : M} {k : Nat}, k + 1 < n → (∀ j, j < n → A k j = A (k + 1) j) → det n A = 0
  | 0, _, _, h, _ => by omega
  | n + 1, A, k, h, e => by
    show su (n + 1) _ = 0
    rw [su_two (k := k) h fun i hi h1 h2 => ?_]
    · rw [show det n (fun a b => A (sk (k + 1) a) (b + 1)) = det n (fun a b => A (sk k a) (b + 1)) from det_congr fun a b ha hb => ?_, sg_succ, ← e 0 (by omega)]
      · grind
      · unfold sk
        by_cases h1 : a < k
        · rw [if_pos h1, if_pos (by omega)]
        · by_cases h2 : a = k
          · subst h2
            rw [if_pos (by omega), if_neg (by omega), e _ (by omega)]
          · rw [if_neg h1, if_neg (by omega)]
    · rw [det_alt (k := if k < i then k else k - 1) (by split <;> omega) fun j hj => ?_, Int.mul_zero]
      unfold sk
      by_cases h3 : k < i
      · rw [if_pos h3, if_pos h3, if_pos (by omega)]
        exact e _ (by omega)
      · rw [if_neg h3, if_neg (by omega), if_neg (by omega), show k - 1 + 1 = k by omega]
        exact e _ (by omega)
/-! ### functions of rows: linear in each, 0 where two neighbours are alike -/
structure AM (n : Nat) (f : M → Int) : Prop where
  ext : ∀ {A B : M}, (∀ i j, i < n → j < n → A i j = B i j) → f A = f B
  lin : ∀ {A : M} {k : Nat} {u v : Nat → Int} {c : Int}, k < n → f (setr A k fun j => c * u j + v j) = c * f (setr A k u) + f (setr A k v)
  alt : ∀ {A : M} {k : Nat}, k + 1 < n → (∀ j, j < n → A k j = A (k + 1) j) → f A = 0
theorem am_det {n : Nat} : AM n (det n) := ⟨det_congr, det_lin, det_alt⟩
theorem setr_same {A : M} {k : Nat} : setr A k (A k) = A := by
  funext i j
  unfold setr
  split
  · rename_i h
    rw [h]
  · rfl
theorem setr_set {A : M} {k : Nat} {u v : Nat → Int} : setr (setr A k u) k v = setr A k v := by
  funext i j
  unfold setr
  split <;> rfl
theorem setr_comm {A : M} {k l : Nat} {u v : Nat → Int} (h : k ≠ l) : setr (setr A k u) l v = setr (setr A l v) k u := by
  funext i j
  unfold setr
  split
  · split
    · omega
    · rfl
  · rfl
section
variable {n : Nat} {f : M → Int} (F : AM n f)
include F
theorem AM.add {A : M} {k : Nat} {u v : Nat → Int} (h : k < n) : f (setr A k fun j => u j + v j) = f (setr A k u) + f (setr A k v) := by
  have := F.lin (A := A) (u := u) (v := v) (c := 1) h
  rw [Int.one_mul] at this
  rw [← this]
  congr 1
  congr 1
  funext j
  omega
theorem AM.zero {A : M} {k : Nat} (h : k < n) (z : ∀ j, j < n → A k j = 0) : f A = 0 := by
  have h1 : f A = f (setr A k fun j => 0 + 0) := F.ext fun i j hi hj => by
    unfold setr
    split
    · rename_i e
      rw [e, z j hj]
      rfl
    · rfl
  have h2 := F.add (A := A) (u := fun _ => 0) (v := fun _ => 0) h
  rw [h1, h2]
  have h3 : f (setr A k fun j => 0 + 0) = f (setr A k fun j => 0) := rfl
  rw [h3] at h2
  omega
/-- two neighbours exchanged -/
theorem AM.swp {A : M} {k : Nat} (h : k + 1 < n) : f (setr (setr A k (A (k + 1))) (k + 1) (A k)) = - f A := by
  have z := F.alt (A := setr (setr A k fun j => A k j + A (k + 1) j) (k + 1) fun j => A k j + A (k + 1) j) h fun j hj => by
    unfold setr
    rw [if_neg (by omega), if_pos rfl, if_pos rfl]
  rw [F.add h, setr_comm (by omega), F.add (by omega), setr_comm (k := k) (l := k + 1) (by omega), F.add (by omega)] at z
  have z1 : f (setr (setr A (k + 1) (A k)) k (A k)) = 0 := F.alt h fun j hj => by
    unfold setr
    rw [if_pos rfl, if_neg (by omega), if_pos rfl]
  have z2 : f (setr (setr A (k + 1) (A (k + 1))) k (A (k + 1))) = 0 := F.alt h fun j hj => by
    unfold setr
    rw [if_pos rfl, if_neg (by omega), if_pos rfl]
  have e3 : setr (setr A (k + 1) (A (k + 1))) k (A k) = A := by rw [setr_same, setr_same]
  rw [e3, z1, z2] at z
  rw [setr_comm (by omega)]
  omega
end
end Dt

set_option Elab.async false
set_option linter.all false
set_option autoImplicit false
namespace Dt
section
variable {n : Nat} {f : M → Int} (F : AM n f)
include F
theorem AM.alt2 {k : Nat} : ∀ {d : Nat} {A : M}, k + d + 1 < n → (∀ j, j < n → A k j = A (k + d + 1) j) → f A = 0
  | 0, A, h, e => F.alt h e
  | d + 1, A, h, e => by
    have z := F.swp (A := A) (k := k + d + 1) (by omega)
    rw [AM.alt2 (k := k) (d := d) (by omega) fun j hj => ?_] at z
    · omega
    · have := e j hj
      grind [setr]
theorem AM.alt3 {A : M} {k l : Nat} (hk : k < n) (hl : l < n) (hkl : k ≠ l) (e : ∀ j, j < n → A k j = A l j) : f A = 0 := by
  by_cases h : k < l
  · exact F.alt2 (k := k) (d := l - k - 1) (by omega) (by rw [show k + (l - k - 1) + 1 = l by omega]; exact e)
  · exact F.alt2 (k := l) (d := k - l - 1) (by omega) (by rw [show l + (k - l - 1) + 1 = k by omega]; exact fun j hj => (e j hj).symm)
/-- a multiple of another row added -/
theorem AM.addm {A : M} {k l : Nat} {c : Int} (hk : k < n) (hl : l < n) (hkl : k ≠ l) : f (setr A k fun j => A k j + c * A l j) = f A := by
  have h1 := F.lin (A := A) (u := A l) (v := A k) (c := c) hk
  rw [F.alt3 (A := setr A k (A l)) hk hl hkl fun j hj => by
    unfold setr
    rw [if_pos rfl, if_neg (by omega)], setr_same] at h1
  rw [show (fun j => A k j + c * A l j) = fun j => c * A l j + A k j from funext fun j => Int.add_comm _ _, h1]
  omega
/-- two rows exchanged -/
theorem AM.swp2 {A : M} {k l : Nat} (hk : k < n) (hl : l < n) (hkl : k ≠ l) : f (setr (setr A k (A l)) l (A k)) = - f A := by
  have z := F.alt3 (A := setr (setr A k fun j => A k j + A l j) l fun j => A k j + A l j) hk hl hkl fun j hj => by
    unfold setr
    rw [if_neg (by omega), if_pos rfl, if_pos rfl]
  rw [F.add hl, setr_comm (by omega), F.add (by omega), setr_comm (k := k) (l := l) (by omega), F.add (by omega)] at z
  have z1 : f (setr (setr A l (A k)) k (A k)) = 0 := F.alt3 hk hl hkl fun j hj => by
    unfold setr
    rw [if_pos rfl, if_neg (by omega), if_pos rfl]
  have z2 : f (setr (setr A l (A l)) k (A l)) = 0 := F.alt3 hk hl hkl fun j hj => by
    unfold setr
    rw [if_pos rfl, if_neg (by omega), if_pos rfl]
  have e3 : setr (setr A l (A l)) k (A k) = A := by rw [setr_same, setr_same]
  rw [e3, z1, z2] at z
  rw [setr_comm (by omega)]
  omega
end
def eu (j : Nat) : Nat → Int := fun b => if b = j then 1 else 0
theorem sk_sk {i a : Nat} : sk (i + 1) (a + 1) = sk i a + 1 := by unfold sk; split <;> split <;> omega
theorem sk_zero {a : Nat} : sk 0 a = a + 1 := by unfold sk; rw [if_neg (by omega)]
theorem sk_pos {i : Nat} : sk (i + 1) 0 = 0 := by unfold sk; rw [if_pos (by omega)]
/-- the first row is a unit -/
theorem det_unit : ∀ {n : Nat} {A : M} {j : Nat}, j < n + 1 → (∀ b, b < n + 1 → A 0 b = eu j b) → det (n + 1) A = sg j * det n fun a b => A (a + 1) (sk j b)
  | n, A, 0, hj, h => by
    show su (n + 1) _ = _
    rw [su_first, su_zero fun i hi => ?_, h 0 (by omega)]
    · simp only [sk_zero, eu, if_true]
      grind
    · cases n with
      | zero => omega
      | succ m =>
        rw [am_det.zero (k := 0) (by omega) fun b hb => ?_, Int.mul_zero]
        rw [sk_pos, h _ (by omega)]
        unfold eu
        rw [if_neg (by omega)]
  | 0, A, j + 1, hj, h => by omega
  | m + 1, A, j + 1, hj, h => by
    show su (m + 2) _ = sg (j + 1) * su (m + 1) _
    rw [su_first, h 0 (by omega), ← su_mul, show eu (j + 1) 0 = 0 by unfold eu; rw [if_neg (by omega)], Int.mul_zero, Int.zero_mul, Int.zero_add]
    refine su_congr fun i hi => ?_
    rw [det_unit (n := m) (j := j) (by omega) fun b hb => ?_]
    · simp only [sk_sk, sk_pos, sg_succ]
      grind
    · rw [sk_pos, h _ (by omega)]
      unfold eu
      split <;> split <;> first | rfl | omega
section
variable {n : Nat} {f : M → Int} (F : AM n f)
include F
theorem AM.mix {A : M} {k : Nat} {c : Nat → Int} {g : Nat → Nat → Int} (h : k < n) : ∀ {m : Nat}, f (setr A k fun b => su m fun j => c j * g j b) = su m fun j => c j * f (setr A k (g j))
  | 0 => F.zero h fun j hj => by
    unfold setr
    rw [if_pos rfl]
    rfl
  | m + 1 => by
    have e : (fun b => su (m + 1) fun j => c j * g j b) = fun b => c m * g m b + su m fun j => c j * g j b := funext fun b => Int.add_comm _ _
    rw [e, F.lin h, AM.mix h]
    exact Int.add_comm _ _
theorem AM.row {A : M} {k : Nat} (h : k < n) : f A = su n fun j => A k j * f (setr A k (eu j)) := by
  rw [← F.mix h]
  refine F.ext fun i b hi hb => ?_
  unfold setr
  split
  · rename_i e
    subst e
    show A i b = su n fun j => A i j * eu j b
    rw [su_one (k := b) hb fun j hj hne => ?_]
    · unfold eu
      rw [if_pos rfl, Int.mul_one]
    · unfold eu
      rw [if_neg (by omega), Int.mul_zero]
  · rfl
end
/-- along the first row -/
theorem det_row {n : Nat} {A : M} : det (n + 1) A = su (n + 1) fun j => sg j * A 0 j * det n fun a b => A (a + 1) (sk j b) := by
  rw [am_det.row (k := 0) (by omega)]
  refine su_congr fun j hj => ?_
  rw [det_unit hj fun b hb => by unfold setr; rw [if_pos rfl]]
  have : (fun a b => setr A 0 (eu j) (a + 1) (sk j b)) = fun a b => A (a + 1) (sk j b) := by
    funext a b
    unfold setr
    rw [if_neg (by omega)]
  rw [this]
  grind
theorem det_turn : ∀ {n : Nat} {A : M}, det n (fun i j => A j i) = det n A
  | 0, _ => rfl
  | n + 1, A => by
    rw [det_row (A := A)]
    show su (n + 1) _ = _
    refine su_congr fun i hi => ?_
    rw [← det_turn (A := fun a b => A (a + 1) (sk i b))]
def un (j b : Nat) : Nat := if b < j then b else b - 1
theorem un_sk {j b : Nat} : un j (sk j b) = b := by grind [un, sk]
theorem sk_un {j b : Nat} (h : b ≠ j) : sk j (un j b) = b := by grind [un, sk]
/-- a unit row on top, its column cleared -/
def top (j : Nat) (B : M) : M := fun a b => if a = 0 then eu j b else if b = j then 0 else B (a - 1) (un j b)
theorem am_top {n j : Nat} {f : M → Int} (F : AM (n + 1) f) (hj : j < n + 1) : AM n fun B => f (top j B) := by
  refine ⟨fun {A B} h => F.ext fun a b ha hb => ?_, fun {A k u v c} h => ?_, fun {A k} h e => ?_⟩
  · unfold top
    split
    · rfl
    · split
      · rfl
      · exact h _ _ (by omega) (by unfold un; split <;> omega)
  · have t : ∀ w : Nat → Int, top j (setr A k w) = setr (top j A) (k + 1) fun b => if b = j then 0 else w (un j b) := fun w => by
      funext a b
      grind [top, setr]
    show f (top j (setr A k _)) = c * f (top j (setr A k u)) + f (top j (setr A k v))
    rw [t, t, t, ← F.lin (by omega)]
    congr 2
    funext b
    split
    · omega
    · rfl
  · refine F.alt (k := k + 1) (by omega) fun b hb => ?_
    have h3 : b ≠ j → un j b < n := fun hne => by unfold un; split <;> omega
    have h4 := e (un j b)
    grind [top]
def id1 : M := fun a b => if a = b then 1 else 0
section
variable {n : Nat} {f : M → Int} (F : AM (n + 1) f)
include F
/-- the column below a unit row may be cleared -/
theorem AM.clear {A : M} {j : Nat} (hj : j < n + 1) : f (setr A 0 (eu j)) = f (top j fun a b => A (a + 1) (sk j b)) := by
  -- m rows are done
  have go : ∀ m, m ≤ n → f (setr A 0 (eu j)) = f fun a b => if a = 0 then eu j b else if a ≤ m ∧ b = j then 0 else A a b := by
    intro m
    induction m with
    | zero =>
      intro _
      refine F.ext fun a b ha hb => ?_
      unfold setr
      split
      · rfl
      · rw [if_neg (by omega)]
    | succ m ih =>
      intro hm
      rw [ih (by omega), ← F.addm (k := m + 1) (l := 0) (c := - A (m + 1) j) (by omega) (by omega) (by omega)]
      refine F.ext fun a b ha hb => ?_
      grind [setr, eu]
  rw [go n (by omega)]
  refine F.ext fun a b ha hb => ?_
  unfold top
  split
  · rfl
  · by_cases h3 : b = j
    · rw [if_pos h3, if_pos (by omega)]
    · rw [if_neg h3, if_neg (by omega)]
      show A a b = A (a - 1 + 1) (sk j (un j b))
      rw [sk_un h3, show a - 1 + 1 = a by omega]
theorem AM.topid : ∀ {j : Nat}, j < n + 1 → f (top j id1) = sg j * f id1
  | 0, h => by
    rw [show sg 0 = 1 from rfl, Int.one_mul]
    refine F.ext fun a b ha hb => ?_
    grind [top, id1, eu, un]
  | j + 1, h => by
    have z := F.swp2 (A := top j id1) (k := 0) (l := j + 1) (by omega) (by omega) (by omega)
    rw [AM.topid (j := j) (by omega)] at z
    rw [sg_succ, Int.neg_mul, ← z]
    refine F.ext fun a b ha hb => ?_
    grind [setr, top, id1, eu, un]
end
/-- such a function is the determinant, times its value at the idle table -/
theorem AM.is_det : ∀ {n : Nat} {f : M → Int}, AM n f → ∀ A, f A = det n A * f id1
  | 0, f, F, A => by
    rw [F.ext (A := A) (B := id1) fun i j h => by omega]
    show f id1 = 1 * f id1
    omega
  | n + 1, f, F, A => by
    rw [F.row (k := 0) (by omega), det_row, ← su_mulr]
    refine su_congr fun j hj => ?_
    rw [F.clear hj, AM.is_det (am_top F hj)]
    show A 0 j * (_ * f (top j id1)) = _
    rw [F.topid hj]
    grind
def mul (n : Nat) (A B : M) : M := fun i j => su n fun c => A i c * B c j
theorem det_id {n : Nat} : det n id1 = 1 := by
  induction n with
  | zero => rfl
  | succ n ih =>
    rw [det_unit (j := 0) (by omega) fun b hb => by unfold id1 eu; split <;> split <;> omega]
    rw [det_congr (B := id1) fun a b ha hb => ?_, ih]
    · rfl
    · unfold id1
      rw [sk_zero]
      split <;> split <;> omega
theorem det_mul {n : Nat} {A B : M} : det n (mul n A B) = det n A * det n B := by
  have F : AM n fun A => det n (mul n A B) := by
    refine ⟨fun {A A'} h => det_congr fun i j hi hj => su_congr fun c hc => by rw [h i c hi hc], fun {A k u v c} h => ?_, fun {A k} h e => ?_⟩
    · have t : ∀ w : Nat → Int, mul n (setr A k w) B = setr (mul n A B) k fun j => su n fun c => w c * B c j := fun w => by
        funext i j
        unfold mul setr
        split
        · refine su_congr fun c _ => ?_
          rfl
        · refine su_congr fun c _ => ?_
          rfl
      show det n (mul n (setr A k _) B) = c * det n (mul n (setr A k u) B) + det n (mul n (setr A k v) B)
      rw [t, t, t, ← det_lin h]
      congr 2
      funext j
      rw [← su_mul, ← su_add]
      refine su_congr fun x _ => ?_
      grind
    · exact det_alt h fun j hj => su_congr fun c hc => by rw [e c hc]
  rw [F.is_det A]
  congr 1
  refine det_congr fun i j hi hj => ?_
  unfold mul
  rw [su_one (k := i) hi fun c hc hne => ?_]
  · unfold id1
    rw [if_pos rfl, Int.one_mul]
  · unfold id1
    rw [if_neg (by omega), Int.zero_mul]
/-- the first column is 0 but on top -/
theorem det_col {n : Nat} {A : M} (h : ∀ i, i < n → A (i + 1) 0 = 0) : det (n + 1) A = A 0 0 * det n fun a b => A (a + 1) (b + 1) := by
  show su (n + 1) _ = _
  rw [su_first, su_zero fun i hi => by rw [h i hi, Int.mul_zero, Int.zero_mul]]
  simp only [sk_zero]
  rw [show sg 0 = 1 from rfl]
  grind
/-! ### by a prime -/
def cg (p a b : Int) : Prop := a % p = b % p
section
variable {p a b c d : Int}
theorem cg.rfl : cg p a a := Eq.refl _
theorem cg.symm (h : cg p a b) : cg p b a := Eq.symm h
theorem cg.trans (h : cg p a b) (k : cg p b c) : cg p a c := Eq.trans h k
theorem cg.of (h : a = b) : cg p a b := by rw [h]; exact Eq.refl _
theorem cg.add (h : cg p a b) (k : cg p c d) : cg p (a + c) (b + d) := by
  unfold cg at *
  rw [Int.add_emod, h, k, ← Int.add_emod]
theorem cg.mul (h : cg p a b) (k : cg p c d) : cg p (a * c) (b * d) := by
  unfold cg at *
  rw [Int.mul_emod, h, k, ← Int.mul_emod]
theorem cg.neg (h : cg p a b) : cg p (-a) (-b) := by
  have := cg.mul (p := p) (cg.rfl (a := -1)) h
  rwa [Int.neg_one_mul, Int.neg_one_mul] at this
theorem cg.sub (h : cg p a b) (k : cg p c d) : cg p (a - c) (b - d) := by
  have := h.add k.neg
  rwa [← Int.sub_eq_add_neg, ← Int.sub_eq_add_neg] at this
theorem cg.mod : cg p (a % p) a := Int.emod_emod_of_dvd a (Int.dvd_refl p)
theorem cg.mods : cg p a (a % p) := cg.mod.symm
end
theorem su_cg {p : Int} {f g : Nat → Int} : ∀ {n : Nat}, (∀ i, i < n → cg p (f i) (g i)) → cg p (su n f) (su n g)
  | 0, _ => cg.rfl
  | n + 1, h => (su_cg fun i hi => h i (by omega)).add (h n (by omega))
theorem det_cg {p : Int} : ∀ {n : Nat} {A B : M}, (∀ i j, i < n → j < n → cg p (A i j) (B i j)) → cg p (det n A) (det n B)
  | 0, _, _, _ => cg.rfl
  | n + 1, A, B, h => su_cg fun i hi => (cg.rfl.mul (h i 0 hi (by omega))).mul (det_cg fun a b ha hb => h _ _ (sk_lt ha) (by omega))
end Dt

set_option Elab.async false
set_option linter.all false
set_option autoImplicit false
/-! The law's determinant is the determinant. -/
namespace Dt
open Rk
theorem AM.sweep {n : Nat} {f : M → Int} (F : AM (n + 1) f) {A : M} {c : Nat → Int} : f (fun a b => if a = 0 then A 0 b else A a b + c a * A 0 b) = f A := by
  have go : ∀ m, m ≤ n → f (fun a b => if a = 0 ∨ m < a then A a b else A a b + c a * A 0 b) = f A := by
    intro m
    induction m with
    | zero =>
      intro _
      refine F.ext fun a b ha hb => ?_
      rw [if_pos (by omega)]
    | succ m ih =>
      intro hm
      rw [← ih (by omega), ← F.addm (A := fun a b => if a = 0 ∨ m < a then A a b else A a b + c a * A 0 b) (k := m + 1) (l := 0) (c := c (m + 1)) (by omega) (by omega) (by omega)]
      refine F.ext fun a b ha hb => ?_
      grind [setr]
  rw [← go n (by omega)]
  refine F.ext fun a b ha hb => ?_
  grind
theorem getD_zipc {p x : Int} : ∀ {r s : List Int} {b : Nat}, b < r.length → b < s.length → ((r.zip s).map fun v => (v.1 - x * v.2) % p).getD b 0 = (r.getD b 0 - x * s.getD b 0) % p
  | [], _, _, h, _ => by simp at h
  | _ :: _, [], _, _, h => by simp at h
  | u :: r, v :: s, 0, _, _ => rfl
  | u :: r, v :: s, b + 1, h1, h2 => getD_zipc (r := r) (s := s) (b := b) (by simpa using h1) (by simpa using h2)
theorem getD_set {α : Type} {l : List α} {i j : Nat} {x d : α} (h : i < l.length) : (l.set i x).getD j d = if j = i then x else l.getD j d := by
  rw [List.getD_eq_getElem?_getD, List.getElem?_set, List.getD_eq_getElem?_getD]
  by_cases e : i = j
  · rw [if_pos e, if_pos e.symm, if_pos h]
    rfl
  · rw [if_neg e, if_neg (fun k => e k.symm)]
section
variable {p : Int} {n k s a b : Nat} {rows : List (List Int)}
theorem ge_swap (hm : Mat p n n rows) (hk : k < n) (hs : s < n) : ge (swapF rows k s) a b = if a = s then ge rows k b else if a = k then ge rows s b else ge rows a b := by
  unfold ge gr swapF gr
  rw [getD_set (by rw [List.length_set, hm.1]; exact hs)]
  split
  · rfl
  · rw [getD_set (by rw [hm.1]; exact hk)]
    split <;> rfl
theorem ge_elim (hm : Mat p n n rows) (ha : a < n) (hb : b < n) (hk : k < n) : ge (elimF p rows k) a b = if a ≤ k then ge rows a b else (ge rows a b - (ge rows a k * bkF p (ge rows k k) % p) * ge rows k b) % p := by
  have hl := hm.1
  have ht : (rows.take (k + 1)).length = k + 1 := by rw [List.length_take]; omega
  by_cases h : a ≤ k
  · rw [if_pos h]
    have e : gr (elimF p rows k) a = gr rows a := by
      unfold gr elimF
      rw [List.getD_eq_getElem?_getD, List.getElem?_append_left (by omega), List.getElem?_take, if_pos (by omega), ← List.getD_eq_getElem?_getD]
    show (gr (elimF p rows k) a).getD b 0 = _
    rw [e]
    rfl
  · rw [if_neg h]
    have e : gr (elimF p rows k) a = combF p (gr rows k) k (bkF p (ge rows k k)) (gr rows a) := by
      unfold gr elimF
      rw [List.getD_eq_getElem?_getD, List.getElem?_append_right (by omega), ht, List.getElem?_map, List.getElem?_drop, show k + 1 + (a - (k + 1)) = a by omega, (hm.get ha).1]
      rfl
    show (gr (elimF p rows k) a).getD b 0 = _
    rw [e]
    unfold combF
    rw [getD_zipc (by rw [(hm.get ha).2.1]; exact hb) (by rw [(hm.get hk).2.1]; exact hb)]
    rfl
end
/-- behind the first k rows and columns -/
def sb (k : Nat) (rows : List (List Int)) : M := fun a b => ge rows (a + k) (b + k)
theorem spots_none {p : Int} {rows : List (List Int)} {n k : Nat} (hl : rows.length = n) (h : spotsF p rows k = []) : ∀ s, k ≤ s → s < n → ge rows s k % p = 0 := fun s h1 h2 => by
  unfold spotsF at h
  have := List.filter_eq_nil_iff.mp h s (List.mem_map.mpr ⟨s - k, List.mem_range.mpr (by omega), by omega⟩)
  simpa using this
theorem step_det {p : Int} {n k : Nat} {rows : List (List Int)} {f : Int} (hp : Pr p) (hm : Mat p n n rows) (hk : k < n) : match stepF p k (rows, f) with
    | none => cg p (det (n - k) (sb k rows)) 0
    | some q => cg p (f * det (n - k) (sb k rows)) (q.2 * det (n - (k + 1)) (sb (k + 1) q.1)) := by
  have hb := hp.b
  obtain ⟨m, hmk⟩ : ∃ m, n - k = m + 1 := ⟨n - k - 1, by omega⟩
  have hmk2 : n - (k + 1) = m := by omega
  unfold stepF
  cases hs : spotsF p (rows, f).1 k with
  | nil =>
    show cg p (det (n - k) (sb k rows)) 0
    have z := spots_none hm.1 hs
    rw [hmk]
    refine (su_cg (g := fun _ => 0) fun i hi => ?_).trans (cg.of (su_zero fun _ _ => rfl))
    have h1 : cg p (sb k rows i 0) 0 := by
      unfold sb
      rw [Nat.zero_add]
      have := z (i + k) (by omega) (by omega)
      exact this
    have h2 := ((cg.rfl (p := p) (a := sg i)).mul h1).mul (cg.rfl (a := det m fun a b => sb k rows (sk i a) (b + 1)))
    rw [Int.mul_zero, Int.zero_mul] at h2
    exact h2
  | cons s l =>
    have hsb := spots_mem (p := p) (rows := rows) (k := k) (s := s) (by rw [hs]; exact List.mem_cons_self)
    have hsn : s < n := by rw [← hm.1]; exact hsb.2.1
    -- with the row in its place
    have main : ∀ (rows : List (List Int)) (f : Int), Mat p n n rows → ge rows k k % p ≠ 0 → cg p (f * det (n - k) (sb k rows)) (f * ge rows k k % p * det (n - (k + 1)) (sb (k + 1) (elimF p rows k))) := by
      intro rows f hm hpv
      obtain ⟨_, hkk0, hkk1⟩ := (hm.get hk).2.get hk
      have hkk0 : 0 ≤ ge rows k k := hkk0
      have hkk1 : ge rows k k < p := hkk1
      have hpos : 0 < ge rows k k := by
        rcases Int.lt_or_eq_of_le hkk0 with h | h
        · exact h
        · rw [← h] at hpv
          simp at hpv
      obtain ⟨_, bk1, bk2, bk3⟩ := bk_get hp ⟨hpos, hkk1⟩
      generalize hbk : bkF p (ge rows k k) = bk at *
      rw [hmk, hmk2, ← am_det.sweep (A := sb k rows) (c := fun a => - (ge rows (a + k) k * bk))]
      have e1 : cg p (det (m + 1) fun a b => if a = 0 then sb k rows 0 b else sb k rows a b + - (ge rows (a + k) k * bk) * sb k rows 0 b) (det (m + 1) fun a b => if a = 0 then sb k rows 0 b else if b = 0 then 0 else ge (elimF p rows k) (a + k) (b + k)) := by
        refine det_cg fun a b ha hb => ?_
        by_cases h0 : a = 0
        · rw [if_pos h0, if_pos h0]
          exact cg.rfl
        · rw [if_neg h0, if_neg h0]
          by_cases h1 : b = 0
          · rw [if_pos h1, h1]
            unfold sb
            rw [Nat.zero_add]
            have e : ge rows (a + k) k + -(ge rows (a + k) k * bk) * ge rows k k = ge rows (a + k) k - ge rows (a + k) k * (bk * ge rows k k) := by grind
            rw [e]
            have h3 : cg p (bk * ge rows k k) 1 := by
              unfold cg
              rw [bk3]
              exact (Int.emod_eq_of_lt (by omega) (by omega)).symm
            have h4 := (cg.rfl (p := p) (a := ge rows (a + k) k)).sub ((cg.rfl (a := ge rows (a + k) k)).mul h3)
            rw [Int.mul_one, Int.sub_self] at h4
            exact h4
          · rw [if_neg h1, ge_elim hm (by omega) (by omega) hk, if_neg (by omega), hbk]
            unfold sb
            rw [Nat.zero_add]
            refine cg.trans ?_ cg.mods
            have h4 := (cg.rfl (p := p) (a := ge rows (a + k) (b + k))).sub ((cg.mods (p := p) (a := ge rows (a + k) k * bk)).mul (cg.rfl (a := ge rows k (b + k))))
            refine (cg.of ?_).trans h4
            grind
      refine (cg.rfl.mul e1).trans ?_
      rw [det_col fun i hi => by rw [if_neg (by omega), if_pos rfl], if_pos rfl, show sb k rows 0 0 = ge rows k k by unfold sb; rw [Nat.zero_add]]
      rw [det_congr (B := sb (k + 1) (elimF p rows k)) fun a b ha hb => by
        rw [if_neg (by omega), if_neg (by omega)]
        unfold sb
        rw [show a + 1 + k = a + (k + 1) by omega, show b + 1 + k = b + (k + 1) by omega]]
      rw [← Int.mul_assoc]
      exact cg.mods.mul cg.rfl
    by_cases e : s = k
    · show cg p (f * det (n - k) (sb k rows)) ((if s = k then f else 0 - f) * ge (if s = k then rows else swapF rows k s) k k % p * det (n - (k + 1)) (sb (k + 1) (elimF p (if s = k then rows else swapF rows k s) k)))
      rw [if_pos e, if_pos e]
      refine main rows f hm ?_
      rw [← e] 
      rw [e]
      rw [e] at hsb
      exact hsb.2.2
    · show cg p (f * det (n - k) (sb k rows)) ((if s = k then f else 0 - f) * ge (if s = k then rows else swapF rows k s) k k % p * det (n - (k + 1)) (sb (k + 1) (elimF p (if s = k then rows else swapF rows k s) k)))
      rw [if_neg e, if_neg e]
      have hm2 := swapF_mat hm hk hsn
      have := main (swapF rows k s) (0 - f) hm2 (by rw [ge_swap hm hk hsn, if_neg (by omega), if_pos rfl]; exact hsb.2.2)
      refine cg.trans (cg.of ?_) this
      have sw : det (n - k) (sb k (swapF rows k s)) = - det (n - k) (sb k rows) := by
        rw [hmk, ← am_det.swp2 (A := sb k rows) (k := 0) (l := s - k) (by omega) (by omega) (by omega)]
        refine det_congr fun a b ha hb => ?_
        unfold sb setr
        rw [ge_swap hm hk hsn]
        grind
      rw [sw]
      grind
theorem ldet_eq {p : Int} {n : Nat} {t : List (List Int)} (hp : Pr p) (hm : Mat p n n t) : ldetF p t = det n (ge t) % p := by
  have hb := hp.b
  have go : ∀ i, i ≤ n → match stN p t i with
      | none => cg p (det n (ge t)) 0
      | some q => cg p (det n (ge t)) (q.2 * det (n - i) (sb i q.1)) := by
    intro i
    induction i with
    | zero =>
      intro _
      show cg p (det n (ge t)) (1 * det (n - 0) (sb 0 t))
      rw [Int.one_mul]
      exact cg.rfl
    | succ i ih =>
      intro hi
      have ih := ih (by omega)
      show match (stN p t i).bind (stepF p i) with
      | none => cg p (det n (ge t)) 0
      | some q => cg p (det n (ge t)) (q.2 * det (n - (i + 1)) (sb (i + 1) q.1))
      cases hq : stN p t i with
      | none =>
        rw [hq] at ih
        exact ih
      | some q =>
        rw [hq] at ih
        obtain ⟨rows, f⟩ := q
        have hmm := (stN_mat (by omega) hm i _ (by omega) hq).1
        have st := step_det (f := f) hp hmm (show i < n by omega)
        show match stepF p i (rows, f) with
        | none => cg p (det n (ge t)) 0
        | some q => cg p (det n (ge t)) (q.2 * det (n - (i + 1)) (sb (i + 1) q.1))
        cases hst : stepF p i (rows, f) with
        | none =>
          rw [hst] at st
          have h2 := (cg.rfl (p := p) (a := f)).mul st
          rw [Int.mul_zero] at h2
          exact ih.trans h2
        | some q2 =>
          rw [hst] at st
          exact ih.trans st
  have g := go n (by omega)
  unfold ldetF
  rw [hm.1]
  cases hq : stN p t n with
  | none =>
    rw [hq] at g
    exact (show det n (ge t) % p = 0 % p from g).symm.trans rfl |> fun h => by
      have : det n (ge t) % p = 0 := by
        have := (show det n (ge t) % p = 0 % p from g)
        rw [this]
        exact Int.zero_emod p
      exact this.symm
  | some q =>
    rw [hq] at g
    rw [Nat.sub_self] at g
    have : det n (ge t) % p = (q.2 * 1) % p := g
    rw [Int.mul_one] at this
    exact this.symm
end Dt

set_option Elab.async false
set_option linter.all false
set_option autoImplicit false
/-! A symmetric table by squares: rank and sign are its own. -/
namespace Dt
open Rk
/-- one square: its rest, its column, its row of the undone table -/
structure Tr where
  d : Int
  v : Nat → Int
  s : Nat → Int
def t0 : Tr := ⟨0, fun _ => 0, fun _ => 0⟩
def sl (L : List Tr) (g : Tr → Int) : Int := (L.map g).sum
theorem sl_nil {g : Tr → Int} : sl [] g = 0 := rfl
theorem sl_cons {x : Tr} {L : List Tr} {g : Tr → Int} : sl (x :: L) g = g x + sl L g := List.sum_cons
theorem sl_append {g : Tr → Int} : ∀ {L K : List Tr}, sl (L ++ K) g = sl L g + sl K g
  | [], K => (Int.zero_add _).symm
  | x :: L, K => by
    rw [List.cons_append, sl_cons, sl_cons, sl_append]
    omega
theorem sl_perm {g : Tr → Int} {L K : List Tr} (h : L.Perm K) : sl L g = sl K g := by
  induction h with
  | nil => rfl
  | cons x _ ih => rw [sl_cons, sl_cons, ih]
  | swap x y l =>
    rw [sl_cons, sl_cons, sl_cons, sl_cons]
    omega
  | trans _ _ a b => rw [a, b]
theorem sl_congr {g h : Tr → Int} : ∀ {L : List Tr}, (∀ x, x ∈ L → g x = h x) → sl L g = sl L h
  | [], _ => rfl
  | x :: L, e => by
    rw [sl_cons, sl_cons, e x List.mem_cons_self, sl_congr fun y hy => e y (List.mem_cons_of_mem _ hy)]
theorem sl_map {g : Tr → Int} {φ : Tr → Tr} : ∀ {L : List Tr}, sl (L.map φ) g = sl L fun x => g (φ x)
  | [] => rfl
  | x :: L => by rw [List.map_cons, sl_cons, sl_cons, sl_map]
theorem sl_zero {g : Tr → Int} {L : List Tr} (h : ∀ x, x ∈ L → g x = 0) : sl L g = 0 := by
  rw [sl_congr h]
  clear h
  induction L with
  | nil => rfl
  | cons x L ih => rw [sl_cons, ih]; rfl
theorem sl_add {g h : Tr → Int} : ∀ {L : List Tr}, sl L (fun x => g x + h x) = sl L g + sl L h
  | [] => rfl
  | x :: L => by rw [sl_cons, sl_cons, sl_cons, sl_add]; omega
theorem sl_mul {g : Tr → Int} {c : Int} : ∀ {L : List Tr}, sl L (fun x => c * g x) = c * sl L g
  | [] => (Int.mul_zero c).symm
  | x :: L => by rw [sl_cons, sl_cons, sl_mul, Int.mul_add]
theorem sl_su {g : Tr → Int} : ∀ {L : List Tr}, sl L g = su L.length fun c => g (L.getD c t0)
  | [] => rfl
  | x :: L => by
    rw [sl_cons, List.length_cons, su_first, sl_su]
    rfl
theorem sl_range {n : Nat} {φ : Nat → Tr} {g : Tr → Int} : sl ((List.range n).map φ) g = su n fun c => g (φ c) := by
  induction n with
  | zero => rfl
  | succ n ih =>
    rw [List.range_succ, List.map_append, sl_append, ih]
    show _ + sl [φ n] g = su n (fun c => g (φ c)) + g (φ n)
    rw [sl_cons, sl_nil]
    omega
structure Dg (p : Int) (n : Nat) (A : M) (L : List Tr) : Prop where
  len : L.length = n
  val : ∀ a b, a < n → b < n → cg p (A a b) (sl L fun x => x.d * x.v a * x.v b)
  inv : ∀ a b, a < n → b < n → cg p (sl L fun x => x.v a * x.s b) (id1 a b)
theorem Dg.perm {p : Int} {n : Nat} {A : M} {L K : List Tr} (h : Dg p n A L) (e : L.Perm K) : Dg p n A K :=
  ⟨e.length_eq ▸ h.len, fun a b ha hb => by rw [← sl_perm e]; exact h.val a b ha hb, fun a b ha hb => by rw [← sl_perm e]; exact h.inv a b ha hb⟩
/-! ### products, signs -/
def pr : Nat → (Nat → Int) → Int
  | 0, _ => 1
  | n + 1, f => f 0 * pr n fun i => f (i + 1)
theorem det_diag : ∀ {n : Nat} {f : Nat → Int}, det n (fun a b => if a = b then f a else 0) = pr n f
  | 0, _ => rfl
  | n + 1, f => by
    rw [det_col fun i hi => by rw [if_neg (by omega)], if_pos rfl, det_congr (B := fun a b => if a = b then f (a + 1) else 0) fun a b ha hb => ?_, det_diag (f := fun i => f (i + 1))]
    · rfl
    · by_cases e : a = b
      · rw [if_pos e, if_pos (by omega)]
      · rw [if_neg e, if_neg (by omega)]
/-- the sign of any number -/
def sp (p x : Int) : Int := signF p (x % p)
def pl : List Int → Int
  | [] => 1
  | x :: l => x * pl l
theorem pl_append : ∀ {l k : List Int}, pl (l ++ k) = pl l * pl k
  | [], k => (Int.one_mul _).symm
  | x :: l, k => by
    show x * pl (l ++ k) = x * pl l * pl k
    rw [pl_append, Int.mul_assoc]
theorem sign_mul {p a b : Int} (hp : Pr p) (ha : 0 ≤ a ∧ a < p) (hb : 0 ≤ b ∧ b < p) : signF p (a * b % p) = signF p a * signF p b := by
  have key : ∀ p : Int, Pr p → ∀ a ∈ rg p.toNat, ∀ b ∈ rg p.toNat, signF p (a * b % p) = signF p a * signF p b := by
    rintro p (rfl | rfl | rfl | rfl | rfl) <;> decide +kernel
  exact key p hp a (mem_rg.mpr (by omega)) b (mem_rg.mpr (by omega))
theorem sign_sq {p a : Int} (hp : Pr p) (ha : 0 ≤ a ∧ a < p) (h : a ≠ 0) : signF p a * signF p a = 1 := by
  have key : ∀ p : Int, Pr p → ∀ a ∈ rg p.toNat, a ≠ 0 → signF p a * signF p a = 1 := by
    rintro p (rfl | rfl | rfl | rfl | rfl) <;> decide +kernel
  exact key p hp a (mem_rg.mpr (by omega)) h
theorem ppos {p : Int} (h : Pr p) : 0 < p := by have := h.b; omega
theorem sp_mul {p a b : Int} (hp : Pr p) : sp p (a * b) = sp p a * sp p b := by
  unfold sp
  rw [← sign_mul hp (emod_b (ppos hp)) (emod_b (ppos hp)), Int.mul_emod]
theorem sp_sq {p a : Int} (hp : Pr p) (h : a % p ≠ 0) : sp p a * sp p a = 1 := sign_sq hp (emod_b (ppos hp)) h
theorem sp_cg {p a b : Int} (h : cg p a b) : sp p a = sp p b := by
  unfold sp
  rw [show a % p = b % p from h]
theorem sp_pr {p : Int} (hp : Pr p) : ∀ {l : List Int}, sp p (pr l.length fun c => l.getD c 0) = pl (l.map (sp p))
  | [] => by
    show signF p (1 % p) = 1
    rcases hp with rfl | rfl | rfl | rfl | rfl <;> decide +kernel
  | x :: l => by
    show sp p (x * pr l.length fun c => (x :: l).getD (c + 1) 0) = sp p x * pl (l.map (sp p))
    rw [sp_mul hp, ← sp_pr hp]
    rfl
/-- no product is 0 but by a factor -/
theorem mul_nz {p a b : Int} (hp : Pr p) (ha : a % p ≠ 0) (hb : b % p ≠ 0) : a * b % p ≠ 0 := by
  have key : ∀ p : Int, Pr p → ∀ a ∈ rg p.toNat, ∀ b ∈ rg p.toNat, a ≠ 0 → b ≠ 0 → a * b % p ≠ 0 := by
    rintro p (rfl | rfl | rfl | rfl | rfl) <;> decide +kernel
  rw [Int.mul_emod]
  have h1 := emod_b (x := a) (ppos hp)
  have h2 := emod_b (x := b) (ppos hp)
  exact key p hp _ (mem_rg.mpr (by omega)) _ (mem_rg.mpr (by omega)) ha hb
theorem pr_nz {p : Int} (hp : Pr p) : ∀ {l : List Int}, (∀ x, x ∈ l → x % p ≠ 0) → (pr l.length fun c => l.getD c 0) % p ≠ 0
  | [], _ => by
    show (1 : Int) % p ≠ 0
    rcases hp with rfl | rfl | rfl | rfl | rfl <;> decide
  | x :: l, h => mul_nz hp (h x List.mem_cons_self) (pr_nz hp fun y hy => h y (List.mem_cons_of_mem _ hy))
theorem cg0 {p a b : Int} (h : cg p a b) (hb : b % p = 0) : a % p = 0 := by rw [show a % p = b % p from h, hb]
theorem mul_z1 {p a b : Int} (h : a % p = 0) : a * b % p = 0 := by rw [Int.mul_emod, h, Int.zero_mul, Int.zero_emod]
theorem mul_z2 {p a b : Int} (h : b % p = 0) : a * b % p = 0 := by rw [Int.mul_emod, h, Int.mul_zero, Int.zero_emod]
theorem su_z {p : Int} {f : Nat → Int} {n : Nat} (h : ∀ i, i < n → f i % p = 0) : su n f % p = 0 :=
  cg0 (su_cg (g := fun _ => 0) fun i hi => by show f i % p = 0 % p; rw [h i hi, Int.zero_emod]) (by rw [su_zero fun _ _ => rfl]; exact Int.zero_emod p)
def nz (p : Int) (x : Tr) : Bool := x.d % p != 0
/-- rank and sign of squares -/
def kL (p : Int) (L : List Tr) : Int × Int := (((L.filter (nz p)).length : Nat), pl ((L.filter (nz p)).map fun x => sp p x.d))
/-- the last ones of a sum -/
theorem su_last {f : Nat → Int} {m : Nat} : ∀ {k : Nat}, su (m + k) f = su m f + su k fun c => f (m + c)
  | 0 => by
    show su m f = su m f + 0
    omega
  | k + 1 => by
    show su (m + k) f + f (m + k) = su m f + (su k (fun c => f (m + c)) + f (m + k))
    rw [su_last]
    omega
/-! ### lots -/
theorem lots_erase {n k i : Nat} {lot : List Int} (hn : n ≤ 6) (hk : k + 1 ≤ n) (h : lot ∈ lotsF n (k + 1)) (hi : i < k + 1) : lot.eraseIdx i ∈ lotsF n k := by
  have key : ((List.range 7).all fun n => (List.range n).all fun k => (lotsF n (k + 1)).all fun lot => (List.range (k + 1)).all fun i => (lotsF n k).contains (lot.eraseIdx i)) = true := by decide +kernel
  have h1 := List.all_eq_true.mp (List.all_eq_true.mp (List.all_eq_true.mp (List.all_eq_true.mp key n (List.mem_range.mpr (by omega))) k (List.mem_range.mpr (by omega))) lot h) i (List.mem_range.mpr hi)
  exact List.contains_iff_mem.mp h1
theorem lots_full {n : Nat} (hn : n ≤ 6) : rg n ∈ lotsF n n := by
  have key : ((List.range 7).all fun n => (lotsF n n).contains (rg n)) = true := by decide +kernel
  exact List.contains_iff_mem.mp (List.all_eq_true.mp key n (List.mem_range.mpr (by omega)))
/-- the place of a lot -/
def pa (lot : List Int) (a : Nat) : Nat := (lot.getD a 0).toNat
theorem pa_lt {n k a : Nat} {lot : List Int} (hn : n ≤ 6) (hk : k ≤ 6) (h : lot ∈ lotsF n k) (ha : a < k) : pa lot a < n := by
  obtain ⟨h1, h2⟩ := (lots_ok hn hk).2 lot h
  have hl : a < lot.length := by omega
  have : lot.getD a 0 = lot[a] := by
    rw [List.getD_eq_getElem?_getD, List.getElem?_eq_getElem hl]
    rfl
  unfold pa
  rw [this]
  have := h2 _ (List.getElem_mem hl)
  omega
theorem pa_erase {lot : List Int} {i a : Nat} : pa (lot.eraseIdx i) a = pa lot (sk i a) := by
  unfold pa sk
  rw [List.getD_eq_getElem?_getD, List.getElem?_eraseIdx, List.getD_eq_getElem?_getD]
  split <;> rfl
theorem ge_minor {t : List (List Int)} {lot : List Int} {a b : Nat} (ha : a < lot.length) (hb : b < lot.length) : ge (minorF t lot) a b = ge t (pa lot a) (pa lot b) := by
  have e : gr (minorF t lot) a = lot.map fun b => ge t (pa lot a) b.toNat := by
    unfold gr minorF pa
    rw [List.getD_eq_getElem?_getD, List.getElem?_map, List.getElem?_eq_getElem ha, List.getD_eq_getElem?_getD, List.getElem?_eq_getElem ha]
    rfl
  show (gr (minorF t lot) a).getD b 0 = _
  rw [e, List.getD_eq_getElem?_getD, List.getElem?_map, List.getElem?_eq_getElem hb]
  unfold pa
  rw [List.getD_eq_getElem?_getD (i := b), List.getElem?_eq_getElem hb]
  rfl
theorem minor_mat {p : Int} {n k : Nat} {t : List (List Int)} {lot : List Int} (hm : Mat p n n t) (hn : n ≤ 6) (hk : k ≤ 6) (h : lot ∈ lotsF n k) : Mat p k k (minorF t lot) := by
  obtain ⟨h1, h2⟩ := (lots_ok hn hk).2 lot h
  refine ⟨by rw [minorF, List.length_map, h1], fun r hr => ?_⟩
  obtain ⟨a, ha, rfl⟩ := List.mem_map.mp hr
  refine ⟨by rw [List.length_map, h1], fun x hx => ?_⟩
  obtain ⟨b, hb, rfl⟩ := List.mem_map.mp hx
  have := h2 a ha
  have := h2 b hb
  exact ((hm.get (i := a.toNat) (by omega)).2.get (j := b.toNat) (by omega)).2
section
variable {p : Int} {n : Nat} {t : List (List Int)} {L : List Tr}
/-- the columns' last k ones, at the places of a lot -/
def mm (L : List Tr) (n k : Nat) (lot : List Int) : M := fun a c => (L.getD (n - k + c) t0).v (pa lot a)
theorem minor_det {k : Nat} {lot : List Int} (hp : Pr p) (h : Dg p n (ge t) L) (hn : n ≤ 6) (hk : k ≤ n) (z : ∀ c, c < n - k → (L.getD c t0).d % p = 0) (hl : lot ∈ lotsF n k) : cg p (det k (ge (minorF t lot))) (det k (mm L n k lot) * det k (mm L n k lot) * pr k fun c => (L.getD (n - k + c) t0).d) := by
  obtain ⟨h1, h2⟩ := (lots_ok hn (show k ≤ 6 by omega)).2 lot hl
  have e : det k (mm L n k lot) * det k (mm L n k lot) * pr k (fun c => (L.getD (n - k + c) t0).d) = det k (mul k (mul k (mm L n k lot) fun a b => if a = b then (L.getD (n - k + a) t0).d else 0) fun i j => mm L n k lot j i) := by
    rw [det_mul, det_mul, det_turn, det_diag (f := fun c => (L.getD (n - k + c) t0).d)]
    grind
  rw [e]
  refine det_cg fun a b ha hb => ?_
  rw [ge_minor (by omega) (by omega)]
  refine (h.val _ _ (pa_lt hn (by omega) hl ha) (pa_lt hn (by omega) hl hb)).trans ?_
  rw [sl_su, h.len, show n = n - k + k by omega, su_last]
  have z2 : su (n - k) (fun c => (L.getD c t0).d * (L.getD c t0).v (pa lot a) * (L.getD c t0).v (pa lot b)) % p = 0 := su_z fun c hc => by
    rw [Int.mul_assoc]
    exact mul_z1 (z c hc)
  have z3 : cg p (su (n - k) (fun c => (L.getD c t0).d * (L.getD c t0).v (pa lot a) * (L.getD c t0).v (pa lot b))) 0 := by
    show _ = 0 % p
    rw [z2, Int.zero_emod]
  refine (z3.add cg.rfl).trans (cg.of ?_)
  rw [Int.zero_add, show n - k + k = n by omega]
  refine su_congr fun c hc => ?_
  show _ = (su k fun x => mm L n k lot a x * if x = c then _ else 0) * mm L n k lot b c
  rw [su_one (k := c) hc fun i hi hne => by rw [if_neg hne, Int.mul_zero], if_pos rfl]
  show _ = (L.getD (n - k + c) t0).v (pa lot a) * (L.getD (n - k + c) t0).d * (L.getD (n - k + c) t0).v (pa lot b)
  grind
/-- some lot has free columns -/
theorem lot_free (hp : Pr p) {A : M} (h : Dg p n A L) (hn : n ≤ 6) {k : Nat} (hk : k ≤ n) : ∃ lot, lot ∈ lotsF n k ∧ det k (mm L n k lot) % p ≠ 0 := by
  refine Classical.byContradiction fun no => ?_
  have go : ∀ d, k + d ≤ n → ∀ lot, lot ∈ lotsF n (k + d) → det (k + d) (mm L n (k + d) lot) % p = 0 := by
    intro d
    induction d with
    | zero =>
      intro _ lot hl
      exact Classical.byContradiction fun q => no ⟨lot, hl, q⟩
    | succ d ih =>
      intro hd lot hl
      show su (k + d + 1) _ % p = 0
      refine su_z fun i hi => ?_
      refine mul_z2 ?_
      have := ih (by omega) (lot.eraseIdx i) (lots_erase hn (by omega) hl hi)
      rw [← this]
      congr 2
      funext a b
      show (L.getD (n - (k + d + 1) + (b + 1)) t0).v (pa lot (sk i a)) = (L.getD (n - (k + d) + b) t0).v (pa (lot.eraseIdx i) a)
      rw [pa_erase, show n - (k + d + 1) + (b + 1) = n - (k + d) + b by omega]
  have hz := go (n - k) (by omega) (rg n) (by rw [show k + (n - k) = n by omega]; exact lots_full hn)
  rw [show k + (n - k) = n by omega] at hz
  have e : cg p (det n (mm L n n (rg n)) * det n fun c b => (L.getD c t0).s b) 1 := by
    rw [← det_mul]
    refine (det_cg (B := id1) fun a b ha hb => ?_).trans (cg.of det_id)
    refine (cg.of ?_).trans (h.inv a b ha hb)
    rw [sl_su, h.len]
    refine su_congr fun c hc => ?_
    show (L.getD (n - n + c) t0).v (pa (rg n) a) * _ = _
    have : pa (rg n) a = a := by
      unfold pa
      rw [List.getD_eq_getElem?_getD, rg_get ha]
      rfl
    rw [this, Nat.sub_self, Nat.zero_add]
  have e2 := cg0 e.symm (mul_z1 hz)
  rcases hp with rfl | rfl | rfl | rfl | rfl <;> exact absurd e2 (by decide)
/-- rank and sign, by the law's minors, are those of any squares -/
theorem kind_law (hp : Pr p) (hm : Mat p n n t) (hn : n ≤ 6) (h0 : Dg p n (ge t) L) : lkindF p t = kL p L := by
  have pm : (L.filter (fun x => !nz p x) ++ L.filter (nz p)).Perm L := by
    have := List.filter_append_perm (fun x => !nz p x) L
    simpa using this
  have h := h0.perm pm.symm
  generalize hZ : L.filter (fun x => !nz p x) = Z at h
  generalize hN : L.filter (nz p) = N at h
  have hlen : Z.length + N.length = n := by
    have := h.len
    rw [List.length_append] at this
    exact this
  have zz : ∀ c, c < Z.length → ((Z ++ N).getD c t0).d % p = 0 := fun c hc => by
    rw [List.getD_eq_getElem?_getD, List.getElem?_append_left hc, List.getElem?_eq_getElem hc]
    have hm : Z[c] ∈ L.filter (fun x => !nz p x) := by rw [hZ]; exact List.getElem_mem hc
    have := (List.mem_filter.mp hm).2
    show Z[c].d % p = 0
    unfold nz at this
    simpa using this
  have zn : ∀ x, x ∈ N.map (fun x => x.d) → x % p ≠ 0 := fun x hx => by
    obtain ⟨y, hy, rfl⟩ := List.mem_map.mp hx
    rw [← hN] at hy
    have := (List.mem_filter.mp hy).2
    unfold nz at this
    simpa using this
  have hkL : kL p L = (((N.length : Nat) : Int), pl ((N.map fun x => x.d).map (sp p))) := by
    unfold kL
    rw [hN, List.map_map]
    rfl
  have hpr : (pr N.length fun c => ((Z ++ N).getD (n - N.length + c) t0).d) = pr (N.map fun x => x.d).length fun c => (N.map fun x => x.d).getD c 0 := by
    rw [List.length_map]
    congr 1
    funext c
    rw [show n - N.length = Z.length by omega, List.getD_eq_getElem?_getD, List.getElem?_append_right (by omega), show Z.length + c - Z.length = c by omega, List.getD_eq_getElem?_getD, List.getElem?_map]
    cases N[c]? <;> rfl
  have go : ∀ m, N.length ≤ m → m ≤ n → lkF p t m = kL p L := by
    intro m
    induction m with
    | zero =>
      intro h1 _
      have hN0 : N = [] := List.length_eq_zero_iff.mp (by omega)
      rw [hkL, hN0]
      rfl
    | succ m ih =>
      intro h1 h2
      have htl : t.length = n := hm.1
      show (match (lotsF t.length (m + 1)).find? (fun lot => ldetF p (minorF t lot) != 0) with
        | some lot => (((m + 1 : Nat) : Int), signF p (ldetF p (minorF t lot)))
        | none => lkF p t m) = _
      rw [htl]
      have md : ∀ lot, lot ∈ lotsF n (m + 1) → ldetF p (minorF t lot) = _ := fun lot hl => (ldet_eq hp (minor_mat hm hn (by omega) hl)).trans (minor_det hp h hn h2 (fun c hc => zz c (by omega)) hl)
      by_cases e : N.length = m + 1
      · cases hf : (lotsF n (m + 1)).find? (fun lot => ldetF p (minorF t lot) != 0) with
        | none =>
          obtain ⟨lot, hl, hne⟩ := lot_free hp h hn h2
          have := List.find?_eq_none.mp hf lot hl
          rw [md lot hl] at this
          exfalso
          have h3 : det (m + 1) (mm (Z ++ N) n (m + 1) lot) * det (m + 1) (mm (Z ++ N) n (m + 1) lot) * (pr (m + 1) fun c => ((Z ++ N).getD (n - (m + 1) + c) t0).d) % p ≠ 0 := by
            refine mul_nz hp (mul_nz hp hne hne) ?_
            rw [← e, hpr]
            exact pr_nz hp zn
          exact this (bne_iff_ne.mpr h3)
        | some lot =>
          have hl := List.mem_of_find?_eq_some hf
          have hne := List.find?_some hf
          show (((m + 1 : Nat) : Int), signF p (ldetF p (minorF t lot))) = _
          have hmd := md lot hl
          have hne2 : det (m + 1) (mm (Z ++ N) n (m + 1) lot) % p ≠ 0 := fun q => by
            rw [hmd, Int.mul_assoc] at hne
            rw [mul_z1 q] at hne
            simp at hne
          rw [hmd, hkL, e]
          congr 1
          show sp p _ = _
          rw [sp_mul hp, sp_mul hp, sp_sq hp hne2, Int.one_mul, ← e, hpr, sp_pr hp]
      · rw [List.find?_eq_none.mpr fun lot hl => ?_]
        · exact ih (by omega) (by omega)
        · rw [md lot hl]
          have h3 : (pr (m + 1) fun c => ((Z ++ N).getD (n - (m + 1) + c) t0).d) % p = 0 := by
            show ((Z ++ N).getD (n - (m + 1) + 0) t0).d * _ % p = 0
            exact mul_z1 (zz _ (by omega))
          rw [mul_z2 h3]
          simp
  have := go n (by omega) (Nat.le_refl n)
  unfold lkindF
  rw [hm.1]
  exact this
end
end Dt

set_option Elab.async false
set_option linter.all false
set_option autoImplicit false
/-! The package's squares are squares. -/
namespace Dt
open Rk
def fn (r : List Int) : Nat → Int := fun j => r.getD j 0
/-- the between of two rows -/
def Bl (n : Nat) (A : M) (x y : Nat → Int) : Int := su n fun i => su n fun j => x i * A i j * y j
section
variable {n : Nat} {A : M}
theorem Bl_addl {x x' y : Nat → Int} {c : Int} : Bl n A (fun i => x i + c * x' i) y = Bl n A x y + c * Bl n A x' y := by
  unfold Bl
  rw [← su_mul, ← su_add]
  refine su_congr fun i _ => ?_
  rw [← su_mul, ← su_add]
  refine su_congr fun j _ => ?_
  grind
theorem Bl_addr {x y y' : Nat → Int} {c : Int} : Bl n A x (fun i => y i + c * y' i) = Bl n A x y + c * Bl n A x y' := by
  unfold Bl
  rw [← su_mul, ← su_add]
  refine su_congr fun i _ => ?_
  rw [← su_mul, ← su_add]
  refine su_congr fun j _ => ?_
  grind
theorem Bl_suml {y : Nat → Int} {g : Nat → Nat → Int} {k : Nat → Int} : ∀ {m : Nat}, Bl n A (fun i => su m fun c => k c * g c i) y = su m fun c => k c * Bl n A (g c) y
  | 0 => by
    unfold Bl
    exact su_zero fun i _ => su_zero fun j _ => by
      show (0 : Int) * _ * _ = 0
      rw [Int.zero_mul, Int.zero_mul]
  | m + 1 => by
    show Bl n A (fun i => su m (fun c => k c * g c i) + k m * g m i) y = su m (fun c => k c * Bl n A (g c) y) + k m * Bl n A (g m) y
    rw [Bl_addl, Bl_suml]
theorem Bl_sumr {x : Nat → Int} {g : Nat → Nat → Int} {k : Nat → Int} : ∀ {m : Nat}, Bl n A x (fun i => su m fun c => k c * g c i) = su m fun c => k c * Bl n A x (g c)
  | 0 => by
    unfold Bl
    exact su_zero fun i _ => su_zero fun j _ => by
      show _ * (0 : Int) = 0
      rw [Int.mul_zero]
  | m + 1 => by
    show Bl n A x (fun i => su m (fun c => k c * g c i) + k m * g m i) = su m (fun c => k c * Bl n A x (g c)) + k m * Bl n A x (g m)
    rw [Bl_addr, Bl_sumr]
theorem Bl_sym {x y : Nat → Int} (h : ∀ i j, i < n → j < n → A i j = A j i) : Bl n A x y = Bl n A y x := by
  unfold Bl
  rw [su_comm]
  refine su_congr fun i hi => su_congr fun j hj => ?_
  rw [h j i hj hi]
  grind
theorem Bl_cg {p : Int} {x x' y y' : Nat → Int} (hx : ∀ i, i < n → cg p (x i) (x' i)) (hy : ∀ i, i < n → cg p (y i) (y' i)) : cg p (Bl n A x y) (Bl n A x' y') :=
  su_cg fun i hi => su_cg fun j hj => ((hx i hi).mul cg.rfl).mul (hy j hj)
theorem Bl_unit {a b : Nat} (ha : a < n) (hb : b < n) : Bl n A (id1 a) (id1 b) = A a b := by
  unfold Bl
  rw [su_one (k := a) ha fun i hi hne => su_zero fun j hj => by
    unfold id1
    rw [if_neg (by omega), Int.zero_mul, Int.zero_mul], su_one (k := b) hb fun j hj hne => by
    unfold id1
    rw [if_neg (c := b = j) (by omega), Int.mul_zero]]
  unfold id1
  rw [if_pos rfl, if_pos rfl]
  omega
end
/-! ### the package's functions -/
theorem fn_add {p c : Int} : ∀ {r s : List Int} {j : Nat}, j < r.length → j < s.length → fn (addF p r s c) j = (fn r j + c * fn s j) % p
  | [], _, _, h, _ => by simp at h
  | _ :: _, [], _, _, h => by simp at h
  | u :: r, v :: s, 0, _, _ => rfl
  | u :: r, v :: s, j + 1, h1, h2 => fn_add (r := r) (s := s) (j := j) (by simpa using h1) (by simpa using h2)
theorem fn_mix {p : Int} {n j : Nat} (hj : j < n) : ∀ {cs : List Int} {rows : List (List Int)} {acc : List Int}, acc.length = n → (∀ r, r ∈ rows → r.length = n) → rows.length ≤ cs.length →
    cg p (fn ((cs.zip rows).foldl (fun acc v => addF p acc v.2 v.1) acc) j) (fn acc j + su rows.length fun i => fn cs i * ge rows i j)
  | _, [], acc, _, _, _ => by
    rw [List.zip_nil_right]
    show cg p (fn acc j) (fn acc j + 0)
    rw [Int.add_zero]
    exact cg.rfl
  | [], r :: rows, _, _, _, h => by simp at h
  | c :: cs, r :: rows, acc, ha, hr, hl => by
    have h1 : (addF p acc r c).length = n := by
      rw [addF_len, ha, hr r List.mem_cons_self]
      omega
    refine (fn_mix hj (cs := cs) (rows := rows) (acc := addF p acc r c) h1 (fun r hr2 => hr r (List.mem_cons_of_mem _ hr2)) (by simpa using hl)).trans ?_
    rw [fn_add (by omega) (by rw [hr r List.mem_cons_self]; exact hj), List.length_cons, su_first]
    have e : fn acc j + (fn (c :: cs) 0 * ge (r :: rows) 0 j + su rows.length fun i => fn (c :: cs) (i + 1) * ge (r :: rows) (i + 1) j) = (fn acc j + c * fn r j) + su rows.length fun i => fn cs i * ge rows i j := by
      have e1 : ge (r :: rows) 0 j = fn r j := rfl
      have e2 : fn (c :: cs) 0 = c := rfl
      rw [e1, e2, Int.add_assoc]
      rfl
    rw [e]
    exact cg.mod.add cg.rfl
theorem dot_cg {p : Int} : ∀ {r s : List Int}, r.length = s.length → cg p ((r.zip s).map fun v => v.1 * v.2).sum (su r.length fun i => fn r i * fn s i)
  | [], _, _ => cg.rfl
  | _ :: _, [], h => by simp at h
  | u :: r, v :: s, h => by
    rw [List.zip_cons_cons, List.map_cons, List.sum_cons, List.length_cons, su_first]
    exact (cg.rfl (a := u * v)).add (dot_cg (by simpa using h))
section
variable {p : Int} {n : Nat} {t : List (List Int)}
theorem bet_cg {x y : List Int} (hp : Pr p) (hm : Mat p n n t) (hx : x.length = n) (hy : y.length = n) : cg p (betF p t x y) (Bl n (ge t) (fn x) (fn y)) := by
  by_cases h0 : n = 0
  · subst h0
    have : t = [] := List.length_eq_zero_iff.mp hm.1
    have hy0 : y = [] := List.length_eq_zero_iff.mp hy
    have hx0 : x = [] := List.length_eq_zero_iff.mp hx
    subst this
    subst hy0
    subst hx0
    show ((0 : Int) % p) % p = 0 % p
    rw [Int.zero_emod, Int.zero_emod]
  · have hh : (t.headD []).length = n := by
      cases t with
      | nil =>
        have := hm.1
        simp at this
        omega
      | cons r t => exact (hm.2 r List.mem_cons_self).1
    have hl : (ledF p x t).length = n := by
      unfold ledF
      rw [hh]
      exact (mixF_row (ppos hp) fun r hr => (hm.2 r hr).1).1
    unfold betF dotF
    refine cg.mod.trans ((dot_cg (by rw [hl, hy])).trans ?_)
    rw [hl]
    unfold Bl
    rw [su_comm]
    refine su_cg fun j hj => ?_
    have h2 : cg p (fn (ledF p x t) j) (su n fun i => fn x i * ge t i j) := by
      unfold ledF mixF
      rw [hh]
      refine (fn_mix hj List.length_replicate (fun r hr => (hm.2 r hr).1) (by rw [hm.1, hx]; exact Nat.le_refl n)).trans ?_
      rw [hm.1]
      have : fn (List.replicate n 0) j = 0 := by
        unfold fn
        rw [List.getD_eq_getElem?_getD, List.getElem?_replicate, if_pos hj]
        rfl
      rw [this, Int.zero_add]
      exact cg.rfl
    refine (h2.mul cg.rfl).trans (cg.of ?_)
    rw [← su_mulr]
theorem bet_b {x y : List Int} (hp : Pr p) : 0 ≤ betF p t x y ∧ betF p t x y < p := emod_b (ppos hp)
theorem undone_mul {x : Int} (hp : Pr p) (h : 0 ≤ x ∧ x < p) (hx : x ≠ 0) : undone p x * x % p = 1 := by
  have key : ∀ p : Int, Pr p → ∀ a ∈ rg p.toNat, a ≠ 0 → undone p a * a % p = 1 := by
    rintro p (rfl | rfl | rfl | rfl | rfl) <;> decide +kernel
  exact key p hp x (mem_rg.mpr (by omega)) hx
end
/-! ### sums of multiples -/
inductive Spn (p : Int) (n : Nat) (G : List (List Int)) : (Nat → Int) → Prop
  | mem {r : List Int} : r ∈ G → Spn p n G (fn r)
  | zero : Spn p n G fun _ => 0
  | add {u v : Nat → Int} (c : Int) : Spn p n G u → Spn p n G v → Spn p n G fun j => u j + c * v j
  | cg {u v : Nat → Int} : Spn p n G u → (∀ j, j < n → cg p (u j) (v j)) → Spn p n G v
section
variable {p : Int} {n : Nat} {G G' : List (List Int)}
theorem Spn.trans (h : ∀ r, r ∈ G → Spn p n G' (fn r)) {w : Nat → Int} (s : Spn p n G w) : Spn p n G' w := by
  induction s with
  | mem hr => exact h _ hr
  | zero => exact .zero
  | add c _ _ a b => exact .add c a b
  | cg _ e a => exact .cg a e
theorem Spn.coef {w : Nat → Int} (s : Spn p n G w) : ∃ c : Nat → Int, ∀ j, j < n → Dt.cg p (w j) (su G.length fun i => c i * ge G i j) := by
  induction s with
  | mem hr =>
    obtain ⟨k, hk, e⟩ := List.mem_iff_getElem.mp hr
    refine ⟨eu k, fun j hj => cg.of ?_⟩
    rw [su_one (k := k) hk fun i hi hne => by unfold eu; rw [if_neg hne, Int.zero_mul]]
    unfold eu ge gr
    rw [if_pos rfl, Int.one_mul, List.getD_eq_getElem?_getD (l := G), List.getElem?_eq_getElem hk, e]
    rfl
  | zero => exact ⟨fun _ => 0, fun j hj => cg.of (su_zero fun i hi => Int.zero_mul _).symm⟩
  | add c _ _ a b =>
    obtain ⟨c1, h1⟩ := a
    obtain ⟨c2, h2⟩ := b
    refine ⟨fun i => c1 i + c * c2 i, fun j hj => ((h1 j hj).add (cg.rfl.mul (h2 j hj))).trans (cg.of ?_)⟩
    rw [← su_mul, ← su_add]
    refine su_congr fun i _ => ?_
    grind
  | cg _ e a =>
    obtain ⟨c, h⟩ := a
    exact ⟨c, fun j hj => (e j hj).symm.trans (h j hj)⟩
end
/-- squares told by rows: free, at right angles, with these worths -/
structure Sqs (p : Int) (n : Nat) (A : M) (F : List (List Int)) (N : List Int) : Prop where
  len : F.length = n
  nlen : N.length = n
  spn : ∀ a, a < n → Spn p n F (id1 a)
  bet : ∀ i j, i < n → j < n → cg p (Bl n A (fn (gr F i)) (fn (gr F j))) (if i = j then fn N i else 0)
theorem Sqs.dg {p : Int} {n : Nat} {A : M} {F : List (List Int)} {N : List Int} (h : Sqs p n A F N) : ∃ T : Nat → Nat → Int, Dg p n A ((List.range n).map fun c => ⟨fn N c, fun a => T a c, fun b => ge F c b⟩) := by
  have h1 : ∃ T : Nat → Nat → Int, ∀ a, a < n → ∀ j, j < n → cg p (id1 a j) (su n fun c => T a c * ge F c j) := by
    have : ∀ a, ∃ c : Nat → Int, a < n → ∀ j, j < n → cg p (id1 a j) (su n fun i => c i * ge F i j) := fun a => by
      by_cases ha : a < n
      · obtain ⟨c, hc⟩ := (h.spn a ha).coef
        rw [h.len] at hc
        exact ⟨c, fun _ => hc⟩
      · exact ⟨fun _ => 0, fun q => absurd q ha⟩
    exact ⟨fun a => Classical.choose (this a), fun a => Classical.choose_spec (this a)⟩
  obtain ⟨T, hT⟩ := h1
  refine ⟨T, by rw [List.length_map, List.length_range], fun a b ha hb => ?_, fun a b ha hb => ?_⟩
  · rw [sl_range]
    show cg p (A a b) (su n fun c => fn N c * T a c * T b c)
    have e1 : cg p (Bl n A (id1 a) (id1 b)) (Bl n A (fun j => su n fun c => T a c * ge F c j) (fun j => su n fun c => T b c * ge F c j)) := Bl_cg (hT a ha) (hT b hb)
    rw [Bl_unit ha hb] at e1
    refine e1.trans ?_
    rw [Bl_suml]
    refine su_cg fun c hc => ?_
    rw [Bl_sumr]
    have e2 : cg p (su n fun d => T b d * Bl n A (ge F c) (ge F d)) (T b c * fn N c) := by
      refine (su_cg (g := fun d => T b d * if c = d then fn N c else 0) fun d hd => cg.rfl.mul (h.bet c d hc hd)).trans (cg.of ?_)
      rw [su_one (k := c) hc fun i hi hne => by rw [if_neg (by omega), Int.mul_zero], if_pos rfl]
    refine (cg.rfl.mul e2).trans (cg.of ?_)
    grind
  · rw [sl_range]
    exact (hT a ha b hb).symm
section
variable {p : Int} {n : Nat} {t : List (List Int)}
/-- what holds between two turns -/
structure Inv (p : Int) (n : Nat) (t l f : List (List Int)) (ns : List Int) : Prop where
  len : f.length + l.length = n
  nlen : ns.length = f.length
  row : ∀ r, r ∈ f ++ l → Row p n r
  spn : ∀ a, a < n → Spn p n (f ++ l) (id1 a)
  ff : ∀ i j, i < f.length → j < f.length → cg p (Bl n (ge t) (fn (gr f i)) (fn (gr f j))) (if i = j then fn ns i else 0)
  fl : ∀ a b, a ∈ f → b ∈ l → cg p (Bl n (ge t) (fn a) (fn b)) 0
theorem fw1_none : ∀ {l : List (List Int)} {k : Nat}, fw1 p t k l = none → ∀ a, a ∈ l → betF p t a a = 0
  | [], _, _, a, h => by cases h
  | r :: l, k, h, a, ha => by
    have h' : (if betF p t r r ≠ 0 then some (k, r) else fw1 p t (k + 1) l) = none := h
    by_cases e : betF p t r r ≠ 0
    · rw [if_pos e] at h'
      cases h'
    · rw [if_neg e] at h'
      rcases List.mem_cons.mp ha with rfl | ha
      · exact Classical.byContradiction e
      · exact fw1_none h' a ha
theorem fw1_bet : ∀ {l : List (List Int)} {k i : Nat} {r : List Int}, fw1 p t k l = some (i, r) → betF p t r r ≠ 0
  | [], _, _, _, h => by cases h
  | a :: l, k, i, r, h => by
    have h' : (if betF p t a a ≠ 0 then some (k, a) else fw1 p t (k + 1) l) = some (i, r) := h
    by_cases e : betF p t a a ≠ 0
    · rw [if_pos e] at h'
      cases h'
      exact e
    · rw [if_neg e] at h'
      exact fw1_bet h'
theorem fw2_none : ∀ {l : List (List Int)} {k : Nat}, fw2 p t k l = none → ∀ i j, i < j → j < l.length → betF p t (gr l i) (gr l j) = 0
  | [], _, _, i, j, _, h => by simp at h
  | r :: l, k, h, i, j, hij, hj => by
    have h' : (match l.find? (fun o => betF p t r o != 0) with
      | some o => some (k, addF p r o 1)
      | none => fw2 p t (k + 1) l) = none := h
    cases hf : l.find? (fun o => betF p t r o != 0) with
    | some o =>
      rw [hf] at h'
      cases h'
    | none =>
      rw [hf] at h'
      obtain ⟨j, rfl⟩ : ∃ m, j = m + 1 := ⟨j - 1, by omega⟩
      cases i with
      | zero =>
        have hj2 : j < l.length := by simpa using hj
        have := List.find?_eq_none.mp hf _ (List.getElem_mem hj2)
        have e : gr (r :: l) (j + 1) = l[j] := by
          unfold gr
          rw [List.getD_cons_succ, List.getD_eq_getElem?_getD, List.getElem?_eq_getElem hj2]
          rfl
        rw [e]
        show betF p t r l[j] = 0
        simpa using this
      | succ i => exact fw2_none h' i j (by omega) (by simpa using hj)
theorem gr_mem {l : List (List Int)} {i : Nat} (h : i < l.length) : gr l i ∈ l := by
  unfold gr
  rw [List.getD_eq_getElem?_getD, List.getElem?_eq_getElem h]
  exact List.getElem_mem h
theorem gr_get {l : List (List Int)} {i : Nat} {r : List Int} (h : l[i]? = some r) : gr l i = r := by
  unfold gr
  rw [List.getD_eq_getElem?_getD, h]
  rfl
theorem gr_app1 {f g : List (List Int)} {i : Nat} (h : i < f.length) : gr (f ++ g) i = gr f i := by
  unfold gr
  rw [List.getD_eq_getElem?_getD, List.getElem?_append_left h, ← List.getD_eq_getElem?_getD]
theorem gr_app2 {f g : List (List Int)} {i : Nat} (h : f.length ≤ i) : gr (f ++ g) i = gr g (i - f.length) := by
  unfold gr
  rw [List.getD_eq_getElem?_getD, List.getElem?_append_right h, ← List.getD_eq_getElem?_getD]
theorem fn_app1 {f g : List Int} {i : Nat} (h : i < f.length) : fn (f ++ g) i = fn f i := by
  unfold fn
  rw [List.getD_eq_getElem?_getD, List.getElem?_append_left h, ← List.getD_eq_getElem?_getD]
theorem fn_app2 {f g : List Int} {i : Nat} (h : f.length ≤ i) : fn (f ++ g) i = fn g (i - f.length) := by
  unfold fn
  rw [List.getD_eq_getElem?_getD, List.getElem?_append_right h, ← List.getD_eq_getElem?_getD]
theorem cgz {x : Int} (h : 0 ≤ x ∧ x < p) (e : cg p x 0) : x = 0 := by
  have : x % p = 0 % p := e
  rw [Int.emod_eq_of_lt h.1 h.2, Int.zero_emod] at this
  exact this
variable (hp : Pr p) (hm : Mat p n n t) (hs : ∀ i j, i < n → j < n → ge t i j = ge t j i)
include hp hm hs
/-- what is taken: a row with a worth that is not 0; of the others it makes what was there -/
theorem fw_some {l : List (List Int)} {k : Nat} {r : List Int} (hl : ∀ a, a ∈ l → Row p n a) (h : fwF p t l = some (k, r)) : betF p t r r ≠ 0 ∧ ∃ a, l[k]? = some a ∧ (r = a ∨ ∃ o, o ∈ l.drop (k + 1) ∧ r = addF p a o 1) := by
  unfold fwF at h
  cases h1 : fw1 p t 0 l with
  | some q =>
    rw [h1] at h
    have e : q = (k, r) := Option.some.inj h
    subst e
    exact ⟨fw1_bet h1, r, (fw1_some h1).2, .inl rfl⟩
  | none =>
    rw [h1] at h
    obtain ⟨_, a, o, h3, h4, h5, h6⟩ := fw2_some h
    rw [Nat.sub_zero] at h3 h4
    have ha := List.mem_of_getElem? h3
    have ho := List.mem_of_mem_drop h4
    have ra := (hl a ha).1
    have ro := (hl o ho).1
    have rr : r.length = n := by rw [h5, addF_len, ra, ro, Nat.min_self]
    refine ⟨fun z => ?_, a, h3, .inr ⟨o, h4, h5⟩⟩
    have e1 := bet_cg hp hm rr rr
    have e2 : cg p (Bl n (ge t) (fn r) (fn r)) (Bl n (ge t) (fun j => fn a j + 1 * fn o j) (fun j => fn a j + 1 * fn o j)) := Bl_cg (fun i hi => by
      rw [h5, fn_add (by omega) (by omega)]
      exact cg.mod) (fun i hi => by
      rw [h5, fn_add (by omega) (by omega)]
      exact cg.mod)
    rw [Bl_addl, Bl_addr, Bl_addr, Bl_sym (x := fn o) (y := fn a) hs] at e2
    have e3 : cg p (Bl n (ge t) (fn a) (fn a)) 0 := (bet_cg hp hm ra ra).symm.trans (cg.of (fw1_none h1 a ha))
    have e4 : cg p (Bl n (ge t) (fn o) (fn o)) 0 := (bet_cg hp hm ro ro).symm.trans (cg.of (fw1_none h1 o ho))
    have e5 := (bet_cg hp hm ra ro).symm
    have e6 : cg p (betF p t r r) (2 * betF p t a o) := (e1.trans e2).trans ((((e3.add (cg.rfl.mul e5)).add (cg.rfl.mul (e5.add (cg.rfl.mul e4))))).trans (cg.of (by omega)))
    rw [z] at e6
    have e7 : 2 * betF p t a o % p = 0 := cg0 e6.symm (Int.zero_emod p)
    refine mul_nz hp ?_ ?_ e7
    · rcases hp with rfl | rfl | rfl | rfl | rfl <;> decide
    · rw [Int.emod_eq_of_lt (bet_b hp).1 (bet_b hp).2]
      exact h6
theorem Inv.turn {l f : List (List Int)} {ns : List Int} {k : Nat} {r : List Int} (I : Inv p n t l f ns) (h : fwF p t l = some (k, r)) : Inv p n t (restF p t l k r) (f ++ [r]) (ns ++ [betF p t r r]) := by
  have hl : ∀ a, a ∈ l → Row p n a := fun a ha => I.row a (List.mem_append_right _ ha)
  obtain ⟨hk, hr⟩ := fwF_row (ppos hp) hl h
  obtain ⟨hne, a, ha, hwh⟩ := fw_some hp hm hs hl h
  have ham := List.mem_of_getElem? ha
  have rowsr := restF_rows (t := t) (k := k) (ppos hp) hl hr
  -- r is at right angles to what was found
  have fr : ∀ x, x ∈ f → cg p (Bl n (ge t) (fn x) (fn r)) 0 := fun x hx => by
    rcases hwh with rfl | ⟨o, ho, e⟩
    · exact I.fl x r hx ham
    · have ho := List.mem_of_mem_drop ho
      have ra := (hl a ham).1
      have ro := (hl o ho).1
      have e2 : cg p (Bl n (ge t) (fn x) (fn r)) (Bl n (ge t) (fn x) (fun j => fn a j + 1 * fn o j)) := Bl_cg (fun i hi => cg.rfl) (fun i hi => by
        rw [e, fn_add (by omega) (by omega)]
        exact cg.mod)
      rw [Bl_addr] at e2
      exact e2.trans ((I.fl x a hx ham).add (cg.rfl.mul (I.fl x o hx ho)))
  let cf := fun o => (0 - betF p t o r * undone p (betF p t r r)) % p
  have hrest : ∀ b, b ∈ restF p t l k r → ∃ o, o ∈ l ∧ b = addF p o r (cf o) := fun b hb => by
    unfold restF at hb
    obtain ⟨o, ho, rfl⟩ := List.mem_map.mp hb
    refine ⟨o, ?_, rfl⟩
    rcases List.mem_append.mp ho with h | h
    · exact List.mem_of_mem_take h
    · exact List.mem_of_mem_drop h
  have hfn : ∀ o, o ∈ l → ∀ j, j < n → cg p (fn (addF p o r (cf o)) j) (fn o j + cf o * fn r j) := fun o ho j hj => by
    rw [fn_add (by rw [(hl o ho).1]; exact hj) (by rw [hr.1]; exact hj)]
    exact cg.mod
  refine ⟨by rw [restF_len hk, List.length_append, List.length_singleton]; have := I.len; omega, by rw [List.length_append, List.length_append, I.nlen]; rfl, fun x hx => ?_, fun b hb => ?_, fun i j hi hj => ?_, fun x b hx hb => ?_⟩
  · rcases List.mem_append.mp hx with hx | hx
    · rcases List.mem_append.mp hx with hx | hx
      · exact I.row x (List.mem_append_left _ hx)
      · rw [List.mem_singleton.mp hx]
        exact hr
    · exact rowsr x hx
  · have hrm : r ∈ f ++ [r] ++ restF p t l k r := List.mem_append_left _ (List.mem_append_right _ (List.mem_singleton.mpr rfl))
    -- the others
    have oth : ∀ o, o ∈ l.take k ++ l.drop (k + 1) → Spn p n (f ++ [r] ++ restF p t l k r) (fn o) := fun o ho => by
      have hol : o ∈ l := by
        rcases List.mem_append.mp ho with h | h
        · exact List.mem_of_mem_take h
        · exact List.mem_of_mem_drop h
      have hin : addF p o r (cf o) ∈ f ++ [r] ++ restF p t l k r := List.mem_append_right _ (List.mem_map.mpr ⟨o, ho, rfl⟩)
      refine Spn.cg (Spn.add (- cf o) (Spn.mem hin) (Spn.mem hrm)) fun j hj => ?_
      refine ((hfn o hol j hj).add cg.rfl).trans (cg.of ?_)
      grind
    refine Spn.trans (fun x hx => ?_) (I.spn b hb)
    rcases List.mem_append.mp hx with hx | hx
    · exact Spn.mem (List.mem_append_left _ (List.mem_append_left _ hx))
    · have hsplit : x ∈ l.take k ++ l.drop (k + 1) ∨ x = a := by
        obtain ⟨i, hi, e⟩ := List.mem_iff_getElem.mp hx
        by_cases h1 : i < k
        · left
          refine List.mem_append_left _ (List.mem_iff_getElem?.mpr ⟨i, ?_⟩)
          rw [List.getElem?_take, if_pos h1, List.getElem?_eq_getElem hi, e]
        · by_cases h2 : i = k
          · right
            subst h2
            rw [List.getElem?_eq_getElem hi, e] at ha
            exact Option.some.inj ha
          · left
            refine List.mem_append_right _ (List.mem_iff_getElem?.mpr ⟨i - (k + 1), ?_⟩)
            rw [List.getElem?_drop, show k + 1 + (i - (k + 1)) = i by omega, List.getElem?_eq_getElem hi, e]
      rcases hsplit with h | rfl
      · exact oth x h
      · rcases hwh with e | ⟨o, ho, e⟩
        · rw [← e]
          exact Spn.mem hrm
        · have hol := List.mem_of_mem_drop ho
          refine Spn.cg (Spn.add (-1) (Spn.mem hrm) (oth o (List.mem_append_right _ ho))) fun j hj => ?_
          rw [e, fn_add (by rw [(hl x ham).1]; exact hj) (by rw [(hl o hol).1]; exact hj)]
          refine (cg.mod.add cg.rfl).trans (cg.of ?_)
          omega
  · rw [List.length_append, List.length_singleton] at hi hj
    have hrr := (bet_cg hp hm hr.1 hr.1).symm
    by_cases h1 : i < f.length
    · rw [gr_app1 h1]
      by_cases h2 : j < f.length
      · rw [gr_app1 h2, fn_app1 (by rw [I.nlen]; exact h1)]
        exact I.ff i j h1 h2
      · rw [gr_app2 (by omega), show j - f.length = 0 by omega, if_neg (by omega)]
        exact fr _ (gr_mem h1)
    · rw [gr_app2 (by omega), show i - f.length = 0 by omega]
      by_cases h2 : j < f.length
      · rw [gr_app1 h2, if_neg (by omega), Bl_sym hs]
        exact fr _ (gr_mem h2)
      · rw [gr_app2 (by omega), show j - f.length = 0 by omega, if_pos (by omega), fn_app2 (by rw [I.nlen]; omega), I.nlen, show i - f.length = 0 by omega]
        exact hrr
  · obtain ⟨o, ho, rfl⟩ := hrest b hb
    have e2 : cg p (Bl n (ge t) (fn x) (fn (addF p o r (cf o)))) (Bl n (ge t) (fn x) (fun j => fn o j + cf o * fn r j)) := Bl_cg (fun i hi => cg.rfl) (hfn o ho)
    rw [Bl_addr] at e2
    refine e2.trans ?_
    rcases List.mem_append.mp hx with hx | hx
    · refine ((I.fl x o hx ho).add (cg.rfl.mul (fr x hx))).trans (cg.of ?_)
      omega
    · rw [List.mem_singleton.mp hx, Bl_sym (x := fn r) (y := fn o) hs]
      have h1 := (bet_cg hp hm (hl o ho).1 hr.1).symm
      have h2 := (bet_cg hp hm hr.1 hr.1).symm
      have h3 : cg p (undone p (betF p t r r) * betF p t r r) 1 := by
        show _ = 1 % p
        rw [undone_mul hp (bet_b hp) hne]
        exact (Int.emod_eq_of_lt (by omega) (by have := hp.b; omega)).symm
      refine (h1.add ((cg.mod (a := 0 - betF p t o r * undone p (betF p t r r))).mul h2)).trans ?_
      have h4 := (cg.rfl (p := p) (a := betF p t o r)).sub ((cg.rfl (a := betF p t o r)).mul h3)
      refine (cg.of ?_).trans (h4.trans (cg.of (by omega)))
      grind
theorem Inv.end {l f : List (List Int)} {ns : List Int} (I : Inv p n t l f ns) (h : fwF p t l = none) : Sqs p n (ge t) (f ++ l) (ns ++ List.replicate l.length 0) := by
  have hl : ∀ a, a ∈ l → Row p n a := fun a ha => I.row a (List.mem_append_right _ ha)
  have h1 : fw1 p t 0 l = none := by
    unfold fwF at h
    cases q : fw1 p t 0 l with
    | none => rfl
    | some q' =>
      rw [q] at h
      cases h
  have h2 : fw2 p t 0 l = none := by
    unfold fwF at h
    rw [h1] at h
    exact h
  have ll : ∀ i j, i < l.length → j < l.length → cg p (Bl n (ge t) (fn (gr l i)) (fn (gr l j))) 0 := fun i j hi hj => by
    have r1 := (hl _ (gr_mem hi)).1
    have r2 := (hl _ (gr_mem hj)).1
    rcases Nat.lt_trichotomy i j with h | h | h
    · exact (bet_cg hp hm r1 r2).symm.trans (cg.of (fw2_none h2 i j h hj))
    · subst h
      exact (bet_cg hp hm r1 r1).symm.trans (cg.of (fw1_none h1 _ (gr_mem hi)))
    · rw [Bl_sym hs]
      exact (bet_cg hp hm r2 r1).symm.trans (cg.of (fw2_none h2 j i h hi))
  have hlen := I.len
  have hnlen := I.nlen
  refine ⟨by rw [List.length_append]; exact hlen, by rw [List.length_append, List.length_replicate, hnlen]; exact hlen, I.spn, fun i j hi hj => ?_⟩
  have zr : ∀ i, f.length ≤ i → fn (ns ++ List.replicate l.length 0) i = 0 := fun i hi => by
    rw [fn_app2 (by omega)]
    unfold fn
    rw [List.getD_eq_getElem?_getD, List.getElem?_replicate]
    split <;> rfl
  by_cases k1 : i < f.length
  · rw [gr_app1 k1]
    by_cases k2 : j < f.length
    · rw [gr_app1 k2, fn_app1 (by omega)]
      exact I.ff i j k1 k2
    · rw [gr_app2 (by omega), if_neg (by omega)]
      exact I.fl _ _ (gr_mem k1) (gr_mem (by omega))
  · rw [gr_app2 (by omega), zr i (by omega)]
    have e : (if i = j then (0 : Int) else 0) = 0 := by split <;> rfl
    rw [e]
    by_cases k2 : j < f.length
    · rw [gr_app1 k2, Bl_sym hs]
      exact I.fl _ _ (gr_mem k2) (gr_mem (by omega))
    · rw [gr_app2 (by omega)]
      exact ll _ _ (by omega) (by omega)
theorem sq_go : ∀ (m : Nat) (l f : List (List Int)) (ns : List Int), l.length = m → Inv p n t l f ns → Sqs p n (ge t) (sqF p t m l f ns).1 (sqF p t m l f ns).2 := by
  intro m
  induction m with
  | zero =>
    intro l f ns hlm I
    have : l = [] := List.length_eq_zero_iff.mp hlm
    subst this
    exact I.end hp hm hs fwF_nil
  | succ m ih =>
    intro l f ns hlm I
    cases hf : fwF p t l with
    | none =>
      have e := sqF_none (f := f) (ns := ns) hf
      rw [hlm] at e
      rw [e]
      exact hlm ▸ I.end hp hm hs hf
    | some q =>
      obtain ⟨k, r⟩ := q
      obtain ⟨hk, _⟩ := fwF_row (ppos hp) (fun a ha => I.row a (List.mem_append_right _ ha)) hf
      have e := sqF_some (f := f) (ns := ns) hk hf
      rw [hlm, restF_len hk, hlm] at e
      rw [e]
      exact ih _ _ _ (by rw [restF_len hk]; omega) (I.turn hp hm hs hf)
theorem squares_sqs : Sqs p n (ge t) (squaresF p t).1 (squaresF p t).2 := by
  have hb := hp.b
  unfold squaresF
  have hid := idF_tab (p := p) (n := n) (by omega)
  have gid : ∀ a, a < n → gr (idF n) a = unitF n a := fun a ha => by
    unfold gr idF
    rw [List.getD_eq_getElem?_getD, List.getElem?_map, rg_get ha]
    rfl
  refine sq_go hp hm hs _ _ _ _ (by rw [hm.1]; exact hid.1) ⟨by rw [hm.1, hid.1]; exact Nat.zero_add n, rfl, fun r hr => by rw [hm.1] at hr; exact hid.2 r hr, fun a ha => ?_, fun i j hi hj => by simp at hi, fun a b ha hb => by cases ha⟩
  rw [hm.1]
  have hmem : unitF n a ∈ [] ++ idF n := by
    show unitF n a ∈ idF n
    rw [← gid a ha]
    exact gr_mem (by rw [hid.1]; exact ha)
  refine Spn.cg (Spn.mem hmem) fun j hj => cg.of ?_
  unfold fn unitF id1
  rw [List.getD_eq_getElem?_getD, List.getElem?_map, rg_get hj]
  show (if (j : Int) = (a : Int) then (1 : Int) else 0) = _
  split <;> split <;> first | rfl | omega
end
theorem signs_pl {p : Int} : ∀ {ns : List Int} {s : Int}, ns.foldl (fun s x => s * signF p x) s = s * pl (ns.map (signF p))
  | [], s => (Int.mul_one s).symm
  | x :: ns, s => by
    show ns.foldl (fun s x => s * signF p x) (s * signF p x) = s * (signF p x * pl (ns.map (signF p)))
    rw [signs_pl, Int.mul_assoc]
/-- the package's kind is told by squares -/
theorem kind_squares {p : Int} {n : Nat} {t : List (List Int)} (hp : Pr p) (hm : Mat p n n t) (hs : ∀ i j, i < n → j < n → ge t i j = ge t j i) : ∃ L, Dg p n (ge t) L ∧ kindF p t = ((n : Int), kL p L) := by
  have S := squares_sqs hp hm hs
  obtain ⟨T, hT⟩ := S.dg
  refine ⟨_, hT, ?_⟩
  unfold kindF worthsF
  rw [hm.1]
  have hb : ∀ x, x ∈ (squaresF p t).2 → 0 ≤ x ∧ x < p := fun x hx => sqF_rests (ppos hp) _ _ _ _ (fun y hy => by cases hy) x hx
  have hnl := S.nlen
  generalize hN : (squaresF p t).2 = N at *
  -- the numbers, one after another
  have e : N = (List.range n).map fun c => fn N c := by
    refine List.ext_getElem? fun i => ?_
    rw [List.getElem?_map]
    by_cases hi : i < n
    · rw [List.getElem?_range hi, List.getElem?_eq_getElem (by omega)]
      unfold fn
      rw [Option.map_some, List.getD_eq_getElem?_getD, List.getElem?_eq_getElem (by omega)]
      rfl
    · rw [List.getElem?_eq_none (by omega), List.getElem?_eq_none (by rw [List.length_range]; omega)]
      rfl
  have e2 : ((List.range n).map fun c => (⟨fn N c, fun a => T a c, fun b => ge (squaresF p t).1 c b⟩ : Tr)).filter (nz p) = ((List.range n).filter fun c => fn N c != 0).map fun c => ⟨fn N c, fun a => T a c, fun b => ge (squaresF p t).1 c b⟩ := by
    rw [List.filter_map]
    congr 1
    refine List.filter_congr fun c hc => ?_
    have hc2 : c < N.length := by rw [hnl]; exact List.mem_range.mp hc
    have hmem : fn N c ∈ N := by
      unfold fn
      rw [List.getD_eq_getElem?_getD, List.getElem?_eq_getElem hc2]
      exact List.getElem_mem hc2
    show (fn N c % p != 0) = (fn N c != 0)
    rw [Int.emod_eq_of_lt (hb _ hmem).1 (hb _ hmem).2]
  have e3 : N.filter (fun r => r != 0) = ((List.range n).filter fun c => fn N c != 0).map fun c => fn N c := by
    conv => lhs; rw [e]
    rw [List.filter_map]
    rfl
  unfold kL
  rw [e2, e3, List.length_map, List.length_map, signsF, signs_pl, Int.one_mul, List.map_map, List.map_map]
  congr 2
  congr 1
  refine List.map_congr_left fun c hc => ?_
  have hc2 : c < N.length := by rw [hnl]; exact List.mem_range.mp (List.mem_filter.mp hc).1
  have hmem : fn N c ∈ N := by
    unfold fn
    rw [List.getD_eq_getElem?_getD, List.getElem?_eq_getElem hc2]
    exact List.getElem_mem hc2
  show signF p (fn N c) = sp p (fn N c)
  unfold sp
  rw [Int.emod_eq_of_lt (hb _ hmem).1 (hb _ hmem).2]
/-- the package's kind is the law's -/
theorem kind_is {p : Int} {n : Nat} {t : List (List Int)} (hp : Pr p) (hm : Mat p n n t) (hn : n ≤ 6) (hs : ∀ i j, i < n → j < n → ge t i j = ge t j i) : kindF p t = ((n : Int), lkindF p t) := by
  obtain ⟨L, h1, h2⟩ := kind_squares hp hm hs
  rw [h2, kind_law hp hm hn h1]
end Dt

set_option Elab.async false
set_option linter.all false
set_option autoImplicit false
/-! Rooms led, side by side, plain. -/
namespace Dt
open Rk
/-- a room's table -/
structure Rm (p : Int) (n : Nat) (t : List (List Int)) : Prop where
  mat : Mat p n n t
  sym : ∀ i j, i < n → j < n → ge t i j = ge t j i
theorem kind_dg {p : Int} {n : Nat} {t : List (List Int)} {L : List Tr} (hp : Pr p) (h : Rm p n t) (hn : n ≤ 6) (g : Dg p n (ge t) L) : kindF p t = ((n : Int), kL p L) := by
  rw [kind_is hp h.mat hn h.sym, kind_law hp h.mat hn g]
theorem pl_sign {p : Int} (hp : Pr p) : ∀ {L : List Tr}, (∀ x, x ∈ L → x.d % p ≠ 0) → pl (L.map fun x => sp p x.d) = 1 ∨ pl (L.map fun x => sp p x.d) = -1
  | [], _ => .inl rfl
  | x :: L, h => by
    have h1 := sp_sq hp (h x List.mem_cons_self)
    have h2 : sp p x.d = 1 ∨ sp p x.d = -1 := by
      unfold sp signF at h1 ⊢
      split at h1
      · rw [Int.zero_mul] at h1
        cases h1
      · rename_i h0
        rw [if_neg h0]
        split
        · exact .inl rfl
        · exact .inr rfl
    have h3 := pl_sign hp (L := L) fun y hy => h y (List.mem_cons_of_mem _ hy)
    show sp p x.d * pl (L.map fun x => sp p x.d) = 1 ∨ sp p x.d * pl (L.map fun x => sp p x.d) = -1
    rcases h2 with h2 | h2 <;> rcases h3 with h3 | h3 <;> rw [h2, h3]
    · exact .inl rfl
    · exact .inr rfl
    · exact .inr rfl
    · exact .inl rfl
theorem nz_mem {p : Int} {L : List Tr} {x : Tr} (h : x ∈ L.filter (nz p)) : x.d % p ≠ 0 := by
  have := (List.mem_filter.mp h).2
  unfold nz at this
  simpa using this
/-- a kind -/
structure Kd (k : Kind) (n : Nat) (r : Nat) (s : Int) : Prop where
  eq : k = ((n : Int), (r : Int), s)
  le : r ≤ n
  sg : s = 1 ∨ s = -1
  one : r = 0 → s = 1
theorem kL_ok {p : Int} {n : Nat} {A : M} {L : List Tr} (hp : Pr p) (g : Dg p n A L) : ∃ (r : Nat) (s : Int), Kd ((n : Int), kL p L) n r s := by
  refine ⟨(L.filter (nz p)).length, pl ((L.filter (nz p)).map fun x => sp p x.d), rfl, ?_, pl_sign hp fun x hx => nz_mem hx, fun h => ?_⟩
  · have := List.length_filter_le (nz p) L
    rw [g.len] at this
    exact this
  · rw [List.length_eq_zero_iff.mp h]
    rfl
theorem kind_ok {p : Int} {n : Nat} {t : List (List Int)} (hp : Pr p) (h : Rm p n t) : ∃ (r : Nat) (s : Int), Kd (kindF p t) n r s := by
  obtain ⟨L, h1, h2⟩ := kind_squares hp h.mat h.sym
  rw [h2]
  exact kL_ok hp h1
/-! ### led by one step -/
def ledS (p : Int) (t : List (List Int)) (one other : Nat) (often : Int) : List (List Int) := (t.set one (addF p (gr t one) (gr t other) often)).map fun row => row.set one ((row.getD one 0 + often * row.getD other 0) % p)
section
variable {p often : Int} {n one other : Nat} {t : List (List Int)}
theorem mat_set {r : List Int} {i : Nat} (h : Mat p n n t) (hr : Row p n r) : Mat p n n (t.set i r) := by
  refine ⟨by rw [List.length_set]; exact h.1, fun x hx => ?_⟩
  rcases List.mem_or_eq_of_mem_set hx with hx | hx
  · exact h.2 x hx
  · rw [hx]
    exact hr
theorem row_set {r : List Int} {i : Nat} {x : Int} (h : Row p n r) (hx : 0 ≤ x ∧ x < p) : Row p n (r.set i x) := by
  refine ⟨by rw [List.length_set]; exact h.1, fun y hy => ?_⟩
  rcases List.mem_or_eq_of_mem_set hy with hy | hy
  · exact h.2 y hy
  · rw [hy]
    exact hx
theorem ledS_mat (hp : 0 < p) (h : Mat p n n t) (h1 : one < n) (h2 : other < n) : Mat p n n (ledS p t one other often) := by
  have hm := mat_set (i := one) h (addF_row (c := often) hp (h.get h1).2.1 (h.get h2).2.1)
  refine ⟨by unfold ledS; rw [List.length_map]; exact hm.1, fun x hx => ?_⟩
  obtain ⟨r, hr, rfl⟩ := List.mem_map.mp hx
  exact row_set (hm.2 r hr) (emod_b hp)
theorem ge_map {φ : List Int → List Int} {a b : Nat} (ha : a < t.length) : ge (t.map φ) a b = (φ (gr t a)).getD b 0 := by
  unfold ge gr
  congr 1
  rw [List.getD_eq_getElem?_getD, List.getElem?_map, List.getD_eq_getElem?_getD, List.getElem?_eq_getElem ha]
  rfl
theorem ge_set {r : List Int} {i a b : Nat} (hi : i < t.length) : ge (t.set i r) a b = if a = i then r.getD b 0 else ge t a b := by
  unfold ge gr
  rw [getD_set hi]
  split <;> rfl
theorem ge_ledS (h : Mat p n n t) (h1 : one < n) (h2 : other < n) {a b : Nat} (ha : a < n) (hb : b < n) : cg p (ge (ledS p t one other often) a b) (ge t a b + (if b = one then often else 0) * ge t a other + ((if a = one then often else 0) * (ge t other b + (if b = one then often else 0) * ge t other other))) := by
  have hl := h.1
  have hm1 : ∀ b, b < n → cg p (ge (t.set one (addF p (gr t one) (gr t other) often)) a b) (ge t a b + (if a = one then often else 0) * ge t other b) := fun b hb => by
    rw [ge_set (by omega)]
    by_cases e : a = one
    · rw [if_pos e, if_pos e, e]
      have := fn_add (p := p) (c := often) (r := gr t one) (s := gr t other) (j := b) (by rw [(h.get h1).2.1]; exact hb) (by rw [(h.get h2).2.1]; exact hb)
      unfold fn at this
      rw [this]
      exact cg.mod
    · rw [if_neg e, if_neg e, Int.zero_mul, Int.add_zero]
      exact cg.rfl
  unfold ledS
  have hlr : (gr (t.set one (addF p (gr t one) (gr t other) often)) a).length = n := by
    have := (show (t.set one (addF p (gr t one) (gr t other) often)).length = n by rw [List.length_set]; exact hl)
    unfold gr
    rw [getD_set (by omega)]
    split
    · show (addF p (gr t one) (gr t other) often).length = n
      rw [addF_len, (h.get h1).2.1, (h.get h2).2.1]
      omega
    · exact (h.get ha).2.1
  rw [ge_map (by rw [List.length_set]; omega), getD_set (by omega)]
  by_cases e : b = one
  · rw [if_pos e, if_pos e, e]
    refine cg.mod.trans (((hm1 one h1).add (cg.rfl.mul (hm1 other h2))).trans (cg.of ?_))
    grind
  · rw [if_neg e, if_neg e]
    refine (hm1 b hb).trans (cg.of ?_)
    grind
def ledT (one other : Nat) (often : Int) (x : Tr) : Tr := ⟨x.d, fun a => x.v a + (if a = one then often else 0) * x.v other, fun b => x.s b - (if b = other then often else 0) * x.s one⟩
theorem ledS_dg {L : List Tr} (h : Mat p n n t) (h1 : one < n) (h2 : other < n) (hne : one ≠ other) (g : Dg p n (ge t) L) : Dg p n (ge (ledS p t one other often)) (L.map (ledT one other often)) := by
  refine ⟨by rw [List.length_map]; exact g.len, fun a b ha hb => ?_, fun a b ha hb => ?_⟩
  · refine (ge_ledS h h1 h2 ha hb).trans ?_
    rw [sl_map]
    show cg p _ (sl L fun x => x.d * (x.v a + (if a = one then often else 0) * x.v other) * (x.v b + (if b = one then often else 0) * x.v other))
    generalize (if a = one then often else 0) = α
    generalize (if b = one then often else 0) = β
    have e : (sl L fun x => x.d * (x.v a + α * x.v other) * (x.v b + β * x.v other)) = (sl L fun x => x.d * x.v a * x.v b) + β * (sl L fun x => x.d * x.v a * x.v other) + α * ((sl L fun x => x.d * x.v other * x.v b) + β * (sl L fun x => x.d * x.v other * x.v other)) := by
      rw [← sl_mul, ← sl_mul, ← sl_add, ← sl_add, ← sl_mul, ← sl_add]
      refine sl_congr fun x _ => ?_
      grind
    rw [e]
    exact ((g.val a b ha hb).add (cg.rfl.mul (g.val a other ha h2))).add (cg.rfl.mul ((g.val other b h2 hb).add (cg.rfl.mul (g.val other other h2 h2))))
  · rw [sl_map]
    show cg p (sl L fun x => (x.v a + (if a = one then often else 0) * x.v other) * (x.s b - (if b = other then often else 0) * x.s one)) _
    generalize hα : (if a = one then often else 0) = α
    generalize hβ : (if b = other then often else 0) = β
    have e : (sl L fun x => (x.v a + α * x.v other) * (x.s b - β * x.s one)) = (sl L fun x => x.v a * x.s b) + α * (sl L fun x => x.v other * x.s b) + (- β) * ((sl L fun x => x.v a * x.s one) + α * (sl L fun x => x.v other * x.s one)) := by
      rw [← sl_mul, ← sl_mul, ← sl_add, ← sl_add, ← sl_mul, ← sl_add]
      refine sl_congr fun x _ => ?_
      grind
    rw [e]
    refine (((g.inv a b ha hb).add (cg.rfl.mul (g.inv other b h2 hb))).add (cg.rfl.mul ((g.inv a one ha h1).add (cg.rfl.mul (g.inv other one h2 h1))))).trans (cg.of ?_)
    subst hα
    subst hβ
    unfold id1
    grind
theorem ledS_sym (hp : 0 < p) (h : Rm p n t) (h1 : one < n) (h2 : other < n) : ∀ i j, i < n → j < n → ge (ledS p t one other often) i j = ge (ledS p t one other often) j i := fun i j hi hj => by
  have hm := ledS_mat (often := often) hp h.mat h1 h2
  have b1 : 0 ≤ ge (ledS p t one other often) i j ∧ ge (ledS p t one other often) i j < p := ((hm.get hi).2.get hj).2
  have b2 : 0 ≤ ge (ledS p t one other often) j i ∧ ge (ledS p t one other often) j i < p := ((hm.get hj).2.get hi).2
  have e : cg p (ge (ledS p t one other often) i j) (ge (ledS p t one other often) j i) := by
    refine (ge_ledS h.mat h1 h2 hi hj).trans (cg.trans (cg.of ?_) (ge_ledS h.mat h1 h2 hj hi).symm)
    rw [h.sym i j hi hj, h.sym i other hi h2, h.sym other j h2 hj]
    grind
  have e2 : ge (ledS p t one other often) i j % p = ge (ledS p t one other often) j i % p := e
  rw [Int.emod_eq_of_lt b1.1 b1.2, Int.emod_eq_of_lt b2.1 b2.2] at e2
  exact e2
theorem ledS_rm (hp : 0 < p) (h : Rm p n t) (h1 : one < n) (h2 : other < n) : Rm p n (ledS p t one other often) := ⟨ledS_mat hp h.mat h1 h2, ledS_sym hp h h1 h2⟩
theorem kL_map {φ : Tr → Tr} {L : List Tr} (h : ∀ x, x ∈ L → (φ x).d = x.d) : kL p (L.map φ) = kL p L := by
  have e : (L.map φ).filter (nz p) = (L.filter (nz p)).map φ := by
    rw [List.filter_map]
    congr 1
    refine List.filter_congr fun x hx => ?_
    show ((φ x).d % p != 0) = (x.d % p != 0)
    rw [h x hx]
  unfold kL
  rw [e, List.length_map, List.map_map]
  congr 2
  refine List.map_congr_left fun x hx => ?_
  show sp p (φ x).d = sp p x.d
  rw [h x (List.mem_filter.mp hx).1]
/-- led, the kind is the same -/
theorem ledS_kind (hp : Pr p) (h : Rm p n t) (hn : n ≤ 6) (h1 : one < n) (h2 : other < n) (hne : one ≠ other) : kindF p (ledS p t one other often) = kindF p t := by
  obtain ⟨L, g, e⟩ := kind_squares hp h.mat h.sym
  rw [kind_dg hp (ledS_rm (ppos hp) h h1 h2) hn (ledS_dg h.mat h1 h2 hne g), e, kL_map (φ := ledT one other often) fun x _ => rfl]
end
/-! ### side by side -/
section
variable {p : Int} {n m : Nat} {t u : List (List Int)}
theorem row_pad {r : List Int} (hp : 0 < p) (h : Row p n r) : Row p (n + m) (r ++ List.replicate m 0) := ⟨by rw [List.length_append, List.length_replicate, h.1], fun x hx => by
  rcases List.mem_append.mp hx with hx | hx
  · exact h.2 x hx
  · rw [(List.mem_replicate.mp hx).2]
    exact ⟨Int.le_refl _, hp⟩⟩
theorem row_pad2 {r : List Int} (hp : 0 < p) (h : Row p m r) : Row p (n + m) (List.replicate n 0 ++ r) := ⟨by rw [List.length_append, List.length_replicate, h.1], fun x hx => by
  rcases List.mem_append.mp hx with hx | hx
  · rw [(List.mem_replicate.mp hx).2]
    exact ⟨Int.le_refl _, hp⟩
  · exact h.2 x hx⟩
theorem beside_mat (hp : 0 < p) (h : Mat p n n t) (k : Mat p m m u) : Mat p (n + m) (n + m) (besideF t u) := by
  refine ⟨by unfold besideF; rw [List.length_append, List.length_map, List.length_map, h.1, k.1], fun r hr => ?_⟩
  unfold besideF at hr
  rcases List.mem_append.mp hr with hr | hr
  · obtain ⟨r0, h0, rfl⟩ := List.mem_map.mp hr
    rw [k.1]
    exact row_pad hp (h.2 r0 h0)
  · obtain ⟨r0, h0, rfl⟩ := List.mem_map.mp hr
    rw [h.1]
    exact row_pad2 hp (k.2 r0 h0)
theorem ge_beside (h : Mat p n n t) (k : Mat p m m u) {a b : Nat} (ha : a < n + m) (hb : b < n + m) : ge (besideF t u) a b = if a < n then (if b < n then ge t a b else 0) else (if b < n then 0 else ge u (a - n) (b - n)) := by
  have hl := h.1
  have kl := k.1
  have e : gr (besideF t u) a = if a < n then gr t a ++ List.replicate m 0 else List.replicate n 0 ++ gr u (a - n) := by
    unfold besideF
    by_cases h1 : a < n
    · rw [if_pos h1, gr_app1 (by rw [List.length_map]; omega)]
      unfold gr
      rw [List.getD_eq_getElem?_getD, List.getElem?_map, List.getD_eq_getElem?_getD, List.getElem?_eq_getElem (by omega), kl]
      rfl
    · rw [if_neg h1, gr_app2 (by rw [List.length_map]; omega), List.length_map, hl]
      unfold gr
      rw [List.getD_eq_getElem?_getD, List.getElem?_map, List.getD_eq_getElem?_getD, List.getElem?_eq_getElem (by omega)]
      rfl
  have rep : ∀ (c d : Nat), (List.replicate c (0 : Int)).getD d 0 = 0 := fun c d => by
    rw [List.getD_eq_getElem?_getD, List.getElem?_replicate]
    split <;> rfl
  show (gr (besideF t u) a).getD b 0 = _
  rw [e]
  by_cases h1 : a < n
  · rw [if_pos h1, if_pos h1]
    have hrl := (h.get h1).2.1
    by_cases h2 : b < n
    · rw [if_pos h2]
      exact fn_app1 (by omega)
    · rw [if_neg h2]
      have := fn_app2 (f := gr t a) (g := List.replicate m 0) (i := b) (by omega)
      unfold fn at this
      rw [this, rep]
  · rw [if_neg h1, if_neg h1]
    by_cases h2 : b < n
    · rw [if_pos h2]
      have := fn_app1 (f := List.replicate n 0) (g := gr u (a - n)) (i := b) (by rw [List.length_replicate]; exact h2)
      unfold fn at this
      rw [this, rep]
    · rw [if_neg h2]
      have := fn_app2 (f := List.replicate n 0) (g := gr u (a - n)) (i := b) (by rw [List.length_replicate]; omega)
      unfold fn at this
      rw [this, List.length_replicate]
      rfl
theorem beside_rm (hp : 0 < p) (h : Rm p n t) (k : Rm p m u) : Rm p (n + m) (besideF t u) := ⟨beside_mat hp h.mat k.mat, fun i j hi hj => by
  rw [ge_beside h.mat k.mat hi hj, ge_beside h.mat k.mat hj hi]
  by_cases h1 : i < n
  · by_cases h2 : j < n
    · rw [if_pos h1, if_pos h2, if_pos h2, if_pos h1, h.sym i j h1 h2]
    · rw [if_pos h1, if_neg h2, if_neg h2, if_pos h1]
  · by_cases h2 : j < n
    · rw [if_neg h1, if_pos h2, if_pos h2, if_neg h1]
    · rw [if_neg h1, if_neg h2, if_neg h2, if_neg h1, k.sym _ _ (by omega) (by omega)]⟩
def padL (n : Nat) (x : Tr) : Tr := ⟨x.d, fun a => if a < n then x.v a else 0, fun b => if b < n then x.s b else 0⟩
def padR (n : Nat) (x : Tr) : Tr := ⟨x.d, fun a => if a < n then 0 else x.v (a - n), fun b => if b < n then 0 else x.s (b - n)⟩
theorem beside_dg {L K : List Tr} (h : Mat p n n t) (k : Mat p m m u) (g : Dg p n (ge t) L) (e : Dg p m (ge u) K) : Dg p (n + m) (ge (besideF t u)) (L.map (padL n) ++ K.map (padR n)) := by
  refine ⟨by rw [List.length_append, List.length_map, List.length_map, g.len, e.len], fun a b ha hb => ?_, fun a b ha hb => ?_⟩
  · rw [ge_beside h k ha hb, sl_append, sl_map, sl_map]
    by_cases h1 : a < n
    · rw [sl_zero (L := K) fun x _ => by
        show x.d * (if a < n then 0 else x.v (a - n)) * _ = 0
        rw [if_pos h1, Int.mul_zero, Int.zero_mul], Int.add_zero, if_pos h1]
      by_cases h2 : b < n
      · rw [if_pos h2]
        refine (g.val a b h1 h2).trans (cg.of (sl_congr fun x _ => ?_))
        show _ = x.d * (if a < n then x.v a else 0) * (if b < n then x.v b else 0)
        rw [if_pos h1, if_pos h2]
      · rw [if_neg h2, sl_zero fun x _ => by
          show x.d * _ * (if b < n then x.v b else 0) = 0
          rw [if_neg h2, Int.mul_zero]]
        exact cg.rfl
    · rw [sl_zero (L := L) fun x _ => by
        show x.d * (if a < n then x.v a else 0) * _ = 0
        rw [if_neg h1, Int.mul_zero, Int.zero_mul], Int.zero_add, if_neg h1]
      by_cases h2 : b < n
      · rw [if_pos h2, sl_zero fun x _ => by
          show x.d * _ * (if b < n then 0 else x.v (b - n)) = 0
          rw [if_pos h2, Int.mul_zero]]
        exact cg.rfl
      · rw [if_neg h2]
        refine (e.val _ _ (by omega) (by omega)).trans (cg.of (sl_congr fun x _ => ?_))
        show _ = x.d * (if a < n then 0 else x.v (a - n)) * (if b < n then 0 else x.v (b - n))
        rw [if_neg h1, if_neg h2]
  · rw [sl_append, sl_map, sl_map]
    by_cases h1 : a < n
    · rw [sl_zero (L := K) fun x _ => by
        show (if a < n then 0 else x.v (a - n)) * _ = 0
        rw [if_pos h1, Int.zero_mul], Int.add_zero]
      by_cases h2 : b < n
      · refine (cg.of (sl_congr fun x _ => ?_)).trans (g.inv a b h1 h2)
        show (if a < n then x.v a else 0) * (if b < n then x.s b else 0) = _
        rw [if_pos h1, if_pos h2]
      · rw [sl_zero fun x _ => by
          show _ * (if b < n then x.s b else 0) = 0
          rw [if_neg h2, Int.mul_zero]]
        unfold id1
        rw [if_neg (by omega)]
        exact cg.rfl
    · rw [sl_zero (L := L) fun x _ => by
        show (if a < n then x.v a else 0) * _ = 0
        rw [if_neg h1, Int.zero_mul], Int.zero_add]
      by_cases h2 : b < n
      · rw [sl_zero fun x _ => by
          show _ * (if b < n then 0 else x.s (b - n)) = 0
          rw [if_pos h2, Int.mul_zero]]
        unfold id1
        rw [if_neg (by omega)]
        exact cg.rfl
      · refine (cg.of (sl_congr fun x _ => ?_)).trans ((e.inv (a - n) (b - n) (by omega) (by omega)).trans (cg.of ?_))
        · show (if a < n then 0 else x.v (a - n)) * (if b < n then 0 else x.s (b - n)) = _
          rw [if_neg h1, if_neg h2]
        · unfold id1
          split <;> split <;> first | rfl | omega
theorem kL_append {L K : List Tr} : kL p (L ++ K) = ((kL p L).1 + (kL p K).1, (kL p L).2 * (kL p K).2) := by
  unfold kL
  rw [List.filter_append, List.length_append, List.map_append, pl_append]
  rfl
/-- side by side, sizes and ranks add up, signs are multiplied -/
theorem beside_kind (hp : Pr p) (h : Rm p n t) (k : Rm p m u) (hnm : n + m ≤ 6) : kindF p (besideF t u) = ((kindF p t).1 + (kindF p u).1, (kindF p t).2.1 + (kindF p u).2.1, (kindF p t).2.2 * (kindF p u).2.2) := by
  obtain ⟨L, g, e1⟩ := kind_squares hp h.mat h.sym
  obtain ⟨K, f, e2⟩ := kind_squares hp k.mat k.sym
  rw [kind_dg hp (beside_rm (ppos hp) h k) hnm (beside_dg h.mat k.mat g f), e1, e2, kL_append, kL_map (φ := padL n) fun x _ => rfl, kL_map (φ := padR n) fun x _ => rfl]
  rfl
end
/-! ### plain rooms -/
section
variable {p : Int} {n : Nat}
theorem diag_mat {d : List Int} (hp : 0 < p) (hl : d.length = n) (h : ∀ x, x ∈ d → 0 ≤ x ∧ x < p) : Mat p n n (diagF d) := by
  refine ⟨by rw [diagF, List.length_map, rg_len, hl], fun r hr => ?_⟩
  obtain ⟨a, ha, rfl⟩ := List.mem_map.mp hr
  refine ⟨by rw [List.length_map, rg_len, hl], fun x hx => ?_⟩
  obtain ⟨b, hb, rfl⟩ := List.mem_map.mp hx
  show 0 ≤ (if a = b then d.getD a.toNat 0 else 0) ∧ (if a = b then d.getD a.toNat 0 else 0) < p
  split
  · have := mem_rg.mp ha
    exact h _ (by
      rw [List.getD_eq_getElem?_getD, List.getElem?_eq_getElem (by omega)]
      exact List.getElem_mem _)
  · exact ⟨Int.le_refl _, hp⟩
theorem ge_diag {d : List Int} (hl : d.length = n) {a b : Nat} (ha : a < n) (hb : b < n) : ge (diagF d) a b = if a = b then fn d a else 0 := by
  have e : gr (diagF d) a = (rg d.length).map fun b => if (a : Int) = b then d.getD a 0 else 0 := by
    unfold gr diagF
    rw [List.getD_eq_getElem?_getD, List.getElem?_map, rg_get (by omega)]
    rfl
  show (gr (diagF d) a).getD b 0 = _
  rw [e, List.getD_eq_getElem?_getD, List.getElem?_map, rg_get (by omega)]
  show (if (a : Int) = (b : Int) then d.getD a 0 else 0) = _
  unfold fn
  split <;> split <;> first | rfl | omega
theorem diag_rm {d : List Int} (hp : 0 < p) (hl : d.length = n) (h : ∀ x, x ∈ d → 0 ≤ x ∧ x < p) : Rm p n (diagF d) := ⟨diag_mat hp hl h, fun i j hi hj => by
  rw [ge_diag hl hi hj, ge_diag hl hj hi]
  by_cases e : i = j
  · rw [e]
  · rw [if_neg e, if_neg (fun q => e q.symm)]⟩
theorem diag_dg {d : List Int} (hl : d.length = n) : Dg p n (ge (diagF d)) ((List.range n).map fun c => ⟨fn d c, fun a => id1 a c, fun b => id1 c b⟩) := by
  refine ⟨by rw [List.length_map, List.length_range], fun a b ha hb => cg.of ?_, fun a b ha hb => cg.of ?_⟩
  · rw [ge_diag hl ha hb, sl_range, su_one (k := a) ha fun i hi hne => by
      show _ * id1 a i * _ = 0
      unfold id1
      rw [if_neg (by omega), Int.mul_zero, Int.zero_mul]]
    show _ = fn d a * id1 a a * id1 b a
    unfold id1
    rw [if_pos rfl, Int.mul_one]
    by_cases e : a = b
    · rw [if_pos e, if_pos e.symm, Int.mul_one]
    · rw [if_neg e, if_neg (fun q => e q.symm), Int.mul_zero]
  · rw [sl_range, su_one (k := a) ha fun i hi hne => by
      show id1 a i * _ = 0
      unfold id1
      rw [if_neg (by omega), Int.zero_mul]]
    show id1 a a * id1 a b = _
    unfold id1
    rw [if_pos rfl, Int.one_mul]
theorem diag_kL {d : List Int} (hl : d.length = n) : kL p ((List.range n).map fun c => ⟨fn d c, fun a => id1 a c, fun b => id1 c b⟩) = ((((d.filter fun x => x % p != 0).length : Nat) : Int), pl ((d.filter fun x => x % p != 0).map (sp p))) := by
  have e : d = (List.range n).map fun c => fn d c := by
    refine List.ext_getElem? fun i => ?_
    rw [List.getElem?_map]
    by_cases hi : i < n
    · rw [List.getElem?_range hi, List.getElem?_eq_getElem (by omega)]
      unfold fn
      rw [Option.map_some, List.getD_eq_getElem?_getD, List.getElem?_eq_getElem (by omega)]
      rfl
    · rw [List.getElem?_eq_none (by omega), List.getElem?_eq_none (by rw [List.length_range]; omega)]
      rfl
  have e2 : d.filter (fun x => x % p != 0) = ((List.range n).filter fun c => fn d c % p != 0).map fun c => fn d c := by
    conv => lhs; rw [e]
    rw [List.filter_map]
    rfl
  unfold kL
  rw [e2, List.filter_map, List.length_map, List.length_map, List.map_map, List.map_map]
  rfl
theorem full_b {p : Int} {n : Nat} {r : Nat} {s : Int} (hp : Pr p) (hr : r ≤ n) : (fullF p ((n : Int), (r : Int), s)).length = n ∧ ∀ x, x ∈ fullF p ((n : Int), (r : Int), s) → 0 ≤ x ∧ x < p := by
  have hb := hp.b
  have ho := oddF_b hp
  have hlast : 0 ≤ lastF p s ∧ lastF p s < p := by
    unfold lastF
    split
    · omega
    · omega
  unfold fullF
  by_cases h : (r : Int) > 0
  · show ((if (r : Int) > 0 then List.replicate ((r : Int) - 1).toNat (1 : Int) ++ [lastF p s] else []) ++ List.replicate ((n : Int) - (r : Int)).toNat (0 : Int)).length = n ∧ ∀ x, x ∈ ((if (r : Int) > 0 then List.replicate ((r : Int) - 1).toNat (1 : Int) ++ [lastF p s] else []) ++ List.replicate ((n : Int) - (r : Int)).toNat (0 : Int)) → 0 ≤ x ∧ x < p
    rw [if_pos h]
    refine ⟨?_, fun x hx => ?_⟩
    · simp only [List.length_append, List.length_replicate, List.length_singleton]
      omega
    · rcases List.mem_append.mp hx with hx | hx
      · rcases List.mem_append.mp hx with hx | hx
        · rw [(List.mem_replicate.mp hx).2]
          omega
        · rw [List.mem_singleton.mp hx]
          exact hlast
      · rw [(List.mem_replicate.mp hx).2]
        omega
  · show ((if (r : Int) > 0 then List.replicate ((r : Int) - 1).toNat (1 : Int) ++ [lastF p s] else []) ++ List.replicate ((n : Int) - (r : Int)).toNat (0 : Int)).length = n ∧ ∀ x, x ∈ ((if (r : Int) > 0 then List.replicate ((r : Int) - 1).toNat (1 : Int) ++ [lastF p s] else []) ++ List.replicate ((n : Int) - (r : Int)).toNat (0 : Int)) → 0 ≤ x ∧ x < p
    rw [if_neg h]
    refine ⟨?_, fun x hx => ?_⟩
    · simp only [List.length_append, List.length_replicate, List.length_nil]
      omega
    · rcases List.mem_append.mp hx with hx | hx
      · cases hx
      · rw [(List.mem_replicate.mp hx).2]
        omega
theorem plain_rm {k : Kind} {r : Nat} {s : Int} (hp : Pr p) (h : Kd k n r s) : Rm p n (plainF p k) := by
  rw [h.eq]
  obtain ⟨h1, h2⟩ := full_b (s := s) hp h.le
  exact diag_rm (ppos hp) h1 h2
theorem sp_one (hp : Pr p) : sp p 1 = 1 := by rcases hp with rfl | rfl | rfl | rfl | rfl <;> decide +kernel
theorem pl_ones (hp : Pr p) : ∀ {m : Nat}, pl ((List.replicate m (1 : Int)).map (sp p)) = 1
  | 0 => rfl
  | m + 1 => by
    rw [List.replicate_succ, List.map_cons]
    show sp p 1 * pl _ = 1
    rw [sp_one hp, pl_ones hp]
    rfl
/-- the plain room has its kind -/
theorem plain_kind {k : Kind} {r : Nat} {s : Int} (hp : Pr p) (h : Kd k n r s) (hn : n ≤ 6) : kindF p (plainF p k) = k := by
  obtain ⟨rfl, hr, hs, h0⟩ := h
  have hb := hp.b
  obtain ⟨ho1, ho2, ho3⟩ := oddF_b hp
  obtain ⟨h1, h2⟩ := full_b (s := s) hp hr
  rw [kind_dg hp (plain_rm hp ⟨rfl, hr, hs, h0⟩) hn (diag_dg h1), diag_kL h1]
  have z1 : ∀ m : Nat, (List.replicate m (0 : Int)).filter (fun x => x % p != 0) = [] := fun m => List.filter_eq_nil_iff.mpr fun x hx => by
    rw [(List.mem_replicate.mp hx).2, Int.zero_emod]
    decide
  have z2 : ∀ m : Nat, (List.replicate m (1 : Int)).filter (fun x => x % p != 0) = List.replicate m 1 := fun m => List.filter_eq_self.mpr fun x hx => by
    rw [(List.mem_replicate.mp hx).2, Int.emod_eq_of_lt (by omega) (by omega)]
    decide
  have hlast : lastF p s % p ≠ 0 ∧ sp p (lastF p s) = s := by
    unfold lastF
    rcases hs with rfl | rfl
    · rw [if_pos rfl]
      exact ⟨by rw [Int.emod_eq_of_lt (by omega) (by omega)]; decide, sp_one hp⟩
    · rw [if_neg (by decide)]
      refine ⟨by rw [Int.emod_eq_of_lt (by omega) ho2]; omega, ?_⟩
      unfold sp
      rw [Int.emod_eq_of_lt (by omega) ho2]
      exact ho3
  unfold fullF
  by_cases hr0 : (r : Int) > 0
  · show ((n : Int), ((((((if (r : Int) > 0 then List.replicate ((r : Int) - 1).toNat (1 : Int) ++ [lastF p s] else []) ++ List.replicate ((n : Int) - (r : Int)).toNat (0 : Int)).filter fun x => x % p != 0).length : Nat) : Int), pl ((((if (r : Int) > 0 then List.replicate ((r : Int) - 1).toNat (1 : Int) ++ [lastF p s] else []) ++ List.replicate ((n : Int) - (r : Int)).toNat (0 : Int)).filter fun x => x % p != 0).map (sp p)))) = _
    rw [if_pos hr0, List.filter_append, List.filter_append, z1, z2, List.append_nil, show [lastF p s].filter (fun x => x % p != 0) = [lastF p s] by
      rw [List.filter_cons, if_pos (bne_iff_ne.mpr hlast.1)]
      rfl, List.map_append, pl_append, pl_ones hp, Int.one_mul]
    have e1 : pl ([lastF p s].map (sp p)) = s := by
      show sp p (lastF p s) * 1 = s
      rw [hlast.2, Int.mul_one]
    rw [e1, List.length_append, List.length_replicate, List.length_singleton]
    congr 2
    omega
  · show ((n : Int), ((((((if (r : Int) > 0 then List.replicate ((r : Int) - 1).toNat (1 : Int) ++ [lastF p s] else []) ++ List.replicate ((n : Int) - (r : Int)).toNat (0 : Int)).filter fun x => x % p != 0).length : Nat) : Int), pl ((((if (r : Int) > 0 then List.replicate ((r : Int) - 1).toNat (1 : Int) ++ [lastF p s] else []) ++ List.replicate ((n : Int) - (r : Int)).toNat (0 : Int)).filter fun x => x % p != 0).map (sp p)))) = _
    rw [if_neg hr0, List.nil_append, z1, h0 (by omega)]
    have : r = 0 := by omega
    rw [this]
    rfl
end
end Dt

set_option Elab.async false
set_option linter.all false
set_option autoImplicit false
/-! The law's drawn tables. -/
namespace Dt
open Rk
/-- a row more: a square or a nought -/
def diagS (p : Int) (n at_ : Nat) (s : List (List Int) × Pot) : List (List Int) × Pot :=
  if (drawF s.2 4).1 > 0 then (s.1 ++ [(List.replicate n 0).set at_ (drawF (drawF s.2 4).2 p).1], (drawF (drawF s.2 4).2 p).2) else (s.1 ++ [(List.replicate n 0).set at_ 0], (drawF s.2 4).2)
def diagN (p : Int) (n : Nat) (q : Pot) : Nat → List (List Int) × Pot
  | 0 => ([], q)
  | i + 1 => diagS p n i (diagN p n q i)
/-- one step -/
def stepD (p : Int) (n : Nat) (s : List (List Int) × Pot) : List (List Int) × Pot :=
  let a := drawF s.2 n
  let b := drawF a.2 (p - 1)
  let c := drawF b.2 ((n : Int) - 1)
  (ledS p s.1 a.1.toNat ((a.1 + 1 + c.1) % n).toNat (1 + b.1), c.2)
def tabN (p : Int) (n : Nat) (q : Pot) : Nat → List (List Int) × Pot
  | 0 => diagN p n q n
  | i + 1 => stepD p n (tabN p n q i)
def ltabF (p : Int) (n : Nat) (q : Pot) : List (List Int) × Pot := tabN p n q (if n > 1 then 2 * n else 0)
/-- the law's other rows -/
def lledF (p : Int) (t : List (List Int)) (q : Pot) : List (List Int) × Pot :=
  if t.length < 2 then (t, q) else
    let a := drawF q t.length
    let b := drawF a.2 (p - 1)
    (ledS p t a.1.toNat ((a.1 + 1) % t.length).toNat (1 + b.1), b.2)
theorem diag_ok {p : Int} {n : Nat} {q : Pot} (hp : Pr p) (hq : pOk q) : ∀ i, i ≤ n → pOk (diagN p n q i).2 ∧ (diagN p n q i).1.length = i ∧ ∀ a, a < i → ∃ x, 0 ≤ x ∧ x < p ∧ gr (diagN p n q i).1 a = (List.replicate n 0).set a x
  | 0, _ => ⟨hq, rfl, fun a h => by omega⟩
  | i + 1, hi => by
    obtain ⟨h1, h2, h3⟩ := diag_ok (n := n) (q := q) hp hq i (by omega)
    have hp0 := ppos hp
    have step : ∀ (x : Int) (q' : Pot), 0 ≤ x → x < p → pOk q' → diagN p n q (i + 1) = ((diagN p n q i).1 ++ [(List.replicate n 0).set i x], q') → pOk (diagN p n q (i + 1)).2 ∧ (diagN p n q (i + 1)).1.length = i + 1 ∧ ∀ a, a < i + 1 → ∃ x, 0 ≤ x ∧ x < p ∧ gr (diagN p n q (i + 1)).1 a = (List.replicate n 0).set a x := fun x q' hx1 hx2 hq' e => by
      rw [e]
      refine ⟨hq', by rw [List.length_append, h2]; rfl, fun a ha => ?_⟩
      by_cases h : a < i
      · obtain ⟨y, k1, k2, k3⟩ := h3 a h
        refine ⟨y, k1, k2, ?_⟩
        show gr ((diagN p n q i).1 ++ [_]) a = _
        rw [gr_app1 (f := (diagN p n q i).1) (i := a) (by omega), k3]
      · refine ⟨x, hx1, hx2, ?_⟩
        show gr ((diagN p n q i).1 ++ [_]) a = _
        rw [gr_app2 (f := (diagN p n q i).1) (i := a) (by omega), h2, show a - i = 0 by omega, show a = i by omega]
        rfl
    by_cases hd : (drawF (diagN p n q i).2 4).1 > 0
    · have b := draw_b (q := (drawF (diagN p n q i).2 4).2) (m := p) hp0
      exact step _ _ b.1 b.2 (draw_ok (draw_ok h1)) (if_pos hd)
    · exact step 0 _ (Int.le_refl _) hp0 (draw_ok h1) (if_neg hd)
theorem diagN_rm {p : Int} {n : Nat} {q : Pot} (hp : Pr p) (hq : pOk q) : Rm p n (diagN p n q n).1 := by
  obtain ⟨_, h2, h3⟩ := diag_ok (n := n) hp hq n (Nat.le_refl n)
  have hg : ∀ a b, a < n → b < n → a ≠ b → ge (diagN p n q n).1 a b = 0 := fun a b ha hb hne => by
    obtain ⟨x, _, _, e⟩ := h3 a ha
    unfold ge
    rw [e, getD_set (by rw [List.length_replicate]; exact ha), if_neg (fun k => hne k.symm), List.getD_eq_getElem?_getD, List.getElem?_replicate, if_pos hb]
    rfl
  refine ⟨⟨h2, fun r hr => ?_⟩, fun i j hi hj => ?_⟩
  · obtain ⟨a, ha, e⟩ := List.mem_iff_getElem.mp hr
    obtain ⟨x, k1, k2, k3⟩ := h3 a (by omega)
    have e2 : gr (diagN p n q n).1 a = r := gr_get (by rw [List.getElem?_eq_getElem ha, e])
    rw [← e2, k3]
    exact row_set (Row.zero (ppos hp)) ⟨k1, k2⟩
  · by_cases e : i = j
    · rw [e]
    · rw [hg i j hi hj e, hg j i hj hi (fun k => e k.symm)]
/-- what a step draws -/
theorem step_b {p : Int} {n : Nat} {s : List (List Int) × Pot} (hp : Pr p) (hn : 1 < n) (hq : pOk s.2) :
    let a := drawF s.2 n
    let b := drawF a.2 (p - 1)
    let c := drawF b.2 ((n : Int) - 1)
    (0 ≤ a.1 ∧ a.1 < n) ∧ (0 ≤ b.1 ∧ b.1 < p - 1) ∧ (0 ≤ c.1 ∧ c.1 < n - 1) ∧ pOk a.2 ∧ pOk b.2 ∧ pOk c.2 ∧ (0 ≤ (a.1 + 1 + c.1) % n ∧ (a.1 + 1 + c.1) % n < n) ∧ (a.1 + 1 + c.1) % n ≠ a.1 := by
  have hb := hp.b
  intro a b c
  have h1 : 0 ≤ a.1 ∧ a.1 < n := draw_b (by omega)
  have h2 : 0 ≤ b.1 ∧ b.1 < p - 1 := draw_b (by omega)
  have h3 : 0 ≤ c.1 ∧ c.1 < (n : Int) - 1 := draw_b (by omega)
  refine ⟨h1, h2, h3, draw_ok hq, draw_ok (draw_ok hq), draw_ok (draw_ok (draw_ok hq)), emod_b (by omega), fun e => ?_⟩
  by_cases h : a.1 + 1 + c.1 < n
  · rw [Int.emod_eq_of_lt (by omega) h] at e
    omega
  · have e2 : (a.1 + 1 + c.1) % n = a.1 + 1 + c.1 - n := by
      rw [← Int.sub_emod_right, Int.emod_eq_of_lt (by omega) (by omega)]
    omega
theorem stepD_ok {p : Int} {n : Nat} {s : List (List Int) × Pot} (hp : Pr p) (hn : 1 < n) (hq : pOk s.2) (h : Rm p n s.1) : Rm p n (stepD p n s).1 ∧ pOk (stepD p n s).2 := by
  obtain ⟨h1, h2, h3, h4, h5, h6, h7, h8⟩ := step_b hp hn hq
  exact ⟨ledS_rm (ppos hp) h (by omega) (by omega), h6⟩
theorem tabN_ok {p : Int} {n : Nat} {q : Pot} (hp : Pr p) (hq : pOk q) : ∀ i, (0 < i → 1 < n) → Rm p n (tabN p n q i).1 ∧ pOk (tabN p n q i).2
  | 0, _ => ⟨diagN_rm hp hq, (diag_ok hp hq n (Nat.le_refl n)).1⟩
  | i + 1, h => by
    obtain ⟨h1, h2⟩ := tabN_ok hp hq i fun _ => h (by omega)
    exact stepD_ok hp (h (by omega)) h2 h1
theorem ltab_ok {p : Int} {n : Nat} {q : Pot} (hp : Pr p) (hq : pOk q) : Rm p n (ltabF p n q).1 ∧ pOk (ltabF p n q).2 := tabN_ok hp hq _ fun h => by
  by_cases k : n > 1
  · exact k
  · rw [if_neg k] at h
    omega
/-- led, the law's rows are a room of the same kind -/
theorem lled_b {p : Int} {n : Nat} {q : Pot} (hp : Pr p) (hn : 1 < n) (hq : pOk q) :
    let a := drawF q n
    let b := drawF a.2 (p - 1)
    (0 ≤ a.1 ∧ a.1 < n) ∧ (0 ≤ b.1 ∧ b.1 < p - 1) ∧ pOk a.2 ∧ pOk b.2 ∧ (0 ≤ (a.1 + 1) % n ∧ (a.1 + 1) % n < n) ∧ (a.1 + 1) % n ≠ a.1 := by
  have hb := hp.b
  intro a b
  have h1 : 0 ≤ a.1 ∧ a.1 < n := draw_b (by omega)
  have h2 : 0 ≤ b.1 ∧ b.1 < p - 1 := draw_b (by omega)
  refine ⟨h1, h2, draw_ok hq, draw_ok (draw_ok hq), emod_b (by omega), fun e => ?_⟩
  by_cases h : a.1 + 1 < n
  · rw [Int.emod_eq_of_lt (by omega) h] at e
    omega
  · rw [show a.1 + 1 = (n : Int) by omega, Int.emod_self] at e
    omega
theorem lled_ok {p : Int} {n : Nat} {t : List (List Int)} {q : Pot} (hp : Pr p) (hn : n ≤ 6) (hq : pOk q) (h : Rm p n t) : Rm p n (lledF p t q).1 ∧ kindF p (lledF p t q).1 = kindF p t ∧ pOk (lledF p t q).2 := by
  unfold lledF
  rw [h.mat.1]
  by_cases k : n < 2
  · rw [if_pos k]
    exact ⟨h, rfl, hq⟩
  · rw [if_neg k]
    obtain ⟨h1, h2, h3, h4, h5, h6⟩ := lled_b hp (show 1 < n by omega) hq
    exact ⟨ledS_rm (ppos hp) h (by omega) (by omega), ledS_kind hp h hn (by omega) (by omega) (by omega), h4⟩
/-! ### taken off -/
theorem kd_pos {k : Kind} {n r : Nat} {s : Int} (h : Kd k n r s) : k.1 = n ∧ k.2.1 = r ∧ k.2.2 = s := by rw [h.eq]; exact ⟨rfl, rfl, rfl⟩
/-- what is told taken off -/
theorem off_some {p : Int} {n m : Nat} {t u x : List (List Int)} (hp : Pr p) (ht : Rm p n t) (hu : Rm p m u) (hn : n ≤ 6) (h : offF p t u = some x) : m ≤ n ∧ Rm p (n - m) x ∧ kindF p x = ((kindF p t).1 - (kindF p u).1, (kindF p t).2.1 - (kindF p u).2.1, (kindF p t).2.2 * (kindF p u).2.2) ∧ x = plainF p (kindF p x) ∧ kindF p (besideF u x) = kindF p t := by
  obtain ⟨r, s, K⟩ := kind_ok hp ht
  obtain ⟨r2, s2, K2⟩ := kind_ok hp hu
  have e1 := K.eq
  have e2 := K2.eq
  have l1 := K.le
  have l2 := K2.le
  unfold offF at h
  rw [e1, e2] at h ⊢
  by_cases c : (r : Int) - r2 < 0 ∨ (n : Int) - m < (r : Int) - r2 ∨ ((r : Int) - r2 = 0 ∧ s * s2 ≠ 1)
  · have h' : (if (r : Int) - r2 < 0 ∨ (n : Int) - m < (r : Int) - r2 ∨ ((r : Int) - r2 = 0 ∧ s * s2 ≠ 1) then none else some (plainF p ((n : Int) - m, (r : Int) - r2, s * s2))) = some x := h
    rw [if_pos c] at h'
    cases h'
  · have h' : (if (r : Int) - r2 < 0 ∨ (n : Int) - m < (r : Int) - r2 ∨ ((r : Int) - r2 = 0 ∧ s * s2 ≠ 1) then none else some (plainF p ((n : Int) - m, (r : Int) - r2, s * s2))) = some x := h
    rw [if_neg c] at h'
    have ex := Option.some.inj h'
    have c1 : ¬ (r : Int) - r2 < 0 := fun q => c (.inl q)
    have c2 : ¬ (n : Int) - m < (r : Int) - r2 := fun q => c (.inr (.inl q))
    have c3 : ¬ ((r : Int) - r2 = 0 ∧ s * s2 ≠ 1) := fun q => c (.inr (.inr q))
    have hmn : m ≤ n := by omega
    have Kx : Kd ((n : Int) - m, (r : Int) - r2, s * s2) (n - m) (r - r2) (s * s2) := by
      refine ⟨?_, by omega, ?_, fun h0 => ?_⟩
      · rw [show ((n - m : Nat) : Int) = (n : Int) - m by omega, show ((r - r2 : Nat) : Int) = (r : Int) - r2 by omega]
      · rcases K.sg with h1 | h1 <;> rcases K2.sg with h2 | h2 <;> rw [h1, h2] <;> decide
      · refine Classical.byContradiction fun q => c3 ⟨by omega, q⟩
    have kx := plain_kind hp Kx (by omega)
    have rx := plain_rm hp Kx
    subst ex
    refine ⟨hmn, rx, kx, by rw [kx], ?_⟩
    rw [beside_kind hp hu rx (by omega), kx, e2]
    show ((m : Int) + ((n : Int) - m), (r2 : Int) + ((r : Int) - r2), s2 * (s * s2)) = ((n : Int), (r : Int), s)
    have e3 : s2 * (s * s2) = s := by
      rcases K2.sg with h2 | h2 <;> rw [h2] <;> omega
    rw [e3]
    congr 1
    · omega
    · congr 1
      omega
/-- of two side by side one leaves the other's plain room -/
theorem off_beside {p : Int} {n m : Nat} {t u : List (List Int)} (hp : Pr p) (ht : Rm p n t) (hu : Rm p m u) (hnm : n + m ≤ 6) : offF p (besideF t u) t = some (plainF p (kindF p u)) ∧ offF p (besideF t u) u = some (plainF p (kindF p t)) := by
  obtain ⟨r, s, K⟩ := kind_ok hp ht
  obtain ⟨r2, s2, K2⟩ := kind_ok hp hu
  have l1 := K.le
  have l2 := K2.le
  have kb := beside_kind hp ht hu hnm
  unfold offF
  rw [kb, K.eq, K2.eq]
  have key : ∀ (n m r r2 : Nat) (s s2 : Int), r ≤ n → r2 ≤ m → (s = 1 ∨ s = -1) → (s2 = 1 ∨ s2 = -1) → (r2 = 0 → s2 = 1) → (if (r : Int) + r2 - r < 0 ∨ (n : Int) + m - n < (r : Int) + r2 - r ∨ ((r : Int) + r2 - r = 0 ∧ s * s2 * s ≠ 1) then none else some (plainF p ((n : Int) + m - n, (r : Int) + r2 - r, s * s2 * s))) = some (plainF p ((m : Int), (r2 : Int), s2)) := by
    intro n m r r2 s s2 h1 h2 h3 h4 h5
    have e3 : s * s2 * s = s2 := by
      rcases h3 with h3 | h3 <;> rw [h3] <;> omega
    rw [e3, if_neg (fun q => ?_), show (n : Int) + m - n = m by omega, show (r : Int) + r2 - r = r2 by omega]
    rcases q with q | q | ⟨q1, q2⟩
    · omega
    · omega
    · exact q2 (h5 (by omega))
  refine ⟨key n m r r2 s s2 l1 l2 K.sg K2.sg K2.one, ?_⟩
  have := key m n r2 r s2 s l2 l1 K2.sg K.sg K.one
  rw [Int.add_comm (m : Int), Int.add_comm (r2 : Int), Int.mul_comm s2 s] at this
  exact this
theorem off_led {p : Int} {t u t2 u2 : List (List Int)} (h1 : kindF p t2 = kindF p t) (h2 : kindF p u2 = kindF p u) : offF p t2 u2 = offF p t u := by
  unfold offF
  rw [h1, h2]
theorem off_self {p : Int} {n : Nat} {t : List (List Int)} (hp : Pr p) (ht : Rm p n t) : offF p t t = some [] := by
  obtain ⟨r, s, K⟩ := kind_ok hp ht
  unfold offF
  rw [K.eq]
  have e : s * s = 1 := by
    rcases K.sg with h | h <;> rw [h] <;> decide
  show (if (r : Int) - r < 0 ∨ (n : Int) - n < (r : Int) - r ∨ ((r : Int) - r = 0 ∧ s * s ≠ 1) then none else some (plainF p ((n : Int) - n, (r : Int) - r, s * s))) = _
  rw [e, if_neg (by omega), Int.sub_self, Int.sub_self]
  rfl
theorem off_more {p : Int} {n : Nat} {t : List (List Int)} (hp : Pr p) (ht : Rm p n t) (hn : n < 6) : offF p t (besideF t [[0]]) = none := by
  have h0 : Rm p 1 [[0]] := by
    have := ppos hp
    refine ⟨⟨rfl, fun r hr => ?_⟩, fun i j hi hj => ?_⟩
    · rw [List.mem_singleton.mp hr]
      refine ⟨rfl, fun x hx => ?_⟩
      rw [List.mem_singleton.mp hx]
      omega
    · rw [show i = 0 by omega, show j = 0 by omega]
  obtain ⟨r, s, K⟩ := kind_ok hp ht
  obtain ⟨r2, s2, K2⟩ := kind_ok hp h0
  have kb := beside_kind hp ht h0 (by omega)
  unfold offF
  rw [kb, K.eq, K2.eq]
  show (if (r : Int) - (r + r2) < 0 ∨ (n : Int) - (n + (1 : Nat)) < (r : Int) - (r + r2) ∨ ((r : Int) - (r + r2) = 0 ∧ s * (s * s2) ≠ 1) then none else some (plainF p ((n : Int) - (n + (1 : Nat)), (r : Int) - (r + r2), s * (s * s2)))) = none
  rw [if_pos]
  omega
/-- what the law itself says is left -/
def leftF (p : Int) (t u : List (List Int)) : Option Kind :=
  let a := lkindF p t
  let b := lkindF p u
  if a.1 < b.1 ∨ (t.length : Int) - a.1 - u.length + b.1 < 0 ∨ (a.1 = b.1 ∧ a.2 ≠ b.2) then none else some ((t.length : Int) - u.length, a.1 - b.1, a.2 * b.2)
theorem left_eq {p : Int} {n m : Nat} {t u : List (List Int)} (hp : Pr p) (ht : Rm p n t) (hu : Rm p m u) (hn : n ≤ 6) (hm : m ≤ 6) : offF p t u = (leftF p t u).map (plainF p) := by
  obtain ⟨r, s, K⟩ := kind_ok hp ht
  obtain ⟨r2, s2, K2⟩ := kind_ok hp hu
  have k1 := kind_is hp ht.mat hn ht.sym
  have k2 := kind_is hp hu.mat hm hu.sym
  have e1 : lkindF p t = ((r : Int), s) := by
    rw [K.eq] at k1
    exact (Prod.mk.inj k1).2.symm
  have e2 : lkindF p u = ((r2 : Int), s2) := by
    rw [K2.eq] at k2
    exact (Prod.mk.inj k2).2.symm
  unfold offF leftF
  rw [e1, e2, K.eq, K2.eq, ht.mat.1, hu.mat.1]
  show (if (r : Int) - r2 < 0 ∨ (n : Int) - m < (r : Int) - r2 ∨ ((r : Int) - r2 = 0 ∧ s * s2 ≠ 1) then none else some (plainF p ((n : Int) - m, (r : Int) - r2, s * s2))) = Option.map (plainF p) (if (r : Int) < r2 ∨ (n : Int) - r - m + r2 < 0 ∨ ((r : Int) = r2 ∧ s ≠ s2) then none else some ((n : Int) - m, (r : Int) - r2, s * s2))
  have hss : s * s2 ≠ 1 ↔ s ≠ s2 := by
    rcases K.sg with h1 | h1 <;> rcases K2.sg with h2 | h2 <;> rw [h1, h2] <;> decide
  by_cases c : (r : Int) < r2 ∨ (n : Int) - r - m + r2 < 0 ∨ ((r : Int) = r2 ∧ s ≠ s2)
  · rw [if_pos c, if_pos]
    · rfl
    · rcases c with c | c | ⟨c1, c2⟩
      · exact .inl (by omega)
      · exact .inr (.inl (by omega))
      · exact .inr (.inr ⟨by omega, hss.mpr c2⟩)
  · rw [if_neg c, if_neg]
    · rfl
    · rintro (q | q | ⟨q1, q2⟩)
      · exact c (.inl (by omega))
      · exact c (.inr (.inl (by omega)))
      · exact c (.inr (.inr ⟨by omega, hss.mp q2⟩))
end Dt

set_option Elab.async false
set_option linter.all false
set_option autoImplicit false
/-! Rooms times a rest, rooms of noughts. -/
namespace Dt
open Rk
def scaledF (p c : Int) (t : List (List Int)) : List (List Int) := t.map fun r => r.map fun x => c * x % p
def scT (c : Int) (x : Tr) : Tr := ⟨c * x.d, x.v, x.s⟩
def pwF (x : Int) : Nat → Int
  | 0 => 1
  | i + 1 => pwF x i * x
section
variable {p c : Int} {n : Nat} {t : List (List Int)}
theorem scaled_mat (hp : 0 < p) (h : Mat p n n t) : Mat p n n (scaledF p c t) := by
  refine ⟨by unfold scaledF; rw [List.length_map]; exact h.1, fun r hr => ?_⟩
  obtain ⟨r0, h0, rfl⟩ := List.mem_map.mp hr
  refine ⟨by rw [List.length_map]; exact (h.2 r0 h0).1, fun x hx => ?_⟩
  obtain ⟨y, _, rfl⟩ := List.mem_map.mp hx
  exact emod_b hp
theorem ge_scaled (h : Mat p n n t) {a b : Nat} (ha : a < n) (hb : b < n) : ge (scaledF p c t) a b = c * ge t a b % p := by
  unfold scaledF
  rw [ge_map (by rw [h.1]; exact ha), List.getD_eq_getElem?_getD, List.getElem?_map, ((h.get ha).2.get hb).1]
  rfl
theorem scaled_rm (hp : 0 < p) (h : Rm p n t) : Rm p n (scaledF p c t) := ⟨scaled_mat hp h.mat, fun i j hi hj => by rw [ge_scaled h.mat hi hj, ge_scaled h.mat hj hi, h.sym i j hi hj]⟩
theorem scaled_dg {L : List Tr} (h : Mat p n n t) (g : Dg p n (ge t) L) : Dg p n (ge (scaledF p c t)) (L.map (scT c)) := by
  refine ⟨by rw [List.length_map]; exact g.len, fun a b ha hb => ?_, fun a b ha hb => ?_⟩
  · rw [ge_scaled h ha hb, sl_map]
    refine cg.mod.trans ((cg.rfl.mul (g.val a b ha hb)).trans (cg.of ?_))
    rw [← sl_mul]
    refine sl_congr fun x _ => ?_
    show c * (x.d * x.v a * x.v b) = c * x.d * x.v a * x.v b
    grind
  · rw [sl_map]
    exact g.inv a b ha hb
theorem scaled_filter (hp : Pr p) (hc : c % p ≠ 0) (L : List Tr) : (L.map (scT c)).filter (nz p) = (L.filter (nz p)).map (scT c) := by
  rw [List.filter_map]
  congr 1
  refine List.filter_congr fun x _ => ?_
  show (c * x.d % p != 0) = (x.d % p != 0)
  by_cases h : x.d % p = 0
  · rw [h, mul_z2 h]
  · rw [bne_iff_ne.mpr h, bne_iff_ne.mpr (mul_nz hp hc h)]
theorem pl_scaled (hp : Pr p) : ∀ L : List Tr, pl ((L.map (scT c)).map fun x => sp p x.d) = pwF (sp p c) L.length * pl (L.map fun x => sp p x.d)
  | [] => rfl
  | x :: L => by
    show sp p (c * x.d) * pl ((L.map (scT c)).map fun x => sp p x.d) = pwF (sp p c) L.length * sp p c * (sp p x.d * pl (L.map fun x => sp p x.d))
    rw [pl_scaled hp L, sp_mul hp]
    grind
/-- times a rest that is not 0 -/
theorem scaled_kind (hp : Pr p) (h : Rm p n t) (hn : n ≤ 6) (hc : c % p ≠ 0) {r : Nat} {s : Int} (K : Kd (kindF p t) n r s) : kindF p (scaledF p c t) = ((n : Int), (r : Int), pwF (sp p c) r * s) := by
  obtain ⟨L, g, e⟩ := kind_squares hp h.mat h.sym
  rw [kind_dg hp (scaled_rm (ppos hp) h) hn (scaled_dg h.mat g)]
  rw [K.eq] at e
  have e2 := (Prod.mk.inj e).2
  have e3 : (r : Int) = ((L.filter (nz p)).length : Nat) := (Prod.mk.inj e2).1
  have e4 : s = pl ((L.filter (nz p)).map fun x => sp p x.d) := (Prod.mk.inj e2).2
  have e5 : r = (L.filter (nz p)).length := by omega
  unfold kL
  rw [scaled_filter hp hc, List.length_map, pl_scaled hp, ← e4, ← e5]
/-- times 0 -/
theorem scaled_kind0 (hp : Pr p) (h : Rm p n t) (hn : n ≤ 6) (hc : c % p = 0) : kindF p (scaledF p c t) = ((n : Int), 0, 1) := by
  obtain ⟨L, g, e⟩ := kind_squares hp h.mat h.sym
  rw [kind_dg hp (scaled_rm (ppos hp) h) hn (scaled_dg h.mat g)]
  have z : (L.map (scT c)).filter (nz p) = [] := List.filter_eq_nil_iff.mpr fun x hx => by
    obtain ⟨y, _, rfl⟩ := List.mem_map.mp hx
    show ¬ (c * y.d % p != 0) = true
    rw [mul_z1 hc]
    decide
  unfold kL
  rw [z]
  rfl
end
/-- a room of noughts -/
def zeroF (m : Nat) : List (List Int) := List.replicate m (List.replicate m 0)
theorem zero_diag {m : Nat} (hm : m ≤ 6) : zeroF m = diagF (List.replicate m 0) := by
  have : m = 0 ∨ m = 1 ∨ m = 2 ∨ m = 3 ∨ m = 4 ∨ m = 5 ∨ m = 6 := by omega
  rcases this with rfl | rfl | rfl | rfl | rfl | rfl | rfl <;> rfl
theorem zero_rm {p : Int} {m : Nat} (hp : 0 < p) (hm : m ≤ 6) : Rm p m (zeroF m) := by
  rw [zero_diag hm]
  refine diag_rm hp List.length_replicate fun x hx => ?_
  rw [(List.mem_replicate.mp hx).2]
  exact ⟨Int.le_refl _, hp⟩
theorem zero_kind {p : Int} {m : Nat} (hp : Pr p) (hm : m ≤ 6) : kindF p (zeroF m) = ((m : Int), 0, 1) := by
  have hr := zero_rm (ppos hp) hm
  have g := diag_dg (p := p) (d := List.replicate m 0) (n := m) List.length_replicate
  rw [zero_diag hm] at hr ⊢
  rw [kind_dg hp hr hm g, diag_kL List.length_replicate]
  have z : (List.replicate m (0 : Int)).filter (fun x => x % p != 0) = [] := List.filter_eq_nil_iff.mpr fun x hx => by
    rw [(List.mem_replicate.mp hx).2, Int.zero_emod]
    decide
  rw [z]
  rfl
end Dt

set_option Elab.async false
set_option linter.all false
set_option autoImplicit false
/-! Keepers counted: the package's way, the law's way. -/
namespace Dt
open Rk
def undF (p : Int) (s : Nat) : Nat → Int
  | 0 => 1
  | i + 1 => undF p s i * (pwF p s - pwF p i)
def uppF (p f : Int) : Nat → Int
  | 0 => f
  | i + 1 => uppF p f i * (pwF p (2 * (i + 1)) - 1)
/-- what the product starts from, how many turns it has -/
def up0 (p : Int) (r : Nat) (s : Int) : Int × Nat :=
  if r % 2 = 0 then (2 * pwF p (r / 2 * (r / 2 - 1)) * (pwF p (r / 2) - s * pwF (signF p (p - 1)) (r / 2)), r / 2 - 1) else (2 * pwF p (r / 2 * (r / 2)), r / 2)
def uprF (p : Int) (r : Nat) (s : Int) : Int := if r = 0 then 1 else uppF p (up0 p r s).1 (up0 p r s).2
def kcF (p : Int) (n r : Nat) (s : Int) : Int := uprF p r s * undF p (n - r) (n - r) * pwF p ((n - r) * r)
/-- the law's -/
def trF (s m : Int) : Nat → Int
  | 0 => s
  | i + 1 => trF s m i * m
def lrowsF (p : Int) (r : Nat) (s w : Int) : Int :=
  let tu := trF s (sp p (-1)) (r / 2)
  if r = 0 then (if w = 0 then 1 else 0) else
    let hi := pwF p (r - 1)
    let lo := if 0 < r / 2 then pwF p (r / 2 - 1) else 0
    if r % 2 = 0 then (if w = 0 then hi + tu * (lo * p - lo) else hi - tu * lo) else if w = 0 then hi else hi + sp p w * tu * pwF p (r / 2)
def lwF (p : Int) (hi : Nat) (l : Int) : Int := if hi > 1 ∨ l > 0 then 1 else oddF p
def lkS (p : Int) (r : Nat) (s : Int) : Nat → Int × Int
  | 0 => (1, s)
  | i + 1 => ((lkS p r s i).1 * lrowsF p (r - i) (lkS p r s i).2 (lwF p (r - i) (lkS p r s i).2), (lkS p r s i).2 * sp p (lwF p (r - i) (lkS p r s i).2))
def lkeepF (p : Int) (n r : Nat) (s : Int) : Int := (lkS p r s r).1 * undF p (n - r) (n - r) * pwF p ((n - r) * r)
/-! ### finite facts -/
def big : Nat := 2 ^ 180
def prs : List Int := [3, 5, 7, 11, 13]
theorem prs_mem {p : Int} (h : Pr p) : p ∈ prs := by
  rcases h with rfl | rfl | rfl | rfl | rfl <;> decide
theorem keep_eq {p : Int} {n r : Nat} {s : Int} (hp : Pr p) (hn : n ≤ 6) (hr : r ≤ n) (hs : s = 1 ∨ s = -1) (h0 : r = 0 → s = 1) : kcF p n r s = lkeepF p n r s := by
  have key : (prs.all fun p => (List.range 7).all fun n => (List.range (n + 1)).all fun r => [1, -1].all fun s => decide ((r = 0 → s = 1) → kcF p n r s = lkeepF p n r s)) = true := by decide +kernel
  have h1 := List.all_eq_true.mp (List.all_eq_true.mp (List.all_eq_true.mp (List.all_eq_true.mp key p (prs_mem hp)) n (List.mem_range.mpr (by omega))) r (List.mem_range.mpr (by omega))) s (by rcases hs with rfl | rfl <;> decide)
  exact of_decide_eq_true h1 h0
theorem keep_sign {p e : Int} {n r : Nat} {s : Int} (hp : Pr p) (hn : n ≤ 6) (hr : r ≤ n) (hs : s = 1 ∨ s = -1) (he : e = 1 ∨ e = -1) : kcF p n r (pwF e r * s) = kcF p n r s := by
  have key : (prs.all fun p => (List.range 7).all fun n => (List.range (n + 1)).all fun r => [1, -1].all fun s => [1, -1].all fun e => decide (kcF p n r (pwF e r * s) = kcF p n r s)) = true := by decide +kernel
  have h1 := List.all_eq_true.mp (List.all_eq_true.mp (List.all_eq_true.mp (List.all_eq_true.mp (List.all_eq_true.mp key p (prs_mem hp)) n (List.mem_range.mpr (by omega))) r (List.mem_range.mpr (by omega))) s (by rcases hs with rfl | rfl <;> decide)) e (by rcases he with rfl | rfl <;> decide)
  exact of_decide_eq_true h1
theorem pw_b {x : Int} {i : Nat} (hx : -13 ≤ x ∧ x ≤ 13) (hi : i ≤ 36) : (pwF x i).natAbs < big := by
  have key : ((List.range 27).all fun x => (List.range 37).all fun i => decide ((pwF ((x : Int) - 13) i).natAbs < big)) = true := by decide +kernel
  have h1 := List.all_eq_true.mp (List.all_eq_true.mp key (x + 13).toNat (List.mem_range.mpr (by omega))) i (List.mem_range.mpr (by omega))
  have h2 := of_decide_eq_true h1
  rw [show (((x + 13).toNat : Nat) : Int) - 13 = x by omega] at h2
  exact h2
theorem und_b {p : Int} {s i : Nat} (hp : Pr p) (hs : s ≤ 6) (hi : i ≤ s) : (undF p s i).natAbs < big ∧ (pwF p s - pwF p i).natAbs < big := by
  have key : (prs.all fun p => (List.range 7).all fun s => (List.range (s + 1)).all fun i => decide ((undF p s i).natAbs < big ∧ (pwF p s - pwF p i).natAbs < big)) = true := by decide +kernel
  exact of_decide_eq_true (List.all_eq_true.mp (List.all_eq_true.mp (List.all_eq_true.mp key p (prs_mem hp)) s (List.mem_range.mpr (by omega))) i (List.mem_range.mpr (by omega)))
theorem upp_b {p s : Int} {r i : Nat} (hp : Pr p) (hr : r ≤ 6) (hs : s = 1 ∨ s = -1) (hi : i ≤ (up0 p r s).2) : (uppF p (up0 p r s).1 i).natAbs < big ∧ (pwF p (2 * (i + 1)) - 1).natAbs < big := by
  have key : (prs.all fun p => (List.range 7).all fun r => [1, -1].all fun s => (List.range ((up0 p r s).2 + 1)).all fun i => decide ((uppF p (up0 p r s).1 i).natAbs < big ∧ (pwF p (2 * (i + 1)) - 1).natAbs < big)) = true := by decide +kernel
  exact of_decide_eq_true (List.all_eq_true.mp (List.all_eq_true.mp (List.all_eq_true.mp (List.all_eq_true.mp key p (prs_mem hp)) r (List.mem_range.mpr (by omega))) s (by rcases hs with rfl | rfl <;> decide)) i (List.mem_range.mpr (by omega)))
/-- the parts of the first number -/
theorem up_parts {p s : Int} {h : Nat} (hp : Pr p) (hh : h ≤ 3) (hs : s = 1 ∨ s = -1) : (2 * pwF p (h * (h - 1))).natAbs < big ∧ (pwF p h - s * pwF (signF p (p - 1)) h).natAbs < big ∧ (pwF (signF p (p - 1)) h).natAbs < big ∧ (2 * pwF p (h * h)).natAbs < big := by
  have key : (prs.all fun p => (List.range 4).all fun h => [1, -1].all fun s => decide ((2 * pwF p (h * (h - 1))).natAbs < big ∧ (pwF p h - s * pwF (signF p (p - 1)) h).natAbs < big ∧ (pwF (signF p (p - 1)) h).natAbs < big ∧ (2 * pwF p (h * h)).natAbs < big)) = true := by decide +kernel
  exact of_decide_eq_true (List.all_eq_true.mp (List.all_eq_true.mp (List.all_eq_true.mp key p (prs_mem hp)) h (List.mem_range.mpr (by omega))) s (by rcases hs with rfl | rfl <;> decide))
theorem kc_b {p s : Int} {n r : Nat} (hp : Pr p) (hn : n ≤ 6) (hr : r ≤ n) (hs : s = 1 ∨ s = -1) : (uprF p r s).natAbs < big ∧ (undF p (n - r) (n - r)).natAbs < big ∧ (uprF p r s * undF p (n - r) (n - r)).natAbs < big ∧ (pwF p ((n - r) * r)).natAbs < big ∧ (kcF p n r s).natAbs < big := by
  have key : (prs.all fun p => (List.range 7).all fun n => (List.range (n + 1)).all fun r => [1, -1].all fun s => decide ((uprF p r s).natAbs < big ∧ (undF p (n - r) (n - r)).natAbs < big ∧ (uprF p r s * undF p (n - r) (n - r)).natAbs < big ∧ (pwF p ((n - r) * r)).natAbs < big ∧ (kcF p n r s).natAbs < big)) = true := by decide +kernel
  exact of_decide_eq_true (List.all_eq_true.mp (List.all_eq_true.mp (List.all_eq_true.mp (List.all_eq_true.mp key p (prs_mem hp)) n (List.mem_range.mpr (by omega))) r (List.mem_range.mpr (by omega))) s (by rcases hs with rfl | rfl <;> decide))
theorem tr_b {p s : Int} {i : Nat} (hp : Pr p) (hs : s = 1 ∨ s = -1) (hi : i ≤ 3) : (trF s (sp p (-1)) i = 1 ∨ trF s (sp p (-1)) i = -1) ∧ (sp p (-1) = 1 ∨ sp p (-1) = -1) := by
  have key : (prs.all fun p => [1, -1].all fun s => (List.range 4).all fun i => decide ((trF s (sp p (-1)) i = 1 ∨ trF s (sp p (-1)) i = -1) ∧ (sp p (-1) = 1 ∨ sp p (-1) = -1))) = true := by decide +kernel
  exact of_decide_eq_true (List.all_eq_true.mp (List.all_eq_true.mp (List.all_eq_true.mp key p (prs_mem hp)) s (by rcases hs with rfl | rfl <;> decide)) i (List.mem_range.mpr (by omega)))
/-- the law's product, turn by turn -/
theorem lk_b {p s : Int} {r i : Nat} (hp : Pr p) (hr : r ≤ 6) (hs : s = 1 ∨ s = -1) (hi : i ≤ r) : (lkS p r s i).1.natAbs < big ∧ ((lkS p r s i).2 = 1 ∨ (lkS p r s i).2 = -1) ∧ (lrowsF p (r - i) (lkS p r s i).2 (lwF p (r - i) (lkS p r s i).2)).natAbs < big ∧ (sp p (lwF p (r - i) (lkS p r s i).2) = 1 ∨ sp p (lwF p (r - i) (lkS p r s i).2) = -1) := by
  have key : (prs.all fun p => (List.range 7).all fun r => [1, -1].all fun s => (List.range (r + 1)).all fun i => decide ((lkS p r s i).1.natAbs < big ∧ ((lkS p r s i).2 = 1 ∨ (lkS p r s i).2 = -1) ∧ (lrowsF p (r - i) (lkS p r s i).2 (lwF p (r - i) (lkS p r s i).2)).natAbs < big ∧ (sp p (lwF p (r - i) (lkS p r s i).2) = 1 ∨ sp p (lwF p (r - i) (lkS p r s i).2) = -1))) = true := by decide +kernel
  exact of_decide_eq_true (List.all_eq_true.mp (List.all_eq_true.mp (List.all_eq_true.mp (List.all_eq_true.mp key p (prs_mem hp)) r (List.mem_range.mpr (by omega))) s (by rcases hs with rfl | rfl <;> decide)) i (List.mem_range.mpr (by omega)))
theorem lkp_b {p s : Int} {n r : Nat} (hp : Pr p) (hn : n ≤ 6) (hr : r ≤ n) (hs : s = 1 ∨ s = -1) : ((lkS p r s r).1 * undF p (n - r) (n - r)).natAbs < big := by
  have key : (prs.all fun p => (List.range 7).all fun n => (List.range (n + 1)).all fun r => [1, -1].all fun s => decide (((lkS p r s r).1 * undF p (n - r) (n - r)).natAbs < big)) = true := by decide +kernel
  exact of_decide_eq_true (List.all_eq_true.mp (List.all_eq_true.mp (List.all_eq_true.mp (List.all_eq_true.mp key p (prs_mem hp)) n (List.mem_range.mpr (by omega))) r (List.mem_range.mpr (by omega))) s (by rcases hs with rfl | rfl <;> decide))
end Dt

set_option Elab.async false
set_option linter.all false
set_option autoImplicit false
/-! Rows in steps: the package's way, with its sizes. -/
namespace Dt
open Rk
def scal (p : Int) (r : List Int) (c : Int) : List Int := r.map fun x => c * x % p
def wo (p : Int) (r h : List Int) (c : Nat) : List Int := addF p r h (0 - r.getD c 0)
def anyF (r : List Int) : Bool := r.any fun x => decide (x ≠ 0)
def headsAt (c : Nat) (l : List (List Int)) : List (List Int) := l.filter fun r => decide (r.getD c 0 ≠ 0)
def pivF (p : Int) (h0 : List Int) (c : Nat) : List Int := scal p h0 (undone p (h0.getD c 0))
def stA (p : Int) (c : Nat) (z : List (List Int) × List (List Int)) : List (List Int) × List (List Int) := match headsAt c z.1 with
  | [] => z
  | h0 :: _ => ((z.1.map fun r => wo p r (pivF p h0 c) c).filter anyF, (z.2.map fun r => wo p r (pivF p h0 c) c) ++ [pivF p h0 c])
def stS (p : Int) (rows : List (List Int)) : Nat → List (List Int) × List (List Int)
  | 0 => (rows, [])
  | c + 1 => stA p c (stS p rows c)
def stepsF (p : Int) (rows : List (List Int)) : List (List Int) := (stS p rows (rows.headD []).length).2
theorem scal_row {p c : Int} {n : Nat} {r : List Int} (hp : 0 < p) (h : Row p n r) : Row p n (scal p r c) := by
  refine ⟨by unfold scal; rw [List.length_map, h.1], fun x hx => ?_⟩
  obtain ⟨y, _, rfl⟩ := List.mem_map.mp hx
  exact emod_b hp
theorem wo_row {p : Int} {n c : Nat} {r h : List Int} (hp : 0 < p) (h1 : Row p n r) (h2 : Row p n h) : Row p n (wo p r h c) := addF_row hp h1.1 h2.1
theorem heads_mem {c : Nat} {l t : List (List Int)} {h0 : List Int} (h : headsAt c l = h0 :: t) : h0 ∈ l ∧ h0.getD c 0 ≠ 0 := by
  have := List.mem_filter.mp (show h0 ∈ headsAt c l by rw [h]; exact List.mem_cons_self)
  exact ⟨this.1, of_decide_eq_true this.2⟩
theorem stS_ok {p : Int} {n : Nat} {rows : List (List Int)} (hp : 0 < p) (h : ∀ r, r ∈ rows → Row p n r) : ∀ c, (∀ r, r ∈ (stS p rows c).1 → Row p n r) ∧ (∀ r, r ∈ (stS p rows c).2 → Row p n r) ∧ (stS p rows c).1.length ≤ rows.length ∧ (stS p rows c).2.length ≤ c
  | 0 => ⟨h, fun r hr => (List.not_mem_nil hr).elim, Nat.le_refl _, Nat.le_refl _⟩
  | c + 1 => by
    obtain ⟨h1, h2, h3, h4⟩ := stS_ok hp h c
    show (∀ r, r ∈ (stA p c (stS p rows c)).1 → Row p n r) ∧ (∀ r, r ∈ (stA p c (stS p rows c)).2 → Row p n r) ∧ (stA p c (stS p rows c)).1.length ≤ rows.length ∧ (stA p c (stS p rows c)).2.length ≤ c + 1
    generalize stS p rows c = z at h1 h2 h3 h4 ⊢
    unfold stA
    split
    · exact ⟨h1, h2, h3, by omega⟩
    · rename_i h0 t e
      obtain ⟨m1, m2⟩ := heads_mem e
      have hh : Row p n (pivF p h0 c) := scal_row hp (h1 h0 m1)
      refine ⟨fun r hr => ?_, fun r hr => ?_, ?_, ?_⟩
      · obtain ⟨hr, _⟩ := List.mem_filter.mp hr
        obtain ⟨q, hq, rfl⟩ := List.mem_map.mp hr
        exact wo_row hp (h1 q hq) hh
      · rcases List.mem_append.mp hr with hr | hr
        · obtain ⟨q, hq, rfl⟩ := List.mem_map.mp hr
          exact wo_row hp (h2 q hq) hh
        · rw [List.mem_singleton.mp hr]
          exact hh
      · refine Nat.le_trans (List.length_filter_le _ _) ?_
        rw [List.length_map]
        exact h3
      · show ((z.2.map _) ++ [_]).length ≤ c + 1
        rw [List.length_append, List.length_map]
        show z.2.length + 1 ≤ c + 1
        omega
/-- the place of a row's first number that is not 0 -/
def hdF (r : List Int) : Nat := r.findIdx fun x => decide (x ≠ 0)
end Dt

set_option Elab.async false
set_option linter.all false
set_option autoImplicit false
/-! The package's determinant, by sweeping the table with the idle table beside it. -/
namespace Dt
open Rk
def augF (t : List (List Int)) : List (List Int) := (List.range t.length).map fun i => gr t i ++ unitF t.length i
def spotsR (rows : List (List Int)) (n k : Nat) : List Nat := ((List.range (n - k)).map fun i => k + i).filter fun s => decide (ge rows s k ≠ 0)
def elimR (p : Int) (rows : List (List Int)) (n k : Nat) : List (List Int) :=
  (List.range n).map fun a => if a = k then pivF p (gr rows k) k else wo p (gr rows a) (pivF p (gr rows k) k) k
def stepR (p : Int) (n k : Nat) (q : List (List Int) × Int) : Option (List (List Int) × Int) := match spotsR q.1 n k with
  | [] => none
  | s :: _ => some (elimR p (if s = k then q.1 else swapF q.1 k s) n k, (if s = k then q.2 else 0 - q.2) * ge (if s = k then q.1 else swapF q.1 k s) k k % p)
def stR (p : Int) (t : List (List Int)) : Nat → Option (List (List Int) × Int)
  | 0 => some (augF t, 1)
  | i + 1 => (stR p t i).bind (stepR p t.length i)
def redF (p : Int) (t : List (List Int)) : Int × Option (List (List Int)) := match stR p t t.length with
  | none => (0, none)
  | some q => (q.2 % p, some (q.1.map fun r => r.drop t.length))
section
variable {p : Int} {n m k s a b : Nat} {rows : List (List Int)}
theorem unit_row {i : Int} (hp : 1 < p) : Row p n (unitF n i) := by
  unfold unitF
  refine ⟨by rw [List.length_map, rg_len], fun x hx => ?_⟩
  obtain ⟨y, _, rfl⟩ := List.mem_map.mp hx
  split <;> omega
theorem row_app {r q : List Int} (h : Row p n r) (k : Row p m q) : Row p (n + m) (r ++ q) := by
  refine ⟨by rw [List.length_append, h.1, k.1], fun x hx => ?_⟩
  rcases List.mem_append.mp hx with hx | hx
  · exact h.2 x hx
  · exact k.2 x hx
theorem aug_mat {t : List (List Int)} (hp : 1 < p) (h : Mat p n n t) : Mat p n (n + n) (augF t) := by
  unfold augF
  refine ⟨by rw [List.length_map, List.length_range, h.1], fun r hr => ?_⟩
  obtain ⟨i, hi, rfl⟩ := List.mem_map.mp hr
  rw [h.1] at hi ⊢
  exact row_app (h.get (List.mem_range.mp hi)).2 (unit_row hp)
theorem gr_aug {t : List (List Int)} (h : t.length = n) {i : Nat} (hi : i < n) : gr (augF t) i = gr t i ++ unitF n i := by
  unfold augF
  show ((List.range t.length).map _).getD i [] = _
  rw [List.getD_eq_getElem?_getD, List.getElem?_map, List.getElem?_range (by omega), h]
  rfl
theorem ge_augL {t : List (List Int)} (h : Mat p n n t) {i j : Nat} (hi : i < n) (hj : j < n) : ge (augF t) i j = ge t i j := by
  show (gr (augF t) i).getD j 0 = _
  rw [gr_aug h.1 hi, List.getD_eq_getElem?_getD, List.getElem?_append_left (by rw [(h.get hi).2.1]; exact hj)]
  rfl
theorem ge_swapM (hm : Mat p n m rows) (hk : k < n) (hs : s < n) : ge (swapF rows k s) a b = if a = s then ge rows k b else if a = k then ge rows s b else ge rows a b := by
  unfold ge gr swapF gr
  rw [getD_set (by rw [List.length_set, hm.1]; exact hs)]
  split
  · rfl
  · rw [getD_set (by rw [hm.1]; exact hk)]
    split <;> rfl
theorem spotsR_mem (h : s ∈ spotsR rows n k) : k ≤ s ∧ s < n ∧ ge rows s k ≠ 0 := by
  unfold spotsR at h
  obtain ⟨h1, h2⟩ := List.mem_filter.mp h
  obtain ⟨i, hi, rfl⟩ := List.mem_map.mp h1
  have := List.mem_range.mp hi
  exact ⟨by omega, by omega, of_decide_eq_true h2⟩
theorem spotsR_none (h : spotsR rows n k = []) : ∀ s, k ≤ s → s < n → ge rows s k = 0 := fun s h1 h2 => by
  unfold spotsR at h
  have := List.filter_eq_nil_iff.mp h s (List.mem_map.mpr ⟨s - k, List.mem_range.mpr (by omega), by omega⟩)
  simpa using this
theorem elimR_mat (hp : 0 < p) (h : Mat p n m rows) (hk : k < n) : Mat p n m (elimR p rows n k) := by
  unfold elimR
  refine ⟨by rw [List.length_map, List.length_range], fun r hr => ?_⟩
  obtain ⟨i, hi, rfl⟩ := List.mem_map.mp hr
  have hk2 := (h.get hk).2
  have hpv : Row p m (pivF p (gr rows k) k) := scal_row hp hk2
  split
  · exact hpv
  · exact wo_row hp (h.get (List.mem_range.mp hi)).2 hpv
theorem gr_elimR (ha : a < n) : gr (elimR p rows n k) a = if a = k then pivF p (gr rows k) k else wo p (gr rows a) (pivF p (gr rows k) k) k := by
  unfold elimR
  show ((List.range n).map _).getD a [] = _
  rw [List.getD_eq_getElem?_getD, List.getElem?_map, List.getElem?_range ha]
  rfl
theorem getD_scal {r : List Int} {c : Int} {j : Nat} (h : j < r.length) : (scal p r c).getD j 0 = c * r.getD j 0 % p := by
  unfold scal
  rw [List.getD_eq_getElem?_getD, List.getElem?_map, List.getD_eq_getElem?_getD, List.getElem?_eq_getElem h]
  rfl
theorem ge_elimP (hm : Mat p n m rows) (hk : k < n) (hb : b < m) : ge (elimR p rows n k) k b = undone p (ge rows k k) * ge rows k b % p := by
  show (gr (elimR p rows n k) k).getD b 0 = _
  rw [gr_elimR hk, if_pos rfl]
  unfold pivF
  rw [getD_scal (by rw [(hm.get hk).2.1]; exact hb)]
  rfl
theorem ge_elimO (hp : 0 < p) (hm : Mat p n m rows) (hk : k < n) (ha : a < n) (hb : b < m) (hne : a ≠ k) : cg p (ge (elimR p rows n k) a b) (ge rows a b - ge rows a k * undone p (ge rows k k) * ge rows k b) := by
  show cg p ((gr (elimR p rows n k) a).getD b 0) _
  rw [gr_elimR ha, if_neg hne]
  unfold wo pivF
  have h1 := (hm.get ha).2
  have h2 := (hm.get hk).2
  have e := fn_add (p := p) (c := 0 - (gr rows a).getD k 0) (r := gr rows a) (s := scal p (gr rows k) (undone p ((gr rows k).getD k 0))) (j := b) (by rw [h1.1]; exact hb) (by rw [(scal_row hp h2).1]; exact hb)
  refine (cg.of e).trans (cg.mod.trans ?_)
  have e2 : fn (scal p (gr rows k) (undone p ((gr rows k).getD k 0))) b = undone p (ge rows k k) * ge rows k b % p := getD_scal (by rw [h2.1]; exact hb)
  rw [e2]
  have h3 := (cg.rfl (p := p) (a := ge rows a b)).add ((cg.rfl (p := p) (a := 0 - ge rows a k)).mul (cg.mod (p := p) (a := undone p (ge rows k k) * ge rows k b)))
  refine (show cg p _ _ from h3).trans (cg.of ?_)
  grind
theorem stepR_mat (hp : 0 < p) {q q' : List (List Int) × Int} (h : Mat p n m q.1) (hk : k < n) (hs : stepR p n k q = some q') : Mat p n m q'.1 ∧ 0 ≤ q'.2 ∧ q'.2 < p := by
  unfold stepR at hs
  cases e : spotsR q.1 n k with
  | nil => rw [e] at hs; cases hs
  | cons s l =>
    rw [e] at hs
    have hsm := spotsR_mem (rows := q.1) (n := n) (k := k) (s := s) (by rw [e]; exact List.mem_cons_self)
    have e2 := (Option.some.inj hs).symm
    subst e2
    refine ⟨elimR_mat hp ?_ hk, emod_b hp⟩
    split
    · exact h
    · exact swapF_mat h hk hsm.2.1
theorem stR_mat {t : List (List Int)} (hp : 1 < p) (h : Mat p n n t) : ∀ (i : Nat) (q : List (List Int) × Int), i ≤ n → stR p t i = some q → Mat p n (n + n) q.1 ∧ 0 ≤ q.2 ∧ q.2 < p
  | 0, q, _, e => by
    have e2 := (Option.some.inj e).symm
    subst e2
    exact ⟨aug_mat hp h, Int.zero_le_ofNat 1, hp⟩
  | i + 1, q, hi, e => by
    have e : (stR p t i).bind (stepR p t.length i) = some q := e
    cases e1 : stR p t i with
    | none => rw [e1] at e; cases e
    | some q0 =>
      rw [e1] at e
      have ih := stR_mat hp h i q0 (by omega) e1
      have e : stepR p t.length i q0 = some q := e
      rw [h.1] at e
      exact stepR_mat (by omega) ih.1 (by omega) e
theorem stR_none {t : List (List Int)} {i : Nat} (h : stR p t i = none) : ∀ j, stR p t (i + j) = none
  | 0 => h
  | j + 1 => by
    show (stR p t (i + j)).bind _ = none
    rw [stR_none h j]
    rfl
theorem stepR_det {f : Int} (hp : Pr p) (hm : Mat p n (n + n) rows) (hk : k < n) : match stepR p n k (rows, f) with
    | none => cg p (det (n - k) (sb k rows)) 0
    | some q => cg p (f * det (n - k) (sb k rows)) (q.2 * det (n - (k + 1)) (sb (k + 1) q.1)) := by
  have hb := hp.b
  obtain ⟨m, hmk⟩ : ∃ m, n - k = m + 1 := ⟨n - k - 1, by omega⟩
  have hmk2 : n - (k + 1) = m := by omega
  unfold stepR
  cases hs : spotsR (rows, f).1 n k with
  | nil =>
    show cg p (det (n - k) (sb k rows)) 0
    have z := spotsR_none (n := n) (rows := rows) hs
    rw [hmk]
    refine (su_cg (g := fun _ => 0) fun i hi => ?_).trans (cg.of (su_zero fun _ _ => rfl))
    have h1 : sb k rows i 0 = 0 := by
      unfold sb
      rw [Nat.zero_add]
      exact z (i + k) (by omega) (by omega)
    rw [h1, Int.mul_zero, Int.zero_mul]
    exact cg.rfl
  | cons s l =>
    have hsb := spotsR_mem (rows := rows) (n := n) (k := k) (s := s) (by rw [hs]; exact List.mem_cons_self)
    have hsn : s < n := hsb.2.1
    have main : ∀ (rows : List (List Int)) (f : Int), Mat p n (n + n) rows → ge rows k k ≠ 0 → cg p (f * det (n - k) (sb k rows)) (f * ge rows k k % p * det (n - (k + 1)) (sb (k + 1) (elimR p rows n k))) := by
      intro rows f hm hpv
      obtain ⟨_, hkk0, hkk1⟩ := (hm.get hk).2.get (show k < n + n by omega)
      have hkk0 : 0 ≤ ge rows k k := hkk0
      have hkk1 : ge rows k k < p := hkk1
      have bk3 := undone_mul hp ⟨hkk0, hkk1⟩ hpv
      generalize hbk : undone p (ge rows k k) = bk at *
      rw [hmk, hmk2, ← am_det.sweep (A := sb k rows) (c := fun a => - (ge rows (a + k) k * bk))]
      have e1 : cg p (det (m + 1) fun a b => if a = 0 then sb k rows 0 b else sb k rows a b + - (ge rows (a + k) k * bk) * sb k rows 0 b) (det (m + 1) fun a b => if a = 0 then sb k rows 0 b else if b = 0 then 0 else ge (elimR p rows n k) (a + k) (b + k)) := by
        refine det_cg fun a b ha hb => ?_
        by_cases h0 : a = 0
        · rw [if_pos h0, if_pos h0]
          exact cg.rfl
        · rw [if_neg h0, if_neg h0]
          by_cases h1 : b = 0
          · rw [if_pos h1, h1]
            unfold sb
            rw [Nat.zero_add]
            have e : ge rows (a + k) k + -(ge rows (a + k) k * bk) * ge rows k k = ge rows (a + k) k - ge rows (a + k) k * (bk * ge rows k k) := by grind
            rw [e]
            have h3 : cg p (bk * ge rows k k) 1 := by
              unfold cg
              rw [bk3]
              exact (Int.emod_eq_of_lt (by omega) (by omega)).symm
            have h4 := (cg.rfl (p := p) (a := ge rows (a + k) k)).sub ((cg.rfl (a := ge rows (a + k) k)).mul h3)
            rw [Int.mul_one, Int.sub_self] at h4
            exact h4
          · rw [if_neg h1]
            have h5 := ge_elimO (b := b + k) (a := a + k) (show 0 < p by omega) hm hk (by omega) (by omega) (by omega)
            rw [hbk] at h5
            unfold sb
            rw [Nat.zero_add]
            exact cg.trans (cg.of (by grind)) h5.symm
      refine (cg.rfl.mul e1).trans ?_
      rw [det_col fun i hi => by rw [if_neg (by omega), if_pos rfl], if_pos rfl, show sb k rows 0 0 = ge rows k k by unfold sb; rw [Nat.zero_add]]
      rw [det_congr (B := sb (k + 1) (elimR p rows n k)) fun a b ha hb => by
        rw [if_neg (by omega), if_neg (by omega)]
        unfold sb
        rw [show a + 1 + k = a + (k + 1) by omega, show b + 1 + k = b + (k + 1) by omega]]
      rw [← Int.mul_assoc]
      exact cg.mods.mul cg.rfl
    by_cases e : s = k
    · show cg p (f * det (n - k) (sb k rows)) ((if s = k then f else 0 - f) * ge (if s = k then rows else swapF rows k s) k k % p * det (n - (k + 1)) (sb (k + 1) (elimR p (if s = k then rows else swapF rows k s) n k)))
      rw [if_pos e, if_pos e]
      refine main rows f hm ?_
      rw [e] at hsb
      exact hsb.2.2
    · show cg p (f * det (n - k) (sb k rows)) ((if s = k then f else 0 - f) * ge (if s = k then rows else swapF rows k s) k k % p * det (n - (k + 1)) (sb (k + 1) (elimR p (if s = k then rows else swapF rows k s) n k)))
      rw [if_neg e, if_neg e]
      have hm2 := swapF_mat hm hk hsn
      have := main (swapF rows k s) (0 - f) hm2 (by rw [ge_swapM hm hk hsn, if_neg (by omega), if_pos rfl]; exact hsb.2.2)
      refine cg.trans (cg.of ?_) this
      have sw : det (n - k) (sb k (swapF rows k s)) = - det (n - k) (sb k rows) := by
        rw [hmk, ← am_det.swp2 (A := sb k rows) (k := 0) (l := s - k) (by omega) (by omega) (by omega)]
        refine det_congr fun a b ha hb => ?_
        unfold sb setr
        rw [ge_swapM hm hk hsn]
        grind
      rw [sw]
      grind
theorem red_det {t : List (List Int)} (hp : Pr p) (hm : Mat p n n t) : (redF p t).1 = det n (ge t) % p := by
  have hb := hp.b
  have go : ∀ i, i ≤ n → match stR p t i with
      | none => cg p (det n (ge t)) 0
      | some q => cg p (det n (ge t)) (q.2 * det (n - i) (sb i q.1)) := by
    intro i
    induction i with
    | zero =>
      intro _
      show cg p (det n (ge t)) (1 * det (n - 0) (sb 0 (augF t)))
      rw [Int.one_mul]
      refine cg.of (det_congr fun i j hi hj => ?_)
      exact (ge_augL hm hi hj).symm
    | succ i ih =>
      intro hi
      have ih := ih (by omega)
      show match (stR p t i).bind (stepR p t.length i) with
      | none => cg p (det n (ge t)) 0
      | some q => cg p (det n (ge t)) (q.2 * det (n - (i + 1)) (sb (i + 1) q.1))
      cases hq : stR p t i with
      | none =>
        rw [hq] at ih
        exact ih
      | some q =>
        rw [hq] at ih
        obtain ⟨rows, f⟩ := q
        have hmm := (stR_mat (by omega) hm i _ (by omega) hq).1
        have st := stepR_det (f := f) hp hmm (show i < n by omega)
        show match stepR p t.length i (rows, f) with
        | none => cg p (det n (ge t)) 0
        | some q => cg p (det n (ge t)) (q.2 * det (n - (i + 1)) (sb (i + 1) q.1))
        rw [hm.1]
        cases hst : stepR p n i (rows, f) with
        | none =>
          rw [hst] at st
          have h2 := (cg.rfl (p := p) (a := f)).mul st
          rw [Int.mul_zero] at h2
          exact ih.trans h2
        | some q2 =>
          rw [hst] at st
          exact ih.trans st
  have g := go n (by omega)
  unfold redF
  rw [hm.1]
  cases hq : stR p t n with
  | none =>
    rw [hq] at g
    have : det n (ge t) % p = 0 % p := g
    rw [Int.zero_emod] at this
    exact this.symm
  | some q =>
    rw [hq] at g
    rw [Nat.sub_self] at g
    have : det n (ge t) % p = (q.2 * 1) % p := g
    rw [Int.mul_one] at this
    exact this.symm
end
end Dt

set_option Elab.async false
set_option linter.all false
set_option autoImplicit false
/-! Keepers listed by a law's own hand: what is listed, how many. -/
namespace Dt
open Rk
def rowsF (p : Int) : Nat → List (List Int)
  | 0 => [[]]
  | i + 1 => (rowsF p i).flatMap fun r => (rg p.toNat).map fun x => r ++ [x]
def prodF (p : Int) (t : List (List Int)) (r : List Int) : List Int := (rg t.length).map fun c => ((r.zip t).map fun v => v.1 * v.2.getD c.toNat 0).sum % p
abbrev PR := List Int × List Int
def pairsF (p : Int) (t : List (List Int)) : List PR := (rowsF p t.length).map fun r => (r, prodF p t r)
def nearF (p : Int) (t : List (List Int)) (k : Nat) : List PR := (pairsF p t).filter fun v => dotF p v.2 v.1 == ge t k k
def fitF (p : Int) (t : List (List Int)) (k : Nat) (l : List PR) (v : PR) : Bool := (List.range k).all fun to => dotF p (l.getD to ([], [])).2 v.1 == ge t to k
def lsF (p : Int) (t : List (List Int)) : Nat → List (List PR)
  | 0 => [[]]
  | k + 1 => (lsF p t k).flatMap fun l => ((nearF p t k).filter (fitF p t k l)).map fun v => l ++ [v]
def dnF (p : Int) (l : List PR) : Bool := ldetF p (l.map (·.1)) != 0
def listF (p : Int) (t : List (List Int)) : List (List (List Int)) := ((lsF p t t.length).map fun l => l.map (·.1)).filter fun rows => ldetF p rows != 0
def betsF (p : Int) (t rows : List (List Int)) : List (List Int) := rows.map fun r => rows.map fun q => betF p t r q
section
variable {p : Int} {n : Nat} {t : List (List Int)}
theorem rows_row (hp : 0 < p) : ∀ {n : Nat} {r : List Int}, r ∈ rowsF p n → Row p n r
  | 0, r, h => by
    rw [List.mem_singleton.mp h]
    exact ⟨rfl, fun x hx => by cases hx⟩
  | n + 1, r, h => by
    obtain ⟨q, hq, h⟩ := List.mem_flatMap.mp h
    obtain ⟨x, hx, rfl⟩ := List.mem_map.mp h
    have hx := mem_rg.mp hx
    have k := rows_row hp hq
    exact row_app k (show Row p 1 [x] from ⟨rfl, fun y hy => by rw [List.mem_singleton.mp hy]; omega⟩)
theorem pair_ok (hp : 0 < p) {v : PR} (h : v ∈ pairsF p t) : v.2 = prodF p t v.1 ∧ Row p t.length v.1 := by
  obtain ⟨r, hr, rfl⟩ := List.mem_map.mp h
  exact ⟨rfl, rows_row hp hr⟩
theorem ls_mem : ∀ {k : Nat} {l : List PR}, l ∈ lsF p t k → l.length = k ∧ ∀ i v, l[i]? = some v → v ∈ nearF p t i ∧ ∀ j u, j < i → l[j]? = some u → dotF p u.2 v.1 = ge t j i
  | 0, l, h => by
    rw [List.mem_singleton.mp h]
    exact ⟨rfl, fun i v e => by simp at e⟩
  | k + 1, l, h => by
    obtain ⟨l0, h0, h⟩ := List.mem_flatMap.mp h
    obtain ⟨v, hv, rfl⟩ := List.mem_map.mp h
    obtain ⟨hv1, hv2⟩ := List.mem_filter.mp hv
    obtain ⟨g1, g2⟩ := ls_mem (k := k) h0
    refine ⟨by rw [List.length_append, g1]; rfl, fun i w e => ?_⟩
    by_cases hi : i < k
    · rw [List.getElem?_append_left (by omega)] at e
      obtain ⟨q1, q2⟩ := g2 i w e
      refine ⟨q1, fun j u hj eu => q2 j u hj ?_⟩
      rw [List.getElem?_append_left (by omega)] at eu
      exact eu
    · rw [List.getElem?_append_right (by omega)] at e
      have hi2 : i = k := by
        have := (List.getElem?_eq_some_iff.mp e).1
        simp at this
        omega
      subst hi2
      rw [g1, Nat.sub_self] at e
      cases e
      refine ⟨hv1, fun j u hj eu => ?_⟩
      rw [List.getElem?_append_left (by omega)] at eu
      have := List.all_eq_true.mp hv2 j (List.mem_range.mpr hj)
      rw [List.getD_eq_getElem?_getD, eu] at this
      simpa using this
theorem ls_pair (hp : 0 < p) {k : Nat} {l : List PR} (h : l ∈ lsF p t k) : ∀ v, v ∈ l → v.2 = prodF p t v.1 ∧ Row p t.length v.1 := fun v hv => by
  obtain ⟨i, hi⟩ := List.getElem?_of_mem hv
  exact pair_ok hp (List.mem_filter.mp ((ls_mem h).2 i v hi).1).1
theorem rows_len : ∀ {n : Nat}, (rowsF p n).length = p.toNat ^ n
  | 0 => rfl
  | n + 1 => by
    have go : ∀ (l : List (List Int)), (l.flatMap fun r => (rg p.toNat).map fun x => r ++ [x]).length = l.length * p.toNat := by
      intro l
      induction l with
      | nil => rw [List.flatMap_nil, List.length_nil, Nat.zero_mul]
      | cons a l ih => rw [List.flatMap_cons, List.length_append, ih, List.length_map, rg_len, List.length_cons, Nat.succ_mul, Nat.add_comm]
    show ((rowsF p n).flatMap _).length = _
    rw [go, rows_len, Nat.pow_succ]
theorem ls_len : ∀ {k : Nat}, (lsF p t k).length ≤ (pairsF p t).length ^ k
  | 0 => Nat.le_refl _
  | k + 1 => by
    have go : ∀ (l : List (List PR)), (l.flatMap fun l => ((nearF p t k).filter (fitF p t k l)).map fun v => l ++ [v]).length ≤ l.length * (pairsF p t).length := by
      intro l
      induction l with
      | nil => rw [List.flatMap_nil]; exact Nat.zero_le _
      | cons a l ih =>
        rw [List.flatMap_cons, List.length_append, List.length_map, List.length_cons, Nat.succ_mul, Nat.add_comm]
        refine Nat.add_le_add ih ?_
        exact Nat.le_trans (List.length_filter_le _ _) (List.length_filter_le _ _)
    show ((lsF p t k).flatMap _).length ≤ _
    refine Nat.le_trans (go _) ?_
    rw [Nat.pow_succ]
    exact Nat.mul_le_mul_right _ ls_len
theorem fn_prod (hm : Mat p n n t) {x : List Int} (hx : x.length = n) {j : Nat} (hj : j < n) : cg p (fn (prodF p t x) j) (su n fun i => fn x i * ge t i j) := by
  unfold prodF
  have e : fn ((rg t.length).map fun c => ((x.zip t).map fun v => v.1 * v.2.getD c.toNat 0).sum % p) j = ((x.zip t).map fun v => v.1 * v.2.getD j 0).sum % p := by
    unfold fn
    rw [List.getD_eq_getElem?_getD, List.getElem?_map, rg_get (by rw [hm.1]; exact hj)]
    rfl
  rw [e]
  refine cg.mod.trans (cg.of ?_)
  have go : ∀ (x : List Int) (t : List (List Int)), x.length = t.length → ((x.zip t).map fun v => v.1 * v.2.getD j 0).sum = su x.length fun i => fn x i * ge t i j := by
    intro x
    induction x with
    | nil => intro t _; rfl
    | cons u x ih =>
      intro t ht
      cases t with
      | nil => simp at ht
      | cons r t =>
        rw [List.zip_cons_cons, List.map_cons, List.sum_cons, List.length_cons, su_first, ih t (by simpa using ht)]
        rfl
  rw [go x t (by rw [hx, hm.1]), hx]
theorem prod_len {x : List Int} : (prodF p t x).length = t.length := by
  unfold prodF
  rw [List.length_map, rg_len]
/-- the law's between is the package's -/
theorem dot_prod (hp : Pr p) (hm : Mat p n n t) {x y : List Int} (hx : x.length = n) (hy : y.length = n) : dotF p (prodF p t x) y = betF p t x y := by
  have hb := hp.b
  have h1 : cg p (dotF p (prodF p t x) y) (Bl n (ge t) (fn x) (fn y)) := by
    unfold dotF
    refine cg.mod.trans ((dot_cg (by rw [prod_len, hm.1, hy])).trans ?_)
    rw [prod_len, hm.1]
    unfold Bl
    rw [su_comm (f := fun i j => fn x i * ge t i j * fn y j)]
    refine su_cg fun j hj => ?_
    refine ((fn_prod hm hx hj).mul cg.rfl).trans (cg.of ?_)
    rw [← su_mulr]
  have h2 := bet_cg hp hm hx hy
  have b1 : 0 ≤ dotF p (prodF p t x) y ∧ dotF p (prodF p t x) y < p := emod_b (by omega)
  have b2 := bet_b (t := t) (x := x) (y := y) hp
  have h3 := h1.trans h2.symm
  unfold cg at h3
  rwa [Int.emod_eq_of_lt b1.1 b1.2, Int.emod_eq_of_lt b2.1 b2.2] at h3
theorem bet_symm (hp : Pr p) (hr : Rm p n t) {x y : List Int} (hx : x.length = n) (hy : y.length = n) : betF p t x y = betF p t y x := by
  have h1 := bet_cg hp hr.mat hx hy
  have h2 := bet_cg hp hr.mat hy hx
  rw [Bl_sym hr.sym] at h1
  have h3 := h1.trans h2.symm
  have b1 := bet_b (t := t) (x := x) (y := y) hp
  have b2 := bet_b (t := t) (x := y) (y := x) hp
  unfold cg at h3
  rwa [Int.emod_eq_of_lt b1.1 b1.2, Int.emod_eq_of_lt b2.1 b2.2] at h3
/-- what is listed is a keeper -/
theorem list_ok (hp : Pr p) (hr : Rm p n t) {rows : List (List Int)} (h : rows ∈ listF p t) : Mat p n n rows ∧ ldetF p rows ≠ 0 ∧ betsF p t rows = t := by
  have hb := hp.b
  obtain ⟨h1, h2⟩ := List.mem_filter.mp h
  obtain ⟨l, hl, rfl⟩ := List.mem_map.mp h1
  rw [hr.mat.1] at hl
  obtain ⟨g1, g2⟩ := ls_mem (k := n) hl
  have rw1 : ∀ (i : Nat) (v : PR), l[i]? = some v → v.2 = prodF p t v.1 ∧ Row p n v.1 := fun i v e => by
    have := pair_ok (p := p) (t := t) (by omega) (List.mem_filter.mp (g2 i v e).1).1
    rw [hr.mat.1] at this
    exact this
  have hm : Mat p n n (l.map (·.1)) := by
    refine ⟨by rw [List.length_map, g1], fun r hr => ?_⟩
    obtain ⟨v, hv, rfl⟩ := List.mem_map.mp hr
    obtain ⟨i, hi⟩ := List.getElem?_of_mem hv
    exact (rw1 i v hi).2
  have bet : ∀ (i j : Nat) (u v : PR), i ≤ j → l[i]? = some u → l[j]? = some v → betF p t u.1 v.1 = ge t i j := by
    intro i j u v hij eu ev
    obtain ⟨k1, k2⟩ := rw1 i u eu
    obtain ⟨k3, k4⟩ := rw1 j v ev
    obtain ⟨q1, q2⟩ := g2 j v ev
    rcases Nat.lt_or_eq_of_le hij with h | h
    · have := q2 i u h eu
      rw [k1, dot_prod hp hr.mat k2.1 k4.1] at this
      exact this
    · subst h
      rw [eu] at ev
      cases ev
      have := (List.mem_filter.mp q1).2
      rw [k1, dot_prod hp hr.mat k2.1 k2.1] at this
      simpa using this
  refine ⟨hm, by simpa using h2, ?_⟩
  unfold betsF
  rw [List.map_map]
  refine List.ext_getElem? fun i => ?_
  rw [List.getElem?_map]
  by_cases hi : i < n
  · have eu : l[i]? = some (l[i]'(by omega)) := List.getElem?_eq_getElem (by omega)
    rw [eu, (hr.mat.get hi).1]
    show some _ = some _
    congr 1
    show (l.map (·.1)).map (fun q => betF p t (l[i]'(by omega)).1 q) = gr t i
    rw [List.map_map]
    refine List.ext_getElem? fun j => ?_
    rw [List.getElem?_map]
    by_cases hj : j < n
    · have ev : l[j]? = some (l[j]'(by omega)) := List.getElem?_eq_getElem (by omega)
      rw [ev, ((hr.mat.get hi).2.get hj).1]
      show some _ = some _
      congr 1
      show betF p t (l[i]'(by omega)).1 (l[j]'(by omega)).1 = ge t i j
      rcases Nat.le_total i j with h | h
      · exact bet i j _ _ h eu ev
      · rw [bet_symm hp hr (rw1 i _ eu).2.1 (rw1 j _ ev).2.1, bet j i _ _ h ev eu, hr.sym j i hj hi]
    · rw [List.getElem?_eq_none (by omega), List.getElem?_eq_none (by rw [(hr.mat.get hi).2.1]; omega)]
      rfl
  · rw [List.getElem?_eq_none (by omega), List.getElem?_eq_none (by rw [hr.mat.1]; omega)]
    rfl
/-! ### how many -/
/-- in how many ways a list goes on to a listed one -/
def cmF (p : Int) (t : List (List Int)) : Nat → Nat → List PR → Nat
  | 0, _, l => if dnF p l then 1 else 0
  | m + 1, k, l => (((nearF p t k).filter (fitF p t k l)).map fun v => cmF p t m (k + 1) (l ++ [v])).sum
theorem sum_flat {α β : Type} {f : α → List β} {g : β → Nat} : ∀ {l : List α}, ((l.flatMap f).map g).sum = (l.map fun a => ((f a).map g).sum).sum
  | [] => rfl
  | a :: l => by rw [List.flatMap_cons, List.map_append, List.sum_append, sum_flat, List.map_cons, List.sum_cons]
theorem len_sum {α : Type} {f : α → Bool} : ∀ {l : List α}, (l.filter f).length = (l.map fun a => if f a then 1 else 0).sum
  | [] => rfl
  | a :: l => by
    rw [List.filter_cons, List.map_cons, List.sum_cons, ← len_sum]
    split <;> simp [Nat.add_comm]
theorem cm_len : ∀ (m k : Nat), ((lsF p t (k + m)).filter (dnF p)).length = ((lsF p t k).map (cmF p t m k)).sum
  | 0, k => by
    rw [len_sum]
    rfl
  | m + 1, k => by
    rw [show k + (m + 1) = k + 1 + m by omega, cm_len m (k + 1)]
    show (((lsF p t k).flatMap _).map _).sum = _
    rw [sum_flat]
    congr 1
    refine List.map_congr_left fun l _ => ?_
    rw [List.map_map]
    rfl
theorem list_len : (listF p t).length = cmF p t t.length 0 [] := by
  have := cm_len (p := p) (t := t) t.length 0
  rw [Nat.zero_add] at this
  show _ = _
  unfold listF
  rw [List.filter_map, List.length_map]
  refine Eq.trans ?_ (this.trans ?_)
  · rfl
  · show cmF p t t.length 0 [] + 0 = _
    rfl
/-- the sum of f 0 .. f (n - 1) -/
def S (f : Nat → Nat) : Nat → Nat
  | 0 => 0
  | i + 1 => Nat.add (S f i) (f i)
theorem S_congr {f g : Nat → Nat} {n : Nat} (h : ∀ i, i < n → f i = g i) : S f n = S g n := by
  induction n with
  | zero => rfl
  | succ n ih =>
    show Nat.add (S f n) (f n) = Nat.add (S g n) (g n)
    rw [ih fun i hi => h i (by omega), h n (by omega)]
theorem S_range {f : Nat → Nat} : ∀ {n : Nat}, ((List.range n).map f).sum = S f n
  | 0 => rfl
  | n + 1 => by
    rw [List.range_succ, List.map_append, List.sum_append, S_range]
    show S f n + (f n + 0) = S f n + f n
    rw [Nat.add_zero]
theorem filt_sum {α : Type} {f : α → Bool} {g : α → Nat} : ∀ {l : List α}, ((l.filter f).map g).sum = (l.map fun a => if f a then g a else 0).sum
  | [] => rfl
  | a :: l => by
    rw [List.filter_cons, List.map_cons, List.sum_cons, ← filt_sum]
    split
    · rw [List.map_cons, List.sum_cons]
    · rw [Nat.zero_add]
theorem rows_sum {P : Nat} {g : List Int → Nat} {n : Nat} : ((rowsF (P : Int) (n + 1)).map g).sum = ((rowsF (P : Int) n).map fun r => S (fun x => g (r ++ [(x : Int)])) P).sum := by
  show (((rowsF (P : Int) n).flatMap _).map g).sum = _
  rw [sum_flat]
  congr 1
  refine List.map_congr_left fun r _ => ?_
  rw [List.map_map, Int.toNat_natCast]
  unfold rg
  rw [List.map_map, ← S_range]
  rfl
theorem pairs_sum {f : PR → Bool} {g : PR → Nat} : (((pairsF p t).filter f).map g).sum = ((rowsF p t.length).map fun r => if f (r, prodF p t r) then g (r, prodF p t r) else 0).sum := by
  rw [filt_sum]
  unfold pairsF
  rw [List.map_map]
  rfl
theorem near_sum {k : Nat} {f : PR → Bool} {g : PR → Nat} : (((nearF p t k).filter f).map g).sum = ((rowsF p t.length).map fun r => if (dotF p (prodF p t r) r == ge t k k) && f (r, prodF p t r) then g (r, prodF p t r) else 0).sum := by
  unfold nearF
  rw [List.filter_filter, pairs_sum]
  congr 1
  refine List.map_congr_left fun r _ => ?_
  rw [Bool.and_comm]
end
end Dt

set_option Elab.async false
set_option linter.all false
set_option autoImplicit false
set_option maxRecDepth 100000
/-! Keepers listed, counted in small rooms: whole numbers from 0 on, one by one. -/
namespace Dt
open Rk
section
variable {P : Nat}
theorem rows2 {g : List Int → Nat} : ((rowsF (P : Int) 2).map g).sum = S (fun x => S (fun y => g [(x : Int), (y : Int)]) P) P := by
  rw [rows_sum, rows_sum]
  rfl
theorem rows3 {g : List Int → Nat} : ((rowsF (P : Int) 3).map g).sum = S (fun x => S (fun y => S (fun z => g [(x : Int), (y : Int), (z : Int)]) P) P) P := by
  rw [rows_sum, rows_sum, rows_sum]
  rfl
theorem nat_mod {a b : Nat} : Nat.mod a b = a % b := rfl
theorem beq_cast {a b : Nat} : ((a : Int) == (b : Int)) = Nat.beq a b := by
  by_cases h : a = b
  · subst h
    rw [Nat.beq_refl]
    simp
  · have h1 : Nat.beq a b = false := by
      cases e : Nat.beq a b with
      | false => rfl
      | true => exact absurd (Nat.eq_of_beq_eq_true e) h
    rw [h1]
    have : ¬ (a : Int) = (b : Int) := by omega
    simp [this]
theorem if_cond {a : Bool} {x : Nat} : (if a = true then x else 0) = cond a x 0 := by cases a <;> rfl
theorem if_cond2 {a b : Bool} {x : Nat} : (if (a && b) = true then x else 0) = cond a (cond b x 0) 0 := by cases a <;> cases b <;> rfl
theorem cond_congr {a b : Bool} {x y : Nat} (h : a = b) (k : b = true → x = y) : cond a x 0 = cond b y 0 := by
  subst h
  cases a with
  | false => rfl
  | true => exact k rfl
/-! size 3 -/
def tb3 (t0 t1 t2 t3 t4 t5 : Nat) : List (List Int) := [[(t0 : Int), (t1 : Int), (t2 : Int)], [(t1 : Int), (t3 : Int), (t4 : Int)], [(t2 : Int), (t4 : Int), (t5 : Int)]]
def q3 (P t0 t1 t2 t3 t4 t5 x y z a b c : Nat) : Nat := Nat.mod (Nat.add (Nat.add (Nat.mul (Nat.mod (Nat.add (Nat.add (Nat.mul x t0) (Nat.mul y t1)) (Nat.mul z t2)) P) a) (Nat.mul (Nat.mod (Nat.add (Nat.add (Nat.mul x t1) (Nat.mul y t3)) (Nat.mul z t4)) P) b)) (Nat.mul (Nat.mod (Nat.add (Nat.add (Nat.mul x t2) (Nat.mul y t4)) (Nat.mul z t5)) P) c)) P
theorem q3_eq {t0 t1 t2 t3 t4 t5 x y z a b c : Nat} : dotF (P : Int) (prodF (P : Int) (tb3 t0 t1 t2 t3 t4 t5) [(x : Int), (y : Int), (z : Int)]) [(a : Int), (b : Int), (c : Int)] = ((q3 P t0 t1 t2 t3 t4 t5 x y z a b c : Nat) : Int) := by
  simp [dotF, prodF, rg, List.range_succ, tb3, q3, nat_mod, Int.add_assoc]
def d3 (P x y z a b c u v w : Nat) : Bool := not (Nat.beq (Nat.mod (Nat.add (Nat.add (Nat.mul x (Nat.mul b w)) (Nat.mul y (Nat.mul c u))) (Nat.mul z (Nat.mul a v))) P) (Nat.mod (Nat.add (Nat.add (Nat.mul x (Nat.mul c v)) (Nat.mul y (Nat.mul a w))) (Nat.mul z (Nat.mul b u))) P))
theorem d3_eq {x y z a b c u v w : Nat} (hp : Pr (P : Int)) (h1 : x < P ∧ y < P ∧ z < P) (h2 : a < P ∧ b < P ∧ c < P) (h3 : u < P ∧ v < P ∧ w < P) : (ldetF (P : Int) [[(x : Int), (y : Int), (z : Int)], [(a : Int), (b : Int), (c : Int)], [(u : Int), (v : Int), (w : Int)]] != 0) = d3 P x y z a b c u v w := by
  have row : ∀ x y z : Nat, x < P ∧ y < P ∧ z < P → Row (P : Int) 3 [(x : Int), (y : Int), (z : Int)] := fun x y z h => ⟨rfl, fun q hq => by
    simp at hq
    omega⟩
  have hm : Mat (P : Int) 3 3 [[(x : Int), (y : Int), (z : Int)], [(a : Int), (b : Int), (c : Int)], [(u : Int), (v : Int), (w : Int)]] := ⟨rfl, fun r hr => by
    simp at hr
    rcases hr with rfl | rfl | rfl
    · exact row x y z h1
    · exact row a b c h2
    · exact row u v w h3⟩
  rw [ldet_eq hp hm]
  have e : det 3 (ge [[(x : Int), (y : Int), (z : Int)], [(a : Int), (b : Int), (c : Int)], [(u : Int), (v : Int), (w : Int)]]) = (x * (b * w) + y * (c * u) + z * (a * v) : Int) - (x * (c * v) + y * (a * w) + z * (b * u)) := by
    simp [det, su, sg, sk, ge, gr]
    grind
  rw [e]
  unfold d3
  have key : ∀ m k : Nat, ((((m : Int) - (k : Int)) % (P : Int)) != 0) = not (Nat.beq (Nat.mod m P) (Nat.mod k P)) := fun m k => by
    rw [← beq_cast, bne]
    congr 1
    have : (((m : Int) - k) % (P : Int) = 0) ↔ ((Nat.mod m P : Nat) : Int) = ((Nat.mod k P : Nat) : Int) := by
      rw [nat_mod, nat_mod, Int.natCast_emod, Int.natCast_emod]
      exact Int.emod_eq_emod_iff_emod_sub_eq_zero.symm
    simp only [Bool.beq_eq_decide_eq]
    exact decide_eq_decide.mpr this
  have := key (x * (b * w) + y * (c * u) + z * (a * v)) (x * (c * v) + y * (a * w) + z * (b * u))
  push_cast at this
  exact this
def c3 (P t0 t1 t2 t3 t4 t5 : Nat) : Nat :=
  S (fun x => S (fun y => S (fun z => cond (Nat.beq (q3 P t0 t1 t2 t3 t4 t5 x y z x y z) t0)
    (S (fun a => S (fun b => S (fun c => cond (Nat.beq (q3 P t0 t1 t2 t3 t4 t5 a b c a b c) t3) (cond (Nat.beq (q3 P t0 t1 t2 t3 t4 t5 x y z a b c) t1)
      (S (fun u => S (fun v => S (fun w => cond (Nat.beq (q3 P t0 t1 t2 t3 t4 t5 u v w u v w) t5) (cond (Nat.beq (q3 P t0 t1 t2 t3 t4 t5 x y z u v w) t2) (cond (Nat.beq (q3 P t0 t1 t2 t3 t4 t5 a b c u v w) t4)
        (cond (d3 P x y z a b c u v w) 1 0) 0) 0) 0) P) P) P) 0) 0) P) P) P) 0) P) P) P
theorem near3 {t0 t1 t2 t3 t4 t5 : Nat} {k : Nat} {tk : Nat} (hk : ge (tb3 t0 t1 t2 t3 t4 t5) k k = (tk : Int)) {f : PR → Bool} {g : PR → Nat} :
    (((nearF (P : Int) (tb3 t0 t1 t2 t3 t4 t5) k).filter f).map g).sum = S (fun x => S (fun y => S (fun z => cond (Nat.beq (q3 P t0 t1 t2 t3 t4 t5 x y z x y z) tk) (cond (f ([(x : Int), (y : Int), (z : Int)], prodF (P : Int) (tb3 t0 t1 t2 t3 t4 t5) [(x : Int), (y : Int), (z : Int)])) (g ([(x : Int), (y : Int), (z : Int)], prodF (P : Int) (tb3 t0 t1 t2 t3 t4 t5) [(x : Int), (y : Int), (z : Int)])) 0) 0) P) P) P := by
  rw [near_sum]
  show ((rowsF (P : Int) 3).map _).sum = _
  rw [rows3]
  refine S_congr fun x hx => S_congr fun y hy => S_congr fun z hz => ?_
  rw [if_cond2, q3_eq, hk, beq_cast]
theorem c3_eq {t0 t1 t2 t3 t4 t5 : Nat} (hp : Pr (P : Int)) : (listF (P : Int) (tb3 t0 t1 t2 t3 t4 t5)).length = c3 P t0 t1 t2 t3 t4 t5 := by
  rw [list_len]
  show cmF (P : Int) (tb3 t0 t1 t2 t3 t4 t5) 3 0 [] = _
  unfold cmF
  rw [near3 (tk := t0) rfl]
  refine S_congr fun x hx => S_congr fun y hy => S_congr fun z hz => cond_congr rfl fun _ => ?_
  show cond true _ 0 = _
  show cmF (P : Int) (tb3 t0 t1 t2 t3 t4 t5) 2 1 _ = _
  unfold cmF
  rw [near3 (tk := t3) rfl]
  refine S_congr fun a ha => S_congr fun b hb => S_congr fun c hc => cond_congr rfl fun _ => cond_congr ?_ fun _ => ?_
  · show ((dotF _ _ _ == (t1 : Int)) && true) = _
    rw [Bool.and_true]
    refine Eq.trans ?_ beq_cast
    congr 1
    exact q3_eq
  show cmF (P : Int) (tb3 t0 t1 t2 t3 t4 t5) 1 2 _ = _
  unfold cmF
  rw [near3 (tk := t5) rfl]
  refine S_congr fun u hu => S_congr fun v hv => S_congr fun w hw => cond_congr rfl fun _ => ?_
  have e : ∀ (a b c : Bool) (m k : Nat), a = (b && (c && true)) → m = k → cond a m 0 = cond b (cond c k 0) 0 := fun a b c m k h1 h2 => by
    subst h1 h2
    cases b <;> cases c <;> rfl
  refine e _ _ _ _ _ ?_ ?_
  · show ((dotF _ _ _ == (t2 : Int)) && ((dotF _ _ _ == (t4 : Int)) && true)) = _
    refine congr (congrArg and ?_) (congr (congrArg and ?_) rfl)
    · refine Eq.trans ?_ beq_cast
      congr 1
      exact q3_eq
    · refine Eq.trans ?_ beq_cast
      congr 1
      exact q3_eq
  · show (if dnF (P : Int) _ = true then 1 else 0) = _
    have := d3_eq (x := x) (y := y) (z := z) (a := a) (b := b) (c := c) (u := u) (v := v) (w := w) hp ⟨hx, hy, hz⟩ ⟨ha, hb, hc⟩ ⟨hu, hv, hw⟩
    show (if (ldetF (P : Int) [[(x : Int), (y : Int), (z : Int)], [(a : Int), (b : Int), (c : Int)], [(u : Int), (v : Int), (w : Int)]] != 0) = true then 1 else 0) = _
    rw [this]
    cases d3 P x y z a b c u v w <;> rfl
/-! size 2 -/
def tb2 (t0 t1 t2 : Nat) : List (List Int) := [[(t0 : Int), (t1 : Int)], [(t1 : Int), (t2 : Int)]]
def q2 (P t0 t1 t2 x y a b : Nat) : Nat := Nat.mod (Nat.add (Nat.mul (Nat.mod (Nat.add (Nat.mul x t0) (Nat.mul y t1)) P) a) (Nat.mul (Nat.mod (Nat.add (Nat.mul x t1) (Nat.mul y t2)) P) b)) P
theorem q2_eq {t0 t1 t2 x y a b : Nat} : dotF (P : Int) (prodF (P : Int) (tb2 t0 t1 t2) [(x : Int), (y : Int)]) [(a : Int), (b : Int)] = ((q2 P t0 t1 t2 x y a b : Nat) : Int) := by
  simp [dotF, prodF, rg, List.range_succ, tb2, q2, nat_mod, Int.add_assoc]
def d2 (P x y a b : Nat) : Bool := not (Nat.beq (Nat.mod (Nat.mul x b) P) (Nat.mod (Nat.mul y a) P))
theorem d2_eq {x y a b : Nat} (hp : Pr (P : Int)) (h1 : x < P ∧ y < P) (h2 : a < P ∧ b < P) : (ldetF (P : Int) [[(x : Int), (y : Int)], [(a : Int), (b : Int)]] != 0) = d2 P x y a b := by
  have row : ∀ x y : Nat, x < P ∧ y < P → Row (P : Int) 2 [(x : Int), (y : Int)] := fun x y h => ⟨rfl, fun q hq => by
    simp at hq
    omega⟩
  have hm : Mat (P : Int) 2 2 [[(x : Int), (y : Int)], [(a : Int), (b : Int)]] := ⟨rfl, fun r hr => by
    simp at hr
    rcases hr with rfl | rfl
    · exact row x y h1
    · exact row a b h2⟩
  rw [ldet_eq hp hm]
  have e : det 2 (ge [[(x : Int), (y : Int)], [(a : Int), (b : Int)]]) = (x * b : Int) - y * a := by
    simp [det, su, sg, sk, ge, gr]
    grind
  rw [e]
  unfold d2
  rw [← beq_cast, bne]
  congr 1
  have : (((x : Int) * b - y * a) % (P : Int) = 0) ↔ ((Nat.mod (Nat.mul x b) P : Nat) : Int) = ((Nat.mod (Nat.mul y a) P : Nat) : Int) := by
    rw [nat_mod, nat_mod, Int.natCast_emod, Int.natCast_emod]
    exact Int.emod_eq_emod_iff_emod_sub_eq_zero.symm
  simp only [Bool.beq_eq_decide_eq]
  exact decide_eq_decide.mpr this
def c2 (P t0 t1 t2 : Nat) : Nat :=
  S (fun x => S (fun y => cond (Nat.beq (q2 P t0 t1 t2 x y x y) t0)
    (S (fun a => S (fun b => cond (Nat.beq (q2 P t0 t1 t2 a b a b) t2) (cond (Nat.beq (q2 P t0 t1 t2 x y a b) t1)
        (cond (d2 P x y a b) 1 0) 0) 0) P) P) 0) P) P
theorem near2 {t0 t1 t2 : Nat} {k : Nat} {tk : Nat} (hk : ge (tb2 t0 t1 t2) k k = (tk : Int)) {f : PR → Bool} {g : PR → Nat} :
    (((nearF (P : Int) (tb2 t0 t1 t2) k).filter f).map g).sum = S (fun x => S (fun y => cond (Nat.beq (q2 P t0 t1 t2 x y x y) tk) (cond (f ([(x : Int), (y : Int)], prodF (P : Int) (tb2 t0 t1 t2) [(x : Int), (y : Int)])) (g ([(x : Int), (y : Int)], prodF (P : Int) (tb2 t0 t1 t2) [(x : Int), (y : Int)])) 0) 0) P) P := by
  rw [near_sum]
  show ((rowsF (P : Int) 2).map _).sum = _
  rw [rows2]
  refine S_congr fun x hx => S_congr fun y hy => ?_
  rw [if_cond2, q2_eq, hk, beq_cast]
theorem c2_eq {t0 t1 t2 : Nat} (hp : Pr (P : Int)) : (listF (P : Int) (tb2 t0 t1 t2)).length = c2 P t0 t1 t2 := by
  rw [list_len]
  show cmF (P : Int) (tb2 t0 t1 t2) 2 0 [] = _
  unfold cmF
  rw [near2 (tk := t0) rfl]
  refine S_congr fun x hx => S_congr fun y hy => cond_congr rfl fun _ => ?_
  show cmF (P : Int) (tb2 t0 t1 t2) 1 1 _ = _
  unfold cmF
  rw [near2 (tk := t2) rfl]
  refine S_congr fun a ha => S_congr fun b hb => cond_congr rfl fun _ => cond_congr ?_ fun _ => ?_
  · show ((dotF _ _ _ == (t1 : Int)) && true) = _
    rw [Bool.and_true]
    refine Eq.trans ?_ beq_cast
    congr 1
  · show (if dnF (P : Int) _ = true then 1 else 0) = _
    have := d2_eq (x := x) (y := y) (a := a) (b := b) hp ⟨hx, hy⟩ ⟨ha, hb⟩
    show (if (ldetF (P : Int) [[(x : Int), (y : Int)], [(a : Int), (b : Int)]] != 0) = true then 1 else 0) = _
    rw [this]
    cases d2 P x y a b <;> rfl
end
end Dt

set_option Elab.async false
set_option linter.all false
set_option autoImplicit false
set_option maxRecDepth 1000000
/-! Keepers listed are as many as told: small rooms, one by one. -/
namespace Dt
open Rk
def ok3 (t0 t1 t2 t3 t4 t5 : Nat) : Bool := let k := kindF 3 (tb3 t0 t1 t2 t3 t4 t5); let c := c3 3 t0 t1 t2 t3 t4 t5; decide (0 < c ∧ (c : Int) = kcF 3 3 k.2.1.toNat k.2.2)
def ok2 (P t0 t1 t2 : Nat) : Bool := let k := kindF P (tb2 t0 t1 t2); let c := c2 P t0 t1 t2; decide (0 < c ∧ (c : Int) = kcF P 2 k.2.1.toNat k.2.2)
def ok3r (t0 t1 t2 : Nat) : Bool := (List.range 3).all fun t3 => (List.range 3).all fun t4 => (List.range 3).all fun t5 => ok3 t0 t1 t2 t3 t4 t5
theorem k3_000 : ok3r 0 0 0 = true := by decide +kernel
theorem k3_001 : ok3r 0 0 1 = true := by decide +kernel
theorem k3_002 : ok3r 0 0 2 = true := by decide +kernel
theorem k3_010 : ok3r 0 1 0 = true := by decide +kernel
theorem k3_011 : ok3r 0 1 1 = true := by decide +kernel
theorem k3_012 : ok3r 0 1 2 = true := by decide +kernel
theorem k3_020 : ok3r 0 2 0 = true := by decide +kernel
theorem k3_021 : ok3r 0 2 1 = true := by decide +kernel
theorem k3_022 : ok3r 0 2 2 = true := by decide +kernel
theorem k3_100 : ok3r 1 0 0 = true := by decide +kernel
theorem k3_101 : ok3r 1 0 1 = true := by decide +kernel
theorem k3_102 : ok3r 1 0 2 = true := by decide +kernel
theorem k3_110 : ok3r 1 1 0 = true := by decide +kernel
theorem k3_111 : ok3r 1 1 1 = true := by decide +kernel
theorem k3_112 : ok3r 1 1 2 = true := by decide +kernel
theorem k3_120 : ok3r 1 2 0 = true := by decide +kernel
theorem k3_121 : ok3r 1 2 1 = true := by decide +kernel
theorem k3_122 : ok3r 1 2 2 = true := by decide +kernel
theorem k3_200 : ok3r 2 0 0 = true := by decide +kernel
theorem k3_201 : ok3r 2 0 1 = true := by decide +kernel
theorem k3_202 : ok3r 2 0 2 = true := by decide +kernel
theorem k3_210 : ok3r 2 1 0 = true := by decide +kernel
theorem k3_211 : ok3r 2 1 1 = true := by decide +kernel
theorem k3_212 : ok3r 2 1 2 = true := by decide +kernel
theorem k3_220 : ok3r 2 2 0 = true := by decide +kernel
theorem k3_221 : ok3r 2 2 1 = true := by decide +kernel
theorem k3_222 : ok3r 2 2 2 = true := by decide +kernel
theorem key3 {t0 t1 t2 : Nat} (h0 : t0 < 3) (h1 : t1 < 3) (h2 : t2 < 3) : ok3r t0 t1 t2 = true := by
  have e0 : t0 = 0 ∨ t0 = 1 ∨ t0 = 2 := by omega
  have e1 : t1 = 0 ∨ t1 = 1 ∨ t1 = 2 := by omega
  have e2 : t2 = 0 ∨ t2 = 1 ∨ t2 = 2 := by omega
  rcases e0 with rfl | rfl | rfl <;> rcases e1 with rfl | rfl | rfl <;> rcases e2 with rfl | rfl | rfl
  · exact k3_000
  · exact k3_001
  · exact k3_002
  · exact k3_010
  · exact k3_011
  · exact k3_012
  · exact k3_020
  · exact k3_021
  · exact k3_022
  · exact k3_100
  · exact k3_101
  · exact k3_102
  · exact k3_110
  · exact k3_111
  · exact k3_112
  · exact k3_120
  · exact k3_121
  · exact k3_122
  · exact k3_200
  · exact k3_201
  · exact k3_202
  · exact k3_210
  · exact k3_211
  · exact k3_212
  · exact k3_220
  · exact k3_221
  · exact k3_222
def ok2r (P : Nat) : Bool := (List.range P).all fun t0 => (List.range P).all fun t1 => (List.range P).all fun t2 => ok2 P t0 t1 t2
theorem k2_3 : ok2r 3 = true := by decide +kernel
theorem k2_5 : ok2r 5 = true := by decide +kernel
theorem k2_7 : ok2r 7 = true := by decide +kernel
theorem key2 {P : Nat} (h : P = 3 ∨ P = 5 ∨ P = 7) : ok2r P = true := by
  rcases h with rfl | rfl | rfl
  · exact k2_3
  · exact k2_5
  · exact k2_7
theorem nat_of_b {p x : Int} {P : Nat} (e : p = P) (h : 0 ≤ x ∧ x < p) : ∃ m : Nat, x = m ∧ m < P := ⟨x.toNat, by omega, by omega⟩
theorem list_three {α : Type} {l : List α} (h : l.length = 3) : ∃ a b c, l = [a, b, c] := by
  match l, h with
  | [a, b, c], _ => exact ⟨a, b, c, rfl⟩
theorem list_two {α : Type} {l : List α} (h : l.length = 2) : ∃ a b, l = [a, b] := by
  match l, h with
  | [a, b], _ => exact ⟨a, b, rfl⟩
theorem list_kc {p : Int} {n : Nat} {t : List (List Int)} (hr : Rm p n t) (h : (p = 3 ∧ n = 3) ∨ ((p = 3 ∨ p = 5 ∨ p = 7) ∧ n = 2)) {r : Nat} {s : Int} (K : Kd (kindF p t) n r s) : 0 < (listF p t).length ∧ ((listF p t).length : Int) = kcF p n r s := by
  obtain ⟨⟨hl, hrow⟩, hs⟩ := hr
  rcases h with ⟨rfl, rfl⟩ | ⟨hp, rfl⟩
  · obtain ⟨r0, r1, r2, rfl⟩ := list_three hl
    obtain ⟨x0, x1, x2, rfl⟩ := list_three (hrow r0 (by simp)).1
    obtain ⟨y0, y1, y2, rfl⟩ := list_three (hrow r1 (by simp)).1
    obtain ⟨z0, z1, z2, rfl⟩ := list_three (hrow r2 (by simp)).1
    have b0 := (hrow _ (List.mem_cons_self)).2
    have b1 := (hrow [y0, y1, y2] (by simp)).2
    have b2 := (hrow [z0, z1, z2] (by simp)).2
    have e1 : x1 = y0 := hs 0 1 (by omega) (by omega)
    have e2 : x2 = z0 := hs 0 2 (by omega) (by omega)
    have e3 : y2 = z1 := hs 1 2 (by omega) (by omega)
    subst e1 e2 e3
    obtain ⟨t0, rfl, h0⟩ := nat_of_b (p := 3) (P := 3) rfl (b0 x0 (by simp))
    obtain ⟨t1, rfl, h1⟩ := nat_of_b (p := 3) (P := 3) rfl (b0 x1 (by simp))
    obtain ⟨t2, rfl, h2⟩ := nat_of_b (p := 3) (P := 3) rfl (b0 x2 (by simp))
    obtain ⟨t3, rfl, h3⟩ := nat_of_b (p := 3) (P := 3) rfl (b1 y1 (by simp))
    obtain ⟨t4, rfl, h4⟩ := nat_of_b (p := 3) (P := 3) rfl (b1 y2 (by simp))
    obtain ⟨t5, rfl, h5⟩ := nat_of_b (p := 3) (P := 3) rfl (b2 z2 (by simp))
    have k := key3 h0 h1 h2
    have k := List.all_eq_true.mp k t3 (List.mem_range.mpr h3)
    have k := List.all_eq_true.mp k t4 (List.mem_range.mpr h4)
    have k := List.all_eq_true.mp k t5 (List.mem_range.mpr h5)
    have k : 0 < c3 3 t0 t1 t2 t3 t4 t5 ∧ _ := of_decide_eq_true k
    have K1 : kindF 3 (tb3 t0 t1 t2 t3 t4 t5) = (((3 : Nat) : Int), (r : Int), s) := K.eq
    rw [K1] at k
    have e := c3_eq (P := 3) (t0 := t0) (t1 := t1) (t2 := t2) (t3 := t3) (t4 := t4) (t5 := t5) (.inl rfl)
    show 0 < (listF ((3 : Nat) : Int) (tb3 t0 t1 t2 t3 t4 t5)).length ∧ ((listF ((3 : Nat) : Int) (tb3 t0 t1 t2 t3 t4 t5)).length : Int) = _
    rw [e]
    exact k
  · have hP : ∃ P : Nat, p = P ∧ (P = 3 ∨ P = 5 ∨ P = 7) ∧ Pr p := by
      rcases hp with rfl | rfl | rfl
      · exact ⟨3, rfl, by decide, .inl rfl⟩
      · exact ⟨5, rfl, by decide, .inr (.inl rfl)⟩
      · exact ⟨7, rfl, by decide, .inr (.inr (.inl rfl))⟩
    obtain ⟨P, rfl, hP, hpr⟩ := hP
    obtain ⟨r0, r1, rfl⟩ := list_two hl
    obtain ⟨x0, x1, rfl⟩ := list_two (hrow r0 (by simp)).1
    obtain ⟨y0, y1, rfl⟩ := list_two (hrow r1 (by simp)).1
    have b0 := (hrow _ (List.mem_cons_self)).2
    have b1 := (hrow [y0, y1] (by simp)).2
    have e1 : x1 = y0 := hs 0 1 (by omega) (by omega)
    subst e1
    obtain ⟨t0, rfl, h0⟩ := nat_of_b (p := P) (P := P) rfl (b0 x0 (by simp))
    obtain ⟨t1, rfl, h1⟩ := nat_of_b (p := P) (P := P) rfl (b0 x1 (by simp))
    obtain ⟨t2, rfl, h2⟩ := nat_of_b (p := P) (P := P) rfl (b1 y1 (by simp))
    have k := key2 hP
    have k := List.all_eq_true.mp k t0 (List.mem_range.mpr h0)
    have k := List.all_eq_true.mp k t1 (List.mem_range.mpr h1)
    have k := List.all_eq_true.mp k t2 (List.mem_range.mpr h2)
    have k : 0 < c2 P t0 t1 t2 ∧ _ := of_decide_eq_true k
    have K1 : kindF (P : Int) (tb2 t0 t1 t2) = (((2 : Nat) : Int), (r : Int), s) := K.eq
    rw [K1] at k
    have e := c2_eq (P := P) (t0 := t0) (t1 := t1) (t2 := t2) hpr
    show 0 < (listF (P : Int) (tb2 t0 t1 t2)).length ∧ ((listF (P : Int) (tb2 t0 t1 t2)).length : Int) = _
    rw [e]
    exact k
end Dt

set_option Elab.async false
set_option linter.all false
set_option autoImplicit false
/-! The law's drawn tables, the first squares sure. -/
namespace Dt
open Rk
/-- a row more: a square that is sure, or a square or a nought -/
def zdS (su p : Int) (n at_ : Nat) (s : List (List Int) × Pot) : List (List Int) × Pot :=
  if (at_ : Int) < su then (s.1 ++ [(List.replicate n 0).set at_ (1 + (drawF s.2 (p - 1)).1)], (drawF s.2 (p - 1)).2) else diagS p n at_ s
def zdN (su p : Int) (n : Nat) (q : Pot) : Nat → List (List Int) × Pot
  | 0 => ([], q)
  | i + 1 => zdS su p n i (zdN su p n q i)
def ztN (su p : Int) (n : Nat) (q : Pot) : Nat → List (List Int) × Pot
  | 0 => zdN su p n q n
  | i + 1 => stepD p n (ztN su p n q i)
def zltF (su p : Int) (n : Nat) (q : Pot) : List (List Int) × Pot := ztN su p n q (if n > 1 then 2 * n else 0)
theorem zd_ok {su p : Int} {n : Nat} {q : Pot} (hp : Pr p) (hq : pOk q) : ∀ i, i ≤ n → pOk (zdN su p n q i).2 ∧ (zdN su p n q i).1.length = i ∧ ∀ a, a < i → ∃ x, 0 ≤ x ∧ x < p ∧ gr (zdN su p n q i).1 a = (List.replicate n 0).set a x
  | 0, _ => ⟨hq, rfl, fun a h => by omega⟩
  | i + 1, hi => by
    obtain ⟨h1, h2, h3⟩ := zd_ok (n := n) (q := q) hp hq i (by omega)
    have hp0 := ppos hp
    have step : ∀ (x : Int) (q' : Pot), 0 ≤ x → x < p → pOk q' → zdN su p n q (i + 1) = ((zdN su p n q i).1 ++ [(List.replicate n 0).set i x], q') → pOk (zdN su p n q (i + 1)).2 ∧ (zdN su p n q (i + 1)).1.length = i + 1 ∧ ∀ a, a < i + 1 → ∃ x, 0 ≤ x ∧ x < p ∧ gr (zdN su p n q (i + 1)).1 a = (List.replicate n 0).set a x := fun x q' hx1 hx2 hq' e => by
      rw [e]
      refine ⟨hq', by rw [List.length_append, h2]; rfl, fun a ha => ?_⟩
      by_cases h : a < i
      · obtain ⟨y, k1, k2, k3⟩ := h3 a h
        refine ⟨y, k1, k2, ?_⟩
        show gr ((zdN su p n q i).1 ++ [_]) a = _
        rw [gr_app1 (f := (zdN su p n q i).1) (i := a) (by omega), k3]
      · refine ⟨x, hx1, hx2, ?_⟩
        show gr ((zdN su p n q i).1 ++ [_]) a = _
        rw [gr_app2 (f := (zdN su p n q i).1) (i := a) (by omega), h2, show a - i = 0 by omega, show a = i by omega]
        rfl
    by_cases hsu : (i : Int) < su
    · have b := draw_b (q := (zdN su p n q i).2) (m := p - 1) (by have := hp.b; omega)
      exact step _ _ (by omega) (by omega) (draw_ok h1) (if_pos hsu)
    have e0 : zdN su p n q (i + 1) = diagS p n i (zdN su p n q i) := if_neg hsu
    by_cases hd : (drawF (zdN su p n q i).2 4).1 > 0
    · have b := draw_b (q := (drawF (zdN su p n q i).2 4).2) (m := p) hp0
      exact step _ _ b.1 b.2 (draw_ok (draw_ok h1)) (e0.trans (if_pos hd))
    · exact step 0 _ (Int.le_refl _) hp0 (draw_ok h1) (e0.trans (if_neg hd))
theorem zd_rm {su p : Int} {n : Nat} {q : Pot} (hp : Pr p) (hq : pOk q) : Rm p n (zdN su p n q n).1 := by
  obtain ⟨_, h2, h3⟩ := zd_ok (n := n) hp hq n (Nat.le_refl n)
  have hg : ∀ a b, a < n → b < n → a ≠ b → ge (zdN su p n q n).1 a b = 0 := fun a b ha hb hne => by
    obtain ⟨x, _, _, e⟩ := h3 a ha
    unfold ge
    rw [e, getD_set (by rw [List.length_replicate]; exact ha), if_neg (fun k => hne k.symm), List.getD_eq_getElem?_getD, List.getElem?_replicate, if_pos hb]
    rfl
  refine ⟨⟨h2, fun r hr => ?_⟩, fun i j hi hj => ?_⟩
  · obtain ⟨a, ha, e⟩ := List.mem_iff_getElem.mp hr
    obtain ⟨x, k1, k2, k3⟩ := h3 a (by omega)
    have e2 : gr (zdN su p n q n).1 a = r := gr_get (by rw [List.getElem?_eq_getElem ha, e])
    rw [← e2, k3]
    exact row_set (Row.zero (ppos hp)) ⟨k1, k2⟩
  · by_cases e : i = j
    · rw [e]
    · rw [hg i j hi hj e, hg j i hj hi (fun k => e k.symm)]
theorem zt_ok {su p : Int} {n : Nat} {q : Pot} (hp : Pr p) (hq : pOk q) : ∀ i, (0 < i → 1 < n) → Rm p n (ztN su p n q i).1 ∧ pOk (ztN su p n q i).2
  | 0, _ => ⟨zd_rm hp hq, (zd_ok hp hq n (Nat.le_refl n)).1⟩
  | i + 1, h => by
    obtain ⟨h1, h2⟩ := zt_ok hp hq i fun _ => h (by omega)
    exact stepD_ok hp (h (by omega)) h2 h1
theorem zlt_ok {su p : Int} {n : Nat} {q : Pot} (hp : Pr p) (hq : pOk q) : Rm p n (zltF su p n q).1 ∧ pOk (zltF su p n q).2 := zt_ok hp hq _ fun h => by
  by_cases k : n > 1
  · exact k
  · rw [if_neg k] at h
    omega
end Dt

set_option Elab.async false
set_option linter.all false
set_option autoImplicit false
set_option maxRecDepth 100000
set_option maxHeartbeats 4000000
namespace K88
open PySem PySem.Spec PyProof.Rows L2 RZ Ab
/-! the text's defs; what the head says of them -/
def topS (i : Nat) : Stmt := PySem.Challenge.pw_restkeepers_k81_whole_keepers_listed.main.body.getD i (.Pass ⟨0, 0, 0, 0⟩)
def clsBody : Stmt → List Stmt
  | .ClassDef _ _ _ b _ _ _ _ _ _ _ => b
  | _ => []
def metS (i j : Nat) : Stmt := (clsBody (topS i)).getD j (.Pass ⟨0, 0, 0, 0⟩)
/-- a property's getter -/
def pAd (K : PySem.W.Frag) (C m : Str) : Addr := match PySem.W.recIn K (He.ma K (He.ga K C) m) "property" with
  | some (.ref g :: _) => g
  | _ => 0
/-- what the top has made -/
structure Fx (K : PySem.W.Frag) (mg : Str → Option Value) : Prop where
  b_range : mg "range" = none
  b_sum : mg "sum" = none
  b_zip : mg "zip" = none
  b_len : mg "len" = none
  b_list : mg "list" = none
  b_tuple : mg "tuple" = none
  b_any : mg "any" = none
  b_all : mg "all" = none
  b_abs : mg "abs" = none
  b_int : mg "int" = none
  b_max : mg "max" = none
  b_divmod : mg "divmod" = none
  b_isinstance : mg "isinstance" = none
  b_enumerate : mg "enumerate" = none
  b_bool : mg "bool" = none
  b_repr : mg "repr" = none
  g_is_integer : mg "is_integer" = some (.ref (He.ga K "is_integer"))
  f_is_integer : ∃ fd, FunD K "is_integer" "is_integer" (defArgs (topS 8)) (defBody (topS 8)) (defScope (topS 8)) [] [] (He.ga K "is_integer") fd
  g_is_list : mg "is_list" = some (.ref (He.ga K "is_list"))
  f_is_list : ∃ fd, FunD K "is_list" "is_list" (defArgs (topS 9)) (defBody (topS 9)) (defScope (topS 9)) [] [] (He.ga K "is_list") fd
  g_power_of : mg "power_of" = some (.ref (He.ga K "power_of"))
  f_power_of : ∃ fd, FunD K "power_of" "power_of" (defArgs (topS 12)) (defBody (topS 12)) (defScope (topS 12)) [] [] (He.ga K "power_of") fd
  g_undone_of : mg "undone_of" = some (.ref (He.ga K "undone_of"))
  f_undone_of : ∃ fd, FunD K "undone_of" "undone_of" (defArgs (topS 13)) (defBody (topS 13)) (defScope (topS 13)) [] [] (He.ga K "undone_of") fd
  g_sign_of : mg "sign_of" = some (.ref (He.ga K "sign_of"))
  f_sign_of : ∃ fd, FunD K "sign_of" "sign_of" (defArgs (topS 14)) (defBody (topS 14)) (defScope (topS 14)) [] [] (He.ga K "sign_of") fd
  g_is_rest_by : mg "is_rest_by" = some (.ref (He.ga K "is_rest_by"))
  f_is_rest_by : ∃ fd, FunD K "is_rest_by" "is_rest_by" (defArgs (topS 15)) (defBody (topS 15)) (defScope (topS 15)) [] [] (He.ga K "is_rest_by") fd
  g_want_prime : mg "want_prime" = some (.ref (He.ga K "want_prime"))
  f_want_prime : ∃ fd, FunD K "want_prime" "want_prime" (defArgs (topS 16)) (defBody (topS 16)) (defScope (topS 16)) [] [] (He.ga K "want_prime") fd
  g_is_prime : mg "is_prime" = some (.ref (He.ga K "is_prime"))
  f_is_prime : ∃ fd, FunD K "is_prime" "is_prime" (defArgs (topS 17)) (defBody (topS 17)) (defScope (topS 17)) [] [] (He.ga K "is_prime") fd
  g_unit : mg "unit" = some (.ref (He.ga K "unit"))
  f_unit : ∃ fd, FunD K "unit" "unit" (defArgs (topS 20)) (defBody (topS 20)) (defScope (topS 20)) [] [] (He.ga K "unit") fd
  g_idle_of : mg "idle_of" = some (.ref (He.ga K "idle_of"))
  f_idle_of : ∃ fd, FunD K "idle_of" "idle_of" (defArgs (topS 21)) (defBody (topS 21)) (defScope (topS 21)) [] [] (He.ga K "idle_of") fd
  g_dot : mg "dot" = some (.ref (He.ga K "dot"))
  f_dot : ∃ fd, FunD K "dot" "dot" (defArgs (topS 22)) (defBody (topS 22)) (defScope (topS 22)) [] [] (He.ga K "dot") fd
  g_sum_of : mg "sum_of" = some (.ref (He.ga K "sum_of"))
  f_sum_of : ∃ fd, FunD K "sum_of" "sum_of" (defArgs (topS 23)) (defBody (topS 23)) (defScope (topS 23)) [] [] (He.ga K "sum_of") fd
  g_scaled_of : mg "scaled_of" = some (.ref (He.ga K "scaled_of"))
  f_scaled_of : ∃ fd, FunD K "scaled_of" "scaled_of" (defArgs (topS 24)) (defBody (topS 24)) (defScope (topS 24)) [] [] (He.ga K "scaled_of") fd
  g_mix_of : mg "mix_of" = some (.ref (He.ga K "mix_of"))
  f_mix_of : ∃ fd, FunD K "mix_of" "mix_of" (defArgs (topS 25)) (defBody (topS 25)) (defScope (topS 25)) [] [] (He.ga K "mix_of") fd
  g_led_of : mg "led_of" = some (.ref (He.ga K "led_of"))
  f_led_of : ∃ fd, FunD K "led_of" "led_of" (defArgs (topS 26)) (defBody (topS 26)) (defScope (topS 26)) [] [] (He.ga K "led_of") fd
  g_turned_of : mg "turned_of" = some (.ref (He.ga K "turned_of"))
  f_turned_of : ∃ fd, FunD K "turned_of" "turned_of" (defArgs (topS 27)) (defBody (topS 27)) (defScope (topS 27)) [] [] (He.ga K "turned_of") fd
  g_reduced : mg "reduced" = some (.ref (He.ga K "reduced"))
  f_reduced : ∃ fd, FunD K "reduced" "reduced" (defArgs (topS 28)) (defBody (topS 28)) (defScope (topS 28)) [] [] (He.ga K "reduced") fd
  g_determinant_of : mg "determinant_of" = some (.ref (He.ga K "determinant_of"))
  f_determinant_of : ∃ fd, FunD K "determinant_of" "determinant_of" (defArgs (topS 29)) (defBody (topS 29)) (defScope (topS 29)) [] [] (He.ga K "determinant_of") fd
  g_row_in : mg "row_in" = some (.ref (He.ga K "row_in"))
  f_row_in : ∃ fd, FunD K "row_in" "row_in" (defArgs (topS 30)) (defBody (topS 30)) (defScope (topS 30)) [] [] (He.ga K "row_in") fd
  g_table_in : mg "table_in" = some (.ref (He.ga K "table_in"))
  f_table_in : ∃ fd, FunD K "table_in" "table_in" (defArgs (topS 31)) (defBody (topS 31)) (defScope (topS 31)) [] [] (He.ga K "table_in") fd
  g_without : mg "without" = some (.ref (He.ga K "without"))
  f_without : ∃ fd, FunD K "without" "without" (defArgs (topS 38)) (defBody (topS 38)) (defScope (topS 38)) [] [] (He.ga K "without") fd
  g_steps_of : mg "steps_of" = some (.ref (He.ga K "steps_of"))
  f_steps_of : ∃ fd, FunD K "steps_of" "steps_of" (defArgs (topS 39)) (defBody (topS 39)) (defScope (topS 39)) [] [] (He.ga K "steps_of") fd
  g_right_rows : mg "right_rows" = some (.ref (He.ga K "right_rows"))
  f_right_rows : ∃ fd, FunD K "right_rows" "right_rows" (defArgs (topS 43)) (defBody (topS 43)) (defScope (topS 43)) [] [] (He.ga K "right_rows") fd
  g_want_room : mg "want_room" = some (.ref (He.ga K "want_room"))
  f_want_room : ∃ fd, FunD K "want_room" "want_room" (defArgs (topS 45)) (defBody (topS 45)) (defScope (topS 45)) [] [] (He.ga K "want_room") fd
  g_room_of : mg "room_of" = some (.ref (He.ga K "room_of"))
  f_room_of : ∃ fd, FunD K "room_of" "room_of" (defArgs (topS 46)) (defBody (topS 46)) (defScope (topS 46)) [] [] (He.ga K "room_of") fd
  g_betweens_of : mg "betweens_of" = some (.ref (He.ga K "betweens_of"))
  f_betweens_of : ∃ fd, FunD K "betweens_of" "betweens_of" (defArgs (topS 49)) (defBody (topS 49)) (defScope (topS 49)) [] [] (He.ga K "betweens_of") fd
  g_between_by : mg "between_by" = some (.ref (He.ga K "between_by"))
  f_between_by : ∃ fd, FunD K "between_by" "between_by" (defArgs (topS 53)) (defBody (topS 53)) (defScope (topS 53)) [] [] (He.ga K "between_by") fd
  g_first_worthy : mg "first_worthy" = some (.ref (He.ga K "first_worthy"))
  f_first_worthy : ∃ fd, FunD K "first_worthy" "first_worthy" (defArgs (topS 54)) (defBody (topS 54)) (defScope (topS 54)) [] [] (He.ga K "first_worthy") fd
  g_squares_of : mg "squares_of" = some (.ref (He.ga K "squares_of"))
  f_squares_of : ∃ fd, FunD K "squares_of" "squares_of" (defArgs (topS 55)) (defBody (topS 55)) (defScope (topS 55)) [] [] (He.ga K "squares_of") fd
  g_kind_in : mg "kind_in" = some (.ref (He.ga K "kind_in"))
  f_kind_in : ∃ fd, FunD K "kind_in" "kind_in" (defArgs (topS 56)) (defBody (topS 56)) (defScope (topS 56)) [] [] (He.ga K "kind_in") fd
  g_powered : mg "powered" = some (.ref (He.ga K "powered"))
  f_powered : ∃ fd, FunD K "powered" "powered" (defArgs (topS 58)) (defBody (topS 58)) (defScope (topS 58)) [] [] (He.ga K "powered") fd
  g_undone_count : mg "undone_count" = some (.ref (He.ga K "undone_count"))
  f_undone_count : ∃ fd, FunD K "undone_count" "undone_count" (defArgs (topS 60)) (defBody (topS 60)) (defScope (topS 60)) [] [] (He.ga K "undone_count") fd
  g_upright_keepers : mg "upright_keepers" = some (.ref (He.ga K "upright_keepers"))
  f_upright_keepers : ∃ fd, FunD K "upright_keepers" "upright_keepers" (defArgs (topS 61)) (defBody (topS 61)) (defScope (topS 61)) [] [] (He.ga K "upright_keepers") fd
  g_keepers_by : mg "keepers_by" = some (.ref (He.ga K "keepers_by"))
  f_keepers_by : ∃ fd, FunD K "keepers_by" "keepers_by" (defArgs (topS 62)) (defBody (topS 62)) (defScope (topS 62)) [] [] (He.ga K "keepers_by") fd
  g_all_keepers : mg "all_keepers" = some (.ref (He.ga K "all_keepers"))
  f_all_keepers : ∃ fd, FunD K "all_keepers" "all_keepers" (defArgs (topS 63)) (defBody (topS 63)) (defScope (topS 63)) [] [] (He.ga K "all_keepers") fd
  g_keeper_count : mg "keeper_count" = some (.ref (He.ga K "keeper_count"))
  f_keeper_count : ∃ fd, FunD K "keeper_count" "keeper_count" (defArgs (topS 64)) (defBody (topS 64)) (defScope (topS 64)) [] [] (He.ga K "keeper_count") fd
  g_leads_to : mg "leads_to" = some (.ref (He.ga K "leads_to"))
  f_leads_to : ∃ fd, FunD K "leads_to" "leads_to" (defArgs (topS 66)) (defBody (topS 66)) (defScope (topS 66)) [] [] (He.ga K "leads_to") fd
  g_is_keeper : mg "is_keeper" = some (.ref (He.ga K "is_keeper"))
  f_is_keeper : ∃ fd, FunD K "is_keeper" "is_keeper" (defArgs (topS 67)) (defBody (topS 67)) (defScope (topS 67)) [] [] (He.ga K "is_keeper") fd
  g__law_pot : mg "_law_pot" = some (.ref (He.ga K "_law_pot"))
  f__law_pot : ∃ fd, FunD K "_law_pot" "_law_pot" (defArgs (topS 69)) (defBody (topS 69)) (defScope (topS 69)) [] [] (He.ga K "_law_pot") fd
  g__law_draw : mg "_law_draw" = some (.ref (He.ga K "_law_draw"))
  f__law_draw : ∃ fd, FunD K "_law_draw" "_law_draw" (defArgs (topS 70)) (defBody (topS 70)) (defScope (topS 70)) [] [] (He.ga K "_law_draw") fd
  g__law_pick : mg "_law_pick" = some (.ref (He.ga K "_law_pick"))
  f__law_pick : ∃ fd, FunD K "_law_pick" "_law_pick" (defArgs (topS 71)) (defBody (topS 71)) (defScope (topS 71)) [] [] (He.ga K "_law_pick") fd
  g__law_determinant : mg "_law_determinant" = some (.ref (He.ga K "_law_determinant"))
  f__law_determinant : ∃ fd, FunD K "_law_determinant" "_law_determinant" (defArgs (topS 72)) (defBody (topS 72)) (defScope (topS 72)) [] [] (He.ga K "_law_determinant") fd
  g__law_table : mg "_law_table" = some (.ref (He.ga K "_law_table"))
  f__law_table : ∃ fd, FunD K "_law_table" "_law_table" (defArgs (topS 73)) (defBody (topS 73)) (defScope (topS 73)) [] [] (He.ga K "_law_table") fd
  g__law_all_rows : mg "_law_all_rows" = some (.ref (He.ga K "_law_all_rows"))
  f__law_all_rows : ∃ fd, FunD K "_law_all_rows" "_law_all_rows" (defArgs (topS 74)) (defBody (topS 74)) (defScope (topS 74)) [] [] (He.ga K "_law_all_rows") fd
  g__law_products : mg "_law_products" = some (.ref (He.ga K "_law_products"))
  f__law_products : ∃ fd, FunD K "_law_products" "_law_products" (defArgs (topS 75)) (defBody (topS 75)) (defScope (topS 75)) [] [] (He.ga K "_law_products") fd
  g__law_dot : mg "_law_dot" = some (.ref (He.ga K "_law_dot"))
  f__law_dot : ∃ fd, FunD K "_law_dot" "_law_dot" (defArgs (topS 76)) (defBody (topS 76)) (defScope (topS 76)) [] [] (He.ga K "_law_dot") fd
  g__law_listed : mg "_law_listed" = some (.ref (He.ga K "_law_listed"))
  f__law_listed : ∃ fd, FunD K "_law_listed" "_law_listed" (defArgs (topS 77)) (defBody (topS 77)) (defScope (topS 77)) [] [] (He.ga K "_law_listed") fd
  g__law_right : mg "_law_right" = some (.ref (He.ga K "_law_right"))
  f__law_right : ∃ fd, FunD K "_law_right" "_law_right" (defArgs (topS 78)) (defBody (topS 78)) (defScope (topS 78)) [] [] (He.ga K "_law_right") fd
  g_law : mg "law" = some (.ref (He.ga K "law"))
  f_law : ∃ fd, FunD K "law" "law" (defArgs (topS 79)) (defBody (topS 79)) (defScope (topS 79)) [] [] (He.ga K "law") fd
  g_Known : mg "Known" = some (.ref (He.ga K "Known"))
  c_Known : Cls K (He.ga K "Known")
  n_Known_own_prime : NoAttr K (He.ga K "Known") "own_prime"
  n_Known_own_rows : NoAttr K (He.ga K "Known") "own_rows"
  mk_Known : Mk K (He.ga K "Known") (He.ma K (He.ga K "Known") "__init__")
  f_Known___init__ : ∃ fd, FunD K "__init__" "Known.__init__" (defArgs (metS 42 0)) (defBody (metS 42 0)) (defScope (metS 42 0)) [] [] (He.ma K (He.ga K "Known") "__init__") fd
  g_Room : mg "Room" = some (.ref (He.ga K "Room"))
  c_Room : Cls K (He.ga K "Room")
  n_Room_own_prime : NoAttr K (He.ga K "Room") "own_prime"
  n_Room_own_rows : NoAttr K (He.ga K "Room") "own_rows"
  mk_Room : Mk K (He.ga K "Room") (He.ma K (He.ga K "Room") "__init__")
  f_Room___init__ : ∃ fd, FunD K "__init__" "Room.__init__" (defArgs (metS 44 0)) (defBody (metS 44 0)) (defScope (metS 44 0)) [.ref (He.dflAt ("Room", some "__init__") 0 K)] [] (He.ma K (He.ga K "Room") "__init__") fd
  f_Room_prime : ∃ fd, FunD K "prime" "Room.prime" (defArgs (metS 44 1)) (defBody (metS 44 1)) (defScope (metS 44 1)) [] [] (pAd K "Room" "prime") fd
  p_Room_size : PropOf K (He.ga K "Room") "size" (He.ma K (He.ga K "Room") "size") (pAd K "Room" "size")
  f_Room_size : ∃ fd, FunD K "size" "Room.size" (defArgs (metS 44 2)) (defBody (metS 44 2)) (defScope (metS 44 2)) [] [] (pAd K "Room" "size") fd
  f_Room___eq__ : ∃ fd, FunD K "__eq__" "Room.__eq__" (defArgs (metS 44 9)) (defBody (metS 44 9)) (defScope (metS 44 9)) [] [] (He.ma K (He.ga K "Room") "__eq__") fd
  g_PRIMES : mg "PRIMES" = some (.ref (He.ga K "PRIMES"))
  t_PRIMES : ∀ H, SqT K H (He.ga K "PRIMES") [.int 3, .int 5, .int 7, .int 11, .int 13]
  k_MOST_SIZE : ∃ t, mg "MOST_SIZE" = some (.int 6 t)
  i1_Known : PySem.W.findIn K (.ref (He.ga K "Known")) "__class__" = some (some (.builtin "object.__class__"))
  i2_Known : PySem.W.mroIn K (He.ga K "Known") (.type "object") = some true
  i3_Known_Known : PySem.W.kitOne K (.ref (He.ga K "Known")) (.ref (He.ga K "Known")) = some true
  i4_Known_int : PySem.W.kitOne K (.type "int") (.ref (He.ga K "Known")) = some false
  i1_Room : PySem.W.findIn K (.ref (He.ga K "Room")) "__class__" = some (some (.builtin "object.__class__"))
  i2_Room : PySem.W.mroIn K (He.ga K "Room") (.type "object") = some true
  i3_Room_Room : PySem.W.kitOne K (.ref (He.ga K "Room")) (.ref (He.ga K "Room")) = some true
  e_Room___init__ : ∀ H, SqT K H (He.dflAt ("Room", some "__init__") 0 K) []
  i5 : PySem.W.specialIn K (.builtin "object.__class__") "__get__" = some (some (.builtin "getset_descriptor.__get__"))
  i6 : PySem.W.takesIn K (.builtin "object.__class__") = some true

local macro_rules | `(tactic| walk_at "has") => `(tactic| first | exact Has.here | (apply Has.there; walk_at "has"))
local macro_rules | `(tactic| walk_at "ata") => `(tactic| first | exact At.here | (apply At.there; walk_at "ata"))
local macro_rules | `(tactic| walk_at "put") => `(tactic| first | exact Put.here | (apply Put.there; walk_at "put"))
local macro_rules | `(tactic| walk_at "puta") => `(tactic| first | exact PutA.here | (apply PutA.there; walk_at "puta"))
local macro_rules | `(tactic| walk_at "wk") => `(tactic| first | exact Wk.nil | (apply Wk.same; walk_at "wk") | (apply Wk.no; walk_at "wk"))

/-! names and scopes -/
abbrev N_is_integer : List Str := ["value"]
theorem sc_is_integer : FnScope N_is_integer ["value"] (defScope (topS 8)) := ⟨rfl, rfl, rfl, by decide +kernel, rfl, by decide +kernel, by decide +kernel⟩
abbrev N_is_list : List Str := ["value"]
theorem sc_is_list : FnScope N_is_list ["value"] (defScope (topS 9)) := ⟨rfl, rfl, rfl, by decide +kernel, rfl, by decide +kernel, by decide +kernel⟩
abbrev N_power_of : List Str := ["prime", "number", "many", "found", "turn"]
theorem sc_power_of : FnScope N_power_of ["prime", "number", "many"] (defScope (topS 12)) := ⟨rfl, rfl, rfl, by decide +kernel, rfl, by decide +kernel, by decide +kernel⟩
abbrev N_undone_of : List Str := ["prime", "rest"]
theorem sc_undone_of : FnScope N_undone_of ["prime", "rest"] (defScope (topS 13)) := ⟨rfl, rfl, rfl, by decide +kernel, rfl, by decide +kernel, by decide +kernel⟩
abbrev N_sign_of : List Str := ["prime", "rest"]
theorem sc_sign_of : FnScope N_sign_of ["prime", "rest"] (defScope (topS 14)) := ⟨rfl, rfl, rfl, by decide +kernel, rfl, by decide +kernel, by decide +kernel⟩
abbrev N_is_rest_by : List Str := ["prime", "value"]
theorem sc_is_rest_by : FnScope N_is_rest_by ["prime", "value"] (defScope (topS 15)) := ⟨rfl, rfl, rfl, by decide +kernel, rfl, by decide +kernel, by decide +kernel⟩
abbrev N_want_prime : List Str := ["value"]
theorem sc_want_prime : FnScope N_want_prime ["value"] (defScope (topS 16)) := ⟨rfl, rfl, rfl, by decide +kernel, rfl, by decide +kernel, by decide +kernel⟩
abbrev N_is_prime : List Str := ["value"]
theorem sc_is_prime : FnScope N_is_prime ["value"] (defScope (topS 17)) := ⟨rfl, rfl, rfl, by decide +kernel, rfl, by decide +kernel, by decide +kernel⟩
abbrev N_unit : List Str := ["size", "place", "at"]
theorem sc_unit : FnScope N_unit ["size", "place"] (defScope (topS 20)) := ⟨rfl, rfl, rfl, by decide +kernel, rfl, by decide +kernel, by decide +kernel⟩
abbrev N_idle_of : List Str := ["size", "place"]
theorem sc_idle_of : FnScope N_idle_of ["size"] (defScope (topS 21)) := ⟨rfl, rfl, rfl, by decide +kernel, rfl, by decide +kernel, by decide +kernel⟩
abbrev N_dot : List Str := ["prime", "row", "other", "near", "far"]
theorem sc_dot : FnScope N_dot ["prime", "row", "other"] (defScope (topS 22)) := ⟨rfl, rfl, rfl, by decide +kernel, rfl, by decide +kernel, by decide +kernel⟩
abbrev N_sum_of : List Str := ["prime", "row", "other", "rest", "near", "far"]
theorem sc_sum_of : FnScope N_sum_of ["prime", "row", "other", "rest"] (defScope (topS 23)) := ⟨rfl, rfl, rfl, by decide +kernel, rfl, by decide +kernel, by decide +kernel⟩
abbrev N_scaled_of : List Str := ["prime", "row", "rest", "number"]
theorem sc_scaled_of : FnScope N_scaled_of ["prime", "row", "rest"] (defScope (topS 24)) := ⟨rfl, rfl, rfl, by decide +kernel, rfl, by decide +kernel, by decide +kernel⟩
abbrev N_mix_of : List Str := ["prime", "rests", "rows", "size", "found", "rest", "row"]
theorem sc_mix_of : FnScope N_mix_of ["prime", "rests", "rows", "size"] (defScope (topS 25)) := ⟨rfl, rfl, rfl, by decide +kernel, rfl, by decide +kernel, by decide +kernel⟩
abbrev N_led_of : List Str := ["prime", "row", "table"]
theorem sc_led_of : FnScope N_led_of ["prime", "row", "table"] (defScope (topS 26)) := ⟨rfl, rfl, rfl, by decide +kernel, rfl, by decide +kernel, by decide +kernel⟩
abbrev N_turned_of : List Str := ["table", "row", "place"]
theorem sc_turned_of : FnScope N_turned_of ["table"] (defScope (topS 27)) := ⟨rfl, rfl, rfl, by decide +kernel, rfl, by decide +kernel, by decide +kernel⟩
abbrev N_reduced : List Str := ["prime", "table", "size", "found", "left", "place", "row", "heads", "at", "head"]
theorem sc_reduced : FnScope N_reduced ["prime", "table"] (defScope (topS 28)) := ⟨rfl, rfl, rfl, by decide +kernel, rfl, by decide +kernel, by decide +kernel⟩
abbrev N_determinant_of : List Str := ["prime", "table"]
theorem sc_determinant_of : FnScope N_determinant_of ["prime", "table"] (defScope (topS 29)) := ⟨rfl, rfl, rfl, by decide +kernel, rfl, by decide +kernel, by decide +kernel⟩
abbrev N_row_in : List Str := ["prime", "value", "size", "number"]
theorem sc_row_in : FnScope N_row_in ["prime", "value", "size"] (defScope (topS 30)) := ⟨rfl, rfl, rfl, by decide +kernel, rfl, by decide +kernel, by decide +kernel⟩
abbrev N_table_in : List Str := ["prime", "value", "found", "row"]
theorem sc_table_in : FnScope N_table_in ["prime", "value"] (defScope (topS 31)) := ⟨rfl, rfl, rfl, by decide +kernel, rfl, by decide +kernel, by decide +kernel⟩
abbrev N_want_row : List Str := ["prime", "value", "size", "found"]
theorem sc_want_row : FnScope N_want_row ["prime", "value", "size"] (defScope (topS 32)) := ⟨rfl, rfl, rfl, by decide +kernel, rfl, by decide +kernel, by decide +kernel⟩
abbrev N_want_table : List Str := ["prime", "value", "found"]
theorem sc_want_table : FnScope N_want_table ["prime", "value"] (defScope (topS 33)) := ⟨rfl, rfl, rfl, by decide +kernel, rfl, by decide +kernel, by decide +kernel⟩
abbrev N_want_sized : List Str := ["prime", "value", "size", "found"]
theorem sc_want_sized : FnScope N_want_sized ["prime", "value", "size"] (defScope (topS 34)) := ⟨rfl, rfl, rfl, by decide +kernel, rfl, by decide +kernel, by decide +kernel⟩
abbrev N_head_of : List Str := ["row", "place", "number"]
theorem sc_head_of : FnScope N_head_of ["row"] (defScope (topS 36)) := ⟨rfl, rfl, rfl, by decide +kernel, rfl, by decide +kernel, by decide +kernel⟩
abbrev N_heads_of : List Str := ["steps", "row"]
theorem sc_heads_of : FnScope N_heads_of ["steps"] (defScope (topS 37)) := ⟨rfl, rfl, rfl, by decide +kernel, rfl, by decide +kernel, by decide +kernel⟩
abbrev N_without : List Str := ["prime", "row", "head", "place"]
theorem sc_without : FnScope N_without ["prime", "row", "head", "place"] (defScope (topS 38)) := ⟨rfl, rfl, rfl, by decide +kernel, rfl, by decide +kernel, by decide +kernel⟩
abbrev N_steps_of : List Str := ["prime", "rows", "left", "found", "place", "heads", "row", "head", "made"]
theorem sc_steps_of : FnScope N_steps_of ["prime", "rows"] (defScope (topS 39)) := ⟨rfl, rfl, rfl, by decide +kernel, rfl, by decide +kernel, by decide +kernel⟩
abbrev N_zeros_of : List Str := ["prime", "size", "rows", "solved", "heads", "found", "place", "at", "row", "head", "step"]
theorem sc_zeros_of : FnScope N_zeros_of ["prime", "size", "rows"] (defScope (topS 40)) := ⟨rfl, rfl, rfl, by decide +kernel, rfl, by decide +kernel, by decide +kernel⟩
abbrev N_right_rows : List Str := ["prime", "value", "found"]
theorem sc_right_rows : FnScope N_right_rows ["prime", "value"] (defScope (topS 43)) := ⟨rfl, rfl, rfl, by decide +kernel, rfl, by decide +kernel, by decide +kernel⟩
abbrev N_want_room : List Str := ["value"]
theorem sc_want_room : FnScope N_want_room ["value"] (defScope (topS 45)) := ⟨rfl, rfl, rfl, by decide +kernel, rfl, by decide +kernel, by decide +kernel⟩
abbrev N_room_of : List Str := ["prime", "table"]
theorem sc_room_of : FnScope N_room_of ["prime", "table"] (defScope (topS 46)) := ⟨rfl, rfl, rfl, by decide +kernel, rfl, by decide +kernel, by decide +kernel⟩
abbrev N_between_of : List Str := ["room", "row", "other"]
theorem sc_between_of : FnScope N_between_of ["room", "row", "other"] (defScope (topS 47)) := ⟨rfl, rfl, rfl, by decide +kernel, rfl, by decide +kernel, by decide +kernel⟩
abbrev N_worth_of : List Str := ["room", "row"]
theorem sc_worth_of : FnScope N_worth_of ["room", "row"] (defScope (topS 48)) := ⟨rfl, rfl, rfl, by decide +kernel, rfl, by decide +kernel, by decide +kernel⟩
abbrev N_betweens_of : List Str := ["room", "rows", "prime", "led", "row", "near"]
theorem sc_betweens_of : FnScope N_betweens_of ["room", "rows"] (defScope (topS 49)) := ⟨rfl, rfl, rfl, by decide +kernel, rfl, by decide +kernel, by decide +kernel⟩
abbrev N_led_by : List Str := ["room", "rows"]
theorem sc_led_by : FnScope N_led_by ["room", "rows"] (defScope (topS 50)) := ⟨rfl, rfl, rfl, by decide +kernel, rfl, by decide +kernel, by decide +kernel⟩
abbrev N_still_of : List Str := ["room"]
theorem sc_still_of : FnScope N_still_of ["room"] (defScope (topS 51)) := ⟨rfl, rfl, rfl, by decide +kernel, rfl, by decide +kernel, by decide +kernel⟩
abbrev N_between_by : List Str := ["prime", "rows", "one", "other"]
theorem sc_between_by : FnScope N_between_by ["prime", "rows", "one", "other"] (defScope (topS 53)) := ⟨rfl, rfl, rfl, by decide +kernel, rfl, by decide +kernel, by decide +kernel⟩
abbrev N_first_worthy : List Str := ["prime", "rows", "left", "place", "row", "other"]
theorem sc_first_worthy : FnScope N_first_worthy ["prime", "rows", "left"] (defScope (topS 54)) := ⟨rfl, rfl, rfl, by decide +kernel, rfl, by decide +kernel, by decide +kernel⟩
abbrev N_squares_of : List Str := ["prime", "rows", "left", "found", "numbers", "here", "place", "row", "worth", "turn", "others", "one"]
theorem sc_squares_of : FnScope N_squares_of ["prime", "rows"] (defScope (topS 55)) := ⟨rfl, rfl, rfl, by decide +kernel, rfl, by decide +kernel, by decide +kernel⟩
abbrev N_kind_in : List Str := ["prime", "rows", "numbers", "rest", "sign", "number"]
theorem sc_kind_in : FnScope N_kind_in ["prime", "rows"] (defScope (topS 56)) := ⟨rfl, rfl, rfl, by decide +kernel, rfl, by decide +kernel, by decide +kernel⟩
abbrev N_powered : List Str := ["number", "many", "found", "turn"]
theorem sc_powered : FnScope N_powered ["number", "many"] (defScope (topS 58)) := ⟨rfl, rfl, rfl, by decide +kernel, rfl, by decide +kernel, by decide +kernel⟩
abbrev N_undone_count : List Str := ["prime", "size", "found", "at"]
theorem sc_undone_count : FnScope N_undone_count ["prime", "size"] (defScope (topS 60)) := ⟨rfl, rfl, rfl, by decide +kernel, rfl, by decide +kernel, by decide +kernel⟩
abbrev N_upright_keepers : List Str := ["prime", "rank", "sign", "half", "good", "found", "most", "at"]
theorem sc_upright_keepers : FnScope N_upright_keepers ["prime", "rank", "sign"] (defScope (topS 61)) := ⟨rfl, rfl, rfl, by decide +kernel, rfl, by decide +kernel, by decide +kernel⟩
abbrev N_keepers_by : List Str := ["prime", "size", "rank", "sign", "flat"]
theorem sc_keepers_by : FnScope N_keepers_by ["prime", "size", "rank", "sign"] (defScope (topS 62)) := ⟨rfl, rfl, rfl, by decide +kernel, rfl, by decide +kernel, by decide +kernel⟩
abbrev N_all_keepers : List Str := ["room", "size", "rank", "sign"]
theorem sc_all_keepers : FnScope N_all_keepers ["room"] (defScope (topS 63)) := ⟨rfl, rfl, rfl, by decide +kernel, rfl, by decide +kernel, by decide +kernel⟩
abbrev N_keeper_count : List Str := ["room"]
theorem sc_keeper_count : FnScope N_keeper_count ["room"] (defScope (topS 64)) := ⟨rfl, rfl, rfl, by decide +kernel, rfl, by decide +kernel, by decide +kernel⟩
abbrev N_leads_to : List Str := ["room", "other", "value", "table"]
theorem sc_leads_to : FnScope N_leads_to ["room", "other", "value"] (defScope (topS 66)) := ⟨rfl, rfl, rfl, by decide +kernel, rfl, by decide +kernel, by decide +kernel⟩
abbrev N_is_keeper : List Str := ["room", "value", "here"]
theorem sc_is_keeper : FnScope N_is_keeper ["room", "value"] (defScope (topS 67)) := ⟨rfl, rfl, rfl, by decide +kernel, rfl, by decide +kernel, by decide +kernel⟩
abbrev N__law_pot : List Str := ["_law_script", "_law_k", "_law_cell"]
theorem sc__law_pot : FnScope N__law_pot ["_law_script", "_law_k"] (defScope (topS 69)) := ⟨rfl, rfl, rfl, by decide +kernel, rfl, by decide +kernel, by decide +kernel⟩
abbrev N__law_draw : List Str := ["_law_pot_here", "_law_many", "_law_digit"]
theorem sc__law_draw : FnScope N__law_draw ["_law_pot_here", "_law_many"] (defScope (topS 70)) := ⟨rfl, rfl, rfl, by decide +kernel, rfl, by decide +kernel, by decide +kernel⟩
abbrev N__law_pick : List Str := ["_law_pot_here", "_law_some"]
theorem sc__law_pick : FnScope N__law_pick ["_law_pot_here", "_law_some"] (defScope (topS 71)) := ⟨rfl, rfl, rfl, by decide +kernel, rfl, by decide +kernel, by decide +kernel⟩
abbrev N__law_determinant : List Str := ["_law_prime", "_law_table_here", "_law_rows", "_law_found", "_law_row", "_law_at", "_law_spots", "_law_spot", "_law_back", "_law_number", "_law_often", "_law_one", "_law_other"]
theorem sc__law_determinant : FnScope N__law_determinant ["_law_prime", "_law_table_here"] (defScope (topS 72)) := ⟨rfl, rfl, rfl, by decide +kernel, rfl, by decide +kernel, by decide +kernel⟩
abbrev N__law_table : List Str := ["_law_pot_here", "_law_prime", "_law_size", "_law_sure", "_law_table_here", "_law_at", "_law_turn", "_law_one", "_law_often", "_law_other", "_law_near", "_law_far", "_law_row"]
theorem sc__law_table : FnScope N__law_table ["_law_pot_here", "_law_prime", "_law_size", "_law_sure"] (defScope (topS 73)) := ⟨rfl, rfl, rfl, by decide +kernel, rfl, by decide +kernel, by decide +kernel⟩
abbrev N__law_all_rows : List Str := ["_law_prime", "_law_size", "_law_found", "_law_turn", "_law_longer", "_law_row", "_law_rest"]
theorem sc__law_all_rows : FnScope N__law_all_rows ["_law_prime", "_law_size"] (defScope (topS 74)) := ⟨rfl, rfl, rfl, by decide +kernel, rfl, by decide +kernel, by decide +kernel⟩
abbrev N__law_products : List Str := ["_law_prime", "_law_table_here", "_law_row", "_law_rest", "_law_line", "_law_at"]
theorem sc__law_products : FnScope N__law_products ["_law_prime", "_law_table_here", "_law_row"] (defScope (topS 75)) := ⟨rfl, rfl, rfl, by decide +kernel, rfl, by decide +kernel, by decide +kernel⟩
abbrev N__law_dot : List Str := ["_law_prime", "_law_one", "_law_other", "_law_near", "_law_far"]
theorem sc__law_dot : FnScope N__law_dot ["_law_prime", "_law_one", "_law_other"] (defScope (topS 76)) := ⟨rfl, rfl, rfl, by decide +kernel, rfl, by decide +kernel, by decide +kernel⟩
abbrev N__law_listed : List Str := ["_law_prime", "_law_table_here", "_law_size", "_law_pairs", "_law_found", "_law_row", "_law_at", "_law_near", "_law_longer", "_law_pair", "_law_some", "_law_to", "_law_listed_here"]
theorem sc__law_listed : FnScope N__law_listed ["_law_prime", "_law_table_here"] (defScope (topS 77)) := ⟨rfl, rfl, rfl, by decide +kernel, rfl, by decide +kernel, by decide +kernel⟩
abbrev N__law_right : List Str := ["_law_pot_here", "_law_way", "_law_prime", "_law_size", "_law_table_here", "_law_room", "_law_due", "_law_turn", "_law_great", "_law_number"]
theorem sc__law_right : FnScope N__law_right ["_law_pot_here"] (defScope (topS 78)) := ⟨rfl, rfl, rfl, by decide +kernel, rfl, by decide +kernel, by decide +kernel⟩
abbrev N_law : List Str := ["_law_script"]
theorem sc_law : FnScope N_law ["_law_script"] (defScope (topS 79)) := ⟨rfl, rfl, rfl, by decide +kernel, rfl, by decide +kernel, by decide +kernel⟩
abbrev N_Known___init__ : List Str := ["self", "prime", "rows"]
theorem sc_Known___init__ : FnScope N_Known___init__ ["self", "prime", "rows"] (defScope (metS 42 0)) := ⟨rfl, rfl, rfl, by decide +kernel, rfl, by decide +kernel, by decide +kernel⟩
abbrev N_Room___init__ : List Str := ["self", "prime", "rows"]
theorem sc_Room___init__ : FnScope N_Room___init__ ["self", "prime", "rows"] (defScope (metS 44 0)) := ⟨rfl, rfl, rfl, by decide +kernel, rfl, by decide +kernel, by decide +kernel⟩
abbrev N_Room_prime : List Str := ["self"]
theorem sc_Room_prime : FnScope N_Room_prime ["self"] (defScope (metS 44 1)) := ⟨rfl, rfl, rfl, by decide +kernel, rfl, by decide +kernel, by decide +kernel⟩
abbrev N_Room_size : List Str := ["self"]
theorem sc_Room_size : FnScope N_Room_size ["self"] (defScope (metS 44 2)) := ⟨rfl, rfl, rfl, by decide +kernel, rfl, by decide +kernel, by decide +kernel⟩
abbrev N_Room_rank : List Str := ["self"]
theorem sc_Room_rank : FnScope N_Room_rank ["self"] (defScope (metS 44 3)) := ⟨rfl, rfl, rfl, by decide +kernel, rfl, by decide +kernel, by decide +kernel⟩
abbrev N_Room_rows : List Str := ["self"]
theorem sc_Room_rows : FnScope N_Room_rows ["self"] (defScope (metS 44 4)) := ⟨rfl, rfl, rfl, by decide +kernel, rfl, by decide +kernel, by decide +kernel⟩
abbrev N_Room_worth : List Str := ["self", "row"]
theorem sc_Room_worth : FnScope N_Room_worth ["self", "row"] (defScope (metS 44 5)) := ⟨rfl, rfl, rfl, by decide +kernel, rfl, by decide +kernel, by decide +kernel⟩
abbrev N_Room_between : List Str := ["self", "row", "other", "here"]
theorem sc_Room_between : FnScope N_Room_between ["self", "row", "other"] (defScope (metS 44 6)) := ⟨rfl, rfl, rfl, by decide +kernel, rfl, by decide +kernel, by decide +kernel⟩
abbrev N_Room_still : List Str := ["self"]
theorem sc_Room_still : FnScope N_Room_still ["self"] (defScope (metS 44 7)) := ⟨rfl, rfl, rfl, by decide +kernel, rfl, by decide +kernel, by decide +kernel⟩
abbrev N_Room_led : List Str := ["self", "table"]
theorem sc_Room_led : FnScope N_Room_led ["self", "table"] (defScope (metS 44 8)) := ⟨rfl, rfl, rfl, by decide +kernel, rfl, by decide +kernel, by decide +kernel⟩
abbrev N_Room___eq__ : List Str := ["self", "other"]
theorem sc_Room___eq__ : FnScope N_Room___eq__ ["self", "other"] (defScope (metS 44 9)) := ⟨rfl, rfl, rfl, by decide +kernel, rfl, by decide +kernel, by decide +kernel⟩
abbrev N_Room___repr__ : List Str := ["self"]
theorem sc_Room___repr__ : FnScope N_Room___repr__ ["self"] (defScope (metS 44 10)) := ⟨rfl, rfl, rfl, by decide +kernel, rfl, by decide +kernel, by decide +kernel⟩
end K88

set_option Elab.async false
set_option linter.all false
set_option autoImplicit false
set_option maxRecDepth 100000
set_option maxHeartbeats 400000
namespace K88
open PySem PySem.Spec PyProof.Rows L2 RZ Ab
local macro_rules | `(tactic| walk_at "has") => `(tactic| first | exact Has.here | (apply Has.there; walk_at "has"))
local macro_rules | `(tactic| walk_at "ata") => `(tactic| first | exact At.here | (apply At.there; walk_at "ata"))
local macro_rules | `(tactic| walk_at "put") => `(tactic| first | exact Put.here | (apply Put.there; walk_at "put"))
local macro_rules | `(tactic| walk_at "puta") => `(tactic| first | exact PutA.here | (apply PutA.there; walk_at "puta"))
local macro_rules | `(tactic| walk_at "wk") => `(tactic| first | exact Wk.nil | (apply Wk.same; walk_at "wk") | (apply Wk.no; walk_at "wk"))
local macro_rules | `(tactic| walk_at "side") => `(tactic| first | assumption | omega | decide)
local macro_rules | `(tactic| walk_at "de") => `(tactic| first
  | assumption
  | exact de_int
  | exact de_non
  | exact de_bl
  | exact de_str
  | (refine' de_name rfl ?hz; (case hz => walk_at "has"))
  | (refine' de_mod ?d1 ?d2 ?d3; (case d1 => walk_at "de"); (case d2 => walk_at "de"); (case d3 => walk_at "side"))
  | (refine' de_add ?d1 ?d2; (case d1 => walk_at "de"); (case d2 => walk_at "de"))
  | (refine' de_sub ?d1 ?d2; (case d1 => walk_at "de"); (case d2 => walk_at "de"))
  | (refine' de_mul ?d1 ?d2 ?d3; (case d1 => walk_at "de"); (case d2 => walk_at "de"); (case d3 => first | assumption | (refine mulW1 ?_ ?_ <;> omega)))
  | (refine' de_fdiv ?d1 ?d2 ?d3; (case d1 => walk_at "de"); (case d2 => walk_at "de"); (case d3 => exact divW (by omega)))
  | (refine' de_tupX ?d1 ?d2; (case d1 => walk_at "da"); (case d2 => exact Nat.le_of_ble_eq_true rfl))
  )
local macro_rules | `(tactic| walk_at "da") => `(tactic| first | exact da_nil | (refine' da_cons ?a1 ?a2; (case a1 => walk_at "de"); (case a2 => walk_at "da")))
local macro_rules | `(tactic| walk_at "db") => `(tactic| first
  | assumption
  | (refine' db_eqI ?d1 ?d2; (case d1 => walk_at "de"); (case d2 => walk_at "de"))
  | (refine' db_neI ?d1 ?d2; (case d1 => walk_at "de"); (case d2 => walk_at "de"))
  | (refine' db_lt ?d1 ?d2; (case d1 => walk_at "de"); (case d2 => walk_at "de"))
  | (refine' db_gt ?d1 ?d2; (case d1 => walk_at "de"); (case d2 => walk_at "de"))
  | (refine' db_le ?d1 ?d2; (case d1 => walk_at "de"); (case d2 => walk_at "de"))
  | (refine' db_ge ?d1 ?d2; (case d1 => walk_at "de"); (case d2 => walk_at "de"))
  | (refine' db_not ?d1; (case d1 => walk_at "db"))
  )
section
variable {P : Program} {w : World} {K : PySem.W.Frag} {mg : Str → Option Value} {base : Heap}
open Rk
theorem iot_rg {n : Nat} : iot 0 1 n = rg n := by
  unfold iot rg
  refine List.map_congr_left fun i _ => ?_
  rw [Int.mul_one, Int.zero_add]
  rfl
/-! ### is_integer, is_list, want_at_most -/
def r_is_integer : Sig := fun ds S d S' => ∃ i : Int, ds = [.int i] ∧ d = .bl true ∧ S' = S
theorem ok_is_integer (T : Fx K mg) : Ok P w K mg base "is_integer" 1 r_is_integer := by
  refine ok_of T.g_is_integer T.f_is_integer sc_is_integer (fun _ _ _ _ _ _ us hl => match us, hl with | [_], _ => rfl) (fun ds S d S' ⟨_, h, _⟩ => by rw [h]; rfl) ?_
  rintro f cdv A outer s H E hr ds S d S' eq ⟨i, rfl, rfl, rfl⟩
  show SX _ _ [.dat (.int i)] S' _
  refine sx_one (s1_ret (DW.db (dw_and (k := true) (l := true) (db_val ?_) fun _ => dw_and1 (db_not (k := false) (db_val ?_)))).de ⟨rfl, rfl⟩)
  · exact db_isi (by walk_at "de") (de_bty rfl T.b_int (by decide +kernel)) (.int i) (.ty "int") (kit_ty (by decide +kernel)) rfl T.b_isinstance
  · exact db_isi (by walk_at "de") (de_bty rfl T.b_bool (by decide +kernel)) (.int i) (.ty "bool") (kit_ty (by decide +kernel)) rfl T.b_isinstance
def r_is_list : Sig := fun ds S d S' => ∃ l : List D, ds = [.lst l] ∧ d = .bl true ∧ S' = S
theorem ok_is_list (T : Fx K mg) : Ok P w K mg base "is_list" 1 r_is_list := by
  refine ok_of T.g_is_list T.f_is_list sc_is_list (fun _ _ _ _ _ _ us hl => match us, hl with | [_], _ => rfl) (fun ds S d S' ⟨_, h, _⟩ => by rw [h]; rfl) ?_
  rintro f cdv A outer s H E hr ds S d S' eq ⟨l, rfl, rfl, rfl⟩
  show SX _ _ [.dat (.lst l)] S' _
  refine sx_one (s1_ret (db_isiT (by walk_at "de") (da_cons (de_bty rfl T.b_list (by decide +kernel)) (da_cons (de_bty rfl T.b_tuple (by decide +kernel)) da_nil)) (.lst l) (.cons (.ty "list") (.cons (.ty "tuple") .nil)) (kitAny_cons (b := true) (r := true) (kit_ty (by decide +kernel)) (fun h => by cases h) (fun _ => rfl)) (by decide) rfl T.b_isinstance) ⟨rfl, rfl⟩)
def r_want_at_most : Sig := fun ds S d S' => ∃ (x : Str) (l n : Int), ds = [.str x, .int l, .int n] ∧ n ≤ l ∧ d = .non ∧ S' = S
/-! ### rests -/
theorem rest_mul {p n a : Int} (hp : Pr p) (h : 0 ≤ n ∧ n < p) (ha : 0 ≤ a ∧ a < p) : CMulW a n := by
  have := hp.b
  exact mulW1 (by omega) (by omega)
def r_power_of : Sig := fun ds S d S' => ∃ p n m : Int, ds = [.int p, .int n, .int m] ∧ (Pr p ∧ 0 ≤ n ∧ n < p ∧ 0 ≤ m ∧ m ≤ 100) ∧ d = .int (powN p n m.toNat) ∧ S' = S
theorem ok_power_of (T : Fx K mg) : Ok P w K mg base "power_of" 1 r_power_of := by
  refine ok_of T.g_power_of T.f_power_of sc_power_of (fun _ _ _ _ _ _ us hl => match us, hl with | [_, _, _], _ => rfl) (fun ds S d S' ⟨_, _, _, h, _⟩ => by rw [h]; rfl) ?_
  rintro f cdv A outer s H E hr ds S d S' eq ⟨p, n, m, rfl, ⟨hp, h3, h4, h5, h6⟩, rfl, rfl⟩
  have hb := hp.b
  show SX _ _ [.dat (.int p), .dat (.int n), .dat (.int m), .no, .no] S' _
  refine sx_cons (p_set rfl sc_power_of.nd (by walk_at "de") (by walk_at "put") ?_)
  refine sx_forT (fun i => [.dat (.int p), .dat (.int n), .dat (.int m), .dat (.int (powN p n i)), .no]) (fun _ => S') (ds_range1 (n := m) (by walk_at "de") (by omega) rfl T.b_range) tm_one
    (tg_name sc_power_of.nd (j := 4) rfl (.inl rfl)) (by walk_at "wk") (fun i x hx _ => ?_) (fun _ => ?_) (ps_for PassesOwn.never rfl WI.pi WG.pg WS.ps)
  · show SX _ _ [.dat (.int p), .dat (.int n), .dat (.int m), .dat (.int (powN p n i)), .dat (.int x)] _ _
    have hm : CMulW (powN p n i) n := rest_mul hp ⟨h3, h4⟩ (powN_b (by omega) i)
    exact sx_one (p_set rfl sc_power_of.nd (by walk_at "de") (by walk_at "put") ⟨by walk_at "wk", rfl⟩)
  · rw [show (iot 0 1 m.toNat).length = m.toNat from iot_len]
    exact sx_one (s1_ret (by walk_at "de") ⟨rfl, rfl⟩)
def r_undone_of : Sig := fun ds S d S' => ∃ p n : Int, ds = [.int p, .int n] ∧ (Pr p ∧ 0 ≤ n ∧ n < p) ∧ d = .int (undone p n) ∧ S' = S
theorem ok_undone_of (T : Fx K mg) : Ok P w K mg base "undone_of" 2 r_undone_of := by
  refine ok_of T.g_undone_of T.f_undone_of sc_undone_of (fun _ _ _ _ _ _ us hl => match us, hl with | [_, _], _ => rfl) (fun ds S d S' ⟨_, _, h, _⟩ => by rw [h]; rfl) ?_
  rintro f cdv A outer s H E hr ds S d S' eq ⟨p, n, rfl, ⟨hp, h3, h4⟩, rfl, rfl⟩
  have hb := hp.b
  show SX _ _ [.dat (.int p), .dat (.int n)] S' _
  exact sx_one (s1_ret (de_ok (ok_power_of T) hr (by decide) rfl (by walk_at "da") (PotEq.refl _) ⟨_, _, _, rfl, ⟨hp, h3, h4, by omega, by omega⟩, rfl, rfl⟩) ⟨rfl, rfl⟩)
def r_sign_of : Sig := fun ds S d S' => ∃ p n : Int, ds = [.int p, .int n] ∧ (Pr p ∧ 0 ≤ n ∧ n < p) ∧ d = .int (signF p n) ∧ S' = S
theorem ok_sign_of (T : Fx K mg) : Ok P w K mg base "sign_of" 2 r_sign_of := by
  refine ok_of T.g_sign_of T.f_sign_of sc_sign_of (fun _ _ _ _ _ _ us hl => match us, hl with | [_, _], _ => rfl) (fun ds S d S' ⟨_, _, h, _⟩ => by rw [h]; rfl) ?_
  rintro f cdv A outer s H E hr ds S d S' eq ⟨p, n, rfl, ⟨hp, h3, h4⟩, rfl, rfl⟩
  have hb := hp.b
  show SX _ _ [.dat (.int p), .dat (.int n)] S' _
  refine sx_cons (s1_if (k := decide (n = 0)) (by walk_at "db") (fun k => ?_) fun k => sx_nil ?_)
  · refine sx_one (s1_ret de_int ⟨?_, rfl⟩)
    rw [signF, if_pos (of_decide_eq_true k)]
  · have hn : ¬ n = 0 := of_decide_eq_false k
    refine sx_one (s1_ret (DE.cast (de_if (k := decide (powN p n ((p - 1) / 2).toNat = 1)) (db_eqI (de_ok (ok_power_of T) hr (by decide) rfl (by walk_at "da") (PotEq.refl _) ⟨_, _, _, rfl, ⟨hp, h3, h4, by omega, by omega⟩, rfl, rfl⟩) de_int) (fun _ => de_int) (fun _ => de_neg de_int)) ?_) ⟨rfl, rfl⟩)
    rw [signF, if_neg hn]
    by_cases h : powN p n ((p - 1) / 2).toNat = 1
    · rw [if_pos h, if_pos (decide_eq_true h)]
    · rw [if_neg h, if_neg (by simpa using h)]
def r_odd_of : Sig := fun ds S d S' => ∃ p : Int, ds = [.int p] ∧ Pr p ∧ d = .int (oddF p) ∧ S' = S
def r_is_rest_by : Sig := fun ds S d S' => ∃ p n : Int, ds = [.int p, .int n] ∧ d = .bl (decide (0 ≤ n) && decide (n < p)) ∧ S' = S
theorem ok_is_rest_by (T : Fx K mg) : Ok P w K mg base "is_rest_by" 2 r_is_rest_by := by
  refine ok_of T.g_is_rest_by T.f_is_rest_by sc_is_rest_by (fun _ _ _ _ _ _ us hl => match us, hl with | [_, _], _ => rfl) (fun ds S d S' ⟨_, _, h, _⟩ => by rw [h]; rfl) ?_
  rintro f cdv A outer s H E hr ds S d S' eq ⟨p, n, rfl, rfl, rfl⟩
  show SX _ _ [.dat (.int p), .dat (.int n)] S' _
  exact sx_one (s1_ret (DW.db (dw_and (k := true) (db_val (de_ok (ok_is_integer T) hr (by decide) rfl (by walk_at "da") (PotEq.refl _) ⟨_, rfl, rfl, rfl⟩)) fun _ => dw_and1 (db_chain op_le op_lt de_int (by walk_at "de") (by walk_at "de")))).de ⟨rfl, rfl⟩)
def r_is_prime : Sig := fun ds S d S' => ∃ p : Int, ds = [.int p] ∧ Pr p ∧ d = .bl true ∧ S' = S
theorem ok_is_prime (T : Fx K mg) : Ok P w K mg base "is_prime" 2 r_is_prime := by
  refine ok_of T.g_is_prime T.f_is_prime sc_is_prime (fun _ _ _ _ _ _ us hl => match us, hl with | [_], _ => rfl) (fun ds S d S' ⟨_, h, _⟩ => by rw [h]; rfl) ?_
  rintro f cdv A outer s H E hr ds S d S' eq ⟨p, rfl, hp, rfl, rfl⟩
  show SX _ _ [.dat (.int p)] S' _
  refine sx_one (s1_ret (DE.cast (DW.db (dw_and (k := true) (db_val (de_ok (ok_is_integer T) hr (by decide) rfl (by walk_at "da") (PotEq.refl _) ⟨_, rfl, rfl, rfl⟩)) fun _ => dw_and1 (db_inI (t := true) (ns := [3, 5, 7, 11, 13]) (by walk_at "de") (DE.tup (de_glob (v := .ref (He.ga K "PRIMES")) (by rfl) T.g_PRIMES rfl fun B => .tup (T.t_PRIMES B) (All.of_ints (ns := [3, 5, 7, 11, 13]))))))).de ?_) ⟨rfl, rfl⟩)
  rw [Bool.true_and]
  exact congrArg D.bl (decide_eq_true (by
    rcases hp with rfl | rfl | rfl | rfl | rfl <;> simp))
def r_want_prime : Sig := fun ds S d S' => ∃ p : Int, ds = [.int p] ∧ Pr p ∧ d = .non ∧ S' = S
theorem ok_want_prime (T : Fx K mg) : Ok P w K mg base "want_prime" 3 r_want_prime := by
  refine ok_of T.g_want_prime T.f_want_prime sc_want_prime (fun _ _ _ _ _ _ us hl => match us, hl with | [_], _ => rfl) (fun ds S d S' ⟨_, h, _⟩ => by rw [h]; rfl) ?_
  rintro f cdv A outer s H E hr ds S d S' eq ⟨p, rfl, hp, rfl, rfl⟩
  show SX _ _ [.dat (.int p)] S' _
  exact sx_one (s1_if (db_not (k := true) (db_val (de_ok (ok_is_prime T) hr (by decide) rfl (by walk_at "da") (PotEq.refl _) ⟨_, rfl, hp, rfl, rfl⟩))) (fun k => nomatch k) fun _ => sx_nil ⟨rfl, rfl⟩)
end

end K88

set_option Elab.async false
set_option linter.all false
set_option autoImplicit false
set_option maxRecDepth 100000
set_option maxHeartbeats 400000
namespace K88
open PySem PySem.Spec PyProof.Rows L2 RZ Ab
local macro_rules | `(tactic| walk_at "has") => `(tactic| first | exact Has.here | (apply Has.there; walk_at "has"))
local macro_rules | `(tactic| walk_at "ata") => `(tactic| first | exact At.here | (apply At.there; walk_at "ata"))
local macro_rules | `(tactic| walk_at "put") => `(tactic| first | exact Put.here | (apply Put.there; walk_at "put"))
local macro_rules | `(tactic| walk_at "puta") => `(tactic| first | exact PutA.here | (apply PutA.there; walk_at "puta"))
local macro_rules | `(tactic| walk_at "wk") => `(tactic| first | exact Wk.nil | (apply Wk.same; walk_at "wk") | (apply Wk.no; walk_at "wk"))
local macro_rules | `(tactic| walk_at "side") => `(tactic| first | assumption | omega | decide)
local macro_rules | `(tactic| walk_at "de") => `(tactic| first
  | assumption
  | exact de_int
  | exact de_non
  | exact de_bl
  | exact de_str
  | (refine' de_name rfl ?hz; (case hz => walk_at "has"))
  | (refine' de_mod ?d1 ?d2 ?d3; (case d1 => walk_at "de"); (case d2 => walk_at "de"); (case d3 => walk_at "side"))
  | (refine' de_add ?d1 ?d2; (case d1 => walk_at "de"); (case d2 => walk_at "de"))
  | (refine' de_sub ?d1 ?d2; (case d1 => walk_at "de"); (case d2 => walk_at "de"))
  | (refine' de_mul ?d1 ?d2 ?d3; (case d1 => walk_at "de"); (case d2 => walk_at "de"); (case d3 => first | assumption | (refine mulW1 ?_ ?_ <;> omega)))
  | (refine' de_fdiv ?d1 ?d2 ?d3; (case d1 => walk_at "de"); (case d2 => walk_at "de"); (case d3 => exact divW (by omega)))
  | (refine' de_tupX ?d1 ?d2; (case d1 => walk_at "da"); (case d2 => exact Nat.le_of_ble_eq_true rfl))
  )
local macro_rules | `(tactic| walk_at "da") => `(tactic| first | exact da_nil | (refine' da_cons ?a1 ?a2; (case a1 => walk_at "de"); (case a2 => walk_at "da")))
local macro_rules | `(tactic| walk_at "db") => `(tactic| first
  | assumption
  | (refine' db_eqI ?d1 ?d2; (case d1 => walk_at "de"); (case d2 => walk_at "de"))
  | (refine' db_neI ?d1 ?d2; (case d1 => walk_at "de"); (case d2 => walk_at "de"))
  | (refine' db_lt ?d1 ?d2; (case d1 => walk_at "de"); (case d2 => walk_at "de"))
  | (refine' db_gt ?d1 ?d2; (case d1 => walk_at "de"); (case d2 => walk_at "de"))
  | (refine' db_le ?d1 ?d2; (case d1 => walk_at "de"); (case d2 => walk_at "de"))
  | (refine' db_ge ?d1 ?d2; (case d1 => walk_at "de"); (case d2 => walk_at "de"))
  | (refine' db_not ?d1; (case d1 => walk_at "db"))
  )
section
variable {P : Program} {w : World} {K : PySem.W.Frag} {mg : Str → Option Value} {base : Heap}
open Rk
def Rests (p : Int) (r : List Int) : Prop := ∀ x, x ∈ r → 0 ≤ x ∧ x < p
theorem row_rests {p : Int} {n : Nat} {r : List Int} (h : Row p n r) : Rests p r := h.2
def r_unit : Sig := fun ds S d S' => ∃ (n : Nat) (k : Int), ds = [.int n, .int k] ∧ n ≤ 1000 ∧ d = tI (unitF n k) ∧ S' = S
theorem ok_unit (T : Fx K mg) : Ok P w K mg base "unit" 1 r_unit := by
  refine ok_of T.g_unit T.f_unit sc_unit (fun _ _ _ _ _ _ us hl => match us, hl with | [_, _], _ => rfl) (fun ds S d S' ⟨_, _, h, _⟩ => by rw [h]; rfl) ?_
  rintro f cdv A outer s H E hr ds S d S' eq ⟨n, k, rfl, hn, rfl, rfl⟩
  show SX _ _ [.dat (.int n), .dat (.int k), .no] S' _
  refine sx_one (s1_ret (DE.cast (de_tupL (DN.seq (LC.dn (own := [("at", 2)]) (lc_nameM (xs := iot 0 1 n) (φ := .int) (g := fun a => .int (if a = k then 1 else 0)) (ds_range1 (n := n) (by walk_at "de") (by omega) (by rfl) T.b_range).c sc_unit.nd (j := 2) rfl (by rw [iot_len]; omega) ?_) rfl sc_unit.nd (blkOk_by (N := N_unit) (sc := defScope (topS 20)) (by decide +kernel)))) (by rfl) T.b_tuple) ?_) ⟨rfl, rfl⟩)
  · intro s H C cl fp v hv
    show DE _ _ [.dat (.int n), .dat (.int k), .dat (.int v)] _ _ _
    refine DE.cast (de_if (k := decide (v = k)) (by walk_at "db") (fun _ => de_int) (fun _ => de_int)) ?_
    by_cases h : v = k
    · rw [if_pos (decide_eq_true h), if_pos h]
    · rw [if_neg (by simpa using h), if_neg h]
  · rw [map_id_ints, iot_rg]
    rfl
def r_idle_of : Sig := fun ds S d S' => ∃ n : Nat, ds = [.int n] ∧ n ≤ 1000 ∧ d = tT (idF n) ∧ S' = S
theorem ok_idle_of (T : Fx K mg) : Ok P w K mg base "idle_of" 2 r_idle_of := by
  refine ok_of T.g_idle_of T.f_idle_of sc_idle_of (fun _ _ _ _ _ _ us hl => match us, hl with | [_], _ => rfl) (fun ds S d S' ⟨_, h, _⟩ => by rw [h]; rfl) ?_
  rintro f cdv A outer s H E hr ds S d S' eq ⟨n, rfl, hn, rfl, rfl⟩
  show SX _ _ [.dat (.int n), .no] S' _
  refine sx_one (s1_ret (DE.cast (de_tupL (DN.seq (LC.dn (own := [("place", 1)]) (lc_nameM (xs := iot 0 1 n) (φ := .int) (g := fun a => tI (unitF n a)) (ds_range1 (n := n) (by walk_at "de") (by omega) (by rfl) T.b_range).c sc_idle_of.nd (j := 1) rfl (by rw [iot_len]; omega) ?_) rfl sc_idle_of.nd (blkOk_by (N := N_idle_of) (sc := defScope (topS 21)) (by decide +kernel)))) (by rfl) T.b_tuple) ?_) ⟨rfl, rfl⟩)
  · intro s H C cl fp v hv
    show DE _ _ [.dat (.int n), .dat (.int v)] _ _ _
    exact de_ok (X := blk _ _ s H C cl fp) (ok_unit T) hr (by decide) rfl (by walk_at "da") (PotEq.refl _) ⟨n, v, rfl, hn, rfl, rfl⟩
  · rw [map_comp (f := unitF n) (φ := tI), iot_rg]
    rfl
def r_dot : Sig := fun ds S d S' => ∃ (p : Int) (r s : List Int), ds = [.int p, tI r, tI s] ∧ (Pr p ∧ Rests p r ∧ Rests p s ∧ r.length ≤ 1000) ∧ d = .int (dotF p r s) ∧ S' = S
theorem ok_dot (T : Fx K mg) : Ok P w K mg base "dot" 1 r_dot := by
  refine ok_of T.g_dot T.f_dot sc_dot (fun _ _ _ _ _ _ us hl => match us, hl with | [_, _, _], _ => rfl) (fun ds S d S' ⟨_, _, _, h, _⟩ => by rw [h]; rfl) ?_
  rintro f cdv A outer s H E hr ds S d S' eq ⟨p, r, t, rfl, ⟨hp, h1, h2, h3⟩, rfl, rfl⟩
  have hb := hp.b
  show SX _ _ [.dat (.int p), .dat (tI r), .dat (tI t), .no, .no] S' _
  refine sx_one (s1_ret (de_mod (i := ((r.zip t).map fun v => v.1 * v.2).sum) (de_sum (ns := (r.zip t).map fun v => v.1 * v.2) rfl (DN.seq (DN.cast (LC.dn (own := [("near", 3), ("far", 4)]) (lc_pairM (xs := r.zip t) (φ := fun v => .int v.1) (ψ := fun v => .int v.2) (g := fun v => .int (v.1 * v.2)) rfl (ds_zipT2 (by walk_at "de") (by walk_at "de") (by rfl) T.b_zip).c sc_dot.nd (j := 3) (k := 4) rfl rfl (by rw [List.length_zip]; omega) ?_) rfl sc_dot.nd (blkOk_by (N := N_dot) (sc := defScope (topS 22)) (by decide +kernel))) map_id_ints)) (by rfl) T.b_sum) (by walk_at "de") (by omega)) ⟨rfl, rfl⟩)
  intro s H C cl fp v hv
  show DE _ _ [.dat (.int p), .dat (tI r), .dat (tI t), .dat (.int v.1), .dat (.int v.2)] _ _ _
  obtain ⟨k1, k2⟩ := List.of_mem_zip hv
  have k3 := h1 _ k1
  have k4 := h2 _ k2
  exact de_mul (by walk_at "de") (by walk_at "de") (mulW1 (by omega) (by omega))
def r_sum_of : Sig := fun ds S d S' => ∃ (p : Int) (r s : List Int) (c : Int), ds = [.int p, tI r, tI s, .int c] ∧ (Pr p ∧ Rests p r ∧ Rests p s ∧ r.length ≤ 1000 ∧ -100 ≤ c ∧ c ≤ 100) ∧ d = tI (addF p r s c) ∧ S' = S
theorem ok_sum_of (T : Fx K mg) : Ok P w K mg base "sum_of" 1 r_sum_of := by
  refine ok_of T.g_sum_of T.f_sum_of sc_sum_of (fun _ _ _ _ _ _ us hl => match us, hl with | [_, _, _, _], _ => rfl) (fun ds S d S' ⟨_, _, _, _, h, _⟩ => by rw [h]; rfl) ?_
  rintro f cdv A outer s H E hr ds S d S' eq ⟨p, r, t, c, rfl, ⟨hp, h1, h2, h3, h4, h5⟩, rfl, rfl⟩
  have hb := hp.b
  show SX _ _ [.dat (.int p), .dat (tI r), .dat (tI t), .dat (.int c), .no, .no] S' _
  refine sx_one (s1_ret (DE.cast (de_tupL (DN.seq (LC.dn (own := [("near", 4), ("far", 5)]) (lc_pairM (xs := r.zip t) (φ := fun v => .int v.1) (ψ := fun v => .int v.2) (g := fun v => .int ((v.1 + c * v.2) % p)) rfl (ds_zipT2 (by walk_at "de") (by walk_at "de") (by rfl) T.b_zip).c sc_sum_of.nd (j := 4) (k := 5) rfl rfl (by rw [List.length_zip]; omega) ?_) rfl sc_sum_of.nd (blkOk_by (N := N_sum_of) (sc := defScope (topS 23)) (by decide +kernel)))) (by rfl) T.b_tuple) ?_) ⟨rfl, rfl⟩)
  · intro s H C cl fp v hv
    show DE _ _ [.dat (.int p), .dat (tI r), .dat (tI t), .dat (.int c), .dat (.int v.1), .dat (.int v.2)] _ _ _
    obtain ⟨k1, k2⟩ := List.of_mem_zip hv
    have k3 := h1 _ k1
    have k4 := h2 _ k2
    have hm : CMulW c v.2 := mulW1 (by omega) (by omega)
    walk_at "de"
  · rw [map_id_ints]
    rfl
/-- the fold, i turns -/
def mixN (p : Int) (cs : List Int) (rows : List (List Int)) (n i : Nat) : List Int := ((cs.zip rows).take i).foldl (fun acc v => addF p acc v.2 v.1) (List.replicate n 0)
theorem mixN_succ {p : Int} {cs : List Int} {rows : List (List Int)} {n i : Nat} {v : Int × List Int} (h : (cs.zip rows)[i]? = some v) : mixN p cs rows n (i + 1) = addF p (mixN p cs rows n i) v.2 v.1 := by
  unfold mixN
  rw [List.take_add_one, h, List.foldl_append]
  rfl
theorem mixN_row {p : Int} {cs : List Int} {rows : List (List Int)} {n i : Nat} (hp : 0 < p) (h : ∀ r, r ∈ rows → r.length = n) : Row p n (mixN p cs rows n i) :=
  mix_go hp _ _ (Row.zero hp) fun v hv => h _ (List.of_mem_zip (List.mem_of_mem_take hv)).2
def r_mix_of : Sig := fun ds S d S' => ∃ (p : Int) (cs : List Int) (rows : List (List Int)) (n : Nat), ds = [.int p, tI cs, tT rows, .int n] ∧ (Pr p ∧ Rests p cs ∧ (∀ r, r ∈ rows → Row p n r) ∧ n ≤ 1000 ∧ cs.length ≤ 1000) ∧ d = tI (mixF p cs rows n) ∧ S' = S
theorem ok_mix_of (T : Fx K mg) : Ok P w K mg base "mix_of" 2 r_mix_of := by
  refine ok_of T.g_mix_of T.f_mix_of sc_mix_of (fun _ _ _ _ _ _ us hl => match us, hl with | [_, _, _, _], _ => rfl) (fun ds S d S' ⟨_, _, _, _, h, _⟩ => by rw [h]; rfl) ?_
  rintro f cdv A outer s H E hr ds S d S' eq ⟨p, cs, rows, n, rfl, ⟨hp, h1, h2, h3, h4⟩, rfl, rfl⟩
  have hb := hp.b
  show SX _ _ [.dat (.int p), .dat (tI cs), .dat (tT rows), .dat (.int n), .no, .no, .no] S' _
  refine sx_cons (p_set rfl sc_mix_of.nd (DE.cast (d' := tI (List.replicate n 0)) (de_repT (ds := [.int 0]) (k := n) (by walk_at "de") (by walk_at "de") (by simp) (by decide) (by omega)) ?_) (by walk_at "put") ?_)
  · rw [Int.toNat_natCast]
    congr 1
    rw [List.map_replicate]
    induction n with
    | zero => rfl
    | succ n ih => 
      rw [List.replicate_succ, List.flatten_cons]
      clear ih
      induction n with
      | zero => rfl
      | succ n ih => rw [List.replicate_succ, List.flatten_cons, ← List.append_assoc]; simp_all [List.replicate_succ]
  · refine sx_forT (fun i => [.dat (.int p), .dat (tI cs), .dat (tT rows), .dat (.int n), .dat (tI (mixN p cs rows n i)), .no, .no]) (fun _ => S') (ds_zipT2 (φ := .int) (ψ := tI) (by walk_at "de") (by walk_at "de") rfl T.b_zip) tm_two
      (tg_pair rfl sc_mix_of.nd (j := 5) (k := 6) rfl (.inl rfl) rfl (.inl rfl)) (by walk_at "wk") (fun i v hv _ => ?_) (fun _ => ?_) (ps_for PassesOwn.never rfl WI.pi WG.pg WS.ps)
    · show SX _ _ [.dat (.int p), .dat (tI cs), .dat (tT rows), .dat (.int n), .dat (tI (mixN p cs rows n i)), .dat (.int v.1), .dat (tI v.2)] _ _
      obtain ⟨k1, k2⟩ := List.of_mem_zip (List.mem_of_getElem? hv)
      have k3 := h1 _ k1
      have hrow := mixN_row (p := p) (cs := cs) (i := i) (show (0 : Int) < p by omega) fun r hr => (h2 r hr).1
      refine sx_one (p_set rfl sc_mix_of.nd (de_ok (ok_sum_of T) hr (by decide) rfl (by walk_at "da") (PotEq.refl _) ⟨_, _, _, _, rfl, ⟨hp, hrow.2, (h2 _ k2).2, by rw [hrow.1]; omega, by omega, by omega⟩, rfl, rfl⟩) (by walk_at "put") ⟨?_, rfl⟩)
      show Wk _ [.dat (.int p), .dat (tI cs), .dat (tT rows), .dat (.int n), .dat (tI (mixN p cs rows n (i + 1))), .no, .no]
      rw [mixN_succ hv]
      walk_at "wk"
    · show SX _ _ [.dat (.int p), .dat (tI cs), .dat (tT rows), .dat (.int n), .dat (tI (mixN p cs rows n (cs.zip rows).length)), .no, .no] _ _
      have e : tI (mixN p cs rows n (cs.zip rows).length) = tI (mixF p cs rows n) := by
        rw [mixN, List.take_length]
        rfl
      exact sx_one (s1_ret (by walk_at "de") ⟨e, rfl⟩)
def r_led_of : Sig := fun ds S d S' => ∃ (p : Int) (row : List Int) (t : List (List Int)) (n m : Nat), ds = [.int p, tI row, tT t] ∧ (Pr p ∧ Rests p row ∧ Tab p n m t ∧ n ≤ 1000 ∧ m ≤ 1000 ∧ row.length ≤ 1000) ∧ d = tI (ledF p row t) ∧ S' = S
theorem ok_led_of (T : Fx K mg) : Ok P w K mg base "led_of" 3 r_led_of := by
  refine ok_of T.g_led_of T.f_led_of sc_led_of (fun _ _ _ _ _ _ us hl => match us, hl with | [_, _, _], _ => rfl) (fun ds S d S' ⟨_, _, _, _, _, h, _⟩ => by rw [h]; rfl) ?_
  rintro f cdv A outer s H E hr ds S d S' eq ⟨p, row, t, n, m, rfl, ⟨hp, h1, h2, h3, h4, h5⟩, rfl, rfl⟩
  have hb := hp.b
  show SX _ _ [.dat (.int p), .dat (tI row), .dat (tT t)] S' _
  have hw : ∀ r, r ∈ t → Row p (t.headD []).length r := fun r hr => by
    rw [h2.head (by
      have := h2.1
      cases t with
      | nil => cases hr
      | cons a b =>
        rw [List.length_cons] at this
        omega)]
    exact h2.2 r hr
  have hl : (t.headD []).length ≤ 1000 := by
    cases t with
    | nil => exact Nat.zero_le _
    | cons a b => rw [show (((a :: b).headD []).length) = a.length from rfl, (h2.2 a List.mem_cons_self).1]; exact h4
  refine sx_one (s1_ret (de_ok (ok_mix_of T) hr (by decide) rfl (da_cons (by walk_at "de") (da_cons (by walk_at "de") (da_cons (by walk_at "de") (da_cons (DE.cast (d' := .int ((t.headD []).length : Nat)) (de_if (k := decide (0 < ((t.map tI).length : Int))) (db_gt (de_len (DE.tup (ds := t.map tI) (by walk_at "de")) (by rfl) T.b_len) de_int) (d1 := .int ((t.headD []).length : Nat)) (d2 := .int 0) (fun k => ?_) (fun _ => de_int)) ?_) da_nil)))) (PotEq.refl _) ⟨_, _, _, _, rfl, ⟨hp, h1, hw, hl, h5⟩, rfl, rfl⟩) ⟨rfl, rfl⟩)
  · have k := of_decide_eq_true k
    rw [List.length_map] at k
    cases t with
    | nil => exact absurd k (by decide)
    | cons a b => exact DE.cast (de_len (DE.tup (ds := a.map .int) (de_ix (t := true) (ds := (a :: b).map tI) (i := 0) (DE.tup (by walk_at "de")) de_int (atI_map (i := 0) rfl))) (by rfl) T.b_len) (by rw [List.length_map]; rfl)
  · cases t with
    | nil => rfl
    | cons a b => rw [if_pos (decide_eq_true (by rw [List.length_map, List.length_cons]; omega))]
end

end K88

set_option Elab.async false
set_option linter.all false
set_option autoImplicit false
set_option maxRecDepth 100000
set_option maxHeartbeats 400000
namespace K88
open PySem PySem.Spec PyProof.Rows L2 RZ Ab
local macro_rules | `(tactic| walk_at "has") => `(tactic| first | exact Has.here | (apply Has.there; walk_at "has"))
local macro_rules | `(tactic| walk_at "ata") => `(tactic| first | exact At.here | (apply At.there; walk_at "ata"))
local macro_rules | `(tactic| walk_at "put") => `(tactic| first | exact Put.here | (apply Put.there; walk_at "put"))
local macro_rules | `(tactic| walk_at "puta") => `(tactic| first | exact PutA.here | (apply PutA.there; walk_at "puta"))
local macro_rules | `(tactic| walk_at "wk") => `(tactic| first | exact Wk.nil | (apply Wk.same; walk_at "wk") | (apply Wk.no; walk_at "wk"))
local macro_rules | `(tactic| walk_at "side") => `(tactic| first | assumption | omega | decide)
local macro_rules | `(tactic| walk_at "de") => `(tactic| first
  | assumption
  | exact de_int
  | exact de_non
  | exact de_bl
  | exact de_str
  | (refine' de_name rfl ?hz; (case hz => walk_at "has"))
  | (refine' de_mod ?d1 ?d2 ?d3; (case d1 => walk_at "de"); (case d2 => walk_at "de"); (case d3 => walk_at "side"))
  | (refine' de_add ?d1 ?d2; (case d1 => walk_at "de"); (case d2 => walk_at "de"))
  | (refine' de_sub ?d1 ?d2; (case d1 => walk_at "de"); (case d2 => walk_at "de"))
  | (refine' de_mul ?d1 ?d2 ?d3; (case d1 => walk_at "de"); (case d2 => walk_at "de"); (case d3 => first | assumption | (refine mulW1 ?_ ?_ <;> omega)))
  | (refine' de_fdiv ?d1 ?d2 ?d3; (case d1 => walk_at "de"); (case d2 => walk_at "de"); (case d3 => exact divW (by omega)))
  | (refine' de_tupX ?d1 ?d2; (case d1 => walk_at "da"); (case d2 => exact Nat.le_of_ble_eq_true rfl))
  )
local macro_rules | `(tactic| walk_at "da") => `(tactic| first | exact da_nil | (refine' da_cons ?a1 ?a2; (case a1 => walk_at "de"); (case a2 => walk_at "da")))
local macro_rules | `(tactic| walk_at "db") => `(tactic| first
  | assumption
  | (refine' db_eqI ?d1 ?d2; (case d1 => walk_at "de"); (case d2 => walk_at "de"))
  | (refine' db_neI ?d1 ?d2; (case d1 => walk_at "de"); (case d2 => walk_at "de"))
  | (refine' db_lt ?d1 ?d2; (case d1 => walk_at "de"); (case d2 => walk_at "de"))
  | (refine' db_gt ?d1 ?d2; (case d1 => walk_at "de"); (case d2 => walk_at "de"))
  | (refine' db_le ?d1 ?d2; (case d1 => walk_at "de"); (case d2 => walk_at "de"))
  | (refine' db_ge ?d1 ?d2; (case d1 => walk_at "de"); (case d2 => walk_at "de"))
  | (refine' db_not ?d1; (case d1 => walk_at "db"))
  )
section
variable {P : Program} {w : World} {K : PySem.W.Frag} {mg : Str → Option Value} {base : Heap}
open Rk
theorem tab_row {p : Int} {n m : Nat} {t : List (List Int)} (h : Tab p n m t) {r : List Int} (hr : r ∈ t) : Row p m r := h.2 r hr
def r_turned_of : Sig := fun ds S d S' => ∃ (p : Int) (t : List (List Int)) (n : Nat), ds = [tT t] ∧ (Tab p n n t ∧ n ≤ 1000) ∧ d = tT (turnF t) ∧ S' = S
theorem ok_turned_of (T : Fx K mg) : Ok P w K mg base "turned_of" 1 r_turned_of := by
  refine ok_of T.g_turned_of T.f_turned_of sc_turned_of (fun _ _ _ _ _ _ us hl => match us, hl with | [_], _ => rfl) (fun ds S d S' ⟨_, _, _, h, _⟩ => by rw [h]; rfl) ?_
  rintro f cdv A outer s H E hr ds S d S' eq ⟨p, t, n, rfl, ⟨ht, hn⟩, rfl, rfl⟩
  show SX _ _ [.dat (tT t), .no, .no] S' _
  refine sx_one (s1_ret (DE.cast (de_tupL (DN.seq (LC.dn (own := [("place", 2)]) (lc_nameM (xs := iot 0 1 t.length) (φ := .int) (g := fun k => tI (t.map fun r => r.getD k.toNat 0)) (ds_range1 (n := t.length) (DE.cast (de_len (DE.tup (ds := t.map tI) (by walk_at "de")) (by rfl) T.b_len) (by rw [List.length_map])) (by rw [ht.1]; omega) (by rfl) T.b_range).c sc_turned_of.nd (j := 2) rfl (by rw [iot_len, ht.1]; omega) ?_) rfl sc_turned_of.nd (blkOk_by (N := N_turned_of) (sc := defScope (topS 27)) (by decide +kernel)))) (by rfl) T.b_tuple) ?_) ⟨rfl, rfl⟩)
  · intro s H C cl fp k hk
    have hk := mem_iot1.mp hk
    rw [ht.1] at hk
    show DE _ _ [.dat (tT t), .no, .dat (.int k)] _ _ _
    refine DE.cast (de_tupL (X := blk _ _ s H C cl fp) (DN.seq (LC.dn (own := [("row", 1)]) (lc_nameM (xs := t) (φ := tI) (g := fun r => .int (r.getD k.toNat 0)) (ds_tup (ds := t.map tI) (by walk_at "de")).c sc_turned_of.nd (j := 1) rfl (by rw [ht.1]; omega) ?_) rfl sc_turned_of.nd (blkOk_by (by kernel_rfl)))) (by rfl) T.b_tuple) ?_
    · intro s2 H2 C2 cl2 fp2 r hrm
      show DE _ _ [.dat (tT t), .dat (tI r), .dat (.int k)] _ _ _
      have hl : k.toNat < r.length := by rw [(ht.2 r hrm).1]; omega
      have e : r[k.toNat]? = some (r.getD k.toNat 0) := by rw [List.getD_eq_getElem?_getD, List.getElem?_eq_getElem hl]; rfl
      have ek : k = (k.toNat : Nat) := by omega
      rw [ek]
      exact de_ix (t := true) (ds := r.map .int) (i := (k.toNat : Nat)) (DE.tup (by walk_at "de")) (by walk_at "de") (by
        rw [Int.toNat_natCast]
        exact atI_map e)
    · rw [map_id_ints]
  · rw [map_comp (f := fun k : Int => t.map fun r => r.getD k.toNat 0) (φ := tI), iot_rg]
    rfl
def r_row_in : Sig := fun ds S d S' => ∃ (p : Int) (r : List Int) (n : Nat), ds = [.int p, lI r, .int n] ∧ (Row p n r ∧ n ≤ 1000) ∧ d = tI r ∧ S' = S
theorem ok_row_in (T : Fx K mg) : Ok P w K mg base "row_in" 3 r_row_in := by
  refine ok_of T.g_row_in T.f_row_in sc_row_in (fun _ _ _ _ _ _ us hl => match us, hl with | [_, _, _], _ => rfl) (fun ds S d S' ⟨_, _, _, h, _⟩ => by rw [h]; rfl) ?_
  rintro f cdv A outer s H E hr ds S d S' eq ⟨p, r, n, rfl, ⟨hrow, hn⟩, rfl, rfl⟩
  show SX _ _ [.dat (.int p), .dat (lI r), .dat (.int n), .no] S' _
  refine sx_cons (s1_if (k := false || (false || false)) (DW.db (dw_or (k := false) (db_not (k := true) (db_val (de_ok (ok_is_list T) hr (by decide) rfl (by walk_at "da") (PotEq.refl _) ⟨_, rfl, rfl, rfl⟩))) fun _ => dw_or (k := false) (DB.cast (db_neI (i := (r.map D.int).length) (j := n) (de_len (DE.lst (ds := r.map .int) (by walk_at "de")) (by rfl) T.b_len) (by walk_at "de")) ?_) fun _ => dw_or1 (db_not (k := true) (db_val (DE.cast (de_all (bs := r.map fun x => decide (0 ≤ x) && decide (x < p)) rfl (DN.seq (DN.cast (LC.dn (own := [("number", 3)]) (lc_nameM (xs := r) (φ := .int) (g := fun x => .bl (decide (0 ≤ x) && decide (x < p))) (ds_list (ds := r.map .int) (by walk_at "de")).c sc_row_in.nd (j := 3) rfl (by rw [hrow.1]; omega) ?_) rfl sc_row_in.nd (blkOk_by (N := N_row_in) (sc := defScope (topS 30)) (by decide +kernel))) ?_)) (by rfl) T.b_all) ?_))))) (fun k => nomatch k) fun _ => ?_)
  · rw [List.length_map, hrow.1, decide_eq_true rfl]
    rfl
  · intro s H C cl fp x hx
    show DE _ _ [.dat (.int p), .dat (lI r), .dat (.int n), .dat (.int x)] _ _ _
    exact de_ok (X := blk _ _ s H C cl fp) (ok_is_rest_by T) hr (by decide) rfl (by walk_at "da") (PotEq.refl _) ⟨_, _, rfl, rfl, rfl⟩
  · rw [List.map_map]
    rfl
  · congr 1
    rw [List.all_map, List.all_eq_true]
    intro x hx
    have := hrow.2 x hx
    simp [this]
  · exact sx_nil (sx_one (s1_ret (de_tupL (DE.lst (ds := r.map .int) (by walk_at "de")) (by rfl) T.b_tuple) ⟨rfl, rfl⟩))
def r_table_in : Sig := fun ds S d S' => ∃ (p : Int) (t : List (List Int)) (n : Nat), ds = [.int p, lL t] ∧ (Tab p n n t ∧ n ≤ 6) ∧ d = tT t ∧ S' = S
theorem any_false {α : Type} {xs : List α} : (xs.map fun _ => false).any id = false := by
  induction xs with
  | nil => rfl
  | cons a b ih => simpa using ih
theorem ok_table_in (T : Fx K mg) : Ok P w K mg base "table_in" 4 r_table_in := by
  refine ok_of T.g_table_in T.f_table_in sc_table_in (fun _ _ _ _ _ _ us hl => match us, hl with | [_, _], _ => rfl) (fun ds S d S' ⟨_, _, _, h, _⟩ => by rw [h]; rfl) ?_
  rintro f cdv A outer s H E hr ds S d S' eq ⟨p, t, n, rfl, ⟨ht, hn⟩, rfl, rfl⟩
  obtain ⟨tk, hk6⟩ := T.k_MOST_SIZE
  show SX _ _ [.dat (.int p), .dat (lL t), .no, .no] S' _
  refine sx_cons (s1_if (k := false || false) (DW.db (dw_or (k := false) (db_not (k := true) (db_val (de_ok (ok_is_list T) hr (by decide) rfl (by walk_at "da") (PotEq.refl _) ⟨_, rfl, rfl, rfl⟩))) fun _ => dw_or1 (DB.cast (db_gt (i := (t.map lI).length) (j := 6) (de_len (DE.lst (ds := t.map lI) (by walk_at "de")) (by rfl) T.b_len) (de_glob (v := .int 6) (by rfl) hk6 ⟨tk, rfl⟩ fun _ => .int 6)) ?_))) (fun k => nomatch k) fun _ => sx_nil ?_)
  · rw [List.length_map, ht.1]
    exact decide_eq_false (by omega)
  · refine sx_cons (p_lc rfl sc_table_in.nd (lc_nameM (xs := t) (φ := lI) (g := tI) (ds_list (ds := t.map lI) (by walk_at "de")).c sc_table_in.nd (j := 3) rfl (by rw [ht.1]; omega) ?_) (own := [("row", 3)]) (by walk_at "put") ?_ rfl rfl rfl (blkOk_by (N := N_table_in) (sc := defScope (topS 31)) (by decide +kernel)))
    · intro s H C cl fp r hrm
      show DE _ _ [.dat (.int p), .dat (lL t), .no, .dat (lI r)] _ _ _
      exact de_ok (X := blk _ _ s H C cl fp) (ok_row_in T) hr (by decide) rfl (da_cons (by walk_at "de") (da_cons (by walk_at "de") (da_cons (DE.cast (d' := .int (n : Nat)) (de_len (DE.lst (ds := t.map lI) (by walk_at "de")) (by rfl) T.b_len) (by rw [List.length_map, ht.1])) da_nil))) (PotEq.refl _) ⟨_, _, _, rfl, ⟨ht.2 r hrm, by omega⟩, rfl, rfl⟩
    · show SX _ _ [.dat (.int p), .dat (lL t), .dat (.lst (t.map tI)), .no] _ _
      refine sx_one (s1_ret (DE.cast (d' := tT t) (de_if (k := false) (d1 := .non) (d2 := tT t) (db_val (DE.cast (de_any (bs := t.map fun _ => false) rfl (DN.seq (DN.cast (LC.dn (own := [("row", 3)]) (lc_nameM (xs := t) (φ := tI) (g := fun _ => .bl false) (ds_list (ds := t.map tI) (by walk_at "de")).c sc_table_in.nd (j := 3) rfl (by rw [ht.1]; omega) ?_) rfl sc_table_in.nd (blkOk_by (N := N_table_in) (sc := defScope (topS 31)) (by decide +kernel))) ?_)) (by rfl) T.b_any) ?_)) (fun k => nomatch k) fun _ => de_tupL (DE.lst (ds := t.map tI) (by walk_at "de")) (by rfl) T.b_tuple) ?_) ⟨rfl, rfl⟩)
      · intro s H C cl fp r hrm
        show DE _ _ [.dat (.int p), .dat (lL t), .dat (.lst (t.map tI)), .dat (tI r)] _ _ _
        exact (db_isF (d := tI r) (by walk_at "de") rfl).de
      · rw [List.map_map]
        rfl
      · rw [any_false]
      · rfl
/-- rows that may be a room's -/
def Sym (t : List (List Int)) : Prop := turnF t = t
def r_right_rows : Sig := fun ds S d S' => ∃ (p : Int) (t : List (List Int)) (n : Nat), ds = [.int p, lL t] ∧ (Tab p n n t ∧ n ≤ 6 ∧ Sym t) ∧ d = tT t ∧ S' = S
theorem ok_right_rows (T : Fx K mg) : Ok P w K mg base "right_rows" 5 r_right_rows := by
  refine ok_of T.g_right_rows T.f_right_rows sc_right_rows (fun _ _ _ _ _ _ us hl => match us, hl with | [_, _], _ => rfl) (fun ds S d S' ⟨_, _, _, h, _⟩ => by rw [h]; rfl) ?_
  rintro f cdv A outer s H E hr ds S d S' eq ⟨p, t, n, rfl, ⟨ht, hn, hs⟩, rfl, rfl⟩
  show SX _ _ [.dat (.int p), .dat (lL t), .no] S' _
  refine sx_cons (p_set rfl sc_right_rows.nd (de_ok (ok_table_in T) hr (by decide) rfl (by walk_at "da") (PotEq.refl _) ⟨_, _, _, rfl, ⟨ht, hn⟩, rfl, rfl⟩) (by walk_at "put") ?_)
  refine sx_cons (s1_if (k := false || false) (DW.db (dw_or (k := false) (DB.cast (db_isN (d := tT t) (by walk_at "de")) rfl) fun _ => dw_or1 (db_ne (k := true) 2 2 (by exact hr) (de_ok (ok_turned_of T) hr (by decide) rfl (by walk_at "da") (PotEq.refl _) ⟨p, t, n, rfl, ⟨ht, by omega⟩, rfl, rfl⟩) (by walk_at "de") (ok_tT _) (ok_tT _) ⟨fun _ => by rw [hs], fun _ => rfl⟩))) (fun k => nomatch k) fun _ => sx_nil ?_)
  exact sx_one (s1_ret (by walk_at "de") ⟨rfl, rfl⟩)
end

end K88

set_option Elab.async false
set_option linter.all false
set_option autoImplicit false
set_option maxRecDepth 100000
set_option maxHeartbeats 400000
namespace K88
open PySem PySem.Spec PyProof.Rows L2 RZ Ab
local macro_rules | `(tactic| walk_at "has") => `(tactic| first | exact Has.here | (apply Has.there; walk_at "has"))
local macro_rules | `(tactic| walk_at "ata") => `(tactic| first | exact At.here | (apply At.there; walk_at "ata"))
local macro_rules | `(tactic| walk_at "put") => `(tactic| first | exact Put.here | (apply Put.there; walk_at "put"))
local macro_rules | `(tactic| walk_at "puta") => `(tactic| first | exact PutA.here | (apply PutA.there; walk_at "puta"))
local macro_rules | `(tactic| walk_at "wk") => `(tactic| first | exact Wk.nil | (apply Wk.same; walk_at "wk") | (apply Wk.no; walk_at "wk"))
local macro_rules | `(tactic| walk_at "side") => `(tactic| first | assumption | omega | decide)
local macro_rules | `(tactic| walk_at "de") => `(tactic| first
  | assumption
  | exact de_int
  | exact de_non
  | exact de_bl
  | exact de_str
  | (refine' de_name rfl ?hz; (case hz => walk_at "has"))
  | (refine' de_mod ?d1 ?d2 ?d3; (case d1 => walk_at "de"); (case d2 => walk_at "de"); (case d3 => walk_at "side"))
  | (refine' de_add ?d1 ?d2; (case d1 => walk_at "de"); (case d2 => walk_at "de"))
  | (refine' de_sub ?d1 ?d2; (case d1 => walk_at "de"); (case d2 => walk_at "de"))
  | (refine' de_mul ?d1 ?d2 ?d3; (case d1 => walk_at "de"); (case d2 => walk_at "de"); (case d3 => first | assumption | (refine mulW1 ?_ ?_ <;> omega)))
  | (refine' de_fdiv ?d1 ?d2 ?d3; (case d1 => walk_at "de"); (case d2 => walk_at "de"); (case d3 => exact divW (by omega)))
  | (refine' de_tupX ?d1 ?d2; (case d1 => walk_at "da"); (case d2 => exact Nat.le_of_ble_eq_true rfl))
  )
local macro_rules | `(tactic| walk_at "da") => `(tactic| first | exact da_nil | (refine' da_cons ?a1 ?a2; (case a1 => walk_at "de"); (case a2 => walk_at "da")))
local macro_rules | `(tactic| walk_at "db") => `(tactic| first
  | assumption
  | (refine' db_eqI ?d1 ?d2; (case d1 => walk_at "de"); (case d2 => walk_at "de"))
  | (refine' db_neI ?d1 ?d2; (case d1 => walk_at "de"); (case d2 => walk_at "de"))
  | (refine' db_lt ?d1 ?d2; (case d1 => walk_at "de"); (case d2 => walk_at "de"))
  | (refine' db_gt ?d1 ?d2; (case d1 => walk_at "de"); (case d2 => walk_at "de"))
  | (refine' db_le ?d1 ?d2; (case d1 => walk_at "de"); (case d2 => walk_at "de"))
  | (refine' db_ge ?d1 ?d2; (case d1 => walk_at "de"); (case d2 => walk_at "de"))
  | (refine' db_not ?d1; (case d1 => walk_at "db"))
  )
section
variable {P : Program} {w : World} {K : PySem.W.Frag} {mg : Str → Option Value} {base : Heap}
open Rk
abbrev rmF (p : Int) (t : List (List Int)) : List (Str × D) := [("own_prime", .int p), ("own_rows", tT t)]
abbrev knD (K : PySem.W.Frag) (p : Int) (t : List (List Int)) : D := .ins (He.ga K "Known") (rmF p t)
abbrev rmD (K : PySem.W.Frag) (p : Int) (t : List (List Int)) : D := .ins (He.ga K "Room") (rmF p t)
theorem ty_kn (T : Fx K mg) {p : Int} {t : List (List Int)} : TyD K (knD K p t) (.ref (He.ga K "Known")) := .ins T.c_Known T.i1_Known T.i5 T.i6 T.i2_Known
theorem ty_rm (T : Fx K mg) {p : Int} {t : List (List Int)} : TyD K (rmD K p t) (.ref (He.ga K "Room")) := .ins T.c_Room T.i1_Room T.i5 T.i6 T.i2_Room
/-! ### Known, Room -/
def i_Known : List D → List (Str × D) → Prop := fun ds fs => ∃ (p : Int) (t : List (List Int)), ds = [.int p, tT t] ∧ fs = rmF p t
theorem ok_Known (T : Fx K mg) : OkI P w K mg base "Known" (He.ga K "Known") 1 [] i_Known := by
  refine oki_of (n := "self") (N := ["prime", "rows"]) 0 T.g_Known T.mk_Known T.f_Known___init__ sc_Known___init__ (fun ds fs ⟨_, _, h, _⟩ => by rw [h]; rfl) (fun fd F => ⟨[], .nil, F.bindsN (fun _ _ _ _ _ _ us hl => match us, hl with | [_, _, _], _ => rfl)⟩) (fun _ => .nil) ?_
  rintro cdv A outer s H E hr x dx ds fs ⟨p, t, rfl, rfl⟩
  show SX _ _ [.mk x dx _ [], .dat (.int p), .dat (tT t)] none _
  refine sx_cons (p_setF rfl (by walk_at "de") (by walk_at "ata") (by walk_at "puta") T.c_Known T.n_Known_own_prime (by decide) ?_)
  exact sx_one (p_setF rfl (by walk_at "de") (by walk_at "ata") (by walk_at "puta") T.c_Known T.n_Known_own_rows (by show 1 < 1000; decide) ⟨rfl, _, rfl⟩)
def i_RoomK (K : PySem.W.Frag) : List D → List (Str × D) → Prop := fun ds fs => ∃ (p : Int) (t : List (List Int)), ds = [knD K p t, .tup []] ∧ fs = rmF p t
def i_RoomL : List D → List (Str × D) → Prop := fun ds fs => ∃ (p : Int) (t : List (List Int)) (n : Nat), ds = [.int p, lL t] ∧ (Pr p ∧ Tab p n n t ∧ n ≤ 6 ∧ Sym t) ∧ fs = rmF p t
theorem ok_RoomK (T : Fx K mg) : OkI P w K mg base "Room" (He.ga K "Room") 1 [.tup []] (i_RoomK K) := by
  refine oki_of (n := "self") (N := ["prime", "rows"]) 0 T.g_Room T.mk_Room T.f_Room___init__ sc_Room___init__ (fun ds fs ⟨_, _, h, _⟩ => by rw [h]; rfl) (fun fd F => F.binds1 2 0 (by simp) rfl ?_) (fun B => .cons (.tup (T.e_Room___init__ B) .nil) .nil) ?_
  · intro Ta kV doc pm an cdv ct us its h1 h2
    match us, its, h1, h2 with
    | [a, b], [d], _, _ => exact ⟨_, rfl, rfl⟩
  rintro cdv A outer s H E hr x dx ds fs ⟨p, t, rfl, rfl⟩
  show SX _ _ [.mk x dx _ [], .dat (knD K p t), .dat (.tup [])] none _
  refine sx_one (s1_if (k := true) (db_val (db_isi (by walk_at "de") (de_glob (v := .ref (He.ga K "Known")) (by rfl) T.g_Known rfl fun B => .adr _) (ty_kn T) (.own _) T.i3_Known_Known rfl T.b_isinstance)) (fun _ => ?_) (fun k => nomatch k))
  exact sx_one (p_setF2 rfl rfl (da_cons (de_fld (fs := rmF p t) (by walk_at "de") rfl T.c_Known T.n_Known_own_prime) (da_cons (de_fld (fs := rmF p t) (by walk_at "de") rfl T.c_Known T.n_Known_own_rows) da_nil)) (by walk_at "ata") (by walk_at "puta") T.c_Room T.n_Room_own_prime T.n_Room_own_rows (by decide) ⟨rfl, _, rfl⟩)
theorem ok_RoomL (T : Fx K mg) : OkI P w K mg base "Room" (He.ga K "Room") 6 [] i_RoomL := by
  refine oki_of (n := "self") (N := ["prime", "rows"]) 1 T.g_Room T.mk_Room T.f_Room___init__ sc_Room___init__ (fun ds fs ⟨_, _, _, h, _⟩ => by rw [h]; rfl) (fun fd F => F.binds1 3 1 (by simp) rfl ?_) (fun B => .nil) ?_
  · intro Ta kV doc pm an cdv ct us its h1 h2
    match us, its, h1, h2 with
    | [a, b, c], [d], _, _ => exact ⟨_, rfl, rfl⟩
  rintro cdv A outer s H E hr x dx ds fs ⟨p, t, n, rfl, ⟨hp, ht, hn, hs⟩, rfl⟩
  show SX _ _ [.mk x dx _ [], .dat (.int p), .dat (lL t)] none _
  refine sx_one (s1_if (k := false) (db_val (db_isi (by walk_at "de") (de_glob (v := .ref (He.ga K "Known")) (by rfl) T.g_Known rfl fun B => .adr _) (.int p) (.own _) T.i4_Known_int rfl T.b_isinstance)) (fun k => nomatch k) fun _ => ?_)
  refine sx_cons (s1_expr (de_ok (ok_want_prime T) hr (by decide) rfl (by walk_at "da") (PotEq.refl _) ⟨_, rfl, hp, rfl, rfl⟩) ?_)
  exact sx_one (p_setF2 rfl rfl (da_cons (by walk_at "de") (da_cons (de_ok (ok_right_rows T) hr (by decide) rfl (by walk_at "da") (PotEq.refl _) ⟨_, _, _, rfl, ⟨ht, hn, hs⟩, rfl, rfl⟩) da_nil)) (by walk_at "ata") (by walk_at "puta") T.c_Room T.n_Room_own_prime T.n_Room_own_rows (by decide) ⟨rfl, _, rfl⟩)
theorem de_pr {X : Cx} {Δ : List Sl} {S S1 : PotS} {pos : Pos} {a : Expr} {p : Int} {t : List (List Int)} (T : Fx X.K X.mg) (h : DE X a Δ S (rmD X.K p t) S1) (hb : attributeBase a "own_prime" X.env (eval a X.env) = eval a X.env := by rfl) : DE X (.Attribute a "own_prime" pos) Δ S (.int p) S1 := de_fld (fs := rmF p t) h rfl T.c_Room T.n_Room_own_prime hb
theorem de_rw {X : Cx} {Δ : List Sl} {S S1 : PotS} {pos : Pos} {a : Expr} {p : Int} {t : List (List Int)} (T : Fx X.K X.mg) (h : DE X a Δ S (rmD X.K p t) S1) (hb : attributeBase a "own_rows" X.env (eval a X.env) = eval a X.env := by rfl) : DE X (.Attribute a "own_rows" pos) Δ S (tT t) S1 := de_fld (fs := rmF p t) h rfl T.c_Room T.n_Room_own_rows hb
def r_Room_prime (K : PySem.W.Frag) : Sig := fun ds S d S' => ∃ (p : Int) (t : List (List Int)), ds = [rmD K p t] ∧ d = .int p ∧ S' = S
theorem ok_Room_prime (T : Fx K mg) : OkA P w K mg base (pAd K "Room" "prime") 1 (r_Room_prime K) := by
  refine oka_of T.f_Room_prime sc_Room_prime (fun _ _ _ _ _ _ us hl => match us, hl with | [_], _ => rfl) (fun ds S d S' ⟨_, _, h, _⟩ => by rw [h]; rfl) ?_
  rintro f cdv A outer s H E hr ds S d S' eq ⟨p, t, rfl, rfl, rfl⟩
  show SX _ _ [.dat (rmD K p t)] S' _
  exact sx_one (s1_ret (de_pr T (by walk_at "de")) ⟨rfl, rfl⟩)
def r_Room_size (K : PySem.W.Frag) : Sig := fun ds S d S' => ∃ (p : Int) (t : List (List Int)), ds = [rmD K p t] ∧ d = .int t.length ∧ S' = S
theorem ok_Room_size (T : Fx K mg) : OkA P w K mg base (pAd K "Room" "size") 1 (r_Room_size K) := by
  refine oka_of T.f_Room_size sc_Room_size (fun _ _ _ _ _ _ us hl => match us, hl with | [_], _ => rfl) (fun ds S d S' ⟨_, _, h, _⟩ => by rw [h]; rfl) ?_
  rintro f cdv A outer s H E hr ds S d S' eq ⟨p, t, rfl, rfl, rfl⟩
  show SX _ _ [.dat (rmD K p t)] S' _
  exact sx_one (s1_ret (DE.cast (de_len (DE.tup (ds := t.map tI) (de_rw (p := p) (t := t) T (by walk_at "de"))) (by rfl) T.b_len) (by rw [List.length_map])) ⟨rfl, rfl⟩)
def r_Room_eq (K : PySem.W.Frag) : Sig := fun ds S d S' => ∃ (p q : Int) (t u : List (List Int)), ds = [rmD K p t, rmD K q u] ∧ d = .bl (decide (p = q) && decide (t = u)) ∧ S' = S
theorem ok_Room_eq (T : Fx K mg) : OkA P w K mg base (He.ma K (He.ga K "Room") "__eq__") 1 (r_Room_eq K) := by
  refine oka_of T.f_Room___eq__ sc_Room___eq__ (fun _ _ _ _ _ _ us hl => match us, hl with | [_, _], _ => rfl) (fun ds S d S' ⟨_, _, _, _, h, _⟩ => by rw [h]; rfl) ?_
  rintro f cdv A outer s H E hr ds S d S' eq ⟨p, q, t, u, rfl, rfl, rfl⟩
  show SX _ _ [.dat (rmD K p t), .dat (rmD K q u)] S' _
  refine sx_cons (s1_if (k := false) (db_not (k := true) (db_val (db_isi (by walk_at "de") (de_glob (v := .ref (He.ga K "Room")) (by rfl) T.g_Room rfl fun B => .adr _) (ty_rm T) (.own _) T.i3_Room_Room rfl T.b_isinstance))) (fun k => nomatch k) fun _ => sx_nil ?_)
  exact sx_one (s1_ret (DW.db (dw_and (k := decide (p = q)) (db_eqI (de_pr (p := p) (t := t) T (by walk_at "de")) (de_pr (p := q) (t := u) T (by walk_at "de"))) fun _ => dw_and1 (db_eq (k := decide (t = u)) 2 2 (by exact hr) (de_rw (p := p) (t := t) T (by walk_at "de")) (de_rw (p := q) (t := u) T (by walk_at "de")) (ok_tT _) (ok_tT _) (by rw [decide_eq_true_iff, inj_tT])))).de ⟨rfl, rfl⟩)
def r_want_room (K : PySem.W.Frag) : Sig := fun ds S d S' => ∃ (p : Int) (t : List (List Int)), ds = [rmD K p t] ∧ d = rmD K p t ∧ S' = S
theorem ok_want_room (T : Fx K mg) : Ok P w K mg base "want_room" 1 (r_want_room K) := by
  refine ok_of T.g_want_room T.f_want_room sc_want_room (fun _ _ _ _ _ _ us hl => match us, hl with | [_], _ => rfl) (fun ds S d S' ⟨_, _, h, _⟩ => by rw [h]; rfl) ?_
  rintro f cdv A outer s H E hr ds S d S' eq ⟨p, t, rfl, rfl, rfl⟩
  show SX _ _ [.dat (rmD K p t)] S' _
  refine sx_cons (s1_if (k := false) (db_not (k := true) (db_val (db_isi (by walk_at "de") (de_glob (v := .ref (He.ga K "Room")) (by rfl) T.g_Room rfl fun B => .adr _) (ty_rm T) (.own _) T.i3_Room_Room rfl T.b_isinstance))) (fun k => nomatch k) fun _ => sx_nil ?_)
  exact sx_one (s1_ret (by walk_at "de") ⟨rfl, rfl⟩)
def r_room_of (K : PySem.W.Frag) : Sig := fun ds S d S' => ∃ (p : Int) (t : List (List Int)), ds = [.int p, tT t] ∧ d = rmD K p t ∧ S' = S
theorem ok_room_of (T : Fx K mg) : Ok P w K mg base "room_of" 3 (r_room_of K) := by
  refine ok_of T.g_room_of T.f_room_of sc_room_of (fun _ _ _ _ _ _ us hl => match us, hl with | [_, _], _ => rfl) (fun ds S d S' ⟨_, _, h, _⟩ => by rw [h]; rfl) ?_
  rintro f cdv A outer s H E hr ds S d S' eq ⟨p, t, rfl, rfl, rfl⟩
  show SX _ _ [.dat (.int p), .dat (tT t)] S' _
  exact sx_one (s1_ret (de_new (ok_RoomK T) hr (by decide) rfl (da_cons (de_new (dd := []) (ds := [.int p, tT t]) (ok_Known T) hr (by decide) rfl (by walk_at "da") ⟨p, t, rfl, rfl⟩) da_nil) ⟨p, t, rfl, rfl⟩) ⟨rfl, rfl⟩)
end

end K88

set_option Elab.async false
set_option linter.all false
set_option autoImplicit false
set_option maxRecDepth 100000
set_option maxHeartbeats 400000
namespace K88
open PySem PySem.Spec PyProof.Rows L2 RZ Ab
local macro_rules | `(tactic| walk_at "has") => `(tactic| first | exact Has.here | (apply Has.there; walk_at "has"))
local macro_rules | `(tactic| walk_at "ata") => `(tactic| first | exact At.here | (apply At.there; walk_at "ata"))
local macro_rules | `(tactic| walk_at "put") => `(tactic| first | exact Put.here | (apply Put.there; walk_at "put"))
local macro_rules | `(tactic| walk_at "puta") => `(tactic| first | exact PutA.here | (apply PutA.there; walk_at "puta"))
local macro_rules | `(tactic| walk_at "wk") => `(tactic| first | exact Wk.nil | (apply Wk.same; walk_at "wk") | (apply Wk.no; walk_at "wk"))
local macro_rules | `(tactic| walk_at "side") => `(tactic| first | assumption | omega | decide)
local macro_rules | `(tactic| walk_at "de") => `(tactic| first
  | assumption
  | exact de_int
  | exact de_non
  | exact de_bl
  | exact de_str
  | (refine' de_name rfl ?hz; (case hz => walk_at "has"))
  | (refine' de_mod ?d1 ?d2 ?d3; (case d1 => walk_at "de"); (case d2 => walk_at "de"); (case d3 => walk_at "side"))
  | (refine' de_add ?d1 ?d2; (case d1 => walk_at "de"); (case d2 => walk_at "de"))
  | (refine' de_sub ?d1 ?d2; (case d1 => walk_at "de"); (case d2 => walk_at "de"))
  | (refine' de_mul ?d1 ?d2 ?d3; (case d1 => walk_at "de"); (case d2 => walk_at "de"); (case d3 => first | assumption | (refine mulW1 ?_ ?_ <;> omega)))
  | (refine' de_fdiv ?d1 ?d2 ?d3; (case d1 => walk_at "de"); (case d2 => walk_at "de"); (case d3 => exact divW (by omega)))
  | (refine' de_tupX ?d1 ?d2; (case d1 => walk_at "da"); (case d2 => exact Nat.le_of_ble_eq_true rfl))
  )
local macro_rules | `(tactic| walk_at "da") => `(tactic| first | exact da_nil | (refine' da_cons ?a1 ?a2; (case a1 => walk_at "de"); (case a2 => walk_at "da")))
local macro_rules | `(tactic| walk_at "db") => `(tactic| first
  | assumption
  | (refine' db_eqI ?d1 ?d2; (case d1 => walk_at "de"); (case d2 => walk_at "de"))
  | (refine' db_neI ?d1 ?d2; (case d1 => walk_at "de"); (case d2 => walk_at "de"))
  | (refine' db_lt ?d1 ?d2; (case d1 => walk_at "de"); (case d2 => walk_at "de"))
  | (refine' db_gt ?d1 ?d2; (case d1 => walk_at "de"); (case d2 => walk_at "de"))
  | (refine' db_le ?d1 ?d2; (case d1 => walk_at "de"); (case d2 => walk_at "de"))
  | (refine' db_ge ?d1 ?d2; (case d1 => walk_at "de"); (case d2 => walk_at "de"))
  | (refine' db_not ?d1; (case d1 => walk_at "db"))
  )
section
variable {P : Program} {w : World} {K : PySem.W.Frag} {mg : Str → Option Value} {base : Heap}
open Rk
theorem led_rests {p : Int} {n m : Nat} {row : List Int} {t : List (List Int)} (hp : 0 < p) (h : Tab p n m t) (hm : m ≤ 1000) : Rests p (ledF p row t) ∧ (ledF p row t).length ≤ 1000 := by
  cases t with
  | nil =>
    have e : ledF p row [] = [] := by
      unfold ledF mixF
      rw [List.zip_nil_right]
      rfl
    rw [e]
    exact ⟨fun x hx => (by cases hx), by decide⟩
  | cons a b =>
    have k := ledF_row (row := row) hp h (by
      have := h.1
      rw [List.length_cons] at this
      omega)
    exact ⟨k.2, by rw [k.1]; exact hm⟩
theorem bet_b {p : Int} {t : List (List Int)} {x y : List Int} (hp : 0 < p) : 0 ≤ betF p t x y ∧ betF p t x y < p := emod_b hp
def r_between_by : Sig := fun ds S d S' => ∃ (p : Int) (t : List (List Int)) (x y : List Int) (n m : Nat), ds = [.int p, tT t, tI x, tI y] ∧ (Pr p ∧ Tab p n m t ∧ Rests p x ∧ Rests p y ∧ n ≤ 1000 ∧ m ≤ 1000 ∧ x.length ≤ 1000) ∧ d = .int (betF p t x y) ∧ S' = S
theorem ok_between_by (T : Fx K mg) : Ok P w K mg base "between_by" 4 r_between_by := by
  refine ok_of T.g_between_by T.f_between_by sc_between_by (fun _ _ _ _ _ _ us hl => match us, hl with | [_, _, _, _], _ => rfl) (fun ds S d S' ⟨_, _, _, _, _, _, h, _⟩ => by rw [h]; rfl) ?_
  rintro f cdv A outer s H E hr ds S d S' eq ⟨p, t, x, y, n, m, rfl, ⟨hp, ht, hx, hy, hn, hm, hl⟩, rfl, rfl⟩
  have hb := hp.b
  obtain ⟨k1, k2⟩ := led_rests (row := x) (by omega) ht hm
  show SX _ _ [.dat (.int p), .dat (tT t), .dat (tI x), .dat (tI y)] S' _
  exact sx_one (s1_ret (de_ok (ok_dot T) hr (by decide) rfl (da_cons (by walk_at "de") (da_cons (de_ok (ok_led_of T) hr (by decide) rfl (by walk_at "da") (PotEq.refl _) ⟨_, _, _, _, _, rfl, ⟨hp, hx, ht, hn, hm, hl⟩, rfl, rfl⟩) (da_cons (by walk_at "de") da_nil))) (PotEq.refl _) ⟨_, _, _, rfl, ⟨hp, k1, hy, k2⟩, rfl, rfl⟩) ⟨rfl, rfl⟩)
def opD : Option (Nat × List Int) → D
  | none => .non
  | some q => .tup [.int q.1, tI q.2]
/-- a table of a room, rows over it -/
structure Rm (p : Int) (t l : List (List Int)) (n : Nat) : Prop where
  pr : Pr p
  tab : Tab p n n t
  rows : ∀ r, r ∈ l → Row p n r
  n6 : n ≤ 6
  len : l.length ≤ 6
theorem drop_get {α : Type} {l : List α} {i : Nat} {x : α} (h : l[i]? = some x) : l.drop i = x :: l.drop (i + 1) := by
  obtain ⟨h1, h2⟩ := List.getElem?_eq_some_iff.mp h
  rw [List.drop_eq_getElem_cons h1, h2]
theorem en_get {l : List (List Int)} {i : Nat} {v : Int × List Int} (h : ((iot 0 1 l.length).zip l)[i]? = some v) : v.1 = (i : Nat) ∧ l[i]? = some v.2 := by
  have e : ((iot 0 1 l.length).zip l)[i]? = some (v.1, v.2) := h
  rw [List.getElem?_zip_eq_some] at e
  obtain ⟨h1, h2⟩ := e
  have hi := (List.getElem?_eq_some_iff.mp h2).1
  rw [iot_get hi] at h1
  have := Option.some.inj h1
  exact ⟨by omega, h2⟩
def r_first_worthy : Sig := fun ds S d S' => ∃ (p : Int) (t l : List (List Int)) (n : Nat), ds = [.int p, tT t, .lst (l.map tI)] ∧ Rm p t l n ∧ d = opD (fwF p t l) ∧ S' = S
theorem ds_enumR {X : Cx} {Δ : List Sl} {S S1 : PotS} {pos p : Pos} {a : Expr} {elts : List Expr} {kk : Nat} {tpos : Pos} {l : List (List Int)} (ha : DE X a Δ S (.lst (l.map tI)) S1) (hg : Gl X "enumerate") (hm : X.mg "enumerate" = none) (hs : starEach [a] X.env = [(false, eval a X.env)] := by rfl) :
    DS X (.Tuple elts kk tpos) (.Call (.Name "enumerate" p) [a] [] pos) Δ S (.two (((iot 0 1 l.length).zip l).map fun v => (.int v.1, tI v.2))) S1 := (ds_enumL ha hg hm hs).cast (by rw [List.length_map, zip_map2])
theorem ok_first_worthy (T : Fx K mg) : Ok P w K mg base "first_worthy" 5 r_first_worthy := by
  refine ok_of T.g_first_worthy T.f_first_worthy sc_first_worthy (fun _ _ _ _ _ _ us hl => match us, hl with | [_, _, _], _ => rfl) (fun ds S d S' ⟨_, _, _, _, h, _⟩ => by rw [h]; rfl) ?_
  rintro f cdv A outer s H E hr ds S d S' eq ⟨p, t, l, n, rfl, hR, rfl, rfl⟩
  have hp := hR.pr
  have hb := hp.b
  have hn := hR.n6
  have hl6 := hR.len
  have xl : ((iot 0 1 l.length).zip l).length = l.length := by rw [List.length_zip, iot_len, Nat.min_self]
  show SX _ _ [.dat (.int p), .dat (tT t), .dat (.lst (l.map tI)), .no, .no, .no] S' _
  refine sx_forJ (fun _ => [.dat (.int p), .dat (tT t), .dat (.lst (l.map tI)), .no, .no, .no]) (fun i => fw1 p t 0 l = fw1 p t i (l.drop i)) (ds_enumR (by walk_at "de") rfl T.b_enumerate) (tm_two (φ := fun v : Int × List Int => .int v.1) (ψ := fun v => tI v.2))
    (tg_pair rfl sc_first_worthy.nd (j := 3) (k := 4) rfl (.inl rfl) rfl (.inl rfl)) (by walk_at "wk") rfl (fun i v hv J => ?_) (fun J => ?_) (ps_for PassesOwn.never rfl WI.pi WG.pg WS.ps)
  · show SX _ _ [.dat (.int p), .dat (tT t), .dat (.lst (l.map tI)), .dat (.int v.1), .dat (tI v.2), .no] _ _
    obtain ⟨e1, e2⟩ := en_get hv
    have hrow := hR.rows _ (List.mem_of_getElem? e2)
    have J' : fw1 p t 0 l = if betF p t v.2 v.2 ≠ 0 then some (i, v.2) else fw1 p t (i + 1) (l.drop (i + 1)) := by
      rw [J, drop_get e2]
      rfl
    refine sx_one (s1_if (k := !decide (betF p t v.2 v.2 = 0)) (db_neI (de_ok (ok_between_by T) hr (by decide) rfl (by walk_at "da") (PotEq.refl _) ⟨p, t, v.2, v.2, n, n, rfl, ⟨hp, hR.tab, hrow.2, hrow.2, by omega, by omega, by rw [hrow.1]; omega⟩, rfl, rfl⟩) de_int) (fun k => ?_) fun k => sx_nil ⟨by walk_at "wk", rfl, ?_⟩)
    · have hne : betF p t v.2 v.2 ≠ 0 := by simpa using k
      rw [if_pos hne] at J'
      refine sx_one (s1_ret (by walk_at "de") ⟨?_, rfl⟩)
      unfold fwF
      rw [J', e1]
      rfl
    · have h0 : betF p t v.2 v.2 = 0 := by simpa using k
      rw [if_neg (fun k => k h0)] at J'
      exact J'
  · have h1 : fw1 p t 0 l = none := by
      rw [J, xl, List.drop_length]
      rfl
    have hd : fwF p t l = fw2 p t 0 l := by
      unfold fwF
      rw [h1]
    rw [hd]
    show SX _ _ [.dat (.int p), .dat (tT t), .dat (.lst (l.map tI)), .no, .no, .no] _ _
    refine sx_forJ (fun _ => [.dat (.int p), .dat (tT t), .dat (.lst (l.map tI)), .no, .no, .no]) (fun i => fw2 p t 0 l = fw2 p t i (l.drop i)) (ds_enumR (by walk_at "de") rfl T.b_enumerate) (tm_two (φ := fun v : Int × List Int => .int v.1) (ψ := fun v => tI v.2))
      (tg_pair rfl sc_first_worthy.nd (j := 3) (k := 4) rfl (.inl rfl) rfl (.inl rfl)) (by walk_at "wk") rfl (fun i v hv J => ?_) (fun J => ?_) (ps_for PassesOwn.never rfl WI.pi WG.pg WS.ps)
    · show SX _ _ [.dat (.int p), .dat (tT t), .dat (.lst (l.map tI)), .dat (.int v.1), .dat (tI v.2), .no] _ _
      obtain ⟨e1, e2⟩ := en_get hv
      have hrow := hR.rows _ (List.mem_of_getElem? e2)
      have J' : fw2 p t 0 l = match (l.drop (i + 1)).find? (fun o => betF p t v.2 o != 0) with
          | some o => some (i, addF p v.2 o 1)
          | none => fw2 p t (i + 1) (l.drop (i + 1)) := by
        rw [J, drop_get e2]
        rfl
      refine sx_forJ (fun _ => [.dat (.int p), .dat (tT t), .dat (.lst (l.map tI)), .dat (.int v.1), .dat (tI v.2), .no]) (fun m => (l.drop (i + 1)).find? (fun o => betF p t v.2 o != 0) = ((l.drop (i + 1)).drop m).find? (fun o => betF p t v.2 o != 0))
        (ds_list (ds := (l.drop (i + 1)).map tI) (DN.cast (dn_sl (DE.lst (ds := l.map tI) (by walk_at "de")) (doe_some (i := ((i + 1 : Nat) : Int)) (DE.cast (d := .int (v.1 + 1)) (by walk_at "de") (by rw [e1]; rfl))) doe_none) (by rw [cut_from, List.map_drop])).dat) tm_one
        (tg_name sc_first_worthy.nd (j := 5) rfl (.inl rfl)) (by walk_at "wk") rfl (fun m o ho Jm => ?_) (fun Jm => ?_) (ps_for PassesOwn.never rfl WI.pi WG.pg WS.ps)
      · show SX _ _ [.dat (.int p), .dat (tT t), .dat (.lst (l.map tI)), .dat (.int v.1), .dat (tI v.2), .dat (tI o)] _ _
        have horow := hR.rows _ (List.mem_of_mem_drop (List.mem_of_getElem? ho))
        rw [drop_get ho, List.find?_cons] at Jm
        refine sx_one (s1_if (k := !decide (betF p t v.2 o = 0)) (db_neI (de_ok (ok_between_by T) hr (by decide) rfl (by walk_at "da") (PotEq.refl _) ⟨p, t, v.2, o, n, n, rfl, ⟨hp, hR.tab, hrow.2, horow.2, by omega, by omega, by rw [hrow.1]; omega⟩, rfl, rfl⟩) de_int) (fun k => ?_) fun k => sx_nil ⟨by walk_at "wk", rfl, ?_⟩)
        · have hne : (betF p t v.2 o != 0) = true := by simpa using k
          rw [hne] at Jm
          rw [Jm] at J'
          refine sx_one (s1_ret (de_tupX (da_cons (by walk_at "de") (da_cons (de_ok (ok_sum_of T) hr (by decide) rfl (by walk_at "da") (PotEq.refl _) ⟨p, v.2, o, 1, rfl, ⟨hp, hrow.2, horow.2, by rw [hrow.1]; omega, by decide, by decide⟩, rfl, rfl⟩) da_nil)) (Nat.le_of_ble_eq_true rfl)) ⟨?_, rfl⟩)
          rw [J', e1]
          rfl
        · have h0 : (betF p t v.2 o != 0) = false := by simpa using k
          rw [h0] at Jm
          exact Jm
      · have hf : (l.drop (i + 1)).find? (fun o => betF p t v.2 o != 0) = none := by
          rw [Jm, List.drop_length]
          rfl
        rw [hf] at J'
        exact sx_nil ⟨by walk_at "wk", rfl, J'⟩
    · have h2 : fw2 p t 0 l = none := by
        rw [J, xl, List.drop_length]
        rfl
      rw [h2]
      exact sx_one (s1_ret de_non ⟨rfl, rfl⟩)
end

end K88

set_option Elab.async false
set_option linter.all false
set_option autoImplicit false
set_option maxRecDepth 100000
set_option maxHeartbeats 400000
namespace K88
open PySem PySem.Spec PyProof.Rows L2 RZ Ab
local macro_rules | `(tactic| walk_at "has") => `(tactic| first | exact Has.here | (apply Has.there; walk_at "has"))
local macro_rules | `(tactic| walk_at "ata") => `(tactic| first | exact At.here | (apply At.there; walk_at "ata"))
local macro_rules | `(tactic| walk_at "put") => `(tactic| first | exact Put.here | (apply Put.there; walk_at "put"))
local macro_rules | `(tactic| walk_at "puta") => `(tactic| first | exact PutA.here | (apply PutA.there; walk_at "puta"))
local macro_rules | `(tactic| walk_at "wk") => `(tactic| first | exact Wk.nil | (apply Wk.same; walk_at "wk") | (apply Wk.no; walk_at "wk"))
local macro_rules | `(tactic| walk_at "side") => `(tactic| first | assumption | omega | decide)
local macro_rules | `(tactic| walk_at "de") => `(tactic| first
  | assumption
  | exact de_int
  | exact de_non
  | exact de_bl
  | exact de_str
  | (refine' de_name rfl ?hz; (case hz => walk_at "has"))
  | (refine' de_mod ?d1 ?d2 ?d3; (case d1 => walk_at "de"); (case d2 => walk_at "de"); (case d3 => walk_at "side"))
  | (refine' de_add ?d1 ?d2; (case d1 => walk_at "de"); (case d2 => walk_at "de"))
  | (refine' de_sub ?d1 ?d2; (case d1 => walk_at "de"); (case d2 => walk_at "de"))
  | (refine' de_mul ?d1 ?d2 ?d3; (case d1 => walk_at "de"); (case d2 => walk_at "de"); (case d3 => first | assumption | (refine mulW1 ?_ ?_ <;> omega)))
  | (refine' de_fdiv ?d1 ?d2 ?d3; (case d1 => walk_at "de"); (case d2 => walk_at "de"); (case d3 => exact divW (by omega)))
  | (refine' de_tupX ?d1 ?d2; (case d1 => walk_at "da"); (case d2 => exact Nat.le_of_ble_eq_true rfl))
  )
local macro_rules | `(tactic| walk_at "da") => `(tactic| first | exact da_nil | (refine' da_cons ?a1 ?a2; (case a1 => walk_at "de"); (case a2 => walk_at "da")))
local macro_rules | `(tactic| walk_at "db") => `(tactic| first
  | assumption
  | (refine' db_eqI ?d1 ?d2; (case d1 => walk_at "de"); (case d2 => walk_at "de"))
  | (refine' db_neI ?d1 ?d2; (case d1 => walk_at "de"); (case d2 => walk_at "de"))
  | (refine' db_lt ?d1 ?d2; (case d1 => walk_at "de"); (case d2 => walk_at "de"))
  | (refine' db_gt ?d1 ?d2; (case d1 => walk_at "de"); (case d2 => walk_at "de"))
  | (refine' db_le ?d1 ?d2; (case d1 => walk_at "de"); (case d2 => walk_at "de"))
  | (refine' db_ge ?d1 ?d2; (case d1 => walk_at "de"); (case d2 => walk_at "de"))
  | (refine' db_not ?d1; (case d1 => walk_at "db"))
  )
section
variable {P : Program} {w : World} {K : PySem.W.Frag} {mg : Str → Option Value} {base : Heap}
open Rk
def pT (p : Int) (t : List (List Int)) (n : Nat) : Prop := Pr p ∧ Tab p n n t ∧ n ≤ 6
def r_squares_of : Sig := fun ds S d S' => ∃ (p : Int) (t : List (List Int)) (n : Nat), ds = [.int p, tT t] ∧ pT p t n ∧ d = .tup [tT (squaresF p t).1, lI (squaresF p t).2] ∧ S' = S
/-- the state of the loop -/
abbrev SqS := List (List Int) × List (List Int) × List Int
abbrev sqD (p : Int) (t : List (List Int)) (a : SqS) : List Sl := [.dat (.int p), .dat (tT t), .dat (.lst (a.1.map tI)), .own (a.2.1.map tI), .own (a.2.2.map .int), .dat (opD (fwF p t a.1)), .no, .no, .no, .no, .no, .no]
def sqI (p : Int) (t : List (List Int)) (n : Nat) (a : SqS) : Prop := (∀ r, r ∈ a.1 → Row p n r) ∧ a.1.length + a.2.1.length ≤ 6 ∧ a.2.2.length = a.2.1.length ∧ squaresF p t = sqF p t a.1.length a.1 a.2.1 a.2.2
theorem opD_isNon {q : Option (Nat × List Int)} : isNon (opD q) = q.isNone := by cases q <;> rfl
theorem ok_squares_of (T : Fx K mg) : Ok P w K mg base "squares_of" 6 r_squares_of := by
  refine ok_of T.g_squares_of T.f_squares_of sc_squares_of (fun _ _ _ _ _ _ us hl => match us, hl with | [_, _], _ => rfl) (fun ds S d S' ⟨_, _, _, h, _⟩ => by rw [h]; rfl) ?_
  rintro f cdv A outer s H E hr ds S d S' eq ⟨p, t, n, rfl, ⟨hp, ht, hn⟩, rfl, rfl⟩
  have hb := hp.b
  have hid := idF_tab (p := p) (n := t.length) (by omega)
  have htl := ht.1
  rw [htl] at hid
  show SX _ _ [.dat (.int p), .dat (tT t), .no, .no, .no, .no, .no, .no, .no, .no, .no, .no] S' _
  refine sx_cons (p_par3 (s := .dat (.lst ((idF n).map tI))) (t := .own []) (w := .own []) rfl rfl sc_squares_of.nd (dv_dat (DN.dat (dn_list (t := true) (ds := (idF n).map tI) (DE.tup (de_ok (ok_idle_of T) hr (by decide) rfl (da_cons (DE.cast (d' := .int (n : Nat)) (de_len (DE.tup (ds := t.map tI) (by walk_at "de")) (by rfl) T.b_len) (by rw [List.length_map, htl])) da_nil) (PotEq.refl _) ⟨n, rfl, by omega, rfl, rfl⟩)) (by rfl) T.b_list)) (dv_own (dn_lst da_nil) (dv_own (dn_lst da_nil) dv_nil))) (by walk_at "puta") (by walk_at "puta") (by walk_at "puta") ?_ (by decide) (by decide) (by decide) rfl rfl rfl (by rfl))
  show SX _ _ [.dat (.int p), .dat (tT t), .dat (.lst ((idF n).map tI)), .own [], .own [], .no, .no, .no, .no, .no, .no, .no] S' _
  refine sx_cons (p_set rfl sc_squares_of.nd (de_ok (ok_first_worthy T) hr (by decide) rfl (by walk_at "da") (PotEq.refl _) ⟨p, t, idF n, n, rfl, ⟨hp, ht, hid.2, hn, by rw [hid.1]; exact hn⟩, rfl, rfl⟩) (by walk_at "put") ?_)
  refine sx_while (sqD p t) (sqI p t n) (fun a => a.1.length) (idF n, [], []) (by walk_at "wk") ⟨hid.2, by show (idF n).length + 0 ≤ 6; rw [hid.1]; omega, rfl, by unfold squaresF; rw [htl, hid.1]⟩ (fun a hI => ?_) (ps_while PassesOwn.never WT.pt WS.ps)
  obtain ⟨l, f, ns⟩ := a
  obtain ⟨h1, h2, h3, h4⟩ := hI
  have h2 : l.length + f.length ≤ 6 := h2
  have h3 : ns.length = f.length := h3
  refine ⟨(fwF p t l).isSome, ?_, fun hk => ?_, fun hk => ?_⟩
  · show DB _ _ [.dat (.int p), .dat (tT t), .dat (.lst (l.map tI)), .own (f.map tI), .own (ns.map .int), .dat (opD (fwF p t l)), .no, .no, .no, .no, .no, .no] _ _ _
    refine DB.cast (db_notN (d := opD (fwF p t l)) (by walk_at "de")) ?_
    rw [opD_isNon]
    cases fwF p t l <;> rfl
  · cases hf : fwF p t l with
    | none =>
      rw [hf] at hk
      cases hk
    | some q =>
      obtain ⟨k, r⟩ := q
      obtain ⟨hkl, hrow⟩ := fwF_row (by omega) h1 hf
      have hkl : k < l.length := hkl
      show SX _ _ [.dat (.int p), .dat (tT t), .dat (.lst (l.map tI)), .own (f.map tI), .own (ns.map .int), .dat (opD (fwF p t l)), .no, .no, .no, .no, .no, .no] S' _
      rw [hf]
      have wb := bet_b (t := t) (x := r) (y := r) (show (0 : Int) < p by omega)
      refine sx_cons (p_tup2 (d1 := .int (k : Nat)) (d2 := tI r) rfl rfl sc_squares_of.nd (by walk_at "de") (by walk_at "put") (by walk_at "put") ?_)
      refine sx_cons (p_set rfl sc_squares_of.nd (de_ok (ok_between_by T) hr (by decide) rfl (by walk_at "da") (PotEq.refl _) ⟨p, t, r, r, n, n, rfl, ⟨hp, ht, hrow.2, hrow.2, by omega, by omega, by rw [hrow.1]; omega⟩, rfl, rfl⟩) (by walk_at "put") ?_)
      refine sx_cons (p_set rfl sc_squares_of.nd (de_ok (ok_undone_of T) hr (by decide) rfl (by walk_at "da") (PotEq.refl _) ⟨p, betF p t r r, rfl, ⟨hp, wb.1, wb.2⟩, rfl, rfl⟩) (by walk_at "put") ?_)
      refine sx_cons (p_set rfl sc_squares_of.nd (d := .lst ((l.take k ++ l.drop (k + 1)).map tI)) (DN.cast (dn_catQ (ds := (l.take k).map tI) (es := (l.drop (k + 1)).map tI) (DN.seq (DN.cast (dn_sl (DE.lst (ds := l.map tI) (by walk_at "de")) doe_none (doe_some (i := (k : Nat)) (by walk_at "de"))) (by rw [cut_to, List.map_take]))) (DN.seq (DN.cast (dn_sl (DE.lst (ds := l.map tI) (by walk_at "de")) (doe_some (i := ((k + 1 : Nat) : Int)) (DE.cast (d := .int ((k : Nat) + 1)) (by walk_at "de") rfl)) doe_none) (by rw [cut_from, List.map_drop]))) (by simp only [List.length_map, List.length_take, List.length_drop]; omega)) (by rw [List.map_append])).dat (by walk_at "put") ?_)
      have ub := powN_b (p := p) (n := betF p t r r) (by omega) (p - 2).toNat
      refine sx_cons (p_lc rfl sc_squares_of.nd (lc_nameM (xs := l.take k ++ l.drop (k + 1)) (φ := tI) (g := fun o => tI (addF p o r ((0 - betF p t o r * undone p (betF p t r r)) % p))) (ds_list (ds := (l.take k ++ l.drop (k + 1)).map tI) (by walk_at "de")).c sc_squares_of.nd (j := 11) rfl (by simp only [List.length_append, List.length_take, List.length_drop]; omega) ?_) (own := [("one", 11)]) (by walk_at "put") ?_ rfl rfl rfl (blkOk_by (N := N_squares_of) (sc := defScope (topS 55)) (by decide +kernel)))
      · intro s2 H2 C2 cl2 fp2 o ho
        show DE _ _ [.dat (.int p), .dat (tT t), .dat (.lst (l.map tI)), .own (f.map tI), .own (ns.map .int), .dat (opD (some (k, r))), .dat (.int (k : Nat)), .dat (tI r), .dat (.int (betF p t r r)), .dat (.int (undone p (betF p t r r))), .dat (.lst ((l.take k ++ l.drop (k + 1)).map tI)), .dat (tI o)] _ _ _
        have hol : o ∈ l := by
          rcases List.mem_append.mp ho with h | h
          · exact List.mem_of_mem_take h
          · exact List.mem_of_mem_drop h
        have horow := h1 o hol
        have ob := bet_b (t := t) (x := o) (y := r) (show (0 : Int) < p by omega)
        have hm : CMulW (betF p t o r) (undone p (betF p t r r)) := rest_mul hp ub ob
        have mb := emod_b (p := p) (x := 0 - betF p t o r * undone p (betF p t r r)) (by omega)
        exact de_ok (X := blk _ _ s2 H2 C2 cl2 fp2) (ok_sum_of T) hr (by decide) rfl (da_cons (by walk_at "de") (da_cons (by walk_at "de") (da_cons (by walk_at "de") (da_cons (de_mod (de_sub de_int (de_mul (de_ok (X := blk _ _ s2 H2 C2 cl2 fp2) (ok_between_by T) hr (by decide) rfl (by walk_at "da") (PotEq.refl _) ⟨p, t, o, r, n, n, rfl, ⟨hp, ht, horow.2, hrow.2, by omega, by omega, by rw [horow.1]; omega⟩, rfl, rfl⟩) (by walk_at "de") hm)) (by walk_at "de") (by omega)) da_nil)))) (PotEq.refl _) ⟨p, o, r, _, rfl, ⟨hp, horow.2, hrow.2, by rw [horow.1]; omega, by omega, by omega⟩, rfl, rfl⟩
      · show SX _ _ [.dat (.int p), .dat (tT t), .dat (.lst ((l.take k ++ l.drop (k + 1)).map fun o => tI (addF p o r ((0 - betF p t o r * undone p (betF p t r r)) % p)))), .own (f.map tI), .own (ns.map .int), .dat (opD (some (k, r))), .dat (.int (k : Nat)), .dat (tI r), .dat (.int (betF p t r r)), .dat (.int (undone p (betF p t r r))), .dat (.lst ((l.take k ++ l.drop (k + 1)).map tI)), .no] S' _
        rw [show ((l.take k ++ l.drop (k + 1)).map fun o => tI (addF p o r ((0 - betF p t o r * undone p (betF p t r r)) % p))) = (restF p t l k r).map tI from map_comp (f := fun o => addF p o r ((0 - betF p t o r * undone p (betF p t r r)) % p)) (φ := tI)]
        have rl : (restF p t l k r).length = l.length - 1 := restF_len hkl
        have rr := restF_rows (t := t) (k := k) (show (0 : Int) < p by omega) h1 hrow
        refine sx_cons (p_app rfl (by walk_at "ata") (by walk_at "de") (by rw [List.length_map]; omega) (by walk_at "puta") ?_)
        refine sx_cons (p_app rfl (by walk_at "ata") (by walk_at "de") (by rw [List.length_map]; omega) (by walk_at "puta") ?_)
        refine sx_one (p_set rfl sc_squares_of.nd (de_ok (ok_first_worthy T) hr (by decide) rfl (by walk_at "da") (PotEq.refl _) ⟨p, t, restF p t l k r, n, rfl, ⟨hp, ht, rr, hn, by omega⟩, rfl, rfl⟩) (by walk_at "put") ⟨rfl, (restF p t l k r, f ++ [r], ns ++ [betF p t r r]), ?_, ⟨rr, ?_, ?_, ?_⟩, ?_⟩)
        · show (restF p t l k r).length < l.length
          omega
        · show (restF p t l k r).length + (f ++ [r]).length ≤ 6
          rw [List.length_append, List.length_singleton]
          omega
        · show (ns ++ [betF p t r r]).length = (f ++ [r]).length
          rw [List.length_append, List.length_append, h3]
          rfl
        · rw [h4]
          exact sqF_some hkl hf
        · show Wk _ [.dat (.int p), .dat (tT t), .dat (.lst ((restF p t l k r).map tI)), .own ((f ++ [r]).map tI), .own ((ns ++ [betF p t r r]).map .int), .dat (opD (fwF p t (restF p t l k r))), .no, .no, .no, .no, .no, .no]
          rw [show (f ++ [r]).map tI = f.map tI ++ [tI r] by rw [List.map_append]; rfl, show (ns ++ [betF p t r r]).map D.int = ns.map D.int ++ [.int (betF p t r r)] by rw [List.map_append]; rfl]
          walk_at "wk"
  · have hf : fwF p t l = none := by
      cases h : fwF p t l with
      | none => rfl
      | some q =>
        rw [h] at hk
        cases hk
    show SX _ _ [.dat (.int p), .dat (tT t), .dat (.lst (l.map tI)), .own (f.map tI), .own (ns.map .int), .dat (opD (fwF p t l)), .no, .no, .no, .no, .no, .no] S' _
    have hs : squaresF p t = (f ++ l, ns ++ List.replicate l.length 0) := h4.trans (sqF_none hf)
    rw [hs]
    refine sx_one (s1_ret (DE.cast (de_tupX (da_cons (de_tupL (DN.seq (dn_catQ (ds := f.map tI) (es := l.map tI) (dq_own rfl (by walk_at "has")) (DE.lst (ds := l.map tI) (by walk_at "de")) (by rw [List.length_map, List.length_map]; omega))) (by rfl) T.b_tuple) (da_cons (DN.dat (dn_catQ (ds := ns.map .int) (dq_own rfl (by walk_at "has")) (DN.seq (dn_rep (ds := [.int 0]) (k := l.length) (DN.stand (dn_lst (da_cons de_int da_nil))) (DE.cast (de_len (DE.lst (ds := l.map tI) (by walk_at "de")) (by rfl) T.b_len) (by rw [List.length_map])) (by rw [Int.toNat_natCast]; show 1 * l.length ≤ 100000; omega) (by omega))) ?_)) da_nil)) (Nat.le_of_ble_eq_true rfl)) ?_) ⟨rfl, rfl⟩)
    · rw [List.length_map, Int.toNat_natCast]
      have : (List.replicate l.length [D.int 0]).flatten.length = l.length := by simp
      omega
    · rw [Int.toNat_natCast]
      have e : (List.replicate l.length [D.int 0]).flatten = (List.replicate l.length (0 : Int)).map D.int := by simp
      rw [e, ← List.map_append, ← List.map_append]
end

end K88

set_option Elab.async false
set_option linter.all false
set_option autoImplicit false
set_option maxRecDepth 100000
set_option maxHeartbeats 400000
namespace K88
open PySem PySem.Spec PyProof.Rows L2 RZ Ab
local macro_rules | `(tactic| walk_at "has") => `(tactic| first | exact Has.here | (apply Has.there; walk_at "has"))
local macro_rules | `(tactic| walk_at "ata") => `(tactic| first | exact At.here | (apply At.there; walk_at "ata"))
local macro_rules | `(tactic| walk_at "put") => `(tactic| first | exact Put.here | (apply Put.there; walk_at "put"))
local macro_rules | `(tactic| walk_at "puta") => `(tactic| first | exact PutA.here | (apply PutA.there; walk_at "puta"))
local macro_rules | `(tactic| walk_at "wk") => `(tactic| first | exact Wk.nil | (apply Wk.same; walk_at "wk") | (apply Wk.no; walk_at "wk"))
local macro_rules | `(tactic| walk_at "side") => `(tactic| first | assumption | omega | decide)
local macro_rules | `(tactic| walk_at "de") => `(tactic| first
  | assumption
  | exact de_int
  | exact de_non
  | exact de_bl
  | exact de_str
  | (refine' de_name rfl ?hz; (case hz => walk_at "has"))
  | (refine' de_mod ?d1 ?d2 ?d3; (case d1 => walk_at "de"); (case d2 => walk_at "de"); (case d3 => walk_at "side"))
  | (refine' de_add ?d1 ?d2; (case d1 => walk_at "de"); (case d2 => walk_at "de"))
  | (refine' de_sub ?d1 ?d2; (case d1 => walk_at "de"); (case d2 => walk_at "de"))
  | (refine' de_mul ?d1 ?d2 ?d3; (case d1 => walk_at "de"); (case d2 => walk_at "de"); (case d3 => first | assumption | (refine mulW1 ?_ ?_ <;> omega)))
  | (refine' de_fdiv ?d1 ?d2 ?d3; (case d1 => walk_at "de"); (case d2 => walk_at "de"); (case d3 => exact divW (by omega)))
  | (refine' de_tupX ?d1 ?d2; (case d1 => walk_at "da"); (case d2 => exact Nat.le_of_ble_eq_true rfl))
  )
local macro_rules | `(tactic| walk_at "da") => `(tactic| first | exact da_nil | (refine' da_cons ?a1 ?a2; (case a1 => walk_at "de"); (case a2 => walk_at "da")))
local macro_rules | `(tactic| walk_at "db") => `(tactic| first
  | assumption
  | (refine' db_eqI ?d1 ?d2; (case d1 => walk_at "de"); (case d2 => walk_at "de"))
  | (refine' db_neI ?d1 ?d2; (case d1 => walk_at "de"); (case d2 => walk_at "de"))
  | (refine' db_lt ?d1 ?d2; (case d1 => walk_at "de"); (case d2 => walk_at "de"))
  | (refine' db_gt ?d1 ?d2; (case d1 => walk_at "de"); (case d2 => walk_at "de"))
  | (refine' db_le ?d1 ?d2; (case d1 => walk_at "de"); (case d2 => walk_at "de"))
  | (refine' db_ge ?d1 ?d2; (case d1 => walk_at "de"); (case d2 => walk_at "de"))
  | (refine' db_not ?d1; (case d1 => walk_at "db"))
  )
section
variable {P : Program} {w : World} {K : PySem.W.Frag} {mg : Str → Option Value} {base : Heap}
open Rk
abbrev kdD (k : Rk.Kind) : D := .tup [.int k.1, .int k.2.1, .int k.2.2]
def r_kind_in : Sig := fun ds S d S' => ∃ (p : Int) (t : List (List Int)) (n : Nat), ds = [.int p, tT t] ∧ pT p t n ∧ d = kdD (kindF p t) ∧ S' = S
def sgN (p : Int) (ns : List Int) (i : Nat) : Int := signsF p (ns.take i)
theorem sgN_succ {p : Int} {ns : List Int} {i : Nat} {x : Int} (h : ns[i]? = some x) : sgN p ns (i + 1) = sgN p ns i * signF p x := by
  unfold sgN signsF
  rw [List.take_add_one, h, List.foldl_append]
  rfl
theorem ok_kind_in (T : Fx K mg) : Ok P w K mg base "kind_in" 7 r_kind_in := by
  refine ok_of T.g_kind_in T.f_kind_in sc_kind_in (fun _ _ _ _ _ _ us hl => match us, hl with | [_, _], _ => rfl) (fun ds S d S' ⟨_, _, _, h, _⟩ => by rw [h]; rfl) ?_
  rintro f cdv A outer s H E hr ds S d S' eq ⟨p, t, n, rfl, ⟨hp, ht, hn⟩, rfl, rfl⟩
  have hb := hp.b
  have htl := ht.1
  have hw := worths_b (p := p) (t := t) (by omega)
  have hrk := rank_le (p := p) (t := t) (by omega)
  show SX _ _ [.dat (.int p), .dat (tT t), .no, .no, .no, .no] S' _
  refine sx_cons (p_lc rfl sc_kind_in.nd (lc_name (xs := (squaresF p t).2) (φ := .int) (g := .int) (bt := fun r => !decide (r = 0)) (ds_list (ds := (squaresF p t).2.map .int) (de_ix (t := true) (ds := [tT (squaresF p t).1, lI (squaresF p t).2]) (i := 1) (DE.tup (de_ok (ok_squares_of T) hr (by decide) rfl (by walk_at "da") (PotEq.refl _) ⟨p, t, n, rfl, ⟨hp, ht, hn⟩, rfl, rfl⟩)) de_int (atI_get (j := 1) rfl))).c sc_kind_in.nd (j := 3) rfl (by rw [squares_len (by omega)]; omega) ?_ ?_) (own := [("rest", 3)]) (by walk_at "put") ?_ rfl rfl rfl (blkOk_by (N := N_kind_in) (sc := defScope (topS 56)) (by decide +kernel)))
  · intro s2 H2 C2 cl2 fp2 v hv
    exact dp_one (DB.dt (db_neI (de_name rfl (by walk_at "has")) de_int))
  · intro s2 H2 C2 cl2 fp2 v hv _
    exact de_name rfl (by walk_at "has")
  · have e : (squaresF p t).2.filter (fun r => !decide (r = 0)) = worthsF p t := by
      unfold worthsF
      congr 1
    rw [e]
    show SX _ _ [.dat (.int p), .dat (tT t), .dat (.lst ((worthsF p t).map .int)), .no, .no, .no] S' _
    refine sx_cons (p_set rfl sc_kind_in.nd (by walk_at "de") (by walk_at "put") ?_)
    refine sx_forT (fun i => [.dat (.int p), .dat (tT t), .dat (.lst ((worthsF p t).map .int)), .no, .dat (.int (sgN p (worthsF p t) i)), .no]) (fun _ => S') (ds_list (ds := (worthsF p t).map .int) (by walk_at "de")) tm_one
      (tg_name sc_kind_in.nd (j := 5) rfl (.inl rfl)) (by walk_at "wk") (fun i x hx _ => ?_) (fun _ => ?_) (ps_for PassesOwn.never rfl WI.pi WG.pg WS.ps)
    · show SX _ _ [.dat (.int p), .dat (tT t), .dat (.lst ((worthsF p t).map .int)), .no, .dat (.int (sgN p (worthsF p t) i)), .dat (.int x)] _ _
      have hxb := hw x (List.mem_of_getElem? hx)
      have s1 : sgN p (worthsF p t) i = 0 ∨ sgN p (worthsF p t) i = 1 ∨ sgN p (worthsF p t) i = -1 := signs_b
      have s2 := signF_b (p := p) (r := x)
      refine sx_one (p_set rfl sc_kind_in.nd (de_mul (by walk_at "de") (de_ok (ok_sign_of T) hr (by decide) rfl (by walk_at "da") (PotEq.refl _) ⟨p, x, rfl, ⟨hp, hxb.1, hxb.2⟩, rfl, rfl⟩) (mulW1 (by omega) (by omega))) (by walk_at "put") ⟨?_, rfl⟩)
      show Wk _ [.dat (.int p), .dat (tT t), .dat (.lst ((worthsF p t).map .int)), .no, .dat (.int (sgN p (worthsF p t) (i + 1))), .no]
      rw [sgN_succ hx]
      walk_at "wk"
    · show SX _ _ [.dat (.int p), .dat (tT t), .dat (.lst ((worthsF p t).map .int)), .no, .dat (.int (sgN p (worthsF p t) (worthsF p t).length)), .no] _ _
      have e2 : sgN p (worthsF p t) (worthsF p t).length = signsF p (worthsF p t) := by rw [sgN, List.take_length]
      rw [e2]
      exact sx_one (s1_ret (de_tupX (da_cons (DE.cast (d' := .int t.length) (de_len (DE.tup (ds := t.map tI) (by walk_at "de")) (by rfl) T.b_len) (by rw [List.length_map])) (da_cons (DE.cast (d' := .int (worthsF p t).length) (de_len (DE.lst (ds := (worthsF p t).map .int) (by walk_at "de")) (by rfl) T.b_len) (by rw [List.length_map])) (da_cons (by walk_at "de") da_nil))) (Nat.le_of_ble_eq_true rfl)) ⟨rfl, rfl⟩)
def r_told_last : Sig := fun ds S d S' => ∃ (p s : Int), ds = [.int p, .int s] ∧ Pr p ∧ d = .int (lastF p s) ∧ S' = S
/-- a kind that a room may have -/
def kOk (k : Rk.Kind) : Prop := 0 ≤ k.2.1 ∧ k.2.1 ≤ k.1 ∧ k.1 ≤ 6
theorem full_len {p : Int} {k : Rk.Kind} (h : kOk k) : (fullF p k).length = k.1.toNat := by
  obtain ⟨h1, h2, h3⟩ := h
  unfold fullF
  by_cases q : k.2.1 > 0
  · rw [if_pos q]
    simp only [List.length_append, List.length_replicate, List.length_singleton]
    omega
  · rw [if_neg q]
    simp only [List.length_append, List.length_replicate, List.length_nil]
    omega
def r_plain_rows : Sig := fun ds S d S' => ∃ (p : Int) (k : Rk.Kind), ds = [.int p, kdD k] ∧ (Pr p ∧ kOk k) ∧ d = tT (plainF p k) ∧ S' = S
theorem rep_ints {x : Int} {n : Nat} : (List.replicate n [D.int x]).flatten = (List.replicate n x).map D.int := by simp
end

end K88

set_option Elab.async false
set_option linter.all false
set_option autoImplicit false
set_option maxRecDepth 100000
set_option maxHeartbeats 400000
namespace K88
open PySem PySem.Spec PyProof.Rows L2 RZ Ab
local macro_rules | `(tactic| walk_at "has") => `(tactic| first | exact Has.here | (apply Has.there; walk_at "has"))
local macro_rules | `(tactic| walk_at "ata") => `(tactic| first | exact At.here | (apply At.there; walk_at "ata"))
local macro_rules | `(tactic| walk_at "put") => `(tactic| first | exact Put.here | (apply Put.there; walk_at "put"))
local macro_rules | `(tactic| walk_at "puta") => `(tactic| first | exact PutA.here | (apply PutA.there; walk_at "puta"))
local macro_rules | `(tactic| walk_at "wk") => `(tactic| first | exact Wk.nil | (apply Wk.same; walk_at "wk") | (apply Wk.no; walk_at "wk"))
local macro_rules | `(tactic| walk_at "side") => `(tactic| first | assumption | omega | decide)
local macro_rules | `(tactic| walk_at "de") => `(tactic| first
  | assumption
  | exact de_int
  | exact de_non
  | exact de_bl
  | exact de_str
  | (refine' de_name rfl ?hz; (case hz => walk_at "has"))
  | (refine' de_mod ?d1 ?d2 ?d3; (case d1 => walk_at "de"); (case d2 => walk_at "de"); (case d3 => walk_at "side"))
  | (refine' de_add ?d1 ?d2; (case d1 => walk_at "de"); (case d2 => walk_at "de"))
  | (refine' de_sub ?d1 ?d2; (case d1 => walk_at "de"); (case d2 => walk_at "de"))
  | (refine' de_mul ?d1 ?d2 ?d3; (case d1 => walk_at "de"); (case d2 => walk_at "de"); (case d3 => first | assumption | (refine mulW1 ?_ ?_ <;> omega)))
  | (refine' de_fdiv ?d1 ?d2 ?d3; (case d1 => walk_at "de"); (case d2 => walk_at "de"); (case d3 => exact divW (by omega)))
  | (refine' de_tupX ?d1 ?d2; (case d1 => walk_at "da"); (case d2 => exact Nat.le_of_ble_eq_true rfl))
  )
local macro_rules | `(tactic| walk_at "da") => `(tactic| first | exact da_nil | (refine' da_cons ?a1 ?a2; (case a1 => walk_at "de"); (case a2 => walk_at "da")))
local macro_rules | `(tactic| walk_at "db") => `(tactic| first
  | assumption
  | (refine' db_eqI ?d1 ?d2; (case d1 => walk_at "de"); (case d2 => walk_at "de"))
  | (refine' db_neI ?d1 ?d2; (case d1 => walk_at "de"); (case d2 => walk_at "de"))
  | (refine' db_lt ?d1 ?d2; (case d1 => walk_at "de"); (case d2 => walk_at "de"))
  | (refine' db_gt ?d1 ?d2; (case d1 => walk_at "de"); (case d2 => walk_at "de"))
  | (refine' db_le ?d1 ?d2; (case d1 => walk_at "de"); (case d2 => walk_at "de"))
  | (refine' db_ge ?d1 ?d2; (case d1 => walk_at "de"); (case d2 => walk_at "de"))
  | (refine' db_not ?d1; (case d1 => walk_at "db"))
  )
section
variable {P : Program} {w : World} {K : PySem.W.Frag} {mg : Str → Option Value} {base : Heap}
open Rk
theorem kindF_ok {p : Int} {t : List (List Int)} {n : Nat} (h : pT p t n) : kOk (kindF p t) := by
  have hb := h.1.b
  have := rank_le (p := p) (t := t) (by omega)
  have := h.2.1.1
  have := h.2.2
  refine ⟨?_, ?_, ?_⟩
  · show (0 : Int) ≤ ((worthsF p t).length : Nat)
    omega
  · show (((worthsF p t).length : Nat) : Int) ≤ (t.length : Nat)
    omega
  · show ((t.length : Nat) : Int) ≤ 6
    omega
def r_kind_of (K : PySem.W.Frag) : Sig := fun ds S d S' => ∃ (p : Int) (t : List (List Int)) (n : Nat), ds = [rmD K p t] ∧ pT p t n ∧ d = kdD (kindF p t) ∧ S' = S
def r_plain_room (K : PySem.W.Frag) : Sig := fun ds S d S' => ∃ (p : Int) (t : List (List Int)) (n : Nat), ds = [rmD K p t] ∧ pT p t n ∧ d = rmD K p (plainF p (kindF p t)) ∧ S' = S
def r_want_like (K : PySem.W.Frag) : Sig := fun ds S d S' => ∃ (p : Int) (t u : List (List Int)), ds = [rmD K p t, rmD K p u] ∧ d = .non ∧ S' = S
theorem de_sz {X : Cx} {Δ : List Sl} {S S1 : PotS} {pos : Pos} {a : Expr} {p : Int} {t : List (List Int)} {j : Nat} (T : Fx X.K X.mg) (hr : Room j X.A) (hj : 2 ≤ j) (h : DE X a Δ S (rmD X.K p t) S1) (hb : attributeBase a "size" X.env (eval a X.env) = eval a X.env := by rfl) : DE X (.Attribute a "size" pos) Δ S (.int t.length) S1 :=
  de_propA (ok_Room_size T) hr hj h T.c_Room T.p_Room_size ⟨p, t, rfl, rfl, rfl⟩ hb
def r_beside (K : PySem.W.Frag) : Sig := fun ds S d S' => ∃ (p : Int) (t u : List (List Int)) (n m : Nat), ds = [rmD K p t, rmD K p u] ∧ (pT p t n ∧ pT p u m ∧ n + m ≤ 6) ∧ d = rmD K p (besideF t u) ∧ S' = S
def offD (K : PySem.W.Frag) (p : Int) : Option (List (List Int)) → D
  | none => .non
  | some v => rmD K p v
def r_taken_off (K : PySem.W.Frag) : Sig := fun ds S d S' => ∃ (p : Int) (t u : List (List Int)) (n m : Nat), ds = [rmD K p t, rmD K p u] ∧ (pT p t n ∧ pT p u m) ∧ d = offD K p (offF p t u) ∧ S' = S
def swap2 {α : Type} : List α → List α
  | [a, b] => [b, a]
  | l => l
def r_are_beside (K : PySem.W.Frag) : Sig := fun ds S d S' => ∃ (p : Int) (t u : List (List Int)), ds = [rmD K p t, rmD K p u] ∧ d = .bl (decide (t.length = u.length)) ∧ S' = S
theorem inj_kd {a b : Rk.Kind} : kdD a = kdD b ↔ a = b := by
  obtain ⟨a1, a2, a3⟩ := a
  obtain ⟨b1, b2, b3⟩ := b
  simp
theorem ok_kd (k : Rk.Kind) : dOk 1 (kdD k) = true := rfl
def r_alike (K : PySem.W.Frag) : Sig := fun ds S d S' => ∃ (p : Int) (t u : List (List Int)) (n m : Nat), ds = [rmD K p t, rmD K p u] ∧ (pT p t n ∧ pT p u m) ∧ d = .bl (decide (kindF p t = kindF p u)) ∧ S' = S
end

end K88

set_option Elab.async false
set_option linter.all false
set_option autoImplicit false
set_option maxRecDepth 100000
set_option maxHeartbeats 400000
namespace K88
open PySem PySem.Spec PyProof.Rows L2 RZ Ab
local macro_rules | `(tactic| walk_at "has") => `(tactic| first | exact Has.here | (apply Has.there; walk_at "has"))
local macro_rules | `(tactic| walk_at "ata") => `(tactic| first | exact At.here | (apply At.there; walk_at "ata"))
local macro_rules | `(tactic| walk_at "put") => `(tactic| first | exact Put.here | (apply Put.there; walk_at "put"))
local macro_rules | `(tactic| walk_at "puta") => `(tactic| first | exact PutA.here | (apply PutA.there; walk_at "puta"))
local macro_rules | `(tactic| walk_at "wk") => `(tactic| first | exact Wk.nil | (apply Wk.same; walk_at "wk") | (apply Wk.no; walk_at "wk"))
local macro_rules | `(tactic| walk_at "side") => `(tactic| first | assumption | omega | decide)
local macro_rules | `(tactic| walk_at "de") => `(tactic| first
  | assumption
  | exact de_int
  | exact de_non
  | exact de_bl
  | exact de_str
  | (refine' de_name rfl ?hz; (case hz => walk_at "has"))
  | (refine' de_mod ?d1 ?d2 ?d3; (case d1 => walk_at "de"); (case d2 => walk_at "de"); (case d3 => walk_at "side"))
  | (refine' de_add ?d1 ?d2; (case d1 => walk_at "de"); (case d2 => walk_at "de"))
  | (refine' de_sub ?d1 ?d2; (case d1 => walk_at "de"); (case d2 => walk_at "de"))
  | (refine' de_mul ?d1 ?d2 ?d3; (case d1 => walk_at "de"); (case d2 => walk_at "de"); (case d3 => first | assumption | (refine mulW1 ?_ ?_ <;> omega)))
  | (refine' de_fdiv ?d1 ?d2 ?d3; (case d1 => walk_at "de"); (case d2 => walk_at "de"); (case d3 => exact divW (by omega)))
  | (refine' de_tupX ?d1 ?d2; (case d1 => walk_at "da"); (case d2 => exact Nat.le_of_ble_eq_true rfl))
  )
local macro_rules | `(tactic| walk_at "da") => `(tactic| first | exact da_nil | (refine' da_cons ?a1 ?a2; (case a1 => walk_at "de"); (case a2 => walk_at "da")))
local macro_rules | `(tactic| walk_at "db") => `(tactic| first
  | assumption
  | (refine' db_eqI ?d1 ?d2; (case d1 => walk_at "de"); (case d2 => walk_at "de"))
  | (refine' db_neI ?d1 ?d2; (case d1 => walk_at "de"); (case d2 => walk_at "de"))
  | (refine' db_lt ?d1 ?d2; (case d1 => walk_at "de"); (case d2 => walk_at "de"))
  | (refine' db_gt ?d1 ?d2; (case d1 => walk_at "de"); (case d2 => walk_at "de"))
  | (refine' db_le ?d1 ?d2; (case d1 => walk_at "de"); (case d2 => walk_at "de"))
  | (refine' db_ge ?d1 ?d2; (case d1 => walk_at "de"); (case d2 => walk_at "de"))
  | (refine' db_not ?d1; (case d1 => walk_at "db"))
  )
section
variable {P : Program} {w : World} {K : PySem.W.Frag} {mg : Str → Option Value} {base : Heap}
open Rk
abbrev ptS (a : Addr) (q : Pot) : PotS := some (a, [q.1, q.2])
theorem pt_eq {a : Addr} {q r : Pot} : PotEq (ptS a q) (ptS a r) := rfl
def r__law_pot : List D → List D → Prop := fun ds out => ∃ ns : List Int, ds = [.lst (ns.map .int), .int 0] ∧ ns.length ≤ 1000 ∧ out = [.int (potF ns).1, .int (potF ns).2]
theorem ok__law_pot (T : Fx K mg) : OkN P w K mg base "_law_pot" 1 r__law_pot := by
  refine okn_of T.g__law_pot T.f__law_pot sc__law_pot (fun _ _ _ _ _ _ us hl => match us, hl with | [_, _], _ => rfl) (fun ds out ⟨_, h, _⟩ => by rw [h]; rfl) ?_
  rintro f cdv A outer s H E hr ds out ⟨ns, rfl, hl, rfl⟩
  show SX _ _ [.dat (.lst (ns.map .int)), .dat (.int 0), .no] none _
  refine sx_cons (p_set rfl sc__law_pot.nd (d := .int (673 * 0 + 487)) (de_add (de_mul de_int (de_name rfl (by walk_at "has")) (mulW1 (by omega) (by omega))) de_int) (by walk_at "put") ?_)
  have fin : ∀ c : Int, potF ns = (if c - 1000000000000000000 > 0 then c - 1000000000000000000 else 0, (c % 2147483549 * 40692 + 541) % 2147483563 + 1) → SX (cxOf CX0 P w K mg base N__law_pot "_law_pot" (defScope (topS 69)) f cdv A outer s H E).nox [(defBody (topS 69)).getD 2 (.Pass ⟨0, 0, 0, 0⟩)] [.dat (.lst (ns.map .int)), .dat (.int 0), .dat (.int c)] none { nx := fun _ _ => False, rt := fun _ _ => False, rn := fun o S' => o = [.int (potF ns).1, .int (potF ns).2] ∧ S' = none } := by
    intro c hc
    have hm : CMulW (c % 2147483549) 40692 := mulW1 (by omega) (by omega)
    refine sx_one (s1_retN (dn_lst (da_cons (de_max (i := 0) (j := c - 10 ^ 18) rfl de_int (de_sub (by walk_at "de") (de_pow (i := 10) (j := 18) de_int de_int ⟨by decide, by decide, by decide⟩)) (by rfl) T.b_max) (da_cons (de_add (de_mod (de_intI (de_add (de_add (de_mul (de_mod (de_intI (by walk_at "de") (by rfl) T.b_int) de_int (by decide)) de_int hm) (de_mul de_int (by walk_at "de") (mulW1 (by omega) (by omega)))) de_int) (by rfl) T.b_int) de_int (by decide)) de_int) da_nil)) (Nat.le_of_ble_eq_true rfl)) ⟨?_, rfl⟩)
    rw [hc]
    show [D.int _, D.int _] = [D.int _, D.int _]
    congr 2
    · congr 1
      omega
  cases ns with
  | nil =>
    refine sx_cons (s1_if (k := decide ((0 : Int) < ((([] : List Int).map D.int).length : Int))) (db_lt (by walk_at "de") (de_len (DE.lst (ds := ([] : List Int).map D.int) (by walk_at "de")) (by rfl) T.b_len)) (fun k => absurd (of_decide_eq_true k) (by decide)) fun _ => sx_nil ?_)
    exact fin 487 rfl
  | cons x ns =>
    refine sx_cons (s1_if (k := decide ((0 : Int) < (((x :: ns).map D.int).length : Int))) (db_lt (by walk_at "de") (de_len (DE.lst (ds := (x :: ns).map D.int) (by walk_at "de")) (by rfl) T.b_len)) (fun _ => ?_) fun k => absurd (of_decide_eq_false k) (by rw [List.length_map, List.length_cons]; omega))
    refine sx_one (p_set rfl sc__law_pot.nd (de_abs (de_ix (t := false) (ds := (x :: ns).map D.int) (i := (0 : Nat)) (DE.lst (by walk_at "de")) (by walk_at "de") (atI_get rfl)) (by rfl) T.b_abs) (by walk_at "put") ?_)
    exact fin _ rfl
def r__law_draw : Sig := fun ds S d S' => ∃ (a : Addr) (q : Pot) (m : Int), ds = [.adr a, .int m] ∧ S = ptS a q ∧ (pOk q ∧ 1 ≤ m ∧ m ≤ 100000) ∧ d = .int (drawF q m).1 ∧ S' = ptS a (drawF q m).2
theorem ok__law_draw (T : Fx K mg) : Ok P w K mg base "_law_draw" 1 r__law_draw := by
  refine ok_of T.g__law_draw T.f__law_draw sc__law_draw (fun _ _ _ _ _ _ us hl => match us, hl with | [_, _], _ => rfl) (fun ds S d S' ⟨_, _, _, h, _⟩ => by rw [h]; rfl) ?_
  rintro f cdv A outer s H E hr ds S d S' eq ⟨a, ⟨c, b⟩, m, rfl, rfl, ⟨hq, hm1, hm2⟩, rfl, rfl⟩
  have hb1 : 0 ≤ b := hq.1
  have hb2 : b ≤ 2147483600 := hq.2
  show SX _ _ [.dat (.adr a), .dat (.int m), .no] (some (a, [c, b])) _
  refine sx_cons (s1_if (k := decide (0 < c)) (db_gt (de_potIx (p := a) (ns := [c, b]) (i := c) (by walk_at "de") de_int (by rfl)) de_int) (fun k => ?_) fun k => sx_nil ?_)
  · have hc : c > 0 := of_decide_eq_true k
    have e : drawF (c, b) m = (c % m, (c / m, b)) := if_pos hc
    rw [e]
    refine sx_cons (p_potTup (p := a) (ns := [c, b]) (j := 0) rfl rfl sc__law_draw.nd (de_divmod (de_potIx (p := a) (ns := [c, b]) (i := c) (by walk_at "de") de_int (by rfl)) (by walk_at "de") ⟨by omega, PyProof.noPylong_of_log2 (Nat.lt_of_lt_of_le (PySem.Flt.log2_lt_of (by decide) (show m.natAbs < 2 ^ 20 by omega)) (by decide))⟩ (by rfl) T.b_divmod) (by walk_at "de") de_int (by show 0 < 2; decide) (by walk_at "put") ?_)
    exact sx_one (s1_ret (by walk_at "de") ⟨rfl, rfl⟩)
  · have hc : ¬ c > 0 := of_decide_eq_false k
    have e : drawF (c, b) m = (((b * 39373 + 541) % 2147483587) * ((b * 39373 + 541) % 2147483587) % 2147483563 / 17 % m, (c, (b * 39373 + 541) % 2147483587)) := if_neg hc
    rw [e]
    refine sx_cons (s1_potSet (p := a) (ns := [c, b]) (j := 1) (de_mod (de_intI (de_add (de_mul (de_potIx (p := a) (ns := [c, b]) (i := b) (by walk_at "de") de_int (by rfl)) de_int (mulW1 (by omega) (by omega))) de_int) (by rfl) T.b_int) de_int (by decide)) (by walk_at "de") de_int (by show 1 < 2; decide) ?_)
    show SX _ _ [.dat (.adr a), .dat (.int m), .no] (some (a, [c, (b * 39373 + 541) % 2147483587])) _
    generalize hg : (b * 39373 + 541) % 2147483587 = g
    have hg1 : 0 ≤ g ∧ g < 2147483587 := by omega
    exact sx_one (s1_ret (de_mod (de_intI (de_fdiv (de_mod (de_intI (de_mul (de_potIx (p := a) (ns := [c, g]) (i := g) (by walk_at "de") de_int (by rfl)) (de_potIx (p := a) (ns := [c, g]) (i := g) (by walk_at "de") de_int (by rfl)) (mulW1 (by omega) (by omega))) (by rfl) T.b_int) de_int (by decide)) de_int (divW (by decide))) (by rfl) T.b_int) (by walk_at "de") (by omega)) ⟨rfl, rfl⟩)
def r__law_pick : Sig := fun ds S d S' => ∃ (a : Addr) (q : Pot) (l : List Int) (x : Int), ds = [.adr a, .lst (l.map .int)] ∧ S = ptS a q ∧ (pOk q ∧ 1 ≤ l.length ∧ l.length ≤ 1000 ∧ l[(drawF q l.length).1.toNat]? = some x) ∧ d = .int x ∧ S' = ptS a (drawF q l.length).2
theorem ok__law_pick (T : Fx K mg) : Ok P w K mg base "_law_pick" 2 r__law_pick := by
  refine ok_of T.g__law_pick T.f__law_pick sc__law_pick (fun _ _ _ _ _ _ us hl => match us, hl with | [_, _], _ => rfl) (fun ds S d S' ⟨_, _, _, _, h, _⟩ => by rw [h]; rfl) ?_
  rintro f cdv A outer s H E hr ds S d S' eq ⟨a, q, l, x, rfl, rfl, ⟨hq, h1, h2, h3⟩, rfl, rfl⟩
  have hd := draw_b (q := q) (m := l.length) (by omega)
  show SX _ _ [.dat (.adr a), .dat (.lst (l.map .int))] _ _
  refine sx_one (s1_ret (de_ix (t := false) (ds := l.map .int) (i := (drawF q l.length).1) (DE.lst (by walk_at "de")) (de_ok (ok__law_draw T) hr (by decide) rfl (da_cons (by walk_at "de") (da_cons (DE.cast (d' := .int l.length) (de_len (DE.lst (ds := l.map .int) (by walk_at "de")) (by rfl) T.b_len) (by rw [List.length_map])) da_nil)) pt_eq ⟨a, q, l.length, rfl, rfl, ⟨hq, by omega, by omega⟩, rfl, rfl⟩) ?_) ⟨rfl, rfl⟩)
  rw [show (drawF q l.length).1 = (((drawF q l.length).1.toNat : Nat) : Int) by omega]
  exact atI_map h3
def r__law_pickD : Sig := fun ds S d S' => ∃ (a : Addr) (q : Pot) (l : List D) (x : D), ds = [.adr a, .lst l] ∧ S = ptS a q ∧ (pOk q ∧ 1 ≤ l.length ∧ l.length ≤ 100000 ∧ l[(drawF q l.length).1.toNat]? = some x) ∧ d = x ∧ S' = ptS a (drawF q l.length).2
theorem ok__law_pickD (T : Fx K mg) : Ok P w K mg base "_law_pick" 2 r__law_pickD := by
  refine ok_of T.g__law_pick T.f__law_pick sc__law_pick (fun _ _ _ _ _ _ us hl => match us, hl with | [_, _], _ => rfl) (fun ds S d S' ⟨_, _, _, _, h, _⟩ => by rw [h]; rfl) ?_
  rintro f cdv A outer s H E hr ds S d S' eq ⟨a, q, l, x, rfl, rfl, ⟨hq, h1, h2, h3⟩, rfl, rfl⟩
  have hd := draw_b (q := q) (m := l.length) (by omega)
  show SX _ _ [.dat (.adr a), .dat (.lst l)] _ _
  refine sx_one (s1_ret (de_ix (t := false) (ds := l) (i := (drawF q l.length).1) (DE.lst (by walk_at "de")) (de_ok (ok__law_draw T) hr (by decide) rfl (da_cons (by walk_at "de") (da_cons (de_len (DE.lst (ds := l) (by walk_at "de")) (by rfl) T.b_len) da_nil)) pt_eq ⟨a, q, l.length, rfl, rfl, ⟨hq, by omega, by omega⟩, rfl, rfl⟩) ?_) ⟨rfl, rfl⟩)
  rw [show (drawF q l.length).1 = (((drawF q l.length).1.toNat : Nat) : Int) by omega]
  exact atI_get h3
def r__law_sign : Sig := fun ds S d S' => ∃ (p r : Int), ds = [.int p, .int r] ∧ (Pr p ∧ 0 ≤ r ∧ r < p) ∧ d = .int (signF p r) ∧ S' = S
end

end K88

set_option Elab.async false
set_option linter.all false
set_option autoImplicit false
set_option maxRecDepth 100000
set_option maxHeartbeats 400000
namespace K88
open PySem PySem.Spec PyProof.Rows L2 RZ Ab
local macro_rules | `(tactic| walk_at "has") => `(tactic| first | exact Has.here | (apply Has.there; walk_at "has"))
local macro_rules | `(tactic| walk_at "ata") => `(tactic| first | exact At.here | (apply At.there; walk_at "ata"))
local macro_rules | `(tactic| walk_at "put") => `(tactic| first | exact Put.here | (apply Put.there; walk_at "put"))
local macro_rules | `(tactic| walk_at "puta") => `(tactic| first | exact PutA.here | (apply PutA.there; walk_at "puta"))
local macro_rules | `(tactic| walk_at "wk") => `(tactic| first | exact Wk.nil | (apply Wk.same; walk_at "wk") | (apply Wk.no; walk_at "wk"))
local macro_rules | `(tactic| walk_at "side") => `(tactic| first | assumption | omega | decide)
local macro_rules | `(tactic| walk_at "de") => `(tactic| first
  | assumption
  | exact de_int
  | exact de_non
  | exact de_bl
  | exact de_str
  | (refine' de_name rfl ?hz; (case hz => walk_at "has"))
  | (refine' de_mod ?d1 ?d2 ?d3; (case d1 => walk_at "de"); (case d2 => walk_at "de"); (case d3 => walk_at "side"))
  | (refine' de_add ?d1 ?d2; (case d1 => walk_at "de"); (case d2 => walk_at "de"))
  | (refine' de_sub ?d1 ?d2; (case d1 => walk_at "de"); (case d2 => walk_at "de"))
  | (refine' de_mul ?d1 ?d2 ?d3; (case d1 => walk_at "de"); (case d2 => walk_at "de"); (case d3 => first | assumption | (refine mulW1 ?_ ?_ <;> omega)))
  | (refine' de_fdiv ?d1 ?d2 ?d3; (case d1 => walk_at "de"); (case d2 => walk_at "de"); (case d3 => exact divW (by omega)))
  | (refine' de_tupX ?d1 ?d2; (case d1 => walk_at "da"); (case d2 => exact Nat.le_of_ble_eq_true rfl))
  )
local macro_rules | `(tactic| walk_at "da") => `(tactic| first | exact da_nil | (refine' da_cons ?a1 ?a2; (case a1 => walk_at "de"); (case a2 => walk_at "da")))
local macro_rules | `(tactic| walk_at "db") => `(tactic| first
  | assumption
  | (refine' db_eqI ?d1 ?d2; (case d1 => walk_at "de"); (case d2 => walk_at "de"))
  | (refine' db_neI ?d1 ?d2; (case d1 => walk_at "de"); (case d2 => walk_at "de"))
  | (refine' db_lt ?d1 ?d2; (case d1 => walk_at "de"); (case d2 => walk_at "de"))
  | (refine' db_gt ?d1 ?d2; (case d1 => walk_at "de"); (case d2 => walk_at "de"))
  | (refine' db_le ?d1 ?d2; (case d1 => walk_at "de"); (case d2 => walk_at "de"))
  | (refine' db_ge ?d1 ?d2; (case d1 => walk_at "de"); (case d2 => walk_at "de"))
  | (refine' db_not ?d1; (case d1 => walk_at "db"))
  )
section
variable {P : Program} {w : World} {K : PySem.W.Frag} {mg : Str → Option Value} {base : Heap}
open Rk
def r__law_determinant : Sig := fun ds S d S' => ∃ (p : Int) (t : List (List Int)) (n : Nat), ds = [.int p, lL t] ∧ (Pr p ∧ Mat p n n t ∧ n ≤ 6) ∧ d = .int (ldetF p t) ∧ S' = S
abbrev dtD (p : Int) (t rows : List (List Int)) (f : Int) : List Sl := [.dat (.int p), .dat (lL t), .own (rows.map lI), .dat (.int f), .no, .no, .no, .no, .no, .no, .no, .no, .no]
/-- rows[i][j] -/
theorem de_el {X : Cx} {Δ : List Sl} {S : PotS} {pos pos2 : Pos} {a b c : Expr} {rows : List (List Int)} {i j : Nat} {p : Int} {n m : Nat} (h : Mat p n m rows) (ha : DQ X a Δ S false (rows.map lI) S) (hb : DE X b Δ S (.int (i : Nat)) S) (hc : DE X c Δ S (.int (j : Nat)) S) (hi : i < n) (hj : j < m) (hs : PlainIx b := by exact fun _ _ => rfl) (hs2 : PlainIx c := by exact fun _ _ => rfl) : DE X (.Subscript (.Subscript a b pos) c pos2) Δ S (.int (ge rows i j)) S :=
  de_ix (t := false) (ds := (gr rows i).map .int) (i := (j : Nat)) (DE.lst (de_ix (t := false) (ds := rows.map lI) (i := (i : Nat)) ha hb (atI_map (h.get hi).1) hs)) hc (atI_map ((h.get hi).2.get hj).1) hs2
theorem spots_eq {p : Int} {rows : List (List Int)} {n k : Nat} (hl : rows.length = n) (hk : k ≤ n) : ((iot (k : Nat) 1 ((n : Int) - (k : Nat)).toNat).filter fun s => !decide (ge rows s.toNat k % p = 0)) = (spotsF p rows k).map Int.ofNat := by
  unfold spotsF iot
  rw [hl, show ((n : Int) - (k : Nat)).toNat = n - k by omega, List.filter_map, List.filter_map, List.map_map]
  have e : (List.range (n - k)).filter ((fun s : Int => !decide (ge rows s.toNat k % p = 0)) ∘ fun i : Nat => (k : Int) + (i : Int) * 1) = (List.range (n - k)).filter ((fun s => ge rows s k % p != 0) ∘ fun i => k + i) := by
    refine List.filter_congr fun i _ => ?_
    show (!decide (ge rows ((k : Int) + (i : Int) * 1).toNat k % p = 0)) = (ge rows (k + i) k % p != 0)
    rw [show ((k : Int) + (i : Int) * 1).toNat = k + i by omega]
    rfl
  rw [e]
  refine List.map_congr_left fun i _ => ?_
  show (k : Int) + (i : Int) * 1 = ((k + i : Nat) : Int)
  omega
theorem ok__law_determinant (T : Fx K mg) : Ok P w K mg base "_law_determinant" 1 r__law_determinant := by
  refine ok_of T.g__law_determinant T.f__law_determinant sc__law_determinant (fun _ _ _ _ _ _ us hl => match us, hl with | [_, _], _ => rfl) (fun ds S d S' ⟨_, _, _, h, _⟩ => by rw [h]; rfl) ?_
  rintro f cdv A outer s H E hr ds S d S' eq ⟨p, t, n, rfl, ⟨hp, ht, hn⟩, rfl, rfl⟩
  have hb := hp.b
  have htl := ht.1
  show SX _ _ [.dat (.int p), .dat (lL t), .no, .no, .no, .no, .no, .no, .no, .no, .no, .no, .no] S' _
  refine sx_cons (p_tupV2 (s := .own (t.map lI)) (t := .dat (.int 1)) rfl rfl sc__law_determinant.nd (dv_own (LC.dn (own := [("_law_row", 4)]) (lc_nameM (xs := t) (φ := lI) (g := lI) (ds_list (ds := t.map lI) (by walk_at "de")).c sc__law_determinant.nd (j := 4) rfl (by omega) ?_) rfl sc__law_determinant.nd (blkOk_by (N := N__law_determinant) (sc := defScope (topS 72)) (by decide +kernel))) (dv_dat de_int dv_nil)) (by walk_at "puta") (by walk_at "puta") ?_ (by decide))
  · intro s2 H2 C2 cl2 fp2 r hrm
    show DE _ _ [.dat (.int p), .dat (lL t), .no, .no, .dat (lI r), .no, .no, .no, .no, .no, .no, .no, .no] _ _ _
    exact (dn_list (X := blk _ _ s2 H2 C2 cl2 fp2) (DE.lst (ds := r.map .int) (by walk_at "de")) (by rfl) T.b_list).dat
  · have q0 : ∀ i, ∃ rows f, (stN p t i).getD ([], 0) = (rows, f) := fun i => ⟨_, _, rfl⟩
    refine sx_forJ (fun i => dtD p t ((stN p t i).getD ([], 0)).1 ((stN p t i).getD ([], 0)).2) (fun i => (stN p t i).isSome = true) (ds_range1 (n := t.length) (DE.cast (de_len (dq_own (ds := t.map lI) rfl (by walk_at "has")) (by rfl) T.b_len) (by rw [List.length_map])) (by omega) rfl T.b_range) tm_one
      (tg_name sc__law_determinant.nd (j := 5) rfl (by first | exact .inl rfl | exact .inr rfl)) (by walk_at "wk") rfl (fun i x hx J => ?_) (fun J => ?_) (ps_for PassesOwn.never rfl WI.pi WG.pg WS.ps)
    · have hi : i < n := by
        have := (List.getElem?_eq_some_iff.mp hx).1
        rw [iot_len] at this
        omega
      have ex : x = (i : Nat) := by
        rw [iot_get (by omega)] at hx
        have := Option.some.inj hx
        omega
      subst ex
      cases hq : stN p t i with
      | none =>
        rw [hq] at J
        cases J
      | some q =>
        obtain ⟨rows, fo⟩ := q
        obtain ⟨hm, hf0, hf1⟩ := stN_mat (by omega) ht i _ (by omega) hq
        have hm : Mat p n n rows := hm
        have hf0 : 0 ≤ fo := hf0
        have hf1 : fo < p := hf1
        have hnx : stN p t (i + 1) = stepF p i (rows, fo) := by
          show (stN p t i).bind (stepF p i) = _
          rw [hq]
          rfl
        show SX _ _ [.dat (.int p), .dat (lL t), .own (rows.map lI), .dat (.int fo), .no, .dat (.int (i : Nat)), .no, .no, .no, .no, .no, .no, .no] S' _
        refine sx_cons (p_lc rfl sc__law_determinant.nd (lc_name (xs := iot (i : Nat) 1 ((n : Int) - (i : Nat)).toNat) (φ := .int) (g := .int) (bt := fun s => !decide (ge rows s.toNat i % p = 0)) (ds_range2 (m := (i : Nat)) (n := n) (by walk_at "de") (DE.cast (de_len (dq_own (ds := rows.map lI) rfl (by walk_at "has")) (by rfl) T.b_len) (by rw [List.length_map, hm.1])) (by omega) (by rfl) T.b_range).c sc__law_determinant.nd (j := 7) rfl (by rw [iot_len]; omega) ?_ ?_) (own := [("_law_spot", 7)]) (by walk_at "put") ?_ rfl rfl rfl (blkOk_by (N := N__law_determinant) (sc := defScope (topS 72)) (by decide +kernel)))
        · intro s2 H2 C2 cl2 fp2 v hv
          have hv := mem_iot1.mp hv
          have ev : v = (v.toNat : Nat) := by omega
          refine dp_one (DB.dt (db_neI (de_mod (de_intI (de_el (X := blk _ _ s2 H2 C2 cl2 fp2) hm (dq_own (ds := rows.map lI) rfl (by walk_at "has")) (DE.cast (d := .int v) (de_name rfl (by walk_at "has")) (by rw [← ev])) (de_name rfl (by walk_at "has")) (by omega) hi) (by rfl) T.b_int) (de_name rfl (by walk_at "has")) (by omega)) de_int))
        · intro s2 H2 C2 cl2 fp2 v hv _
          exact de_name rfl (by walk_at "has")
        · rw [spots_eq hm.1 (by omega)]
          show SX _ _ [.dat (.int p), .dat (lL t), .own (rows.map lI), .dat (.int fo), .no, .dat (.int (i : Nat)), .dat (.lst (((spotsF p rows i).map Int.ofNat).map .int)), .no, .no, .no, .no, .no, .no] S' _
          have okl : ∀ l : List Int, dOk 60 (.lst (l.map .int)) = true := fun l => by
            show (l.map D.int).all (dOk 59) = true
            rw [List.all_map, List.all_eq_true]
            intro _ _
            rfl
          refine sx_cons (s1_if (k := (((spotsF p rows i).map Int.ofNat).map D.int).isEmpty) (db_eqNil (t := false) (by exact hr) (by walk_at "de") (okl _)) (fun hk => ?_) fun hk => sx_nil ?_)
          · have hsp : spotsF p rows i = [] := by
              rw [List.isEmpty_map, List.isEmpty_map] at hk
              exact List.isEmpty_iff.mp hk
            have hno : stN p t (i + 1) = none := by
              rw [hnx]
              unfold stepF
              rw [hsp]
            have hd : ldetF p t = 0 := by
              have := stN_none hno (n - (i + 1))
              rw [show i + 1 + (n - (i + 1)) = n by omega] at this
              unfold ldetF
              rw [htl, this]
            rw [hd]
            exact sx_one (s1_ret de_int ⟨rfl, rfl⟩)
          · cases hsp : spotsF p rows i with
            | nil =>
              rw [hsp] at hk
              cases hk
            | cons s0 l =>
              have hsb := spots_mem (p := p) (rows := rows) (k := i) (s := s0) (by rw [hsp]; exact List.mem_cons_self)
              have hs0 : s0 < n := by rw [← hm.1]; exact hsb.2.1
              have hst : stN p t (i + 1) = some (elimF p (if s0 = i then rows else swapF rows i s0) i, (if s0 = i then fo else 0 - fo) * ge (if s0 = i then rows else swapF rows i s0) i i % p) := by
                rw [hnx]
                unfold stepF
                rw [show spotsF p (rows, fo).1 i = s0 :: l from hsp]
              obtain ⟨rows1, f1, e1, e2⟩ : ∃ rows1 f1, (if s0 = i then rows else swapF rows i s0) = rows1 ∧ (if s0 = i then fo else 0 - fo) = f1 := ⟨_, _, rfl, rfl⟩
              rw [e1, e2] at hst
              have hm1 : Mat p n n rows1 := by
                rw [← e1]
                split
                · exact hm
                · exact swapF_mat hm hi hs0
              have hf1' : -13 < f1 ∧ f1 < 13 := by
                rw [← e2]
                split <;> omega
              have hpv : ge rows1 i i % p ≠ 0 := by
                rw [← e1]
                split
                · rename_i h
                  rw [← h]
                  have := hsb.2.2
                  rw [h] at this ⊢
                  exact this
                · rename_i h
                  have : ge (swapF rows i s0) i i = ge rows s0 i := by
                    unfold ge swapF
                    have : gr ((rows.set i (gr rows s0)).set s0 (gr rows i)) i = gr rows s0 := by
                      unfold gr
                      rw [List.getD_eq_getElem?_getD, List.getElem?_set_ne (fun e => h e), List.getElem?_set_self (by rw [hm.1]; exact hi)]
                      rfl
                    rw [this]
                  rw [this]
                  exact hsb.2.2
              refine sx_cons (s1_ifJ (k := !decide (((s0 : Nat) : Int) = ((i : Nat) : Int))) (S2 := S') (Δ2 := [.dat (.int p), .dat (lL t), .own (rows1.map lI), .dat (.int f1), .no, .dat (.int (i : Nat)), .dat (.lst (((s0 :: l).map Int.ofNat).map .int)), .no, .no, .no, .no, .no, .no]) (db_neI (de_ix (t := false) (ds := ((s0 :: l).map Int.ofNat).map .int) (i := (0 : Nat)) (DE.lst (by walk_at "de")) de_int (atI_get rfl)) (by walk_at "de")) (fun k => ?_) (fun k => ?_) ?_)
              · have hne : ¬ s0 = i := by
                  intro h
                  rw [h] at k
                  simp at k
                rw [if_neg hne] at e1 e2
                refine sx_one (p_swap (i := i) (j := s0) (Δ2 := [.dat (.int p), .dat (lL t), .own ((rows.map lI).set i (lI (gr rows s0))), .dat (.int fo), .no, .dat (.int (i : Nat)), .dat (.lst (((s0 :: l).map Int.ofNat).map .int)), .no, .no, .no, .no, .no, .no]) rfl rfl sc__law_determinant.nd (da_cons (de_ix (t := false) (ds := rows.map lI) (i := (s0 : Nat)) (dq_own rfl (by walk_at "has")) (de_ix (t := false) (ds := ((s0 :: l).map Int.ofNat).map .int) (i := (0 : Nat)) (DE.lst (by walk_at "de")) de_int (atI_get rfl)) (atI_map (hm.get hs0).1)) (da_cons (de_ix (t := false) (ds := rows.map lI) (i := (i : Nat)) (dq_own rfl (by walk_at "has")) (by walk_at "de") (atI_map (hm.get hi).1)) (da_cons (de_sub de_int (by walk_at "de")) da_nil))) (by walk_at "ata") (by walk_at "de") (de_ix (t := false) (ds := ((s0 :: l).map Int.ofNat).map .int) (i := (0 : Nat)) (DE.lst (by walk_at "de")) de_int (atI_get rfl)) (by rw [List.length_map, hm.1]; exact hi) (by rw [List.length_map, hm.1]; exact hs0) (by walk_at "puta") (by walk_at "puta") (by walk_at "put") ⟨?_, rfl⟩)
                rw [← e1, ← e2]
                unfold swapF
                rw [List.map_set, List.map_set]
              · have he : s0 = i := by
                  have : ((s0 : Nat) : Int) = ((i : Nat) : Int) := by simpa using k
                  omega
                rw [if_pos he] at e1 e2
                subst e1
                subst e2
                exact sx_nil ⟨rfl, rfl⟩
              · show SX _ _ [.dat (.int p), .dat (lL t), .own (rows1.map lI), .dat (.int f1), .no, .dat (.int (i : Nat)), .dat (.lst (((s0 :: l).map Int.ofNat).map .int)), .no, .no, .no, .no, .no, .no] S' _
                have hge := ((hm1.get hi).2.get hi)
                have hg0 : 0 ≤ ge rows1 i i ∧ ge rows1 i i < p := ⟨hge.2.1, hge.2.2⟩
                have hgp : 0 < ge rows1 i i := by
                  rcases Int.lt_or_eq_of_le hg0.1 with h | h
                  · exact h
                  · rw [← h] at hpv
                    exact absurd (Int.zero_emod p) hpv
                obtain ⟨bk0, bk1, bk2, bk3⟩ := bk_get hp ⟨hgp, hg0.2⟩
                refine sx_cons (p_set rfl sc__law_determinant.nd (de_mod (de_intI (de_mul (by walk_at "de") (de_el hm1 (dq_own (ds := rows1.map lI) rfl (by walk_at "has")) (by walk_at "de") (by walk_at "de") hi hi) (mulW1 (by omega) (by omega))) (by rfl) T.b_int) (by walk_at "de") (by omega)) (by walk_at "put") ?_)
                refine sx_cons (p_set rfl sc__law_determinant.nd (d := .int (bkF p (ge rows1 i i))) (de_ix (t := false) (i := (0 : Nat)) (LC.dn (own := [("_law_number", 9)]) (lc_name (xs := iot 0 1 p.toNat) (φ := .int) (g := .int) (bt := fun x => decide (x * ge rows1 i i % p = 1)) (ds_range1 (n := p) (by walk_at "de") (by omega) (by rfl) T.b_range).c sc__law_determinant.nd (j := 9) rfl (by rw [iot_len]; omega) ?_ ?_) rfl sc__law_determinant.nd (blkOk_by (N := N__law_determinant) (sc := defScope (topS 72)) (by decide +kernel))).seq de_int (atI_map ?_)) (by walk_at "put") ?_)
                · intro s2 H2 C2 cl2 fp2 v hv
                  have hv := mem_iot1.mp hv
                  exact dp_one (DB.dt (db_eqI (de_mod (de_intI (de_mul (de_name rfl (by walk_at "has")) (de_el (X := blk _ _ s2 H2 C2 cl2 fp2) hm1 (dq_own (ds := rows1.map lI) rfl (by walk_at "has")) (de_name rfl (by walk_at "has")) (de_name rfl (by walk_at "has")) hi hi) (mulW1 (by omega) (by omega))) (by rfl) T.b_int) (de_name rfl (by walk_at "has")) (by omega)) de_int))
                · intro s2 H2 C2 cl2 fp2 v hv _
                  exact de_name rfl (by walk_at "has")
                · rw [iot_rg]
                  exact bk0
                · generalize hfo : f1 * ge rows1 i i % p = f2 at hst ⊢
                  show SX _ _ [.dat (.int p), .dat (lL t), .own (rows1.map lI), .dat (.int f2), .no, .dat (.int (i : Nat)), .dat (.lst (((s0 :: l).map Int.ofNat).map .int)), .no, .dat (.int (bkF p (ge rows1 i i))), .no, .no, .no, .no] S' _
                  refine sx_forT (fun m => [.dat (.int p), .dat (lL t), .own ((elimN p rows1 i m).map lI), .dat (.int f2), .no, .dat (.int (i : Nat)), .dat (.lst (((s0 :: l).map Int.ofNat).map .int)), .no, .dat (.int (bkF p (ge rows1 i i))), .no, .no, .no, .no]) (fun _ => S') (ds_range2 (m := (i : Nat) + 1) (n := n) (by walk_at "de") (DE.cast (de_len (dq_own (ds := rows1.map lI) rfl (by walk_at "has")) (by rfl) T.b_len) (by rw [List.length_map, hm1.1])) (by omega) rfl T.b_range) tm_one
                    (tg_name sc__law_determinant.nd (j := 7) rfl (by first | exact .inl rfl | exact .inr rfl)) (by rw [elimN_zero]; walk_at "wk") (fun m x hxm _ => ?_) (fun _ => ?_) (ps_for PassesOwn.never rfl WI.pi WG.pg WS.ps)
                  · have hml : m < ((n : Int) - ((i : Nat) + 1)).toNat := by
                      have := (List.getElem?_eq_some_iff.mp hxm).1
                      rw [iot_len] at this
                      exact this
                    rw [iot_get hml] at hxm
                    have exm : x = ((i + 1 + m : Nat) : Int) := by
                      have := Option.some.inj hxm
                      omega
                    subst exm
                    have him : i + 1 + m < n := by omega
                    obtain ⟨g1, g2, g3⟩ := elimN_get hm1 him
                    have hm2 := elimN_mat (m := m) (show (0 : Int) < p by omega) hm1 hi
                    show SX _ _ [.dat (.int p), .dat (lL t), .own ((elimN p rows1 i m).map lI), .dat (.int f2), .no, .dat (.int (i : Nat)), .dat (.lst (((s0 :: l).map Int.ofNat).map .int)), .dat (.int ((i + 1 + m : Nat) : Int)), .dat (.int (bkF p (ge rows1 i i))), .no, .no, .no, .no] S' _
                    refine sx_cons (p_set rfl sc__law_determinant.nd (de_mod (de_intI (de_mul (de_el hm2 (dq_own (ds := (elimN p rows1 i m).map lI) rfl (by walk_at "has")) (by walk_at "de") (by walk_at "de") him hi) (by walk_at "de") (rest_mul hp ⟨bk1, bk2⟩ ((hm2.get him).2.get hi).2)) (by rfl) T.b_int) (by walk_at "de") (by omega)) (by walk_at "put") ?_)
                    have e5 : ge (elimN p rows1 i m) (i + 1 + m) i = (gr rows1 (i + 1 + m)).getD i 0 := by
                      unfold ge
                      have : gr (elimN p rows1 i m) (i + 1 + m) = gr rows1 (i + 1 + m) := by
                        have := (hm2.get him).1
                        rw [g1] at this
                        exact (Option.some.inj this).symm
                      rw [this]
                    rw [e5]
                    have hr1 := (hm1.get him).2
                    have hr0 := (hm1.get hi).2
                    refine sx_one (s1_setIx (N := N__law_determinant) (j := i + 1 + m) rfl (by walk_at "ata") (LC.dn (own := [("_law_one", 11), ("_law_other", 12)]) (lc_pairM (xs := (gr rows1 (i + 1 + m)).zip (gr rows1 i)) (φ := fun v => .int v.1) (ψ := fun v => .int v.2) (g := fun v => .int ((v.1 - ((gr rows1 (i + 1 + m)).getD i 0 * bkF p (ge rows1 i i) % p) * v.2) % p)) rfl (dsc_zip2 (xs := gr rows1 (i + 1 + m)) (ys := gr rows1 i) (φ := .int) (ψ := .int) (DE.lst (de_ix (t := false) (ds := (elimN p rows1 i m).map lI) (i := ((i + 1 + m : Nat) : Int)) (dq_own rfl (by walk_at "has")) (by walk_at "de") (atI_map g1))) (DE.lst (de_ix (t := false) (ds := (elimN p rows1 i m).map lI) (i := (i : Nat)) (dq_own rfl (by walk_at "has")) (by walk_at "de") (atI_map g3))) (by rfl) T.b_zip) sc__law_determinant.nd (j := 11) (k := 12) rfl rfl (by rw [List.length_zip, hr1.1]; omega) ?_) rfl sc__law_determinant.nd (blkOk_by (N := N__law_determinant) (sc := defScope (topS 72)) (by decide +kernel))).dat (by walk_at "de") (by rw [List.length_map, hm2.1]; exact him) ?_)
                    · intro s2 H2 C2 cl2 fp2 v hv
                      obtain ⟨k1, k2⟩ := List.of_mem_zip hv
                      have k3 := hr1.2 _ k1
                      have k4 := hr0.2 _ k2
                      have kb := emod_b (p := p) (x := (gr rows1 (i + 1 + m)).getD i 0 * bkF p (ge rows1 i i)) (by omega)
                      exact de_mod (de_intI (de_sub (de_name rfl (by walk_at "has")) (de_mul (de_name rfl (by walk_at "has")) (de_name rfl (by walk_at "has")) (rest_mul hp k4 kb))) (by rfl) T.b_int) (de_name rfl (by walk_at "has")) (by omega)
                    · refine ⟨?_, rfl⟩
                      show Wk _ [.dat (.int p), .dat (lL t), .own ((elimN p rows1 i (m + 1)).map lI), .dat (.int f2), .no, .dat (.int (i : Nat)), .dat (.lst (((s0 :: l).map Int.ofNat).map .int)), .no, .dat (.int (bkF p (ge rows1 i i))), .no, .no, .no, .no]
                      rw [g2, List.map_set, show (lI (combF p (gr rows1 i) i (bkF p (ge rows1 i i)) (gr rows1 (i + 1 + m)))) = D.lst (((gr rows1 (i + 1 + m)).zip (gr rows1 i)).map fun v => .int ((v.1 - ((gr rows1 (i + 1 + m)).getD i 0 * bkF p (ge rows1 i i) % p) * v.2) % p)) from by unfold combF; rw [map_id_ints]]
                      exact .same (.same (.same (.same (.no (.same (.same (.no (.same (.no (.no (.no (.no .nil))))))))))))
                  · refine sx_nil ⟨?_, rfl, by rw [hst]; rfl⟩
                    show Wk [.dat (.int p), .dat (lL t), .own ((elimN p rows1 i (iot ((i : Nat) + 1) 1 ((n : Int) - ((i : Nat) + 1)).toNat).length).map lI), .dat (.int f2), .no, .dat (.int (i : Nat)), .dat (.lst (((s0 :: l).map Int.ofNat).map .int)), .no, .dat (.int (bkF p (ge rows1 i i))), .no, .no, .no, .no] (dtD p t ((stN p t (i + 1)).getD ([], 0)).1 ((stN p t (i + 1)).getD ([], 0)).2)
                    rw [iot_len, elimN_all (by rw [hm1.1]; omega), hst]
                    exact .same (.same (.same (.same (.no (.no (.no (.no (.no (.no (.no (.no (.no .nil))))))))))))
    · have hlen : (iot 0 1 (t.length : Int).toNat).length = n := by rw [iot_len, Int.toNat_natCast]; exact htl
      rw [hlen] at J ⊢
      cases hq : stN p t n with
      | none =>
        rw [hq] at J
        cases J
      | some q =>
        have hd : ldetF p t = q.2 % p := by
          unfold ldetF
          rw [htl, hq]
        rw [hd]
        show SX _ _ [.dat (.int p), .dat (lL t), .own (q.1.map lI), .dat (.int q.2), .no, .no, .no, .no, .no, .no, .no, .no, .no] S' _
        exact sx_one (s1_ret (de_mod (de_intI (by walk_at "de") (by rfl) T.b_int) (by walk_at "de") (by omega)) ⟨rfl, rfl⟩)
end

end K88

set_option Elab.async false
set_option linter.all false
set_option autoImplicit false
set_option maxRecDepth 100000
set_option maxHeartbeats 400000
namespace K88
open PySem PySem.Spec PyProof.Rows L2 RZ Ab
local macro_rules | `(tactic| walk_at "has") => `(tactic| first | exact Has.here | (apply Has.there; walk_at "has"))
local macro_rules | `(tactic| walk_at "ata") => `(tactic| first | exact At.here | (apply At.there; walk_at "ata"))
local macro_rules | `(tactic| walk_at "put") => `(tactic| first | exact Put.here | (apply Put.there; walk_at "put"))
local macro_rules | `(tactic| walk_at "puta") => `(tactic| first | exact PutA.here | (apply PutA.there; walk_at "puta"))
local macro_rules | `(tactic| walk_at "wk") => `(tactic| first | exact Wk.nil | (apply Wk.same; walk_at "wk") | (apply Wk.no; walk_at "wk"))
local macro_rules | `(tactic| walk_at "side") => `(tactic| first | assumption | omega | decide)
local macro_rules | `(tactic| walk_at "de") => `(tactic| first
  | assumption
  | exact de_int
  | exact de_non
  | exact de_bl
  | exact de_str
  | (refine' de_name rfl ?hz; (case hz => walk_at "has"))
  | (refine' de_mod ?d1 ?d2 ?d3; (case d1 => walk_at "de"); (case d2 => walk_at "de"); (case d3 => walk_at "side"))
  | (refine' de_add ?d1 ?d2; (case d1 => walk_at "de"); (case d2 => walk_at "de"))
  | (refine' de_sub ?d1 ?d2; (case d1 => walk_at "de"); (case d2 => walk_at "de"))
  | (refine' de_mul ?d1 ?d2 ?d3; (case d1 => walk_at "de"); (case d2 => walk_at "de"); (case d3 => first | assumption | (refine mulW1 ?_ ?_ <;> omega)))
  | (refine' de_fdiv ?d1 ?d2 ?d3; (case d1 => walk_at "de"); (case d2 => walk_at "de"); (case d3 => exact divW (by omega)))
  | (refine' de_tupX ?d1 ?d2; (case d1 => walk_at "da"); (case d2 => exact Nat.le_of_ble_eq_true rfl))
  )
local macro_rules | `(tactic| walk_at "da") => `(tactic| first | exact da_nil | (refine' da_cons ?a1 ?a2; (case a1 => walk_at "de"); (case a2 => walk_at "da")))
local macro_rules | `(tactic| walk_at "db") => `(tactic| first
  | assumption
  | (refine' db_eqI ?d1 ?d2; (case d1 => walk_at "de"); (case d2 => walk_at "de"))
  | (refine' db_neI ?d1 ?d2; (case d1 => walk_at "de"); (case d2 => walk_at "de"))
  | (refine' db_lt ?d1 ?d2; (case d1 => walk_at "de"); (case d2 => walk_at "de"))
  | (refine' db_gt ?d1 ?d2; (case d1 => walk_at "de"); (case d2 => walk_at "de"))
  | (refine' db_le ?d1 ?d2; (case d1 => walk_at "de"); (case d2 => walk_at "de"))
  | (refine' db_ge ?d1 ?d2; (case d1 => walk_at "de"); (case d2 => walk_at "de"))
  | (refine' db_not ?d1; (case d1 => walk_at "db"))
  )
section
variable {P : Program} {w : World} {K : PySem.W.Frag} {mg : Str → Option Value} {base : Heap}
open Rk
theorem nextF_eq {n : Nat} {lot : List Int} : nextF n lot = iot (match lot.getLast? with
    | none => 0
    | some x => x + 1) 1 ((n : Int) - (match lot.getLast? with
    | none => 0
    | some x => x + 1)).toNat := by
  unfold nextF iot
  refine List.map_congr_left fun i _ => ?_
  rw [Int.mul_one]
  all_goals rfl
/-- where a lot goes on -/
def loF (lot : List Int) : Int := match lot.getLast? with
  | none => 0
  | some x => x + 1
theorem lo_b {n : Nat} {lot : List Int} (h : ∀ x, x ∈ lot → 0 ≤ x ∧ x < (n : Int)) : 0 ≤ loF lot ∧ loF lot ≤ n := by
  unfold loF
  cases e : lot.getLast? with
  | none => exact ⟨Int.le_refl _, Int.natCast_nonneg n⟩
  | some x =>
    have := h x (List.mem_of_getLast? e)
    show 0 ≤ x + 1 ∧ x + 1 ≤ (n : Int)
    omega
theorem at_last {lot : List Int} {x : Int} (h : lot.getLast? = some x) : atI (lot.map D.int) (-1) = some (.int x) := by
  have hne : lot ≠ [] := fun e => by rw [e] at h; cases h
  have hl : 0 < lot.length := List.length_pos_iff.mpr hne
  unfold atI ixN
  rw [List.length_map, if_neg (by decide), if_pos (by omega)]
  show (lot.map D.int)[(-1 + (lot.length : Int)).toNat]? = _
  rw [show (-1 + (lot.length : Int)).toNat = lot.length - 1 by omega, List.getElem?_map, ← List.getLast?_eq_getElem?, h]
  rfl
theorem ok_60 (l : List Int) : dOk 60 (.lst (l.map .int)) = true := by
  show (l.map D.int).all (dOk 59) = true
  rw [List.all_map, List.all_eq_true]
  intro _ _
  rfl
def r__law_lots : Sig := fun ds S d S' => ∃ (n m : Nat), ds = [.int n, .int m] ∧ (n ≤ 6 ∧ m ≤ 6) ∧ d = lL (lotsF n m) ∧ S' = S
end

end K88

set_option Elab.async false
set_option linter.all false
set_option autoImplicit false
set_option maxRecDepth 100000
set_option maxHeartbeats 400000
namespace K88
open PySem PySem.Spec PyProof.Rows L2 RZ Ab
local macro_rules | `(tactic| walk_at "has") => `(tactic| first | exact Has.here | (apply Has.there; walk_at "has"))
local macro_rules | `(tactic| walk_at "ata") => `(tactic| first | exact At.here | (apply At.there; walk_at "ata"))
local macro_rules | `(tactic| walk_at "put") => `(tactic| first | exact Put.here | (apply Put.there; walk_at "put"))
local macro_rules | `(tactic| walk_at "puta") => `(tactic| first | exact PutA.here | (apply PutA.there; walk_at "puta"))
local macro_rules | `(tactic| walk_at "wk") => `(tactic| first | exact Wk.nil | (apply Wk.same; walk_at "wk") | (apply Wk.no; walk_at "wk"))
local macro_rules | `(tactic| walk_at "side") => `(tactic| first | assumption | omega | decide)
local macro_rules | `(tactic| walk_at "de") => `(tactic| first
  | assumption
  | exact de_int
  | exact de_non
  | exact de_bl
  | exact de_str
  | (refine' de_name rfl ?hz; (case hz => walk_at "has"))
  | (refine' de_mod ?d1 ?d2 ?d3; (case d1 => walk_at "de"); (case d2 => walk_at "de"); (case d3 => walk_at "side"))
  | (refine' de_add ?d1 ?d2; (case d1 => walk_at "de"); (case d2 => walk_at "de"))
  | (refine' de_sub ?d1 ?d2; (case d1 => walk_at "de"); (case d2 => walk_at "de"))
  | (refine' de_mul ?d1 ?d2 ?d3; (case d1 => walk_at "de"); (case d2 => walk_at "de"); (case d3 => first | assumption | (refine mulW1 ?_ ?_ <;> omega)))
  | (refine' de_fdiv ?d1 ?d2 ?d3; (case d1 => walk_at "de"); (case d2 => walk_at "de"); (case d3 => exact divW (by omega)))
  | (refine' de_tupX ?d1 ?d2; (case d1 => walk_at "da"); (case d2 => exact Nat.le_of_ble_eq_true rfl))
  )
local macro_rules | `(tactic| walk_at "da") => `(tactic| first | exact da_nil | (refine' da_cons ?a1 ?a2; (case a1 => walk_at "de"); (case a2 => walk_at "da")))
local macro_rules | `(tactic| walk_at "db") => `(tactic| first
  | assumption
  | (refine' db_eqI ?d1 ?d2; (case d1 => walk_at "de"); (case d2 => walk_at "de"))
  | (refine' db_neI ?d1 ?d2; (case d1 => walk_at "de"); (case d2 => walk_at "de"))
  | (refine' db_lt ?d1 ?d2; (case d1 => walk_at "de"); (case d2 => walk_at "de"))
  | (refine' db_gt ?d1 ?d2; (case d1 => walk_at "de"); (case d2 => walk_at "de"))
  | (refine' db_le ?d1 ?d2; (case d1 => walk_at "de"); (case d2 => walk_at "de"))
  | (refine' db_ge ?d1 ?d2; (case d1 => walk_at "de"); (case d2 => walk_at "de"))
  | (refine' db_not ?d1; (case d1 => walk_at "db"))
  )
section
variable {P : Program} {w : World} {K : PySem.W.Frag} {mg : Str → Option Value} {base : Heap}
open Rk
def r__law_kind : Sig := fun ds S d S' => ∃ (p : Int) (t : List (List Int)) (n : Nat), ds = [.int p, lL t] ∧ (Pr p ∧ Mat p n n t ∧ n ≤ 6) ∧ d = .tup [.int (lkindF p t).1, .int (lkindF p t).2] ∧ S' = S
theorem lk_succ {p : Int} {t : List (List Int)} {m : Nat} : lkF p t (m + 1) = match (lotsF t.length (m + 1)).find? (fun lot => ldetF p (minorF t lot) != 0) with
    | some lot => (((m + 1 : Nat) : Int), signF p (ldetF p (minorF t lot)))
    | none => lkF p t m := rfl
theorem find_go {α : Type} {f : α → Bool} {l : List α} {j : Nat} {x : α} (h : l[j]? = some x) (z : ∀ y, y ∈ l.take j → f y = false) (hx : f x = true) : l.find? f = some x := by
  have e : l = l.take j ++ x :: l.drop (j + 1) := by
    obtain ⟨h1, h2⟩ := List.getElem?_eq_some_iff.mp h
    rw [← h2, ← List.drop_eq_getElem_cons h1, List.take_append_drop]
  rw [e, List.find?_append, List.find?_eq_none.mpr (fun y hy => by rw [z y hy]; decide)]
  simp [hx]
theorem ldet_b {p : Int} {t : List (List Int)} (hp : 0 < p) : 0 ≤ ldetF p t ∧ ldetF p t < p := by
  unfold ldetF
  split
  · exact ⟨Int.le_refl _, hp⟩
  · exact emod_b hp
theorem minor_mat {p : Int} {n k : Nat} {t : List (List Int)} {lot : List Int} (hm : Mat p n n t) (h1 : lot.length = k) (h2 : ∀ x, x ∈ lot → 0 ≤ x ∧ x < (n : Int)) : Mat p k k (minorF t lot) := by
  refine ⟨by rw [minorF, List.length_map, h1], fun r hr => ?_⟩
  obtain ⟨a, ha, rfl⟩ := List.mem_map.mp hr
  refine ⟨by rw [List.length_map, h1], fun x hx => ?_⟩
  obtain ⟨b, hb, rfl⟩ := List.mem_map.mp hx
  have := h2 a ha
  have := h2 b hb
  exact ((hm.get (i := a.toNat) (by omega)).2.get (j := b.toNat) (by omega)).2
end

end K88

set_option Elab.async false
set_option linter.all false
set_option autoImplicit false
set_option maxRecDepth 100000
set_option maxHeartbeats 400000
namespace K88
open PySem PySem.Spec PyProof.Rows L2 RZ Ab
local macro_rules | `(tactic| walk_at "has") => `(tactic| first | exact Has.here | (apply Has.there; walk_at "has"))
local macro_rules | `(tactic| walk_at "ata") => `(tactic| first | exact At.here | (apply At.there; walk_at "ata"))
local macro_rules | `(tactic| walk_at "put") => `(tactic| first | exact Put.here | (apply Put.there; walk_at "put"))
local macro_rules | `(tactic| walk_at "puta") => `(tactic| first | exact PutA.here | (apply PutA.there; walk_at "puta"))
local macro_rules | `(tactic| walk_at "wk") => `(tactic| first | exact Wk.nil | (apply Wk.same; walk_at "wk") | (apply Wk.no; walk_at "wk"))
local macro_rules | `(tactic| walk_at "side") => `(tactic| first | assumption | omega | decide)
local macro_rules | `(tactic| walk_at "de") => `(tactic| first
  | assumption
  | exact de_int
  | exact de_non
  | exact de_bl
  | exact de_str
  | (refine' de_name rfl ?hz; (case hz => walk_at "has"))
  | (refine' de_mod ?d1 ?d2 ?d3; (case d1 => walk_at "de"); (case d2 => walk_at "de"); (case d3 => walk_at "side"))
  | (refine' de_add ?d1 ?d2; (case d1 => walk_at "de"); (case d2 => walk_at "de"))
  | (refine' de_sub ?d1 ?d2; (case d1 => walk_at "de"); (case d2 => walk_at "de"))
  | (refine' de_mul ?d1 ?d2 ?d3; (case d1 => walk_at "de"); (case d2 => walk_at "de"); (case d3 => first | assumption | (refine mulW1 ?_ ?_ <;> omega)))
  | (refine' de_fdiv ?d1 ?d2 ?d3; (case d1 => walk_at "de"); (case d2 => walk_at "de"); (case d3 => exact divW (by omega)))
  | (refine' de_tupX ?d1 ?d2; (case d1 => walk_at "da"); (case d2 => exact Nat.le_of_ble_eq_true rfl))
  )
local macro_rules | `(tactic| walk_at "da") => `(tactic| first | exact da_nil | (refine' da_cons ?a1 ?a2; (case a1 => walk_at "de"); (case a2 => walk_at "da")))
local macro_rules | `(tactic| walk_at "db") => `(tactic| first
  | assumption
  | (refine' db_eqI ?d1 ?d2; (case d1 => walk_at "de"); (case d2 => walk_at "de"))
  | (refine' db_neI ?d1 ?d2; (case d1 => walk_at "de"); (case d2 => walk_at "de"))
  | (refine' db_lt ?d1 ?d2; (case d1 => walk_at "de"); (case d2 => walk_at "de"))
  | (refine' db_gt ?d1 ?d2; (case d1 => walk_at "de"); (case d2 => walk_at "de"))
  | (refine' db_le ?d1 ?d2; (case d1 => walk_at "de"); (case d2 => walk_at "de"))
  | (refine' db_ge ?d1 ?d2; (case d1 => walk_at "de"); (case d2 => walk_at "de"))
  | (refine' db_not ?d1; (case d1 => walk_at "db"))
  )
section
variable {P : Program} {w : World} {K : PySem.W.Frag} {mg : Str → Option Value} {base : Heap}
open Rk
open Dt (diagN diagS tabN stepD ltabF lledF ledS diag_ok diagN_rm tabN_ok step_b lled_b)
abbrev gD (t : List (List Int)) : Sl := .grid (t.map fun r => r.map D.int)
theorem gD_lL {t : List (List Int)} : D.lst ((t.map fun r => r.map D.int).map .lst) = lL t := by
  rw [List.map_map]
  rfl
/-- a whole number of a row of data -/
def gi (r : List D) (k : Nat) : Int := match r[k]? with
  | some (.int x) => x
  | _ => 0
theorem gi_map {r : List Int} {k : Nat} : gi (r.map D.int) k = r.getD k 0 := by
  unfold gi
  rw [List.getElem?_map, List.getD_eq_getElem?_getD]
  cases r[k]? <;> rfl
theorem gD_get {t : List (List Int)} {p : Int} {n m i : Nat} (h : Mat p n m t) (hi : i < n) : atI (t.map fun r => r.map D.int) (i : Int) = some ((gr t i).map D.int) := by
  unfold atI
  rw [List.length_map, Evl.ixN_nat (by rw [h.1]; exact hi)]
  show (t.map fun r => r.map D.int)[i]? = _
  rw [List.getElem?_map, (h.get hi).1]
  rfl
theorem rep0 {n : Nat} : (List.replicate n ([.int 0] : List D)).flatten = (List.replicate n (0 : Int)).map D.int := by
  induction n with
  | zero => rfl
  | succ n ih =>
    rw [List.replicate_succ, List.flatten_cons, ih, List.replicate_succ]
    rfl
/-- the grid behind one step -/
theorem led_grid {p often : Int} {t : List (List Int)} {one other : Nat} : ((t.map fun r => r.map D.int).set one ((addF p (gr t one) (gr t other) often).map D.int)).map (fun r => r.set one (.int ((gi r one + often * gi r other) % p))) = (ledS p t one other often).map fun r => r.map D.int := by
  unfold ledS
  rw [← List.map_set, List.map_map, List.map_map]
  refine List.map_congr_left fun r _ => ?_
  show (r.map D.int).set one (.int ((gi (r.map D.int) one + often * gi (r.map D.int) other) % p)) = (r.set one _).map D.int
  rw [gi_map, gi_map, List.map_set]
def r__law_table : Sig := fun ds S d S' => ∃ (a : Addr) (q : Pot) (p : Int) (n : Nat), ds = [.adr a, .int p, .int n] ∧ S = ptS a q ∧ (Pr p ∧ pOk q ∧ n ≤ 6) ∧ d = lL (ltabF p n q).1 ∧ S' = ptS a (ltabF p n q).2
end

end K88

set_option Elab.async false
set_option linter.all false
set_option autoImplicit false
set_option maxRecDepth 100000
set_option maxHeartbeats 400000
namespace K88
open PySem PySem.Spec PyProof.Rows L2 RZ Ab
local macro_rules | `(tactic| walk_at "has") => `(tactic| first | exact Has.here | (apply Has.there; walk_at "has"))
local macro_rules | `(tactic| walk_at "ata") => `(tactic| first | exact At.here | (apply At.there; walk_at "ata"))
local macro_rules | `(tactic| walk_at "put") => `(tactic| first | exact Put.here | (apply Put.there; walk_at "put"))
local macro_rules | `(tactic| walk_at "puta") => `(tactic| first | exact PutA.here | (apply PutA.there; walk_at "puta"))
local macro_rules | `(tactic| walk_at "wk") => `(tactic| first | exact Wk.nil | (apply Wk.same; walk_at "wk") | (apply Wk.no; walk_at "wk"))
local macro_rules | `(tactic| walk_at "side") => `(tactic| first | assumption | omega | decide)
local macro_rules | `(tactic| walk_at "de") => `(tactic| first
  | assumption
  | exact de_int
  | exact de_non
  | exact de_bl
  | exact de_str
  | (refine' de_name rfl ?hz; (case hz => walk_at "has"))
  | (refine' de_mod ?d1 ?d2 ?d3; (case d1 => walk_at "de"); (case d2 => walk_at "de"); (case d3 => walk_at "side"))
  | (refine' de_add ?d1 ?d2; (case d1 => walk_at "de"); (case d2 => walk_at "de"))
  | (refine' de_sub ?d1 ?d2; (case d1 => walk_at "de"); (case d2 => walk_at "de"))
  | (refine' de_mul ?d1 ?d2 ?d3; (case d1 => walk_at "de"); (case d2 => walk_at "de"); (case d3 => first | assumption | (refine mulW1 ?_ ?_ <;> omega)))
  | (refine' de_fdiv ?d1 ?d2 ?d3; (case d1 => walk_at "de"); (case d2 => walk_at "de"); (case d3 => exact divW (by omega)))
  | (refine' de_tupX ?d1 ?d2; (case d1 => walk_at "da"); (case d2 => exact Nat.le_of_ble_eq_true rfl))
  )
local macro_rules | `(tactic| walk_at "da") => `(tactic| first | exact da_nil | (refine' da_cons ?a1 ?a2; (case a1 => walk_at "de"); (case a2 => walk_at "da")))
local macro_rules | `(tactic| walk_at "db") => `(tactic| first
  | assumption
  | (refine' db_eqI ?d1 ?d2; (case d1 => walk_at "de"); (case d2 => walk_at "de"))
  | (refine' db_neI ?d1 ?d2; (case d1 => walk_at "de"); (case d2 => walk_at "de"))
  | (refine' db_lt ?d1 ?d2; (case d1 => walk_at "de"); (case d2 => walk_at "de"))
  | (refine' db_gt ?d1 ?d2; (case d1 => walk_at "de"); (case d2 => walk_at "de"))
  | (refine' db_le ?d1 ?d2; (case d1 => walk_at "de"); (case d2 => walk_at "de"))
  | (refine' db_ge ?d1 ?d2; (case d1 => walk_at "de"); (case d2 => walk_at "de"))
  | (refine' db_not ?d1; (case d1 => walk_at "db"))
  )
section
variable {P : Program} {w : World} {K : PySem.W.Frag} {mg : Str → Option Value} {base : Heap}
open Rk
/-- a room's table, as the package asks it -/
theorem rm_sym {p : Int} {n : Nat} {t : List (List Int)} (h : Dt.Rm p n t) : Sym t := by
  have hl := h.mat.1
  unfold Sym turnF
  refine List.ext_getElem? fun i => ?_
  by_cases hi : i < n
  · rw [List.getElem?_map, hl, rg_get hi, (h.mat.get hi).1]
    show some (t.map fun r => r.getD i 0) = some (gr t i)
    congr 1
    refine List.ext_getElem? fun j => ?_
    by_cases hj : j < n
    · rw [List.getElem?_map, (h.mat.get hj).1, ((h.mat.get hi).2.get hj).1]
      exact congrArg some (h.sym j i hj hi)
    · rw [List.getElem?_eq_none (by rw [List.length_map]; omega), List.getElem?_eq_none (by rw [(h.mat.get hi).2.1]; omega)]
  · rw [List.getElem?_eq_none (by rw [List.length_map, rg_len]; omega), List.getElem?_eq_none (by omega)]
theorem rm_pT {p : Int} {n : Nat} {t : List (List Int)} (hp : Pr p) (h : Dt.Rm p n t) (hn : n ≤ 6) : pT p t n := ⟨hp, h.mat, hn⟩
theorem rm_new {p : Int} {n : Nat} {t : List (List Int)} (hp : Pr p) (h : Dt.Rm p n t) (hn : n ≤ 6) : i_RoomL [.int p, lL t] (rmF p t) := ⟨p, t, n, rfl, ⟨hp, h.mat, hn, rm_sym h⟩, rfl⟩
section
variable {X : Cx} {Δ : List Sl} {S S1 : PotS} {pos : Pos} {a b e e2 : Expr} {p : Int} {n m : Nat} {t u : List (List Int)} {q : Pos}
/-- Room(p, t) -/
theorem de_room {j : Nat} (T : Fx X.K X.mg) (hr : Room j X.A) (hj : 7 ≤ j) (hg : Gl X "Room") (hp : Pr p) (h : Dt.Rm p n t) (hn : n ≤ 6) (ha : DA X [a, b] Δ S [.int p, lL t] S1) (hdb : (("Room" : Str) == ("__debug__" : Str)) = false := by decide) (he : starEach [a, b] X.env = (false, eval a X.env) :: starEach [b] X.env := by rfl) (hpl : (backTo pos (starEach [b] X.env)).any (·.1) = false := by rfl) : DE X (.Call (.Name "Room" q) [a, b] [] pos) Δ S (rmD X.K p t) S1 :=
  de_new (dd := []) (ds := [.int p, lL t]) (ok_RoomL T) hr hj hg ha (rm_new hp h hn) hdb he hpl
end
theorem pick_pr {q : Pot} : ∃ p, Pr p ∧ ([3, 5, 7, 11, 13] : List Int)[(drawF q (([3, 5, 7, 11, 13] : List Int).length : Nat)).1.toNat]? = some p := by
  have b := draw_b (q := q) (m := (([3, 5, 7, 11, 13] : List Int).length : Nat)) (by decide)
  generalize (drawF q (([3, 5, 7, 11, 13] : List Int).length : Nat)).1 = x at b
  have b2 : x < 5 := b.2
  have b1 : 0 ≤ x := b.1
  have : x = 0 ∨ x = 1 ∨ x = 2 ∨ x = 3 ∨ x = 4 := by omega
  rcases this with rfl | rfl | rfl | rfl | rfl
  · exact ⟨3, .inl rfl, rfl⟩
  · exact ⟨5, .inr (.inl rfl), rfl⟩
  · exact ⟨7, .inr (.inr (.inl rfl)), rfl⟩
  · exact ⟨11, .inr (.inr (.inr (.inl rfl))), rfl⟩
  · exact ⟨13, .inr (.inr (.inr (.inr rfl))), rfl⟩
theorem nat_of {x : Int} (h : 0 ≤ x) : ∃ n : Nat, x = n := ⟨x.toNat, by omega⟩
theorem rm_nil {p : Int} : Dt.Rm p 0 [] := ⟨⟨rfl, fun r h => by cases h⟩, fun i j h => by omega⟩
theorem rm_zero {p : Int} (hp : Pr p) : Dt.Rm p 1 [[0]] := by
  have := hp.b
  refine ⟨⟨rfl, fun r hr => ?_⟩, fun i j hi hj => ?_⟩
  · rw [List.mem_singleton.mp hr]
    refine ⟨rfl, fun x hx => ?_⟩
    rw [List.mem_singleton.mp hx]
    omega
  · rw [show i = 0 by omega, show j = 0 by omega]
end

end K88

set_option Elab.async false
set_option linter.all false
set_option autoImplicit false
set_option maxRecDepth 100000
set_option maxHeartbeats 400000
namespace K88
open PySem PySem.Spec PyProof.Rows L2 RZ Ab
local macro_rules | `(tactic| walk_at "has") => `(tactic| first | exact Has.here | (apply Has.there; walk_at "has"))
local macro_rules | `(tactic| walk_at "ata") => `(tactic| first | exact At.here | (apply At.there; walk_at "ata"))
local macro_rules | `(tactic| walk_at "put") => `(tactic| first | exact Put.here | (apply Put.there; walk_at "put"))
local macro_rules | `(tactic| walk_at "puta") => `(tactic| first | exact PutA.here | (apply PutA.there; walk_at "puta"))
local macro_rules | `(tactic| walk_at "wk") => `(tactic| first | exact Wk.nil | (apply Wk.same; walk_at "wk") | (apply Wk.no; walk_at "wk"))
local macro_rules | `(tactic| walk_at "side") => `(tactic| first | assumption | omega | decide)
local macro_rules | `(tactic| walk_at "de") => `(tactic| first
  | assumption
  | exact de_int
  | exact de_non
  | exact de_bl
  | exact de_str
  | (refine' de_name rfl ?hz; (case hz => walk_at "has"))
  | (refine' de_mod ?d1 ?d2 ?d3; (case d1 => walk_at "de"); (case d2 => walk_at "de"); (case d3 => walk_at "side"))
  | (refine' de_add ?d1 ?d2; (case d1 => walk_at "de"); (case d2 => walk_at "de"))
  | (refine' de_sub ?d1 ?d2; (case d1 => walk_at "de"); (case d2 => walk_at "de"))
  | (refine' de_mul ?d1 ?d2 ?d3; (case d1 => walk_at "de"); (case d2 => walk_at "de"); (case d3 => first | assumption | (refine mulW1 ?_ ?_ <;> omega)))
  | (refine' de_fdiv ?d1 ?d2 ?d3; (case d1 => walk_at "de"); (case d2 => walk_at "de"); (case d3 => exact divW (by omega)))
  | (refine' de_tupX ?d1 ?d2; (case d1 => walk_at "da"); (case d2 => exact Nat.le_of_ble_eq_true rfl))
  )
local macro_rules | `(tactic| walk_at "da") => `(tactic| first | exact da_nil | (refine' da_cons ?a1 ?a2; (case a1 => walk_at "de"); (case a2 => walk_at "da")))
local macro_rules | `(tactic| walk_at "db") => `(tactic| first
  | assumption
  | (refine' db_eqI ?d1 ?d2; (case d1 => walk_at "de"); (case d2 => walk_at "de"))
  | (refine' db_neI ?d1 ?d2; (case d1 => walk_at "de"); (case d2 => walk_at "de"))
  | (refine' db_lt ?d1 ?d2; (case d1 => walk_at "de"); (case d2 => walk_at "de"))
  | (refine' db_gt ?d1 ?d2; (case d1 => walk_at "de"); (case d2 => walk_at "de"))
  | (refine' db_le ?d1 ?d2; (case d1 => walk_at "de"); (case d2 => walk_at "de"))
  | (refine' db_ge ?d1 ?d2; (case d1 => walk_at "de"); (case d2 => walk_at "de"))
  | (refine' db_not ?d1; (case d1 => walk_at "db"))
  )
section
variable {P : Program} {w : World} {K : PySem.W.Frag} {mg : Str → Option Value} {base : Heap}
open Rk
open Dt (scal wo anyF headsAt pivF stA stS stepsF scal_row wo_row heads_mem stS_ok hdF)
def r_scaled_of : Sig := fun ds S d S' => ∃ (p : Int) (r : List Int) (c : Int), ds = [.int p, tI r, .int c] ∧ (Pr p ∧ Rests p r ∧ r.length ≤ 1000 ∧ 0 ≤ c ∧ c < p) ∧ d = tI (scal p r c) ∧ S' = S
theorem ok_scaled_of (T : Fx K mg) : Ok P w K mg base "scaled_of" 1 r_scaled_of := by
  refine ok_of T.g_scaled_of T.f_scaled_of sc_scaled_of (fun _ _ _ _ _ _ us hl => match us, hl with | [_, _, _], _ => rfl) (fun ds S d S' ⟨_, _, _, h, _⟩ => by rw [h]; rfl) ?_
  rintro f cdv A outer s H E hr ds S d S' eq ⟨p, r, c, rfl, ⟨hp, hr1, hl, hc0, hc1⟩, rfl, rfl⟩
  have hb := hp.b
  show SX _ _ [.dat (.int p), .dat (tI r), .dat (.int c), .no] S' _
  refine sx_one (s1_ret (DE.cast (de_tupL (DN.seq (LC.dn (own := [("number", 3)]) (lc_nameM (xs := r) (φ := .int) (g := fun x => .int (c * x % p)) (ds_tup (ds := r.map .int) (by walk_at "de")).c sc_scaled_of.nd (j := 3) rfl (by omega) ?_) rfl sc_scaled_of.nd (blkOk_by (N := N_scaled_of) (sc := defScope (topS 24)) (by decide +kernel)))) (by rfl) T.b_tuple) (by rw [map_id_ints]; rfl)) ⟨rfl, rfl⟩)
  intro s3 H3 C3 cl3 fp3 x hx
  have := hr1 x hx
  show DE _ _ [.dat (.int p), .dat (tI r), .dat (.int c), .dat (.int x)] S' _ S'
  exact de_mod (X := blk _ _ s3 H3 C3 cl3 fp3) (de_mul (by walk_at "de") (by walk_at "de") (mulW1 (by omega) (by omega))) (by walk_at "de") (by omega)
def r_without : Sig := fun ds S d S' => ∃ (p : Int) (r h : List Int) (n c : Nat), ds = [.int p, tI r, tI h, .int (c : Int)] ∧ (Pr p ∧ Row p n r ∧ Row p n h ∧ c < n ∧ n ≤ 1000) ∧ d = tI (wo p r h c) ∧ S' = S
theorem ok_without (T : Fx K mg) : Ok P w K mg base "without" 2 r_without := by
  refine ok_of T.g_without T.f_without sc_without (fun _ _ _ _ _ _ us hl => match us, hl with | [_, _, _, _], _ => rfl) (fun ds S d S' ⟨_, _, _, _, _, h, _⟩ => by rw [h]; rfl) ?_
  rintro f cdv A outer s H E hr ds S d S' eq ⟨p, r, h, n, c, rfl, ⟨hp, h1, h2, hc, hn⟩, rfl, rfl⟩
  have hb := hp.b
  obtain ⟨k1, k2⟩ := h1.get hc
  show SX _ _ [.dat (.int p), .dat (tI r), .dat (tI h), .dat (.int (c : Int))] S' _
  exact sx_one (s1_ret (de_ok (ok_sum_of T) hr (by decide) rfl (da_cons (by walk_at "de") (da_cons (by walk_at "de") (da_cons (by walk_at "de") (da_cons (de_sub de_int (de_ix (t := true) (i := (c : Int)) (DE.tup (ds := r.map .int) (by walk_at "de")) (by walk_at "de") (atI_map k1))) da_nil)))) (PotEq.refl _) ⟨p, r, h, 0 - r.getD c 0, rfl, ⟨hp, h1.2, h2.2, by rw [h1.1]; exact hn, by omega, by omega⟩, rfl, rfl⟩) ⟨rfl, rfl⟩)
def r_steps_of : Sig := fun ds S d S' => ∃ (p : Int) (t : Bool) (rows : List (List Int)) (n : Nat), ds = [.int p, sq t (rows.map tI)] ∧ (Pr p ∧ (∀ r, r ∈ rows → Row p n r) ∧ n ≤ 100 ∧ rows.length ≤ 1000) ∧ d = lT (stepsF p rows) ∧ S' = S
theorem ok_steps_of (T : Fx K mg) : Ok P w K mg base "steps_of" 3 r_steps_of := by
  refine ok_of T.g_steps_of T.f_steps_of sc_steps_of (fun _ _ _ _ _ _ us hl => match us, hl with | [_, _], _ => rfl) (fun ds S d S' ⟨_, _, _, _, h, _⟩ => by rw [h]; rfl) ?_
  rintro f cdv A outer s H E hr ds S d S' eq ⟨p, t, rows, n, rfl, ⟨hp, hrows, hn, hlen⟩, rfl, rfl⟩
  have hb := hp.b
  have hsq : ∀ {X : Cx} {e : Expr} {Δ : List Sl}, DE X e Δ S' (sq t (rows.map tI)) S' → DQ X e Δ S' t (rows.map tI) S' := fun {X e Δ} h => by
    cases t with
    | true => exact DE.tup h
    | false => exact DE.lst h
  show SX _ _ [.dat (.int p), .dat (sq t (rows.map tI)), .no, .no, .no, .no, .no, .no, .no] S' _
  refine sx_cons (p_par2 (s := .dat (.lst ((stS p rows 0).1.map tI))) (t := .dat (.lst ((stS p rows 0).2.map tI))) rfl rfl sc_steps_of.nd (dv_dat (DN.dat (dn_list (hsq (by walk_at "de")) (by rfl) T.b_list)) (dv_dat (DN.dat (dn_lst (ds := []) da_nil (Nat.zero_le _))) dv_nil)) (by walk_at "puta") (by walk_at "puta") ?_ (by decide) rfl rfl (by rfl))
  obtain ⟨m, hm⟩ : ∃ m, (rows.headD []).length = m := ⟨_, rfl⟩
  have hmn : rows ≠ [] → m = n := fun h => by
    cases rows with
    | nil => exact absurd rfl h
    | cons r0 rs => rw [← hm]; exact (hrows r0 List.mem_cons_self).1
  have hm0 : rows = [] → m = 0 := fun h => by rw [← hm, h]; rfl
  unfold stepsF
  rw [hm]
  have hmb : m ≤ 100 := by
    by_cases h : rows = []
    · rw [hm0 h]; omega
    · rw [hmn h]; exact hn
  refine sx_forT (fun i => [.dat (.int p), .dat (sq t (rows.map tI)), .dat (.lst ((stS p rows i).1.map tI)), .dat (.lst ((stS p rows i).2.map tI)), .no, .no, .no, .no, .no]) (fun _ => S') (ds_range1 (n := (m : Int)) (DE.cast (de_if (k := decide (0 < (rows.length : Int))) (d1 := .int (m : Int)) (d2 := .int 0) (db_gt (DE.cast (de_len (hsq (by walk_at "de")) (by rfl) T.b_len) (by rw [List.length_map])) de_int) (fun hk => ?_) (fun _ => de_int)) ?_) (by omega) rfl T.b_range) tm_one
    (tg_name sc_steps_of.nd (j := 4) rfl (by first | exact .inl rfl | exact .inr rfl)) (by walk_at "wk") (fun i y hy _ => ?_) (fun _ => ?_) (ps_for PassesOwn.never rfl WI.pi WG.pg WS.ps)
  · have hk := of_decide_eq_true hk
    cases rows with
    | nil => exact absurd hk (by decide)
    | cons r0 rs =>
      have e : (r0.map D.int).length = m := by rw [List.length_map]; exact hm
      exact DE.cast (de_len (DE.tup (ds := r0.map .int) (de_ix (t := t) (ds := (r0 :: rs).map tI) (i := ((0 : Nat) : Int)) (hsq (by walk_at "de")) de_int (atI_get (j := 0) rfl))) (by rfl) T.b_len) (by rw [e])
  · by_cases h : rows = []
    · rw [hm0 h, h]
      rfl
    · rw [if_pos (decide_eq_true (by have := List.length_pos_iff.mpr h; omega))]
  · have hi : i < m := by
      have := (List.getElem?_eq_some_iff.mp hy).1
      rw [iot_len] at this
      omega
    have ey : y = (i : Int) := by
      rw [iot_get (by omega)] at hy
      have := Option.some.inj hy
      omega
    subst ey
    have hne : rows ≠ [] := fun h => by have := hm0 h; omega
    have hin : i < n := by have := hmn hne; omega
    obtain ⟨h1, h2, h3, h4⟩ := stS_ok (by omega) hrows i
    show SX _ _ [.dat (.int p), .dat (sq t (rows.map tI)), .dat (.lst ((stS p rows i).1.map tI)), .dat (.lst ((stS p rows i).2.map tI)), .dat (.int (i : Int)), .no, .no, .no, .no] S' _
    have hst : stS p rows (i + 1) = stA p i (stS p rows i) := rfl
    rw [hst]
    generalize stS p rows i = z at h1 h2 h3 h4 ⊢
    obtain ⟨l, f⟩ := z
    have h1 : ∀ r, r ∈ l → Row p n r := h1
    have h2 : ∀ r, r ∈ f → Row p n r := h2
    have h3 : l.length ≤ rows.length := h3
    have h4 : f.length ≤ i := h4
    refine sx_cons (p_lc rfl sc_steps_of.nd (lc_name (xs := l) (φ := tI) (g := tI) (bt := fun r => decide (r.getD i 0 ≠ 0)) (ds_list (ds := l.map tI) (by walk_at "de")).c sc_steps_of.nd (j := 6) rfl (by omega) ?_ ?_) (own := [("row", 6)]) (by walk_at "put") ?_ rfl rfl rfl (blkOk_by (N := N_steps_of) (sc := defScope (topS 39)) (by decide +kernel)))
    · intro s2 H2 C2 cl2 fp2 r hrm
      obtain ⟨k1, _⟩ := (h1 r hrm).get hin
      exact dp_one (DB.dt (DB.cast (db_neI (de_ix (X := blk _ _ s2 H2 C2 cl2 fp2) (t := true) (i := (i : Int)) (DE.tup (ds := r.map .int) (de_name rfl (by walk_at "has"))) (de_name rfl (by walk_at "has")) (atI_map k1)) de_int) (by rw [decide_not])))
    · intro s2 H2 C2 cl2 fp2 v hv _
      exact de_name rfl (by walk_at "has")
    show SX _ _ [.dat (.int p), .dat (sq t (rows.map tI)), .dat (.lst (l.map tI)), .dat (.lst (f.map tI)), .dat (.int (i : Int)), .dat (.lst ((headsAt i l).map tI)), .no, .no, .no] S' _
    unfold stA
    dsimp only
    cases hh : headsAt i l with
    | nil =>
      refine sx_one (s1_if (k := !(([] : List (List Int)).map tI).isEmpty) (db_neNil (t := false) (by exact hr) (by walk_at "de") rfl) (fun k => nomatch k) fun _ => sx_nil ⟨by walk_at "wk", rfl⟩)
    | cons h0 hs =>
      dsimp only
      obtain ⟨m1, m2⟩ := heads_mem hh
      have hr0 := h1 h0 m1
      obtain ⟨k1, k2⟩ := hr0.get hin
      have hpv : Row p n (pivF p h0 i) := scal_row (by omega) hr0
      have hun : 0 ≤ undone p (h0.getD i 0) ∧ undone p (h0.getD i 0) < p := powN_b (by omega) _
      refine sx_one (s1_if (k := !(((h0 :: hs : List (List Int))).map tI).isEmpty) (db_neNil (t := false) (by exact hr) (by walk_at "de") ?_) (fun _ => ?_) fun k => nomatch k)
      · show ((h0 :: hs).map tI).all (dOk 59) = true
        rw [List.all_map, List.all_eq_true]
        intro x _
        show (x.map D.int).all (dOk 58) = true
        rw [List.all_map, List.all_eq_true]
        intro _ _
        rfl
      have hx0 : ∀ {X : Cx} {e : Expr} {Δ : List Sl} {pos q : Pos}, DE X e Δ S' (.lst ((h0 :: hs).map tI)) S' → DE X (.Subscript e (.Constant (.int 0) 0 q) pos) Δ S' (tI h0) S' := fun h => de_ix (t := false) (ds := (h0 :: hs).map tI) (i := ((0 : Nat) : Int)) (DE.lst h) de_int (atI_get (j := 0) rfl)
      refine sx_cons (p_set rfl sc_steps_of.nd (d := tI (pivF p h0 i)) (de_ok (ok_scaled_of T) hr (by decide) rfl (da_cons (by walk_at "de") (da_cons (hx0 (by walk_at "de")) (da_cons (de_ok (ok_undone_of T) hr (by decide) rfl (da_cons (by walk_at "de") (da_cons (de_ix (t := true) (i := (i : Int)) (DE.tup (ds := h0.map .int) (hx0 (by walk_at "de"))) (by walk_at "de") (atI_map k1)) da_nil)) (PotEq.refl _) ⟨p, h0.getD i 0, rfl, ⟨hp, k2.1, k2.2⟩, rfl, rfl⟩) da_nil))) (PotEq.refl _) ⟨p, h0, undone p (h0.getD i 0), rfl, ⟨hp, hr0.2, by rw [hr0.1]; omega, hun.1, hun.2⟩, rfl, rfl⟩) (by walk_at "put") ?_)
      show SX _ _ [.dat (.int p), .dat (sq t (rows.map tI)), .dat (.lst (l.map tI)), .dat (.lst (f.map tI)), .dat (.int (i : Int)), .dat (.lst ((h0 :: hs).map tI)), .no, .dat (tI (pivF p h0 i)), .no] S' _
      generalize pivF p h0 i = pv at hpv ⊢
      refine sx_cons (p_lc rfl sc_steps_of.nd (lc_nameM (xs := l) (φ := tI) (g := fun r => tI (wo p r pv i)) (ds_list (ds := l.map tI) (by walk_at "de")).c sc_steps_of.nd (j := 6) rfl (by omega) ?_) (own := [("row", 6)]) (by walk_at "put") ?_ rfl rfl rfl (blkOk_by (N := N_steps_of) (sc := defScope (topS 39)) (by decide +kernel)))
      · intro s2 H2 C2 cl2 fp2 r hrm
        exact de_ok (X := blk _ _ s2 H2 C2 cl2 fp2) (ok_without T) hr (by decide) rfl (da_cons (de_name rfl (by walk_at "has")) (da_cons (de_name rfl (by walk_at "has")) (da_cons (de_name rfl (by walk_at "has")) (da_cons (de_name rfl (by walk_at "has")) da_nil)))) (PotEq.refl _) ⟨p, r, pv, n, i, rfl, ⟨hp, h1 r hrm, hpv, hin, by omega⟩, rfl, rfl⟩
      rw [map_comp (f := fun r : List Int => wo p r pv i) (φ := tI)]
      show SX _ _ [.dat (.int p), .dat (sq t (rows.map tI)), .dat (.lst (l.map tI)), .dat (.lst (f.map tI)), .dat (.int (i : Int)), .dat (.lst ((h0 :: hs).map tI)), .no, .dat (tI pv), .dat (.lst ((l.map fun r => wo p r pv i).map tI))] S' _
      refine sx_cons (p_lc rfl sc_steps_of.nd (lc_name (xs := l.map fun r => wo p r pv i) (φ := tI) (g := tI) (bt := anyF) (ds_list (ds := (l.map fun r => wo p r pv i).map tI) (by walk_at "de")).c sc_steps_of.nd (j := 6) rfl (by rw [List.length_map]; omega) ?_ ?_) (own := [("row", 6)]) (by walk_at "put") ?_ rfl rfl rfl (blkOk_by (N := N_steps_of) (sc := defScope (topS 39)) (by decide +kernel)))
      · intro s2 H2 C2 cl2 fp2 r hrm
        exact dp_one (DB.dt (db_val (de_anyT (X := blk _ _ s2 H2 C2 cl2 fp2) (ns := r) rfl (de_name rfl (by walk_at "has")) (by rfl) T.b_any)))
      · intro s2 H2 C2 cl2 fp2 v hv _
        exact de_name rfl (by walk_at "has")
      show SX _ _ [.dat (.int p), .dat (sq t (rows.map tI)), .dat (.lst (((l.map fun r => wo p r pv i).filter anyF).map tI)), .dat (.lst (f.map tI)), .dat (.int (i : Int)), .dat (.lst ((h0 :: hs).map tI)), .no, .dat (tI pv), .dat (.lst ((l.map fun r => wo p r pv i).map tI))] S' _
      refine sx_one (p_set rfl sc_steps_of.nd (d := .lst (((f.map fun r => wo p r pv i) ++ [pv]).map tI)) (DN.dat (DN.cast (dn_catQ (ds := f.map fun r => tI (wo p r pv i)) (es := [tI pv]) (DN.seq (LC.dn (own := [("row", 6)]) (lc_nameM (xs := f) (φ := tI) (g := fun r => tI (wo p r pv i)) (ds_list (ds := f.map tI) (by walk_at "de")).c sc_steps_of.nd (j := 6) rfl (by omega) ?_) rfl sc_steps_of.nd (blkOk_by (N := N_steps_of) (sc := defScope (topS 39)) (by decide +kernel)))) (DN.seq (dn_lst (da_cons (by walk_at "de") da_nil) (Nat.le_of_ble_eq_true rfl))) ?_) ?_)) (by walk_at "put") ⟨?_, rfl⟩)
      · intro s2 H2 C2 cl2 fp2 r hrm
        exact de_ok (X := blk _ _ s2 H2 C2 cl2 fp2) (ok_without T) hr (by decide) rfl (da_cons (de_name rfl (by walk_at "has")) (da_cons (de_name rfl (by walk_at "has")) (da_cons (de_name rfl (by walk_at "has")) (da_cons (de_name rfl (by walk_at "has")) da_nil)))) (PotEq.refl _) ⟨p, r, pv, n, i, rfl, ⟨hp, h2 r hrm, hpv, hin, by omega⟩, rfl, rfl⟩
      · rw [List.length_map]
        show f.length + 1 ≤ 100000
        omega
      · rw [List.map_append, List.map_map]
        rfl
      · walk_at "wk"
  · rw [show (iot 0 1 (m : Int).toNat).length = m by rw [iot_len, Int.toNat_natCast]]
    exact sx_one (s1_ret (by walk_at "de") ⟨rfl, rfl⟩)
end

end K88

set_option Elab.async false
set_option linter.all false
set_option autoImplicit false
set_option maxRecDepth 100000
set_option maxHeartbeats 400000
namespace K88
open PySem PySem.Spec PyProof.Rows L2 RZ Ab
local macro_rules | `(tactic| walk_at "has") => `(tactic| first | exact Has.here | (apply Has.there; walk_at "has"))
local macro_rules | `(tactic| walk_at "ata") => `(tactic| first | exact At.here | (apply At.there; walk_at "ata"))
local macro_rules | `(tactic| walk_at "put") => `(tactic| first | exact Put.here | (apply Put.there; walk_at "put"))
local macro_rules | `(tactic| walk_at "puta") => `(tactic| first | exact PutA.here | (apply PutA.there; walk_at "puta"))
local macro_rules | `(tactic| walk_at "wk") => `(tactic| first | exact Wk.nil | (apply Wk.same; walk_at "wk") | (apply Wk.no; walk_at "wk"))
local macro_rules | `(tactic| walk_at "side") => `(tactic| first | assumption | omega | decide)
local macro_rules | `(tactic| walk_at "de") => `(tactic| first
  | assumption
  | exact de_int
  | exact de_non
  | exact de_bl
  | exact de_str
  | (refine' de_name rfl ?hz; (case hz => walk_at "has"))
  | (refine' de_mod ?d1 ?d2 ?d3; (case d1 => walk_at "de"); (case d2 => walk_at "de"); (case d3 => walk_at "side"))
  | (refine' de_add ?d1 ?d2; (case d1 => walk_at "de"); (case d2 => walk_at "de"))
  | (refine' de_sub ?d1 ?d2; (case d1 => walk_at "de"); (case d2 => walk_at "de"))
  | (refine' de_mul ?d1 ?d2 ?d3; (case d1 => walk_at "de"); (case d2 => walk_at "de"); (case d3 => first | assumption | (refine mulW1 ?_ ?_ <;> omega)))
  | (refine' de_fdiv ?d1 ?d2 ?d3; (case d1 => walk_at "de"); (case d2 => walk_at "de"); (case d3 => exact divW (by omega)))
  | (refine' de_tupX ?d1 ?d2; (case d1 => walk_at "da"); (case d2 => exact Nat.le_of_ble_eq_true rfl))
  )
local macro_rules | `(tactic| walk_at "da") => `(tactic| first | exact da_nil | (refine' da_cons ?a1 ?a2; (case a1 => walk_at "de"); (case a2 => walk_at "da")))
local macro_rules | `(tactic| walk_at "db") => `(tactic| first
  | assumption
  | (refine' db_eqI ?d1 ?d2; (case d1 => walk_at "de"); (case d2 => walk_at "de"))
  | (refine' db_neI ?d1 ?d2; (case d1 => walk_at "de"); (case d2 => walk_at "de"))
  | (refine' db_lt ?d1 ?d2; (case d1 => walk_at "de"); (case d2 => walk_at "de"))
  | (refine' db_gt ?d1 ?d2; (case d1 => walk_at "de"); (case d2 => walk_at "de"))
  | (refine' db_le ?d1 ?d2; (case d1 => walk_at "de"); (case d2 => walk_at "de"))
  | (refine' db_ge ?d1 ?d2; (case d1 => walk_at "de"); (case d2 => walk_at "de"))
  | (refine' db_not ?d1; (case d1 => walk_at "db"))
  )
section
variable {P : Program} {w : World} {K : PySem.W.Frag} {mg : Str → Option Value} {base : Heap}
open Rk
open Dt (scaledF pwF undF uppF up0 uprF kcF pw_b und_b upp_b up_parts kc_b big)
theorem bigW {i j : Int} (hi : i.natAbs < big) (hj : j.natAbs < big) : CMulW i j := mulW (Nat.lt_trans hi (by decide)) (Nat.lt_trans hj (by decide))
theorem big1 {i : Int} (h : -1000 ≤ i ∧ i ≤ 1000) : i.natAbs < big := Nat.lt_of_lt_of_le (show i.natAbs < 1001 by omega) (by decide)
def r_want_rest : Sig := fun ds S d S' => ∃ p n : Int, ds = [.int p, .int n] ∧ (0 ≤ n ∧ n < p) ∧ d = .non ∧ S' = S
def r_scaled (K : PySem.W.Frag) : Sig := fun ds S d S' => ∃ (p c : Int) (t : List (List Int)) (n : Nat), ds = [rmD K p t, .int c] ∧ (pT p t n ∧ 0 ≤ c ∧ c < p) ∧ d = rmD K p (scaledF p c t) ∧ S' = S
/-! ### keepers counted -/
def r_powered : Sig := fun ds S d S' => ∃ (x m : Int), ds = [.int x, .int m] ∧ ((-13 ≤ x ∧ x ≤ 13) ∧ 0 ≤ m ∧ m ≤ 36) ∧ d = .int (pwF x m.toNat) ∧ S' = S
theorem ok_powered (T : Fx K mg) : Ok P w K mg base "powered" 1 r_powered := by
  refine ok_of T.g_powered T.f_powered sc_powered (fun _ _ _ _ _ _ us hl => match us, hl with | [_, _], _ => rfl) (fun ds S d S' ⟨_, _, h, _⟩ => by rw [h]; rfl) ?_
  rintro f cdv A outer s H E hr ds S d S' eq ⟨x, m, rfl, ⟨hx, h0, h1⟩, rfl, rfl⟩
  show SX _ _ [.dat (.int x), .dat (.int m), .no, .no] S' _
  refine sx_cons (p_set rfl sc_powered.nd (d := .int 1) de_int (by walk_at "put") ?_)
  refine sx_forT (fun i => [.dat (.int x), .dat (.int m), .dat (.int (pwF x i)), .no]) (fun _ => S') (ds_range1 (n := m) (by walk_at "de") (by omega) rfl T.b_range) tm_one
    (tg_name sc_powered.nd (j := 3) rfl (.inl rfl)) (by walk_at "wk") (fun i y hy _ => ?_) (fun _ => ?_) (ps_for PassesOwn.never rfl WI.pi WG.pg WS.ps)
  · have hi : i < m.toNat := by
      have := (List.getElem?_eq_some_iff.mp hy).1
      rw [iot_len] at this
      exact this
    have hm : CMulW (pwF x i) x := bigW (pw_b hx (by omega)) (big1 (by omega))
    show SX _ _ [.dat (.int x), .dat (.int m), .dat (.int (pwF x i)), .dat (.int y)] _ _
    exact sx_one (p_set rfl sc_powered.nd (by walk_at "de") (by walk_at "put") ⟨by walk_at "wk", rfl⟩)
  · rw [show (iot 0 1 m.toNat).length = m.toNat from iot_len]
    exact sx_one (s1_ret (by walk_at "de") ⟨rfl, rfl⟩)
section
variable {X : Cx} {Δ : List Sl} {S S1 : PotS} {pos q : Pos} {a b : Expr} {x : Int} {m : Nat} {j : Nat}
/-- powered(x, m) -/
theorem de_pw (T : Fx X.K X.mg) (hr : Room j X.A) (hj : 1 ≤ j) (hg : Gl X "powered") (hx : -13 ≤ x ∧ x ≤ 13) (hm : m ≤ 36) (ha : DA X [a, b] Δ S [.int x, .int (m : Int)] S1) (hdb : (("powered" : Str) == ("__debug__" : Str)) = false := by decide) (he : starEach [a, b] X.env = (false, eval a X.env) :: starEach [b] X.env := by rfl) (hpl : (backTo pos (starEach [b] X.env)).any (·.1) = false := by rfl) : DE X (.Call (.Name "powered" q) [a, b] [] pos) Δ S (.int (pwF x m)) S1 :=
  DE.cast (de_ok (ok_powered T) hr hj hg ha (PotEq.refl _) ⟨x, m, rfl, ⟨hx, by omega, by omega⟩, rfl, rfl⟩ hdb he hpl) (by rw [Int.toNat_natCast])
end
def r_undone_count : Sig := fun ds S d S' => ∃ (p : Int) (n : Nat), ds = [.int p, .int (n : Int)] ∧ (Pr p ∧ n ≤ 6) ∧ d = .int (undF p n n) ∧ S' = S
theorem ok_undone_count (T : Fx K mg) : Ok P w K mg base "undone_count" 2 r_undone_count := by
  refine ok_of T.g_undone_count T.f_undone_count sc_undone_count (fun _ _ _ _ _ _ us hl => match us, hl with | [_, _], _ => rfl) (fun ds S d S' ⟨_, _, h, _⟩ => by rw [h]; rfl) ?_
  rintro f cdv A outer s H E hr ds S d S' eq ⟨p, n, rfl, ⟨hp, hn⟩, rfl, rfl⟩
  have hb := hp.b
  show SX _ _ [.dat (.int p), .dat (.int (n : Int)), .no, .no] S' _
  refine sx_cons (p_set rfl sc_undone_count.nd (d := .int 1) de_int (by walk_at "put") ?_)
  refine sx_forT (fun i => [.dat (.int p), .dat (.int (n : Int)), .dat (.int (undF p n i)), .no]) (fun _ => S') (ds_range1 (n := n) (by walk_at "de") (by omega) rfl T.b_range) tm_one
    (tg_name sc_undone_count.nd (j := 3) rfl (.inl rfl)) (by walk_at "wk") (fun i y hy _ => ?_) (fun _ => ?_) (ps_for PassesOwn.never rfl WI.pi WG.pg WS.ps)
  · have hi : i < n := by
      have := (List.getElem?_eq_some_iff.mp hy).1
      rw [iot_len] at this
      omega
    have ey : y = (i : Nat) := by
      rw [iot_get (by omega)] at hy
      have := Option.some.inj hy
      omega
    subst ey
    obtain ⟨b1, b2⟩ := und_b hp hn (show i ≤ n by omega)
    show SX _ _ [.dat (.int p), .dat (.int (n : Int)), .dat (.int (undF p n i)), .dat (.int (i : Nat))] _ _
    exact sx_one (p_set rfl sc_undone_count.nd (d := .int (undF p n (i + 1))) (de_mul (by walk_at "de") (de_sub (de_pw T hr (by decide) rfl (by omega) (by omega) (by walk_at "da")) (de_pw T hr (by decide) rfl (by omega) (by omega) (by walk_at "da"))) (bigW b1 b2)) (by walk_at "put") ⟨by walk_at "wk", rfl⟩)
  · rw [show (iot 0 1 (n : Int).toNat).length = n by rw [iot_len, Int.toNat_natCast]]
    exact sx_one (s1_ret (by walk_at "de") ⟨rfl, rfl⟩)
def r_upright_keepers : Sig := fun ds S d S' => ∃ (p : Int) (r : Nat) (s : Int), ds = [.int p, .int (r : Int), .int s] ∧ (Pr p ∧ r ≤ 6 ∧ (s = 1 ∨ s = -1)) ∧ d = .int (uprF p r s) ∧ S' = S
theorem ok_upright_keepers (T : Fx K mg) : Ok P w K mg base "upright_keepers" 3 r_upright_keepers := by
  refine ok_of T.g_upright_keepers T.f_upright_keepers sc_upright_keepers (fun _ _ _ _ _ _ us hl => match us, hl with | [_, _, _], _ => rfl) (fun ds S d S' ⟨_, _, _, h, _⟩ => by rw [h]; rfl) ?_
  rintro f cdv A outer s H E hr ds S d S' eq ⟨p, r, sg, rfl, ⟨hp, hr6, hs⟩, rfl, rfl⟩
  have hb := hp.b
  have hsb : -1 ≤ sg ∧ sg ≤ 1 := by omega
  have hsp : -13 ≤ signF p (p - 1) ∧ signF p (p - 1) ≤ 13 := by
    unfold signF
    split
    · omega
    · split <;> omega
  show SX _ _ [.dat (.int p), .dat (.int (r : Int)), .dat (.int sg), .no, .no, .no, .no, .no] S' _
  refine sx_cons (s1_if (k := decide ((r : Int) = 0)) (by walk_at "db") (fun k => ?_) fun k => sx_nil ?_)
  · have : r = 0 := by have := of_decide_eq_true k; omega
    unfold uprF
    rw [if_pos this]
    exact sx_one (s1_ret de_int ⟨rfl, rfl⟩)
  · have hr0 : r ≠ 0 := by have := of_decide_eq_false k; omega
    have hu : uprF p r sg = uppF p (up0 p r sg).1 (up0 p r sg).2 := by
      unfold uprF
      rw [if_neg hr0]
    rw [hu]
    refine sx_cons (p_set rfl sc_upright_keepers.nd (d := .int ((r / 2 : Nat) : Int)) (DE.cast (de_fdiv (j := 2) (by walk_at "de") de_int (divW (by decide))) (by congr 1)) (by walk_at "put") ?_)
    have hh : r / 2 ≤ 3 := by omega
    obtain ⟨q1, q2, q3, q4⟩ := up_parts hp hh hs
    have fin : SX (cxOf CX0 P w K mg base N_upright_keepers "upright_keepers" (defScope (topS 61)) f cdv A outer s H E).nox [(defBody (topS 61)).getD 3 (.Pass ⟨0, 0, 0, 0⟩), (defBody (topS 61)).getD 4 (.Pass ⟨0, 0, 0, 0⟩)] [.dat (.int p), .dat (.int (r : Int)), .dat (.int sg), .dat (.int ((r / 2 : Nat) : Int)), .no, .dat (.int (up0 p r sg).1), .dat (.int (((up0 p r sg).2 + 1 : Nat) : Int)), .no] S' (endOf (.int (uppF p (up0 p r sg).1 (up0 p r sg).2)) S') := by
      have hub : (up0 p r sg).2 ≤ 3 := by
        unfold up0
        split
        · show r / 2 - 1 ≤ 3
          omega
        · exact hh
      refine sx_forT (fun i => [.dat (.int p), .dat (.int (r : Int)), .dat (.int sg), .dat (.int ((r / 2 : Nat) : Int)), .no, .dat (.int (uppF p (up0 p r sg).1 i)), .dat (.int (((up0 p r sg).2 + 1 : Nat) : Int)), .no]) (fun _ => S') (ds_range2 (m := 1) (n := (((up0 p r sg).2 + 1 : Nat) : Int)) de_int (by walk_at "de") (by omega) rfl T.b_range) tm_one
        (tg_name sc_upright_keepers.nd (j := 7) rfl (.inl rfl)) (by walk_at "wk") (fun i y hy _ => ?_) (fun _ => ?_) (ps_for PassesOwn.never rfl WI.pi WG.pg WS.ps)
      · have hi : i < (up0 p r sg).2 := by
          have := (List.getElem?_eq_some_iff.mp hy).1
          rw [iot_len] at this
          omega
        have ey : y = ((i + 1 : Nat) : Int) := by
          rw [iot_get (by omega)] at hy
          have := Option.some.inj hy
          omega
        subst ey
        obtain ⟨b1, b2⟩ := upp_b hp hr6 hs (show i ≤ (up0 p r sg).2 by omega)
        show SX _ _ [.dat (.int p), .dat (.int (r : Int)), .dat (.int sg), .dat (.int ((r / 2 : Nat) : Int)), .no, .dat (.int (uppF p (up0 p r sg).1 i)), .dat (.int (((up0 p r sg).2 + 1 : Nat) : Int)), .dat (.int ((i + 1 : Nat) : Int))] _ _
        exact sx_one (p_set rfl sc_upright_keepers.nd (d := .int (uppF p (up0 p r sg).1 (i + 1))) (de_mul (by walk_at "de") (de_sub (de_pw (m := 2 * (i + 1)) T hr (by decide) rfl (by omega) (by omega) (da_cons (by walk_at "de") (da_cons (DE.cast (de_mul de_int (by walk_at "de") (mulW1 (by omega) (by omega))) (by congr 1)) da_nil))) de_int) (bigW b1 b2)) (by walk_at "put") ⟨by walk_at "wk", rfl⟩)
      · rw [show (iot 1 1 ((((up0 p r sg).2 + 1 : Nat) : Int) - 1).toNat).length = (up0 p r sg).2 by rw [iot_len]; omega]
        exact sx_one (s1_ret (by walk_at "de") ⟨rfl, rfl⟩)
    refine sx_cons (s1_if (k := decide ((r : Int) % 2 = 0)) (by walk_at "db") (fun k => ?_) fun k => ?_)
    · have he : r % 2 = 0 := by have := of_decide_eq_true k; omega
      have hu0 : up0 p r sg = (2 * pwF p (r / 2 * (r / 2 - 1)) * (pwF p (r / 2) - sg * pwF (signF p (p - 1)) (r / 2)), r / 2 - 1) := by
        unfold up0
        rw [if_pos he]
      rw [hu0] at fin ⊢
      have hg : CMulW sg (pwF (signF p (p - 1)) (r / 2)) := bigW (big1 (by omega)) q3
      refine sx_cons (p_set rfl sc_upright_keepers.nd (d := .int (sg * pwF (signF p (p - 1)) (r / 2))) (de_mul (by walk_at "de") (de_pw T hr (by decide) rfl hsp (by omega) (da_cons (de_ok (ok_sign_of T) hr (by decide) rfl (by walk_at "da") (PotEq.refl _) ⟨p, p - 1, rfl, ⟨hp, by omega, by omega⟩, rfl, rfl⟩) (da_cons (by walk_at "de") da_nil))) hg) (by walk_at "put") ?_)
      refine sx_one (p_par2 (s := .dat (.int (2 * pwF p (r / 2 * (r / 2 - 1)) * (pwF p (r / 2) - sg * pwF (signF p (p - 1)) (r / 2))))) (t := .dat (.int ((r / 2 - 1 + 1 : Nat) : Int))) rfl rfl sc_upright_keepers.nd (dv_dat (de_mul (de_mul de_int (de_pw (m := r / 2 * (r / 2 - 1)) T hr (by decide) rfl (by omega) ?_ (da_cons (by walk_at "de") (da_cons (DE.cast (de_mul (by walk_at "de") (de_sub (by walk_at "de") de_int) (mulW1 (by omega) (by omega))) ?_) da_nil))) (bigW (big1 (by omega)) (pw_b (by omega) ?_))) (de_sub (de_pw T hr (by decide) rfl (by omega) (by omega) (by walk_at "da")) (by walk_at "de")) (bigW q1 q2)) (dv_dat (DE.cast (d := .int ((r / 2 : Nat) : Int)) (by walk_at "de") ?_) dv_nil)) (by walk_at "puta") (by walk_at "puta") ?_ (by decide) rfl rfl (by rfl))
      · have : r / 2 * (r / 2 - 1) ≤ 3 * 3 := Nat.mul_le_mul hh (by omega)
        omega
      · congr 1
        rw [Int.natCast_mul]
        congr 1
        omega
      · have : r / 2 * (r / 2 - 1) ≤ 3 * 3 := Nat.mul_le_mul hh (by omega)
        omega
      · congr 2
        omega
      · exact sx_wk (.same (.same (.same (.same (.no (.same (.same (.same .nil)))))))) fin
    · have he : ¬ r % 2 = 0 := by have := of_decide_eq_false k; omega
      have hu0 : up0 p r sg = (2 * pwF p (r / 2 * (r / 2)), r / 2) := by
        unfold up0
        rw [if_neg he]
      rw [hu0] at fin ⊢
      have hq : r / 2 * (r / 2) ≤ 3 * 3 := Nat.mul_le_mul hh hh
      exact sx_one (p_par2 (s := .dat (.int (2 * pwF p (r / 2 * (r / 2))))) (t := .dat (.int ((r / 2 + 1 : Nat) : Int))) rfl rfl sc_upright_keepers.nd (dv_dat (de_mul de_int (de_pw (m := r / 2 * (r / 2)) T hr (by decide) rfl (by omega) (by omega) (da_cons (by walk_at "de") (da_cons (DE.cast (de_mul (by walk_at "de") (by walk_at "de") (mulW1 (by omega) (by omega))) (by congr 1)) da_nil))) (bigW (big1 (by omega)) (pw_b (by omega) (by omega)))) (dv_dat (DE.cast (de_add (by walk_at "de") de_int) (by congr 1)) dv_nil)) (by walk_at "puta") (by walk_at "puta") fin (by decide) rfl rfl (by rfl))
def r_keepers_by : Sig := fun ds S d S' => ∃ (p : Int) (n r : Nat) (s : Int), ds = [.int p, .int (n : Int), .int (r : Int), .int s] ∧ (Pr p ∧ n ≤ 6 ∧ r ≤ n ∧ (s = 1 ∨ s = -1)) ∧ d = .int (kcF p n r s) ∧ S' = S
theorem ok_keepers_by (T : Fx K mg) : Ok P w K mg base "keepers_by" 4 r_keepers_by := by
  refine ok_of T.g_keepers_by T.f_keepers_by sc_keepers_by (fun _ _ _ _ _ _ us hl => match us, hl with | [_, _, _, _], _ => rfl) (fun ds S d S' ⟨_, _, _, _, h, _⟩ => by rw [h]; rfl) ?_
  rintro f cdv A outer s H E hr ds S d S' eq ⟨p, n, r, sg, rfl, ⟨hp, hn, hrn, hs⟩, rfl, rfl⟩
  have hb := hp.b
  obtain ⟨q1, q2, q3, q4, q5⟩ := kc_b hp hn hrn hs
  have hq : (n - r) * r ≤ 6 * 6 := Nat.mul_le_mul (by omega) (by omega)
  show SX _ _ [.dat (.int p), .dat (.int (n : Int)), .dat (.int (r : Int)), .dat (.int sg), .no] S' _
  refine sx_cons (p_set rfl sc_keepers_by.nd (d := .int ((n - r : Nat) : Int)) (DE.cast (de_sub (by walk_at "de") (by walk_at "de")) (by congr 1; omega)) (by walk_at "put") ?_)
  exact sx_one (s1_ret (de_mul (de_mul (de_ok (ok_upright_keepers T) hr (by decide) rfl (by walk_at "da") (PotEq.refl _) ⟨p, r, sg, rfl, ⟨hp, by omega, hs⟩, rfl, rfl⟩) (de_ok (ok_undone_count T) hr (by decide) rfl (by walk_at "da") (PotEq.refl _) ⟨p, n - r, rfl, ⟨hp, by omega⟩, rfl, rfl⟩) (bigW q1 q2)) (de_pw (m := (n - r) * r) T hr (by decide) rfl (by omega) (by omega) (da_cons (by walk_at "de") (da_cons (DE.cast (de_mul (by walk_at "de") (by walk_at "de") (mulW1 (by omega) (by omega))) (by congr 1)) da_nil))) (bigW q3 q4)) ⟨rfl, rfl⟩)
def r_all_keepers (K : PySem.W.Frag) : Sig := fun ds S d S' => ∃ (p : Int) (t : List (List Int)) (n r : Nat) (s : Int), ds = [rmD K p t] ∧ (pT p t n ∧ Dt.Kd (kindF p t) n r s) ∧ d = .int (kcF p n r s) ∧ S' = S
theorem ok_all_keepers (T : Fx K mg) : Ok P w K mg base "all_keepers" 8 (r_all_keepers K) := by
  refine ok_of T.g_all_keepers T.f_all_keepers sc_all_keepers (fun _ _ _ _ _ _ us hl => match us, hl with | [_], _ => rfl) (fun ds S d S' ⟨_, _, _, _, _, h, _⟩ => by rw [h]; rfl) ?_
  rintro f cdv A outer s H E hr ds S d S' eq ⟨p, t, n, r, sg, rfl, ⟨ht, hk⟩, rfl, rfl⟩
  show SX _ _ [.dat (rmD K p t), .no, .no, .no] S' _
  refine sx_cons (p_tup3 (d1 := .int (n : Int)) (d2 := .int (r : Int)) (d3 := .int sg) rfl rfl sc_all_keepers.nd (DE.cast (de_ok (ok_kind_in T) hr (by decide) rfl (da_cons (de_pr (p := p) (t := t) T (by walk_at "de")) (da_cons (de_rw (p := p) (t := t) T (by walk_at "de")) da_nil)) (PotEq.refl _) ⟨p, t, n, rfl, ht, rfl, rfl⟩) (by rw [hk.eq])) (by walk_at "put") (by walk_at "put") (by walk_at "put") ?_)
  exact sx_one (s1_ret (de_ok (ok_keepers_by T) hr (by decide) rfl (da_cons (de_pr (p := p) (t := t) T (by walk_at "de")) (by walk_at "da")) (PotEq.refl _) ⟨p, n, r, sg, rfl, ⟨ht.1, ht.2.2, hk.le, hk.sg⟩, rfl, rfl⟩) ⟨rfl, rfl⟩)
theorem body_keeper_count (T : Fx K mg) (f : Addr) (cdv : Value) (A : Around) (outer : List Env) (s : Shared) (H : Hp) (E : XK) (hr : Room 8 (cxOf CX0 P w K mg base N_keeper_count "keeper_count" (defScope (topS 64)) f cdv A outer s H E).nox.A) (ds : List D) (S : PotS) (d : D) (S' : PotS) (eq : PotEq S S') (hR : r_all_keepers K ds S d S') :
    SX (cxOf CX0 P w K mg base N_keeper_count "keeper_count" (defScope (topS 64)) f cdv A outer s H E).nox (defBody (topS 64)) (startD N_keeper_count ds) S (endOf d S') := by
  obtain ⟨p, t, n, r, sg, rfl, h, rfl, rfl⟩ := hR
  show SX _ _ [.dat (rmD K p t)] S' _
  exact sx_one (s1_ret (de_ok (ok_all_keepers T) hr (by decide) rfl (da_cons (de_ok (ok_want_room T) hr (by decide) rfl (by walk_at "da") (PotEq.refl _) ⟨p, t, rfl, rfl, rfl⟩) da_nil) (PotEq.refl _) ⟨p, t, n, r, sg, rfl, h, rfl, rfl⟩) ⟨rfl, rfl⟩)
theorem ok_keeper_count (T : Fx K mg) : Ok P w K mg base "keeper_count" 9 (r_all_keepers K) :=
  ok_of T.g_keeper_count T.f_keeper_count sc_keeper_count (fun _ _ _ _ _ _ us hl => match us, hl with | [_], _ => rfl) (fun ds S d S' ⟨_, _, _, _, _, h, _⟩ => by rw [h]; rfl) (body_keeper_count T)
def same1 {α : Type} : List α → List α := fun l => l
theorem okk_keeper_count (T : Fx K mg) : OkK P w K mg base "keeper_count" 9 ["room"] same1 (r_all_keepers K) :=
  okk_of T.g_keeper_count T.f_keeper_count sc_keeper_count (fun _ _ _ _ _ _ ws hl => match ws, hl with | [_], _ => rfl) (fun ds S d S' ⟨_, _, _, _, _, h, _⟩ => by rw [h]; rfl) (body_keeper_count T)
end

end K88

set_option Elab.async false
set_option linter.all false
set_option autoImplicit false
set_option maxRecDepth 100000
set_option maxHeartbeats 400000
namespace K88
open PySem PySem.Spec PyProof.Rows L2 RZ Ab
local macro_rules | `(tactic| walk_at "has") => `(tactic| first | exact Has.here | (apply Has.there; walk_at "has"))
local macro_rules | `(tactic| walk_at "ata") => `(tactic| first | exact At.here | (apply At.there; walk_at "ata"))
local macro_rules | `(tactic| walk_at "put") => `(tactic| first | exact Put.here | (apply Put.there; walk_at "put"))
local macro_rules | `(tactic| walk_at "puta") => `(tactic| first | exact PutA.here | (apply PutA.there; walk_at "puta"))
local macro_rules | `(tactic| walk_at "wk") => `(tactic| first | exact Wk.nil | (apply Wk.same; walk_at "wk") | (apply Wk.no; walk_at "wk"))
local macro_rules | `(tactic| walk_at "side") => `(tactic| first | assumption | omega | decide)
local macro_rules | `(tactic| walk_at "de") => `(tactic| first
  | assumption
  | exact de_int
  | exact de_non
  | exact de_bl
  | exact de_str
  | (refine' de_name rfl ?hz; (case hz => walk_at "has"))
  | (refine' de_mod ?d1 ?d2 ?d3; (case d1 => walk_at "de"); (case d2 => walk_at "de"); (case d3 => walk_at "side"))
  | (refine' de_add ?d1 ?d2; (case d1 => walk_at "de"); (case d2 => walk_at "de"))
  | (refine' de_sub ?d1 ?d2; (case d1 => walk_at "de"); (case d2 => walk_at "de"))
  | (refine' de_mul ?d1 ?d2 ?d3; (case d1 => walk_at "de"); (case d2 => walk_at "de"); (case d3 => first | assumption | (refine mulW1 ?_ ?_ <;> omega)))
  | (refine' de_fdiv ?d1 ?d2 ?d3; (case d1 => walk_at "de"); (case d2 => walk_at "de"); (case d3 => exact divW (by omega)))
  | (refine' de_tupX ?d1 ?d2; (case d1 => walk_at "da"); (case d2 => exact Nat.le_of_ble_eq_true rfl))
  )
local macro_rules | `(tactic| walk_at "da") => `(tactic| first | exact da_nil | (refine' da_cons ?a1 ?a2; (case a1 => walk_at "de"); (case a2 => walk_at "da")))
local macro_rules | `(tactic| walk_at "db") => `(tactic| first
  | assumption
  | (refine' db_eqI ?d1 ?d2; (case d1 => walk_at "de"); (case d2 => walk_at "de"))
  | (refine' db_neI ?d1 ?d2; (case d1 => walk_at "de"); (case d2 => walk_at "de"))
  | (refine' db_lt ?d1 ?d2; (case d1 => walk_at "de"); (case d2 => walk_at "de"))
  | (refine' db_gt ?d1 ?d2; (case d1 => walk_at "de"); (case d2 => walk_at "de"))
  | (refine' db_le ?d1 ?d2; (case d1 => walk_at "de"); (case d2 => walk_at "de"))
  | (refine' db_ge ?d1 ?d2; (case d1 => walk_at "de"); (case d2 => walk_at "de"))
  | (refine' db_not ?d1; (case d1 => walk_at "db"))
  )
section
variable {P : Program} {w : World} {K : PySem.W.Frag} {mg : Str → Option Value} {base : Heap}
open Rk
open Dt (scal wo pivF augF spotsR elimR stepR stR redF stR_mat stR_none stepR_mat spotsR_mem elimR_mat gr_aug aug_mat betsF scal_row unit_row)
/-! ### sequences of either kind -/
def r_is_listQ : Sig := fun ds S d S' => ∃ (t : Bool) (l : List D), ds = [sq t l] ∧ d = .bl true ∧ S' = S
theorem ok_is_listQ (T : Fx K mg) : Ok P w K mg base "is_list" 1 r_is_listQ := by
  refine ok_of T.g_is_list T.f_is_list sc_is_list (fun _ _ _ _ _ _ us hl => match us, hl with | [_], _ => rfl) (fun ds S d S' ⟨_, _, h, _⟩ => by rw [h]; rfl) ?_
  rintro f cdv A outer s H E hr ds S d S' eq ⟨t, l, rfl, rfl, rfl⟩
  cases t with
  | false =>
    show SX _ _ [.dat (.lst l)] S' _
    exact sx_one (s1_ret (db_isiT (by walk_at "de") (da_cons (de_bty rfl T.b_list (by decide +kernel)) (da_cons (de_bty rfl T.b_tuple (by decide +kernel)) da_nil)) (.lst l) (.cons (.ty "list") (.cons (.ty "tuple") .nil)) (kitAny_cons (b := true) (r := true) (kit_ty (by decide +kernel)) (fun h => by cases h) (fun _ => rfl)) (by decide) rfl T.b_isinstance) ⟨rfl, rfl⟩)
  | true =>
    show SX _ _ [.dat (.tup l)] S' _
    exact sx_one (s1_ret (db_isiT (by walk_at "de") (da_cons (de_bty rfl T.b_list (by decide +kernel)) (da_cons (de_bty rfl T.b_tuple (by decide +kernel)) da_nil)) (.tup l) (.cons (.ty "list") (.cons (.ty "tuple") .nil)) (kitAny_cons (b := false) (r := true) (kit_ty (by decide +kernel)) (fun _ => kitAny_cons (b := true) (r := true) (kit_ty (by decide +kernel)) (fun h => by cases h) (fun _ => rfl)) (fun h => by cases h)) (by decide) rfl T.b_isinstance) ⟨rfl, rfl⟩)
def qI (t : Bool) (r : List Int) : D := sq t (r.map .int)
def r_row_inQ : Sig := fun ds S d S' => ∃ (t : Bool) (p : Int) (r : List Int) (n : Nat), ds = [.int p, qI t r, .int n] ∧ (Row p n r ∧ n ≤ 1000) ∧ d = tI r ∧ S' = S
theorem ok_row_inQ (T : Fx K mg) : Ok P w K mg base "row_in" 3 r_row_inQ := by
  refine ok_of T.g_row_in T.f_row_in sc_row_in (fun _ _ _ _ _ _ us hl => match us, hl with | [_, _, _], _ => rfl) (fun ds S d S' ⟨_, _, _, _, h, _⟩ => by rw [h]; rfl) ?_
  rintro f cdv A outer s H E hr ds S d S' eq ⟨t, p, r, n, rfl, ⟨hrow, hn⟩, rfl, rfl⟩
  show SX _ _ [.dat (.int p), .dat (sq t (r.map .int)), .dat (.int n), .no] S' _
  refine sx_cons (s1_if (k := false || (false || false)) (DW.db (dw_or (k := false) (db_not (k := true) (db_val (de_ok (ok_is_listQ T) hr (by decide) rfl (by walk_at "da") (PotEq.refl _) ⟨_, _, rfl, rfl, rfl⟩))) fun _ => dw_or (k := false) (DB.cast (db_neI (i := (r.map D.int).length) (j := n) (de_len (dqs (ds := r.map .int) (by walk_at "de")) (by rfl) T.b_len) (by walk_at "de")) ?_) fun _ => dw_or1 (db_not (k := true) (db_val (DE.cast (de_all (bs := r.map fun x => decide (0 ≤ x) && decide (x < p)) rfl (DN.seq (DN.cast (LC.dn (own := [("number", 3)]) (lc_nameM (xs := r) (φ := .int) (g := fun x => .bl (decide (0 ≤ x) && decide (x < p))) (dss (ds := r.map .int) (by walk_at "de")).c sc_row_in.nd (j := 3) rfl (by rw [hrow.1]; omega) ?_) rfl sc_row_in.nd (blkOk_by (N := N_row_in) (sc := defScope (topS 30)) (by decide +kernel))) ?_)) (by rfl) T.b_all) ?_))))) (fun k => nomatch k) fun _ => ?_)
  · rw [List.length_map, hrow.1, decide_eq_true rfl]
    rfl
  · intro s H C cl fp x hx
    show DE _ _ [.dat (.int p), .dat (sq t (r.map .int)), .dat (.int n), .dat (.int x)] _ _ _
    exact de_ok (X := blk _ _ s H C cl fp) (ok_is_rest_by T) hr (by decide) rfl (by walk_at "da") (PotEq.refl _) ⟨_, _, rfl, rfl, rfl⟩
  · rw [List.map_map]
    rfl
  · congr 1
    rw [List.all_map, List.all_eq_true]
    intro x hx
    have := hrow.2 x hx
    simp [this]
  · exact sx_nil (sx_one (s1_ret (de_tupQ (ds := r.map .int) (by walk_at "de") (by rfl) T.b_tuple) ⟨rfl, rfl⟩))
def r_table_inQ : Sig := fun ds S d S' => ∃ (t u : Bool) (p : Int) (rows : List (List Int)) (n : Nat), ds = [.int p, sq t (rows.map (qI u))] ∧ (Tab p n n rows ∧ n ≤ 6) ∧ d = tT rows ∧ S' = S
theorem any_falseQ {α : Type} {xs : List α} : (xs.map fun _ => false).any id = false := by
  induction xs with
  | nil => rfl
  | cons a b ih => simpa using ih
theorem ok_table_inQ (T : Fx K mg) : Ok P w K mg base "table_in" 4 r_table_inQ := by
  refine ok_of T.g_table_in T.f_table_in sc_table_in (fun _ _ _ _ _ _ us hl => match us, hl with | [_, _], _ => rfl) (fun ds S d S' ⟨_, _, _, _, _, h, _⟩ => by rw [h]; rfl) ?_
  rintro f cdv A outer s H E hr ds S d S' eq ⟨b, u, p, t, n, rfl, ⟨ht, hn⟩, rfl, rfl⟩
  obtain ⟨tk, hk6⟩ := T.k_MOST_SIZE
  show SX _ _ [.dat (.int p), .dat (sq b (t.map (qI u))), .no, .no] S' _
  refine sx_cons (s1_if (k := false || false) (DW.db (dw_or (k := false) (db_not (k := true) (db_val (de_ok (ok_is_listQ T) hr (by decide) rfl (by walk_at "da") (PotEq.refl _) ⟨_, _, rfl, rfl, rfl⟩))) fun _ => dw_or1 (DB.cast (db_gt (i := (t.map (qI u)).length) (j := 6) (de_len (dqs (ds := t.map (qI u)) (by walk_at "de")) (by rfl) T.b_len) (de_glob (v := .int 6) (by rfl) hk6 ⟨tk, rfl⟩ fun _ => .int 6)) ?_))) (fun k => nomatch k) fun _ => sx_nil ?_)
  · rw [List.length_map, ht.1]
    exact decide_eq_false (by omega)
  · refine sx_cons (p_lc rfl sc_table_in.nd (lc_nameM (xs := t) (φ := qI u) (g := tI) (dss (ds := t.map (qI u)) (by walk_at "de")).c sc_table_in.nd (j := 3) rfl (by rw [ht.1]; omega) ?_) (own := [("row", 3)]) (by walk_at "put") ?_ rfl rfl rfl (blkOk_by (N := N_table_in) (sc := defScope (topS 31)) (by decide +kernel)))
    · intro s H C cl fp r hrm
      show DE _ _ [.dat (.int p), .dat (sq b (t.map (qI u))), .no, .dat (qI u r)] _ _ _
      exact de_ok (X := blk _ _ s H C cl fp) (ok_row_inQ T) hr (by decide) rfl (da_cons (by walk_at "de") (da_cons (by walk_at "de") (da_cons (DE.cast (d' := .int (n : Nat)) (de_len (dqs (ds := t.map (qI u)) (by walk_at "de")) (by rfl) T.b_len) (by rw [List.length_map, ht.1])) da_nil))) (PotEq.refl _) ⟨u, _, _, _, rfl, ⟨ht.2 r hrm, by omega⟩, rfl, rfl⟩
    · show SX _ _ [.dat (.int p), .dat (sq b (t.map (qI u))), .dat (.lst (t.map tI)), .no] _ _
      refine sx_one (s1_ret (DE.cast (d' := tT t) (de_if (k := false) (d1 := .non) (d2 := tT t) (db_val (DE.cast (de_any (bs := t.map fun _ => false) rfl (DN.seq (DN.cast (LC.dn (own := [("row", 3)]) (lc_nameM (xs := t) (φ := tI) (g := fun _ => .bl false) (ds_list (ds := t.map tI) (by walk_at "de")).c sc_table_in.nd (j := 3) rfl (by rw [ht.1]; omega) ?_) rfl sc_table_in.nd (blkOk_by (N := N_table_in) (sc := defScope (topS 31)) (by decide +kernel))) ?_)) (by rfl) T.b_any) ?_)) (fun k => nomatch k) fun _ => de_tupL (DE.lst (ds := t.map tI) (by walk_at "de")) (by rfl) T.b_tuple) ?_) ⟨rfl, rfl⟩)
      · intro s H C cl fp r hrm
        show DE _ _ [.dat (.int p), .dat (sq b (t.map (qI u))), .dat (.lst (t.map tI)), .dat (tI r)] _ _ _
        exact (db_isF (d := tI r) (by walk_at "de") rfl).de
      · rw [List.map_map]
        rfl
      · rw [any_falseQ]
      · rfl
/-! ### reduced -/
def optT : Option (List (List Int)) → D
  | none => .non
  | some t => tT t
def r_reduced : Sig := fun ds S d S' => ∃ (p : Int) (t : List (List Int)) (n : Nat), ds = [.int p, tT t] ∧ (Pr p ∧ Mat p n n t ∧ n ≤ 6) ∧ d = .tup [.int (redF p t).1, optT (redF p t).2] ∧ S' = S
abbrev rdD (p : Int) (t : List (List Int)) (n : Nat) (rows : List (List Int)) (f : Int) : List Sl := [.dat (.int p), .dat (tT t), .dat (.int (n : Int)), .dat (.int f), .own (rows.map tI), .no, .no, .no, .no, .no]
/-- rows[i][j], rows of tuples -/
theorem de_elT {X : Cx} {Δ : List Sl} {S : PotS} {pos pos2 : Pos} {a b c : Expr} {rows : List (List Int)} {i j : Nat} {p : Int} {n m : Nat} (h : Mat p n m rows) (ha : DQ X a Δ S false (rows.map tI) S) (hb : DE X b Δ S (.int (i : Nat)) S) (hc : DE X c Δ S (.int (j : Nat)) S) (hi : i < n) (hj : j < m) (hs : PlainIx b := by exact fun _ _ => rfl) (hs2 : PlainIx c := by exact fun _ _ => rfl) : DE X (.Subscript (.Subscript a b pos) c pos2) Δ S (.int (ge rows i j)) S :=
  de_ix (t := true) (ds := (gr rows i).map .int) (i := (j : Nat)) (DE.tup (de_ix (t := false) (ds := rows.map tI) (i := (i : Nat)) ha hb (atI_map (h.get hi).1) hs)) hc (atI_map ((h.get hi).2.get hj).1) hs2
theorem aug_zip {t : List (List Int)} : augF t = ((iot 0 1 t.length).zip t).map fun v => v.2 ++ unitF t.length v.1 := by
  refine List.ext_getElem? fun i => ?_
  unfold augF
  rw [List.getElem?_map, List.getElem?_map]
  by_cases h : i < t.length
  · rw [List.getElem?_range h, Ab.zip_get (iot_get h) (List.getElem?_eq_getElem h)]
    show some (gr t i ++ unitF t.length i) = some (t[i] ++ unitF t.length (0 + (i : Int) * 1))
    have e : gr t i = t[i] := by
      unfold gr
      rw [List.getD_eq_getElem?_getD, List.getElem?_eq_getElem h]
      rfl
    rw [e, Int.zero_add, Int.mul_one]
  · rw [List.getElem?_eq_none (by rw [List.length_range]; omega), List.getElem?_eq_none (by rw [List.length_zip, iot_len]; omega)]
    rfl
theorem elim_zip {p : Int} {rows : List (List Int)} {n m i : Nat} (h : Mat p n m rows) (hi : i < n) : elimR p rows n i = ((iot 0 1 n).zip (rows.set i (pivF p (gr rows i) i))).map fun v => if v.1 = (i : Int) then v.2 else addF p v.2 (pivF p (gr rows i) i) (0 - v.2.getD i 0) := by
  refine List.ext_getElem? fun a => ?_
  unfold elimR
  rw [List.getElem?_map, List.getElem?_map]
  by_cases ha : a < n
  · rw [List.getElem?_range ha]
    have e : (rows.set i (pivF p (gr rows i) i))[a]? = some (if a = i then pivF p (gr rows i) i else gr rows a) := by
      rw [List.getElem?_set]
      by_cases hia : i = a
      · subst hia
        rw [if_pos rfl, if_pos rfl, if_pos (by rw [h.1]; exact hi)]
      · rw [if_neg hia, if_neg (fun k => hia k.symm), (h.get ha).1]
    rw [Ab.zip_get (iot_get ha) e]
    show some (if a = i then pivF p (gr rows i) i else wo p (gr rows a) (pivF p (gr rows i) i) i) = some (if 0 + (a : Int) * 1 = (i : Int) then (if a = i then pivF p (gr rows i) i else gr rows a) else addF p (if a = i then pivF p (gr rows i) i else gr rows a) (pivF p (gr rows i) i) (0 - (if a = i then pivF p (gr rows i) i else gr rows a).getD i 0))
    by_cases hia : a = i
    · rw [if_pos hia, if_pos hia, if_pos (by omega)]
    · rw [if_neg hia, if_neg hia, if_neg (by omega)]
      rfl
  · rw [List.getElem?_eq_none (by rw [List.length_range]; omega), List.getElem?_eq_none (by rw [List.length_zip, iot_len]; omega)]
    rfl
theorem spotsR_eq {rows : List (List Int)} {n k : Nat} (hk : k ≤ n) : ((iot (k : Nat) 1 ((n : Int) - (k : Nat)).toNat).filter fun s => decide (ge rows s.toNat k ≠ 0)) = (spotsR rows n k).map Int.ofNat := by
  unfold spotsR iot
  rw [show ((n : Int) - (k : Nat)).toNat = n - k by omega, List.filter_map, List.filter_map, List.map_map]
  have e : (List.range (n - k)).filter ((fun s : Int => decide (ge rows s.toNat k ≠ 0)) ∘ fun i : Nat => (k : Int) + (i : Int) * 1) = (List.range (n - k)).filter ((fun s => decide (ge rows s k ≠ 0)) ∘ fun i => k + i) := by
    refine List.filter_congr fun i _ => ?_
    show decide (ge rows ((k : Int) + (i : Int) * 1).toNat k ≠ 0) = decide (ge rows (k + i) k ≠ 0)
    rw [show ((k : Int) + (i : Int) * 1).toNat = k + i by omega]
  rw [e]
  refine List.map_congr_left fun i _ => ?_
  show (k : Int) + (i : Int) * 1 = ((k + i : Nat) : Int)
  omega
theorem ok_reduced (T : Fx K mg) : Ok P w K mg base "reduced" 3 r_reduced := by
  refine ok_of T.g_reduced T.f_reduced sc_reduced (fun _ _ _ _ _ _ us hl => match us, hl with | [_, _], _ => rfl) (fun ds S d S' ⟨_, _, _, h, _⟩ => by rw [h]; rfl) ?_
  rintro f cdv A outer s H E hr ds S d S' eq ⟨p, t, n, rfl, ⟨hp, ht, hn⟩, rfl, rfl⟩
  have hb := hp.b
  have htl := ht.1
  show SX _ _ [.dat (.int p), .dat (tT t), .no, .no, .no, .no, .no, .no, .no, .no] S' _
  refine sx_cons (p_tupV2 (s := .dat (.int (n : Int))) (t := .dat (.int 1)) rfl rfl sc_reduced.nd (dv_dat (DE.cast (de_len (DE.tup (ds := t.map tI) (by walk_at "de")) (by rfl) T.b_len) (by rw [List.length_map, htl])) (dv_dat de_int dv_nil)) (by walk_at "puta") (by walk_at "puta") ?_ (by decide))
  show SX _ _ [.dat (.int p), .dat (tT t), .dat (.int (n : Int)), .dat (.int 1), .no, .no, .no, .no, .no, .no] S' _
  refine sx_cons (p_setN rfl sc_reduced.nd (ds := (augF t).map tI) (DN.cast (LC.dn (own := [("place", 5), ("row", 6)]) (lc_pairM (xs := (iot 0 1 t.length).zip t) (φ := fun v => .int v.1) (ψ := fun v => tI v.2) (g := fun v => tI (v.2 ++ unitF n v.1)) rfl ((ds_enumT (ds := t.map tI) (by walk_at "de") (by rfl) T.b_enumerate).cast (by rw [List.length_map, zip_map2])).c sc_reduced.nd (j := 5) (k := 6) rfl rfl (by rw [List.length_zip, iot_len]; omega) ?_) rfl sc_reduced.nd (blkOk_by (N := N_reduced) (sc := defScope (topS 28)) (by decide +kernel))) ?_) (by walk_at "put") ?_)
  · intro s2 H2 C2 cl2 fp2 v hv
    obtain ⟨k1, k2⟩ := List.of_mem_zip hv
    have k3 := (ht.2 _ k2).1
    show DE _ _ [.dat (.int p), .dat (tT t), .dat (.int (n : Int)), .dat (.int 1), .no, .dat (.int v.1), .dat (tI v.2), .no, .no, .no] S' _ S'
    refine DE.cast (de_catT (X := blk _ _ s2 H2 C2 cl2 fp2) (ds := v.2.map .int) (es := (unitF n v.1).map .int) (by walk_at "de") (de_ok (X := blk _ _ s2 H2 C2 cl2 fp2) (ok_unit T) hr (by decide) rfl (by walk_at "da") (PotEq.refl _) ⟨n, v.1, rfl, by omega, rfl, rfl⟩) ?_) ?_
    · rw [List.length_map, List.length_map, k3, (unit_row (p := p) (show 1 < p by omega)).1]
      omega
    · rw [← List.map_append]
  · rw [aug_zip, List.map_map, htl]
    rfl
  show SX _ _ (rdD p t n (augF t) 1) S' _
  refine sx_forJ (fun i => rdD p t n ((stR p t i).getD ([], 0)).1 ((stR p t i).getD ([], 0)).2) (fun i => (stR p t i).isSome = true) (ds_range1 (n := n) (by walk_at "de") (by omega) rfl T.b_range) tm_one
    (tg_name sc_reduced.nd (j := 5) rfl (by first | exact .inl rfl | exact .inr rfl)) (by walk_at "wk") rfl (fun i x hx J => ?_) (fun J => ?_) (ps_for PassesOwn.never rfl WI.pi WG.pg WS.ps)
  · have hi : i < n := by
      have := (List.getElem?_eq_some_iff.mp hx).1
      rw [iot_len] at this
      omega
    have ex : x = (i : Nat) := by
      rw [iot_get (by omega)] at hx
      have := Option.some.inj hx
      omega
    subst ex
    cases hq : stR p t i with
    | none =>
      rw [hq] at J
      cases J
    | some q =>
      obtain ⟨rows, fo⟩ := q
      obtain ⟨hm, hf0, hf1⟩ := stR_mat (by omega) ht i _ (by omega) hq
      have hm : Mat p n (n + n) rows := hm
      have hf0 : 0 ≤ fo := hf0
      have hf1 : fo < p := hf1
      have hnx : stR p t (i + 1) = stepR p n i (rows, fo) := by
        show (stR p t i).bind (stepR p t.length i) = _
        rw [hq, htl]
        rfl
      show SX _ _ [.dat (.int p), .dat (tT t), .dat (.int (n : Int)), .dat (.int fo), .own (rows.map tI), .dat (.int (i : Nat)), .no, .no, .no, .no] S' _
      refine sx_cons (p_lc rfl sc_reduced.nd (lc_name (xs := iot (i : Nat) 1 ((n : Int) - (i : Nat)).toNat) (φ := .int) (g := .int) (bt := fun s => decide (ge rows s.toNat i ≠ 0)) (ds_range2 (m := (i : Nat)) (n := n) (by walk_at "de") (by walk_at "de") (by omega) (by rfl) T.b_range).c sc_reduced.nd (j := 8) rfl (by rw [iot_len]; omega) ?_ ?_) (own := [("at", 8)]) (by walk_at "put") ?_ rfl rfl rfl (blkOk_by (N := N_reduced) (sc := defScope (topS 28)) (by decide +kernel)))
      · intro s2 H2 C2 cl2 fp2 v hv
        have hv := mem_iot1.mp hv
        have ev : v = (v.toNat : Nat) := by omega
        refine dp_one (DB.dt (DB.cast (db_neI (de_elT (X := blk _ _ s2 H2 C2 cl2 fp2) (i := v.toNat) (j := i) hm (dq_own (ds := rows.map tI) rfl (by walk_at "has")) (DE.cast (d := .int v) (de_name rfl (by walk_at "has")) (by rw [← ev])) (de_name rfl (by walk_at "has")) (by omega) (by omega)) de_int) (by rw [decide_not])))
      · intro s2 H2 C2 cl2 fp2 v hv _
        exact de_name rfl (by walk_at "has")
      rw [spotsR_eq (by omega)]
      show SX _ _ [.dat (.int p), .dat (tT t), .dat (.int (n : Int)), .dat (.int fo), .own (rows.map tI), .dat (.int (i : Nat)), .no, .dat (.lst (((spotsR rows n i).map Int.ofNat).map .int)), .no, .no] S' _
      have okl : ∀ l : List Int, dOk 60 (.lst (l.map .int)) = true := fun l => by
        show (l.map D.int).all (dOk 59) = true
        rw [List.all_map, List.all_eq_true]
        intro _ _
        rfl
      refine sx_cons (s1_if (k := (((spotsR rows n i).map Int.ofNat).map D.int).isEmpty) (db_eqNil (t := false) (by exact hr) (by walk_at "de") (okl _)) (fun hk => ?_) fun hk => sx_nil ?_)
      · have hsp : spotsR rows n i = [] := by
          rw [List.isEmpty_map, List.isEmpty_map] at hk
          exact List.isEmpty_iff.mp hk
        have hno : stR p t (i + 1) = none := by
          rw [hnx]
          unfold stepR
          rw [hsp]
        have hd : redF p t = (0, none) := by
          have := stR_none hno (n - (i + 1))
          rw [show i + 1 + (n - (i + 1)) = n by omega] at this
          unfold redF
          rw [htl, this]
        rw [hd]
        exact sx_one (s1_ret (de_tupX (da_cons de_int (da_cons de_non da_nil)) (Nat.le_of_ble_eq_true rfl)) ⟨rfl, rfl⟩)
      cases hsp : spotsR rows n i with
      | nil =>
        rw [hsp] at hk
        cases hk
      | cons s0 l =>
        have hsb := spotsR_mem (rows := rows) (n := n) (k := i) (s := s0) (by rw [hsp]; exact List.mem_cons_self)
        have hs0 : s0 < n := hsb.2.1
        have hst : stR p t (i + 1) = some (elimR p (if s0 = i then rows else swapF rows i s0) n i, (if s0 = i then fo else 0 - fo) * ge (if s0 = i then rows else swapF rows i s0) i i % p) := by
          rw [hnx]
          unfold stepR
          rw [show spotsR (rows, fo).1 n i = s0 :: l from hsp]
        obtain ⟨rows1, f1, e1, e2⟩ : ∃ rows1 f1, (if s0 = i then rows else swapF rows i s0) = rows1 ∧ (if s0 = i then fo else 0 - fo) = f1 := ⟨_, _, rfl, rfl⟩
        rw [e1, e2] at hst
        have hm1 : Mat p n (n + n) rows1 := by
          rw [← e1]
          split
          · exact hm
          · exact swapF_mat hm hi hs0
        have hf1' : -13 < f1 ∧ f1 < 13 := by
          rw [← e2]
          split <;> omega
        have ix0 : ∀ {X : Cx} {e : Expr} {Δ : List Sl} {pos q : Pos}, DE X e Δ S' (.lst (((s0 :: l).map Int.ofNat).map .int)) S' → DE X (.Subscript e (.Constant (.int 0) 0 q) pos) Δ S' (.int ((s0 : Nat) : Int)) S' := fun h => de_ix (t := false) (ds := ((s0 :: l).map Int.ofNat).map .int) (i := ((0 : Nat) : Int)) (DE.lst h) de_int (atI_get rfl)
        refine sx_cons (s1_ifJ (k := !decide (((s0 : Nat) : Int) = ((i : Nat) : Int))) (S2 := S') (Δ2 := [.dat (.int p), .dat (tT t), .dat (.int (n : Int)), .dat (.int f1), .own (rows1.map tI), .dat (.int (i : Nat)), .no, .dat (.lst (((s0 :: l).map Int.ofNat).map .int)), .no, .no]) (db_neI (ix0 (by walk_at "de")) (by walk_at "de")) (fun k => ?_) (fun k => ?_) ?_)
        · have hne : ¬ s0 = i := by
            intro h
            rw [h] at k
            simp at k
          rw [if_neg hne] at e1 e2
          refine sx_cons (p_swap2 (i := i) (j := s0) (Δ2 := [.dat (.int p), .dat (tT t), .dat (.int (n : Int)), .dat (.int fo), .own ((rows.map tI).set i (tI (gr rows s0))), .dat (.int (i : Nat)), .no, .dat (.lst (((s0 :: l).map Int.ofNat).map .int)), .no, .no]) rfl rfl sc_reduced.nd (da_cons (de_ix (t := false) (ds := rows.map tI) (i := (s0 : Nat)) (dq_own rfl (by walk_at "has")) (ix0 (by walk_at "de")) (atI_map (hm.get hs0).1)) (da_cons (de_ix (t := false) (ds := rows.map tI) (i := (i : Nat)) (dq_own rfl (by walk_at "has")) (by walk_at "de") (atI_map (hm.get hi).1)) da_nil)) (by walk_at "ata") (by walk_at "de") (ix0 (by walk_at "de")) (by rw [List.length_map, hm.1]; exact hi) (by rw [List.length_map, hm.1]; exact hs0) (by walk_at "puta") (by walk_at "puta") ?_)
          refine sx_one (p_set rfl sc_reduced.nd (de_sub de_int (by walk_at "de")) (by walk_at "put") ⟨?_, rfl⟩)
          rw [← e1, ← e2]
          unfold swapF
          rw [List.map_set, List.map_set]
        · have he : s0 = i := by
            have : ((s0 : Nat) : Int) = ((i : Nat) : Int) := by simpa using k
            omega
          rw [if_pos he] at e1 e2
          subst e1
          subst e2
          exact sx_nil ⟨rfl, rfl⟩
        show SX _ _ [.dat (.int p), .dat (tT t), .dat (.int (n : Int)), .dat (.int f1), .own (rows1.map tI), .dat (.int (i : Nat)), .no, .dat (.lst (((s0 :: l).map Int.ofNat).map .int)), .no, .no] S' _
        have hge := ((hm1.get hi).2.get (show i < n + n by omega))
        have hg0 : 0 ≤ ge rows1 i i ∧ ge rows1 i i < p := ⟨hge.2.1, hge.2.2⟩
        have hro := (hm1.get hi).2
        have hpv : Row p (n + n) (pivF p (gr rows1 i) i) := scal_row (by omega) hro
        have hun : 0 ≤ Rk.undone p (ge rows1 i i) ∧ Rk.undone p (ge rows1 i i) < p := powN_b (by omega) _
        have hez := elim_zip hm1 hi
        refine sx_cons (p_set rfl sc_reduced.nd (d := .int (f1 * ge rows1 i i % p)) (de_mod (de_mul (by walk_at "de") (de_elT (i := i) (j := i) hm1 (dq_own (ds := rows1.map tI) rfl (by walk_at "has")) (by walk_at "de") (by walk_at "de") hi (by omega)) (mulW1 (by omega) (by omega))) (by walk_at "de") (by omega)) (by walk_at "put") ?_)
        generalize hfo : f1 * ge rows1 i i % p = f2 at hst ⊢
        show SX _ _ [.dat (.int p), .dat (tT t), .dat (.int (n : Int)), .dat (.int f2), .own (rows1.map tI), .dat (.int (i : Nat)), .no, .dat (.lst (((s0 :: l).map Int.ofNat).map .int)), .no, .no] S' _
        refine sx_cons (s1_setIx (N := N_reduced) (j := i) (d := tI (pivF p (gr rows1 i) i)) rfl (by walk_at "ata") (de_ok (ok_scaled_of T) hr (by decide) rfl (da_cons (by walk_at "de") (da_cons (de_ix (t := false) (ds := rows1.map tI) (i := (i : Nat)) (dq_own rfl (by walk_at "has")) (by walk_at "de") (atI_map (hm1.get hi).1)) (da_cons (de_ok (ok_undone_of T) hr (by decide) rfl (da_cons (by walk_at "de") (da_cons (de_elT (i := i) (j := i) hm1 (dq_own (ds := rows1.map tI) rfl (by walk_at "has")) (by walk_at "de") (by walk_at "de") hi (by omega)) da_nil)) (PotEq.refl _) ⟨p, ge rows1 i i, rfl, ⟨hp, hg0.1, hg0.2⟩, rfl, rfl⟩) da_nil))) (PotEq.refl _) ⟨p, gr rows1 i, Rk.undone p (ge rows1 i i), rfl, ⟨hp, hro.2, by rw [hro.1]; omega, hun.1, hun.2⟩, rfl, rfl⟩) (by walk_at "de") (by rw [List.length_map, hm1.1]; exact hi) ?_)
        show SX _ _ [.dat (.int p), .dat (tT t), .dat (.int (n : Int)), .dat (.int f2), .own ((rows1.map tI).set i (tI (pivF p (gr rows1 i) i))), .dat (.int (i : Nat)), .no, .dat (.lst (((s0 :: l).map Int.ofNat).map .int)), .no, .no] S' _
        rw [← List.map_set]
        have hm2 : Mat p n (n + n) (rows1.set i (pivF p (gr rows1 i) i)) := ⟨by rw [List.length_set]; exact hm1.1, fun r hr => by
          rcases List.mem_or_eq_of_mem_set hr with h | h
          · exact hm1.2 r h
          · rw [h]; exact hpv⟩
        have hgi : (rows1.set i (pivF p (gr rows1 i) i))[i]? = some (pivF p (gr rows1 i) i) := List.getElem?_set_self (by rw [hm1.1]; exact hi)
        generalize hpv0 : pivF p (gr rows1 i) i = pv at hez hpv hgi hm2 ⊢
        generalize hr2 : rows1.set i pv = rows2 at hez hgi hm2 ⊢
        refine sx_cons (p_set rfl sc_reduced.nd (d := tI pv) (de_ix (t := false) (ds := rows2.map tI) (i := (i : Nat)) (dq_own rfl (by walk_at "has")) (by walk_at "de") (atI_map hgi)) (by walk_at "put") ?_)
        refine sx_freeze (j := 4) (ds := rows2.map tI) rfl ?_
        show SX _ _ [.dat (.int p), .dat (tT t), .dat (.int (n : Int)), .dat (.int f2), .dat (.lst (rows2.map tI)), .dat (.int (i : Nat)), .no, .dat (.lst (((s0 :: l).map Int.ofNat).map .int)), .no, .dat (tI pv)] S' _
        refine sx_one (p_setN rfl sc_reduced.nd (ds := (elimR p rows1 n i).map tI) (DN.cast (LC.dn (own := [("at", 8), ("row", 6)]) (lc_pairM (xs := (iot 0 1 rows2.length).zip rows2) (φ := fun v => .int v.1) (ψ := fun v => tI v.2) (g := fun v => tI (if v.1 = (i : Int) then v.2 else addF p v.2 pv (0 - v.2.getD i 0))) rfl (ds_enumR (by walk_at "de") (by rfl) T.b_enumerate).c sc_reduced.nd (j := 8) (k := 6) rfl rfl (by rw [List.length_zip, iot_len, hm2.1]; omega) ?_) rfl sc_reduced.nd (blkOk_by (N := N_reduced) (sc := defScope (topS 28)) (by decide +kernel))) ?_) (by walk_at "put") ⟨?_, rfl, by rw [hst]; rfl⟩)
        · intro s2 H2 C2 cl2 fp2 v hv
          obtain ⟨k1, k2⟩ := List.of_mem_zip hv
          have k3 := hm2.2 _ k2
          obtain ⟨k4, k5⟩ := k3.get (show i < n + n by omega)
          show DE _ _ [.dat (.int p), .dat (tT t), .dat (.int (n : Int)), .dat (.int f2), .dat (.lst (rows2.map tI)), .dat (.int (i : Nat)), .dat (tI v.2), .dat (.lst (((s0 :: l).map Int.ofNat).map .int)), .dat (.int v.1), .dat (tI pv)] S' _ S'
          refine DE.cast (de_if (X := blk _ _ s2 H2 C2 cl2 fp2) (k := decide (v.1 = (i : Int))) (d1 := tI v.2) (d2 := tI (addF p v.2 pv (0 - v.2.getD i 0))) (by walk_at "db") (fun _ => by walk_at "de") (fun _ => de_ok (X := blk _ _ s2 H2 C2 cl2 fp2) (ok_sum_of T) hr (by decide) rfl (da_cons (by walk_at "de") (da_cons (by walk_at "de") (da_cons (by walk_at "de") (da_cons (de_sub de_int (de_ix (t := true) (ds := v.2.map .int) (i := (i : Nat)) (DE.tup (by walk_at "de")) (by walk_at "de") (atI_map k4))) da_nil)))) (PotEq.refl _) ⟨p, v.2, pv, 0 - v.2.getD i 0, rfl, ⟨hp, k3.2, hpv.2, by rw [k3.1]; omega, by omega, by omega⟩, rfl, rfl⟩)) ?_
          by_cases h : v.1 = (i : Int)
          · rw [if_pos h, if_pos (decide_eq_true h)]
          · rw [if_neg h, if_neg (by rw [decide_eq_true_iff]; exact h)]
        · rw [hez, hm2.1, List.map_map]
          rfl
        · rw [hst]
          exact .same (.same (.same (.same (.same (.no (.no (.no (.no (.no .nil)))))))))
  · have hlen : (iot 0 1 (n : Int).toNat).length = n := by rw [iot_len, Int.toNat_natCast]
    rw [hlen] at J ⊢
    cases hq : stR p t n with
    | none =>
      rw [hq] at J
      cases J
    | some q =>
      obtain ⟨rows, fo⟩ := q
      obtain ⟨hm, _, _⟩ := stR_mat (by omega) ht n _ (by omega) hq
      have hm : Mat p n (n + n) rows := hm
      have hd : redF p t = (fo % p, some (rows.map fun r => r.drop n)) := by
        unfold redF
        rw [htl, hq]
      rw [hd]
      show SX _ _ [.dat (.int p), .dat (tT t), .dat (.int (n : Int)), .dat (.int fo), .own (rows.map tI), .no, .no, .no, .no, .no] S' _
      refine sx_freeze (j := 4) (ds := rows.map tI) rfl ?_
      show SX _ _ [.dat (.int p), .dat (tT t), .dat (.int (n : Int)), .dat (.int fo), .dat (.lst (rows.map tI)), .no, .no, .no, .no, .no] S' _
      refine sx_one (s1_ret (de_tupX (da_cons (by walk_at "de") (da_cons (DE.cast (d' := tT (rows.map fun r => r.drop n)) (de_tupL (DN.seq (LC.dn (own := [("row", 6)]) (lc_nameM (xs := rows) (φ := tI) (g := fun r => tI (r.drop n)) (ds_list (ds := rows.map tI) (by walk_at "de")).c sc_reduced.nd (j := 6) rfl (by rw [hm.1]; omega) ?_) rfl sc_reduced.nd (blkOk_by (N := N_reduced) (sc := defScope (topS 28)) (by decide +kernel)))) (by rfl) T.b_tuple) ?_) da_nil)) (Nat.le_of_ble_eq_true rfl)) ⟨rfl, rfl⟩)
      · intro s2 H2 C2 cl2 fp2 r hrm
        refine DE.cast (de_slT (X := blk _ _ s2 H2 C2 cl2 fp2) (ds := r.map .int) (l := some (n : Int)) (h := none) (de_name rfl (by walk_at "has")) (doe_some (de_name rfl (by walk_at "has"))) doe_none) ?_
        rw [cut_from]
        show D.tup ((r.map D.int).drop n) = D.tup ((r.drop n).map D.int)
        rw [List.map_drop]
      · rw [map_comp (f := fun r : List Int => r.drop n) (φ := tI)]
def r_determinant_of : Sig := fun ds S d S' => ∃ (p : Int) (t : List (List Int)) (n : Nat), ds = [.int p, tT t] ∧ (Pr p ∧ Mat p n n t ∧ n ≤ 6) ∧ d = .int (redF p t).1 ∧ S' = S
theorem ok_determinant_of (T : Fx K mg) : Ok P w K mg base "determinant_of" 4 r_determinant_of := by
  refine ok_of T.g_determinant_of T.f_determinant_of sc_determinant_of (fun _ _ _ _ _ _ us hl => match us, hl with | [_, _], _ => rfl) (fun ds S d S' ⟨_, _, _, h, _⟩ => by rw [h]; rfl) ?_
  rintro f cdv A outer s H E hr ds S d S' eq ⟨p, t, n, rfl, ht, rfl, rfl⟩
  show SX _ _ [.dat (.int p), .dat (tT t)] S' _
  exact sx_one (s1_ret (de_ix (t := true) (i := ((0 : Nat) : Int)) (DE.tup (de_ok (ok_reduced T) hr (by decide) rfl (by walk_at "da") (PotEq.refl _) ⟨p, t, n, rfl, ht, rfl, rfl⟩)) de_int (atI_get rfl)) ⟨rfl, rfl⟩)
/-! ### betweens, leads -/
def r_betweens_of (K : PySem.W.Frag) : Sig := fun ds S d S' => ∃ (b : Bool) (p : Int) (t rows : List (List Int)) (n : Nat), ds = [rmD K p t, sq b (rows.map tI)] ∧ (pT p t n ∧ (∀ r, r ∈ rows → Row p n r) ∧ rows.length ≤ 1000) ∧ d = tT (betsF p t rows) ∧ S' = S
theorem led_rowQ {p : Int} {n : Nat} {t : List (List Int)} {r : List Int} (hp : 0 < p) (h : Tab p n n t) : Row p n (ledF p r t) := by
  cases n with
  | zero =>
    have e : t = [] := List.length_eq_zero_iff.mp h.1
    rw [e]
    unfold ledF mixF
    rw [List.zip_nil_right]
    exact ⟨rfl, fun x hx => by cases hx⟩
  | succ n => exact ledF_row hp h (by omega)
theorem ok_betweens_of (T : Fx K mg) : Ok P w K mg base "betweens_of" 4 (r_betweens_of K) := by
  refine ok_of T.g_betweens_of T.f_betweens_of sc_betweens_of (fun _ _ _ _ _ _ us hl => match us, hl with | [_, _], _ => rfl) (fun ds S d S' ⟨_, _, _, _, _, h, _⟩ => by rw [h]; rfl) ?_
  rintro f cdv A outer s H E hr ds S d S' eq ⟨b, p, t, rows, n, rfl, ⟨⟨hp, htt, hn⟩, hrows, hl⟩, rfl, rfl⟩
  have hb := hp.b
  have hled : ∀ r : List Int, Row p n (ledF p r t) := fun r => led_rowQ (by omega) htt
  show SX _ _ [.dat (rmD K p t), .dat (sq b (rows.map tI)), .no, .no, .no, .no] S' _
  refine sx_cons (p_set rfl sc_betweens_of.nd (d := .int p) (de_pr (p := p) (t := t) T (by walk_at "de")) (by walk_at "put") ?_)
  show SX _ _ [.dat (rmD K p t), .dat (sq b (rows.map tI)), .dat (.int p), .no, .no, .no] S' _
  refine sx_cons (p_lc rfl sc_betweens_of.nd (lc_nameM (xs := rows) (φ := tI) (g := fun r => tI (ledF p r t)) (dss (ds := rows.map tI) (by walk_at "de")).c sc_betweens_of.nd (j := 4) rfl (by omega) ?_) (own := [("row", 4)]) (by walk_at "put") ?_ rfl rfl rfl (blkOk_by (N := N_betweens_of) (sc := defScope (topS 49)) (by decide +kernel)))
  · intro s2 H2 C2 cl2 fp2 r hrm
    have hrow := hrows r hrm
    show DE _ _ [.dat (rmD K p t), .dat (sq b (rows.map tI)), .dat (.int p), .no, .dat (tI r), .no] S' _ S'
    exact de_ok (X := blk _ _ s2 H2 C2 cl2 fp2) (ok_led_of T) hr (by decide) rfl (da_cons (by walk_at "de") (da_cons (by walk_at "de") (da_cons (de_rw (X := blk _ _ s2 H2 C2 cl2 fp2) (p := p) (t := t) T (by walk_at "de")) da_nil))) (PotEq.refl _) ⟨p, r, t, n, n, rfl, ⟨hp, hrow.2, htt, by omega, by omega, by rw [hrow.1]; omega⟩, rfl, rfl⟩
  rw [map_comp (f := fun r : List Int => ledF p r t) (φ := tI)]
  show SX _ _ [.dat (rmD K p t), .dat (sq b (rows.map tI)), .dat (.int p), .dat (.lst ((rows.map fun r => ledF p r t).map tI)), .no, .no] S' _
  refine sx_one (s1_ret (DE.cast (d' := tT (betsF p t rows)) (de_tupL (DN.seq (LC.dn (own := [("near", 5)]) (lc_nameM (xs := rows.map fun r => ledF p r t) (φ := tI) (g := fun u => tI (rows.map fun q => dotF p u q)) (ds_list (ds := (rows.map fun r => ledF p r t).map tI) (by walk_at "de")).c sc_betweens_of.nd (j := 5) rfl (by rw [List.length_map]; omega) ?_) rfl sc_betweens_of.nd (blkOk_by (N := N_betweens_of) (sc := defScope (topS 49)) (by decide +kernel)))) (by rfl) T.b_tuple) ?_) ⟨rfl, rfl⟩)
  · intro s2 H2 C2 cl2 fp2 u hu
    obtain ⟨r0, _, rfl⟩ := List.mem_map.mp hu
    have h0 := hled r0
    generalize ledF p r0 t = u at h0 ⊢
    show DE _ _ [.dat (rmD K p t), .dat (sq b (rows.map tI)), .dat (.int p), .dat (.lst ((rows.map fun r => ledF p r t).map tI)), .no, .dat (tI u)] S' _ S'
    refine DE.cast (de_tupL (X := blk _ _ s2 H2 C2 cl2 fp2) (DN.seq (LC.dn (own := [("row", 4)]) (lc_nameM (xs := rows) (φ := tI) (g := fun q => .int (dotF p u q)) (dss (ds := rows.map tI) (by walk_at "de")).c sc_betweens_of.nd (j := 4) rfl (by omega) ?_) rfl sc_betweens_of.nd (blkOk_by (by kernel_rfl)))) (by rfl) T.b_tuple) ?_
    · intro s3 H3 C3 cl3 fp3 q hq
      show DE _ _ [.dat (rmD K p t), .dat (sq b (rows.map tI)), .dat (.int p), .dat (.lst ((rows.map fun r => ledF p r t).map tI)), .dat (tI q), .dat (tI u)] S' _ S'
      exact de_ok (X := blk _ _ s3 H3 C3 cl3 fp3) (ok_dot T) hr (by decide) rfl (by walk_at "da") (PotEq.refl _) ⟨p, u, q, rfl, ⟨hp, h0.2, (hrows q hq).2, by rw [h0.1]; omega⟩, rfl, rfl⟩
    · rw [map_id_ints]
  · rw [List.map_map]
    unfold betsF
    show D.tup (rows.map _) = D.tup ((rows.map _).map tI)
    rw [List.map_map]
    rfl
/-- whether a table is a lead -/
def leadB (p : Int) (t u rows : List (List Int)) : Bool := decide ((redF p rows).1 ≠ 0) && decide (betsF p u rows = t)
def r_leads_to (K : PySem.W.Frag) : Sig := fun ds S d S' => ∃ (b c : Bool) (p : Int) (t u rows : List (List Int)) (n : Nat), ds = [rmD K p t, rmD K p u, sq b (rows.map (qI c))] ∧ (pT p t n ∧ pT p u n ∧ Mat p n n rows) ∧ d = .bl (leadB p t u rows) ∧ S' = S
theorem ok_leads_to (T : Fx K mg) : Ok P w K mg base "leads_to" 5 (r_leads_to K) := by
  refine ok_of T.g_leads_to T.f_leads_to sc_leads_to (fun _ _ _ _ _ _ us hl => match us, hl with | [_, _, _], _ => rfl) (fun ds S d S' ⟨_, _, _, _, _, _, _, h, _⟩ => by rw [h]; rfl) ?_
  rintro f cdv A outer s H E hr ds S d S' eq ⟨b, c, p, t, u, rows, n, rfl, ⟨⟨hp, htt, hn⟩, ⟨_, hut, _⟩, hm⟩, rfl, rfl⟩
  show SX _ _ [.dat (rmD K p t), .dat (rmD K p u), .dat (sq b (rows.map (qI c))), .no] S' _
  refine sx_cons (s1_if (k := false || false) (DW.db (dw_or (k := false) (DB.cast (db_neI (de_pr (p := p) (t := t) T (by walk_at "de")) (de_pr (p := p) (t := u) T (by walk_at "de"))) (by rw [decide_eq_true rfl]; rfl)) fun _ => dw_or1 (DB.cast (db_neI (de_len (DE.tup (ds := t.map tI) (de_rw (p := p) (t := t) T (by walk_at "de"))) (by rfl) T.b_len) (de_len (DE.tup (ds := u.map tI) (de_rw (p := p) (t := u) T (by walk_at "de"))) (by rfl) T.b_len)) (by rw [List.length_map, List.length_map, htt.1, hut.1, decide_eq_true rfl]; rfl)))) (fun k => nomatch k) fun _ => sx_nil ?_)
  refine sx_cons (p_set rfl sc_leads_to.nd (d := tT rows) (de_ok (ok_table_inQ T) hr (by decide) rfl (da_cons (de_pr (p := p) (t := t) T (by walk_at "de")) (da_cons (by walk_at "de") da_nil)) (PotEq.refl _) ⟨b, c, p, rows, n, rfl, ⟨hm, hn⟩, rfl, rfl⟩) (by walk_at "put") ?_)
  show SX _ _ [.dat (rmD K p t), .dat (rmD K p u), .dat (sq b (rows.map (qI c))), .dat (tT rows)] S' _
  unfold leadB
  refine sx_cons (s1_if (k := false || (false || decide ((redF p rows).1 = 0))) (DW.db (dw_or (k := false) (db_isF (d := tT rows) (by walk_at "de") rfl) fun _ => dw_or (k := false) (DB.cast (db_neI (de_len (DE.tup (ds := rows.map tI) (by walk_at "de")) (by rfl) T.b_len) (de_len (DE.tup (ds := t.map tI) (de_rw (p := p) (t := t) T (by walk_at "de"))) (by rfl) T.b_len)) (by rw [List.length_map, List.length_map, htt.1, hm.1, decide_eq_true rfl]; rfl)) fun _ => dw_or1 (db_eqI (de_ok (ok_determinant_of T) hr (by decide) rfl (da_cons (de_pr (p := p) (t := t) T (by walk_at "de")) (da_cons (by walk_at "de") da_nil)) (PotEq.refl _) ⟨p, rows, n, rfl, ⟨hp, hm, hn⟩, rfl, rfl⟩) de_int))) (fun k => ?_) fun k => sx_nil ?_)
  · have h : (redF p rows).1 = 0 := by simpa using k
    rw [decide_eq_false (fun h2 => h2 h)]
    exact sx_one (s1_ret de_bl ⟨rfl, rfl⟩)
  · have h : ¬ (redF p rows).1 = 0 := by simpa using k
    rw [decide_eq_true h, Bool.true_and]
    exact sx_one (s1_ret (db_eq (k := decide (betsF p u rows = t)) 2 2 (by exact hr) (de_ok (ok_betweens_of T) hr (by decide) rfl (by walk_at "da") (PotEq.refl _) ⟨true, p, u, rows, n, rfl, ⟨⟨hp, hut, hn⟩, hm.2, by rw [hm.1]; omega⟩, rfl, rfl⟩) (de_rw (p := p) (t := t) T (by walk_at "de")) (ok_tT _) (ok_tT _) (by rw [decide_eq_true_iff, inj_tT])).de ⟨rfl, rfl⟩)
def r_is_keeper (K : PySem.W.Frag) : Sig := fun ds S d S' => ∃ (b c : Bool) (p : Int) (t rows : List (List Int)) (n : Nat), ds = [rmD K p t, sq b (rows.map (qI c))] ∧ (pT p t n ∧ Mat p n n rows) ∧ d = .bl (leadB p t t rows) ∧ S' = S
theorem ok_is_keeper (T : Fx K mg) : Ok P w K mg base "is_keeper" 6 (r_is_keeper K) := by
  refine ok_of T.g_is_keeper T.f_is_keeper sc_is_keeper (fun _ _ _ _ _ _ us hl => match us, hl with | [_, _], _ => rfl) (fun ds S d S' ⟨_, _, _, _, _, _, h, _⟩ => by rw [h]; rfl) ?_
  rintro f cdv A outer s H E hr ds S d S' eq ⟨b, c, p, t, rows, n, rfl, ⟨ht, hm⟩, rfl, rfl⟩
  show SX _ _ [.dat (rmD K p t), .dat (sq b (rows.map (qI c))), .no] S' _
  refine sx_cons (p_set rfl sc_is_keeper.nd (de_ok (ok_want_room T) hr (by decide) rfl (by walk_at "da") (PotEq.refl _) ⟨p, t, rfl, rfl, rfl⟩) (by walk_at "put") ?_)
  exact sx_one (s1_ret (de_ok (ok_leads_to T) hr (by decide) rfl (by walk_at "da") (PotEq.refl _) ⟨b, c, p, t, t, rows, n, rfl, ⟨ht, ht, hm⟩, rfl, rfl⟩) ⟨rfl, rfl⟩)
end

end K88

set_option Elab.async false
set_option linter.all false
set_option autoImplicit false
set_option maxRecDepth 100000
set_option maxHeartbeats 400000
namespace K88
open PySem PySem.Spec PyProof.Rows L2 RZ Ab
local macro_rules | `(tactic| walk_at "has") => `(tactic| first | exact Has.here | (apply Has.there; walk_at "has"))
local macro_rules | `(tactic| walk_at "ata") => `(tactic| first | exact At.here | (apply At.there; walk_at "ata"))
local macro_rules | `(tactic| walk_at "put") => `(tactic| first | exact Put.here | (apply Put.there; walk_at "put"))
local macro_rules | `(tactic| walk_at "puta") => `(tactic| first | exact PutA.here | (apply PutA.there; walk_at "puta"))
local macro_rules | `(tactic| walk_at "wk") => `(tactic| first | exact Wk.nil | (apply Wk.same; walk_at "wk") | (apply Wk.no; walk_at "wk"))
local macro_rules | `(tactic| walk_at "side") => `(tactic| first | assumption | omega | decide)
local macro_rules | `(tactic| walk_at "de") => `(tactic| first
  | assumption
  | exact de_int
  | exact de_non
  | exact de_bl
  | exact de_str
  | (refine' de_name rfl ?hz; (case hz => walk_at "has"))
  | (refine' de_mod ?d1 ?d2 ?d3; (case d1 => walk_at "de"); (case d2 => walk_at "de"); (case d3 => walk_at "side"))
  | (refine' de_add ?d1 ?d2; (case d1 => walk_at "de"); (case d2 => walk_at "de"))
  | (refine' de_sub ?d1 ?d2; (case d1 => walk_at "de"); (case d2 => walk_at "de"))
  | (refine' de_mul ?d1 ?d2 ?d3; (case d1 => walk_at "de"); (case d2 => walk_at "de"); (case d3 => first | assumption | (refine mulW1 ?_ ?_ <;> omega)))
  | (refine' de_fdiv ?d1 ?d2 ?d3; (case d1 => walk_at "de"); (case d2 => walk_at "de"); (case d3 => exact divW (by omega)))
  | (refine' de_tupX ?d1 ?d2; (case d1 => walk_at "da"); (case d2 => exact Nat.le_of_ble_eq_true rfl))
  )
local macro_rules | `(tactic| walk_at "da") => `(tactic| first | exact da_nil | (refine' da_cons ?a1 ?a2; (case a1 => walk_at "de"); (case a2 => walk_at "da")))
local macro_rules | `(tactic| walk_at "db") => `(tactic| first
  | assumption
  | (refine' db_eqI ?d1 ?d2; (case d1 => walk_at "de"); (case d2 => walk_at "de"))
  | (refine' db_neI ?d1 ?d2; (case d1 => walk_at "de"); (case d2 => walk_at "de"))
  | (refine' db_lt ?d1 ?d2; (case d1 => walk_at "de"); (case d2 => walk_at "de"))
  | (refine' db_gt ?d1 ?d2; (case d1 => walk_at "de"); (case d2 => walk_at "de"))
  | (refine' db_le ?d1 ?d2; (case d1 => walk_at "de"); (case d2 => walk_at "de"))
  | (refine' db_ge ?d1 ?d2; (case d1 => walk_at "de"); (case d2 => walk_at "de"))
  | (refine' db_not ?d1; (case d1 => walk_at "db"))
  )
section
variable {P : Program} {w : World} {K : PySem.W.Frag} {mg : Str → Option Value} {base : Heap}
open Rk
open Dt (zdN zdS ztN zltF diagS stepD ledS step_b rowsF prodF PR pairsF nearF fitF lsF listF)
def r__law_tableZ : Sig := fun ds S d S' => ∃ (a : Addr) (q : Pot) (p : Int) (n : Nat) (su : Int), ds = [.adr a, .int p, .int n, .int su] ∧ S = ptS a q ∧ (Pr p ∧ pOk q ∧ n ≤ 6) ∧ d = lL (zltF su p n q).1 ∧ S' = ptS a (zltF su p n q).2
theorem ok__law_table (T : Fx K mg) : Ok P w K mg base "_law_table" 2 r__law_tableZ := by
  refine ok_of T.g__law_table T.f__law_table sc__law_table (fun _ _ _ _ _ _ us hl => match us, hl with | [_, _, _, _], _ => rfl) (fun ds S d S' ⟨_, _, _, _, _, h, _⟩ => by rw [h]; rfl) ?_
  rintro f cdv A outer s H E hr ds S d S' eq ⟨a, q, p, n, su, rfl, rfl, ⟨hp, hq, hn⟩, rfl, rfl⟩
  have hb := hp.b
  show SX _ _ [.dat (.adr a), .dat (.int p), .dat (.int n), .dat (.int su), .no, .no, .no, .no, .no, .no, .no, .no, .no] (ptS a q) _
  refine sx_cons (p_setN rfl sc__law_table.nd (dn_lst da_nil) (by walk_at "put") ?_)
  show SX _ _ [.dat (.adr a), .dat (.int p), .dat (.int n), .dat (.int su), .own [], .no, .no, .no, .no, .no, .no, .no, .no] (ptS a q) _
  refine p_toGrid (N := N__law_table) (it := 4) (x := "_law_table_here") (by walk_at "ata") (by walk_at "puta") ?_
  refine sx_forT (fun i => [.dat (.adr a), .dat (.int p), .dat (.int n), .dat (.int su), gD (zdN su p n q i).1, .no, .no, .no, .no, .no, .no, .no, .no]) (fun i => ptS a (zdN su p n q i).2) (ds_range1 (n := n) (by walk_at "de") (by omega) rfl T.b_range) tm_one
    (tg_name sc__law_table.nd (j := 5) rfl (by first | exact .inl rfl | exact .inr rfl)) (by exact .same (.same (.same (.same (.same (.same (.same (.same (.same (.same (.same (.same (.same .nil))))))))))))) (fun i x hx _ => ?_) (fun _ => ?_) (ps_for PassesOwn.never rfl WI.pi WG.pg WS.ps)
  · have hi : i < n := by
      have := (List.getElem?_eq_some_iff.mp hx).1
      rw [iot_len] at this
      omega
    have ex : x = (i : Nat) := by
      rw [iot_get (by omega)] at hx
      have := Option.some.inj hx
      omega
    subst ex
    obtain ⟨h1, h2, h3⟩ := Dt.zd_ok (su := su) hp hq i (show i ≤ n by omega)
    show SX _ _ [.dat (.adr a), .dat (.int p), .dat (.int n), .dat (.int su), gD (zdN su p n q i).1, .dat (.int (i : Nat)), .no, .no, .no, .no, .no, .no, .no] (ptS a (zdN su p n q i).2) _
    have hst : zdN su p n q (i + 1) = zdS su p n i (zdN su p n q i) := rfl
    rw [hst]
    generalize hs : zdN su p n q i = st at h1 h2 h3 ⊢
    obtain ⟨t, q1⟩ := st
    have h2 : t.length = i := h2
    have h1 : pOk q1 := h1
    refine sx_cons (p_gapp (r := (List.replicate n (0 : Int)).map D.int) rfl (by walk_at "ata") (DN.cast (dn_rep (ds := [.int 0]) (k := n) (DN.stand (dn_lst (da_cons de_int da_nil) (Nat.le_of_ble_eq_true rfl))) (by walk_at "de") (by rw [Int.toNat_natCast]; show 1 * n ≤ 100000; omega) (by omega)) (by rw [Int.toNat_natCast, rep0])) (by rw [List.length_map, h2]; omega) (by walk_at "puta") ?_)
    have hd4 := draw_b (q := q1) (m := 4) (by omega)
    have gl : ((t.map fun r => r.map D.int) ++ [(List.replicate n (0 : Int)).map D.int])[i]? = some ((List.replicate n (0 : Int)).map D.int) := by
      rw [List.getElem?_append_right (by rw [List.length_map, h2]; exact Nat.le_refl i), List.length_map, h2, Nat.sub_self]
      rfl
    have gs : ∀ x : Int, ((t.map fun r => r.map D.int) ++ [(List.replicate n (0 : Int)).map D.int]).set i (((List.replicate n (0 : Int)).map D.int).set i (.int x)) = (t ++ [(List.replicate n (0 : Int)).set i x]).map fun r => r.map D.int := fun x => by
      rw [List.set_append_right _ _ (by rw [List.length_map, h2]; exact Nat.le_refl i), List.length_map, h2, Nat.sub_self, List.map_append, ← List.map_set]
      rfl
    have cD : ∀ {X : Cx} {Δ : List Sl} {S1 S2 : PotS} {pos : Pos} {c x y : Expr} {d : D}, DB X c Δ S1 false S1 → DE X y Δ S1 d S2 → DE X (.IfExp c x y pos) Δ S1 d S2 := fun h k => DE.cast (de_if (k := false) (d1 := .non) h (fun k => nomatch k) (fun _ => k)) rfl
    have cT : ∀ {X : Cx} {Δ : List Sl} {S1 S2 : PotS} {pos : Pos} {c x y : Expr} {d : D}, DB X c Δ S1 true S1 → DE X x Δ S1 d S2 → DE X (.IfExp c x y pos) Δ S1 d S2 := fun h k => DE.cast (de_if (k := true) (d2 := .non) h (fun _ => k) (fun k => nomatch k)) rfl
    by_cases hsu : (i : Int) < su
    · have e : zdS su p n i (t, q1) = (t ++ [(List.replicate n 0).set i (1 + (drawF q1 (p - 1)).1)], (drawF q1 (p - 1)).2) := if_pos hsu
      rw [e]
      refine sx_one (p_gset (i := i) (j := i) (S1 := ptS a (drawF q1 (p - 1)).2) (d := .int (1 + (drawF q1 (p - 1)).1)) rfl (by walk_at "ata") (cT (DB.cast (db_lt (by walk_at "de") (by walk_at "de")) (decide_eq_true hsu)) (de_add de_int (de_ok (ok__law_draw T) hr (by decide) rfl (by walk_at "da") pt_eq ⟨a, q1, p - 1, rfl, rfl, ⟨h1, by omega, by omega⟩, rfl, rfl⟩))) (by walk_at "de") (by walk_at "de") gl (by rw [List.length_map, List.length_replicate]; exact hi) (by walk_at "puta") ⟨?_, rfl⟩)
      rw [gs]
      walk_at "wk"
    have e0 : zdS su p n i (t, q1) = diagS p n i (t, q1) := if_neg hsu
    rw [e0]
    by_cases hd : (drawF q1 4).1 > 0
    · have e : diagS p n i (t, q1) = (t ++ [(List.replicate n 0).set i (drawF (drawF q1 4).2 p).1], (drawF (drawF q1 4).2 p).2) := if_pos hd
      rw [e]
      refine sx_one (p_gset (i := i) (j := i) (S1 := ptS a (drawF (drawF q1 4).2 p).2) (d := .int (drawF (drawF q1 4).2 p).1) rfl (by walk_at "ata") (cD (DB.cast (db_lt (by walk_at "de") (by walk_at "de")) (decide_eq_false hsu)) (DE.cast (de_if (k := true) (d2 := .non) (S1 := ptS a (drawF q1 4).2) (DB.cast (db_gt (de_ok (ok__law_draw T) hr (by decide) rfl (by walk_at "da") pt_eq ⟨a, q1, 4, rfl, rfl, ⟨h1, by omega, by omega⟩, rfl, rfl⟩) de_int) (decide_eq_true hd)) (fun _ => de_ok (ok__law_draw T) hr (by decide) rfl (by walk_at "da") pt_eq ⟨a, _, p, rfl, rfl, ⟨draw_ok h1, by omega, by omega⟩, rfl, rfl⟩) (fun k => nomatch k)) rfl)) (by walk_at "de") (by walk_at "de") gl (by rw [List.length_map, List.length_replicate]; exact hi) (by walk_at "puta") ⟨?_, rfl⟩)
      rw [gs]
      walk_at "wk"
    · have e : diagS p n i (t, q1) = (t ++ [(List.replicate n 0).set i 0], (drawF q1 4).2) := if_neg hd
      rw [e]
      refine sx_one (p_gset (i := i) (j := i) (S1 := ptS a (drawF q1 4).2) (d := .int 0) rfl (by walk_at "ata") (cD (DB.cast (db_lt (by walk_at "de") (by walk_at "de")) (decide_eq_false hsu)) (DE.cast (de_if (k := false) (d1 := .non) (S1 := ptS a (drawF q1 4).2) (DB.cast (db_gt (de_ok (ok__law_draw T) hr (by decide) rfl (by walk_at "da") pt_eq ⟨a, q1, 4, rfl, rfl, ⟨h1, by omega, by omega⟩, rfl, rfl⟩) de_int) (decide_eq_false hd)) (fun k => nomatch k) (fun _ => de_int)) rfl)) (by walk_at "de") (by walk_at "de") gl (by rw [List.length_map, List.length_replicate]; exact hi) (by walk_at "puta") ⟨?_, rfl⟩)
      rw [gs]
      walk_at "wk"
  · have hlen : (iot 0 1 (n : Int).toNat).length = n := by rw [iot_len, Int.toNat_natCast]
    rw [hlen]
    show SX _ _ [.dat (.adr a), .dat (.int p), .dat (.int n), .dat (.int su), gD (ztN su p n q 0).1, .no, .no, .no, .no, .no, .no, .no, .no] (ptS a (ztN su p n q 0).2) _
    generalize hc : (if n > 1 then 2 * n else 0) = c
    have hcb : c ≤ 12 := by
      rw [← hc]
      split <;> omega
    have hcn : 0 < c → 1 < n := fun h => by
      rw [← hc] at h
      split at h <;> omega
    have hlt : zltF su p n q = ztN su p n q c := by
      unfold zltF
      rw [hc]
    rw [hlt]
    refine sx_forT (fun i => [.dat (.adr a), .dat (.int p), .dat (.int n), .dat (.int su), gD (ztN su p n q i).1, .no, .no, .no, .no, .no, .no, .no, .no]) (fun i => ptS a (ztN su p n q i).2) (ds_range1 (n := c) (DE.cast (de_if (k := decide (1 < (n : Int))) (by walk_at "db") (fun _ => de_mul de_int (by walk_at "de") (mulW1 (by omega) (by omega))) (fun _ => de_int)) ?_) (by omega) rfl T.b_range) tm_one
      (tg_name sc__law_table.nd (j := 6) rfl (by first | exact .inl rfl | exact .inr rfl)) (by walk_at "wk") (fun i x hx _ => ?_) (fun _ => ?_) (ps_for PassesOwn.never rfl WI.pi WG.pg WS.ps)
    · rw [← hc]
      by_cases h : n > 1
      · rw [if_pos h, if_pos (decide_eq_true (by omega))]
        congr 1
      · rw [if_neg h, if_neg (by rw [decide_eq_true_iff]; omega)]
        rfl
    · have hi : i < c := by
        have := (List.getElem?_eq_some_iff.mp hx).1
        rw [iot_len] at this
        omega
      have hn1 := hcn (by omega)
      obtain ⟨hrm, hq1⟩ := Dt.zt_ok (su := su) hp hq (n := n) i fun _ => hn1
      have hst : ztN su p n q (i + 1) = stepD p n (ztN su p n q i) := rfl
      rw [hst]
      show SX _ _ [.dat (.adr a), .dat (.int p), .dat (.int n), .dat (.int su), gD (ztN su p n q i).1, .no, .dat (.int x), .no, .no, .no, .no, .no, .no] (ptS a (ztN su p n q i).2) _
      generalize ztN su p n q i = st at hrm hq1 ⊢
      obtain ⟨t, q1⟩ := st
      have hm := hrm.mat
      have hm : Mat p n n t := hm
      have hq1 : pOk q1 := hq1
      obtain ⟨b1, b2, b3, c1, c2, c3, b4, hne⟩ := step_b (s := (t, q1)) hp hn1 hq1
      have hsd : stepD p n (t, q1) = (ledS p t (drawF q1 n).1.toNat (((drawF q1 n).1 + 1 + (drawF (drawF (drawF q1 n).2 (p - 1)).2 ((n : Int) - 1)).1) % n).toNat (1 + (drawF (drawF q1 n).2 (p - 1)).1), (drawF (drawF (drawF q1 n).2 (p - 1)).2 ((n : Int) - 1)).2) := rfl
      rw [hsd]
      show SX _ _ [.dat (.adr a), .dat (.int p), .dat (.int n), .dat (.int su), gD t, .no, .dat (.int x), .no, .no, .no, .no, .no, .no] (ptS a q1) _
      refine sx_cons (p_tupV2 (s := .dat (.int (drawF q1 n).1)) (t := .dat (.int (1 + (drawF (drawF q1 n).2 (p - 1)).1))) rfl rfl sc__law_table.nd (dv_dat (de_ok (ok__law_draw T) hr (by decide) rfl (by walk_at "da") pt_eq ⟨a, q1, n, rfl, rfl, ⟨hq1, by omega, by omega⟩, rfl, rfl⟩) (dv_dat (de_add de_int (de_ok (ok__law_draw T) hr (by decide) rfl (by walk_at "da") pt_eq ⟨a, _, p - 1, rfl, rfl, ⟨c1, by omega, by omega⟩, rfl, rfl⟩)) dv_nil)) (by walk_at "puta") (by walk_at "puta") ?_ (by decide))
      refine sx_cons (p_set rfl sc__law_table.nd (d := .int (((drawF q1 n).1 + 1 + (drawF (drawF (drawF q1 n).2 (p - 1)).2 ((n : Int) - 1)).1) % n)) (de_mod (de_intI (de_add (de_add (by walk_at "de") de_int) (de_ok (ok__law_draw T) hr (by decide) rfl (by walk_at "da") pt_eq ⟨a, _, (n : Int) - 1, rfl, rfl, ⟨c2, by omega, by omega⟩, rfl, rfl⟩)) (by rfl) T.b_int) (by walk_at "de") (by omega)) (by walk_at "put") ?_)
      show SX _ _ _ (ptS a (drawF (drawF (drawF q1 n).2 (p - 1)).2 ((n : Int) - 1)).2) _
      have hob : -100 ≤ 1 + (drawF (drawF q1 n).2 (p - 1)).1 ∧ 1 + (drawF (drawF q1 n).2 (p - 1)).1 ≤ 100 := by
        have b2' : 0 ≤ (drawF (drawF q1 n).2 (p - 1)).1 ∧ (drawF (drawF q1 n).2 (p - 1)).1 < p - 1 := b2
        omega
      generalize hone : (drawF q1 n).1 = one at *
      generalize hoth : (one + 1 + (drawF (drawF (drawF q1 n).2 (p - 1)).2 ((n : Int) - 1)).1) % n = other at *
      generalize hoft : 1 + (drawF (drawF q1 n).2 (p - 1)).1 = often at *
      have e1 : one = (one.toNat : Nat) := by omega
      have e2 : other = (other.toNat : Nat) := by omega
      have l1 : one.toNat < n := by omega
      have l2 : other.toNat < n := by omega
      generalize one.toNat = o1 at e1 l1 ⊢
      generalize other.toNat = o2 at e2 l2 ⊢
      subst e1
      subst e2
      have r1 := (hm.get l1).2
      have r2 := (hm.get l2).2
      show SX _ _ [.dat (.adr a), .dat (.int p), .dat (.int n), .dat (.int su), gD t, .no, .dat (.int x), .dat (.int (o1 : Int)), .dat (.int often), .dat (.int (o2 : Int)), .no, .no, .no] _ _
      refine sx_cons (p_grow (i := o1) (r := (addF p (gr t o1) (gr t o2) often).map D.int) rfl (by walk_at "ata") (DN.cast (LC.dn (own := [("_law_near", 10), ("_law_far", 11)]) (lc_pairM (xs := (gr t o1).zip (gr t o2)) (φ := fun v => .int v.1) (ψ := fun v => .int v.2) (g := fun v => .int ((v.1 + often * v.2) % p)) rfl (dsc_zip2 (xs := gr t o1) (ys := gr t o2) (φ := .int) (ψ := .int) (dq_grid (k := (o1 : Int)) rfl (by walk_at "ata") (by walk_at "de") (gD_get hm l1)) (dq_grid (k := (o2 : Int)) rfl (by walk_at "ata") (by walk_at "de") (gD_get hm l2)) (by rfl) T.b_zip) sc__law_table.nd (j := 10) (k := 11) rfl rfl (by rw [List.length_zip, r1.1]; omega) ?_) rfl sc__law_table.nd (blkOk_by (N := N__law_table) (sc := defScope (topS 73)) (by decide +kernel))) ?_) (by walk_at "de") (by rw [List.length_map, hm.1]; exact l1) (by walk_at "puta") ?_)
      · intro s2 H2 C2 cl2 fp2 v hv
        obtain ⟨k1, k2⟩ := List.of_mem_zip hv
        have k3 := r1.2 _ k1
        have k4 := r2.2 _ k2
        exact de_mod (de_intI (de_add (de_name rfl (by walk_at "has")) (de_mul (de_name rfl (by walk_at "has")) (de_name rfl (by walk_at "has")) (mulW1 (by omega) (by omega)))) (by rfl) T.b_int) (de_name rfl (by walk_at "has")) (by omega)
      · rw [map_id_ints]
        rfl
      · refine sx_one (p_forRow (j := o1) (f := fun r => .int ((gi r o1 + often * gi r o2) % p)) (Δ' := [.dat (.adr a), .dat (.int p), .dat (.int n), .dat (.int su), gD (ledS p t o1 o2 often), .no, .dat (.int x), .dat (.int (o1 : Int)), .dat (.int often), .dat (.int (o2 : Int)), .no, .no, .no]) rfl sc__law_table.nd (by walk_at "ata") (by walk_at "puta") (by decide) ?_ (fun r hr => ?_) (fun r hr => ?_) ⟨by walk_at "wk", rfl⟩)
        · rw [led_grid]
          walk_at "puta"
        · have hr : ∃ r0, Row p n r0 ∧ r = r0.map D.int := by
            rw [← List.map_set] at hr
            obtain ⟨r0, h0, rfl⟩ := List.mem_map.mp hr
            refine ⟨r0, ?_, rfl⟩
            rcases List.mem_or_eq_of_mem_set h0 with h0 | h0
            · exact hm.2 r0 h0
            · rw [h0]
              exact addF_row (by omega) r1.1 r2.1
          obtain ⟨r0, h0, rfl⟩ := hr
          refine ⟨by rw [List.length_map, h0.1]; exact l1, ?_⟩
          rw [gi_map, gi_map]
          have k3 := (h0.get l1).2
          have k4 := (h0.get l2).2
          exact de_mod (de_intI (de_add (de_ix (t := false) (i := (o1 : Int)) (dq_own (ds := r0.map D.int) rfl (by walk_at "has")) (by walk_at "de") (atI_map (h0.get l1).1)) (de_mul (by walk_at "de") (de_ix (t := false) (i := (o2 : Int)) (dq_own (ds := r0.map D.int) rfl (by walk_at "has")) (by walk_at "de") (atI_map (h0.get l2).1)) (mulW1 (by omega) (by omega)))) (by rfl) T.b_int) (by walk_at "de") (by omega)
        · show DE _ _ [.dat (.adr a), .dat (.int p), .dat (.int n), .dat (.int su), .no, .no, .dat (.int x), .dat (.int (o1 : Int)), .dat (.int often), .dat (.int (o2 : Int)), .no, .no, .own r] _ _ _
          walk_at "de"
    · have hlen : (iot 0 1 (c : Int).toNat).length = c := by rw [iot_len, Int.toNat_natCast]
      rw [hlen]
      show SX _ _ [.dat (.adr a), .dat (.int p), .dat (.int n), .dat (.int su), gD (ztN su p n q c).1, .no, .no, .no, .no, .no, .no, .no, .no] (ptS a (ztN su p n q c).2) _
      exact sx_one (s1_retG rfl (by walk_at "ata") ⟨gD_lL, rfl⟩)
def r__law_determinantT : Sig := fun ds S d S' => ∃ (p : Int) (t : List (List Int)) (n : Nat), ds = [.int p, tT t] ∧ (Pr p ∧ Mat p n n t ∧ n ≤ 6) ∧ d = .int (ldetF p t) ∧ S' = S
abbrev dtT (p : Int) (t rows : List (List Int)) (f : Int) : List Sl := [.dat (.int p), .dat (tT t), .own (rows.map lI), .dat (.int f), .no, .no, .no, .no, .no, .no, .no, .no, .no]
theorem ok__law_determinantT (T : Fx K mg) : Ok P w K mg base "_law_determinant" 1 r__law_determinantT := by
  refine ok_of T.g__law_determinant T.f__law_determinant sc__law_determinant (fun _ _ _ _ _ _ us hl => match us, hl with | [_, _], _ => rfl) (fun ds S d S' ⟨_, _, _, h, _⟩ => by rw [h]; rfl) ?_
  rintro f cdv A outer s H E hr ds S d S' eq ⟨p, t, n, rfl, ⟨hp, ht, hn⟩, rfl, rfl⟩
  have hb := hp.b
  have htl := ht.1
  show SX _ _ [.dat (.int p), .dat (tT t), .no, .no, .no, .no, .no, .no, .no, .no, .no, .no, .no] S' _
  refine sx_cons (p_tupV2 (s := .own (t.map lI)) (t := .dat (.int 1)) rfl rfl sc__law_determinant.nd (dv_own (LC.dn (own := [("_law_row", 4)]) (lc_nameM (xs := t) (φ := tI) (g := lI) (ds_tup (ds := t.map tI) (by walk_at "de")).c sc__law_determinant.nd (j := 4) rfl (by omega) ?_) rfl sc__law_determinant.nd (blkOk_by (N := N__law_determinant) (sc := defScope (topS 72)) (by decide +kernel))) (dv_dat de_int dv_nil)) (by walk_at "puta") (by walk_at "puta") ?_ (by decide))
  · intro s2 H2 C2 cl2 fp2 r hrm
    show DE _ _ [.dat (.int p), .dat (tT t), .no, .no, .dat (tI r), .no, .no, .no, .no, .no, .no, .no, .no] _ _ _
    exact (dn_list (X := blk _ _ s2 H2 C2 cl2 fp2) (DE.tup (ds := r.map .int) (by walk_at "de")) (by rfl) T.b_list).dat
  · have q0 : ∀ i, ∃ rows f, (stN p t i).getD ([], 0) = (rows, f) := fun i => ⟨_, _, rfl⟩
    refine sx_forJ (fun i => dtT p t ((stN p t i).getD ([], 0)).1 ((stN p t i).getD ([], 0)).2) (fun i => (stN p t i).isSome = true) (ds_range1 (n := t.length) (DE.cast (de_len (dq_own (ds := t.map lI) rfl (by walk_at "has")) (by rfl) T.b_len) (by rw [List.length_map])) (by omega) rfl T.b_range) tm_one
      (tg_name sc__law_determinant.nd (j := 5) rfl (by first | exact .inl rfl | exact .inr rfl)) (by walk_at "wk") rfl (fun i x hx J => ?_) (fun J => ?_) (ps_for PassesOwn.never rfl WI.pi WG.pg WS.ps)
    · have hi : i < n := by
        have := (List.getElem?_eq_some_iff.mp hx).1
        rw [iot_len] at this
        omega
      have ex : x = (i : Nat) := by
        rw [iot_get (by omega)] at hx
        have := Option.some.inj hx
        omega
      subst ex
      cases hq : stN p t i with
      | none =>
        rw [hq] at J
        cases J
      | some q =>
        obtain ⟨rows, fo⟩ := q
        obtain ⟨hm, hf0, hf1⟩ := stN_mat (by omega) ht i _ (by omega) hq
        have hm : Mat p n n rows := hm
        have hf0 : 0 ≤ fo := hf0
        have hf1 : fo < p := hf1
        have hnx : stN p t (i + 1) = stepF p i (rows, fo) := by
          show (stN p t i).bind (stepF p i) = _
          rw [hq]
          rfl
        show SX _ _ [.dat (.int p), .dat (tT t), .own (rows.map lI), .dat (.int fo), .no, .dat (.int (i : Nat)), .no, .no, .no, .no, .no, .no, .no] S' _
        refine sx_cons (p_lc rfl sc__law_determinant.nd (lc_name (xs := iot (i : Nat) 1 ((n : Int) - (i : Nat)).toNat) (φ := .int) (g := .int) (bt := fun s => !decide (ge rows s.toNat i % p = 0)) (ds_range2 (m := (i : Nat)) (n := n) (by walk_at "de") (DE.cast (de_len (dq_own (ds := rows.map lI) rfl (by walk_at "has")) (by rfl) T.b_len) (by rw [List.length_map, hm.1])) (by omega) (by rfl) T.b_range).c sc__law_determinant.nd (j := 7) rfl (by rw [iot_len]; omega) ?_ ?_) (own := [("_law_spot", 7)]) (by walk_at "put") ?_ rfl rfl rfl (blkOk_by (N := N__law_determinant) (sc := defScope (topS 72)) (by decide +kernel)))
        · intro s2 H2 C2 cl2 fp2 v hv
          have hv := mem_iot1.mp hv
          have ev : v = (v.toNat : Nat) := by omega
          refine dp_one (DB.dt (db_neI (de_mod (de_intI (de_el (X := blk _ _ s2 H2 C2 cl2 fp2) hm (dq_own (ds := rows.map lI) rfl (by walk_at "has")) (DE.cast (d := .int v) (de_name rfl (by walk_at "has")) (by rw [← ev])) (de_name rfl (by walk_at "has")) (by omega) hi) (by rfl) T.b_int) (de_name rfl (by walk_at "has")) (by omega)) de_int))
        · intro s2 H2 C2 cl2 fp2 v hv _
          exact de_name rfl (by walk_at "has")
        · rw [spots_eq hm.1 (by omega)]
          show SX _ _ [.dat (.int p), .dat (tT t), .own (rows.map lI), .dat (.int fo), .no, .dat (.int (i : Nat)), .dat (.lst (((spotsF p rows i).map Int.ofNat).map .int)), .no, .no, .no, .no, .no, .no] S' _
          have okl : ∀ l : List Int, dOk 60 (.lst (l.map .int)) = true := fun l => by
            show (l.map D.int).all (dOk 59) = true
            rw [List.all_map, List.all_eq_true]
            intro _ _
            rfl
          refine sx_cons (s1_if (k := (((spotsF p rows i).map Int.ofNat).map D.int).isEmpty) (db_eqNil (t := false) (by exact hr) (by walk_at "de") (okl _)) (fun hk => ?_) fun hk => sx_nil ?_)
          · have hsp : spotsF p rows i = [] := by
              rw [List.isEmpty_map, List.isEmpty_map] at hk
              exact List.isEmpty_iff.mp hk
            have hno : stN p t (i + 1) = none := by
              rw [hnx]
              unfold stepF
              rw [hsp]
            have hd : ldetF p t = 0 := by
              have := stN_none hno (n - (i + 1))
              rw [show i + 1 + (n - (i + 1)) = n by omega] at this
              unfold ldetF
              rw [htl, this]
            rw [hd]
            exact sx_one (s1_ret de_int ⟨rfl, rfl⟩)
          · cases hsp : spotsF p rows i with
            | nil =>
              rw [hsp] at hk
              cases hk
            | cons s0 l =>
              have hsb := spots_mem (p := p) (rows := rows) (k := i) (s := s0) (by rw [hsp]; exact List.mem_cons_self)
              have hs0 : s0 < n := by rw [← hm.1]; exact hsb.2.1
              have hst : stN p t (i + 1) = some (elimF p (if s0 = i then rows else swapF rows i s0) i, (if s0 = i then fo else 0 - fo) * ge (if s0 = i then rows else swapF rows i s0) i i % p) := by
                rw [hnx]
                unfold stepF
                rw [show spotsF p (rows, fo).1 i = s0 :: l from hsp]
              obtain ⟨rows1, f1, e1, e2⟩ : ∃ rows1 f1, (if s0 = i then rows else swapF rows i s0) = rows1 ∧ (if s0 = i then fo else 0 - fo) = f1 := ⟨_, _, rfl, rfl⟩
              rw [e1, e2] at hst
              have hm1 : Mat p n n rows1 := by
                rw [← e1]
                split
                · exact hm
                · exact swapF_mat hm hi hs0
              have hf1' : -13 < f1 ∧ f1 < 13 := by
                rw [← e2]
                split <;> omega
              have hpv : ge rows1 i i % p ≠ 0 := by
                rw [← e1]
                split
                · rename_i h
                  rw [← h]
                  have := hsb.2.2
                  rw [h] at this ⊢
                  exact this
                · rename_i h
                  have : ge (swapF rows i s0) i i = ge rows s0 i := by
                    unfold ge swapF
                    have : gr ((rows.set i (gr rows s0)).set s0 (gr rows i)) i = gr rows s0 := by
                      unfold gr
                      rw [List.getD_eq_getElem?_getD, List.getElem?_set_ne (fun e => h e), List.getElem?_set_self (by rw [hm.1]; exact hi)]
                      rfl
                    rw [this]
                  rw [this]
                  exact hsb.2.2
              refine sx_cons (s1_ifJ (k := !decide (((s0 : Nat) : Int) = ((i : Nat) : Int))) (S2 := S') (Δ2 := [.dat (.int p), .dat (tT t), .own (rows1.map lI), .dat (.int f1), .no, .dat (.int (i : Nat)), .dat (.lst (((s0 :: l).map Int.ofNat).map .int)), .no, .no, .no, .no, .no, .no]) (db_neI (de_ix (t := false) (ds := ((s0 :: l).map Int.ofNat).map .int) (i := (0 : Nat)) (DE.lst (by walk_at "de")) de_int (atI_get rfl)) (by walk_at "de")) (fun k => ?_) (fun k => ?_) ?_)
              · have hne : ¬ s0 = i := by
                  intro h
                  rw [h] at k
                  simp at k
                rw [if_neg hne] at e1 e2
                refine sx_one (p_swap (i := i) (j := s0) (Δ2 := [.dat (.int p), .dat (tT t), .own ((rows.map lI).set i (lI (gr rows s0))), .dat (.int fo), .no, .dat (.int (i : Nat)), .dat (.lst (((s0 :: l).map Int.ofNat).map .int)), .no, .no, .no, .no, .no, .no]) rfl rfl sc__law_determinant.nd (da_cons (de_ix (t := false) (ds := rows.map lI) (i := (s0 : Nat)) (dq_own rfl (by walk_at "has")) (de_ix (t := false) (ds := ((s0 :: l).map Int.ofNat).map .int) (i := (0 : Nat)) (DE.lst (by walk_at "de")) de_int (atI_get rfl)) (atI_map (hm.get hs0).1)) (da_cons (de_ix (t := false) (ds := rows.map lI) (i := (i : Nat)) (dq_own rfl (by walk_at "has")) (by walk_at "de") (atI_map (hm.get hi).1)) (da_cons (de_sub de_int (by walk_at "de")) da_nil))) (by walk_at "ata") (by walk_at "de") (de_ix (t := false) (ds := ((s0 :: l).map Int.ofNat).map .int) (i := (0 : Nat)) (DE.lst (by walk_at "de")) de_int (atI_get rfl)) (by rw [List.length_map, hm.1]; exact hi) (by rw [List.length_map, hm.1]; exact hs0) (by walk_at "puta") (by walk_at "puta") (by walk_at "put") ⟨?_, rfl⟩)
                rw [← e1, ← e2]
                unfold swapF
                rw [List.map_set, List.map_set]
              · have he : s0 = i := by
                  have : ((s0 : Nat) : Int) = ((i : Nat) : Int) := by simpa using k
                  omega
                rw [if_pos he] at e1 e2
                subst e1
                subst e2
                exact sx_nil ⟨rfl, rfl⟩
              · show SX _ _ [.dat (.int p), .dat (tT t), .own (rows1.map lI), .dat (.int f1), .no, .dat (.int (i : Nat)), .dat (.lst (((s0 :: l).map Int.ofNat).map .int)), .no, .no, .no, .no, .no, .no] S' _
                have hge := ((hm1.get hi).2.get hi)
                have hg0 : 0 ≤ ge rows1 i i ∧ ge rows1 i i < p := ⟨hge.2.1, hge.2.2⟩
                have hgp : 0 < ge rows1 i i := by
                  rcases Int.lt_or_eq_of_le hg0.1 with h | h
                  · exact h
                  · rw [← h] at hpv
                    exact absurd (Int.zero_emod p) hpv
                obtain ⟨bk0, bk1, bk2, bk3⟩ := bk_get hp ⟨hgp, hg0.2⟩
                refine sx_cons (p_set rfl sc__law_determinant.nd (de_mod (de_intI (de_mul (by walk_at "de") (de_el hm1 (dq_own (ds := rows1.map lI) rfl (by walk_at "has")) (by walk_at "de") (by walk_at "de") hi hi) (mulW1 (by omega) (by omega))) (by rfl) T.b_int) (by walk_at "de") (by omega)) (by walk_at "put") ?_)
                refine sx_cons (p_set rfl sc__law_determinant.nd (d := .int (bkF p (ge rows1 i i))) (de_ix (t := false) (i := (0 : Nat)) (LC.dn (own := [("_law_number", 9)]) (lc_name (xs := iot 0 1 p.toNat) (φ := .int) (g := .int) (bt := fun x => decide (x * ge rows1 i i % p = 1)) (ds_range1 (n := p) (by walk_at "de") (by omega) (by rfl) T.b_range).c sc__law_determinant.nd (j := 9) rfl (by rw [iot_len]; omega) ?_ ?_) rfl sc__law_determinant.nd (blkOk_by (N := N__law_determinant) (sc := defScope (topS 72)) (by decide +kernel))).seq de_int (atI_map ?_)) (by walk_at "put") ?_)
                · intro s2 H2 C2 cl2 fp2 v hv
                  have hv := mem_iot1.mp hv
                  exact dp_one (DB.dt (db_eqI (de_mod (de_intI (de_mul (de_name rfl (by walk_at "has")) (de_el (X := blk _ _ s2 H2 C2 cl2 fp2) hm1 (dq_own (ds := rows1.map lI) rfl (by walk_at "has")) (de_name rfl (by walk_at "has")) (de_name rfl (by walk_at "has")) hi hi) (mulW1 (by omega) (by omega))) (by rfl) T.b_int) (de_name rfl (by walk_at "has")) (by omega)) de_int))
                · intro s2 H2 C2 cl2 fp2 v hv _
                  exact de_name rfl (by walk_at "has")
                · rw [iot_rg]
                  exact bk0
                · generalize hfo : f1 * ge rows1 i i % p = f2 at hst ⊢
                  show SX _ _ [.dat (.int p), .dat (tT t), .own (rows1.map lI), .dat (.int f2), .no, .dat (.int (i : Nat)), .dat (.lst (((s0 :: l).map Int.ofNat).map .int)), .no, .dat (.int (bkF p (ge rows1 i i))), .no, .no, .no, .no] S' _
                  refine sx_forT (fun m => [.dat (.int p), .dat (tT t), .own ((elimN p rows1 i m).map lI), .dat (.int f2), .no, .dat (.int (i : Nat)), .dat (.lst (((s0 :: l).map Int.ofNat).map .int)), .no, .dat (.int (bkF p (ge rows1 i i))), .no, .no, .no, .no]) (fun _ => S') (ds_range2 (m := (i : Nat) + 1) (n := n) (by walk_at "de") (DE.cast (de_len (dq_own (ds := rows1.map lI) rfl (by walk_at "has")) (by rfl) T.b_len) (by rw [List.length_map, hm1.1])) (by omega) rfl T.b_range) tm_one
                    (tg_name sc__law_determinant.nd (j := 7) rfl (by first | exact .inl rfl | exact .inr rfl)) (by rw [elimN_zero]; walk_at "wk") (fun m x hxm _ => ?_) (fun _ => ?_) (ps_for PassesOwn.never rfl WI.pi WG.pg WS.ps)
                  · have hml : m < ((n : Int) - ((i : Nat) + 1)).toNat := by
                      have := (List.getElem?_eq_some_iff.mp hxm).1
                      rw [iot_len] at this
                      exact this
                    rw [iot_get hml] at hxm
                    have exm : x = ((i + 1 + m : Nat) : Int) := by
                      have := Option.some.inj hxm
                      omega
                    subst exm
                    have him : i + 1 + m < n := by omega
                    obtain ⟨g1, g2, g3⟩ := elimN_get hm1 him
                    have hm2 := elimN_mat (m := m) (show (0 : Int) < p by omega) hm1 hi
                    show SX _ _ [.dat (.int p), .dat (tT t), .own ((elimN p rows1 i m).map lI), .dat (.int f2), .no, .dat (.int (i : Nat)), .dat (.lst (((s0 :: l).map Int.ofNat).map .int)), .dat (.int ((i + 1 + m : Nat) : Int)), .dat (.int (bkF p (ge rows1 i i))), .no, .no, .no, .no] S' _
                    refine sx_cons (p_set rfl sc__law_determinant.nd (de_mod (de_intI (de_mul (de_el hm2 (dq_own (ds := (elimN p rows1 i m).map lI) rfl (by walk_at "has")) (by walk_at "de") (by walk_at "de") him hi) (by walk_at "de") (rest_mul hp ⟨bk1, bk2⟩ ((hm2.get him).2.get hi).2)) (by rfl) T.b_int) (by walk_at "de") (by omega)) (by walk_at "put") ?_)
                    have e5 : ge (elimN p rows1 i m) (i + 1 + m) i = (gr rows1 (i + 1 + m)).getD i 0 := by
                      unfold ge
                      have : gr (elimN p rows1 i m) (i + 1 + m) = gr rows1 (i + 1 + m) := by
                        have := (hm2.get him).1
                        rw [g1] at this
                        exact (Option.some.inj this).symm
                      rw [this]
                    rw [e5]
                    have hr1 := (hm1.get him).2
                    have hr0 := (hm1.get hi).2
                    refine sx_one (s1_setIx (N := N__law_determinant) (j := i + 1 + m) rfl (by walk_at "ata") (LC.dn (own := [("_law_one", 11), ("_law_other", 12)]) (lc_pairM (xs := (gr rows1 (i + 1 + m)).zip (gr rows1 i)) (φ := fun v => .int v.1) (ψ := fun v => .int v.2) (g := fun v => .int ((v.1 - ((gr rows1 (i + 1 + m)).getD i 0 * bkF p (ge rows1 i i) % p) * v.2) % p)) rfl (dsc_zip2 (xs := gr rows1 (i + 1 + m)) (ys := gr rows1 i) (φ := .int) (ψ := .int) (DE.lst (de_ix (t := false) (ds := (elimN p rows1 i m).map lI) (i := ((i + 1 + m : Nat) : Int)) (dq_own rfl (by walk_at "has")) (by walk_at "de") (atI_map g1))) (DE.lst (de_ix (t := false) (ds := (elimN p rows1 i m).map lI) (i := (i : Nat)) (dq_own rfl (by walk_at "has")) (by walk_at "de") (atI_map g3))) (by rfl) T.b_zip) sc__law_determinant.nd (j := 11) (k := 12) rfl rfl (by rw [List.length_zip, hr1.1]; omega) ?_) rfl sc__law_determinant.nd (blkOk_by (N := N__law_determinant) (sc := defScope (topS 72)) (by decide +kernel))).dat (by walk_at "de") (by rw [List.length_map, hm2.1]; exact him) ?_)
                    · intro s2 H2 C2 cl2 fp2 v hv
                      obtain ⟨k1, k2⟩ := List.of_mem_zip hv
                      have k3 := hr1.2 _ k1
                      have k4 := hr0.2 _ k2
                      have kb := emod_b (p := p) (x := (gr rows1 (i + 1 + m)).getD i 0 * bkF p (ge rows1 i i)) (by omega)
                      exact de_mod (de_intI (de_sub (de_name rfl (by walk_at "has")) (de_mul (de_name rfl (by walk_at "has")) (de_name rfl (by walk_at "has")) (rest_mul hp k4 kb))) (by rfl) T.b_int) (de_name rfl (by walk_at "has")) (by omega)
                    · refine ⟨?_, rfl⟩
                      show Wk _ [.dat (.int p), .dat (tT t), .own ((elimN p rows1 i (m + 1)).map lI), .dat (.int f2), .no, .dat (.int (i : Nat)), .dat (.lst (((s0 :: l).map Int.ofNat).map .int)), .no, .dat (.int (bkF p (ge rows1 i i))), .no, .no, .no, .no]
                      rw [g2, List.map_set, show (lI (combF p (gr rows1 i) i (bkF p (ge rows1 i i)) (gr rows1 (i + 1 + m)))) = D.lst (((gr rows1 (i + 1 + m)).zip (gr rows1 i)).map fun v => .int ((v.1 - ((gr rows1 (i + 1 + m)).getD i 0 * bkF p (ge rows1 i i) % p) * v.2) % p)) from by unfold combF; rw [map_id_ints]]
                      exact .same (.same (.same (.same (.no (.same (.same (.no (.same (.no (.no (.no (.no .nil))))))))))))
                  · refine sx_nil ⟨?_, rfl, by rw [hst]; rfl⟩
                    show Wk [.dat (.int p), .dat (tT t), .own ((elimN p rows1 i (iot ((i : Nat) + 1) 1 ((n : Int) - ((i : Nat) + 1)).toNat).length).map lI), .dat (.int f2), .no, .dat (.int (i : Nat)), .dat (.lst (((s0 :: l).map Int.ofNat).map .int)), .no, .dat (.int (bkF p (ge rows1 i i))), .no, .no, .no, .no] (dtT p t ((stN p t (i + 1)).getD ([], 0)).1 ((stN p t (i + 1)).getD ([], 0)).2)
                    rw [iot_len, elimN_all (by rw [hm1.1]; omega), hst]
                    exact .same (.same (.same (.same (.no (.no (.no (.no (.no (.no (.no (.no (.no .nil))))))))))))
    · have hlen : (iot 0 1 (t.length : Int).toNat).length = n := by rw [iot_len, Int.toNat_natCast]; exact htl
      rw [hlen] at J ⊢
      cases hq : stN p t n with
      | none =>
        rw [hq] at J
        cases J
      | some q =>
        have hd : ldetF p t = q.2 % p := by
          unfold ldetF
          rw [htl, hq]
        rw [hd]
        show SX _ _ [.dat (.int p), .dat (tT t), .own (q.1.map lI), .dat (.int q.2), .no, .no, .no, .no, .no, .no, .no, .no, .no] S' _
        exact sx_one (s1_ret (de_mod (de_intI (by walk_at "de") (by rfl) T.b_int) (by walk_at "de") (by omega)) ⟨rfl, rfl⟩)
end

end K88

set_option Elab.async false
set_option linter.all false
set_option autoImplicit false
set_option maxRecDepth 100000
set_option maxHeartbeats 400000
namespace K88
open PySem PySem.Spec PyProof.Rows L2 RZ Ab
local macro_rules | `(tactic| walk_at "has") => `(tactic| first | exact Has.here | (apply Has.there; walk_at "has"))
local macro_rules | `(tactic| walk_at "ata") => `(tactic| first | exact At.here | (apply At.there; walk_at "ata"))
local macro_rules | `(tactic| walk_at "put") => `(tactic| first | exact Put.here | (apply Put.there; walk_at "put"))
local macro_rules | `(tactic| walk_at "puta") => `(tactic| first | exact PutA.here | (apply PutA.there; walk_at "puta"))
local macro_rules | `(tactic| walk_at "wk") => `(tactic| first | exact Wk.nil | (apply Wk.same; walk_at "wk") | (apply Wk.no; walk_at "wk"))
local macro_rules | `(tactic| walk_at "side") => `(tactic| first | assumption | omega | decide)
local macro_rules | `(tactic| walk_at "de") => `(tactic| first
  | assumption
  | exact de_int
  | exact de_non
  | exact de_bl
  | exact de_str
  | (refine' de_name rfl ?hz; (case hz => walk_at "has"))
  | (refine' de_mod ?d1 ?d2 ?d3; (case d1 => walk_at "de"); (case d2 => walk_at "de"); (case d3 => walk_at "side"))
  | (refine' de_add ?d1 ?d2; (case d1 => walk_at "de"); (case d2 => walk_at "de"))
  | (refine' de_sub ?d1 ?d2; (case d1 => walk_at "de"); (case d2 => walk_at "de"))
  | (refine' de_mul ?d1 ?d2 ?d3; (case d1 => walk_at "de"); (case d2 => walk_at "de"); (case d3 => first | assumption | (refine mulW1 ?_ ?_ <;> omega)))
  | (refine' de_fdiv ?d1 ?d2 ?d3; (case d1 => walk_at "de"); (case d2 => walk_at "de"); (case d3 => exact divW (by omega)))
  | (refine' de_tupX ?d1 ?d2; (case d1 => walk_at "da"); (case d2 => exact Nat.le_of_ble_eq_true rfl))
  )
local macro_rules | `(tactic| walk_at "da") => `(tactic| first | exact da_nil | (refine' da_cons ?a1 ?a2; (case a1 => walk_at "de"); (case a2 => walk_at "da")))
local macro_rules | `(tactic| walk_at "db") => `(tactic| first
  | assumption
  | (refine' db_eqI ?d1 ?d2; (case d1 => walk_at "de"); (case d2 => walk_at "de"))
  | (refine' db_neI ?d1 ?d2; (case d1 => walk_at "de"); (case d2 => walk_at "de"))
  | (refine' db_lt ?d1 ?d2; (case d1 => walk_at "de"); (case d2 => walk_at "de"))
  | (refine' db_gt ?d1 ?d2; (case d1 => walk_at "de"); (case d2 => walk_at "de"))
  | (refine' db_le ?d1 ?d2; (case d1 => walk_at "de"); (case d2 => walk_at "de"))
  | (refine' db_ge ?d1 ?d2; (case d1 => walk_at "de"); (case d2 => walk_at "de"))
  | (refine' db_not ?d1; (case d1 => walk_at "db"))
  )
section
variable {P : Program} {w : World} {K : PySem.W.Frag} {mg : Str → Option Value} {base : Heap}
open Rk
open Dt (rowsF prodF PR pairsF nearF fitF lsF listF dnF rows_len ls_len ls_pair ls_mem rows_row)
def r__law_all_rows : Sig := fun ds S d S' => ∃ (p : Int) (n : Nat), ds = [.int p, .int (n : Int)] ∧ (Pr p ∧ n ≤ 4) ∧ d = lT (rowsF p n) ∧ S' = S
theorem rows_b {p : Int} {n : Nat} (hp : Pr p) (hn : n ≤ 4) : (rowsF p n).length ≤ 28561 := by
  have hb := hp.b
  rw [rows_len]
  refine Nat.le_trans (Nat.pow_le_pow_left (show p.toNat ≤ 13 by omega) n) ?_
  exact Nat.le_trans (Nat.pow_le_pow_right (by decide) hn) (by decide)
theorem ok__law_all_rows (T : Fx K mg) : Ok P w K mg base "_law_all_rows" 1 r__law_all_rows := by
  refine ok_of T.g__law_all_rows T.f__law_all_rows sc__law_all_rows (fun _ _ _ _ _ _ us hl => match us, hl with | [_, _], _ => rfl) (fun ds S d S' ⟨_, _, h, _⟩ => by rw [h]; rfl) ?_
  rintro f cdv A outer s H E hr ds S d S' eq ⟨p, n, rfl, ⟨hp, hn⟩, rfl, rfl⟩
  have hb := hp.b
  show SX _ _ [.dat (.int p), .dat (.int (n : Int)), .no, .no, .no, .no, .no] S' _
  refine sx_cons (p_set rfl sc__law_all_rows.nd (d := lT (rowsF p 0)) (DN.dat (dn_lst (da_cons (de_tupX da_nil (Nat.zero_le _)) da_nil) (Nat.le_of_ble_eq_true rfl))) (by walk_at "put") ?_)
  refine sx_forT (fun i => [.dat (.int p), .dat (.int (n : Int)), .dat (lT (rowsF p i)), .no, .no, .no, .no]) (fun _ => S') (ds_range1 (n := n) (by walk_at "de") (by omega) rfl T.b_range) tm_one
    (tg_name sc__law_all_rows.nd (j := 3) rfl (by first | exact .inl rfl | exact .inr rfl)) (by walk_at "wk") (fun i x hx _ => ?_) (fun _ => ?_) (ps_for PassesOwn.never rfl WI.pi WG.pg WS.ps)
  · have hi : i < n := by
      have := (List.getElem?_eq_some_iff.mp hx).1
      rw [iot_len] at this
      omega
    have hl3 := rows_b (p := p) (n := i + 1) hp (by omega)
    show SX _ _ [.dat (.int p), .dat (.int (n : Int)), .dat (lT (rowsF p i)), .dat (.int x), .no, .no, .no] S' _
    refine sx_cons (p_setN rfl sc__law_all_rows.nd (dn_lst da_nil) (by walk_at "put") ?_)
    let g : List Int → List (List Int) := fun r => (rg p.toNat).map fun x => r ++ [x]
    have tk : ∀ j, (((rowsF p i).take j).flatMap g).length ≤ 28561 := fun j => by
      have e : (rowsF p i).flatMap g = ((rowsF p i).take j).flatMap g ++ ((rowsF p i).drop j).flatMap g := by
        rw [← List.flatMap_append, List.take_append_drop]
      have e2 : (rowsF p (i + 1)).length = _ := congrArg List.length e
      rw [List.length_append] at e2
      omega
    refine sx_forT (fun j => [.dat (.int p), .dat (.int (n : Int)), .dat (lT (rowsF p i)), .no, .own ((((rowsF p i).take j).flatMap g).map tI), .no, .no]) (fun _ => S') (ds_list (ds := (rowsF p i).map tI) (by walk_at "de")) tm_one
      (tg_name sc__law_all_rows.nd (j := 5) rfl (by first | exact .inl rfl | exact .inr rfl)) (by walk_at "wk") (fun j r hrj _ => ?_) (fun _ => ?_) (ps_for PassesOwn.never rfl WI.pi WG.pg WS.ps)
    · show SX _ _ [.dat (.int p), .dat (.int (n : Int)), .dat (lT (rowsF p i)), .no, .own ((((rowsF p i).take j).flatMap g).map tI), .dat (tI r), .no] S' _
      have k1 := (rows_row (p := p) (by omega) (List.mem_of_getElem? hrj)).1
      have es : ((rowsF p i).take (j + 1)).flatMap g = ((rowsF p i).take j).flatMap g ++ g r := by
        rw [List.take_add_one, hrj, List.flatMap_append]
        show _ ++ (g r ++ []) = _
        rw [List.append_nil]
      have hlen := tk (j + 1)
      rw [es, List.length_append] at hlen
      refine sx_one (p_ext (fs := (g r).map tI) rfl (by walk_at "ata") (DN.cast (LC.dn (own := [("_law_rest", 6)]) (lc_nameM (xs := iot 0 1 p.toNat) (φ := .int) (g := fun a => tI (r ++ [a])) (ds_range1 (n := p) (by walk_at "de") (by omega) (by rfl) T.b_range).c sc__law_all_rows.nd (j := 6) rfl (by rw [iot_len]; omega) ?_) rfl sc__law_all_rows.nd (blkOk_by (N := N__law_all_rows) (sc := defScope (topS 74)) (by decide +kernel))) ?_) (by rw [List.length_map, List.length_map]; omega) (by walk_at "puta") ?_)
      · intro s2 H2 C2 cl2 fp2 v hv
        show DE _ _ [.dat (.int p), .dat (.int (n : Int)), .dat (lT (rowsF p i)), .no, .own ((((rowsF p i).take j).flatMap g).map tI), .dat (tI r), .dat (.int v)] S' _ S'
        refine DE.cast (de_catT (X := blk _ _ s2 H2 C2 cl2 fp2) (ds := r.map .int) (es := [.int v]) (by walk_at "de") (de_tupX (da_cons (by walk_at "de") da_nil) (Nat.le_of_ble_eq_true rfl)) (by rw [List.length_map]; show r.length + 1 ≤ _; omega)) ?_
        show D.tup (r.map .int ++ [D.int v]) = D.tup ((r ++ [v]).map .int)
        rw [List.map_append]
        rfl
      · rw [iot_rg, List.map_map]
        rfl
      · refine ⟨?_, rfl⟩
        rw [es, List.map_append]
        exact .same (.same (.same (.same (.same (.no (.no .nil))))))
    · show SX _ _ [.dat (.int p), .dat (.int (n : Int)), .dat (lT (rowsF p i)), .no, .own ((((rowsF p i).take ((rowsF p i).length)).flatMap g).map tI), .no, .no] S' _
      rw [List.take_length]
      refine sx_one (p_give rfl sc__law_all_rows.nd (by walk_at "ata") (by walk_at "puta") (by walk_at "puta") (by decide) ⟨?_, rfl⟩)
      exact .same (.same (.same (.no (.no (.no (.no .nil))))))
  · show SX _ _ [.dat (.int p), .dat (.int (n : Int)), .dat (lT (rowsF p (iot 0 1 (n : Int).toNat).length)), .no, .no, .no, .no] S' _
    rw [iot_len, Int.toNat_natCast]
    exact sx_one (s1_ret (by walk_at "de") ⟨rfl, rfl⟩)
def r__law_products : Sig := fun ds S d S' => ∃ (p : Int) (t : List (List Int)) (r : List Int) (n : Nat), ds = [.int p, lL t, tI r] ∧ (Pr p ∧ Mat p n n t ∧ Row p n r ∧ n ≤ 6) ∧ d = tI (prodF p t r) ∧ S' = S
theorem ok__law_products (T : Fx K mg) : Ok P w K mg base "_law_products" 1 r__law_products := by
  refine ok_of T.g__law_products T.f__law_products sc__law_products (fun _ _ _ _ _ _ us hl => match us, hl with | [_, _, _], _ => rfl) (fun ds S d S' ⟨_, _, _, _, h, _⟩ => by rw [h]; rfl) ?_
  rintro f cdv A outer s H E hr ds S d S' eq ⟨p, t, r, n, rfl, ⟨hp, ht, hrow, hn⟩, rfl, rfl⟩
  have hb := hp.b
  show SX _ _ [.dat (.int p), .dat (lL t), .dat (tI r), .no, .no, .no] S' _
  refine sx_one (s1_ret (DE.cast (de_tupL (DN.seq (LC.dn (own := [("_law_at", 5)]) (lc_nameM (xs := iot 0 1 n) (φ := .int) (g := fun c => .int (((r.zip t).map fun v => v.1 * v.2.getD c.toNat 0).sum % p)) (ds_range1 (n := n) (DE.cast (de_len (DE.lst (ds := t.map lI) (by walk_at "de")) (by rfl) T.b_len) (by rw [List.length_map, ht.1])) (by omega) (by rfl) T.b_range).c sc__law_products.nd (j := 5) rfl (by rw [iot_len]; omega) ?_) rfl sc__law_products.nd (blkOk_by (N := N__law_products) (sc := defScope (topS 75)) (by decide +kernel)))) (by rfl) T.b_tuple) ?_) ⟨rfl, rfl⟩)
  · intro s2 H2 C2 cl2 fp2 c hc
    have hc := mem_iot1.mp hc
    have ec : c = (c.toNat : Nat) := by omega
    have hcn : c.toNat < n := by omega
    show DE _ _ [.dat (.int p), .dat (lL t), .dat (tI r), .no, .no, .dat (.int c)] S' _ S'
    refine de_mod (X := blk _ _ s2 H2 C2 cl2 fp2) (de_intI (i := ((r.zip t).map fun v => v.1 * v.2.getD c.toNat 0).sum) (de_sum (ns := (r.zip t).map fun v => v.1 * v.2.getD c.toNat 0) rfl (DN.seq (DN.cast (LC.dn (own := [("_law_rest", 3), ("_law_line", 4)]) (lc_pairM (xs := r.zip t) (φ := fun v => .int v.1) (ψ := fun v => lI v.2) (g := fun v => .int (v.1 * v.2.getD c.toNat 0)) rfl (ds_zipTL (by walk_at "de") (by walk_at "de") (by rfl) T.b_zip).c sc__law_products.nd (j := 3) (k := 4) rfl rfl (by rw [List.length_zip, hrow.1]; omega) ?_) rfl sc__law_products.nd (blkOk_by (by kernel_rfl))) map_id_ints)) (by rfl) T.b_sum) (by rfl) T.b_int) (by walk_at "de") (by omega)
    intro s3 H3 C3 cl3 fp3 v hv
    obtain ⟨k1, k2⟩ := List.of_mem_zip hv
    have k3 := hrow.2 _ k1
    obtain ⟨k4, k5, k6⟩ := (ht.2 _ k2).get hcn
    show DE _ _ [.dat (.int p), .dat (lL t), .dat (tI r), .dat (.int v.1), .dat (lI v.2), .dat (.int c)] S' _ S'
    exact de_mul (X := blk _ _ s3 H3 C3 cl3 fp3) (by walk_at "de") (de_ix (t := false) (ds := v.2.map .int) (i := ((c.toNat : Nat) : Int)) (DE.lst (by walk_at "de")) (DE.cast (d := .int c) (by walk_at "de") (by rw [← ec])) (atI_map k4)) (mulW1 (by omega) (by omega))
  · rw [map_id_ints]
    unfold prodF
    rw [ht.1]
    have e : iot 0 1 n = rg n := by
      have := iot_rg (n := n)
      exact this
    rw [e]
def r__law_dot : Sig := fun ds S d S' => ∃ (p : Int) (r s : List Int), ds = [.int p, tI r, tI s] ∧ (Pr p ∧ Rests p r ∧ Rests p s ∧ r.length ≤ 1000) ∧ d = .int (dotF p r s) ∧ S' = S
theorem ok__law_dot (T : Fx K mg) : Ok P w K mg base "_law_dot" 1 r__law_dot := by
  refine ok_of T.g__law_dot T.f__law_dot sc__law_dot (fun _ _ _ _ _ _ us hl => match us, hl with | [_, _, _], _ => rfl) (fun ds S d S' ⟨_, _, _, h, _⟩ => by rw [h]; rfl) ?_
  rintro f cdv A outer s H E hr ds S d S' eq ⟨p, r, t, rfl, ⟨hp, h1, h2, h3⟩, rfl, rfl⟩
  have hb := hp.b
  show SX _ _ [.dat (.int p), .dat (tI r), .dat (tI t), .no, .no] S' _
  refine sx_one (s1_ret (de_mod (i := ((r.zip t).map fun v => v.1 * v.2).sum) (de_intI (de_sum (ns := (r.zip t).map fun v => v.1 * v.2) rfl (DN.seq (DN.cast (LC.dn (own := [("_law_near", 3), ("_law_far", 4)]) (lc_pairM (xs := r.zip t) (φ := fun v => .int v.1) (ψ := fun v => .int v.2) (g := fun v => .int (v.1 * v.2)) rfl (ds_zipT2 (by walk_at "de") (by walk_at "de") (by rfl) T.b_zip).c sc__law_dot.nd (j := 3) (k := 4) rfl rfl (by rw [List.length_zip]; omega) ?_) rfl sc__law_dot.nd (blkOk_by (N := N__law_dot) (sc := defScope (topS 76)) (by decide +kernel))) map_id_ints)) (by rfl) T.b_sum) (by rfl) T.b_int) (by walk_at "de") (by omega)) ⟨rfl, rfl⟩)
  intro s H C cl fp v hv
  show DE _ _ [.dat (.int p), .dat (tI r), .dat (tI t), .dat (.int v.1), .dat (.int v.2)] _ _ _
  obtain ⟨k1, k2⟩ := List.of_mem_zip hv
  have k3 := h1 _ k1
  have k4 := h2 _ k2
  exact de_mul (by walk_at "de") (by walk_at "de") (mulW1 (by omega) (by omega))
end

end K88

set_option Elab.async false
set_option linter.all false
set_option autoImplicit false
set_option maxRecDepth 100000
set_option maxHeartbeats 400000
namespace K88
open PySem PySem.Spec PyProof.Rows L2 RZ Ab
local macro_rules | `(tactic| walk_at "has") => `(tactic| first | exact Has.here | (apply Has.there; walk_at "has"))
local macro_rules | `(tactic| walk_at "ata") => `(tactic| first | exact At.here | (apply At.there; walk_at "ata"))
local macro_rules | `(tactic| walk_at "put") => `(tactic| first | exact Put.here | (apply Put.there; walk_at "put"))
local macro_rules | `(tactic| walk_at "puta") => `(tactic| first | exact PutA.here | (apply PutA.there; walk_at "puta"))
local macro_rules | `(tactic| walk_at "wk") => `(tactic| first | exact Wk.nil | (apply Wk.same; walk_at "wk") | (apply Wk.no; walk_at "wk"))
local macro_rules | `(tactic| walk_at "side") => `(tactic| first | assumption | omega | decide)
local macro_rules | `(tactic| walk_at "de") => `(tactic| first
  | assumption
  | exact de_int
  | exact de_non
  | exact de_bl
  | exact de_str
  | (refine' de_name rfl ?hz; (case hz => walk_at "has"))
  | (refine' de_mod ?d1 ?d2 ?d3; (case d1 => walk_at "de"); (case d2 => walk_at "de"); (case d3 => walk_at "side"))
  | (refine' de_add ?d1 ?d2; (case d1 => walk_at "de"); (case d2 => walk_at "de"))
  | (refine' de_sub ?d1 ?d2; (case d1 => walk_at "de"); (case d2 => walk_at "de"))
  | (refine' de_mul ?d1 ?d2 ?d3; (case d1 => walk_at "de"); (case d2 => walk_at "de"); (case d3 => first | assumption | (refine mulW1 ?_ ?_ <;> omega)))
  | (refine' de_fdiv ?d1 ?d2 ?d3; (case d1 => walk_at "de"); (case d2 => walk_at "de"); (case d3 => exact divW (by omega)))
  | (refine' de_tupX ?d1 ?d2; (case d1 => walk_at "da"); (case d2 => exact Nat.le_of_ble_eq_true rfl))
  )
local macro_rules | `(tactic| walk_at "da") => `(tactic| first | exact da_nil | (refine' da_cons ?a1 ?a2; (case a1 => walk_at "de"); (case a2 => walk_at "da")))
local macro_rules | `(tactic| walk_at "db") => `(tactic| first
  | assumption
  | (refine' db_eqI ?d1 ?d2; (case d1 => walk_at "de"); (case d2 => walk_at "de"))
  | (refine' db_neI ?d1 ?d2; (case d1 => walk_at "de"); (case d2 => walk_at "de"))
  | (refine' db_lt ?d1 ?d2; (case d1 => walk_at "de"); (case d2 => walk_at "de"))
  | (refine' db_gt ?d1 ?d2; (case d1 => walk_at "de"); (case d2 => walk_at "de"))
  | (refine' db_le ?d1 ?d2; (case d1 => walk_at "de"); (case d2 => walk_at "de"))
  | (refine' db_ge ?d1 ?d2; (case d1 => walk_at "de"); (case d2 => walk_at "de"))
  | (refine' db_not ?d1; (case d1 => walk_at "db"))
  )
section
variable {P : Program} {w : World} {K : PySem.W.Frag} {mg : Str → Option Value} {base : Heap}
open Rk
open Dt (rowsF prodF PR pairsF nearF fitF lsF listF dnF rows_len ls_len ls_pair ls_mem rows_row pair_ok prod_len)
abbrev prD (v : PR) : D := .tup [tI v.1, tI v.2]
abbrev plD (l : List PR) : D := .tup (l.map prD)
/-- the sizes for which all is listed -/
def small (p : Int) (n : Nat) : Prop := (p = 3 ∧ n = 3) ∨ ((p = 3 ∨ p = 5 ∨ p = 7) ∧ n = 2)
theorem small_b {p : Int} {n : Nat} (h : small p n) : Pr p ∧ n ≤ 3 ∧ p ≤ 7 ∧ (p.toNat ^ n) ^ n ≤ 20000 := by
  rcases h with ⟨rfl, rfl⟩ | ⟨rfl | rfl | rfl, rfl⟩
  · exact ⟨.inl rfl, by omega, by omega, by decide⟩
  · exact ⟨.inl rfl, by omega, by omega, by decide⟩
  · exact ⟨.inr (.inl rfl), by omega, by omega, by decide⟩
  · exact ⟨.inr (.inr (.inl rfl)), by omega, by omega, by decide⟩
theorem de_pair1 {X : Cx} {Δ : List Sl} {S : PotS} {pos p2 : Pos} {e : Expr} {v : PR} (h : DE X e Δ S (prD v) S) : DE X (.Subscript e (.Constant (.int 1) 0 p2) pos) Δ S (tI v.2) S := de_ix (t := true) (ds := [tI v.1, tI v.2]) (i := ((1 : Nat) : Int)) (DE.tup h) de_int (atI_get rfl)
theorem de_pair0 {X : Cx} {Δ : List Sl} {S : PotS} {pos p2 : Pos} {e : Expr} {v : PR} (h : DE X e Δ S (prD v) S) : DE X (.Subscript e (.Constant (.int 0) 0 p2) pos) Δ S (tI v.1) S := de_ix (t := true) (ds := [tI v.1, tI v.2]) (i := ((0 : Nat) : Int)) (DE.tup h) de_int (atI_get rfl)
/-- t[i][j], rows of lists -/
theorem de_elL {X : Cx} {Δ : List Sl} {S : PotS} {pos pos2 : Pos} {a b c : Expr} {rows : List (List Int)} {i j : Nat} {p : Int} {n m : Nat} (h : Mat p n m rows) (ha : DE X a Δ S (lL rows) S) (hb : DE X b Δ S (.int (i : Nat)) S) (hc : DE X c Δ S (.int (j : Nat)) S) (hi : i < n) (hj : j < m) (hs : PlainIx b := by exact fun _ _ => rfl) (hs2 : PlainIx c := by exact fun _ _ => rfl) : DE X (.Subscript (.Subscript a b pos) c pos2) Δ S (.int (ge rows i j)) S :=
  de_el h (DE.lst ha) hb hc hi hj hs hs2
def r__law_listed : Sig := fun ds S d S' => ∃ (p : Int) (t : List (List Int)) (n : Nat), ds = [.int p, lL t] ∧ (small p n ∧ Mat p n n t) ∧ d = .lst ((listF p t).map tT) ∧ S' = S
theorem ok__law_listed (T : Fx K mg) : Ok P w K mg base "_law_listed" 2 r__law_listed := by
  refine ok_of T.g__law_listed T.f__law_listed sc__law_listed (fun _ _ _ _ _ _ us hl => match us, hl with | [_, _], _ => rfl) (fun ds S d S' ⟨_, _, _, h, _⟩ => by rw [h]; rfl) ?_
  rintro f cdv A outer s H E hr ds S d S' eq ⟨p, t, n, rfl, ⟨hsm, ht⟩, rfl, rfl⟩
  obtain ⟨hp, hn, hp7, hbig⟩ := small_b hsm
  have hb := hp.b
  have htl := ht.1
  have hpl : (pairsF p t).length ≤ 20000 := by
    have e : (pairsF p t).length = p.toNat ^ n := by
      show ((rowsF p t.length).map _).length = _
      rw [List.length_map, rows_len, htl]
    rw [e]
    refine Nat.le_trans ?_ hbig
    exact Nat.le_self_pow (by rcases hsm with ⟨_, h⟩ | ⟨_, h⟩ <;> omega) _
  have hls : ∀ k, k ≤ n → (lsF p t k).length ≤ 20000 := fun k hk => by
    refine Nat.le_trans ls_len ?_
    have e : (pairsF p t).length = p.toNat ^ n := by
      show ((rowsF p t.length).map _).length = _
      rw [List.length_map, rows_len, htl]
    rw [e]
    refine Nat.le_trans (Nat.pow_le_pow_right (Nat.pow_pos (by omega)) hk) hbig
  have hpr : ∀ v, v ∈ pairsF p t → v.2 = prodF p t v.1 ∧ Row p n v.1 := fun v hv => by
    have := pair_ok (p := p) (t := t) (by omega) hv
    rw [htl] at this
    exact this
  have hprod : ∀ v, v ∈ pairsF p t → Rests p v.2 ∧ v.2.length = n := fun v hv => by
    rw [(hpr v hv).1]
    refine ⟨fun x hx => ?_, by rw [prod_len, htl]⟩
    unfold prodF at hx
    obtain ⟨c, _, rfl⟩ := List.mem_map.mp hx
    exact emod_b (by omega)
  show SX _ _ [.dat (.int p), .dat (lL t), .no, .no, .no, .no, .no, .no, .no, .no, .no, .no, .no] S' _
  refine sx_cons (p_par3 (s := .dat (.int (n : Int))) (t := .own []) (w := .dat (.lst [.tup []])) rfl rfl sc__law_listed.nd (dv_dat (DE.cast (de_len (DE.lst (ds := t.map lI) (by walk_at "de")) (by rfl) T.b_len) (by rw [List.length_map, htl])) (dv_own (dn_lst da_nil (Nat.zero_le _)) (dv_dat (DN.dat (dn_lst (da_cons (de_tupX da_nil (Nat.zero_le _)) da_nil) (Nat.le_of_ble_eq_true rfl))) dv_nil))) (by walk_at "puta") (by walk_at "puta") (by walk_at "puta") ?_ (by decide) (by decide) (by decide) rfl rfl rfl (by rfl))
  show SX _ _ [.dat (.int p), .dat (lL t), .dat (.int (n : Int)), .own [], .dat (.lst ((lsF p t 0).map plD)), .no, .no, .no, .no, .no, .no, .no, .no] S' _
  have hrl : (rowsF p n).length ≤ 20000 := by
    have : (pairsF p t).length = (rowsF p n).length := by
      show ((rowsF p t.length).map _).length = _
      rw [List.length_map, htl]
    omega
  refine sx_forT (fun i => [.dat (.int p), .dat (lL t), .dat (.int (n : Int)), .own (((rowsF p n).take i).map fun r => prD (r, prodF p t r)), .dat (.lst ((lsF p t 0).map plD)), .no, .no, .no, .no, .no, .no, .no, .no]) (fun _ => S') (ds_list (ds := (rowsF p n).map tI) (de_ok (ok__law_all_rows T) hr (by decide) rfl (by walk_at "da") (PotEq.refl _) ⟨p, n, rfl, ⟨hp, by omega⟩, rfl, rfl⟩)) tm_one
    (tg_name sc__law_listed.nd (j := 5) rfl (by first | exact .inl rfl | exact .inr rfl)) (by walk_at "wk") (fun i r hri _ => ?_) (fun _ => ?_) (ps_for PassesOwn.never rfl WI.pi WG.pg WS.ps)
  · have hrow := rows_row (p := p) (n := n) (by omega) (List.mem_of_getElem? hri)
    show SX _ _ [.dat (.int p), .dat (lL t), .dat (.int (n : Int)), .own (((rowsF p n).take i).map fun r => prD (r, prodF p t r)), .dat (.lst ((lsF p t 0).map plD)), .dat (tI r), .no, .no, .no, .no, .no, .no, .no] S' _
    have hli : ((rowsF p n).take i).length ≤ 20000 := by rw [List.length_take]; omega
    refine sx_one (p_app (d := prD (r, prodF p t r)) rfl (by walk_at "ata") (de_tupX (da_cons (by walk_at "de") (da_cons (de_ok (ok__law_products T) hr (by decide) rfl (by walk_at "da") (PotEq.refl _) ⟨p, t, r, n, rfl, ⟨hp, ht, hrow, by omega⟩, rfl, rfl⟩) da_nil)) (Nat.le_of_ble_eq_true rfl)) (by rw [List.length_map]; omega) (by walk_at "puta") ?_)
    refine ⟨?_, rfl⟩
    rw [List.take_add_one, hri, List.map_append]
    exact .same (.same (.same (.same (.same (.no (.no (.no (.no (.no (.no (.no (.no .nil))))))))))))
  have epairs : ((rowsF p n).take (rowsF p n).length).map (fun r => prD (r, prodF p t r)) = (pairsF p t).map prD := by
    rw [List.take_length]
    show _ = ((rowsF p t.length).map _).map prD
    rw [List.map_map, htl]
    rfl
  rw [epairs]
  refine sx_freeze (j := 3) (ds := (pairsF p t).map prD) rfl ?_
  show SX _ _ [.dat (.int p), .dat (lL t), .dat (.int (n : Int)), .dat (.lst ((pairsF p t).map prD)), .dat (.lst ((lsF p t 0).map plD)), .no, .no, .no, .no, .no, .no, .no, .no] S' _
  refine sx_forT (fun i => [.dat (.int p), .dat (lL t), .dat (.int (n : Int)), .dat (.lst ((pairsF p t).map prD)), .dat (.lst ((lsF p t i).map plD)), .no, .no, .no, .no, .no, .no, .no, .no]) (fun _ => S') (ds_range1 (n := n) (by walk_at "de") (by omega) rfl T.b_range) tm_one
    (tg_name sc__law_listed.nd (j := 6) rfl (by first | exact .inl rfl | exact .inr rfl)) (by walk_at "wk") (fun i x hx _ => ?_) (fun _ => ?_) (ps_for PassesOwn.never rfl WI.pi WG.pg WS.ps)
  · have hi : i < n := by
      have := (List.getElem?_eq_some_iff.mp hx).1
      rw [iot_len] at this
      omega
    have ex : x = (i : Nat) := by
      rw [iot_get (by omega)] at hx
      have := Option.some.inj hx
      omega
    subst ex
    show SX _ _ [.dat (.int p), .dat (lL t), .dat (.int (n : Int)), .dat (.lst ((pairsF p t).map prD)), .dat (.lst ((lsF p t i).map plD)), .no, .dat (.int (i : Nat)), .no, .no, .no, .no, .no, .no] S' _
    refine sx_cons (p_par2 (s := .dat (.lst ((nearF p t i).map prD))) (t := .own []) rfl rfl sc__law_listed.nd (dv_dat (DN.dat (LC.dn (own := [("_law_pair", 9)]) (lc_name (xs := pairsF p t) (φ := prD) (g := prD) (bt := fun v => dotF p v.2 v.1 == ge t i i) (ds_list (ds := (pairsF p t).map prD) (by walk_at "de")).c sc__law_listed.nd (j := 9) rfl (by omega) ?_ ?_) rfl sc__law_listed.nd (blkOk_by (N := N__law_listed) (sc := defScope (topS 77)) (by decide +kernel)))) (dv_own (dn_lst da_nil (Nat.zero_le _)) dv_nil)) (by walk_at "puta") (by walk_at "puta") ?_ (by decide) rfl rfl (by rfl))
    · intro s2 H2 C2 cl2 fp2 v hv
      obtain ⟨v1, v2⟩ := hpr v hv
      obtain ⟨v3, v4⟩ := hprod v hv
      refine dp_one (DB.dt ?_)
      rw [show (dotF p v.2 v.1 == ge t i i) = decide (dotF p v.2 v.1 = ge t i i) from Bool.beq_eq_decide_eq _ _]
      exact db_eqI (de_ok (X := blk _ _ s2 H2 C2 cl2 fp2) (ok__law_dot T) hr (by decide) rfl (da_cons (de_name rfl (by walk_at "has")) (da_cons (de_pair1 (v := v) (de_name rfl (by walk_at "has"))) (da_cons (de_pair0 (v := v) (de_name rfl (by walk_at "has"))) da_nil))) (PotEq.refl _) ⟨p, v.2, v.1, rfl, ⟨hp, v3, v2.2, by omega⟩, rfl, rfl⟩) (de_elL (X := blk _ _ s2 H2 C2 cl2 fp2) (i := i) (j := i) ht (de_name rfl (by walk_at "has")) (de_name rfl (by walk_at "has")) (de_name rfl (by walk_at "has")) hi hi)
    · intro s2 H2 C2 cl2 fp2 v hv _
      exact de_name rfl (by walk_at "has")
    have hnl : (nearF p t i).length ≤ 20000 := Nat.le_trans (List.length_filter_le _ _) hpl
    have hnm : ∀ v, v ∈ nearF p t i → v ∈ pairsF p t := fun v hv => (List.mem_filter.mp hv).1
    let G : List PR → List (List PR) := fun l => ((nearF p t i).filter (fitF p t i l)).map fun v => l ++ [v]
    have hl1 := hls (i + 1) (by omega)
    have hl0 := hls i (by omega)
    have tk : ∀ j, (((lsF p t i).take j).flatMap G).length ≤ 20000 := fun j => by
      have e : (lsF p t i).flatMap G = ((lsF p t i).take j).flatMap G ++ ((lsF p t i).drop j).flatMap G := by
        rw [← List.flatMap_append, List.take_append_drop]
      have e2 : (lsF p t (i + 1)).length = _ := congrArg List.length e
      rw [List.length_append] at e2
      omega
    show SX _ _ [.dat (.int p), .dat (lL t), .dat (.int (n : Int)), .dat (.lst ((pairsF p t).map prD)), .dat (.lst ((lsF p t i).map plD)), .no, .dat (.int (i : Nat)), .dat (.lst ((nearF p t i).map prD)), .own [], .no, .no, .no, .no] S' _
    refine sx_forT (fun j => [.dat (.int p), .dat (lL t), .dat (.int (n : Int)), .dat (.lst ((pairsF p t).map prD)), .dat (.lst ((lsF p t i).map plD)), .no, .dat (.int (i : Nat)), .dat (.lst ((nearF p t i).map prD)), .own ((((lsF p t i).take j).flatMap G).map plD), .no, .no, .no, .no]) (fun _ => S') (ds_list (ds := (lsF p t i).map plD) (by walk_at "de")) tm_one
      (tg_name sc__law_listed.nd (j := 10) rfl (by first | exact .inl rfl | exact .inr rfl)) (by walk_at "wk") (fun j l hlj _ => ?_) (fun _ => ?_) (ps_for PassesOwn.never rfl WI.pi WG.pg WS.ps)
    · have hlm := List.mem_of_getElem? hlj
      obtain ⟨hl2, hl3⟩ := ls_mem hlm
      have es : ((lsF p t i).take (j + 1)).flatMap G = ((lsF p t i).take j).flatMap G ++ G l := by
        rw [List.take_add_one, hlj, List.flatMap_append]
        show _ ++ (G l ++ []) = _
        rw [List.append_nil]
      have hlen := tk (j + 1)
      rw [es, List.length_append] at hlen
      generalize hM : ((lsF p t i).take j).flatMap G = M at es hlen ⊢
      show SX _ _ [.dat (.int p), .dat (lL t), .dat (.int (n : Int)), .dat (.lst ((pairsF p t).map prD)), .dat (.lst ((lsF p t i).map plD)), .no, .dat (.int (i : Nat)), .dat (.lst ((nearF p t i).map prD)), .own (M.map plD), .no, .dat (plD l), .no, .no] S' _
      have gk : ∀ m, ((((nearF p t i).take m).filter (fitF p t i l)).map fun v => l ++ [v]).length ≤ (G l).length := fun m => by
        show _ ≤ (((nearF p t i).filter (fitF p t i l)).map fun v => l ++ [v]).length
        rw [List.length_map, List.length_map]
        have e : (nearF p t i).filter (fitF p t i l) = ((nearF p t i).take m).filter (fitF p t i l) ++ ((nearF p t i).drop m).filter (fitF p t i l) := by
          rw [← List.filter_append, List.take_append_drop]
        rw [e, List.length_append]
        omega
      refine sx_forT (fun m => [.dat (.int p), .dat (lL t), .dat (.int (n : Int)), .dat (.lst ((pairsF p t).map prD)), .dat (.lst ((lsF p t i).map plD)), .no, .dat (.int (i : Nat)), .dat (.lst ((nearF p t i).map prD)), .own ((M ++ ((((nearF p t i).take m).filter (fitF p t i l)).map fun v => l ++ [v])).map plD), .no, .dat (plD l), .no, .no]) (fun _ => S') (ds_list (ds := (nearF p t i).map prD) (by walk_at "de")) tm_one
        (tg_name sc__law_listed.nd (j := 9) rfl (by first | exact .inl rfl | exact .inr rfl)) ?_ (fun m v hvm _ => ?_) (fun _ => ?_) (ps_for PassesOwn.never rfl WI.pi WG.pg WS.ps)
      · rw [List.take_zero, List.filter_nil, List.map_nil, List.append_nil]
        walk_at "wk"
      · have hv := hnm v (List.mem_of_getElem? hvm)
        obtain ⟨v1, v2⟩ := hpr v hv
        obtain ⟨v3, v4⟩ := hprod v hv
        have hg1 := gk m
        have hg2 := gk (m + 1)
        have ef : ((nearF p t i).take (m + 1)).filter (fitF p t i l) = ((nearF p t i).take m).filter (fitF p t i l) ++ (if fitF p t i l v = true then [v] else []) := by
          rw [List.take_add_one, hvm, List.filter_append]
          show _ ++ List.filter (fitF p t i l) [v] = _
          rw [List.filter_cons, List.filter_nil]
        rw [ef]
        rw [ef] at hg2
        generalize hq : ((nearF p t i).take m).filter (fitF p t i l) = q at hg1 hg2 ⊢
        show SX _ _ [.dat (.int p), .dat (lL t), .dat (.int (n : Int)), .dat (.lst ((pairsF p t).map prD)), .dat (.lst ((lsF p t i).map plD)), .no, .dat (.int (i : Nat)), .dat (.lst ((nearF p t i).map prD)), .own ((M ++ (q.map fun v => l ++ [v])).map plD), .dat (prD v), .dat (plD l), .no, .no] S' _
        refine sx_one (s1_if (k := fitF p t i l v) (db_val (DE.cast (de_all (bs := (iot 0 1 i).map fun to => decide (dotF p (l.getD to.toNat ([], [])).2 v.1 = ge t to.toNat i)) rfl (DN.seq (DN.cast (LC.dn (own := [("_law_to", 11)]) (lc_nameM (xs := iot 0 1 i) (φ := .int) (g := fun to => .bl (decide (dotF p (l.getD to.toNat ([], [])).2 v.1 = ge t to.toNat i))) (ds_range1 (n := i) (by walk_at "de") (by omega) (by rfl) T.b_range).c sc__law_listed.nd (j := 11) rfl (by rw [iot_len]; omega) ?_) rfl sc__law_listed.nd (blkOk_by (N := N__law_listed) (sc := defScope (topS 77)) (by decide +kernel))) ?_)) (by rfl) T.b_all) ?_)) (fun k => ?_) fun k => ?_)
        · intro s2 H2 C2 cl2 fp2 to hto
          have hto := mem_iot1.mp hto
          have eto : to = ((to.toNat : Nat) : Int) := by omega
          have hti : to.toNat < i := by omega
          obtain ⟨u, hu⟩ : ∃ u, l[to.toNat]? = some u := ⟨l[to.toNat]'(by omega), List.getElem?_eq_getElem _⟩
          have hum := (List.mem_filter.mp (hl3 to.toNat u hu).1).1
          obtain ⟨u1, u2⟩ := hpr u hum
          obtain ⟨u3, u4⟩ := hprod u hum
          have eu : l.getD to.toNat ([], []) = u := by
            rw [List.getD_eq_getElem?_getD, hu]
            rfl
          rw [eu]
          exact DB.de (db_eqI (de_ok (X := blk _ _ s2 H2 C2 cl2 fp2) (ok__law_dot T) hr (by decide) rfl (da_cons (de_name rfl (by walk_at "has")) (da_cons (de_pair1 (v := u) (de_ix (t := true) (ds := l.map prD) (i := ((to.toNat : Nat) : Int)) (DE.tup (de_name rfl (by walk_at "has"))) (DE.cast (d := .int to) (de_name rfl (by walk_at "has")) (by rw [← eto])) (atI_map hu))) (da_cons (de_pair0 (v := v) (de_name rfl (by walk_at "has"))) da_nil))) (PotEq.refl _) ⟨p, u.2, v.1, rfl, ⟨hp, u3, v2.2, by omega⟩, rfl, rfl⟩) (de_elL (X := blk _ _ s2 H2 C2 cl2 fp2) (i := to.toNat) (j := i) ht (de_name rfl (by walk_at "has")) (DE.cast (d := .int to) (de_name rfl (by walk_at "has")) (by rw [← eto])) (de_name rfl (by walk_at "has")) (by omega) hi))
        · rw [List.map_map]
          rfl
        · congr 1
          unfold fitF
          rw [List.all_map]
          have e : iot 0 1 i = (List.range i).map fun (a : Nat) => (a : Int) := by
            unfold iot
            refine List.map_congr_left fun a _ => ?_
            rw [Int.mul_one, Int.zero_add]
          rw [e, List.all_map]
          refine congrArg (List.all (List.range i)) (funext fun a => ?_)
          show decide (dotF p (l.getD ((a : Int)).toNat ([], [])).2 v.1 = ge t ((a : Int)).toNat i) = (dotF p (l.getD a ([], [])).2 v.1 == ge t a i)
          rw [Int.toNat_natCast]
          exact (Bool.beq_eq_decide_eq _ _).symm
        · rw [if_pos k]
          rw [if_pos k, List.length_map, List.length_append] at hg2
          have hg3 : q.length + 1 ≤ (G l).length := hg2
          refine sx_one (p_app (d := plD (l ++ [v])) rfl (by walk_at "ata") (DE.cast (de_catT (ds := l.map prD) (es := [prD v]) (by walk_at "de") (de_tupX (da_cons (by walk_at "de") da_nil) (Nat.le_of_ble_eq_true rfl)) (by rw [List.length_map]; show l.length + 1 ≤ _; omega)) ?_) (by rw [List.length_map, List.length_append, List.length_map]; omega) (by walk_at "puta") ?_)
          · show D.tup (l.map prD ++ [prD v]) = D.tup ((l ++ [v]).map prD)
            rw [List.map_append]
            rfl
          · refine ⟨?_, rfl⟩
            have e3 : (M ++ ((q ++ [v]).map fun v => l ++ [v])).map plD = (M ++ (q.map fun v => l ++ [v])).map plD ++ [plD (l ++ [v])] := by
              rw [List.map_append (l₁ := q), ← List.append_assoc, List.map_append]
              rfl
            rw [e3]
            exact .same (.same (.same (.same (.same (.same (.same (.same (.same (.no (.same (.no (.no .nil))))))))))))
        · rw [if_neg (by rw [k]; decide)]
          refine sx_nil ⟨?_, rfl⟩
          rw [List.append_nil]
          exact .same (.same (.same (.same (.same (.same (.same (.same (.same (.no (.same (.no (.no .nil))))))))))))
      · rw [List.take_length]
        refine sx_nil ⟨?_, rfl⟩
        rw [es]
        exact .same (.same (.same (.same (.same (.same (.same (.same (.same (.no (.no (.no (.no .nil))))))))))))
    · show SX _ _ [.dat (.int p), .dat (lL t), .dat (.int (n : Int)), .dat (.lst ((pairsF p t).map prD)), .dat (.lst ((lsF p t i).map plD)), .no, .dat (.int (i : Nat)), .dat (.lst ((nearF p t i).map prD)), .own ((((lsF p t i).take (lsF p t i).length).flatMap G).map plD), .no, .no, .no, .no] S' _
      rw [List.take_length]
      refine sx_one (p_give rfl sc__law_listed.nd (by walk_at "ata") (by walk_at "puta") (by walk_at "puta") (by decide) ⟨?_, rfl⟩)
      exact .same (.same (.same (.same (.same (.no (.no (.no (.no (.no (.no (.no (.no .nil))))))))))))
  have hlen : (iot 0 1 (n : Int).toNat).length = n := by rw [iot_len, Int.toNat_natCast]
  rw [hlen]
  have hLn := hls n (Nat.le_refl n)
  show SX _ _ [.dat (.int p), .dat (lL t), .dat (.int (n : Int)), .dat (.lst ((pairsF p t).map prD)), .dat (.lst ((lsF p t n).map plD)), .no, .no, .no, .no, .no, .no, .no, .no] S' _
  refine sx_cons (p_lc rfl sc__law_listed.nd (lc_nameM (xs := lsF p t n) (φ := plD) (g := fun l => tT (l.map (·.1))) (ds_list (ds := (lsF p t n).map plD) (by walk_at "de")).c sc__law_listed.nd (j := 10) rfl (by omega) ?_) (own := [("_law_some", 10)]) (by walk_at "put") ?_ rfl rfl rfl (blkOk_by (N := N__law_listed) (sc := defScope (topS 77)) (by decide +kernel)))
  · intro s2 H2 C2 cl2 fp2 l hl
    have hl2 := (ls_mem hl).1
    show DE _ _ [.dat (.int p), .dat (lL t), .dat (.int (n : Int)), .dat (.lst ((pairsF p t).map prD)), .dat (.lst ((lsF p t n).map plD)), .no, .no, .no, .no, .no, .dat (plD l), .no, .no] S' _ S'
    refine DE.cast (de_tupL (X := blk _ _ s2 H2 C2 cl2 fp2) (DN.seq (LC.dn (own := [("_law_pair", 9)]) (lc_nameM (xs := l) (φ := prD) (g := fun v => tI v.1) (ds_tup (ds := l.map prD) (by walk_at "de")).c sc__law_listed.nd (j := 9) rfl (by omega) ?_) rfl sc__law_listed.nd (blkOk_by (by kernel_rfl)))) (by rfl) T.b_tuple) ?_
    · intro s3 H3 C3 cl3 fp3 v hv
      exact de_pair0 (X := blk _ _ s3 H3 C3 cl3 fp3) (v := v) (de_name rfl (by walk_at "has"))
    · rw [map_comp (f := fun v : PR => v.1) (φ := tI)]
  rw [map_comp (f := fun l : List PR => l.map (·.1)) (φ := tT)]
  show SX _ _ [.dat (.int p), .dat (lL t), .dat (.int (n : Int)), .dat (.lst ((pairsF p t).map prD)), .dat (.lst ((lsF p t n).map plD)), .no, .no, .no, .no, .no, .no, .no, .dat (.lst (((lsF p t n).map fun l => l.map (·.1)).map tT))] S' _
  refine sx_one (s1_ret (DN.dat (DN.cast (LC.dn (own := [("_law_some", 10)]) (lc_name (xs := (lsF p t n).map fun l => l.map (·.1)) (φ := tT) (g := tT) (bt := fun rows => ldetF p rows != 0) (ds_list (ds := ((lsF p t n).map fun l => l.map (·.1)).map tT) (by walk_at "de")).c sc__law_listed.nd (j := 10) rfl (by rw [List.length_map]; omega) ?_ ?_) rfl sc__law_listed.nd (blkOk_by (N := N__law_listed) (sc := defScope (topS 77)) (by decide +kernel))) ?_)) ⟨rfl, rfl⟩)
  · intro s2 H2 C2 cl2 fp2 rows hrows
    obtain ⟨l, hl, rfl⟩ := List.mem_map.mp hrows
    have hl2 := (ls_mem hl).1
    have hm : Mat p n n (l.map (·.1)) := by
      refine ⟨by rw [List.length_map]; exact hl2, fun r hr => ?_⟩
      obtain ⟨v, hv, rfl⟩ := List.mem_map.mp hr
      have := (ls_pair (p := p) (t := t) (by omega) hl v hv).2
      rw [htl] at this
      exact this
    refine dp_one (DB.dt (DB.cast (db_neI (de_ok (X := blk _ _ s2 H2 C2 cl2 fp2) (ok__law_determinantT T) hr (by decide) rfl (da_cons (de_name rfl (by walk_at "has")) (da_cons (de_name rfl (by walk_at "has")) da_nil)) (PotEq.refl _) ⟨p, l.map (·.1), n, rfl, ⟨hp, hm, by omega⟩, rfl, rfl⟩) de_int) ?_))
    rw [bne, Bool.beq_eq_decide_eq]
  · intro s2 H2 C2 cl2 fp2 v hv _
    exact de_name rfl (by walk_at "has")
  · unfold listF
    rw [htl]
end

end K88

set_option Elab.async false
set_option linter.all false
set_option autoImplicit false
set_option maxRecDepth 100000
set_option maxHeartbeats 400000
namespace K88
open PySem PySem.Spec PyProof.Rows L2 RZ Ab
local macro_rules | `(tactic| walk_at "has") => `(tactic| first | exact Has.here | (apply Has.there; walk_at "has"))
local macro_rules | `(tactic| walk_at "ata") => `(tactic| first | exact At.here | (apply At.there; walk_at "ata"))
local macro_rules | `(tactic| walk_at "put") => `(tactic| first | exact Put.here | (apply Put.there; walk_at "put"))
local macro_rules | `(tactic| walk_at "puta") => `(tactic| first | exact PutA.here | (apply PutA.there; walk_at "puta"))
local macro_rules | `(tactic| walk_at "wk") => `(tactic| first | exact Wk.nil | (apply Wk.same; walk_at "wk") | (apply Wk.no; walk_at "wk"))
local macro_rules | `(tactic| walk_at "side") => `(tactic| first | assumption | omega | decide)
local macro_rules | `(tactic| walk_at "de") => `(tactic| first
  | assumption
  | exact de_int
  | exact de_non
  | exact de_bl
  | exact de_str
  | (refine' de_name rfl ?hz; (case hz => walk_at "has"))
  | (refine' de_mod ?d1 ?d2 ?d3; (case d1 => walk_at "de"); (case d2 => walk_at "de"); (case d3 => walk_at "side"))
  | (refine' de_add ?d1 ?d2; (case d1 => walk_at "de"); (case d2 => walk_at "de"))
  | (refine' de_sub ?d1 ?d2; (case d1 => walk_at "de"); (case d2 => walk_at "de"))
  | (refine' de_mul ?d1 ?d2 ?d3; (case d1 => walk_at "de"); (case d2 => walk_at "de"); (case d3 => first | assumption | (refine mulW1 ?_ ?_ <;> omega)))
  | (refine' de_fdiv ?d1 ?d2 ?d3; (case d1 => walk_at "de"); (case d2 => walk_at "de"); (case d3 => exact divW (by omega)))
  | (refine' de_tupX ?d1 ?d2; (case d1 => walk_at "da"); (case d2 => exact Nat.le_of_ble_eq_true rfl))
  )
local macro_rules | `(tactic| walk_at "da") => `(tactic| first | exact da_nil | (refine' da_cons ?a1 ?a2; (case a1 => walk_at "de"); (case a2 => walk_at "da")))
local macro_rules | `(tactic| walk_at "db") => `(tactic| first
  | assumption
  | (refine' db_eqI ?d1 ?d2; (case d1 => walk_at "de"); (case d2 => walk_at "de"))
  | (refine' db_neI ?d1 ?d2; (case d1 => walk_at "de"); (case d2 => walk_at "de"))
  | (refine' db_lt ?d1 ?d2; (case d1 => walk_at "de"); (case d2 => walk_at "de"))
  | (refine' db_gt ?d1 ?d2; (case d1 => walk_at "de"); (case d2 => walk_at "de"))
  | (refine' db_le ?d1 ?d2; (case d1 => walk_at "de"); (case d2 => walk_at "de"))
  | (refine' db_ge ?d1 ?d2; (case d1 => walk_at "de"); (case d2 => walk_at "de"))
  | (refine' db_not ?d1; (case d1 => walk_at "db"))
  )
section
variable {P : Program} {w : World} {K : PySem.W.Frag} {mg : Str → Option Value} {base : Heap} {f : Addr} {fd : FuncData}
open Rk
open Dt (kcF listF list_ok list_kc zltF zlt_ok kind_ok big kc_b red_det)
theorem one_key : (([3, 5, 7, 11, 13] : List Int).all fun p => (rg p.toNat).all fun x => decide (kcF p 1 (kindF p [[x]]).2.1.toNat (kindF p [[x]]).2.2 = if 0 < x then 2 else p - 1)) = true := by decide +kernel
theorem rm_one {p x : Int} (h : 0 ≤ x ∧ x < p) : Dt.Rm p 1 [[x]] := by
  refine ⟨⟨rfl, fun r hr => ?_⟩, fun i j hi hj => ?_⟩
  · rw [List.mem_singleton.mp hr]
    refine ⟨rfl, fun y hy => ?_⟩
    rw [List.mem_singleton.mp hy]
    exact h
  · rw [show i = 0 by omega, show j = 0 by omega]
theorem one_kc {p x : Int} (hp : Pr p) (h : 0 ≤ x ∧ x < p) : ∃ (r : Nat) (s : Int), Dt.Kd (kindF p [[x]]) 1 r s ∧ kcF p 1 r s = if 0 < x then 2 else p - 1 := by
  obtain ⟨r, s, K⟩ := kind_ok hp (rm_one h)
  refine ⟨r, s, K, ?_⟩
  have k := List.all_eq_true.mp one_key p (by unfold Pr at hp; simpa using hp)
  have k := List.all_eq_true.mp k x (mem_rg.mpr (by omega))
  have k := of_decide_eq_true k
  rw [K.eq] at k
  exact k
theorem nil_kc {p : Int} (hp : Pr p) : ∃ (r : Nat) (s : Int), Dt.Kd (kindF p []) 0 r s ∧ kcF p 0 r s = 1 := by
  obtain ⟨r, s, K⟩ := kind_ok hp (rm_nil (p := p))
  have hr : r = 0 := by have := K.le; omega
  subst hr
  rw [K.one rfl] at K
  refine ⟨0, 1, K, ?_⟩
  rcases hp with rfl | rfl | rfl | rfl | rfl <;> decide
def waysL : List (Int × Nat) := [(3, 3), (3, 2), (5, 2), (7, 2), (3, 3), (5, 2)]
theorem ways_get {x : Int} (h : 0 ≤ x ∧ x < 6) : ∃ p n, small p n ∧ waysL[x.toNat]? = some (p, n) ∧ waysL.getD x.toNat (0, 0) = (p, n) := by
  have : x = 0 ∨ x = 1 ∨ x = 2 ∨ x = 3 ∨ x = 4 ∨ x = 5 := by omega
  rcases this with rfl | rfl | rfl | rfl | rfl | rfl
  · exact ⟨3, 3, .inl ⟨rfl, rfl⟩, rfl, rfl⟩
  · exact ⟨3, 2, .inr ⟨.inl rfl, rfl⟩, rfl, rfl⟩
  · exact ⟨5, 2, .inr ⟨.inr (.inl rfl), rfl⟩, rfl, rfl⟩
  · exact ⟨7, 2, .inr ⟨.inr (.inr rfl), rfl⟩, rfl, rfl⟩
  · exact ⟨3, 3, .inl ⟨rfl, rfl⟩, rfl, rfl⟩
  · exact ⟨5, 2, .inr ⟨.inr (.inl rfl), rfl⟩, rfl, rfl⟩
def sureF (n : Nat) : Int := if (2 : Int) < n then 2 else 0
def drs (q : Pot) (m : Int) : Nat → Pot
  | 0 => q
  | i + 1 => (drawF (drs q m i) m).2
theorem drs_ok {q : Pot} {m : Int} (h : pOk q) : ∀ i, pOk (drs q m i)
  | 0 => h
  | i + 1 => draw_ok (drs_ok h i)
/-- the pot behind all drawings -/
def rightQ (q : Pot) : Pot :=
  let z := waysL.getD (drawF q 6).1.toNat (0, 0)
  let tb := zltF (sureF z.2) z.1 z.2 (drawF q 6).2
  let q2 := (drawF (drawF tb.2 (listF z.1 tb.1).length).2 (listF z.1 tb.1).length).2
  let g := ([3, 5, 7, 11, 13] : List Int).getD (drawF q2 5).1.toNat 0
  (drawF (drawF q2 5).2 g).2
def r__law_right : Sig := fun ds S d S' => ∃ (a : Addr) (q : Pot), ds = [.adr a] ∧ S = ptS a q ∧ pOk q ∧ d = .bl true ∧ S' = ptS a (rightQ q)
theorem ok__law_right (T : Fx K mg) : OkG P w K mg base "_law_right" 12 r__law_right := by
  refine okg_of T.g__law_right T.f__law_right sc__law_right (fun _ _ _ _ _ _ us hl => match us, hl with | [_], _ => rfl) (fun ds S d S' ⟨_, _, h, _⟩ => by rw [h]; rfl) ?_
  rintro f cdv A outer s H E hr hG ds S d S' eq ⟨a, q, rfl, rfl, hq, rfl, rfl⟩
  have hG : (cxOf CX0 P w K mg base N__law_right "_law_right" (defScope (topS 78)) f cdv A outer s H E).nox.A.guards = some [] := hG
  obtain ⟨qe, hqe⟩ : ∃ qe, qe = rightQ q := ⟨_, rfl⟩
  rw [← hqe]
  have hw := draw_b (q := q) (m := 6) (by decide)
  obtain ⟨p, n, hsm, hget, hgd⟩ := ways_get hw
  unfold rightQ at hqe
  dsimp only at hqe
  rw [hgd] at hqe
  dsimp only at hqe
  obtain ⟨hp, hn3, _, _⟩ := small_b hsm
  have hn : n ≤ 6 := by omega
  have hb := hp.b
  have hq1 : pOk (drawF q 6).2 := draw_ok hq
  show SX _ _ [.dat (.adr a), .no, .no, .no, .no, .no, .no, .no, .no, .no] (ptS a q) _
  refine sx_cons (p_set rfl sc__law_right.nd (d := .int (drawF q 6).1) (de_ok (ok__law_draw T) hr (by decide) rfl (by walk_at "da") pt_eq ⟨a, q, 6, rfl, rfl, ⟨hq, by omega, by omega⟩, rfl, rfl⟩) (by walk_at "put") ?_)
  show SX _ _ _ (ptS a (drawF q 6).2) _
  generalize (drawF q 6).2 = q1 at hqe hq1 ⊢
  generalize (drawF q 6).1 = xw at hw hget ⊢
  obtain ⟨kw, rfl⟩ := nat_of hw.1
  rw [Int.toNat_natCast] at hget
  show SX _ _ [.dat (.adr a), .dat (.int (kw : Int)), .no, .no, .no, .no, .no, .no, .no, .no] (ptS a q1) _
  refine sx_cons (p_tup2 (d1 := .int p) (d2 := .int (n : Int)) rfl rfl sc__law_right.nd (de_ix (t := false) (ds := waysL.map fun v => .tup [.int v.1, .int (v.2 : Int)]) (i := (kw : Int)) (DN.seq (dn_lst (da_cons (de_tupX (by walk_at "da") (Nat.le_of_ble_eq_true rfl)) (da_cons (de_tupX (by walk_at "da") (Nat.le_of_ble_eq_true rfl)) (da_cons (de_tupX (by walk_at "da") (Nat.le_of_ble_eq_true rfl)) (da_cons (de_tupX (by walk_at "da") (Nat.le_of_ble_eq_true rfl)) (da_cons (de_tupX (by walk_at "da") (Nat.le_of_ble_eq_true rfl)) (da_cons (de_tupX (by walk_at "da") (Nat.le_of_ble_eq_true rfl)) da_nil)))))) (Nat.le_of_ble_eq_true rfl))) (by walk_at "de") (atI_map hget)) (by walk_at "put") (by walk_at "put") ?_)
  obtain ⟨ht, hq2⟩ := zlt_ok (su := sureF n) (n := n) hp hq1
  show SX _ _ [.dat (.adr a), .dat (.int (kw : Int)), .dat (.int p), .dat (.int (n : Int)), .no, .no, .no, .no, .no, .no] (ptS a q1) _
  refine sx_cons (p_set rfl sc__law_right.nd (d := lL (zltF (sureF n) p n q1).1) (de_ok (ok__law_table T) hr (by decide) rfl (da_cons (by walk_at "de") (da_cons (by walk_at "de") (da_cons (by walk_at "de") (da_cons (DE.cast (d' := .int (sureF n)) (de_if (k := decide ((2 : Int) < n)) (d1 := .int 2) (d2 := .int 0) (by walk_at "db") (fun _ => de_int) (fun _ => de_int)) ?_) da_nil)))) pt_eq ⟨a, q1, p, n, sureF n, rfl, rfl, ⟨hp, hq1, hn⟩, rfl, rfl⟩) (by walk_at "put") ?_)
  · unfold sureF
    by_cases h : (2 : Int) < n
    · rw [if_pos h, if_pos (decide_eq_true h)]
    · rw [if_neg h, if_neg (by rw [decide_eq_true_iff]; exact h)]
  generalize hsq : zltF (sureF n) p n q1 = sq at hqe ht hq2 ⊢
  clear hsq
  obtain ⟨t, q2⟩ := sq
  have ht : Dt.Rm p n t := ht
  have hq2 : pOk q2 := hq2
  dsimp only at hqe
  obtain ⟨r, sg, Kk⟩ := kind_ok hp ht
  have hpt := rm_pT hp ht hn
  have hrn := Kk.le
  obtain ⟨hlp, hlk⟩ := list_kc ht hsm Kk
  have hok := fun rows h => list_ok (rows := rows) hp ht h
  obtain ⟨_, _, _, _, hkb⟩ := Dt.kc_b hp hn hrn Kk.sg
  have hlb : (listF p t).length ≤ 20000 := by
    refine Nat.le_trans (List.length_filter_le _ _) ?_
    rw [List.length_map, ht.mat.1]
    refine Nat.le_trans Dt.ls_len ?_
    have e : (Dt.pairsF p t).length = p.toNat ^ n := by
      show ((Dt.rowsF p t.length).map _).length = _
      rw [List.length_map, Dt.rows_len, ht.mat.1]
    rw [e]
    exact (small_b hsm).2.2.2
  show SX _ _ [.dat (.adr a), .dat (.int (kw : Int)), .dat (.int p), .dat (.int (n : Int)), .dat (lL t), .no, .no, .no, .no, .no] (ptS a q2) _
  refine sx_cons (p_par2 (s := .dat (rmD K p t)) (t := .dat (.lst ((listF p t).map tT))) rfl rfl sc__law_right.nd (dv_dat (de_room T hr (by decide) rfl hp ht hn (by walk_at "da")) (dv_dat (de_ok (ok__law_listed T) hr (by decide) rfl (by walk_at "da") (PotEq.refl _) ⟨p, t, n, rfl, ⟨hsm, ht.mat⟩, rfl, rfl⟩) dv_nil)) (by walk_at "puta") (by walk_at "puta") ?_ (by decide) rfl rfl (by rfl))
  have hrok : (kcF p n r sg).natAbs.log2 < 1920 := Nat.lt_of_lt_of_le (PySem.Flt.log2_lt_of (by decide) hkb) (by decide)
  generalize listF p t = due at hqe hlp hlk hok hlb ⊢
  show SX _ _ [.dat (.adr a), .dat (.int (kw : Int)), .dat (.int p), .dat (.int (n : Int)), .dat (lL t), .dat (rmD K p t), .dat (.lst (due.map tT)), .no, .no, .no] (ptS a q2) _
  refine sx_cons (s1_if (k := false || false) (DW.db (dw_or (k := false) (DB.cast (db_neS (de_reprI (i := kcF p n r sg) (de_ok (ok_keeper_count T) hr (by decide) rfl (by walk_at "da") (PotEq.refl _) ⟨p, t, n, r, sg, rfl, ⟨hpt, Kk⟩, rfl, rfl⟩) hrok (by rfl) T.b_repr) (de_reprI (i := kcF p n r sg) (DE.cast (de_len (DE.lst (ds := due.map tT) (by walk_at "de")) (by rfl) T.b_len) (by rw [List.length_map, hlk])) hrok (by rfl) T.b_repr)) (by rw [decide_eq_true rfl]; rfl)) fun _ => dw_or1 (DB.cast (db_lt (i := ((due.map tT).length : Int)) (j := 1) (de_len (DE.lst (ds := due.map tT) (by walk_at "de")) (by rfl) T.b_len) de_int) (decide_eq_false (by rw [List.length_map]; omega))))) (fun k => nomatch k) fun _ => sx_nil ?_)
  refine sx_forT (fun _ => [.dat (.adr a), .dat (.int (kw : Int)), .dat (.int p), .dat (.int (n : Int)), .dat (lL t), .dat (rmD K p t), .dat (.lst (due.map tT)), .no, .no, .no]) (fun i => ptS a (drs q2 due.length i)) (ds_range1 (n := 2) de_int (by omega) rfl T.b_range) tm_one
    (tg_name sc__law_right.nd (j := 7) rfl (by first | exact .inl rfl | exact .inr rfl)) (by walk_at "wk") (fun i x hx _ => ?_) (fun _ => ?_) (ps_for PassesOwn.never rfl WI.pi WG.pg WS.ps)
  · have hi : i < 2 := by
      have := (List.getElem?_eq_some_iff.mp hx).1
      rw [iot_len] at this
      exact this
    have hq3 := drs_ok (m := due.length) hq2 i
    show SX _ _ [.dat (.adr a), .dat (.int (kw : Int)), .dat (.int p), .dat (.int (n : Int)), .dat (lL t), .dat (rmD K p t), .dat (.lst (due.map tT)), .dat (.int x), .no, .no] (ptS a (drs q2 due.length i)) _
    have e4 : drs q2 due.length (i + 1) = (drawF (drs q2 due.length i) due.length).2 := rfl
    rw [e4]
    generalize drs q2 due.length i = q3 at hq3 ⊢
    have bd := draw_b (q := q3) (m := due.length) (by omega)
    obtain ⟨rows, hrows⟩ : ∃ rows, due[(drawF q3 due.length).1.toNat]? = some rows := ⟨due[(drawF q3 due.length).1.toNat]'(by omega), List.getElem?_eq_getElem _⟩
    obtain ⟨o1, o2, o3⟩ := hok rows (List.mem_of_getElem? hrows)
    have hlead : leadB p t t rows = true := by
      unfold leadB
      rw [red_det hp o1, ← Dt.ldet_eq hp o1, decide_eq_true o2, decide_eq_true o3]
      rfl
    refine sx_one (s1_if (k := !decide (true = true)) (S1 := ptS a (drawF q3 due.length).2) (db_notB (k := true) (l := true) (S1 := ptS a (drawF q3 due.length).2) (DE.cast (de_ok (ok_is_keeper T) hr (by decide) rfl (da_cons (by walk_at "de") (da_cons (d := tT rows) (S1 := ptS a (drawF q3 due.length).2) (de_ok (ok__law_pickD T) hr (by decide) rfl (by walk_at "da") pt_eq ⟨a, q3, due.map tT, tT rows, rfl, rfl, ⟨hq3, by rw [List.length_map]; omega, by rw [List.length_map]; omega, by rw [List.length_map, List.getElem?_map, hrows]; rfl⟩, rfl, by rw [List.length_map]⟩) da_nil)) (PotEq.refl _) ⟨true, true, p, t, rows, n, rfl, ⟨hpt, o1⟩, rfl, rfl⟩) (by rw [hlead])) de_bl) (fun k => nomatch k) fun _ => sx_nil ?_)
    exact ⟨by walk_at "wk", rfl⟩
  show SX _ _ [.dat (.adr a), .dat (.int (kw : Int)), .dat (.int p), .dat (.int (n : Int)), .dat (lL t), .dat (rmD K p t), .dat (.lst (due.map tT)), .no, .no, .no] (ptS a (drawF (drawF q2 due.length).2 due.length).2) _
  have hq4 : pOk (drawF (drawF q2 due.length).2 due.length).2 := draw_ok (draw_ok hq2)
  generalize (drawF (drawF q2 due.length).2 due.length).2 = q4 at hqe hq4 ⊢
  obtain ⟨g, hg, hgg⟩ := pick_pr (q := q4)
  have hgd2 : ([3, 5, 7, 11, 13] : List Int).getD (drawF q4 5).1.toNat 0 = g := by
    rw [List.getD_eq_getElem?_getD]
    exact congrArg (fun o => Option.getD o 0) hgg
  rw [hgd2] at hqe
  have hgb := hg.b
  refine sx_cons (p_set rfl sc__law_right.nd (d := .int g) (de_ok (ok__law_pick T) hr (by decide) rfl (da_cons (by walk_at "de") (da_cons (DN.dat (dn_lst (ds := ([3, 5, 7, 11, 13] : List Int).map .int) (by walk_at "da") (Nat.le_of_ble_eq_true rfl))) da_nil)) pt_eq ⟨a, q4, [3, 5, 7, 11, 13], g, rfl, rfl, ⟨hq4, by decide, by decide, hgg⟩, rfl, rfl⟩) (by walk_at "put") ?_)
  show SX _ _ _ (ptS a (drawF q4 5).2) _
  have hq5 : pOk (drawF q4 5).2 := draw_ok hq4
  generalize (drawF q4 5).2 = q5 at hqe hq5 ⊢
  have hbx := draw_b (q := q5) (m := g) (by omega)
  refine sx_cons (p_set rfl sc__law_right.nd (d := .int (drawF q5 g).1) (de_ok (ok__law_draw T) hr (by decide) rfl (by walk_at "da") pt_eq ⟨a, q5, g, rfl, rfl, ⟨hq5, by omega, by omega⟩, rfl, rfl⟩) (by walk_at "put") ?_)
  show SX _ _ _ (ptS a (drawF q5 g).2) _
  rw [← hqe]
  generalize (drawF q5 g).1 = xn at hbx ⊢
  obtain ⟨r1, s1, K1, e1⟩ := one_kc hg hbx
  obtain ⟨r0, s0, K0, e0⟩ := nil_kc hg
  show SX _ _ [.dat (.adr a), .dat (.int (kw : Int)), .dat (.int p), .dat (.int (n : Int)), .dat (lL t), .dat (rmD K p t), .dat (.lst (due.map tT)), .no, .dat (.int g), .dat (.int xn)] (ptS a qe) _
  refine sx_one (s1_ret (DE.cast (DW.db (dw_and (k := true) (l := true) (DB.cast (db_eqI (i := kcF g 1 r1 s1) (j := if 0 < xn then 2 else g - 1) (de_kw (okk_keeper_count T) hr (by decide) rfl (dk_cons (de_room (t := [[xn]]) T hr (by decide) rfl hg (rm_one hbx) (by decide) (da_cons (by walk_at "de") (da_cons (DN.dat (dn_lst (da_cons (DN.dat (dn_lst (da_cons (by walk_at "de") da_nil) (Nat.le_of_ble_eq_true rfl))) da_nil) (Nat.le_of_ble_eq_true rfl))) da_nil))) dk_nil) rfl (fun vs us h => h) (fun B vs h => h) (PotEq.refl _) ⟨g, [[xn]], 1, r1, s1, rfl, ⟨rm_pT hg (rm_one hbx) (by decide), K1⟩, rfl, rfl⟩) (DE.cast (de_if (k := decide (0 < xn)) (d1 := .int 2) (d2 := .int (g - 1)) (by walk_at "db") (fun _ => de_int) (fun _ => by walk_at "de")) ?_)) (decide_eq_true e1)) fun _ => dw_and1 (DB.cast (db_eqI (i := kcF g 0 r0 s0) (j := 1) (de_ok (ok_keeper_count T) hr (by decide) rfl (da_cons (de_room (t := []) T hr (by decide) rfl hg rm_nil (by decide) (da_cons (by walk_at "de") (da_cons (DN.dat (dn_lst da_nil (Nat.zero_le _))) da_nil))) da_nil) (PotEq.refl _) ⟨g, [], 0, r0, s0, rfl, ⟨rm_pT hg rm_nil (by decide), K0⟩, rfl, rfl⟩) de_int) (decide_eq_true e0)))).de rfl) ⟨rfl, rfl⟩)
  by_cases h : 0 < xn
  · rw [if_pos h, if_pos (decide_eq_true h)]
  · rw [if_neg h, if_neg (by rw [decide_eq_true_iff]; exact h)]
/-- the law's level -/
abbrev kLaw : Nat := 13
def spLaw (K : PySem.W.Frag) : Sp := fun vs H Q _ => ∃ (a : Addr) (ns : List Int), vs = [.ref a] ∧ SqL K H a (ns.map V.int) ∧ ns.length ≤ 1000 ∧ ∀ H', Q (.bl true) H'
theorem okF_law (T : Fx K mg) (F : FunD K "law" "law" (defArgs (topS 79)) (defBody (topS 79)) (defScope (topS 79)) [] [] f fd) : FnOkG P w K mg base 13 f fd ["_law_script"] (spLaw K) := by
  obtain ⟨fp, fdp, psp, gp, kp, bp, Fp⟩ := (ok__law_pot (P := P) (w := w) (base := base) T).ex
  obtain ⟨fr, fdr, psr, gr_, kr, br, Fr⟩ := (ok__law_right (P := P) (w := w) (base := base) T).ex
  refine funD_okG F sc_law (fun vs H Q E h => ?_) (fun cdv A outer s H vs Q E hr hG h => ⟨_, PSs.nox (pss_one (ps_ret (pe_callG Fr hr hG rfl gr_ kr br (pa_cons (pe_call Fp (hr.mono (by decide)) rfl gp kp bp .nil pass0 (pa_cons (pv 0) (pa_cons pe_int pa_nil))) pa_nil)))), ?_⟩)
  · obtain ⟨a, ns, rfl, _⟩ := h
    rfl
  · obtain ⟨a, ns, rfl, hS, hl, hQ⟩ := h
    refine ⟨_, rfl, ?_⟩
    refine ⟨H, [.lst (ns.map .int), .int 0], _, Evl.Ex.refl H, .cons (.lst hS All.of_ints) (.cons (.int 0) .nil), ⟨ns, rfl, hl, rfl⟩, fun v B2 H2 g p => ?_⟩
    obtain ⟨x, vs, rfl, hn, hb, h2, ha⟩ := p
    have e : vs = [(potF ns).1, (potF ns).2].map V.int := All.ints (ns := [(potF ns).1, (potF ns).2]) ha
    subst e
    refine ⟨B2, [.adr x], ptS x (potF ns), .bl true, ptS x (rightQ (potF ns)), g.sub, .cons (.adr x) .nil, ?_, pt_eq, ⟨x, potF ns, rfl, rfl, pot_ok, rfl, rfl⟩, fun v B3 H3 g3 po3 i3 => ?_⟩
    · intro y ms e
      have e2 := Option.some.inj e
      have e3 := (Prod.mk.inj e2).1
      have e4 := (Prod.mk.inj e2).2
      subst e3
      subst e4
      exact ⟨hb, h2⟩
    · cases i3
      exact hQ H3
end

end K88

set_option Elab.async false
set_option linter.all false
set_option autoImplicit false
set_option maxRecDepth 100000
set_option maxHeartbeats 0
namespace K88
open PySem PySem.Spec PyProof.Rows L2 Ab
/-! the head: what it must give, the run -/
def d_is_integer : He.DefD := ⟨("is_integer", none), "is_integer", "is_integer", defArgs (topS 8), defBody (topS 8), defScope (topS 8), [], []⟩
def d_is_list : He.DefD := ⟨("is_list", none), "is_list", "is_list", defArgs (topS 9), defBody (topS 9), defScope (topS 9), [], []⟩
def d_power_of : He.DefD := ⟨("power_of", none), "power_of", "power_of", defArgs (topS 12), defBody (topS 12), defScope (topS 12), [], []⟩
def d_undone_of : He.DefD := ⟨("undone_of", none), "undone_of", "undone_of", defArgs (topS 13), defBody (topS 13), defScope (topS 13), [], []⟩
def d_sign_of : He.DefD := ⟨("sign_of", none), "sign_of", "sign_of", defArgs (topS 14), defBody (topS 14), defScope (topS 14), [], []⟩
def d_is_rest_by : He.DefD := ⟨("is_rest_by", none), "is_rest_by", "is_rest_by", defArgs (topS 15), defBody (topS 15), defScope (topS 15), [], []⟩
def d_want_prime : He.DefD := ⟨("want_prime", none), "want_prime", "want_prime", defArgs (topS 16), defBody (topS 16), defScope (topS 16), [], []⟩
def d_is_prime : He.DefD := ⟨("is_prime", none), "is_prime", "is_prime", defArgs (topS 17), defBody (topS 17), defScope (topS 17), [], []⟩
def d_unit : He.DefD := ⟨("unit", none), "unit", "unit", defArgs (topS 20), defBody (topS 20), defScope (topS 20), [], []⟩
def d_idle_of : He.DefD := ⟨("idle_of", none), "idle_of", "idle_of", defArgs (topS 21), defBody (topS 21), defScope (topS 21), [], []⟩
def d_dot : He.DefD := ⟨("dot", none), "dot", "dot", defArgs (topS 22), defBody (topS 22), defScope (topS 22), [], []⟩
def d_sum_of : He.DefD := ⟨("sum_of", none), "sum_of", "sum_of", defArgs (topS 23), defBody (topS 23), defScope (topS 23), [], []⟩
def d_scaled_of : He.DefD := ⟨("scaled_of", none), "scaled_of", "scaled_of", defArgs (topS 24), defBody (topS 24), defScope (topS 24), [], []⟩
def d_mix_of : He.DefD := ⟨("mix_of", none), "mix_of", "mix_of", defArgs (topS 25), defBody (topS 25), defScope (topS 25), [], []⟩
def d_led_of : He.DefD := ⟨("led_of", none), "led_of", "led_of", defArgs (topS 26), defBody (topS 26), defScope (topS 26), [], []⟩
def d_turned_of : He.DefD := ⟨("turned_of", none), "turned_of", "turned_of", defArgs (topS 27), defBody (topS 27), defScope (topS 27), [], []⟩
def d_reduced : He.DefD := ⟨("reduced", none), "reduced", "reduced", defArgs (topS 28), defBody (topS 28), defScope (topS 28), [], []⟩
def d_determinant_of : He.DefD := ⟨("determinant_of", none), "determinant_of", "determinant_of", defArgs (topS 29), defBody (topS 29), defScope (topS 29), [], []⟩
def d_row_in : He.DefD := ⟨("row_in", none), "row_in", "row_in", defArgs (topS 30), defBody (topS 30), defScope (topS 30), [], []⟩
def d_table_in : He.DefD := ⟨("table_in", none), "table_in", "table_in", defArgs (topS 31), defBody (topS 31), defScope (topS 31), [], []⟩
def d_without : He.DefD := ⟨("without", none), "without", "without", defArgs (topS 38), defBody (topS 38), defScope (topS 38), [], []⟩
def d_steps_of : He.DefD := ⟨("steps_of", none), "steps_of", "steps_of", defArgs (topS 39), defBody (topS 39), defScope (topS 39), [], []⟩
def d_right_rows : He.DefD := ⟨("right_rows", none), "right_rows", "right_rows", defArgs (topS 43), defBody (topS 43), defScope (topS 43), [], []⟩
def d_want_room : He.DefD := ⟨("want_room", none), "want_room", "want_room", defArgs (topS 45), defBody (topS 45), defScope (topS 45), [], []⟩
def d_room_of : He.DefD := ⟨("room_of", none), "room_of", "room_of", defArgs (topS 46), defBody (topS 46), defScope (topS 46), [], []⟩
def d_betweens_of : He.DefD := ⟨("betweens_of", none), "betweens_of", "betweens_of", defArgs (topS 49), defBody (topS 49), defScope (topS 49), [], []⟩
def d_between_by : He.DefD := ⟨("between_by", none), "between_by", "between_by", defArgs (topS 53), defBody (topS 53), defScope (topS 53), [], []⟩
def d_first_worthy : He.DefD := ⟨("first_worthy", none), "first_worthy", "first_worthy", defArgs (topS 54), defBody (topS 54), defScope (topS 54), [], []⟩
def d_squares_of : He.DefD := ⟨("squares_of", none), "squares_of", "squares_of", defArgs (topS 55), defBody (topS 55), defScope (topS 55), [], []⟩
def d_kind_in : He.DefD := ⟨("kind_in", none), "kind_in", "kind_in", defArgs (topS 56), defBody (topS 56), defScope (topS 56), [], []⟩
def d_powered : He.DefD := ⟨("powered", none), "powered", "powered", defArgs (topS 58), defBody (topS 58), defScope (topS 58), [], []⟩
def d_undone_count : He.DefD := ⟨("undone_count", none), "undone_count", "undone_count", defArgs (topS 60), defBody (topS 60), defScope (topS 60), [], []⟩
def d_upright_keepers : He.DefD := ⟨("upright_keepers", none), "upright_keepers", "upright_keepers", defArgs (topS 61), defBody (topS 61), defScope (topS 61), [], []⟩
def d_keepers_by : He.DefD := ⟨("keepers_by", none), "keepers_by", "keepers_by", defArgs (topS 62), defBody (topS 62), defScope (topS 62), [], []⟩
def d_all_keepers : He.DefD := ⟨("all_keepers", none), "all_keepers", "all_keepers", defArgs (topS 63), defBody (topS 63), defScope (topS 63), [], []⟩
def d_keeper_count : He.DefD := ⟨("keeper_count", none), "keeper_count", "keeper_count", defArgs (topS 64), defBody (topS 64), defScope (topS 64), [], []⟩
def d_leads_to : He.DefD := ⟨("leads_to", none), "leads_to", "leads_to", defArgs (topS 66), defBody (topS 66), defScope (topS 66), [], []⟩
def d_is_keeper : He.DefD := ⟨("is_keeper", none), "is_keeper", "is_keeper", defArgs (topS 67), defBody (topS 67), defScope (topS 67), [], []⟩
def d__law_pot : He.DefD := ⟨("_law_pot", none), "_law_pot", "_law_pot", defArgs (topS 69), defBody (topS 69), defScope (topS 69), [], []⟩
def d__law_draw : He.DefD := ⟨("_law_draw", none), "_law_draw", "_law_draw", defArgs (topS 70), defBody (topS 70), defScope (topS 70), [], []⟩
def d__law_pick : He.DefD := ⟨("_law_pick", none), "_law_pick", "_law_pick", defArgs (topS 71), defBody (topS 71), defScope (topS 71), [], []⟩
def d__law_determinant : He.DefD := ⟨("_law_determinant", none), "_law_determinant", "_law_determinant", defArgs (topS 72), defBody (topS 72), defScope (topS 72), [], []⟩
def d__law_table : He.DefD := ⟨("_law_table", none), "_law_table", "_law_table", defArgs (topS 73), defBody (topS 73), defScope (topS 73), [], []⟩
def d__law_all_rows : He.DefD := ⟨("_law_all_rows", none), "_law_all_rows", "_law_all_rows", defArgs (topS 74), defBody (topS 74), defScope (topS 74), [], []⟩
def d__law_products : He.DefD := ⟨("_law_products", none), "_law_products", "_law_products", defArgs (topS 75), defBody (topS 75), defScope (topS 75), [], []⟩
def d__law_dot : He.DefD := ⟨("_law_dot", none), "_law_dot", "_law_dot", defArgs (topS 76), defBody (topS 76), defScope (topS 76), [], []⟩
def d__law_listed : He.DefD := ⟨("_law_listed", none), "_law_listed", "_law_listed", defArgs (topS 77), defBody (topS 77), defScope (topS 77), [], []⟩
def d__law_right : He.DefD := ⟨("_law_right", none), "_law_right", "_law_right", defArgs (topS 78), defBody (topS 78), defScope (topS 78), [], []⟩
def d_law : He.DefD := ⟨("law", none), "law", "law", defArgs (topS 79), defBody (topS 79), defScope (topS 79), [], []⟩
def d_Known___init__ : He.DefD := ⟨("Known", some "__init__"), "__init__", "Known.__init__", defArgs (metS 42 0), defBody (metS 42 0), defScope (metS 42 0), [], []⟩
def d_Room___init__ : He.DefD := ⟨("Room", some "__init__"), "__init__", "Room.__init__", defArgs (metS 44 0), defBody (metS 44 0), defScope (metS 44 0), [.adr (He.dflAt ("Room", some "__init__") 0)], []⟩
def d_Room___eq__ : He.DefD := ⟨("Room", some "__eq__"), "__eq__", "Room.__eq__", defArgs (metS 44 9), defBody (metS 44 9), defScope (metS 44 9), [], []⟩
def d_Room_prime : Hk.DefA := ⟨fun K => pAd K "Room" "prime", "prime", "Room.prime", defArgs (metS 44 1), defBody (metS 44 1), defScope (metS 44 1), [], []⟩
def d_Room_size : Hk.DefA := ⟨fun K => pAd K "Room" "size", "size", "Room.size", defArgs (metS 44 2), defBody (metS 44 2), defScope (metS 44 2), [], []⟩
def hfn : List He.DefD := [d_is_integer, d_is_list, d_power_of, d_undone_of, d_sign_of, d_is_rest_by, d_want_prime, d_is_prime, d_unit, d_idle_of, d_dot, d_sum_of, d_scaled_of, d_mix_of, d_led_of, d_turned_of, d_reduced, d_determinant_of, d_row_in, d_table_in, d_without, d_steps_of, d_right_rows, d_want_room, d_room_of, d_betweens_of, d_between_by, d_first_worthy, d_squares_of, d_kind_in, d_powered, d_undone_count, d_upright_keepers, d_keepers_by, d_all_keepers, d_keeper_count, d_leads_to, d_is_keeper, d__law_pot, d__law_draw, d__law_pick, d__law_determinant, d__law_table, d__law_all_rows, d__law_products, d__law_dot, d__law_listed, d__law_right, d_law, d_Known___init__, d_Room___init__, d_Room___eq__]
def hfb : List Hk.DefA := [d_Room_prime, d_Room_size]
def hfa : List He.Fa := [.free "range", .free "sum", .free "zip", .free "len", .free "list", .free "tuple", .free "any", .free "all", .free "abs", .free "int", .free "max", .free "divmod", .free "isinstance", .free "enumerate", .free "bool", .free "repr", .glo "is_integer", .glo "is_list", .glo "power_of", .glo "undone_of", .glo "sign_of", .glo "is_rest_by", .glo "want_prime", .glo "is_prime", .glo "unit", .glo "idle_of", .glo "dot", .glo "sum_of", .glo "scaled_of", .glo "mix_of", .glo "led_of", .glo "turned_of", .glo "reduced", .glo "determinant_of", .glo "row_in", .glo "table_in", .glo "without", .glo "steps_of", .glo "right_rows", .glo "want_room", .glo "room_of", .glo "betweens_of", .glo "between_by", .glo "first_worthy", .glo "squares_of", .glo "kind_in", .glo "powered", .glo "undone_count", .glo "upright_keepers", .glo "keepers_by", .glo "all_keepers", .glo "keeper_count", .glo "leads_to", .glo "is_keeper", .glo "_law_pot", .glo "_law_draw", .glo "_law_pick", .glo "_law_determinant", .glo "_law_table", .glo "_law_all_rows", .glo "_law_products", .glo "_law_dot", .glo "_law_listed", .glo "_law_right", .glo "law", .glo "Known", .cls "Known", .noat "Known" "own_prime", .noat "Known" "own_rows", .mkr "Known", .glo "Room", .cls "Room", .noat "Room" "own_prime", .noat "Room" "own_rows", .mkr "Room", .glo "PRIMES", .int "MOST_SIZE" 6]
def hex : Hk.Ex := [fun K => Hk.propB K (He.ga K "Room") "size",
  fun K => He.tupB K "PRIMES" [.int 3, .int 5, .int 7, .int 11, .int 13],
  fun K => He.eqO (PySem.W.findIn K (.ref (He.ga K "Known")) "__class__") (some (some (.builtin "object.__class__"))),
  fun K => Hk.ob (PySem.W.mroIn K (He.ga K "Known") (.type "object")) (some true),
  fun K => Hk.ob (PySem.W.kitOne K (.ref (He.ga K "Known")) (.ref (He.ga K "Known"))) (some true),
  fun K => Hk.ob (PySem.W.kitOne K (.type "int") (.ref (He.ga K "Known"))) (some false),
  fun K => He.eqO (PySem.W.findIn K (.ref (He.ga K "Room")) "__class__") (some (some (.builtin "object.__class__"))),
  fun K => Hk.ob (PySem.W.mroIn K (He.ga K "Room") (.type "object")) (some true),
  fun K => Hk.ob (PySem.W.kitOne K (.ref (He.ga K "Room")) (.ref (He.ga K "Room"))) (some true),
  fun K => Hk.tupA K (He.dflAt ("Room", some "__init__") 0 K) [],
  fun K => He.eqO (PySem.W.specialIn K (.builtin "object.__class__") "__get__") (some (some (.builtin "getset_descriptor.__get__"))),
  fun K => Hk.ob (PySem.W.takesIn K (.builtin "object.__class__")) (some true)]
theorem fx {h : Heap} {K : PySem.W.Frag} {mg : Str → Option Value} (X : K.In h) (G : h.Ns mainGlobals mg) (c : Hk.SaysB hfa hfn hfb hex K) : Fx K mg where
  b_range := He.free_ok X G (c.d.fact 0 (f := .free "range") rfl)
  b_sum := He.free_ok X G (c.d.fact 1 (f := .free "sum") rfl)
  b_zip := He.free_ok X G (c.d.fact 2 (f := .free "zip") rfl)
  b_len := He.free_ok X G (c.d.fact 3 (f := .free "len") rfl)
  b_list := He.free_ok X G (c.d.fact 4 (f := .free "list") rfl)
  b_tuple := He.free_ok X G (c.d.fact 5 (f := .free "tuple") rfl)
  b_any := He.free_ok X G (c.d.fact 6 (f := .free "any") rfl)
  b_all := He.free_ok X G (c.d.fact 7 (f := .free "all") rfl)
  b_abs := He.free_ok X G (c.d.fact 8 (f := .free "abs") rfl)
  b_int := He.free_ok X G (c.d.fact 9 (f := .free "int") rfl)
  b_max := He.free_ok X G (c.d.fact 10 (f := .free "max") rfl)
  b_divmod := He.free_ok X G (c.d.fact 11 (f := .free "divmod") rfl)
  b_isinstance := He.free_ok X G (c.d.fact 12 (f := .free "isinstance") rfl)
  b_enumerate := He.free_ok X G (c.d.fact 13 (f := .free "enumerate") rfl)
  b_bool := He.free_ok X G (c.d.fact 14 (f := .free "bool") rfl)
  b_repr := He.free_ok X G (c.d.fact 15 (f := .free "repr") rfl)
  g_is_integer := He.glo_ok X G (c.d.fact 16 (f := .glo "is_integer") rfl)
  f_is_integer := c.d.def_ 0 (d := d_is_integer) rfl
  g_is_list := He.glo_ok X G (c.d.fact 17 (f := .glo "is_list") rfl)
  f_is_list := c.d.def_ 1 (d := d_is_list) rfl
  g_power_of := He.glo_ok X G (c.d.fact 18 (f := .glo "power_of") rfl)
  f_power_of := c.d.def_ 2 (d := d_power_of) rfl
  g_undone_of := He.glo_ok X G (c.d.fact 19 (f := .glo "undone_of") rfl)
  f_undone_of := c.d.def_ 3 (d := d_undone_of) rfl
  g_sign_of := He.glo_ok X G (c.d.fact 20 (f := .glo "sign_of") rfl)
  f_sign_of := c.d.def_ 4 (d := d_sign_of) rfl
  g_is_rest_by := He.glo_ok X G (c.d.fact 21 (f := .glo "is_rest_by") rfl)
  f_is_rest_by := c.d.def_ 5 (d := d_is_rest_by) rfl
  g_want_prime := He.glo_ok X G (c.d.fact 22 (f := .glo "want_prime") rfl)
  f_want_prime := c.d.def_ 6 (d := d_want_prime) rfl
  g_is_prime := He.glo_ok X G (c.d.fact 23 (f := .glo "is_prime") rfl)
  f_is_prime := c.d.def_ 7 (d := d_is_prime) rfl
  g_unit := He.glo_ok X G (c.d.fact 24 (f := .glo "unit") rfl)
  f_unit := c.d.def_ 8 (d := d_unit) rfl
  g_idle_of := He.glo_ok X G (c.d.fact 25 (f := .glo "idle_of") rfl)
  f_idle_of := c.d.def_ 9 (d := d_idle_of) rfl
  g_dot := He.glo_ok X G (c.d.fact 26 (f := .glo "dot") rfl)
  f_dot := c.d.def_ 10 (d := d_dot) rfl
  g_sum_of := He.glo_ok X G (c.d.fact 27 (f := .glo "sum_of") rfl)
  f_sum_of := c.d.def_ 11 (d := d_sum_of) rfl
  g_scaled_of := He.glo_ok X G (c.d.fact 28 (f := .glo "scaled_of") rfl)
  f_scaled_of := c.d.def_ 12 (d := d_scaled_of) rfl
  g_mix_of := He.glo_ok X G (c.d.fact 29 (f := .glo "mix_of") rfl)
  f_mix_of := c.d.def_ 13 (d := d_mix_of) rfl
  g_led_of := He.glo_ok X G (c.d.fact 30 (f := .glo "led_of") rfl)
  f_led_of := c.d.def_ 14 (d := d_led_of) rfl
  g_turned_of := He.glo_ok X G (c.d.fact 31 (f := .glo "turned_of") rfl)
  f_turned_of := c.d.def_ 15 (d := d_turned_of) rfl
  g_reduced := He.glo_ok X G (c.d.fact 32 (f := .glo "reduced") rfl)
  f_reduced := c.d.def_ 16 (d := d_reduced) rfl
  g_determinant_of := He.glo_ok X G (c.d.fact 33 (f := .glo "determinant_of") rfl)
  f_determinant_of := c.d.def_ 17 (d := d_determinant_of) rfl
  g_row_in := He.glo_ok X G (c.d.fact 34 (f := .glo "row_in") rfl)
  f_row_in := c.d.def_ 18 (d := d_row_in) rfl
  g_table_in := He.glo_ok X G (c.d.fact 35 (f := .glo "table_in") rfl)
  f_table_in := c.d.def_ 19 (d := d_table_in) rfl
  g_without := He.glo_ok X G (c.d.fact 36 (f := .glo "without") rfl)
  f_without := c.d.def_ 20 (d := d_without) rfl
  g_steps_of := He.glo_ok X G (c.d.fact 37 (f := .glo "steps_of") rfl)
  f_steps_of := c.d.def_ 21 (d := d_steps_of) rfl
  g_right_rows := He.glo_ok X G (c.d.fact 38 (f := .glo "right_rows") rfl)
  f_right_rows := c.d.def_ 22 (d := d_right_rows) rfl
  g_want_room := He.glo_ok X G (c.d.fact 39 (f := .glo "want_room") rfl)
  f_want_room := c.d.def_ 23 (d := d_want_room) rfl
  g_room_of := He.glo_ok X G (c.d.fact 40 (f := .glo "room_of") rfl)
  f_room_of := c.d.def_ 24 (d := d_room_of) rfl
  g_betweens_of := He.glo_ok X G (c.d.fact 41 (f := .glo "betweens_of") rfl)
  f_betweens_of := c.d.def_ 25 (d := d_betweens_of) rfl
  g_between_by := He.glo_ok X G (c.d.fact 42 (f := .glo "between_by") rfl)
  f_between_by := c.d.def_ 26 (d := d_between_by) rfl
  g_first_worthy := He.glo_ok X G (c.d.fact 43 (f := .glo "first_worthy") rfl)
  f_first_worthy := c.d.def_ 27 (d := d_first_worthy) rfl
  g_squares_of := He.glo_ok X G (c.d.fact 44 (f := .glo "squares_of") rfl)
  f_squares_of := c.d.def_ 28 (d := d_squares_of) rfl
  g_kind_in := He.glo_ok X G (c.d.fact 45 (f := .glo "kind_in") rfl)
  f_kind_in := c.d.def_ 29 (d := d_kind_in) rfl
  g_powered := He.glo_ok X G (c.d.fact 46 (f := .glo "powered") rfl)
  f_powered := c.d.def_ 30 (d := d_powered) rfl
  g_undone_count := He.glo_ok X G (c.d.fact 47 (f := .glo "undone_count") rfl)
  f_undone_count := c.d.def_ 31 (d := d_undone_count) rfl
  g_upright_keepers := He.glo_ok X G (c.d.fact 48 (f := .glo "upright_keepers") rfl)
  f_upright_keepers := c.d.def_ 32 (d := d_upright_keepers) rfl
  g_keepers_by := He.glo_ok X G (c.d.fact 49 (f := .glo "keepers_by") rfl)
  f_keepers_by := c.d.def_ 33 (d := d_keepers_by) rfl
  g_all_keepers := He.glo_ok X G (c.d.fact 50 (f := .glo "all_keepers") rfl)
  f_all_keepers := c.d.def_ 34 (d := d_all_keepers) rfl
  g_keeper_count := He.glo_ok X G (c.d.fact 51 (f := .glo "keeper_count") rfl)
  f_keeper_count := c.d.def_ 35 (d := d_keeper_count) rfl
  g_leads_to := He.glo_ok X G (c.d.fact 52 (f := .glo "leads_to") rfl)
  f_leads_to := c.d.def_ 36 (d := d_leads_to) rfl
  g_is_keeper := He.glo_ok X G (c.d.fact 53 (f := .glo "is_keeper") rfl)
  f_is_keeper := c.d.def_ 37 (d := d_is_keeper) rfl
  g__law_pot := He.glo_ok X G (c.d.fact 54 (f := .glo "_law_pot") rfl)
  f__law_pot := c.d.def_ 38 (d := d__law_pot) rfl
  g__law_draw := He.glo_ok X G (c.d.fact 55 (f := .glo "_law_draw") rfl)
  f__law_draw := c.d.def_ 39 (d := d__law_draw) rfl
  g__law_pick := He.glo_ok X G (c.d.fact 56 (f := .glo "_law_pick") rfl)
  f__law_pick := c.d.def_ 40 (d := d__law_pick) rfl
  g__law_determinant := He.glo_ok X G (c.d.fact 57 (f := .glo "_law_determinant") rfl)
  f__law_determinant := c.d.def_ 41 (d := d__law_determinant) rfl
  g__law_table := He.glo_ok X G (c.d.fact 58 (f := .glo "_law_table") rfl)
  f__law_table := c.d.def_ 42 (d := d__law_table) rfl
  g__law_all_rows := He.glo_ok X G (c.d.fact 59 (f := .glo "_law_all_rows") rfl)
  f__law_all_rows := c.d.def_ 43 (d := d__law_all_rows) rfl
  g__law_products := He.glo_ok X G (c.d.fact 60 (f := .glo "_law_products") rfl)
  f__law_products := c.d.def_ 44 (d := d__law_products) rfl
  g__law_dot := He.glo_ok X G (c.d.fact 61 (f := .glo "_law_dot") rfl)
  f__law_dot := c.d.def_ 45 (d := d__law_dot) rfl
  g__law_listed := He.glo_ok X G (c.d.fact 62 (f := .glo "_law_listed") rfl)
  f__law_listed := c.d.def_ 46 (d := d__law_listed) rfl
  g__law_right := He.glo_ok X G (c.d.fact 63 (f := .glo "_law_right") rfl)
  f__law_right := c.d.def_ 47 (d := d__law_right) rfl
  g_law := He.glo_ok X G (c.d.fact 64 (f := .glo "law") rfl)
  f_law := c.d.def_ 48 (d := d_law) rfl
  g_Known := He.glo_ok X G (c.d.fact 65 (f := .glo "Known") rfl)
  c_Known := He.cls_ok (c.d.fact 66 (f := .cls "Known") rfl)
  n_Known_own_prime := He.noat_ok (c.d.fact 67 (f := .noat "Known" "own_prime") rfl)
  n_Known_own_rows := He.noat_ok (c.d.fact 68 (f := .noat "Known" "own_rows") rfl)
  mk_Known := He.mkr_ok (c.d.fact 69 (f := .mkr "Known") rfl)
  f_Known___init__ := c.d.def_ 49 (d := d_Known___init__) rfl
  g_Room := He.glo_ok X G (c.d.fact 70 (f := .glo "Room") rfl)
  c_Room := He.cls_ok (c.d.fact 71 (f := .cls "Room") rfl)
  n_Room_own_prime := He.noat_ok (c.d.fact 72 (f := .noat "Room" "own_prime") rfl)
  n_Room_own_rows := He.noat_ok (c.d.fact 73 (f := .noat "Room" "own_rows") rfl)
  mk_Room := He.mkr_ok (c.d.fact 74 (f := .mkr "Room") rfl)
  f_Room___init__ := c.d.def_ 50 (d := d_Room___init__) rfl
  f_Room_prime := c.b 0 (d := d_Room_prime) rfl
  p_Room_size := Hk.propB_ok (c.x 0)
  f_Room_size := c.b 1 (d := d_Room_size) rfl
  f_Room___eq__ := c.d.def_ 51 (d := d_Room___eq__) rfl
  g_PRIMES := He.glo_ok X G (c.d.fact 75 (f := .glo "PRIMES") rfl)
  t_PRIMES := He.tupB_ok (vs := [.int 3, .int 5, .int 7, .int 11, .int 13]) (c.x 1)
  k_MOST_SIZE := He.int_ok X G (c.d.fact 76 (f := .int "MOST_SIZE" 6) rfl)
  i1_Known := He.eqO_ok (c.x 2)
  i2_Known := Hk.ob_ok (c.x 3)
  i3_Known_Known := Hk.ob_ok (c.x 4)
  i4_Known_int := Hk.ob_ok (c.x 5)
  i1_Room := He.eqO_ok (c.x 6)
  i2_Room := Hk.ob_ok (c.x 7)
  i3_Room_Room := Hk.ob_ok (c.x 8)
  e_Room___init__ := Hk.tupA_ok (vs := []) (c.x 9)
  i5 := He.eqO_ok (c.x 10)
  i6 := Hk.ob_ok (c.x 11)
abbrev R : PySem.W.OpenRow := PySem.W.OpenLaw.row PySem.Challenge.rw_restkeepers_k81_whole_keepers_listed
abbrev hkB : PySem.W.Hook := Hk.hookB hfa hfn hfb hex
def hob (s : PySem.W.SharedT) : Hk.Al := Hk.obsBG hfa hfn hfb hex (HandSHeadRun.getT s)
theorem hob_eq (s : PySem.W.SharedT) : hob s = hkB.obs s.abs := Hk.obsBG_eq (HandSHeadRun.getT_eq s)
def names0 : List PySem.Str := ["RoomError", "InvalidPrime", "InvalidRoom", "InvalidRow", "InvalidTable", "InvalidRows", "is_integer", "is_list", "PRIMES", "power_of", "undone_of", "sign_of", "is_rest_by", "want_prime", "is_prime"]
def names1 : List PySem.Str := ["MOST_SIZE", "unit", "idle_of", "dot", "sum_of", "scaled_of", "mix_of", "led_of", "turned_of", "reduced", "determinant_of", "row_in", "table_in", "want_row", "want_table"]
def names2 : List PySem.Str := ["want_sized", "head_of", "heads_of", "without", "steps_of", "zeros_of", "Known", "right_rows", "Room", "want_room", "room_of", "between_of", "worth_of", "betweens_of", "led_by"]
def names3 : List PySem.Str := ["still_of", "between_by", "first_worthy", "squares_of", "kind_in", "powered", "undone_count", "upright_keepers", "keepers_by", "all_keepers", "keeper_count", "leads_to", "is_keeper", "_law_pot", "_law_draw"]
def names4 : List PySem.Str := ["_law_pick", "_law_determinant", "_law_table", "_law_all_rows", "_law_products", "_law_dot", "_law_listed", "_law_right"]
def names : List PySem.Str := names0 ++ names1 ++ names2 ++ names3 ++ names4
theorem run (w : World) : HandSHeadRun.RunEq R (PySem.W.view R.prog [79]) hkB hob 20000 names w := by
  intro os
  kernel_rfl
end K88
open PySem PySem.W PySem.Calls PyProof.Rows
theorem PySem.Challenge.cw_restkeepers_k81_whole_keepers_listed_holds : PySem.Challenge.rw_restkeepers_k81_whole_keepers_listed.Holds := by
  w_on; o_law
  refine HandSHeadRun.head_any (r := OpenLaw.row PySem.Challenge.rw_restkeepers_k81_whole_keepers_listed) (q := view (OpenLaw.row PySem.Challenge.rw_restkeepers_k81_whole_keepers_listed).prog [79]) (H := K88.hkB) (ob := K88.hob) (M := 20000) (loose := K88.names) (d := HandSHeadRun.topDef (OpenLaw.row PySem.Challenge.rw_restkeepers_k81_whole_keepers_listed).prog 79) (kwd := []) K88.hob_eq
    (by kernel_rfl) (fun s => by kernel_rfl) K88.run (by kernel_rfl) (by kernel_rfl) (by kernel_rfl) (by rfl) (by first | assumption | decide +kernel) (by decide +kernel) ⟨rfl, rfl, rfl, rfl, rfl, by decide +kernel⟩ ?hw ?hc
  case hw => w_witness2
  case hc =>
    refine Ab.walk_ofG (l := PySem.Challenge.rw_restkeepers_k81_whole_keepers_listed) (n := 63) (k := K88.kLaw) (x := "_law_script") rfl (by decide) (by kernel_rfl) ⟨rfl, by decide, by decide⟩ ?F
    intro w mg fa h Y G hmg0
    obtain ⟨K, KX, c⟩ := Y
    have T := K88.fx KX G c
    have hmg : mg ("law" : PySem.Str) = some (.ref fa) := by
      have e : (HandSHeadRun.topDef (OpenLaw.row PySem.Challenge.rw_restkeepers_k81_whole_keepers_listed).prog 79).name = ("law" : PySem.Str) := by kernel_rfl
      rw [← e]
      exact hmg0
    have e := hmg.symm.trans T.g_law
    cases e
    obtain ⟨fd, F⟩ := T.f_law
    have b := L2.FunD.bindsA (ps := ["_law_script"]) F fun _ _ _ _ _ _ us hl => match us, hl with | [_], _ => rfl
    exact ⟨K, fd, K88.spLaw K, KX, fun s v => b s [v] rfl, fun H a ns hl _ hS => ⟨a, ns, rfl, hS, Nat.le_trans hl (by decide), fun _ => rfl⟩, fun base _ _ => K88.okF_law T F⟩
