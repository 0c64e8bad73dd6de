import PyProof.Rows.All
import Wide.All
import OpenK.AllK
import Wide.FinOn
import KE.DataEq
import HandS.ForMost
import HandS.Exc
import HandS.TryOnly
import HandS.ExcOwn
import HandS.WordsExc
import HandS.Lambda
import HandS.IsInst
import HandS.SortInts
import HandS.Wide
import HandS.Walk
import HandS.Style
import HandS.TupAny
import HandS.ExcCtx
import HandS.Defaults
import HandS.HotCalls
import HandS.ExcIs
import HandS.ExcBuiltin
import HandS.Head0
import HandS.Head1
import HandS.Head2
import HandS.HeadEnd
import HandS.HeadHook1
import HandS.HeadHook2
import HandS.HeadHook3
import HandS.HeadHook4
import HandS.HeadWalk
import PySem.Challenge.RW_wirelamps_k30_whole_fades
set_option Elab.async false
set_option linter.all false
set_option maxRecDepth 100000
set_option maxHeartbeats 4000000
/-! W1: a logic of data over the hand layer. Slots hold data (frozen) or resources (owned); the heap is hidden. -/
namespace Wl
open PySem L2
abbrev D := PyData
abbrev Frg := PySem.W.Frag

/-! ### readings by meaning: the weakest reading of each piece of syntax -/
def wE (X : Cx) (e : Expr) : TE := fun σ H Q => ∀ (pins : List (Addr × Obj)) (s : Shared), Inv X pins σ H s → wpAny (model X.prog X.w) X.A (eval e X.env) (EP X pins σ Q) X.xe s
def wT (X : Cx) (e : Expr) : TT := fun σ H Q => ∀ (pins : List (Addr × Obj)) (s : Shared), Inv X pins σ H s → wpAny (model X.prog X.w) X.A (isTrue e X.env (eval e X.env)) (TP X pins σ Q) X.xe s
def wA (X : Cx) (es : List Expr) : TA := fun σ H Q => ∀ (pos : Pos) (pins : List (Addr × Obj)) (s : Shared), Inv X pins σ H s → wpAny (model X.prog X.w) X.A (spliced (backTo pos (starEach es X.env))) (AP X pins σ Q) X.xe s
def wS (X : Cx) (st : Stmt) : TS := fun K σ H => ∀ (pins : List (Addr × Obj)) (s : Shared), Inv X pins σ H s → wpAny (model X.prog X.w) X.A (exec st X.env) (SP X pins K) X.xe s
def wSs (X : Cx) (st : List Stmt) : TS := fun K σ H => ∀ (pins : List (Addr × Obj)) (s : Shared), Inv X pins σ H s → wpAny (model X.prog X.w) X.A (execs st X.env) (SP X pins K) X.xe s
section
variable {X : Cx} {σ : L2.St} {H : Hp}
theorem pe_w {e : Expr} : PE X e (wE X e) := ⟨fun pins s _ _ _ I h => h pins s I⟩
theorem pt_w {e : Expr} : PT X e (wT X e) := ⟨fun pins s _ _ _ I h => h pins s I⟩
theorem pa_w {es : List Expr} : PA X es (wA X es) := ⟨fun pos pins s _ _ _ I h => h pos pins s I⟩
theorem ps_w {st : Stmt} : PS X st (wS X st) := ⟨fun pins s _ _ _ I h => h pins s I⟩
theorem pss_w {st : List Stmt} : PSs X st (wSs X st) := ⟨fun pins s _ _ _ I h => h pins s I⟩
theorem w_pe {e : Expr} {t : TE} {Q : VK} (h : PE X e t) (q : t σ H Q) : wE X e σ H Q := fun pins s I => h.run pins s σ H Q I q
theorem w_pt {e : Expr} {t : TT} {Q : Bool → Hp → Prop} (h : PT X e t) (q : t σ H Q) : wT X e σ H Q := fun pins s I => h.run pins s σ H Q I q
theorem w_pa {es : List Expr} {t : TA} {Q : List V → Hp → Prop} (h : PA X es t) (q : t σ H Q) : wA X es σ H Q := fun pos pins s I => h.run pos pins s σ H Q I q
theorem w_ps {st : Stmt} {t : TS} {K : Ends} (h : PS X st t) (q : t K σ H) : wS X st K σ H := fun pins s I => h.run pins s σ H K I q
theorem w_pss {st : List Stmt} {t : TS} {K : Ends} (h : PSs X st t) (q : t K σ H) : wSs X st K σ H := fun pins s I => h.run pins s σ H K I q
theorem wE_mono {e : Expr} {Q Q' : VK} (h : wE X e σ H Q) (m : ∀ v H', Q v H' → Q' v H') : wE X e σ H Q' := fun pins s I =>
  thn (h pins s I) fun u s' ⟨v, H', I', r, q⟩ => ⟨v, H', I', r, m v H' q⟩
theorem wT_mono {e : Expr} {Q Q' : Bool → Hp → Prop} (h : wT X e σ H Q) (m : ∀ b H', Q b H' → Q' b H') : wT X e σ H Q' := fun pins s I =>
  thn (h pins s I) fun u s' ⟨H', I', q⟩ => ⟨H', I', m u H' q⟩
theorem wA_mono {es : List Expr} {Q Q' : List V → Hp → Prop} (h : wA X es σ H Q) (m : ∀ v H', Q v H' → Q' v H') : wA X es σ H Q' := fun pos pins s I =>
  thn (h pos pins s I) fun u s' ⟨v, H', I', r, q⟩ => ⟨v, H', I', r, m v H' q⟩
/-- a statement, then the rest -/
theorem wSs_cons {st : Stmt} {rest : List Stmt} {K : Ends} (h : wS X st { K with nx := wSs X rest K } σ H) : wSs X (st :: rest) K σ H := w_pss (pss_cons ps_w pss_w) h
theorem wSs_one {st : Stmt} {K : Ends} (h : wS X st K σ H) : wSs X [st] K σ H := w_pss (pss_one ps_w) h
theorem wSs_nil {K : Ends} (h : K.nx σ H) : wSs X [] K σ H := w_pss pss_nil h
end

/-! ### heaps: the frozen part G within H -/
theorem same_upd {H : Hp} {p : Addr} {o : HO} (h : H p = none) : Same H (upd H p o) := fun a u e => by
  rw [upd_ne (ne_of_none e h)]
  exact e
theorem same_upd2 {G H : Hp} {p : Addr} {o : HO} (e : Same G H) (h : G p = none) : Same G (upd H p o) := fun a u ha => by
  rw [upd_ne (ne_of_none ha h)]
  exact e a u ha
theorem sqT_mono {K : Frg} {H H' : Hp} {a : Addr} {xs : List V} (e : Same H H') (h : SqT K H a xs) : SqT K H' a xs := by
  rcases h with (h | ⟨o, h⟩) | h
  · exact .inl (.inl (e _ _ h))
  · exact .inl (.inr ⟨o, e _ _ h⟩)
  · exact .inr h
/-! data that stands: lists are tracked ones -/
mutual
inductive Dt (K : Frg) (G : Hp) : V → D → Prop
  | non : Dt K G .non .none
  | bl (b : Bool) : Dt K G (.bl b) (.bool b)
  | int (i : Int) : Dt K G (.int i) (.int i)
  | str (x : Str) : Dt K G (.str x) (.str x)
  | lst {a : Addr} {vs : List V} {xs : List D} : SqL K G a vs → DtAll K G vs xs → Dt K G (.ref a) (.list xs)
  | tup {a : Addr} {vs : List V} {xs : List D} : SqT K G a vs → DtAll K G vs xs → Dt K G (.ref a) (.tuple xs)
inductive DtAll (K : Frg) (G : Hp) : List V → List D → Prop
  | nil : DtAll K G [] []
  | cons {v : V} {vs : List V} {x : D} {xs : List D} : Dt K G v x → DtAll K G vs xs → DtAll K G (v :: vs) (x :: xs)
end
mutual
theorem dt_dp {K : Frg} {G H : Hp} (e : Same G H) : ∀ (x : D) (v : V), Dt K G v x → Dp K H v x
  | .none, _, h => by cases h; exact .non
  | .bool b, _, h => by cases h; exact .bl b
  | .int i, _, h => by cases h; exact .int i
  | .str z, _, h => by cases h; exact .str z
  | .list ds, _, h => by
    cases h with
    | lst hs ha => exact .lst (e.seq hs) (dtAll_dp e ds _ ha)
  | .tuple ds, _, h => by
    cases h with
    | tup hs ha => exact .tup (sqT_mono e hs) (dtAll_dp e ds _ ha)
  | .dict _, _, h => by cases h
theorem dtAll_dp {K : Frg} {G H : Hp} (e : Same G H) : ∀ (xs : List D) (vs : List V), DtAll K G vs xs → DpAll K H vs xs
  | [], _, h => by cases h; exact .nil
  | x :: xs, _, h => by
    cases h with
    | cons h1 h2 => exact .cons (dt_dp e x _ h1) (dtAll_dp e xs _ h2)
end
mutual
theorem dt_mono {K : Frg} {G G' : Hp} (e : Same G G') : ∀ (x : D) (v : V), Dt K G v x → Dt K G' v x
  | .none, _, h => by cases h; exact .non
  | .bool b, _, h => by cases h; exact .bl b
  | .int i, _, h => by cases h; exact .int i
  | .str z, _, h => by cases h; exact .str z
  | .list ds, _, h => by
    cases h with
    | lst hs ha => exact .lst (e.seq hs) (dtAll_mono e ds _ ha)
  | .tuple ds, _, h => by
    cases h with
    | tup hs ha => exact .tup (sqT_mono e hs) (dtAll_mono e ds _ ha)
  | .dict _, _, h => by cases h
theorem dtAll_mono {K : Frg} {G G' : Hp} (e : Same G G') : ∀ (xs : List D) (vs : List V), DtAll K G vs xs → DtAll K G' vs xs
  | [], _, h => by cases h; exact .nil
  | x :: xs, _, h => by
    cases h with
    | cons h1 h2 => exact .cons (dt_mono e x _ h1) (dtAll_mono e xs _ h2)
end
theorem DtAll.len {K : Frg} {G : Hp} : ∀ {vs : List V} {xs : List D}, DtAll K G vs xs → vs.length = xs.length
  | _, _, .nil => rfl
  | _, _, .cons _ t => by rw [List.length_cons, List.length_cons, DtAll.len t]
theorem DtAll.get {K : Frg} {G : Hp} : ∀ {vs : List V} {xs : List D} {i : Nat} {x : D}, DtAll K G vs xs → xs[i]? = some x → ∃ v, vs[i]? = some v ∧ Dt K G v x
  | _, _, _, _, .nil, e => by simp at e
  | _, _, 0, _, .cons h _, e => by simp at e; subst e; exact ⟨_, rfl, h⟩
  | _, _, i + 1, _, .cons _ t, e => by
    obtain ⟨v, h1, h2⟩ := DtAll.get (i := i) t (by simpa using e)
    exact ⟨v, by simpa using h1, h2⟩
theorem DtAll.get' {K : Frg} {G : Hp} : ∀ {vs : List V} {xs : List D} {i : Nat} {v : V}, DtAll K G vs xs → vs[i]? = some v → ∃ x, xs[i]? = some x ∧ Dt K G v x
  | _, _, _, _, .nil, e => by simp at e
  | _, _, 0, _, .cons h _, e => by simp at e; subst e; exact ⟨_, rfl, h⟩
  | _, _, i + 1, _, .cons _ t, e => by
    obtain ⟨x, h1, h2⟩ := DtAll.get' (i := i) t (by simpa using e)
    exact ⟨x, by simpa using h1, h2⟩
theorem DtAll.append {K : Frg} {G : Hp} : ∀ {vs ws : List V} {xs ys : List D}, DtAll K G vs xs → DtAll K G ws ys → DtAll K G (vs ++ ws) (xs ++ ys)
  | _, _, _, _, .nil, h => h
  | _, _, _, _, .cons h t, h2 => .cons h (t.append h2)
theorem DtAll.one {K : Frg} {G : Hp} {v : V} {x : D} (h : Dt K G v x) : DtAll K G [v] [x] := .cons h .nil
theorem DtAll.take {K : Frg} {G : Hp} : ∀ (n : Nat) {vs : List V} {xs : List D}, DtAll K G vs xs → DtAll K G (vs.take n) (xs.take n)
  | 0, _, _, _ => .nil
  | _ + 1, _, _, .nil => .nil
  | n + 1, _, _, .cons h t => .cons h (t.take n)
theorem DtAll.drop {K : Frg} {G : Hp} : ∀ (n : Nat) {vs : List V} {xs : List D}, DtAll K G vs xs → DtAll K G (vs.drop n) (xs.drop n)
  | 0, _, _, h => h
  | _ + 1, _, _, .nil => .nil
  | n + 1, _, _, .cons _ t => t.drop n
theorem DtAll.reverse {K : Frg} {G : Hp} : ∀ {vs : List V} {xs : List D}, DtAll K G vs xs → DtAll K G vs.reverse xs.reverse
  | _, _, .nil => .nil
  | _, _, .cons h t => by
    rw [List.reverse_cons, List.reverse_cons]
    exact t.reverse.append (.one h)
theorem DtAll.set {K : Frg} {G : Hp} {v : V} {x : D} (h : Dt K G v x) : ∀ {vs : List V} {xs : List D} (i : Nat), DtAll K G vs xs → DtAll K G (vs.set i v) (xs.set i x)
  | _, _, _, .nil => .nil
  | _, _, 0, .cons _ t => .cons h t
  | _, _, i + 1, .cons k t => .cons k (DtAll.set h i t)
theorem DtAll.eraseIdx {K : Frg} {G : Hp} : ∀ {vs : List V} {xs : List D} (i : Nat), DtAll K G vs xs → DtAll K G (vs.eraseIdx i) (xs.eraseIdx i)
  | _, _, _, .nil => .nil
  | _, _, 0, .cons _ t => t
  | _, _, i + 1, .cons k t => .cons k (DtAll.eraseIdx i t)
/-- what may be owned: no table, nothing written once for all -/
def isPl : HO → Bool
  | .lst _ | .dK _ | .dT _ | .ins _ _ _ | .own _ => true
  | _ => false
/-- free, or a table of code objects -/
def Fre (H : Hp) (a : Addr) : Prop := H a = none ∨ ∃ ps, H a = some (.tbl ps)
theorem Fre.no {H : Hp} {a : Addr} {o : HO} (f : Fre H a) (h : H a = some o) (n : ∀ ps, o ≠ .tbl ps) : False := by
  rcases f with f | ⟨ps, f⟩
  · rw [h] at f; cases f
  · rw [h] at f; exact n ps (Option.some.inj f)
theorem pl_tbl {o : HO} (h : isPl o = true) : ∀ ps, o ≠ .tbl ps := fun ps z => by rw [z] at h; cases h
/-- the tables of code objects that are told of -/
class Tb where
  T : List (Addr × Str)
variable [Tb]
/-- all stays, but tables of code objects may grow -/
structure Keeps (H H' : Hp) : Prop where
  n : ∀ a o, H a = some o → (∀ ps, o ≠ .tbl ps) → H' a = some o
  t : LamX.Tabs Tb.T H → LamX.Tabs Tb.T H'
theorem Keeps.of {H H' : Hp} (e : Same H H') : Keeps H H' := ⟨fun a o h _ => e a o h, fun t => t.ext e⟩
theorem Keeps.refl (H : Hp) : Keeps H H := .of (Same.refl H)
theorem Keeps.trans {H H1 H2 : Hp} (a : Keeps H H1) (b : Keeps H1 H2) : Keeps H H2 := ⟨fun x o h n => b.n x o (a.n x o h n) n, fun t => b.t (a.t t)⟩
theorem Keeps.fre {H H' : Hp} (e : Keeps H H') {a : Addr} (h : Fre H' a) : Fre H a := by
  cases q : H a with
  | none => exact .inl q
  | some o =>
    by_cases z : ∃ ps, o = .tbl ps
    · obtain ⟨ps, rfl⟩ := z
      exact .inr ⟨ps, q⟩
    · have n : ∀ ps, o ≠ .tbl ps := fun ps y => z ⟨ps, y⟩
      exact (h.no (e.n a o q n) n).elim
theorem Keeps.lst {H H' : Hp} (e : Keeps H H') {a : Addr} {vs : List V} (h : H a = some (.lst vs)) : H' a = some (.lst vs) := e.n a _ h fun _ z => by cases z
theorem Keeps.seq {K : Frg} {H H' : Hp} {a : Addr} {xs : List V} (e : Keeps H H') (h : SqL K H a xs) : SqL K H' a xs := by
  rcases h with (h | ⟨o, h⟩) | h
  · exact .inl (.inl (e.n _ _ h fun _ z => by cases z))
  · exact .inl (.inr ⟨o, e.n _ _ h fun _ z => by cases z⟩)
  · exact .inr h
theorem tabs_upd {H : Hp} {p : Addr} {o u : HO} (h : LamX.Tabs Tb.T H) (l : H p = some o) (n : isPl o = true) : LamX.Tabs Tb.T (upd H p u) := fun P hP => by
  obtain ⟨ps, t1, t2, t3⟩ := h P hP
  refine ⟨ps, ?_, t2, fun pos cv hc => ?_⟩
  · rw [upd_ne fun z => ?_]
    · exact t1
    · rw [z, l] at t1
      exact pl_tbl n _ (Option.some.inj t1)
  · obtain ⟨c, e1, e2⟩ := t3 pos cv hc
    refine ⟨c, e1, ?_⟩
    rw [upd_ne fun z => ?_]
    · exact e2
    · rw [z, l] at e2
      rw [Option.some.inj e2] at n
      cases n
theorem keeps_upd2 {H H' : Hp} {p : Addr} {o : HO} {vs : List V} (e : Keeps H H') (h : H p = none) (l : H' p = some (.lst vs)) : Keeps H (upd H' p o) := ⟨fun a u ha hn => by
  rw [upd_ne (ne_of_none ha h)]
  exact e.n a u ha hn, fun t => tabs_upd (e.t t) l rfl⟩
def NoT (G : Hp) : Prop := ∀ a ps, G a ≠ some (.tbl ps)
theorem NoT.upd {G : Hp} {p : Addr} {o : HO} (h : NoT G) (n : ∀ ps, o ≠ .tbl ps) : NoT (L2.upd G p o) := fun a ps z => by
  by_cases q : a = p
  · rw [q, upd_same] at z; exact n ps (Option.some.inj z)
  · rw [upd_ne q] at z; exact h a ps z
/-- from (G, H) things were only laid: some of them frozen -/
structure Stp (G H G' H' : Hp) : Prop where
  g : Same G G'
  h : Keeps H H'
  gh : Same G' H'
  new : ∀ a, G' a = G a ∨ Fre H a
  nt : NoT G → NoT G'
theorem Stp.refl {G H : Hp} (e : Same G H) : Stp G H G H := ⟨Same.refl _, Keeps.refl _, e, fun _ => .inl rfl, id⟩
theorem Stp.trans {G H G1 H1 G2 H2 : Hp} (a : Stp G H G1 H1) (b : Stp G1 H1 G2 H2) : Stp G H G2 H2 := ⟨a.g.trans b.g, a.h.trans b.h, b.gh, fun x => by
  rcases b.new x with e | e
  · rcases a.new x with q | q
    · exact .inl (e.trans q)
    · exact .inr q
  · exact .inr (a.h.fre e), fun n => b.nt (a.nt n)⟩
/-- laid and frozen -/
theorem Stp.lay {G H : Hp} {p : Addr} {o : HO} (e : Same G H) (n : H p = none) (nt : ∀ ps, o ≠ .tbl ps := by intro _ z; cases z) : Stp G H (upd G p o) (upd H p o) := by
  have ng : G p = none := e.free n
  refine ⟨same_upd ng, .of (same_upd n), fun a u q => ?_, fun a => ?_, fun x => x.upd nt⟩
  · by_cases h : a = p
    · subst h; rw [upd_same] at q ⊢; exact q
    · rw [upd_ne h] at q ⊢; exact e a u q
  · by_cases h : a = p
    · subst h; exact .inr (.inl n)
    · rw [upd_ne h]; exact .inl rfl
/-- laid, not frozen (a thing of the moment) -/
theorem Stp.put {G H : Hp} {p : Addr} {o : HO} (e : Same G H) (n : H p = none) : Stp G H G (upd H p o) :=
  ⟨Same.refl _, .of (same_upd n), e.trans (same_upd n), fun _ => .inl rfl, id⟩
theorem Stp.free {G H G' H' : Hp} (s : Stp G H G' H') {a : Addr} {o : HO} (g : G a = none) (h : H a = some o) (n : isPl o = true) : G' a = none := by
  rcases s.new a with e | e
  · rw [e]; exact g
  · exact (e.no h (pl_tbl n)).elim
theorem Stp.at {G H G' H' : Hp} (s : Stp G H G' H') {a : Addr} {o : HO} (h : H a = some o) (p : isPl o = true) : H' a = H a := by
  rw [h]
  exact s.h.n a o h fun ps z => by rw [z] at p; cases p

/-! ### slots -/
/-- an owned thing: its root's address, what is true of it; it leans on the frozen part and on the addresses fp alone -/
structure Res where
  root : Addr
  at_ : Frg → Hp → Hp → List Addr → Prop
  mono : ∀ {K : Frg} {G H G' H' : Hp} {fp : List Addr}, at_ K G H fp → Same G G' → (∀ a, a ∈ fp → H' a = H a) → at_ K G' H' fp
  live : ∀ {K : Frg} {G H : Hp} {fp : List Addr}, at_ K G H fp → ∀ a, a ∈ fp → ∃ o, H a = some o ∧ isPl o = true
inductive Sl where
  | un
  | d (x : D)
  | r (R : Res)
def SlAt (K : Frg) (G H : Hp) (fp : List Addr) (o : Option V) : Sl → Prop
  | .un => fp = []
  | .d x => fp = [] ∧ ∃ v, o = some v ∧ Dt K G v x
  | .r R => o = some (.ref R.root) ∧ R.at_ K G H fp
def SlsAt (K : Frg) (G H : Hp) : List (List Addr) → L2.St → List Sl → Prop
  | [], [], [] => True
  | fp :: fps, o :: σ, s :: Γ => SlAt K G H fp o s ∧ SlsAt K G H fps σ Γ
  | _, _, _ => False
theorem SlAt.live {K : Frg} {G H : Hp} {fp : List Addr} {o : Option V} {s : Sl} (h : SlAt K G H fp o s) : ∀ a ∈ fp, ∃ o, H a = some o ∧ isPl o = true := by
  cases s with
  | un => intro a ha; rw [show fp = [] from h] at ha; cases ha
  | d x => intro a ha; rw [h.1] at ha; cases ha
  | r R => exact R.live h.2
theorem SlAt.mono {K : Frg} {G H G' H' : Hp} {fp : List Addr} {o : Option V} {s : Sl} (h : SlAt K G H fp o s) (g : Same G G') (e : ∀ a, a ∈ fp → H' a = H a) : SlAt K G' H' fp o s := by
  cases s with
  | un => exact h
  | d x => exact ⟨h.1, let ⟨v, e1, e2⟩ := h.2; ⟨v, e1, dt_mono g x v e2⟩⟩
  | r R => exact ⟨h.1, R.mono h.2 g e⟩
theorem SlsAt.len {K : Frg} {G H : Hp} : ∀ {fps : List (List Addr)} {σ : L2.St} {Γ : List Sl}, SlsAt K G H fps σ Γ → fps.length = Γ.length ∧ σ.length = Γ.length
  | [], [], [], _ => ⟨rfl, rfl⟩
  | _ :: _, _ :: _, _ :: _, h => by
    obtain ⟨a, b⟩ := SlsAt.len h.2
    exact ⟨by rw [List.length_cons, List.length_cons, a], by rw [List.length_cons, List.length_cons, b]⟩
  | [], _ :: _, _, h => h.elim
  | [], [], _ :: _, h => h.elim
  | _ :: _, [], _, h => h.elim
  | _ :: _, _ :: _, [], h => h.elim
theorem SlsAt.mono {K : Frg} {G H G' H' : Hp} (g : Same G G') : ∀ {fps : List (List Addr)} {σ : L2.St} {Γ : List Sl}, SlsAt K G H fps σ Γ → (∀ a, a ∈ fps.flatten → H' a = H a) → SlsAt K G' H' fps σ Γ
  | [], [], [], _, _ => True.intro
  | fp :: _, _ :: _, _ :: _, h, e => ⟨h.1.mono g fun a ha => e a (by rw [List.flatten_cons]; exact List.mem_append_left _ ha), SlsAt.mono g h.2 fun a ha => e a (by rw [List.flatten_cons]; exact List.mem_append_right _ ha)⟩
  | [], _ :: _, _, h, _ => h.elim
  | [], [], _ :: _, h, _ => h.elim
  | _ :: _, [], _, h, _ => h.elim
  | _ :: _, _ :: _, [], h, _ => h.elim
theorem SlsAt.live {K : Frg} {G H : Hp} : ∀ {fps : List (List Addr)} {σ : L2.St} {Γ : List Sl}, SlsAt K G H fps σ Γ → ∀ a, a ∈ fps.flatten → ∃ o, H a = some o ∧ isPl o = true
  | [], _, _, _, a, ha => by cases ha
  | fp :: fps, _ :: _, _ :: _, h, a, ha => by
    rw [List.flatten_cons] at ha
    rcases List.mem_append.mp ha with q | q
    · exact h.1.live a q
    · exact SlsAt.live h.2 a q
  | _ :: _, [], _, h, _, _ => h.elim
  | _ :: _, _ :: _, [], h, _, _ => h.elim
theorem SlsAt.get {K : Frg} {G H : Hp} : ∀ {fps : List (List Addr)} {σ : L2.St} {Γ : List Sl} {i : Nat} {s : Sl}, SlsAt K G H fps σ Γ → Γ[i]? = some s → ∃ fp o, fps[i]? = some fp ∧ σ[i]? = some o ∧ SlAt K G H fp o s
  | [], [], [], _, _, _, e => by simp at e
  | fp :: _, o :: _, s' :: _, 0, s, h, e => by
    have e' : s' = s := Option.some.inj e
    subst e'
    exact ⟨fp, o, rfl, rfl, h.1⟩
  | _ :: _, _ :: _, _ :: _, i + 1, s, h, e => by
    obtain ⟨fp, o, h1, h2, h3⟩ := SlsAt.get (i := i) h.2 (by simpa using e)
    exact ⟨fp, o, by simpa using h1, by simpa using h2, h3⟩
  | [], _ :: _, _, _, _, h, _ => h.elim
  | [], [], _ :: _, _, _, h, _ => h.elim
  | _ :: _, [], _, _, _, h, _ => h.elim
  | _ :: _, _ :: _, [], _, _, h, _ => h.elim
theorem SlsAt.set {K : Frg} {G H : Hp} {fp : List Addr} {o : Option V} {s : Sl} (hs : SlAt K G H fp o s) : ∀ {fps : List (List Addr)} {σ : L2.St} {Γ : List Sl} (i : Nat), SlsAt K G H fps σ Γ → SlsAt K G H (fps.set i fp) (σ.set i o) (Γ.set i s)
  | [], [], [], _, _ => True.intro
  | _ :: _, _ :: _, _ :: _, 0, h => ⟨hs, h.2⟩
  | _ :: _, _ :: _, _ :: _, i + 1, h => ⟨h.1, SlsAt.set hs i h.2⟩
  | [], _ :: _, _, _, h => h.elim
  | [], [], _ :: _, _, h => h.elim
  | _ :: _, [], _, _, h => h.elim
  | _ :: _, _ :: _, [], _, h => h.elim

/-- the entry of what runs: the frozen part, the heap, what it may change -/
structure Bs where
  G : Hp
  H : Hp
  O : List Addr
structure Env (K : Frg) (B : Bs) (G H : Hp) (σ : L2.St) (Γ : List Sl) : Prop where
  gh : Same G H
  g0 : Same B.G G
  new : ∀ a, G a = B.G a ∨ Fre B.H a ∨ a ∈ B.O
  keep : ∀ a o, B.H a = some o → a ∉ B.O → (∀ ps, o ≠ .tbl ps) → H a = some o
  tab : LamX.Tabs Tb.T H
  nt : NoT G
  sl : ∃ fps : List (List Addr), SlsAt K G H fps σ Γ ∧ fps.flatten.Nodup ∧ ∀ a, a ∈ fps.flatten → G a = none ∧ (Fre B.H a ∨ a ∈ B.O)
theorem Env.fre {K : Frg} {B : Bs} {G H : Hp} {σ : L2.St} {Γ : List Sl} (E : Env K B G H σ Γ) {a : Addr} (h : Fre H a) : Fre B.H a ∨ a ∈ B.O := by
  by_cases q : a ∈ B.O
  · exact .inr q
  · refine .inl ?_
    cases e : B.H a with
    | none => exact .inl e
    | some o =>
      by_cases z : ∃ ps, o = .tbl ps
      · obtain ⟨ps, rfl⟩ := z
        exact .inr ⟨ps, e⟩
      · have n : ∀ ps, o ≠ .tbl ps := fun ps y => z ⟨ps, y⟩
        exact (h.no (E.keep a o e q n) n).elim
section
variable {K : Frg} {B : Bs} {G H G' H' : Hp} {σ : L2.St} {Γ : List Sl} {o : Option V} {s : Sl}
theorem Env.step (E : Env K B G H σ Γ) (s : Stp G H G' H') : Env K B G' H' σ Γ := by
  obtain ⟨fps, h1, h2, h3⟩ := E.sl
  have lv := h1.live
  refine ⟨s.gh, E.g0.trans s.g, fun a => ?_, fun a o e n t => s.h.n a o (E.keep a o e n t) t, s.h.t E.tab, s.nt E.nt, fps, h1.mono s.g fun a ha => ?_, h2, fun a ha => ⟨let ⟨o, e, p⟩ := lv a ha; s.free (h3 a ha).1 e p, (h3 a ha).2⟩⟩
  · rcases s.new a with e | e
    · rcases E.new a with q | q
      · exact .inl (e.trans q)
      · exact .inr q
    · exact .inr (E.fre e)
  · obtain ⟨o, e, p⟩ := lv a ha
    exact s.at e p
theorem Env.len (E : Env K B G H σ Γ) : σ.length = Γ.length := let ⟨_, h, _⟩ := E.sl; h.len.2
theorem Env.get_d (E : Env K B G H σ Γ) {i : Nat} {x : D} (h : Γ[i]? = some (.d x)) : ∃ v, σ[i]? = some (some v) ∧ Dt K G v x := by
  obtain ⟨fps, h1, _, _⟩ := E.sl
  obtain ⟨fp, o, _, e2, _, v, e3, d⟩ := h1.get h
  subst e3
  exact ⟨v, e2, d⟩
theorem Env.get_r (E : Env K B G H σ Γ) {i : Nat} {R : Res} (h : Γ[i]? = some (.r R)) : σ[i]? = some (some (.ref R.root)) ∧ ∃ fp, R.at_ K G H fp := by
  obtain ⟨fps, h1, _, _⟩ := E.sl
  obtain ⟨fp, o, _, e2, e3, d⟩ := h1.get h
  subst e3
  exact ⟨e2, fp, d⟩
theorem flatten_set_mem {α : Type} : ∀ {l : List (List α)} {i : Nat} {x fp : List α} {a : α}, l[i]? = some fp → a ∈ (l.set i x).flatten → a ∈ x ∨ (a ∈ l.flatten)
  | [], _, _, _, _, e, _ => by simp at e
  | y :: l, 0, x, fp, a, e, h => by
    rw [List.set_cons_zero, List.flatten_cons] at h
    rcases List.mem_append.mp h with q | q
    · exact .inl q
    · exact .inr (by rw [List.flatten_cons]; exact List.mem_append_right _ q)
  | y :: l, i + 1, x, fp, a, e, h => by
    rw [List.set_cons_succ, List.flatten_cons] at h
    rcases List.mem_append.mp h with q | q
    · exact .inr (by rw [List.flatten_cons]; exact List.mem_append_left _ q)
    · rcases flatten_set_mem (l := l) (i := i) (fp := fp) (by simpa using e) q with z | z
      · exact .inl z
      · exact .inr (by rw [List.flatten_cons]; exact List.mem_append_right _ z)
theorem nodup_mem {α : Type} : ∀ {l : List (List α)} {i : Nat} {fp : List α}, l[i]? = some fp → l.flatten.Nodup → fp.Nodup
  | [], _, _, e, _ => by simp at e
  | y :: l, 0, fp, e, nd => by
    have e' : y = fp := Option.some.inj e
    subst e'
    rw [List.flatten_cons] at nd
    exact (List.nodup_append.mp nd).1
  | y :: l, i + 1, fp, e, nd => by
    rw [List.flatten_cons] at nd
    exact nodup_mem (l := l) (i := i) (by simpa using e) (List.nodup_append.mp nd).2.1
/-- the other footprints: what stands in the list of footprints beside the i-th -/
theorem flatten_oth {α : Type} : ∀ {l : List (List α)} {i : Nat} {fp x : List α}, l[i]? = some fp → l.flatten.Nodup → x.Nodup → (∀ a, a ∈ x → a ∈ fp ∨ a ∉ l.flatten) → (l.set i x).flatten.Nodup
  | [], _, _, _, e, _, _, _ => by simp at e
  | y :: l, 0, fp, x, e, nd, nx, hx => by
    have e' : y = fp := Option.some.inj e
    subst e'
    rw [List.set_cons_zero, List.flatten_cons]
    rw [List.flatten_cons] at nd
    obtain ⟨n1, n2, n3⟩ := List.nodup_append.mp nd
    refine List.nodup_append.mpr ⟨nx, n2, fun a ha b hb z => ?_⟩
    rcases hx a ha with q | q
    · exact n3 a q b hb z
    · exact q (by rw [List.flatten_cons]; exact List.mem_append_right _ (z ▸ hb))
  | y :: l, i + 1, fp, x, e, nd, nx, hx => by
    rw [List.set_cons_succ, List.flatten_cons]
    rw [List.flatten_cons] at nd
    obtain ⟨n1, n2, n3⟩ := List.nodup_append.mp nd
    have e' : l[i]? = some fp := by simpa using e
    have hm : ∀ a, a ∈ fp → a ∈ l.flatten := fun a ha => List.mem_flatten.mpr ⟨fp, List.mem_of_getElem? e', ha⟩
    have ih := flatten_oth (l := l) (i := i) e' n2 nx fun a ha => by
      rcases hx a ha with q | q
      · exact .inl q
      · exact .inr fun z => q (by rw [List.flatten_cons]; exact List.mem_append_right _ z)
    refine List.nodup_append.mpr ⟨n1, ih, fun a ha b hb z => ?_⟩
    rcases flatten_set_mem e' hb with q | q
    · rcases hx b q with w | w
      · exact n3 a ha b (hm b w) z
      · exact w (by rw [List.flatten_cons]; exact List.mem_append_left _ (z ▸ ha))
    · exact n3 a ha b q z
theorem flatten_rest {α : Type} : ∀ {l : List (List α)} {i : Nat} {fp x : List α} {a : α}, l[i]? = some fp → l.flatten.Nodup → a ∈ (l.set i x).flatten → a ∉ x → a ∉ fp
  | [], _, _, _, _, e, _, _, _ => by simp at e
  | y :: l, 0, fp, x, a, e, nd, ha, hx => by
    have e' : y = fp := Option.some.inj e
    subst e'
    rw [List.set_cons_zero, List.flatten_cons] at ha
    rw [List.flatten_cons] at nd
    obtain ⟨n1, n2, n3⟩ := List.nodup_append.mp nd
    rcases List.mem_append.mp ha with q | q
    · exact absurd q hx
    · exact fun z => n3 a z a q rfl
  | y :: l, i + 1, fp, x, a, e, nd, ha, hx => by
    rw [List.set_cons_succ, List.flatten_cons] at ha
    rw [List.flatten_cons] at nd
    obtain ⟨n1, n2, n3⟩ := List.nodup_append.mp nd
    have e' : l[i]? = some fp := by simpa using e
    rcases List.mem_append.mp ha with q | q
    · exact fun z => n3 a q a (List.mem_flatten.mpr ⟨fp, List.mem_of_getElem? e', z⟩) rfl
    · exact flatten_rest e' n2 q hx
theorem SlsAt.mono_but {fp : List Addr} (g : Same G G') : ∀ {fps : List (List Addr)} {σ : L2.St} {Γ : List Sl} {i : Nat}, fps[i]? = some fp → SlsAt K G H fps σ Γ → (∀ a, a ∈ (fps.set i []).flatten → H' a = H a) → SlsAt K G' H' (fps.set i []) (σ.set i none) (Γ.set i .un)
  | [], _, _, _, e, _, _ => by simp at e
  | y :: l, o :: σ, s :: Γ, 0, e, h, k => by
    refine ⟨rfl, SlsAt.mono g h.2 fun a ha => k a ?_⟩
    rw [List.set_cons_zero, List.flatten_cons]
    exact List.mem_append_right _ ha
  | y :: l, o :: σ, s :: Γ, i + 1, e, h, k => by
    refine ⟨h.1.mono g fun a ha => k a ?_, SlsAt.mono_but g (by simpa using e) h.2 fun a ha => k a ?_⟩
    · rw [List.set_cons_succ, List.flatten_cons]
      exact List.mem_append_left _ ha
    · rw [List.set_cons_succ, List.flatten_cons]
      exact List.mem_append_right _ ha
  | _ :: _, [], _, _, _, h, _ => h.elim
  | _ :: _, _ :: _, [], _, _, h, _ => h.elim
/-- slot i in view: what it owns, and how the state goes on when it alone is changed -/
theorem Env.focus (E : Env K B G H σ Γ) {i : Nat} {s : Sl} (hi : Γ[i]? = some s) : ∃ fp o, σ[i]? = some o ∧ SlAt K G H fp o s ∧ fp.Nodup ∧ (∀ a, a ∈ fp → G a = none ∧ (Fre B.H a ∨ a ∈ B.O)) ∧
    ∀ {G' H' : Hp} {fp' : List Addr} {o' : Option V} {s' : Sl}, NoT G' → Same G G' → Same G' H' → (∀ a, a ∉ fp → H a ≠ none → H' a = H a ∧ G' a = G a) → (∀ a, G' a = G a ∨ Fre B.H a ∨ a ∈ B.O) →
      SlAt K G' H' fp' o' s' → fp'.Nodup → (∀ a, a ∈ fp' → (a ∈ fp ∨ H a = none) ∧ G' a = none) → Env K B G' H' (σ.set i o') (Γ.set i s') := by
  obtain ⟨fps, h1, h2, h3⟩ := E.sl
  obtain ⟨fp, o, ef, eo, hs⟩ := h1.get hi
  have hm : ∀ a, a ∈ fp → a ∈ fps.flatten := fun a ha => List.mem_flatten.mpr ⟨fp, List.mem_of_getElem? ef, ha⟩
  have ndf : fp.Nodup := nodup_mem ef h2
  refine ⟨fp, o, eo, hs, ndf, fun a ha => h3 a (hm a ha), ?_⟩
  intro G' H' fp' o' s' ntg g gh chg nw hs' nd' sub
  have lvp := h1.live
  have lvs : ∀ a, a ∈ fps.flatten → H a ≠ none := fun a ha => by
    obtain ⟨o, e, _⟩ := lvp a ha
    rw [e]; simp
  have npl : ∀ a o, H a = some o → isPl o = false → a ∉ fp := fun a o e q z => by
    obtain ⟨o', e', p⟩ := lvp a (hm a z)
    rw [e] at e'
    cases e'
    rw [q] at p
    cases p
  have oth : ∀ a, a ∈ (fps.set i []).flatten → a ∈ fps.flatten ∧ a ∉ fp := fun a ha => by
    refine ⟨?_, flatten_rest ef h2 ha (by simp)⟩
    rcases flatten_set_mem ef ha with z | z
    · cases z
    · exact z
  have nbase : ∀ a, a ∈ fp → (Fre B.H a ∨ a ∈ B.O) := fun a ha => (h3 a (hm a ha)).2
  refine ⟨gh, E.g0.trans g, fun a => ?_, fun a u e n nt => ?_, fun P hP => ?_, ntg, fps.set i fp', ?_, ?_, fun a ha => ?_⟩
  · rcases nw a with q | q
    · rcases E.new a with z | z
      · exact .inl (q.trans z)
      · exact .inr z
    · exact .inr q
  · have hH := E.keep a u e n nt
    have na : a ∉ fp := fun z => by
      rcases nbase a z with q | q
      · exact q.no e nt
      · exact n q
    rw [(chg a na (by rw [hH]; simp)).1]
    exact hH
  · obtain ⟨ps, t1, t2, t3⟩ := E.tab P hP
    refine ⟨ps, ?_, t2, fun pos cv hc => ?_⟩
    · rw [(chg P.1 (npl P.1 _ t1 rfl) (by rw [t1]; simp)).1]
      exact t1
    · obtain ⟨c, e1, e2⟩ := t3 pos cv hc
      refine ⟨c, e1, ?_⟩
      rw [(chg c (npl c _ e2 rfl) (by rw [e2]; simp)).1]
      exact e2
  · have k := SlsAt.mono_but g ef h1 (H' := H') fun a ha => (chg a (oth a ha).2 (lvs a (oth a ha).1)).1
    have k2 := SlsAt.set hs' i k
    rw [List.set_set, List.set_set, List.set_set] at k2
    exact k2
  · refine flatten_oth ef h2 nd' fun a ha => ?_
    rcases (sub a ha).1 with q | q
    · exact .inl q
    · exact .inr fun z => lvs a z q
  · by_cases hp : a ∈ fp'
    · refine ⟨(sub a hp).2, ?_⟩
      rcases (sub a hp).1 with q | q
      · exact nbase a q
      · exact E.fre (.inl q)
    · have q : a ∈ fps.flatten := by
        rcases flatten_set_mem ef ha with z | z
        · exact absurd z hp
        · exact z
      have na := flatten_rest ef h2 ha hp
      refine ⟨?_, (h3 a q).2⟩
      rw [(chg a na (lvs a q)).2]
      exact (h3 a q).1
theorem set_out {α : Type} {l : List α} {i : Nat} {x : α} (h : l.length ≤ i) : l.set i x = l := List.set_eq_of_length_le h
theorem Env.rebase (E : Env K B G H σ Γ) : Env K ⟨G, B.H, B.O⟩ G H σ Γ ∧ ∀ {G' H' : Hp} {σ' : L2.St} {Γ' : List Sl}, Env K ⟨G, B.H, B.O⟩ G' H' σ' Γ' → Env K B G' H' σ' Γ' ∧ Same G G' := by
  refine ⟨⟨E.gh, Same.refl _, fun _ => .inl rfl, E.keep, E.tab, E.nt, E.sl⟩, fun {G' H' σ' Γ'} E' => ⟨⟨E'.gh, E.g0.trans E'.g0, fun a => ?_, E'.keep, E'.tab, E'.nt, E'.sl⟩, E'.g0⟩⟩
  rcases E'.new a with q | q
  · rcases E.new a with z | z
    · exact .inl (q.trans z)
    · exact .inr z
  · exact .inr q
/-- a slot gets data -/
theorem Env.set_d (E : Env K B G H σ Γ) {v : V} {x : D} (h : Dt K G v x) (i : Nat) : Env K B G H (σ.set i (some v)) (Γ.set i (.d x)) := by
  cases e : Γ[i]? with
  | none =>
    have l := List.getElem?_eq_none_iff.mp e
    rw [set_out l, set_out (by rw [E.len]; exact l)]
    exact E
  | some s =>
    obtain ⟨fp, o, eo, hs, nd, hf, k⟩ := E.focus e
    exact k E.nt (Same.refl _) E.gh (fun _ _ _ => ⟨rfl, rfl⟩) (fun _ => .inl rfl) (show SlAt K G H [] (some v) (.d x) from ⟨rfl, v, rfl, h⟩) List.nodup_nil (fun a ha => by cases ha)
/-- a slot is forgotten -/
theorem Env.set_un (E : Env K B G H σ Γ) (o : Option V) (i : Nat) : Env K B G H (σ.set i o) (Γ.set i .un) := by
  cases e : Γ[i]? with
  | none =>
    have l := List.getElem?_eq_none_iff.mp e
    rw [set_out l, set_out (by rw [E.len]; exact l)]
    exact E
  | some s =>
    obtain ⟨fp, o', eo, hs, nd, hf, k⟩ := E.focus e
    exact k E.nt (Same.refl _) E.gh (fun _ _ _ => ⟨rfl, rfl⟩) (fun _ => .inl rfl) (show SlAt K G H [] o .un from rfl) List.nodup_nil (fun a ha => by cases ha)
/-- a value ahead of the slots -/
theorem Env.push (E : Env K B G H σ Γ) {v : V} {x : D} (h : Dt K G v x) : Env K B G H (some v :: σ) (.d x :: Γ) := by
  obtain ⟨fps, h1, h2, h3⟩ := E.sl
  exact ⟨E.gh, E.g0, E.new, E.keep, E.tab, E.nt, [] :: fps, ⟨⟨rfl, v, rfl, h⟩, h1⟩, by rw [List.flatten_cons]; exact h2, fun a ha => h3 a (by rw [List.flatten_cons] at ha; exact ha)⟩
theorem Env.pop (E : Env K B G H (o :: σ) (s :: Γ)) : Env K B G H σ Γ := by
  obtain ⟨fps, h1, h2, h3⟩ := E.sl
  cases fps with
  | nil => exact h1.elim
  | cons fp fps =>
    rw [List.flatten_cons] at h2 h3
    exact ⟨E.gh, E.g0, E.new, E.keep, E.tab, E.nt, fps, h1.2, (List.nodup_append.mp h2).2.1, fun a ha => h3 a (List.mem_append_right _ ha)⟩
/-! ### an owned list of data -/
def lR (p : Addr) (xs : List D) : Res where
  root := p
  at_ := fun K G H fp => fp = [p] ∧ ∃ vs, H p = some (.lst vs) ∧ DtAll K G vs xs
  mono := fun {K G H G' H' fp} h g e => by
    obtain ⟨rfl, vs, h1, h2⟩ := h
    exact ⟨rfl, vs, by rw [e p (by simp)]; exact h1, dtAll_mono g _ _ h2⟩
  live := fun {K G H fp} h a ha => by
    obtain ⟨rfl, vs, h1, h2⟩ := h
    have e : a = p := by simpa using ha
    exact ⟨_, by rw [e]; exact h1, rfl⟩
abbrev Sl.l (p : Addr) (xs : List D) : Sl := .r (lR p xs)
/-- a list that is only read (the script) -/
def rdR (p : Addr) (xs : List D) : Res where
  root := p
  at_ := fun K G H fp => fp = [] ∧ ∃ vs, SqL K G p vs ∧ DtAll K G vs xs
  mono := fun {K G H G' H' fp} h g e => by
    obtain ⟨rfl, vs, h1, h2⟩ := h
    exact ⟨rfl, vs, g.seq h1, dtAll_mono g _ _ h2⟩
  live := fun {K G H fp} h a ha => by
    obtain ⟨rfl, vs, h1, h2⟩ := h
    cases ha
theorem Env.get_l (E : Env K B G H σ Γ) {i : Nat} {p : Addr} {xs : List D} (h : Γ[i]? = some (.l p xs)) : ∃ vs, σ[i]? = some (some (.ref p)) ∧ H p = some (.lst vs) ∧ G p = none ∧ DtAll K G vs xs := by
  obtain ⟨fp, o, h1, h2, _, h4, _⟩ := E.focus h
  obtain ⟨e, rfl, vs, h5, h6⟩ := (show o = some (.ref p) ∧ fp = [p] ∧ ∃ vs, H p = some (.lst vs) ∧ DtAll K G vs xs from h2)
  subst e
  exact ⟨vs, h1, h5, (h4 p (by simp)).1, h6⟩
theorem Env.get_rd (E : Env K B G H σ Γ) {i : Nat} {p : Addr} {xs : List D} (h : Γ[i]? = some (.r (rdR p xs))) : ∃ vs, σ[i]? = some (some (.ref p)) ∧ SqL K H p vs ∧ DtAll K G vs xs := by
  obtain ⟨h1, fp, _, vs, h2, h3⟩ := E.get_r h
  exact ⟨vs, h1, E.gh.seq h2, h3⟩
/-- the owned list is written -/
theorem Env.put_l (E : Env K B G H σ Γ) {i : Nat} {p : Addr} {xs ys : List D} {ws : List V} (h : Γ[i]? = some (.l p xs)) (hd : DtAll K G ws ys) : Env K B G (upd H p (.lst ws)) (σ.set i (some (.ref p))) (Γ.set i (.l p ys)) := by
  obtain ⟨fp, o, h1, h2, nd, h4, k⟩ := E.focus h
  obtain ⟨e, rfl, vs, h5, h6⟩ := (show o = some (.ref p) ∧ fp = [p] ∧ ∃ vs, H p = some (.lst vs) ∧ DtAll K G vs xs from h2)
  have gp := (h4 p (by simp)).1
  exact k (fp' := [p]) E.nt (Same.refl _) (same_upd2 E.gh gp) (fun a n _ => ⟨upd_ne fun z => n (by simp [z]), rfl⟩) (fun _ => .inl rfl) ⟨rfl, rfl, ws, upd_same, hd⟩ nd fun a ha => ⟨.inl ha, (h4 a ha).1⟩
/-- .. is frozen -/
theorem Env.freeze (E : Env K B G H σ Γ) {i : Nat} {p : Addr} {xs : List D} (h : Γ[i]? = some (.l p xs)) : ∃ G', Same G G' ∧ Env K B G' H (σ.set i (some (.ref p))) (Γ.set i (.d (.list xs))) := by
  obtain ⟨fp, o, h1, h2, nd, h4, k⟩ := E.focus h
  obtain ⟨e, rfl, vs, h5, h6⟩ := (show o = some (.ref p) ∧ fp = [p] ∧ ∃ vs, H p = some (.lst vs) ∧ DtAll K G vs xs from h2)
  obtain ⟨gp, hb⟩ := h4 p (by simp)
  refine ⟨upd G p (.lst vs), same_upd gp, k (fp' := []) (E.nt.upd fun ps z => by cases z) (same_upd gp) (fun a u e => ?_) (fun a n _ => ⟨rfl, upd_ne fun z => n (by simp [z])⟩) (fun a => ?_) ⟨rfl, _, rfl, .lst (.of upd_same) (dtAll_mono (same_upd gp) _ _ h6)⟩ List.nodup_nil fun a ha => by cases ha⟩
  · by_cases q : a = p
    · subst q; rw [upd_same] at e; rw [h5]; exact e
    · rw [upd_ne q] at e; exact E.gh _ _ e
  · by_cases q : a = p
    · rw [q]; exact .inr hb
    · exact .inl (upd_ne q)
theorem set_self {α : Type} : ∀ {l : List α} {i : Nat} {x : α}, l[i]? = some x → l.set i x = l
  | [], _, _, h => by simp at h
  | y :: l, 0, x, h => by
    have e : y = x := Option.some.inj h
    rw [List.set_cons_zero, e]
  | y :: l, i + 1, x, h => by rw [List.set_cons_succ, set_self (l := l) (i := i) (by simpa using h)]
/-- a fresh list in a slot -/
theorem Env.new_l (E : Env K B G H σ Γ) {p : Addr} {xs : List D} {vs : List V} (hp : H p = none) (hd : DtAll K G vs xs) {i : Nat} {s : Sl} (hi : Γ[i]? = some s) : Env K B G (upd H p (.lst vs)) (σ.set i (some (.ref p))) (Γ.set i (.l p xs)) := by
  obtain ⟨fp, o, h1, h2, nd, h4, k⟩ := E.focus hi
  have gp := E.gh.free hp
  refine k (fp' := [p]) E.nt (Same.refl _) (same_upd2 E.gh gp) (fun a n q => ⟨upd_ne fun z => q (by rw [z]; exact hp), rfl⟩) (fun _ => .inl rfl) ⟨rfl, rfl, vs, upd_same, hd⟩ (by simp) fun a ha => ?_
  have e : a = p := by simpa using ha
  rw [e]
  exact ⟨.inr hp, gp⟩
end
end Wl

/-! W2: expressions over data. -/
namespace Wl
open PySem L2
variable [Tb]

/-! ### values as data: frozen (Dp over G), or an owned list that is read -/
def Wk (K : Frg) (G H : Hp) (v : V) (x : D) : Prop := Dt K G v x ∨ ∃ (p : Addr) (vs : List V) (xs : List D), v = .ref p ∧ x = .list xs ∧ SqL K H p vs ∧ DtAll K G vs xs
inductive WkAll (K : Frg) (G H : Hp) : List V → List D → Prop
  | nil : WkAll K G H [] []
  | cons {v : V} {vs : List V} {x : D} {xs : List D} : Wk K G H v x → WkAll K G H vs xs → WkAll K G H (v :: vs) (x :: xs)
section
variable {K : Frg} {G H G' H' : Hp} {v : V} {x : D}
theorem Wk.step (h : Wk K G H v x) (s : Stp G H G' H') : Wk K G' H' v x := by
  rcases h with h | ⟨p, vs, xs, e1, e2, e3, e4⟩
  · exact .inl (dt_mono s.g _ _ h)
  · exact .inr ⟨p, vs, xs, e1, e2, s.h.seq e3, dtAll_mono s.g _ _ e4⟩
theorem WkAll.step : ∀ {vs : List V} {xs : List D}, WkAll K G H vs xs → Stp G H G' H' → WkAll K G' H' vs xs
  | _, _, .nil, _ => .nil
  | _, _, .cons h t, s => .cons (h.step s) (t.step s)
theorem Wk.dpH (h : Wk K G H v x) (e : Same G H) : Dp K H v x := by
  rcases h with h | ⟨p, vs, xs, e1, e2, e3, e4⟩
  · exact dt_dp e _ _ h
  · subst e1; subst e2; exact .lst e3 (dtAll_dp e _ _ e4)
theorem Wk.none (h : Wk K G H v .none) : v = .non := by
  rcases h with h | ⟨p, vs, xs, e1, e2, _⟩
  · cases h; rfl
  · cases e2
theorem Wk.bool {b : Bool} (h : Wk K G H v (.bool b)) : v = .bl b := by
  rcases h with h | ⟨p, vs, xs, e1, e2, _⟩
  · cases h; rfl
  · cases e2
theorem Wk.int {i : Int} (h : Wk K G H v (.int i)) : v = .int i := by
  rcases h with h | ⟨p, vs, xs, e1, e2, _⟩
  · cases h; rfl
  · cases e2
theorem Wk.str {z : Str} (h : Wk K G H v (.str z)) : v = .str z := by
  rcases h with h | ⟨p, vs, xs, e1, e2, _⟩
  · cases h; rfl
  · cases e2
theorem Wk.list {xs : List D} (h : Wk K G H v (.list xs)) (e : Same G H) : ∃ p vs, v = .ref p ∧ SqL K H p vs ∧ DtAll K G vs xs := by
  rcases h with h | ⟨p, vs, ys, e1, e2, e3, e4⟩
  · cases h with
    | lst hs ha => exact ⟨_, _, rfl, e.seq hs, ha⟩
  · cases e2
    exact ⟨p, vs, e1, e3, e4⟩
theorem Wk.tuple {xs : List D} (h : Wk K G H v (.tuple xs)) (e : Same G H) : ∃ p vs, v = .ref p ∧ SqT K H p vs ∧ SqT K G p vs ∧ DtAll K G vs xs := by
  rcases h with h | ⟨p, vs, ys, e1, e2, e3, e4⟩
  · cases h with
    | tup hs ha => exact ⟨_, _, rfl, sqT_mono e hs, hs, ha⟩
  · cases e2
theorem Wk.dict {kvs : List (D × D)} (h : Wk K G H v (.dict kvs)) : False := by
  rcases h with h | ⟨p, vs, ys, e1, e2, e3, e4⟩
  · cases h
  · cases e2
end
mutual
theorem dp_plain {K : Frg} {H : Hp} : ∀ (x : D) (v : V), Dp K H v x → x.plain = true
  | .none, _, _ => rfl
  | .bool _, _, _ => rfl
  | .int _, _, _ => rfl
  | .str _, _, _ => rfl
  | .list ds, _, h => by
    cases h with
    | lst hs ha => simp only [PyData.plain]; exact dpAll_plain ds _ ha
  | .tuple ds, _, h => by
    cases h with
    | tup hs ha => simp only [PyData.plain]; exact dpAll_plain ds _ ha
  | .dict _, _, h => by cases h
theorem dpAll_plain {K : Frg} {H : Hp} : ∀ (xs : List D) (vs : List V), DpAll K H vs xs → PyData.plainAll xs = true
  | [], _, _ => rfl
  | x :: xs, _, h => by
    cases h with
    | cons h1 h2 => simp only [PyData.plainAll, dp_plain x _ h1, dpAll_plain xs _ h2, Bool.and_self]
end

/-! ### judgements -/
section
variable (X : Cx)
def EvD (e : Expr) (Γ : List Sl) (x : D) : Prop := ∀ (B : Bs) (G H : Hp) (σ : L2.St), Env X.K B G H σ Γ → ∀ Q : VK, (∀ v G' H', Stp G H G' H' → Dt X.K G' v x → Q v H') → wE X e σ H Q
def EvW (e : Expr) (Γ : List Sl) (x : D) : Prop := ∀ (B : Bs) (G H : Hp) (σ : L2.St), Env X.K B G H σ Γ → ∀ Q : VK, (∀ v G' H', Stp G H G' H' → Wk X.K G' H' v x → Q v H') → wE X e σ H Q
def EvT (e : Expr) (Γ : List Sl) (c : Bool) : Prop := ∀ (B : Bs) (G H : Hp) (σ : L2.St), Env X.K B G H σ Γ → ∀ Q : Bool → Hp → Prop, (∀ G' H', Stp G H G' H' → Q c H') → wT X e σ H Q
/-- a test, whatever it is a part of -/
def EvP (e : Expr) (Γ : List Sl) (c : Bool) : Prop := ∀ (wh : Sem Value) (B : Bs) (G H : Hp) (σ : L2.St), Env X.K B G H σ Γ → ∀ Q : Bool → Hp → Prop, (∀ G' H', Stp G H G' H' → Q c H') →
  ∀ (pins : List (Addr × Obj)) (s : Shared), Inv X pins σ H s → wpAny (model X.prog X.w) X.A (isTrue e X.env wh) (TP X pins σ Q) X.xe s
def EvA (es : List Expr) (Γ : List Sl) (xs : List D) : Prop := xs.length = es.length ∧ ∀ (B : Bs) (G H : Hp) (σ : L2.St), Env X.K B G H σ Γ → ∀ Q : List V → Hp → Prop, (∀ vs G' H', Stp G H G' H' → DtAll X.K G' vs xs → Q vs H') → wA X es σ H Q
def EvB (es : List Expr) (Γ : List Sl) (xs : List D) : Prop := ∀ (B : Bs) (G H : Hp) (σ : L2.St), Env X.K B G H σ Γ → ∀ Q : List V → Hp → Prop, (∀ vs G' H', Stp G H G' H' → WkAll X.K G' H' vs xs → Q vs H') → wA X es σ H Q
end
section
variable {X : Cx} {Γ : List Sl} {e a b c : Expr} {es : List Expr} {x y z : D} {xs : List D} {pos : Pos}
theorem EvD.w (h : EvD X e Γ x) : EvW X e Γ x := fun B G H σ E Q q => h B G H σ E Q fun v G' H' s d => q v G' H' s (.inl d)
theorem EvP.t (h : EvP X e Γ true) : EvT X e Γ true := fun B G H σ E Q q pins s I => h _ B G H σ E Q q pins s I
theorem EvP.t' {k : Bool} (h : EvP X e Γ k) : EvT X e Γ k := fun B G H σ E Q q pins s I => h _ B G H σ E Q q pins s I
theorem EvD.is (h : EvD X e Γ x) (q : x = y) : EvD X e Γ y := q ▸ h
theorem EvW.is (h : EvW X e Γ x) (q : x = y) : EvW X e Γ y := q ▸ h
theorem EvT.is {k l : Bool} (h : EvT X e Γ k) (q : k = l) : EvT X e Γ l := q ▸ h

/-! ### names, constants -/
theorem ev_name {n : Str} {i : Nat} (hN : X.N[i]? = some n) (h : Γ[i]? = some (.d x)) (hv : Vis X.env.scope n) (hd : (n == ("__debug__" : Str)) = false := by decide) (hcd : (n == ("__classdict__" : Str)) = false := by decide) : EvD X (.Name n pos) Γ x := fun B G H σ E Q q => by
  obtain ⟨v, e1, d⟩ := E.get_d h
  exact w_pe (pe_var hN hv hd hcd) ⟨v, e1, q v G H (.refl E.gh) d⟩
theorem ev_int {i : Int} {k : Nat} : EvD X (.Constant (.int i) k pos) Γ (.int i) := fun B G H σ E Q q => w_pe pe_int (q _ G H (.refl E.gh) (.int i))
theorem ev_bool {i : Bool} {k : Nat} : EvD X (.Constant (.bool i) k pos) Γ (.bool i) := fun B G H σ E Q q => w_pe pe_bl (q _ G H (.refl E.gh) (.bl i))
theorem ev_none {k : Nat} : EvD X (.Constant .none k pos) Γ .none := fun B G H σ E Q q => w_pe pe_non (q _ G H (.refl E.gh) .non)
theorem ev_str {i : Str} {k : Nat} : EvD X (.Constant (.str i) k pos) Γ (.str i) := fun B G H σ E Q q => w_pe pe_str (q _ G H (.refl E.gh) (.str i))
/-- a constant of the module -/
theorem ev_glob {n : Str} {v : V} {u : Value} (hm : X.mg n = some u) (r : RelV v u) (hd : ∀ G, Dt X.K G v x) (hg : Gl X n) (hdb : (n == ("__debug__" : Str)) = false := by decide) : EvD X (.Name n pos) Γ x := fun B G H σ E Q q =>
  w_pe (pe_glob hg hm r hdb) (q v G H (.refl E.gh) (hd G))

/-! ### operators -/
def BinD (X : Cx) (op : Operator) (x y z : D) : Prop := ∃ r, OpR X (binaryOp op) r ∧ ∀ (G H : Hp) (v u : V) (Q : VK), Same G H → Wk X.K G H v x → Wk X.K G H u y → (∀ w G' H', Stp G H G' H' → Dt X.K G' w z → Q w H') → r v u H Q
theorem ev_bin {op : Operator} (ho : BinD X op x y z) (ha : EvW X a Γ x) (hb : EvW X b Γ y) : EvD X (.BinOp a op b pos) Γ z := fun B G H σ E Q q => by
  obtain ⟨r, h1, h2⟩ := ho
  refine w_pe (pe_op h1 pe_w pe_w) (ha B G H σ E _ fun v G1 H1 s1 k1 => hb B G1 H1 σ (E.step s1) _ fun u G2 H2 s2 k2 => ?_)
  exact h2 G2 H2 v u _ s2.gh (k1.step s2) k2 fun w G' H' s d => q w G' H' ((s1.trans s2).trans s) d
theorem bin_add {i j : Int} : BinD X .Add (.int i) (.int j) (.int (i + j)) := ⟨_, op_add, fun G H v u Q e h1 h2 q => ⟨i, j, h1.int, h2.int, q _ G H (.refl e) (.int _)⟩⟩
theorem bin_sub {i j : Int} : BinD X .Sub (.int i) (.int j) (.int (i - j)) := ⟨_, op_sub, fun G H v u Q e h1 h2 q => ⟨i, j, h1.int, h2.int, q _ G H (.refl e) (.int _)⟩⟩
theorem bin_mul {i j : Int} (h : CMul i j) : BinD X .Mult (.int i) (.int j) (.int (i * j)) := ⟨_, op_mul, fun G H v u Q e h1 h2 q => ⟨i, j, h1.int, h2.int, h, q _ G H (.refl e) (.int _)⟩⟩
theorem bin_mulW {i j : Int} (h : CMulW i j) : BinD X .Mult (.int i) (.int j) (.int (i * j)) := ⟨_, op_mulW, fun G H v u Q e h1 h2 q => ⟨i, j, h1.int, h2.int, h, q _ G H (.refl e) (.int _)⟩⟩
theorem bin_div {i j : Int} (h : CDivW i j) : BinD X .FloorDiv (.int i) (.int j) (.int (i / j)) := ⟨_, op_fdivW, fun G H v u Q e h1 h2 q => ⟨i, j, h1.int, h2.int, h, q _ G H (.refl e) (.int _)⟩⟩
theorem bin_mod {i j : Int} (h : 0 < j) : BinD X .Mod (.int i) (.int j) (.int (i % j)) := ⟨_, op_mod, fun G H v u Q e h1 h2 q => ⟨i, j, h1.int, h2.int, h, q _ G H (.refl e) (.int _)⟩⟩
theorem bin_pow {i j : Int} (h : CPow i j) : BinD X .Pow (.int i) (.int j) (.int (i ^ j.toNat)) := ⟨_, op_pow, fun G H v u Q e h1 h2 q => ⟨i, j, h1.int, h2.int, h, q _ G H (.refl e) (.int _)⟩⟩
theorem bin_cats {i j : Str} (h : i.length + j.length ≤ sizeLine) : BinD X .Add (.str i) (.str j) (.str (i ++ j)) := ⟨_, op_add_str, fun G H v u Q e h1 h2 q => ⟨i, j, h1.str, h2.str, h, q _ G H (.refl e) (.str _)⟩⟩
theorem ev_neg {i : Int} (ha : EvW X a Γ (.int i)) : EvD X (.UnaryOp .USub a pos) Γ (.int (-i)) := fun B G H σ E Q q =>
  w_pe (pe_un un_neg pe_w) (ha B G H σ E _ fun v G1 H1 s1 k1 => ⟨i, k1.int, q _ G1 H1 s1 (.int _)⟩)
theorem ev_not {k : Bool} (ha : EvW X a Γ (.bool k)) : EvD X (.UnaryOp .Not a pos) Γ (.bool (!k)) := fun B G H σ E Q q =>
  w_pe (pe_not pe_w) (ha B G H σ E _ fun v G1 H1 s1 k1 => ⟨k, k1.bool, q _ G1 H1 s1 (.bl _)⟩)

/-! ### comparisons -/
def CmpD (X : Cx) (op : CmpOp) (x y : D) (k : Bool) : Prop := ∃ r, OpR X (compareOp op) r ∧ ∀ (G H : Hp) (v u : V) (Q : VK), Same G H → Wk X.K G H v x → Wk X.K G H u y → Q (.bl k) H → r v u H Q
section
variable {op op' : CmpOp} {k l : Bool}
theorem ev_cmp (ho : CmpD X op x y k) (ha : EvW X a Γ x) (hb : EvW X b Γ y) (hm : behindInMarks op b = false := by first | exact nomark _ | rfl) : EvD X (.Compare a [op] [b] pos) Γ (.bool k) := fun B G H σ E Q q => by
  obtain ⟨r, h1, h2⟩ := ho
  refine w_pe (pe_cmpR h1 pe_w pe_w hm) (ha B G H σ E _ fun v G1 H1 s1 k1 => hb B G1 H1 σ (E.step s1) _ fun u G2 H2 s2 k2 => ?_)
  exact h2 G2 H2 v u _ s2.gh (k1.step s2) k2 (q _ G2 H2 (s1.trans s2) (.bl _))
theorem et_cmp (ho : CmpD X op x y k) (ha : EvW X a Γ x) (hb : EvW X b Γ y) (hm : behindInMarks op b = false := by first | exact nomark _ | rfl) : EvT X (.Compare a [op] [b] pos) Γ k := fun B G H σ E Q q => by
  obtain ⟨r, h1, h2⟩ := ho
  refine w_pt (pt_cmpR h1 pe_w pe_w hm) (ha B G H σ E _ fun v G1 H1 s1 k1 => hb B G1 H1 σ (E.step s1) _ fun u G2 H2 s2 k2 => ?_)
  exact h2 G2 H2 v u _ s2.gh (k1.step s2) k2 ⟨k, rfl, q G2 H2 (s1.trans s2)⟩
theorem ev_chain (ho : CmpD X op x y k) (ho' : k = true → CmpD X op' y z l) (ho2 : ∃ r', OpR X (compareOp op') r') (ha : EvW X a Γ x) (hb : EvW X b Γ y) (hc : EvW X c Γ z) (hm : lastMarks [op, op'] [b, c] = false := by with_unfolding_all rfl) : EvD X (.Compare a [op, op'] [b, c] pos) Γ (.bool (k && l)) := fun B G H σ E Q q => by
  obtain ⟨r, h1, h2⟩ := ho
  cases k with
  | true =>
    obtain ⟨r', h3, h4⟩ := ho' rfl
    refine w_pe (pe_chain h1 h3 pe_w pe_w pe_w hm) (ha B G H σ E _ fun v G1 H1 s1 k1 => hb B G1 H1 σ (E.step s1) _ fun u G2 H2 s2 k2 => ?_)
    refine h2 G2 H2 v u _ s2.gh (k1.step s2) k2 ⟨true, rfl, iteT ?_⟩
    exact hc B G2 H2 σ ((E.step s1).step s2) _ fun w G3 H3 s3 k3 => h4 G3 H3 u w _ s3.gh (k2.step s3) k3 (q _ G3 H3 ((s1.trans s2).trans s3) (.bl _))
  | false =>
    obtain ⟨r', h3⟩ := ho2
    refine w_pe (pe_chain h1 h3 pe_w pe_w pe_w hm) (ha B G H σ E _ fun v G1 H1 s1 k1 => hb B G1 H1 σ (E.step s1) _ fun u G2 H2 s2 k2 => ?_)
    exact h2 G2 H2 v u _ s2.gh (k1.step s2) k2 ⟨false, rfl, iteF (q _ G2 H2 (s1.trans s2) (.bl _))⟩
theorem et_chain (ho : CmpD X op x y k) (ho' : k = true → CmpD X op' y z l) (ho2 : ∃ r', OpR X (compareOp op') r') (ha : EvW X a Γ x) (hb : EvW X b Γ y) (hc : EvW X c Γ z) (hm : lastMarks [op, op'] [b, c] = false := by with_unfolding_all rfl) : EvT X (.Compare a [op, op'] [b, c] pos) Γ (k && l) := fun B G H σ E Q q => by
  obtain ⟨r, h1, h2⟩ := ho
  cases k with
  | true =>
    obtain ⟨r', h3, h4⟩ := ho' rfl
    refine w_pt (pt_chain h1 h3 pe_w pe_w pe_w hm) (ha B G H σ E _ fun v G1 H1 s1 k1 => hb B G1 H1 σ (E.step s1) _ fun u G2 H2 s2 k2 => ?_)
    refine h2 G2 H2 v u _ s2.gh (k1.step s2) k2 ⟨true, rfl, iteT ?_⟩
    exact hc B G2 H2 σ ((E.step s1).step s2) _ fun w G3 H3 s3 k3 => h4 G3 H3 u w _ s3.gh (k2.step s3) k3 ⟨_, rfl, q G3 H3 ((s1.trans s2).trans s3)⟩
  | false =>
    obtain ⟨r', h3⟩ := ho2
    refine w_pt (pt_chain h1 h3 pe_w pe_w pe_w hm) (ha B G H σ E _ fun v G1 H1 s1 k1 => hb B G1 H1 σ (E.step s1) _ fun u G2 H2 s2 k2 => ?_)
    exact h2 G2 H2 v u _ s2.gh (k1.step s2) k2 ⟨false, rfl, iteF ⟨_, rfl, q G2 H2 (s1.trans s2)⟩⟩
end
theorem cmp_lt {i j : Int} : CmpD X .Lt (.int i) (.int j) (decide (i < j)) := ⟨_, op_lt, fun G H v u Q e h1 h2 q => ⟨i, j, h1.int, h2.int, q⟩⟩
theorem cmp_le {i j : Int} : CmpD X .LtE (.int i) (.int j) (decide (i ≤ j)) := ⟨_, op_le, fun G H v u Q e h1 h2 q => ⟨i, j, h1.int, h2.int, q⟩⟩
theorem cmp_gt {i j : Int} : CmpD X .Gt (.int i) (.int j) (decide (j < i)) := ⟨_, op_gt, fun G H v u Q e h1 h2 q => ⟨i, j, h1.int, h2.int, q⟩⟩
theorem cmp_ge {i j : Int} : CmpD X .GtE (.int i) (.int j) (decide (j ≤ i)) := ⟨_, op_ge, fun G H v u Q e h1 h2 q => ⟨i, j, h1.int, h2.int, q⟩⟩
def isNone : D → Bool
  | .none => true
  | _ => false
theorem isNone_v {K : Frg} {G H : Hp} {v : V} (h : Wk K G H v x) : decide (v = .non) = isNone x := by
  cases x with
  | none => rw [h.none]; rfl
  | bool b => rw [h.bool]; rfl
  | int b => rw [h.int]; rfl
  | str b => rw [h.str]; rfl
  | list xs =>
    rcases h with h | ⟨p, vs, ys, e1, e2, _⟩
    · cases h; rfl
    · rw [e1]; rfl
  | tuple xs =>
    rcases h with h | ⟨p, vs, ys, e1, e2, _⟩
    · cases h; rfl
    · cases e2
  | dict kvs => exact h.dict.elim
theorem cmp_is : CmpD X .Is x .none (isNone x) := ⟨_, op_isN, fun G H v u Q e h1 h2 q => ⟨h2.none, by rw [isNone_v h1]; exact q⟩⟩
theorem cmp_isnot : CmpD X .IsNot x .none (!isNone x) := ⟨_, op_notN, fun G H v u Q e h1 h2 q => ⟨h2.none, by rw [isNone_v h1]; exact q⟩⟩
/-! == and in of data at any depth, one of both shallow -/
section
variable {k : Nat} {G H : Hp} {v u : V}
def rEqP (K : Frg) : R2 := fun v u H Q => ∃ d e, Dp K H v d ∧ Dp K H u e ∧ min d.depth e.depth ≤ 60 ∧ Q (.bl (PyData.eqv d e)) H
def rNeP (K : Frg) : R2 := fun v u H Q => ∃ d e, Dp K H v d ∧ Dp K H u e ∧ min d.depth e.depth ≤ 60 ∧ Q (.bl (!PyData.eqv d e)) H
theorem op_eqP (hu : X.A.units + 64 < cLine) : OpR X (compareOp .Eq) (rEqP X.K) := by
  intro pins s σ H x y v u Q I rx ry h
  obtain ⟨d, e, hd, he, hm, q⟩ := h
  obtain ⟨as, r1⟩ := Dp.reads I d x v hd rx
  obtain ⟨bs, r2⟩ := Dp.reads I e y u he ry
  exact SeqAt.eq_plain r1 r2 (dp_plain _ _ hd) (dp_plain _ _ he) (by omega) ⟨.bl _, H, I, rfl, q⟩
theorem op_neP (hu : X.A.units + 64 < cLine) : OpR X (compareOp .NotEq) (rNeP X.K) := by
  intro pins s σ H x y v u Q I rx ry h
  obtain ⟨d, e, hd, he, hm, q⟩ := h
  obtain ⟨as, r1⟩ := Dp.reads I d x v hd rx
  obtain ⟨bs, r2⟩ := Dp.reads I e y u he ry
  exact SeqAt.ne_plain r1 r2 (dp_plain _ _ hd) (dp_plain _ _ he) (by omega) ⟨.bl _, H, I, rfl, q⟩
theorem cmp_eq (hu : X.A.units + 64 < cLine) (hd : min x.depth y.depth ≤ 60) : CmpD X .Eq x y (PyData.eqv x y) := ⟨_, op_eqP hu, fun G H v u Q e h1 h2 q => ⟨x, y, h1.dpH e, h2.dpH e, hd, q⟩⟩
theorem cmp_ne (hu : X.A.units + 64 < cLine) (hd : min x.depth y.depth ≤ 60) : CmpD X .NotEq x y (!PyData.eqv x y) := ⟨_, op_neP hu, fun G H v u Q e h1 h2 q => ⟨x, y, h1.dpH e, h2.dpH e, hd, q⟩⟩
def rInP (K : Frg) (neg : Bool) : R2 := fun v u H Q => ∃ d ys, Dp K H v d ∧ (Dp K H u (.list ys) ∨ Dp K H u (.tuple ys)) ∧ min (PyData.depthAll ys) d.depth ≤ 60 ∧ Q (.bl (if neg then !(ys.any fun y => PyData.eqv y d) else ys.any fun y => PyData.eqv y d)) H
theorem op_inP (hu : X.A.units + 64 < cLine) : OpR X (compareOp .In) (rInP X.K false) := by
  intro pins s σ H x y v u Q I rx ry h
  obtain ⟨d, ys, hd, he, hm, q⟩ := h
  obtain ⟨as, r1⟩ := Dp.reads I d x v hd rx
  rcases he with he | he
  · obtain ⟨bs, r2⟩ := Dp.reads I _ y u he ry
    have pl := dp_plain _ _ he
    simp only [PyData.plain] at pl
    exact SeqAt.in_list_data r2 r1 pl (dp_plain _ _ hd) (by omega) ⟨.bl _, H, I, rfl, q⟩
  · obtain ⟨bs, r2⟩ := Dp.reads I _ y u he ry
    have pl := dp_plain _ _ he
    simp only [PyData.plain] at pl
    exact SeqAt.in_tuple_data r2 r1 pl (dp_plain _ _ hd) (by omega) ⟨.bl _, H, I, rfl, q⟩
theorem op_notInP (hu : X.A.units + 64 < cLine) : OpR X (compareOp .NotIn) (rInP X.K true) := by
  intro pins s σ H x y v u Q I rx ry h
  obtain ⟨d, ys, hd, he, hm, q⟩ := h
  obtain ⟨as, r1⟩ := Dp.reads I d x v hd rx
  rcases he with he | he
  · obtain ⟨bs, r2⟩ := Dp.reads I _ y u he ry
    have pl := dp_plain _ _ he
    simp only [PyData.plain] at pl
    exact SeqAt.notIn_list_data r2 r1 pl (dp_plain _ _ hd) (by omega) ⟨.bl _, H, I, rfl, q⟩
  · obtain ⟨bs, r2⟩ := Dp.reads I _ y u he ry
    have pl := dp_plain _ _ he
    simp only [PyData.plain] at pl
    exact SeqAt.notIn_tuple_data r2 r1 pl (dp_plain _ _ hd) (by omega) ⟨.bl _, H, I, rfl, q⟩
def inD (x : D) (ys : List D) : Bool := ys.any fun y => PyData.eqv y x
theorem cmp_inL {ys : List D} (hu : X.A.units + 64 < cLine) (hd : min (PyData.depthAll ys) x.depth ≤ 60) : CmpD X .In x (.list ys) (inD x ys) := ⟨_, op_inP hu, fun G H v u Q e h1 h2 q => ⟨x, ys, h1.dpH e, .inl (h2.dpH e), hd, q⟩⟩
theorem cmp_inT {ys : List D} (hu : X.A.units + 64 < cLine) (hd : min (PyData.depthAll ys) x.depth ≤ 60) : CmpD X .In x (.tuple ys) (inD x ys) := ⟨_, op_inP hu, fun G H v u Q e h1 h2 q => ⟨x, ys, h1.dpH e, .inr (h2.dpH e), hd, q⟩⟩
theorem cmp_notinL {ys : List D} (hu : X.A.units + 64 < cLine) (hd : min (PyData.depthAll ys) x.depth ≤ 60) : CmpD X .NotIn x (.list ys) (!inD x ys) := ⟨_, op_notInP hu, fun G H v u Q e h1 h2 q => ⟨x, ys, h1.dpH e, .inl (h2.dpH e), hd, q⟩⟩
theorem cmp_notinT {ys : List D} (hu : X.A.units + 64 < cLine) (hd : min (PyData.depthAll ys) x.depth ≤ 60) : CmpD X .NotIn x (.tuple ys) (!inD x ys) := ⟨_, op_notInP hu, fun G H v u Q e h1 h2 q => ⟨x, ys, h1.dpH e, .inr (h2.dpH e), hd, q⟩⟩
/-- one sign in a text -/
theorem cmp_insign {c : Nat} {z : Str} : CmpD X .In (.str ⟨#[c]⟩) (.str z) (decide (c ∈ z.cps.toList)) := ⟨_, op_in_sign, fun G H v u Q e h1 h2 q => ⟨c, z, h1.str, h2.str, q⟩⟩
end

/-! ### and, or, not, if .. else -/
section
variable {k l : Bool} {rest : List Expr}
theorem ep_and1 (h : EvT X a Γ k) : EvP X (.BoolOp .And [a] pos) Γ k := fun wh B G H σ E Q q pins s I => (pw_and1 (pt_w (X := X) (e := a))).run wh pins s σ H Q I (h B G H σ E Q q)
theorem ep_or1 (h : EvT X a Γ k) : EvP X (.BoolOp .Or [a] pos) Γ k := fun wh B G H σ E Q q pins s I => (pw_or1 (pt_w (X := X) (e := a))).run wh pins s σ H Q I (h B G H σ E Q q)
theorem ep_and (h1 : EvT X a Γ k) (h2 : k = true → EvP X (.BoolOp .And (b :: rest) pos) Γ l) : EvP X (.BoolOp .And (a :: b :: rest) pos) Γ (k && l) := fun wh B G H σ E Q q pins s I => by
  let tb : TT := fun σ H Q => ∀ (wh : Sem Value) (pins : List (Addr × Obj)) (s : Shared), Inv X pins σ H s → wpAny (model X.prog X.w) X.A (isTrue (.BoolOp .And (b :: rest) pos) X.env wh) (TP X pins σ Q) X.xe s
  have hb : PW X (.BoolOp .And (b :: rest) pos) tb := ⟨fun wh pins s σ H Q I h => h wh pins s I⟩
  refine (pw_and (pt_w (X := X) (e := a)) hb).run wh pins s σ H Q I (h1 B G H σ E _ fun G1 H1 s1 => ?_)
  cases k with
  | true => exact iteT fun wh pins s I => h2 rfl wh B G1 H1 σ (E.step s1) Q (fun G2 H2 s2 => q G2 H2 (s1.trans s2)) pins s I
  | false => exact iteF (q G1 H1 s1)
theorem ep_or (h1 : EvT X a Γ k) (h2 : k = false → EvP X (.BoolOp .Or (b :: rest) pos) Γ l) : EvP X (.BoolOp .Or (a :: b :: rest) pos) Γ (k || l) := fun wh B G H σ E Q q pins s I => by
  let tb : TT := fun σ H Q => ∀ (wh : Sem Value) (pins : List (Addr × Obj)) (s : Shared), Inv X pins σ H s → wpAny (model X.prog X.w) X.A (isTrue (.BoolOp .Or (b :: rest) pos) X.env wh) (TP X pins σ Q) X.xe s
  have hb : PW X (.BoolOp .Or (b :: rest) pos) tb := ⟨fun wh pins s σ H Q I h => h wh pins s I⟩
  refine (pw_or (pt_w (X := X) (e := a)) hb).run wh pins s σ H Q I (h1 B G H σ E _ fun G1 H1 s1 => ?_)
  cases k with
  | false => exact iteF fun wh pins s I => h2 rfl wh B G1 H1 σ (E.step s1) Q (fun G2 H2 s2 => q G2 H2 (s1.trans s2)) pins s I
  | true => exact iteT (q G1 H1 s1)
theorem et_not (h : EvT X a Γ k) : EvT X (.UnaryOp .Not a pos) Γ (!k) := fun B G H σ E Q q => w_pt (pt_not pt_w) (h B G H σ E _ q)
/-- a value that is a truth value, as a test -/
theorem et_val (h : EvW X e Γ (.bool k)) (he : ∀ whole, isTrue e X.env whole = (do let v ← whole; standAt e.pos; holding [v] (truthy v)) := by intro _; rfl) : EvT X e Γ k := fun B G H σ E Q q =>
  w_pt (pt_val pe_w he) (h B G H σ E _ fun v G1 H1 s1 k1 => ⟨k, k1.bool, q G1 H1 s1⟩)
theorem ev_one {op : BoolOp} (h : EvD X a Γ x) : EvD X (.BoolOp op [a] pos) Γ x := fun B G H σ E Q q => w_pe (pe_one pe_w) (h B G H σ E Q q)
theorem ev_and (h1 : EvW X a Γ (.bool k)) (h2 : k = true → EvD X (.BoolOp .And (b :: rest) pos) Γ (.bool l)) : EvD X (.BoolOp .And (a :: b :: rest) pos) Γ (.bool (k && l)) := fun B G H σ E Q q =>
  w_pe (pe_and pe_w pe_w) (h1 B G H σ E _ fun v G1 H1 s1 k1 => ⟨k, k1.bool, by
    cases k with
    | true => exact iteT (h2 rfl B G1 H1 σ (E.step s1) Q fun u G2 H2 s2 d => q u G2 H2 (s1.trans s2) d)
    | false => exact iteF (q _ G1 H1 s1 (.bl _))⟩)
theorem ev_or (h1 : EvW X a Γ (.bool k)) (h2 : k = false → EvD X (.BoolOp .Or (b :: rest) pos) Γ (.bool l)) : EvD X (.BoolOp .Or (a :: b :: rest) pos) Γ (.bool (k || l)) := fun B G H σ E Q q =>
  w_pe (pe_or pe_w pe_w) (h1 B G H σ E _ fun v G1 H1 s1 k1 => ⟨k, k1.bool, by
    cases k with
    | false => exact iteF (h2 rfl B G1 H1 σ (E.step s1) Q fun u G2 H2 s2 d => q u G2 H2 (s1.trans s2) d)
    | true => exact iteT (q _ G1 H1 s1 (.bl _))⟩)
theorem ev_ifexp (h : EvT X c Γ k) (h1 : k = true → EvD X a Γ x) (h2 : k = false → EvD X b Γ y) : EvD X (.IfExp c a b pos) Γ (if k = true then x else y) := fun B G H σ E Q q =>
  w_pe (pe_ifExp pt_w pe_w pe_w) (h B G H σ E _ fun G1 H1 s1 => by
    cases k with
    | true => exact iteT (h1 rfl B G1 H1 σ (E.step s1) Q fun u G2 H2 s2 d => q u G2 H2 (s1.trans s2) (by rw [if_pos rfl]; exact d))
    | false => exact iteF (h2 rfl B G1 H1 σ (E.step s1) Q fun u G2 H2 s2 d => q u G2 H2 (s1.trans s2) (by rw [if_neg Bool.false_ne_true]; exact d)))
end

/-! ### argument lists, displays -/
theorem ea_nil : EvA X [] Γ [] := ⟨rfl, fun B G H σ E Q q => w_pa pa_nil (q [] G H (.refl E.gh) .nil)⟩
theorem ea_cons (h : EvD X e Γ x) (t : EvA X es Γ xs) (hs : starEach (e :: es) X.env = (false, eval e X.env) :: starEach es X.env := by rfl) : EvA X (e :: es) Γ (x :: xs) := ⟨by rw [List.length_cons, List.length_cons, t.1], fun B G H σ E Q q =>
  w_pa (pa_cons pe_w pa_w hs) (h B G H σ E _ fun v G1 H1 s1 k1 => t.2 B G1 H1 σ (E.step s1) _ fun vs G2 H2 s2 k2 => q (v :: vs) G2 H2 (s1.trans s2) (.cons (dt_mono s2.g _ _ k1) k2))⟩
theorem eb_nil : EvB X [] Γ [] := fun B G H σ E Q q => w_pa pa_nil (q [] G H (.refl E.gh) .nil)
theorem eb_cons (h : EvW X e Γ x) (t : EvB X es Γ xs) (hs : starEach (e :: es) X.env = (false, eval e X.env) :: starEach es X.env := by rfl) : EvB X (e :: es) Γ (x :: xs) := fun B G H σ E Q q =>
  w_pa (pa_cons pe_w pa_w hs) (h B G H σ E _ fun v G1 H1 s1 k1 => t B G1 H1 σ (E.step s1) _ fun vs G2 H2 s2 k2 => q (v :: vs) G2 H2 (s1.trans s2) (.cons (k1.step s2) k2))
theorem dp_lay {K : Frg} {G : Hp} {p : Addr} {o : HO} {vs : List V} (n : G p = none) (h : DtAll K G vs xs) : DtAll K (upd G p o) vs xs := dtAll_mono (same_upd n) _ _ h
theorem ev_tup {kk : Nat} (h : EvA X es Γ xs) (hl : es.length ≤ 1000 := by decide) : EvD X (.Tuple es kk pos) Γ (.tuple xs) := fun B G H σ E Q q =>
  w_pe (pe_tup pa_w) (h.2 B G H σ E _ fun vs G1 H1 s1 k1 => ⟨by rw [k1.len, h.1]; exact Nat.le_trans hl (by decide), fun p hp => q _ (upd G1 p (.tup vs)) _ (s1.trans (Stp.lay s1.gh hp)) (.tup (.of upd_same) (dp_lay (s1.gh.free hp) k1))⟩)
theorem ev_lst (h : EvA X es Γ xs) (hl : es.length ≤ 1000 := by decide) : EvD X (.List es pos) Γ (.list xs) := fun B G H σ E Q q =>
  w_pe (pe_lst pa_w) (h.2 B G H σ E _ fun vs G1 H1 s1 k1 => ⟨by rw [k1.len, h.1]; exact Nat.le_trans hl (by decide), fun p hp => q _ (upd G1 p (.lst vs)) _ (s1.trans (Stp.lay s1.gh hp)) (.lst (.of upd_same) (dp_lay (s1.gh.free hp) k1))⟩)
end
end Wl

/-! W3: subscripts, slices, built-in calls, what is walked, comprehensions. -/
namespace Wl
open PySem L2
variable [Tb]
section
variable {X : Cx} {Γ : List Sl} {e a b c : Expr} {es : List Expr} {x y z : D} {xs : List D} {pos p2 : Pos}

/-! ### subscripts -/
theorem atI_dp {K : Frg} {G : Hp} {vs : List V} {i : Int} (h : DtAll K G vs xs) (hz : atI xs i = some z) : ∃ v, atI vs i = some v ∧ Dt K G v z := by
  unfold atI at hz ⊢
  rw [h.len]
  cases q : ixN xs.length i with
  | none => rw [q] at hz; cases hz
  | some j => rw [q] at hz; exact h.get hz
theorem ev_ixL {i : Int} (ha : EvW X a Γ (.list xs)) (hb : EvW X b Γ (.int i)) (hz : atI xs i = some z) (hs : PlainIx b := by exact fun _ _ => rfl) : EvD X (.Subscript a b pos) Γ z := fun B G H σ E Q q =>
  w_pe (pe_ix ix_list pe_w pe_w hs) (ha B G H σ E _ fun v G1 H1 s1 k1 => hb B G1 H1 σ (E.step s1) _ fun u G2 H2 s2 k2 => by
    obtain ⟨p, vs, rfl, hq, hd⟩ := (k1.step s2).list s2.gh
    obtain ⟨w, e1, d⟩ := atI_dp hd hz
    exact ⟨p, vs, i, w, rfl, k2.int, hq, e1, q w G2 H2 (s1.trans s2) d⟩)
theorem ev_ixT {i : Int} (ha : EvW X a Γ (.tuple xs)) (hb : EvW X b Γ (.int i)) (hz : atI xs i = some z) (hs : PlainIx b := by exact fun _ _ => rfl) : EvD X (.Subscript a b pos) Γ z := fun B G H σ E Q q =>
  w_pe (pe_ix ix_tup pe_w pe_w hs) (ha B G H σ E _ fun v G1 H1 s1 k1 => hb B G1 H1 σ (E.step s1) _ fun u G2 H2 s2 k2 => by
    obtain ⟨p, vs, rfl, hq, _, hd⟩ := (k1.step s2).tuple s2.gh
    obtain ⟨w, e1, d⟩ := atI_dp hd hz
    exact ⟨p, vs, i, w, rfl, k2.int, hq, e1, q w G2 H2 (s1.trans s2) d⟩)
theorem ev_ixS {i : Int} {w : Str} {k : Nat} (ha : EvW X a Γ (.str w)) (hb : EvW X b Γ (.int i)) (hz : atI w.cps.toList i = some k) (hl : w.length ≤ sizeLine) (hs : PlainIx b := by exact fun _ _ => rfl) : EvD X (.Subscript a b pos) Γ (.str ⟨#[k]⟩) := fun B G H σ E Q q =>
  w_pe (pe_ix ix_str pe_w pe_w hs) (ha B G H σ E _ fun v G1 H1 s1 k1 => hb B G1 H1 σ (E.step s1) _ fun u G2 H2 s2 k2 =>
    ⟨w, i, k, k1.str, k2.int, hl, hz, q _ G2 H2 (s1.trans s2) (.str _)⟩)
/-- a slice's part -/
def EvO (X : Cx) (e : Option Expr) (Γ : List Sl) (o : Option Int) : Prop := match e, o with
  | none, none => True
  | some e, some i => EvW X e Γ (.int i)
  | _, _ => False
def wO (X : Cx) (e : Option Expr) : TO := fun σ H Q => ∀ (pins : List (Addr × Obj)) (s : Shared), Inv X pins σ H s → wpAny (model X.prog X.w) X.A (evalPart e X.env) (fun u s' => ∃ o H', Inv X pins σ H' s' ∧ IsPart u o ∧ Q o H') X.xe s
theorem po_w {o : Option Expr} : PO X o (wO X o) := ⟨fun pins s _ _ _ I h => h pins s I⟩
theorem wO_ev {eo : Option Expr} {o : Option Int} (h : EvO X eo Γ o) {B : Bs} {G H : Hp} {σ : L2.St} (E : Env X.K B G H σ Γ) {Q : Option Int → Hp → Prop} (q : ∀ G' H', Stp G H G' H' → Q o H') : wO X eo σ H Q := fun pins s I => by
  cases eo with
  | none =>
    cases o with
    | none => exact po_none.run pins s σ H Q I (q G H (.refl E.gh))
    | some i => exact h.elim
  | some e =>
    cases o with
    | none => exact h.elim
    | some i => exact (po_some pe_w).run pins s σ H Q I (h B G H σ E _ fun v G1 H1 s1 k1 => ⟨i, k1.int, q G1 H1 s1⟩)
def cutL {α : Type} (xs : List α) (lo hi : Option Int) : List α := (xs.drop (HT.sIx xs.length 0 lo)).take (HT.sIx xs.length xs.length hi - HT.sIx xs.length 0 lo)
theorem cut_dp {K : Frg} {G : Hp} {vs : List V} {lo hi : Option Int} (h : DtAll K G vs xs) : DtAll K G (cutV vs lo hi) (cutL xs lo hi) := by
  unfold cutV cutL
  rw [h.len]
  exact (h.drop _).take _
theorem ev_slL {lo hi : Option Expr} {l u : Option Int} (ha : EvW X a Γ (.list xs)) (hl : EvO X lo Γ l) (hu : EvO X hi Γ u) : EvD X (.Subscript a (.Slice lo hi none p2) pos) Γ (.list (cutL xs l u)) := fun B G H σ E Q q =>
  w_pe (pe_slice sl_list pe_w po_w po_w) (ha B G H σ E _ fun v G1 H1 s1 k1 => wO_ev hl (E.step s1) fun G2 H2 s2 => wO_ev hu ((E.step s1).step s2) fun G3 H3 s3 => by
    obtain ⟨p, vs, rfl, hq, hd⟩ := ((k1.step s2).step s3).list s3.gh
    exact ⟨p, vs, rfl, hq, fun p hp => q _ (upd G3 p _) _ (((s1.trans s2).trans s3).trans (Stp.lay s3.gh hp)) (.lst (.of upd_same) (dp_lay (s3.gh.free hp) (cut_dp hd)))⟩)
theorem ev_slT {lo hi : Option Expr} {l u : Option Int} (ha : EvW X a Γ (.tuple xs)) (hl : EvO X lo Γ l) (hu : EvO X hi Γ u) (hw : ¬ (HT.sIx xs.length 0 l = 0 ∧ HT.sIx xs.length xs.length u = xs.length)) : EvD X (.Subscript a (.Slice lo hi none p2) pos) Γ (.tuple (cutL xs l u)) := fun B G H σ E Q q =>
  w_pe (pe_slice sl_tup pe_w po_w po_w) (ha B G H σ E _ fun v G1 H1 s1 k1 => wO_ev hl (E.step s1) fun G2 H2 s2 => wO_ev hu ((E.step s1).step s2) fun G3 H3 s3 => by
    obtain ⟨p, vs, rfl, hq, _, hd⟩ := ((k1.step s2).step s3).tuple s3.gh
    exact ⟨p, vs, rfl, hq, by rw [hd.len]; exact hw, fun p hp => q _ (upd G3 p _) _ (((s1.trans s2).trans s3).trans (Stp.lay s3.gh hp)) (.tup (.of upd_same) (dp_lay (s3.gh.free hp) (cut_dp hd)))⟩)
theorem ev_slS {lo hi : Option Expr} {l u : Option Int} {w : Str} (ha : EvW X a Γ (.str w)) (hl : EvO X lo Γ l) (hu : EvO X hi Γ u) (hz : w.length ≤ sizeLine) : EvD X (.Subscript a (.Slice lo hi none p2) pos) Γ (.str (cutS w l u)) := fun B G H σ E Q q =>
  w_pe (pe_slice sl_str pe_w po_w po_w) (ha B G H σ E _ fun v G1 H1 s1 k1 => wO_ev hl (E.step s1) fun G2 H2 s2 => wO_ev hu ((E.step s1).step s2) fun G3 H3 s3 =>
    ⟨w, k1.str, hz, q _ G3 H3 ((s1.trans s2).trans s3) (.str _)⟩)
/-- xs[::-1] -/
theorem ev_rev {k : Nat} {q1 q2 q3 : Pos} (ha : EvW X a Γ (.list xs)) : EvD X (.Subscript a (.Slice none none (some (.UnaryOp .USub (.Constant (.int 1) k q1) q2)) q3) pos) Γ (.list xs.reverse) := fun B G H σ E Q q =>
  w_pe (pe_revL pe_w) (ha B G H σ E _ fun v G1 H1 s1 k1 => by
    obtain ⟨p, vs, rfl, hq, hd⟩ := k1.list s1.gh
    exact ⟨p, vs, rfl, hq, fun p hp => q _ (upd G1 p _) _ (s1.trans (Stp.lay s1.gh hp)) (.lst (.of upd_same) (dp_lay (s1.gh.free hp) hd.reverse))⟩)
/-! ### more operators -/
theorem dtAll_rep {K : Frg} {G : Hp} {vs : List V} (h : DtAll K G vs xs) : ∀ n : Nat, DtAll K G (List.replicate n vs).flatten (List.replicate n xs).flatten
  | 0 => .nil
  | n + 1 => by
    rw [List.replicate_succ, List.replicate_succ, List.flatten_cons, List.flatten_cons]
    exact h.append (dtAll_rep h n)
theorem Dt.list {K : Frg} {G : Hp} {v : V} (h : Dt K G v (.list xs)) : ∃ p vs, v = .ref p ∧ SqL K G p vs ∧ DtAll K G vs xs := by
  cases h with
  | lst hs ha => exact ⟨_, _, rfl, hs, ha⟩
theorem Dt.tuple {K : Frg} {G : Hp} {v : V} (h : Dt K G v (.tuple xs)) : ∃ p vs, v = .ref p ∧ SqT K G p vs ∧ DtAll K G vs xs := by
  cases h with
  | tup hs ha => exact ⟨_, _, rfl, hs, ha⟩
/-- xs + ys, lists: any readable ones -/
def rCatL (K : Frg) : R2 := fun x y H Q => ∃ a b xs ys, x = .ref a ∧ y = .ref b ∧ SqL K H a xs ∧ SqL K H b ys ∧ xs.length + ys.length ≤ sizeLine ∧ ∀ p, H p = none → Q (.ref p) (upd H p (.lst (xs ++ ys)))
theorem op_catL : OpR X (binaryOp .Add) (rCatL X.K) := by
  intro pins s σ H x y v u Q I rx ry h
  obtain ⟨a, b, xs, ys, rfl, rfl, ha, hb, hz, q⟩ := h
  cases rx
  cases ry
  obtain ⟨i1, r1, p1, z1⟩ := I.list ha
  obtain ⟨i2, r2, p2, z2⟩ := I.list hb
  obtain ⟨⟨c1, d1, t1, s1⟩, g1, e1, n1, f1⟩ := p1.isList
  obtain ⟨⟨c2, d2, t2, s2⟩, g2, e2, n2, f2⟩ := p2.isList
  simp only at e1 f1 e2 f2
  subst e1 f1 e2 f2
  have hz' : i1.length + i2.length ≤ sizeLine := by rw [← r1.length, ← r2.length]; exact hz
  refine PySem.concat_meets ⟨_, g1, rfl⟩ ⟨_, g2, rfl⟩ PySem.noFill_list_add PySem.seq_list_add PySem.F.slot_list_add PySem.F.entry_list_add (PySem.F.args_list_add_2 _ _) (PyProof.Rows.list_addW a b i1.toArray i2.toArray n1 n2 d1 d2 s1 s2 (by simpa using hz')) ⟨g1, g2, ?_⟩
  rw [show i1.toArray ++ i2.toArray = (i1 ++ i2).toArray by simp]
  exact ⟨.ref _, _, I.lnew (t' := s.toks) (r1.append r2) (by rw [List.length_append]; omega), rfl, q _ I.fresh⟩
theorem ev_catL {ys : List D} (ha : EvW X a Γ (.list xs)) (hb : EvW X b Γ (.list ys)) (hl : xs.length + ys.length ≤ sizeLine) : EvD X (.BinOp a .Add b pos) Γ (.list (xs ++ ys)) := fun B G H σ E Q q =>
  w_pe (pe_op op_catL pe_w pe_w) (ha B G H σ E _ fun v G1 H1 s1 k1 => hb B G1 H1 σ (E.step s1) _ fun u G2 H2 s2 k2 => by
    obtain ⟨p, vs, rfl, hp, hd⟩ := (k1.step s2).list s2.gh
    obtain ⟨p', ws, rfl, hp', hd'⟩ := k2.list s2.gh
    exact ⟨p, p', vs, ws, rfl, rfl, hp, hp', by rw [hd.len, hd'.len]; exact hl, fun r hr => q _ (upd G2 r _) _ ((s1.trans s2).trans (Stp.lay s2.gh hr)) (.lst (.of upd_same) (dp_lay (s2.gh.free hr) (hd.append hd')))⟩)
/-- [..] * k -/
theorem ev_repL {k : Int} (ha : EvA X es Γ xs) (hb : EvW X b Γ (.int k)) (h0 : 0 ≤ k) (h1 : k < 2 ^ 63) (hl : xs.length * k.toNat ≤ sizeLine) (hn : es.length ≤ 1000 := by decide) : EvD X (.BinOp (.List es p2) .Mult b pos) Γ (.list (List.replicate k.toNat xs).flatten) := fun B G H σ E Q q =>
  w_pe (pe_op op_rep (pe_lst pa_w) pe_w) (ha.2 B G H σ E _ fun vs G1 H1 s1 k1 => ⟨by rw [k1.len, ha.1]; exact Nat.le_trans hn (by decide), fun p hp => hb B (upd G1 p (.lst vs)) _ σ (E.step (s1.trans (Stp.lay s1.gh hp))) _ fun u G2 H2 s2 k2 => by
    have e := s2.gh _ _ (s2.g p (.lst vs) upd_same)
    have d := dtAll_mono s2.g _ _ (dp_lay (o := .lst vs) (s1.gh.free hp) k1)
    exact ⟨p, k, vs, rfl, k2.int, e, by omega, h1, by rw [d.len]; exact hl, fun r hr => q _ (upd G2 r _) _ (((s1.trans (Stp.lay s1.gh hp)).trans s2).trans (Stp.lay s2.gh hr)) (.lst (.of upd_same) (dp_lay (s2.gh.free hr) (dtAll_rep d _)))⟩⟩)
/-- t + u, tuples -/
theorem ev_catT {ys : List D} (ha : EvD X a Γ (.tuple xs)) (hb : EvD X b Γ (.tuple ys)) (h0 : xs ≠ []) (hl : xs.length + ys.length ≤ sizeLine) : EvD X (.BinOp a .Add b pos) Γ (.tuple (xs ++ ys)) := fun B G H σ E Q q =>
  w_pe (pe_op op_catT pe_w pe_w) (ha B G H σ E _ fun v G1 H1 s1 k1 => hb B G1 H1 σ (E.step s1) _ fun u G2 H2 s2 k2 => by
    obtain ⟨p, vs, rfl, hp, hd⟩ := (dt_mono s2.g _ _ k1).tuple
    obtain ⟨p', ws, rfl, hp', hd'⟩ := k2.tuple
    refine ⟨p, p', vs, ws, rfl, rfl, sqT_mono s2.gh hp, sqT_mono s2.gh hp', fun z => h0 ?_, by rw [hd.len, hd'.len]; exact hl, fun z => ?_, fun _ r hr => q _ (upd G2 r _) _ ((s1.trans s2).trans (Stp.lay s2.gh hr)) (.tup (.of upd_same) (dp_lay (s2.gh.free hr) (hd.append hd')))⟩
    · have e := hd.len; rw [z] at e; exact List.eq_nil_of_length_eq_zero e.symm
    · have e := hd'.len; rw [z] at e
      have e2 : ys = [] := List.eq_nil_of_length_eq_zero e.symm
      rw [e2, List.append_nil] at q
      exact q _ G2 H2 (s1.trans s2) (.tup hp hd))

/-! ### calls of built-ins -/
def CalD (X : Cx) (f : Value) (xs : List D) (z : D) : Prop := ∃ r, CallR X f r ∧ ∀ (G H : Hp) (vs : List V) (Q : VK), Same G H → WkAll X.K G H vs xs → (∀ w G' H', Stp G H G' H' → Dt X.K G' w z → Q w H') → r vs H Q
theorem ev_callB {n : Str} {id : String} {p : Pos} (hc : CalD X (.builtin id) xs z) (hm : X.mg n = none) (hv : bootBuiltins n = some (.builtin id)) (hg : Gl X n) (ha : EvB X (e :: es) Γ xs) (hn : n ≠ "__name__" := by decide) (hdb : (n == ("__debug__" : Str)) = false := by decide)
    (he : starEach (e :: es) X.env = (false, eval e X.env) :: starEach es X.env := by rfl) (hpl : (backTo pos (starEach es X.env)).any (·.1) = false := by rfl) : EvD X (.Call (.Name n p) (e :: es) [] pos) Γ z := fun B G H σ E Q q => by
  obtain ⟨r, h1, h2⟩ := hc
  exact w_pe (pe_callB h1 hg hm hv pa_w hn hdb he hpl) (ha B G H σ E _ fun vs G1 H1 s1 k1 => h2 G1 H1 vs _ s1.gh k1 fun w G2 H2 s2 d => q w G2 H2 (s1.trans s2) d)
theorem ev_callTy {n : Str} {T : String} {p : Pos} (hc : CalD X (.type T) xs z) (hm : X.mg n = none) (hv : bootBuiltins n = some (.type T)) (hg : Gl X n) (ha : EvB X (e :: es) Γ xs) (hn : n ≠ "__name__" := by decide) (hdb : (n == ("__debug__" : Str)) = false := by decide)
    (he : starEach (e :: es) X.env = (false, eval e X.env) :: starEach es X.env := by rfl) (hpl : (backTo pos (starEach es X.env)).any (·.1) = false := by rfl) : EvD X (.Call (.Name n p) (e :: es) [] pos) Γ z := fun B G H σ E Q q => by
  obtain ⟨r, h1, h2⟩ := hc
  exact w_pe (pe_callTy h1 hg hm hv pa_w hn hdb he hpl) (ha B G H σ E _ fun vs G1 H1 s1 k1 => h2 G1 H1 vs _ s1.gh k1 fun w G2 H2 s2 d => q w G2 H2 (s1.trans s2) d)
theorem wk1 {K : Frg} {G H : Hp} {vs : List V} (h : WkAll K G H vs [x]) : ∃ v, vs = [v] ∧ Wk K G H v x := by
  cases h with
  | cons h1 h2 => cases h2; exact ⟨_, rfl, h1⟩
theorem wk2 {K : Frg} {G H : Hp} {vs : List V} (h : WkAll K G H vs [x, y]) : ∃ v u, vs = [v, u] ∧ Wk K G H v x ∧ Wk K G H u y := by
  cases h with
  | cons h1 h2 =>
    obtain ⟨u, rfl, h3⟩ := wk1 h2
    exact ⟨_, u, rfl, h1, h3⟩
theorem DtAll.ints {K : Frg} {G : Hp} : ∀ {ns : List Int} {vs : List V}, DtAll K G vs (ns.map PyData.int) → vs = ns.map V.int
  | [], _, h => by cases h; rfl
  | n :: ns, _, h => by
    cases h with
    | cons h1 h2 => cases h1; rw [DtAll.ints h2]; rfl
theorem DtAll.ofInts {K : Frg} {G : Hp} : ∀ (ns : List Int), DtAll K G (ns.map V.int) (ns.map PyData.int)
  | [] => .nil
  | n :: ns => .cons (.int n) (DtAll.ofInts ns)
theorem DtAll.bools {K : Frg} {G : Hp} : ∀ {ns : List Bool} {vs : List V}, DtAll K G vs (ns.map PyData.bool) → vs = ns.map V.bl
  | [], _, h => by cases h; rfl
  | n :: ns, _, h => by
    cases h with
    | cons h1 h2 => cases h1; rw [DtAll.bools h2]; rfl
theorem DtAll.strs {K : Frg} {G : Hp} : ∀ {ns : List Str} {vs : List V}, DtAll K G vs (ns.map PyData.str) → vs = ns.map V.str
  | [], _, h => by cases h; rfl
  | n :: ns, _, h => by
    cases h with
    | cons h1 h2 => cases h1; rw [DtAll.strs h2]; rfl
theorem DtAll.ofStrs {K : Frg} {G : Hp} : ∀ (ns : List Str), DtAll K G (ns.map V.str) (ns.map PyData.str)
  | [] => .nil
  | n :: ns => .cons (.str n) (DtAll.ofStrs ns)
theorem cal_lenL : CalD X (.builtin "len") [.list xs] (.int xs.length) := ⟨_, call_len_seq, fun G H vs Q e h q => by
  obtain ⟨v, rfl, kk⟩ := wk1 h
  obtain ⟨p, ws, rfl, hq, hd⟩ := kk.list e
  exact ⟨p, ws, rfl, .inl hq, by rw [hd.len]; exact q _ G H (.refl e) (.int _)⟩⟩
theorem cal_lenT : CalD X (.builtin "len") [.tuple xs] (.int xs.length) := ⟨_, call_len_seq, fun G H vs Q e h q => by
  obtain ⟨v, rfl, kk⟩ := wk1 h
  obtain ⟨p, ws, rfl, hq, _, hd⟩ := kk.tuple e
  exact ⟨p, ws, rfl, .inr hq, by rw [hd.len]; exact q _ G H (.refl e) (.int _)⟩⟩
theorem cal_lenS {w : Str} (hl : w.length ≤ sizeLine) : CalD X (.builtin "len") [.str w] (.int w.length) := ⟨_, call_len_str, fun G H vs Q e h q => by
  obtain ⟨v, rfl, kk⟩ := wk1 h
  exact ⟨w, by rw [kk.str], hl, q _ G H (.refl e) (.int _)⟩⟩
theorem cal_abs {i : Int} : CalD X (.builtin "abs") [.int i] (.int (if i < 0 then -i else i)) := ⟨_, call_abs, fun G H vs Q e h q => by
  obtain ⟨v, rfl, kk⟩ := wk1 h
  exact ⟨i, by rw [kk.int], q _ G H (.refl e) (.int _)⟩⟩
theorem cal_max2 {i j : Int} (hc : X.calm = true) : CalD X (.builtin "max") [.int i, .int j] (.int (max i j)) := ⟨_, call_max2 hc, fun G H vs Q e h q => by
  obtain ⟨v, u, rfl, kk, kk'⟩ := wk2 h
  refine ⟨i, j, by rw [kk.int, kk'.int], ?_⟩
  rw [show (if j > i then j else i) = max i j by rw [Int.max_def]; split <;> split <;> omega]
  exact q _ G H (.refl e) (.int _)⟩
theorem cal_min2 {i j : Int} (hc : X.calm = true) : CalD X (.builtin "min") [.int i, .int j] (.int (min i j)) := ⟨_, call_min2 hc, fun G H vs Q e h q => by
  obtain ⟨v, u, rfl, kk, kk'⟩ := wk2 h
  refine ⟨i, j, by rw [kk.int, kk'.int], ?_⟩
  rw [show (if j < i then j else i) = min i j by rw [Int.min_def]; split <;> split <;> omega]
  exact q _ G H (.refl e) (.int _)⟩
theorem cal_sum {ns : List Int} (hc : X.calm = true) : CalD X (.builtin "sum") [.list (ns.map .int)] (.int ns.sum) := ⟨_, cr_sum hc, fun G H vs Q e h q => by
  obtain ⟨v, rfl, kk⟩ := wk1 h
  obtain ⟨p, ws, rfl, hq, hd⟩ := kk.list e
  rw [hd.ints] at hq
  exact ⟨p, ns, rfl, hq, q _ G H (.refl e) (.int _)⟩⟩
/-- the greatest of some, the least of some -/
def maxL : List Int → Int
  | [] => 0
  | [a] => a
  | a :: b :: r => max a (maxL (b :: r))
def minL : List Int → Int
  | [] => 0
  | [a] => a
  | a :: b :: r => min a (minL (b :: r))
theorem maxL_mem : ∀ {ns : List Int}, 0 < ns.length → maxL ns ∈ ns ∧ ∀ y, y ∈ ns → y ≤ maxL ns
  | [a], _ => ⟨by simp [maxL], fun y hy => by simp at hy; subst hy; exact Int.le_refl _⟩
  | a :: b :: r, _ => by
    obtain ⟨h1, h2⟩ := maxL_mem (ns := b :: r) (by simp)
    refine ⟨?_, fun y hy => ?_⟩
    · show max a (maxL (b :: r)) ∈ a :: b :: r
      rw [Int.max_def]
      split
      · exact List.mem_cons_of_mem _ h1
      · exact List.mem_cons_self
    · show y ≤ max a (maxL (b :: r))
      rcases List.mem_cons.mp hy with e | e
      · subst e; exact Int.le_max_left _ _
      · exact Int.le_trans (h2 y e) (Int.le_max_right _ _)
theorem minL_mem : ∀ {ns : List Int}, 0 < ns.length → minL ns ∈ ns ∧ ∀ y, y ∈ ns → minL ns ≤ y
  | [a], _ => ⟨by simp [minL], fun y hy => by simp at hy; subst hy; exact Int.le_refl _⟩
  | a :: b :: r, _ => by
    obtain ⟨h1, h2⟩ := minL_mem (ns := b :: r) (by simp)
    refine ⟨?_, fun y hy => ?_⟩
    · show min a (minL (b :: r)) ∈ a :: b :: r
      rw [Int.min_def]
      split
      · exact List.mem_cons_self
      · exact List.mem_cons_of_mem _ h1
    · show min a (minL (b :: r)) ≤ y
      rcases List.mem_cons.mp hy with e | e
      · subst e; exact Int.min_le_left _ _
      · exact Int.le_trans (Int.min_le_right _ _) (h2 y e)
theorem cal_maxL {ns : List Int} (hc : X.calm = true) (h0 : 0 < ns.length) : CalD X (.builtin "max") [.list (ns.map .int)] (.int (maxL ns)) := ⟨_, cr_max hc, fun G H vs Q e h q => by
  obtain ⟨v, rfl, kk⟩ := wk1 h
  obtain ⟨p, ws, rfl, hq, hd⟩ := kk.list e
  rw [hd.ints] at hq
  refine ⟨p, ns, rfl, hq, h0, fun m hm hy => ?_⟩
  obtain ⟨h1, h2⟩ := maxL_mem h0
  rw [show m = maxL ns from Int.le_antisymm (h2 m hm) (hy _ h1)]
  exact q _ G H (.refl e) (.int _)⟩
theorem cal_minL {ns : List Int} (hc : X.calm = true) (h0 : 0 < ns.length) : CalD X (.builtin "min") [.list (ns.map .int)] (.int (minL ns)) := ⟨_, cr_min hc, fun G H vs Q e h q => by
  obtain ⟨v, rfl, kk⟩ := wk1 h
  obtain ⟨p, ws, rfl, hq, hd⟩ := kk.list e
  rw [hd.ints] at hq
  refine ⟨p, ns, rfl, hq, h0, fun m hm hy => ?_⟩
  obtain ⟨h1, h2⟩ := minL_mem h0
  rw [show m = minL ns from Int.le_antisymm (hy _ h1) (h2 m hm)]
  exact q _ G H (.refl e) (.int _)⟩
theorem cal_all {bs : List Bool} (hc : X.calm = true) : CalD X (.builtin "all") [.list (bs.map .bool)] (.bool (bs.all id)) := ⟨_, cr_all hc, fun G H vs Q e h q => by
  obtain ⟨v, rfl, kk⟩ := wk1 h
  obtain ⟨p, ws, rfl, hq, hd⟩ := kk.list e
  rw [hd.bools] at hq
  exact ⟨p, bs, rfl, hq, q _ G H (.refl e) (.bl _)⟩⟩
/-- sorted of ints: what is left is any sorted arrangement -/
def insI (a : Int) : List Int → List Int
  | [] => [a]
  | b :: r => if a ≤ b then a :: b :: r else b :: insI a r
def sortI : List Int → List Int
  | [] => []
  | a :: r => insI a (sortI r)
theorem insI_perm (a : Int) : ∀ l, (insI a l).Perm (a :: l)
  | [] => .refl _
  | b :: r => by
    unfold insI
    split
    · exact .refl _
    · exact ((insI_perm a r).cons b).trans (.swap a b r)
theorem sortI_perm : ∀ l, (sortI l).Perm l
  | [] => .refl _
  | a :: r => (insI_perm a (sortI r)).trans ((sortI_perm r).cons a)
theorem insI_pw (a : Int) : ∀ l, l.Pairwise (· ≤ ·) → (insI a l).Pairwise (· ≤ ·)
  | [], _ => by simp [insI]
  | b :: r, h => by
    unfold insI
    split
    · rename_i hab
      refine List.pairwise_cons.mpr ⟨fun y hy => ?_, h⟩
      rcases List.mem_cons.mp hy with e | e
      · subst e; exact hab
      · exact Int.le_trans hab ((List.pairwise_cons.mp h).1 y e)
    · rename_i hab
      refine List.pairwise_cons.mpr ⟨fun y hy => ?_, insI_pw a r (List.pairwise_cons.mp h).2⟩
      rcases List.mem_cons.mp ((insI_perm a r).mem_iff.mp hy) with e | e
      · subst e; omega
      · exact (List.pairwise_cons.mp h).1 y e
theorem sortI_pw : ∀ l, (sortI l).Pairwise (· ≤ ·)
  | [] => .nil
  | a :: r => insI_pw a _ (sortI_pw r)
theorem sorted_unique : ∀ {l l' : List Int}, l.Perm l' → l.Pairwise (· ≤ ·) → l'.Pairwise (· ≤ ·) → l = l'
  | [], l', p, _, _ => (List.nil_perm.mp p).symm
  | a :: r, [], p, _, _ => by have := p.length_eq; simp at this
  | a :: r, b :: r', p, h, h' => by
    have h1 := (List.pairwise_cons.mp h).1
    have h2 := (List.pairwise_cons.mp h').1
    have e : a = b := by
      have m1 : a ∈ b :: r' := p.mem_iff.mp List.mem_cons_self
      have m2 : b ∈ a :: r := p.mem_iff.mpr List.mem_cons_self
      rcases List.mem_cons.mp m1 with q | q
      · exact q
      · rcases List.mem_cons.mp m2 with z | z
        · exact z.symm
        · exact Int.le_antisymm (h1 b z) (h2 a q)
    subst e
    rw [sorted_unique (List.perm_cons a |>.mp p) (List.pairwise_cons.mp h).2 (List.pairwise_cons.mp h').2]
theorem cal_sorted {ns : List Int} : CalD X (.builtin "sorted") [.list (ns.map .int)] (.list ((sortI ns).map .int)) := ⟨_, cr_sortedI, fun G H vs Q e h q => by
  obtain ⟨v, rfl, kk⟩ := wk1 h
  obtain ⟨p, ws, rfl, hq, hd⟩ := kk.list e
  rw [hd.ints] at hq
  refine ⟨p, ns, rfl, hq, fun ns' p pm pw hp => ?_⟩
  rw [sorted_unique (pm.trans (sortI_perm ns).symm) pw (sortI_pw ns)]
  exact q _ (upd G p _) _ (Stp.lay e hp) (.lst (.of upd_same) (dp_lay (e.free hp) (DtAll.ofInts _)))⟩
theorem cal_intB {k : Bool} : CalD X (.type "int") [.bool k] (.int (if k then 1 else 0)) := ⟨_, call_int1, fun G H vs Q e h q => by
  obtain ⟨v, rfl, kk⟩ := wk1 h
  exact .inr ⟨k, by rw [kk.bool], q _ G H (.refl e) (.int _)⟩⟩
theorem cal_intS {w : Str} {n : Int} (hn : PySem.intText? w = some n) (hl : w.length ≤ 640) : CalD X (.type "int") [.str w] (.int n) := ⟨_, call_int_str, fun G H vs Q e h q => by
  obtain ⟨v, rfl, kk⟩ := wk1 h
  exact ⟨w, n, by rw [kk.str], hn, hl, q _ G H (.refl e) (.int _)⟩⟩
theorem cal_strI {i : Int} (hb : i.natAbs.log2 < 1920) : CalD X (.type "str") [.int i] (.str (toString i)) := ⟨_, call_str_int, fun G H vs Q e h q => by
  obtain ⟨v, rfl, kk⟩ := wk1 h
  exact ⟨i, by rw [kk.int], hb, q _ G H (.refl e) (.str _)⟩⟩
theorem cal_listL : CalD X (.type "list") [.list xs] (.list xs) := ⟨_, call_list_of, fun G H vs Q e h q => by
  obtain ⟨v, rfl, kk⟩ := wk1 h
  obtain ⟨p, ws, rfl, hq, hd⟩ := kk.list e
  exact ⟨p, ws, rfl, .inl hq, fun r hr => q _ (upd G r _) _ (Stp.lay e hr) (.lst (.of upd_same) (dp_lay (e.free hr) hd))⟩⟩
theorem cal_listT : CalD X (.type "list") [.tuple xs] (.list xs) := ⟨_, call_list_of, fun G H vs Q e h q => by
  obtain ⟨v, rfl, kk⟩ := wk1 h
  obtain ⟨p, ws, rfl, hq, _, hd⟩ := kk.tuple e
  exact ⟨p, ws, rfl, .inr hq, fun r hr => q _ (upd G r _) _ (Stp.lay e hr) (.lst (.of upd_same) (dp_lay (e.free hr) hd))⟩⟩
theorem cal_tupL : CalD X (.type "tuple") [.list xs] (.tuple xs) := ⟨_, call_tuple_of, fun G H vs Q e h q => by
  obtain ⟨v, rfl, kk⟩ := wk1 h
  obtain ⟨p, ws, rfl, hq, hd⟩ := kk.list e
  exact ⟨p, ws, rfl, .inl ⟨hq, fun r hr => q _ (upd G r _) _ (Stp.lay e hr) (.tup (.of upd_same) (dp_lay (e.free hr) hd))⟩⟩⟩
/-! ### isinstance -/
def tyName : D → String
  | .none => "NoneType"
  | .bool _ => "bool"
  | .int _ => "int"
  | .str _ => "str"
  | .list _ => "list"
  | .tuple _ => "tuple"
  | .dict _ => "dict"
def isInt : D → Bool
  | .int _ => true
  | .bool _ => true
  | _ => false
def isBool : D → Bool
  | .bool _ => true
  | _ => false
def isStr : D → Bool
  | .str _ => true
  | _ => false
def isTup : D → Bool
  | .tuple _ => true
  | _ => false
def isLst : D → Bool
  | .list _ => true
  | _ => false
def isDct : D → Bool
  | .dict _ => true
  | _ => false
theorem kit_int : ∀ x : D, kitB (tyName x) "int" = some (isInt x) := fun x => by cases x <;> simp only [tyName, isInt] <;> decide +kernel
theorem kit_bool : ∀ x : D, kitB (tyName x) "bool" = some (isBool x) := fun x => by cases x <;> simp only [tyName, isBool] <;> decide +kernel
theorem kit_str : ∀ x : D, kitB (tyName x) "str" = some (isStr x) := fun x => by cases x <;> simp only [tyName, isStr] <;> decide +kernel
theorem kit_tup : ∀ x : D, kitB (tyName x) "tuple" = some (isTup x) := fun x => by cases x <;> simp only [tyName, isTup] <;> decide +kernel
theorem kit_lst : ∀ x : D, kitB (tyName x) "list" = some (isLst x) := fun x => by cases x <;> simp only [tyName, isLst] <;> decide +kernel
theorem kit_dct : ∀ x : D, kitB (tyName x) "dict" = some (isDct x) := fun x => by cases x <;> simp only [tyName, isDct] <;> decide +kernel
theorem wk_ty {K : Frg} {G H : Hp} {v : V} (h : Wk K G H v x) (e : Same G H) : TyX K H v (.type (tyName x)) := by
  cases x with
  | none => rw [h.none]; exact .base .non
  | bool b => rw [h.bool]; exact .base (.bl b)
  | int b => rw [h.int]; exact .base (.int b)
  | str b => rw [h.str]; exact .base (.str b)
  | list xs =>
    obtain ⟨p, vs, rfl, hq, _⟩ := h.list e
    rcases hq with (hq | ⟨o, hq⟩) | ⟨o, its, n, hk, hc, _⟩
    · exact .base (.lst hq)
    · exact .base (.frz hq)
    · exact .kList hk hc
  | tuple xs =>
    obtain ⟨p, vs, rfl, hq, _, _⟩ := h.tuple e
    rcases hq with (hq | ⟨o, hq⟩) | ⟨o, its, n, hk, hc, _⟩
    · exact .base (.tup hq)
    · exact .fTuple hq
    · exact .kTuple hk hc
  | dict kvs => exact h.dict.elim
theorem ev_isi {T : Str} {Tn : String} {f : D → Bool} {p q1 : Pos} (hk : ∀ x : D, kitB (tyName x) Tn = some (f x)) (hm : X.mg "isinstance" = none) (hmT : X.mg T = none) (hvT : bootBuiltins T = some (.type Tn)) (ha : EvW X e Γ x) (hg : Gl X "isinstance") (hgT : Gl X T)
    (hn : T ≠ "__name__" := by decide) (hdb : (T == ("__debug__" : Str)) = false := by decide) (he : starEach [e, .Name T q1] X.env = (false, eval e X.env) :: starEach [.Name T q1] X.env := by rfl) (hpl : (backTo pos (starEach [.Name T q1] X.env)).any (·.1) = false := by rfl) :
    EvD X (.Call (.Name "isinstance" p) [e, .Name T q1] [] pos) Γ (.bool (f x)) := fun B G H σ E Q q => by
  have hT : PE X (.Name T q1) (tC (.ty Tn)) := pe_bltn hgT hmT hvT rfl hn hdb
  refine w_pe (pe_callB call_isi hg hm (by decide +kernel) (pa_cons pe_w (pa_cons hT pa_nil) he) (by decide) (by decide) he hpl) (ha B G H σ E _ fun v G1 H1 s1 k1 => ?_)
  exact ⟨v, .ty Tn, _, _, f x, rfl, .ty Tn, wk_ty k1 s1.gh, kit_ty (hk x), q _ G1 H1 s1 (.bl _)⟩

/-! ### calls of defs -/
inductive Oc where
  | ret (x : D)
  | exc (n : Str)
/-- the object that a name of the module bears -/
def clsAt (mg : Str → Option Value) (n : Str) : Addr := match mg n with
  | some (.ref c) => c
  | _ => 0
/-- a def over data: it hands back what F tells, all else stays -/
def spD (K : Frg) (mg : Str → Option Value) (F : List D → Oc → Prop) : Sp := fun vs H Q E => ∃ (G : Hp) (xs : List D) (o : Oc), Same G H ∧ LamX.Tabs Tb.T H ∧ NoT G ∧ DtAll K G vs xs ∧ F xs o ∧
  match o with
  | .ret x => ∀ v G' H', Stp G H G' H' → Dt K G' v x → Q v H'
  | .exc n => ∀ G' H', Stp G H G' H' → E (.ref (clsAt mg n)) none H'
structure FG (P : Program) (w : World) (K : Frg) (mg : Str → Option Value) (base : Heap) (k : Nat) (n : Str) (m : Nat) (sp : Sp) : Prop where
  ex : ∃ (f : Addr) (fd : FuncData) (ps : List Str), ps.length = m ∧ mg n = some (.ref f) ∧ PySem.W.keepIn K (.ref f) = true ∧ Binds K fd ps [] ∧ FnOk P w K mg base (L2N.CX P w) k f fd ps sp
theorem passN {X : Cx} : Passes (L2N.CX X.prog X.w) X (fun _ _ _ => False) := fun _ _ _ _ _ _ _ ⟨_, _, _, _, _, _, _, _, _, _, _, _, z⟩ => z.elim
theorem ev_call {n : Str} {p : Pos} {k j m : Nat} {F : List D → Oc → Prop} (f : FG X.prog X.w X.K X.mg X.base k n m (spD X.K X.mg F)) (hr : Room j X.A) (hkj : k ≤ j) (hF : F xs (.ret z)) (ha : EvA X (e :: es) Γ xs) (hg : Gl X n) (hdb : (n == ("__debug__" : Str)) = false := by decide)
    (he : starEach (e :: es) X.env = (false, eval e X.env) :: starEach es X.env := by rfl) (hpl : (backTo pos (starEach es X.env)).any (·.1) = false := by rfl) : EvD X (.Call (.Name n p) (e :: es) [] pos) Γ z := fun B G H σ E Q q => by
  obtain ⟨a, fd, ps, hps, hm, hkp, hb, hf⟩ := f.ex
  refine w_pe (pe_call hf (hr.mono hkj) hg hm hkp hb .nil passN pa_w hdb he hpl) (ha.2 B G H σ E _ fun vs G1 H1 s1 k1 => ?_)
  rw [List.append_nil]
  exact ⟨G1, xs, .ret z, s1.gh, s1.h.t E.tab, s1.nt E.nt, k1, hF, fun v G2 H2 s2 d => q v G2 H2 (s1.trans s2) d⟩
end
end Wl

/-! W4: what is walked, targets, comprehensions; statements; defs. -/
namespace Wl
open PySem L2
variable [Tb]
section
variable {X : Cx} {Γ : List Sl} {e a b c : Expr} {es : List Expr} {x y z : D} {xs : List D} {pos p2 : Pos}
theorem ev_nameL {n : Str} {i : Nat} {p : Addr} (hN : X.N[i]? = some n) (h : Γ[i]? = some (.l p xs)) (hv : Vis X.env.scope n) (hd : (n == ("__debug__" : Str)) = false := by decide) (hcd : (n == ("__classdict__" : Str)) = false := by decide) : EvW X (.Name n pos) Γ (.list xs) := fun B G H σ E Q q => by
  obtain ⟨vs, e1, e2, _, d⟩ := E.get_l h
  exact w_pe (pe_var hN hv hd hcd) ⟨_, e1, q _ G H (.refl E.gh) (.inr ⟨p, vs, xs, rfl, rfl, .of e2, d⟩)⟩
theorem ev_nameRd {n : Str} {i : Nat} {p : Addr} (hN : X.N[i]? = some n) (h : Γ[i]? = some (.r (rdR p xs))) (hv : Vis X.env.scope n) (hd : (n == ("__debug__" : Str)) = false := by decide) (hcd : (n == ("__classdict__" : Str)) = false := by decide) : EvW X (.Name n pos) Γ (.list xs) := fun B G H σ E Q q => by
  obtain ⟨vs, e1, e2, d⟩ := E.get_rd h
  exact w_pe (pe_var hN hv hd hcd) ⟨_, e1, q _ G H (.refl E.gh) (.inr ⟨p, vs, xs, rfl, rfl, e2, d⟩)⟩

/-! ### what is walked -/
def SrcOk (K : Frg) (J : It) (xs : List D) (G1 : Hp) (ok : Hp → Prop) : Prop := ∃ (Gd : Hp → Prop) (Y : Nat → Hp → V → Hp → Prop), Walk J xs.length Gd Y ∧ (∀ H2, ok H2 → Gd H2) ∧
  ∀ (i : Nat) (G2 H2 : Hp) (v : V) (H3 : Hp), i < xs.length → Same G1 G2 → Same G2 H2 → ok H2 → Y i H2 v H3 → ∃ (G3 : Hp) (x : D), xs[i]? = some x ∧ Stp G2 H2 G3 H3 ∧ Dt K G3 v x
/-- tg walks over xs; fz: what is walked is frozen -/
def Src (X : Cx) (fz : Bool) (tg iter : Expr) (Γ : List Sl) (xs : List D) : Prop := ∃ wi : TI, PI X tg iter wi ∧ ∀ (B : Bs) (G H : Hp) (σ : L2.St), Env X.K B G H σ Γ → ∀ R : It → Hp → Prop,
  (∀ J G1 H1, Stp G H G1 H1 → SrcOk X.K J xs G1 (fun H2 => Same G1 H2 ∧ (fz = false → Keeps H1 H2)) → R J H1) → wi σ H R
variable {tg iter : Expr} {fz : Bool}
theorem Src.w (h : Src X true tg iter Γ xs) : Src X false tg iter Γ xs := by
  obtain ⟨wi, h1, h2⟩ := h
  refine ⟨wi, h1, fun B G H σ E R r => h2 B G H σ E R fun J G1 H1 s k => r J G1 H1 s ?_⟩
  obtain ⟨Gd, Y, w, o, f⟩ := k
  exact ⟨Gd, Y, w, fun H2 e => o H2 ⟨e.1, fun z => by cases z⟩, fun i G2 H2 v H3 hi e1 e2 e3 y => f i G2 H2 v H3 hi e1 e2 ⟨e3.1, fun z => by cases z⟩ y⟩
theorem src_list (h : EvD X iter Γ (.list xs)) : Src X true tg iter Γ xs := by
  refine ⟨_, pi_list pe_w, fun B G H σ E R r => h B G H σ E _ fun v G1 H1 s1 k1 => ?_⟩
  obtain ⟨p, vs, rfl, hp, hd⟩ := k1.list
  refine ⟨p, rfl, ⟨vs, s1.gh.seq hp⟩, r _ G1 H1 s1 ⟨_, _, by rw [← hd.len]; exact walk_list, fun H2 e => e.1.seq hp, fun i G2 H2 v H3 hi e1 e2 e3 y => ?_⟩⟩
  obtain ⟨rfl, hv⟩ := y
  obtain ⟨x, e4, d⟩ := hd.get' hv
  exact ⟨G2, x, e4, .refl e2, dt_mono e1 _ _ d⟩
theorem src_listW (h : EvW X iter Γ (.list xs)) : Src X false tg iter Γ xs := by
  refine ⟨_, pi_list pe_w, fun B G H σ E R r => h B G H σ E _ fun v G1 H1 s1 k1 => ?_⟩
  obtain ⟨p, vs, rfl, hp, hd⟩ := k1.list s1.gh
  refine ⟨p, rfl, ⟨vs, hp⟩, r _ G1 H1 s1 ⟨_, _, by rw [← hd.len]; exact walk_list, fun H2 e => (e.2 rfl).seq hp, fun i G2 H2 v H3 hi e1 e2 e3 y => ?_⟩⟩
  obtain ⟨rfl, hv⟩ := y
  obtain ⟨x, e4, d⟩ := hd.get' hv
  exact ⟨G2, x, e4, .refl e2, dt_mono e1 _ _ d⟩
theorem src_tup (h : EvD X iter Γ (.tuple xs)) : Src X true tg iter Γ xs := by
  refine ⟨_, pi_tup pe_w, fun B G H σ E R r => h B G H σ E _ fun v G1 H1 s1 k1 => ?_⟩
  obtain ⟨p, vs, rfl, hp, hd⟩ := k1.tuple
  refine ⟨p, rfl, ⟨vs, sqT_mono s1.gh hp⟩, r _ G1 H1 s1 ⟨_, _, by rw [← hd.len]; exact walk_tup, fun H2 e => sqT_mono e.1 hp, fun i G2 H2 v H3 hi e1 e2 e3 y => ?_⟩⟩
  obtain ⟨rfl, hv⟩ := y
  obtain ⟨x, e4, d⟩ := hd.get' hv
  exact ⟨G2, x, e4, .refl e2, dt_mono e1 _ _ d⟩
def rgD (lo : Int) (n : Nat) : List D := (List.range n).map fun k => .int (lo + (k : Nat))
theorem rgD_len (lo : Int) (n : Nat) : (rgD lo n).length = n := by unfold rgD; rw [List.length_map, List.length_range]
theorem rgD_at {lo : Int} {n i : Nat} (h : i < n) : (rgD lo n)[i]? = some (.int (lo + (i : Nat))) := by
  unfold rgD
  rw [List.getElem?_map, List.getElem?_range h]
  rfl
theorem src_rg {K : Frg} {lo : Int} {n : Nat} {G1 : Hp} {ok : Hp → Prop} : SrcOk K (Itr lo n) (rgD lo n) G1 ok := by
  refine ⟨fun _ => True, _, by rw [rgD_len]; exact walk_range, fun _ _ => True.intro, fun i G2 H2 v H3 hi e1 e2 e3 y => ?_⟩
  obtain ⟨rfl, rfl⟩ := y
  rw [rgD_len] at hi
  exact ⟨G2, _, rgD_at hi, .refl e2, .int _⟩
theorem src_range1 {n : Int} {p : Pos} (hm : X.mg "range" = none) (h : EvW X a Γ (.int n)) (hn : -(2 ^ 62) ≤ n ∧ n < 2 ^ 62) (hg : Gl X "range") (hs : starEach [a] X.env = [(false, eval a X.env)] := by rfl) : Src X true tg (.Call (.Name "range" p) [a] [] pos) Γ (rgD 0 n.toNat) := by
  refine ⟨_, pi_range1 hg hm (pa_cons pe_w pa_nil hs) hs, fun B G H σ E R r => h B G H σ E _ fun v G1 H1 s1 k1 => ?_⟩
  exact ⟨n, by rw [k1.int], hn.1, hn.2, r _ G1 H1 s1 src_rg⟩
theorem src_range2 {lo hi : Int} {p : Pos} (hm : X.mg "range" = none) (h : EvW X a Γ (.int lo)) (h2 : EvW X b Γ (.int hi)) (hn : -(2 ^ 62) ≤ lo ∧ lo < 2 ^ 62 ∧ -(2 ^ 62) ≤ hi ∧ hi < 2 ^ 62) (hg : Gl X "range") (hs : starEach [a, b] X.env = [(false, eval a X.env), (false, eval b X.env)] := by rfl)
    (hs2 : starEach [b] X.env = [(false, eval b X.env)] := by rfl) (hs3 : starEach [a, b] X.env = (false, eval a X.env) :: starEach [b] X.env := by rfl) : Src X true tg (.Call (.Name "range" p) [a, b] [] pos) Γ (rgD lo (hi - lo).toNat) := by
  refine ⟨_, pi_range2 hg hm (pa_cons pe_w (pa_cons pe_w pa_nil hs2) hs3) hs hs2, fun B G H σ E R r => h B G H σ E _ fun v G1 H1 s1 k1 => h2 B G1 H1 σ (E.step s1) _ fun u G2 H2 s2 k2 => ?_⟩
  exact ⟨lo, hi, by rw [k1.int, k2.int], hn, r _ G2 H2 (s1.trans s2) src_rg⟩
/-- range(lo, hi, st), n turns -/
def rgcD (lo st : Int) (n : Nat) : List D := (List.range n).map fun k => .int (lo + (k : Nat) * st)
theorem rgcD_len (lo st : Int) (n : Nat) : (rgcD lo st n).length = n := by unfold rgcD; rw [List.length_map, List.length_range]
theorem src_range3 {lo hi st : Int} {n : Nat} {p : Pos} (hm : X.mg "range" = none) (h : EvW X a Γ (.int lo)) (h2 : EvW X b Γ (.int hi)) (h3 : EvW X c Γ (.int st)) (hn : RgC lo hi st n) (hg : Gl X "range") (hs : starEach [a, b, c] X.env = (false, eval a X.env) :: starEach [b, c] X.env := by rfl)
    (hs2 : starEach [b, c] X.env = (false, eval b X.env) :: starEach [c] X.env := by rfl) (hs3 : starEach [c] X.env = (false, eval c X.env) :: starEach [] X.env := by rfl) (hpl : (backTo pos (starEach [b, c] X.env)).any (·.1) = false := by rfl) : Src X true tg (.Call (.Name "range" p) [a, b, c] [] pos) Γ (rgcD lo st n) := by
  refine ⟨_, pi_range3 hg hm (pa_cons pe_w (pa_cons pe_w (pa_cons pe_w pa_nil hs3) hs2) hs) hs hpl, fun B G H σ E R r => h B G H σ E _ fun v G1 H1 s1 k1 => h2 B G1 H1 σ (E.step s1) _ fun u G2 H2 s2 k2 => h3 B G2 H2 σ ((E.step s1).step s2) _ fun w G3 H3 s3 k3 => ?_⟩
  refine ⟨lo, hi, st, n, by rw [k1.int, k2.int, k3.int], hn, r _ G3 H3 ((s1.trans s2).trans s3) ?_⟩
  refine ⟨fun _ => True, _, by rw [rgcD_len]; exact walk_rangeC, fun _ _ => True.intro, fun i G2 H2 v H3 hi e1 e2 e3 y => ?_⟩
  obtain ⟨rfl, rfl⟩ := y
  rw [rgcD_len] at hi
  refine ⟨G2, _, ?_, .refl e2, .int _⟩
  unfold rgcD
  rw [List.getElem?_map, List.getElem?_range hi]
  rfl
def enumD (xs : List D) : List D := (xs.zipIdx).map fun p => .tuple [.int (p.2 : Nat), p.1]
theorem enumD_len : (enumD xs).length = xs.length := by unfold enumD; simp
theorem enumD_at {i : Nat} (h : xs[i]? = some x) : (enumD xs)[i]? = some (.tuple [.int (i : Nat), x]) := by
  unfold enumD
  rw [List.getElem?_map, List.getElem?_zipIdx, h]
  simp
theorem src_enumW {elts : List Expr} {kk : Nat} {tpos p : Pos} (hm : X.mg "enumerate" = none) (h : EvW X a Γ (.list xs)) (hg : Gl X "enumerate") (hs : starEach [a] X.env = [(false, eval a X.env)] := by rfl) : Src X false (.Tuple elts kk tpos) (.Call (.Name "enumerate" p) [a] [] pos) Γ (enumD xs) := by
  refine ⟨_, pi_enum hg hm (pa_cons pe_w pa_nil hs) hs, fun B G H σ E R r => h B G H σ E _ fun v G1 H1 s1 k1 => ?_⟩
  obtain ⟨p, vs, rfl, hp, hd⟩ := k1.list s1.gh
  refine ⟨p, vs, rfl, hp, r _ G1 H1 s1 ⟨_, _, by rw [enumD_len, ← hd.len]; exact walk_enum, fun H2 e => (e.2 rfl).seq hp, fun i G2 H2 v H3 hi e1 e2 e3 y => ?_⟩⟩
  obtain ⟨T, x, w, rfl, hT, rfl, hx, hw⟩ := y
  obtain ⟨z, e4, d⟩ := hd.get' hw
  cases hx
  exact ⟨upd G2 T _, _, enumD_at e4, Stp.lay e2 hT, .tup (.of upd_same) (dp_lay (e2.free hT) (.cons (.int _) (.one (dt_mono e1 _ _ d))))⟩
theorem src_enum {elts : List Expr} {kk : Nat} {tpos p : Pos} (hm : X.mg "enumerate" = none) (h : EvD X a Γ (.list xs)) (hg : Gl X "enumerate") (hs : starEach [a] X.env = [(false, eval a X.env)] := by rfl) : Src X true (.Tuple elts kk tpos) (.Call (.Name "enumerate" p) [a] [] pos) Γ (enumD xs) := by
  refine ⟨_, pi_enum hg hm (pa_cons pe_w pa_nil hs) hs, fun B G H σ E R r => h B G H σ E _ fun v G1 H1 s1 k1 => ?_⟩
  obtain ⟨p, vs, rfl, hp, hd⟩ := k1.list
  refine ⟨p, vs, rfl, s1.gh.seq hp, r _ G1 H1 s1 ⟨_, _, by rw [enumD_len, ← hd.len]; exact walk_enum, fun H2 e => e.1.seq hp, fun i G2 H2 v H3 hi e1 e2 e3 y => ?_⟩⟩
  obtain ⟨T, x, w, rfl, hT, rfl, hx, hw⟩ := y
  obtain ⟨z, e4, d⟩ := hd.get' hw
  cases hx
  exact ⟨upd G2 T _, _, enumD_at e4, Stp.lay e2 hT, .tup (.of upd_same) (dp_lay (e2.free hT) (.cons (.int _) (.one (dt_mono e1 _ _ d))))⟩
def zipD (xs ys : List D) : List D := (xs.zip ys).map fun p => .tuple [p.1, p.2]
theorem zipD_len {ys : List D} : (zipD xs ys).length = min xs.length ys.length := by unfold zipD; simp
theorem zipD_at {ys : List D} {i : Nat} (h : xs[i]? = some x) (h' : ys[i]? = some y) : (zipD xs ys)[i]? = some (.tuple [x, y]) := by
  unfold zipD
  rw [List.getElem?_map, List.getElem?_zip_eq_some (z := (x, y)) |>.mpr ⟨h, h'⟩]
  rfl
theorem src_zipW {elts : List Expr} {kk : Nat} {tpos p : Pos} {ys : List D} (hm : X.mg "zip" = none) (h : EvW X a Γ (.list xs)) (h' : EvW X b Γ (.list ys)) (hg : Gl X "zip") (hs : starEach [a, b] X.env = (false, eval a X.env) :: starEach [b] X.env := by rfl) (hs2 : starEach [b] X.env = (false, eval b X.env) :: starEach [] X.env := by rfl)
    (hpl : (backTo pos (starEach [b] X.env)).any (·.1) = false := by rfl) : Src X false (.Tuple elts kk tpos) (.Call (.Name "zip" p) [a, b] [] pos) Γ (zipD xs ys) := by
  refine ⟨_, pi_zip hg hm (pa_cons pe_w (pa_cons pe_w pa_nil hs2) hs) hs hpl, fun B G H σ E R r => h B G H σ E _ fun v G1 H1 s1 k1 => h' B G1 H1 σ (E.step s1) _ fun u G2 H2 s2 k2 => ?_⟩
  obtain ⟨p, vs, rfl, hp, hd⟩ := (k1.step s2).list s2.gh
  obtain ⟨p', vs', rfl, hp', hd'⟩ := k2.list s2.gh
  refine ⟨p, p', vs, vs', rfl, hp, hp', r _ G2 H2 (s1.trans s2) ⟨_, _, walk_zip (by rw [zipD_len, hd.len, hd'.len]), fun H2 e => ⟨(e.2 rfl).seq hp, (e.2 rfl).seq hp'⟩, fun i G3 H3 v H4 hi e1 e2 e3 y => ?_⟩⟩
  obtain ⟨T, x, w, rfl, hT, rfl, hx, hw⟩ := y
  obtain ⟨z, e4, d⟩ := hd.get' hx
  obtain ⟨z', e4', d'⟩ := hd'.get' hw
  exact ⟨upd G3 T _, _, zipD_at e4 e4', Stp.lay e2 hT, .tup (.of upd_same) (dp_lay (e2.free hT) (.cons (dt_mono e1 _ _ d) (.one (dt_mono e1 _ _ d'))))⟩
theorem src_zip {elts : List Expr} {kk : Nat} {tpos p : Pos} {ys : List D} (hm : X.mg "zip" = none) (h : EvD X a Γ (.list xs)) (h' : EvD X b Γ (.list ys)) (hg : Gl X "zip") (hs : starEach [a, b] X.env = (false, eval a X.env) :: starEach [b] X.env := by rfl) (hs2 : starEach [b] X.env = (false, eval b X.env) :: starEach [] X.env := by rfl)
    (hpl : (backTo pos (starEach [b] X.env)).any (·.1) = false := by rfl) : Src X true (.Tuple elts kk tpos) (.Call (.Name "zip" p) [a, b] [] pos) Γ (zipD xs ys) := by
  refine ⟨_, pi_zip hg hm (pa_cons pe_w (pa_cons pe_w pa_nil hs2) hs) hs hpl, fun B G H σ E R r => h B G H σ E _ fun v G1 H1 s1 k1 => h' B G1 H1 σ (E.step s1) _ fun u G2 H2 s2 k2 => ?_⟩
  obtain ⟨p, vs, rfl, hp, hd⟩ := (dt_mono s2.g _ _ k1).list
  obtain ⟨p', vs', rfl, hp', hd'⟩ := k2.list
  refine ⟨p, p', vs, vs', rfl, s2.gh.seq hp, s2.gh.seq hp', r _ G2 H2 (s1.trans s2) ⟨_, _, walk_zip (by rw [zipD_len, hd.len, hd'.len]), fun H2 e => ⟨e.1.seq hp, e.1.seq hp'⟩, fun i G3 H3 v H4 hi e1 e2 e3 y => ?_⟩⟩
  obtain ⟨T, x, w, rfl, hT, rfl, hx, hw⟩ := y
  obtain ⟨z, e4, d⟩ := hd.get' hx
  obtain ⟨z', e4', d'⟩ := hd'.get' hw
  exact ⟨upd G3 T _, _, zipD_at e4 e4', Stp.lay e2 hT, .tup (.of upd_same) (dp_lay (e2.free hT) (.cons (dt_mono e1 _ _ d) (.one (dt_mono e1 _ _ d'))))⟩
/-- a text, sign by sign -/
def strD (w : Str) : List D := w.cps.toList.map fun c => .str ⟨#[c]⟩
theorem src_str {w : Str} (h : EvW X iter Γ (.str w)) : Src X true tg iter Γ (strD w) := by
  refine ⟨_, pi_str pe_w, fun B G H σ E R r => h B G H σ E _ fun v G1 H1 s1 k1 => ?_⟩
  refine ⟨w, k1.str, r _ G1 H1 s1 ⟨_, _, by rw [show (strD w).length = w.cps.size by unfold strD; simp]; exact walk_str, fun H2 e => True.intro, fun i G2 H2 v H3 hi e1 e2 e3 y => ?_⟩⟩
  obtain ⟨rfl, c, hc, rfl⟩ := y
  refine ⟨G2, .str ⟨#[c]⟩, ?_, .refl e2, .str _⟩
  unfold strD
  rw [List.getElem?_map, Array.getElem?_toList, hc]
  rfl

/-! ### targets -/
def wG (X : Cx) (tg : Expr) : TG := fun v σ H Q => ∀ (pins : List (Addr × Obj)) (s : Shared) (u : Value), Inv X pins σ H s → RelV v u → wpAny (model X.prog X.w) X.A (assign tg X.env u) (fun _ s' => ∃ σ' H', Inv X pins σ' H' s' ∧ Q σ' H') X.xe s
theorem pg_w : PG X tg (wG X tg) := ⟨fun pins s σ H v u Q I r h => h pins s u I r⟩
theorem w_pg {g : TG} {v : V} {σ : L2.St} {H : Hp} {Q : L2.St → Hp → Prop} (h : PG X tg g) (q : g v σ H Q) : wG X tg v σ H Q := fun pins s u I r => h.run pins s σ H v u Q I r q
/-- x given to tg: the slots vs alone are changed -/
def TgD (X : Cx) (tg : Expr) (vs : List Nat) (x : D) (Γ Γ' : List Sl) : Prop := ∀ (B : Bs) (G H : Hp) (σ : L2.St) (v : V), Env X.K B G H σ Γ → Dt X.K G v x → ∀ Q : L2.St → Hp → Prop, (∀ σ', Env X.K B G H σ' Γ' → wipe σ' vs = wipe σ vs → Q σ' H) → wG X tg v σ H Q
theorem wipe_in {σ : L2.St} {i : Nat} {o : Option V} : ∀ {vs : List Nat}, i ∈ vs → wipe (σ.set i o) vs = wipe σ vs
  | v :: vs, h => by
    unfold wipe
    by_cases hv : i = v
    · subst hv
      by_cases hm : i ∈ vs
      · rw [wipe_in hm]
      · have key : ∀ (ws : List Nat), i ∉ ws → wipe (σ.set i o) ws = (wipe σ ws).set i o := by
          intro ws
          induction ws with
          | nil => intro _; rfl
          | cons w ws ih =>
            intro hw
            have h1 : ¬ w = i := fun z => hw (by simp [z])
            unfold wipe
            rw [ih fun z => hw (List.mem_cons_of_mem _ z), List.set_comm _ _ (fun z => h1 z.symm)]
        rw [key vs hm, List.set_set]
    · have hm : i ∈ vs := by
        rcases List.mem_cons.mp h with q | q
        · exact absurd q hv
        · exact q
      rw [wipe_in hm]
theorem wipe_sub {σ : L2.St} {vs : List Nat} : ∀ {ws : List Nat}, (∀ w, w ∈ ws → w ∈ vs) → wipe (wipe σ ws) vs = wipe σ vs
  | [], _ => rfl
  | w :: ws, h => by
    show wipe ((wipe σ ws).set w none) vs = _
    rw [wipe_in (h w List.mem_cons_self), wipe_sub fun z hz => h z (List.mem_cons_of_mem _ hz)]
theorem wipe_wipe (σ : L2.St) (vs : List Nat) : wipe (wipe σ vs) vs = wipe σ vs := wipe_sub fun _ h => h
theorem tg_name {n : Str} {i : Nat} {vs : List Nat} (hN : X.N.Nodup) (hi : X.N[i]? = some n) (hx : Loc X.env.scope n) (hm : i ∈ vs) (hf : X.fn n = true ∨ X.env.scope.names.lookup n = some .local) : TgD X (.Name n pos) vs x Γ (Γ.set i (.d x)) := fun B G H σ v E d Q q =>
  w_pg (pg_name hN hi hx hf) (q _ (E.set_d d i) (wipe_in hm))
def wGs (X : Cx) (ts : List Expr) : TGs := fun vs σ H Q => ∀ (pins : List (Addr × Obj)) (s : Shared) (us : List Value), Inv X pins σ H s → Vals vs us → wpAny (model X.prog X.w) X.A (assignInOrder ((assignEach ts X.env).map (·.2)) us) (fun _ s' => ∃ σ' H', Inv X pins σ' H' s' ∧ Q σ' H') X.xe s
theorem pgs_w {ts : List Expr} : PGs X ts (wGs X ts) := ⟨fun pins s σ H vs us Q I r h => h pins s us I r⟩
theorem w_pgs {ts : List Expr} {g : TGs} {vs : List V} {σ : L2.St} {H : Hp} {Q : L2.St → Hp → Prop} (h : PGs X ts g) (q : g vs σ H Q) : wGs X ts vs σ H Q := fun pins s us I r => h.run pins s σ H vs us Q I r q
def TgsD (X : Cx) (ts : List Expr) (ws : List Nat) (xs : List D) (Γ Γ' : List Sl) : Prop := ∀ (B : Bs) (G H : Hp) (σ : L2.St) (vs : List V), Env X.K B G H σ Γ → DtAll X.K G vs xs → ∀ Q : L2.St → Hp → Prop, (∀ σ', Env X.K B G H σ' Γ' → wipe σ' ws = wipe σ ws → Q σ' H) → wGs X ts vs σ H Q
theorem tgs_nil {ws : List Nat} : TgsD X [] ws [] Γ Γ := fun B G H σ vs E d Q q => by
  cases d
  exact w_pgs pgs_nil ⟨rfl, q σ E rfl⟩
theorem tgs_cons {ts : List Expr} {ws : List Nat} {Γ1 Γ2 : List Sl} (h : TgD X tg ws x Γ Γ1) (t : TgsD X ts ws xs Γ1 Γ2) (hs : (assignEach (tg :: ts) X.env).map (·.2) = assign tg X.env :: (assignEach ts X.env).map (·.2) := by rfl) : TgsD X (tg :: ts) ws (x :: xs) Γ Γ2 := fun B G H σ vs E d Q q => by
  cases d with
  | cons d1 d2 => exact w_pgs (pgs_cons pg_w pgs_w hs) ⟨_, _, rfl, h B G H σ _ E d1 _ fun σ1 E1 w1 => t B G H σ1 _ E1 d2 _ fun σ2 E2 w2 => q σ2 E2 (w2.trans w1)⟩
theorem tg_tup {ts : List Expr} {ws : List Nat} {Γ' : List Sl} {kk n : Nat} (hc : X.calm = true) (h : TgsD X ts ws xs Γ Γ') (hl : xs.length = n) (hn : (assignEach ts X.env).length = n := by rfl) (hst : (assignEach ts X.env).findIdx? (·.1) = none := by rfl) : TgD X (.Tuple ts kk pos) ws (.tuple xs) Γ Γ' := fun B G H σ v E d Q q => by
  obtain ⟨p, vs, rfl, hp, hd⟩ := d.tuple
  exact w_pg (pg_tup hc pgs_w hn hst) ⟨p, vs, rfl, sqT_mono E.gh hp, by rw [hd.len]; exact hl, h B G H σ vs E hd Q q⟩

/-! ### comprehensions -/
def EvTs (X : Cx) (ifs : List Expr) (Γ : List Sl) (k : Bool) : Prop := match ifs with
  | [] => k = true
  | [c] => EvT X c Γ k
  | _ => False
/-- the block's context -/
abbrev Blk (X : Cx) (scope : Scope) (s : Shared) (H : Hp) (C : Addr) (cl : List (Str × Addr)) (fp : List Addr) : Cx := X.blk s H scope (compEnvC scope cl C X.env) fp
def wTs (X : Cx) (ifs : List Expr) : TT := fun σ H Q => ∀ (pins : List (Addr × Obj)) (s : Shared), Inv X pins σ H s →
    wpAny (model X.prog X.w) X.A (forIn ifs true fun c r => if r = true then do let ok ← isTrue c X.env (eval c X.env); pure (ForInStep.yield ok) else pure (ForInStep.yield r)) (TP X pins σ Q) X.xe s
theorem w_pts {ifs : List Expr} {t : TT} {σ : L2.St} {H : Hp} {Q : Bool → Hp → Prop} (h : PTs X ifs t) (q : t σ H Q) : wTs X ifs σ H Q := fun pins s I => h.run pins s σ H Q I q
theorem evTs_w {ifs : List Expr} {k : Bool} (h : EvTs X ifs Γ k) {B : Bs} {G H : Hp} {σ : L2.St} (E : Env X.K B G H σ Γ) {Q : Bool → Hp → Prop} (q : ∀ G' H', Stp G H G' H' → Q k H') : wTs X ifs σ H Q := by
  match ifs, h with
  | [], h =>
    rw [show k = true from h] at q
    exact w_pts pts_nil (q G H (.refl E.gh))
  | [c], h => exact w_pts (pts_one pt_w) (h B G H σ E Q q)
def tgB (X : Cx) (scope : Scope) (tg : Expr) : TG := fun v σ H Q => ∀ (s : Shared) (H0 : Hp) (C : Addr) (cl : List (Str × Addr)) (fp : List Addr), wG (Blk X scope s H0 C cl fp) tg v σ H Q
def tsB (X : Cx) (scope : Scope) (ifs : List Expr) : TT := fun σ H Q => ∀ (s : Shared) (H0 : Hp) (C : Addr) (cl : List (Str × Addr)) (fp : List Addr), wTs (Blk X scope s H0 C cl fp) ifs σ H Q
def teB (X : Cx) (scope : Scope) (e : Expr) : TE := fun σ H Q => ∀ (s : Shared) (H0 : Hp) (C : Addr) (cl : List (Str × Addr)) (fp : List Addr), wE (Blk X scope s H0 C cl fp) e σ H Q
def wipeS (Γ : List Sl) : List Nat → List Sl
  | [] => Γ
  | v :: vs => (wipeS Γ vs).set v .un
theorem Env.wipe {K : Frg} {B : Bs} {G H : Hp} {σ : L2.St} (E : Env K B G H σ Γ) : ∀ vs : List Nat, Env K B G H (wipe σ vs) (wipeS Γ vs)
  | [] => E
  | v :: vs => (Env.wipe E vs).set_un none v
/-- what a comprehension's parts tell: at each item the target's slots, whether it is kept, the element -/
structure LcD {α : Type} (X : Cx) (Γ : List Sl) (own : List (Str × Nat)) (scope : Scope) (tg iter elt : Expr) (ifs : List Expr) (ys : List α) (enc : α → D) (p : α → Bool) (f : α → D) : Prop where
  src : Src X false tg iter Γ (ys.map enc)
  ok : BlkOk X.N X.env.scope scope own
  len : ys.length ≤ 100000
  turn : ∀ a : α, a ∈ ys → ∃ Γ', ∀ (s : Shared) (H0 : Hp) (C : Addr) (cl : List (Str × Addr)) (fp : List Addr), TgD (Blk X scope s H0 C cl fp) tg (own.map (·.2)) (enc a) (wipeS Γ (own.map (·.2))) Γ' ∧
    EvTs (Blk X scope s H0 C cl fp) ifs Γ' (p a) ∧ (p a = true → EvD (Blk X scope s H0 C cl fp) elt Γ' (f a))
theorem filter_snoc {α : Type} {ys : List α} {i : Nat} {a : α} (p : α → Bool) (h : ys[i]? = some a) : (ys.take (i + 1)).filter p = (ys.take i).filter p ++ (if p a = true then [a] else []) := by
  rw [List.take_add_one, h, List.filter_append]
  congr 1
  show [a].filter p = _
  rw [List.filter_cons, List.filter_nil]
/-- what a turn of a comprehension tells -/
def TurnD {α : Type} (X : Cx) (Γ : List Sl) (own : List (Str × Nat)) (scope : Scope) (tg elt : Expr) (ifs : List Expr) (ys : List α) (enc : α → D) (p : α → Bool) (f : α → D) : Prop :=
  ∀ a : α, a ∈ ys → ∃ Γ', ∀ (s : Shared) (H0 : Hp) (C : Addr) (cl : List (Str × Addr)) (fp : List Addr), TgD (Blk X scope s H0 C cl fp) tg (own.map (·.2)) (enc a) (wipeS Γ (own.map (·.2))) Γ' ∧
    EvTs (Blk X scope s H0 C cl fp) ifs Γ' (p a) ∧ (p a = true → EvD (Blk X scope s H0 C cl fp) elt Γ' (f a))
/-- the reading of such a comprehension: a new list D, not yet frozen -/
theorem lc_tell {α : Type} {own : List (Str × Nat)} {scope : Scope} {elt : Expr} {ifs : List Expr} {ys : List α} {enc : α → D} {p : α → Bool} {f : α → D} {wi : TI} {B : Bs} {G H : Hp} {σ : L2.St}
    (src : ∀ R : It → Hp → Prop, (∀ J G1 H1, Stp G H G1 H1 → SrcOk X.K J (ys.map enc) G1 (fun H2 => Same G1 H2 ∧ (false = false → Keeps H1 H2)) → R J H1) → wi σ H R) (len : ys.length ≤ 100000) (tn : TurnD X Γ own scope tg elt ifs ys enc p f)
    (E : Env X.K B G H σ Γ) {Q : VK} (q : ∀ d vs G' H', Stp G H G' H' → Fre H d → G' d = none → H' d = some (.lst vs) → DtAll X.K G' vs ((ys.filter p).map f) → Q (.ref d) H') :
    tLc wi (tgB X scope tg) (tsB X scope ifs) (teB X scope elt) (own.map (·.2)) σ H Q := by
  refine src _ fun J G1 H1 s1 k1 => ?_
  intro Dl hD
  obtain ⟨Gd, Y, wk, og, oy⟩ := k1
  have E1 := E.step s1
  let Pv : Nat → Hp → Prop := fun i H' => ∃ (G' : Hp) (vs : List V), Stp G1 H1 G' H' ∧ G' Dl = none ∧ H' Dl = some (.lst vs) ∧ DtAll X.K G' vs (((ys.take i).filter p).map f)
  have ly : (ys.map enc).length = ys.length := List.length_map _
  refine lc_it wk Pv ⟨G1, [], Stp.put s1.gh hD, s1.gh.free hD, upd_same, .nil⟩ (fun i H' hi ⟨G', vs, t, _⟩ => og H' ⟨t.g.trans t.gh, fun _ => t.h⟩) ?_ ?_
  · rintro i v H2 H3 hi ⟨G2, vs, t2, gD, hDl, hd⟩ y
    obtain ⟨G3, x, hx, t3, dx⟩ := oy i G2 H2 v H3 hi t2.g t2.gh ⟨t2.g.trans t2.gh, fun _ => t2.h⟩ y
    rw [List.getElem?_map] at hx
    obtain ⟨a, ha, rfl⟩ : ∃ a, ys[i]? = some a ∧ enc a = x := by
      cases q : ys[i]? with
      | none => rw [q] at hx; cases hx
      | some a => rw [q] at hx; exact ⟨a, rfl, Option.some.inj hx⟩
    have t13 := t2.trans t3
    have gD3 : G3 Dl = none := t3.free gD hDl rfl
    have hD3 : H3 Dl = some (.lst vs) := t3.h.lst hDl
    have Ew := (E1.step t13).wipe (own.map (·.2))
    obtain ⟨Γ', step⟩ := tn a (List.mem_of_getElem? ha)
    have ilen : i < ys.length := (List.getElem?_eq_some_iff.mp ha).1
    have accl : vs.length < sizeLine := by
      rw [hd.len, List.length_map]
      have h1 := List.length_filter_le p (ys.take i)
      rw [List.length_take] at h1
      have h2 := len
      have h3 : sizeLine = 16777216 := by decide
      omega
    have nxt : ∀ {G4 H4 : Hp}, Stp G3 H3 G4 H4 → (p a = false → Pv (i + 1) H4) ∧ (p a = true → ∀ {G5 H5 : Hp} {u : V}, Stp G4 H4 G5 H5 → Dt X.K G5 u (f a) → ∃ acc, H5 Dl = some (.lst acc) ∧ acc.length < sizeLine ∧ Pv (i + 1) (upd H5 Dl (.lst (acc ++ [u])))) := fun {G4 H4} t4 => by
      refine ⟨fun hp => ⟨G4, vs, t13.trans t4, t4.free gD3 hD3 rfl, t4.h.lst hD3, ?_⟩, fun hp {G5 H5 u} t5 du => ⟨vs, t5.h.lst (t4.h.lst hD3), accl, G5, vs ++ [u], ?_, ?_, upd_same, ?_⟩⟩
      · rw [filter_snoc p ha, hp, if_neg Bool.false_ne_true, List.append_nil]
        exact dtAll_mono (t3.g.trans t4.g) _ _ hd
      · have t15 := (t13.trans t4).trans t5
        exact ⟨t15.g, keeps_upd2 t15.h hD (t5.h.lst (t4.h.lst hD3)), same_upd2 t15.gh (t5.free (t4.free gD3 hD3 rfl) (t4.h.lst hD3) rfl), t15.new, t15.nt⟩
      · exact t5.free (t4.free gD3 hD3 rfl) (t4.h.lst hD3) rfl
      · rw [filter_snoc p ha, hp, if_pos rfl, List.map_append]
        exact (dtAll_mono ((t3.g.trans t4.g).trans t5.g) _ _ hd).append (.one du)
    intro s H0 C cl fp
    refine (step s H0 C cl fp).1 B G3 H3 _ v Ew dx _ fun σ' E' w' => ⟨w'.trans (wipe_wipe σ _), fun s H0 C cl fp => ?_⟩
    refine evTs_w (step s H0 C cl fp).2.1 E' fun G4 H4 t4 => ?_
    cases hp : p a with
    | false => exact iteF ((nxt t4).1 hp)
    | true =>
      refine iteT fun s H0 C cl fp => (step s H0 C cl fp).2.2 hp B G4 H4 σ' (E'.step t4) _ fun u G5 H5 t5 du => ?_
      exact (nxt t4).2 hp t5 du
  · rintro H2 ⟨G2, vs, t2, gD, hDl, hd⟩
    rw [ly, List.take_length] at hd
    exact q Dl vs G2 H2 (s1.trans t2) (s1.h.fre (.inl hD)) gD hDl hd
theorem lc_read {α : Type} {own : List (Str × Nat)} {scope : Scope} {elt : Expr} {ifs : List Expr} {ys : List α} {enc : α → D} {p : α → Bool} {f : α → D} (L : LcD X Γ own scope tg iter elt ifs ys enc p f)
    {B : Bs} {G H : Hp} {σ : L2.St} (E : Env X.K B G H σ Γ) {Q : VK} (q : ∀ d vs G' H', Stp G H G' H' → Fre H d → G' d = none → H' d = some (.lst vs) → DtAll X.K G' vs ((ys.filter p).map f) → Q (.ref d) H') :
    ∃ wi, PI X tg iter wi ∧ tLc wi (tgB X scope tg) (tsB X scope ifs) (teB X scope elt) (own.map (·.2)) σ H Q := by
  obtain ⟨wi, hpi, hsrc⟩ := L.src
  exact ⟨wi, hpi, lc_tell (fun R => hsrc B G H σ E R) L.len L.turn E q⟩
/-- .. as a value -/
theorem ev_lc {α : Type} {own : List (Str × Nat)} {scope : Scope} {elt : Expr} {ifs : List Expr} {ys : List α} {enc : α → D} {p : α → Bool} {f : α → D} (hc : X.calm = true) (hN : X.N.Nodup) (L : LcD X Γ own scope tg iter elt ifs ys enc p f)
    (hs : ∀ x, foldedSetIterable iter X.env x = pure x := by intro _; rfl) : EvD X (.ListComp elt [⟨tg, iter, ifs, 0⟩] scope pos) Γ (.list ((ys.filter p).map f)) := fun B G H σ E Q q => by
  obtain ⟨wi, hpi, h⟩ := lc_read L E (Q := Q) fun d vs G' H' t hH hG hd da => by
    have t' : Stp G H (upd G' d (.lst vs)) H' := ⟨t.g.trans (same_upd hG), t.h, fun a o e => ?_, fun a => ?_, fun n => (t.nt n).upd fun ps z => by cases z⟩
    · exact q _ _ _ t' (.lst (.of upd_same) (dp_lay hG da))
    · by_cases z : a = d
      · subst z; rw [upd_same] at e; rw [hd]; exact e
      · rw [upd_ne z] at e; exact t.gh _ _ e
    · by_cases z : a = d
      · subst z; exact .inr hH
      · rw [upd_ne z]; exact t.new a
  refine w_pe (pe_lc hc hN hpi L.ok (fun s H C cl fp => ⟨fun pins s' σ H' v u Q I r z => z s H C cl fp pins s' u I r⟩) (fun s H C cl fp => ⟨fun pins s' σ H' Q I z => z s H C cl fp pins s' I⟩) (fun s H C cl fp => ⟨fun pins s' σ H' Q I z => z s H C cl fp pins s' I⟩) hs) h
end
end Wl

/-! W5: statements over data; defs. -/
namespace Wl
open PySem PySem.Spec PyProof.Rows L2
variable [Tb]
/-! ### what is wanted behind a statement -/
structure Kn where
  nx : List Sl → Prop
  rt : Sl → List Sl → Prop
  bk : List Sl → Prop := fun _ => False
  ct : List Sl → Prop := fun _ => False
  ex : Str → List Sl → Prop := fun _ _ => False
def Kn.ends (K : Frg) (B : Bs) (k : Kn) : Ends where
  nx := fun σ H => ∃ G Γ, Env K B G H σ Γ ∧ k.nx Γ
  rt := fun v H => ∃ G σ s Γ, Env K B G H (some v :: σ) (s :: Γ) ∧ k.rt s Γ
  bk := fun σ H => ∃ G Γ, Env K B G H σ Γ ∧ k.bk Γ
  ct := fun σ H => ∃ G Γ, Env K B G H σ Γ ∧ k.ct Γ
/-- the context takes what may be raised -/
def XT (X : Cx) (B : Bs) (ex : Str → List Sl → Prop) : Prop := ∃ W : WX, L2N.Takes X W ∧ PassesOwn (model X.prog X.w) X.A X.env X.xe ∧ ∀ (c : Str) (σ : L2.St) (G H : Hp) (Γ : List Sl), Env X.K B G H σ Γ → ex c Γ → W (.ref (clsAt X.mg c)) none σ H
theorem XT.imp {X : Cx} {B : Bs} {ex ex' : Str → List Sl → Prop} (h : XT X B ex) (i : ∀ c Γ, ex' c Γ → ex c Γ) : XT X B ex' := by
  obtain ⟨W, tk, po, q⟩ := h
  exact ⟨W, tk, po, fun c σ G H Γ E x => q c σ G H Γ E (i c Γ x)⟩
def Ss (X : Cx) (sts : List Stmt) (k : Kn) (Γ : List Sl) : Prop := ∀ (B : Bs) (G H : Hp) (σ : L2.St), Env X.K B G H σ Γ → XT X B k.ex → wSs X sts (k.ends X.K B) σ H
def S1 (X : Cx) (st : Stmt) (k : Kn) (Γ : List Sl) : Prop := ∀ (B : Bs) (G H : Hp) (σ : L2.St), Env X.K B G H σ Γ → XT X B k.ex → wS X st (k.ends X.K B) σ H
section
variable {X : Cx} {Γ : List Sl} {e a b c : Expr} {es : List Expr} {x y z : D} {xs : List D} {pos p2 : Pos} {k : Kn} {st : Stmt} {sts : List Stmt}
theorem sp_mono {pins : List (Addr × Obj)} {K K' : Ends} {f : Flow} {s : Shared} (h : SP X pins K f s) (n : ∀ σ H, K.nx σ H → K'.nx σ H) (r : ∀ v H, K.rt v H → K'.rt v H) (bk : ∀ σ H, K.bk σ H → K'.bk σ H) (ct : ∀ σ H, K.ct σ H → K'.ct σ H) : SP X pins K' f s := by
  cases f with
  | next => obtain ⟨σ, H, I, q⟩ := h; exact ⟨σ, H, I, n σ H q⟩
  | brk => obtain ⟨σ, H, I, q⟩ := h; exact ⟨σ, H, I, bk σ H q⟩
  | cont => obtain ⟨σ, H, I, q⟩ := h; exact ⟨σ, H, I, ct σ H q⟩
  | ret v => obtain ⟨u, σ, H, I, q1, q⟩ := h; exact ⟨u, σ, H, I, q1, r u H q⟩
theorem wS_mono {σ : L2.St} {H : Hp} {K K' : Ends} (h : wS X st K σ H) (n : ∀ σ H, K.nx σ H → K'.nx σ H) (r : ∀ v H, K.rt v H → K'.rt v H) (bk : ∀ σ H, K.bk σ H → K'.bk σ H) (ct : ∀ σ H, K.ct σ H → K'.ct σ H) : wS X st K' σ H := fun pins s I =>
  thn (h pins s I) fun f s' q => sp_mono q n r bk ct
theorem wSs_mono {σ : L2.St} {H : Hp} {K K' : Ends} (h : wSs X sts K σ H) (n : ∀ σ H, K.nx σ H → K'.nx σ H) (r : ∀ v H, K.rt v H → K'.rt v H) (bk : ∀ σ H, K.bk σ H → K'.bk σ H) (ct : ∀ σ H, K.ct σ H → K'.ct σ H) : wSs X sts K' σ H := fun pins s I =>
  thn (h pins s I) fun f s' q => sp_mono q n r bk ct
theorem Ss.imp {k' : Kn} (h : Ss X sts k Γ) (n : ∀ Γ, k.nx Γ → k'.nx Γ) (r : ∀ s Γ, k.rt s Γ → k'.rt s Γ) (bk : ∀ Γ, k.bk Γ → k'.bk Γ) (ct : ∀ Γ, k.ct Γ → k'.ct Γ) (ex : ∀ c Γ, k.ex c Γ → k'.ex c Γ) : Ss X sts k' Γ := fun B G H σ E xt =>
  wSs_mono (h B G H σ E (xt.imp ex)) (fun σ H ⟨G, Γ, E, q⟩ => ⟨G, Γ, E, n Γ q⟩) (fun v H ⟨G, σ, s, Γ, E, q⟩ => ⟨G, σ, s, Γ, E, r s Γ q⟩) (fun σ H ⟨G, Γ, E, q⟩ => ⟨G, Γ, E, bk Γ q⟩) (fun σ H ⟨G, Γ, E, q⟩ => ⟨G, Γ, E, ct Γ q⟩)
theorem ss_nil (h : k.nx Γ) : Ss X [] k Γ := fun B G H σ E _ => wSs_nil ⟨G, Γ, E, h⟩
theorem ss_cons (h : S1 X st { k with nx := Ss X sts k } Γ) : Ss X (st :: sts) k Γ := fun B G H σ E xt =>
  wSs_cons (wS_mono (h B G H σ E xt) (fun σ' H' ⟨G', Γ', E', q⟩ => q B G' H' σ' E' xt) (fun _ _ q => q) (fun _ _ q => q) (fun _ _ q => q))
theorem ss_one (h : S1 X st k Γ) : Ss X [st] k Γ := fun B G H σ E xt => wSs_one (h B G H σ E xt)
/-- what holds in between -/
theorem ss_cut (M : List Sl → Prop) (h : S1 X st { k with nx := M } Γ) (h2 : ∀ Γ', M Γ' → Ss X sts k Γ') : Ss X (st :: sts) k Γ := fun B G H σ E xt =>
  wSs_cons (wS_mono (h B G H σ E xt) (fun σ' H' ⟨G', Γ', E', q⟩ => h2 Γ' q B G' H' σ' E' xt) (fun _ _ q => q) (fun _ _ q => q) (fun _ _ q => q))
/-! ### small statements -/
theorem s1_pass (h : k.nx Γ) : S1 X (.Pass pos) k Γ := fun B G H σ E _ => w_ps ps_pass ⟨G, Γ, E, h⟩
theorem s1_doc {w : Str} {j : Nat} (h : k.nx Γ) : S1 X (.Expr (.Constant (.str w) j pos) p2) k Γ := fun B G H σ E _ => w_ps ps_doc ⟨G, Γ, E, h⟩
theorem s1_set {n : Str} {i : Nat} {p' : Pos} (he : EvD X e Γ x) (h : k.nx (Γ.set i (.d x))) (hN : X.N.Nodup) (hi : X.N[i]? = some n) (hx : Loc X.env.scope n) (hf : X.fn n = true ∨ X.env.scope.names.lookup n = some .local) (hs : swapsWith e (some (.Name n p')) pos.line X.env = pure false := by rfl) :
    S1 X (.Assign [.Name n p'] e pos) k Γ := fun B G H σ E _ => w_ps (ps_set hN hi hx pe_w hs hf) (he B G H σ E _ fun v G' H' s d => ⟨G', _, (E.step s).set_d d i, h⟩)
theorem s1_ret (he : EvD X e Γ x) (h : k.rt (.d x) Γ) : S1 X (.Return (some e) pos) k Γ := fun B G H σ E _ =>
  w_ps (ps_ret pe_w) (he B G H σ E _ fun v G' H' s d => ⟨G', σ, .d x, Γ, (E.step s).push d, h⟩)
theorem s1_retN (h : k.rt (.d .none) Γ) : S1 X (.Return none pos) k Γ := fun B G H σ E _ => w_ps ps_retN ⟨G, σ, .d .none, Γ, E.push .non, h⟩
theorem s1_if {t : Bool} {p q : List Stmt} (hc : EvT X c Γ t) (h1 : t = true → Ss X p k Γ) (h2 : t = false → Ss X q k Γ) : S1 X (.If c p q pos) k Γ := fun B G H σ E xt =>
  w_ps (ps_if pt_w pss_w pss_w) (hc B G H σ E _ fun G' H' s => by
    cases t with
    | true => exact iteT (h1 rfl B G' H' σ (E.step s) xt)
    | false => exact iteF (h2 rfl B G' H' σ (E.step s) xt))
theorem s1_expr (he : EvD X e Γ x) (h : k.nx Γ) (hs : swapsWith e none pos.line X.env = pure false := by rfl) : S1 X (.Expr e pos) k Γ := fun B G H σ E _ =>
  w_ps (ps_expr pe_w hs) (he B G H σ E _ fun v G' H' s d => ⟨G', Γ, E.step s, h⟩)
/-- a comprehension given to a local on its own line -/
theorem s1_setLc {α : Type} {own : List (Str × Nat)} {scope : Scope} {tg iter elt : Expr} {ifs : List Expr} {ys : List α} {enc : α → D} {p : α → Bool} {f : α → D} {n : Str} {i : Nat} {py spos : Pos} (hc : X.calm = true) (hN : X.N.Nodup) (L : LcD X Γ own scope tg iter elt ifs ys enc p f)
    (h : k.nx (Γ.set i (.d (.list ((ys.filter p).map f))))) (hy : X.N[i]? = some n) (hyl : X.env.scope.names.lookup n = some .local) (hsw : swapsWith (.ListComp elt [⟨tg, iter, ifs, 0⟩] scope pos) (some (.Name n py)) spos.line X.env = pure true) (hs : ∀ x, foldedSetIterable iter X.env x = pure x := by intro _; rfl) :
    S1 X (.Assign [.Name n py] (.ListComp elt [⟨tg, iter, ifs, 0⟩] scope pos) spos) k Γ := fun B G H σ E _ => by
  obtain ⟨wi, hpi, h⟩ := lc_read L E (Q := fun v H1 => gName i v σ H1 (k.ends X.K B).nx) fun d vs G' H' t hH hG hd da => by
    have t' : Stp G H (upd G' d (.lst vs)) H' := ⟨t.g.trans (same_upd hG), t.h, fun a o e => ?_, fun a => ?_, fun n => (t.nt n).upd fun ps z => by cases z⟩
    · exact ⟨_, _, (E.step t').set_d (.lst (.of upd_same) (dp_lay hG da)) i, h⟩
    · by_cases z : a = d
      · subst z; rw [upd_same] at e; rw [hd]; exact e
      · rw [upd_ne z] at e; exact t.gh _ _ e
    · by_cases z : a = d
      · subst z; exact .inr hH
      · rw [upd_ne z]; exact t.new a
  refine w_ps (ps_setLc hc hN hy hyl hsw hpi L.ok (fun s H C cl fp => ⟨fun pins s' σ H' v u Q I r z => z s H C cl fp pins s' u I r⟩) (fun s H C cl fp => ⟨fun pins s' σ H' Q I z => z s H C cl fp pins s' I⟩) (fun s H C cl fp => ⟨fun pins s' σ H' Q I z => z s H C cl fp pins s' I⟩) hs) h
/-! ### lists of one's own -/
theorem s1_new {n : Str} {i : Nat} {p' : Pos} {sl : Sl} (hsl : Γ[i]? = some sl) (he : EvA X es Γ xs) (h : ∀ p, k.nx (Γ.set i (.l p xs))) (hN : X.N.Nodup) (hi : X.N[i]? = some n) (hx : Loc X.env.scope n) (hf : X.fn n = true ∨ X.env.scope.names.lookup n = some .local) (hl : es.length ≤ 1000 := by decide) (hs : swapsWith (.List es p2) (some (.Name n p')) pos.line X.env = pure false := by rfl) :
    S1 X (.Assign [.Name n p'] (.List es p2) pos) k Γ := fun B G H σ E _ => w_ps (ps_set hN hi hx (pe_lst pa_w) hs hf) (he.2 B G H σ E _ fun vs G' H' s d => ⟨by rw [d.len, he.1]; exact Nat.le_trans hl (by decide), fun p hp => ⟨G', _, (E.step s).new_l hp d hsl, h p⟩⟩)
theorem ty_list {K : Frg} {H : Hp} {p : Addr} {vs : List V} (h : H p = some (.lst vs)) : tyV K "list" (.ref p) H := .inl ⟨rfl, vs, .of h⟩
theorem s1_append {n : Str} {i : Nat} {p : Addr} {np apos : Pos} (hsl : Γ[i]? = some (.l p xs)) (he : EvD X e Γ x) (hlen : xs.length < sizeLine) (h : k.nx (Γ.set i (.l p (xs ++ [x])))) (hN : X.N[i]? = some n) (hv : Vis X.env.scope n) (hd : (n == ("__debug__" : Str)) = false := by decide) (hcd : (n == ("__classdict__" : Str)) = false := by decide)
    (hbase : attributeBase (.Name n np) "append" X.env (eval (.Name n np) X.env) = eval (.Name n np) X.env := by rfl)
    (hfew : ((backTo p2 (starEach [e] X.env)).all (fun x => !x.1) && (backToKw p2 (keywordEach [] X.env)).all (fun x => x.1.isSome) && decide ([e].length + ([] : List Keyword).length + (if ([] : List Keyword).isEmpty then 0 else 1) < 30)) = true := by rfl)
    (hline : (apos.endLine == p2.line) = true := by rfl) (hs : starEach [e] X.env = (false, eval e X.env) :: starEach [] X.env := by rfl) (hplain : (backTo p2 (starEach [] X.env)).any (·.1) = false := by rfl) (hsw : swapsWith (.Call (.Attribute (.Name n np) "append" apos) [e] [] p2) none pos.line X.env = pure false := by rfl) :
    S1 X (.Expr (.Call (.Attribute (.Name n np) "append" apos) [e] [] p2) pos) k Γ := fun B G H σ E _ => by
  obtain ⟨vs, h1, h2, h3, h4⟩ := E.get_l hsl
  refine w_ps (ps_expr (pe_bm PySem.F.plainAttrs_list PySem.F.slot_list_append PySem.F.type_list_append mt_append (pe_var hN hv hd hcd) (pa_cons pe_w pa_nil hs) hbase hfew hline hs hplain) hsw) ?_
  refine ⟨_, h1, ty_list h2, he B G H σ E _ fun v G' H' s d => ⟨p, vs, v, rfl, rfl, s.h.lst h2, by rw [h4.len]; exact hlen, ?_⟩⟩
  have E' := (E.step s).put_l (ws := vs ++ [v]) hsl ((dtAll_mono s.g _ _ h4).append (.one d))
  rw [set_self h1] at E'
  exact ⟨G', _, E', h⟩
/-- the owned list is frozen from here on -/
theorem ss_freeze {i : Nat} {p : Addr} (hsl : Γ[i]? = some (.l p xs)) (h : Ss X sts k (Γ.set i (.d (.list xs)))) : Ss X sts k Γ := fun B G H σ E xt => by
  obtain ⟨G', g, E'⟩ := E.freeze hsl
  obtain ⟨vs, h1, _⟩ := E.get_l hsl
  rw [set_self h1] at E'
  exact h B G' H σ E' xt
theorem s1_freeze {i : Nat} {p : Addr} (hsl : Γ[i]? = some (.l p xs)) (h : S1 X st k (Γ.set i (.d (.list xs)))) : S1 X st k Γ := fun B G H σ E xt => by
  obtain ⟨G', g, E'⟩ := E.freeze hsl
  obtain ⟨vs, h1, _⟩ := E.get_l hsl
  rw [set_self h1] at E'
  exact h B G' H σ E' xt
/-! ### targets of several names -/
theorem s1_asg {tg : Expr} {vs : List Nat} {Γ' : List Sl} (he : EvD X e Γ x) (ht : TgD X tg vs x Γ Γ') (h : k.nx Γ') (hs : swapsWithSole [tg] e pos.line X.env = pure false := by rfl) (hw : swappedStores [tg] e X.env = pure none := by rfl) (h1 : (assignEach [tg] X.env).map (·.2) = [assign tg X.env] := by rfl) :
    S1 X (.Assign [tg] e pos) k Γ := fun B G H σ E _ => w_ps (ps_asg pe_w pg_w hs hw h1) (he B G H σ E _ fun v G' H' s d => ht B G' H' σ v (E.step s) d _ fun σ' E' _ => ⟨G', Γ', E', h⟩)
theorem s1_par {i j : Nat} {n m : Str} {px py pt : Pos} {kt k2 : Nat} {pt2 : Pos} (he : EvA X [a, b] Γ [x, y]) (h : k.nx ((Γ.set i (.d x)).set j (.d y))) (hc : X.calm = true) (hN : X.N.Nodup) (hi : X.N[i]? = some n) (hj : X.N[j]? = some m) (hij : i ≠ j) (hx : X.env.scope.names.lookup n = some .local) (hy : X.env.scope.names.lookup m = some .local)
    (hw : swappedStores [.Tuple [.Name n px, .Name m py] kt pt] (.Tuple [a, b] k2 pt2) X.env = pure (some [n, m]) := by rfl) (hs : swapsWithSole [.Tuple [.Name n px, .Name m py] kt pt] (.Tuple [a, b] k2 pt2) pos.line X.env = pure false := by rfl) :
    S1 X (.Assign [.Tuple [.Name n px, .Name m py] kt pt] (.Tuple [a, b] k2 pt2) pos) k Γ := fun B G H σ E _ => w_ps (ps_par hc hN hi hj hij hx hy pa_w hw hs) (he.2 B G H σ E _ fun vs G' H' s d => by
    cases d with
    | cons d1 d2 =>
      cases d2 with
      | cons d2 d3 =>
        cases d3
        exact ⟨_, _, rfl, G', _, ((E.step s).set_d d1 i).set_d d2 j, h⟩)
theorem s1_par3 {i j l : Nat} {n m o : Str} {px py pz pt : Pos} {kt k2 : Nat} {pt2 : Pos} (he : EvA X [a, b, c] Γ [x, y, z]) (h : k.nx (((Γ.set i (.d x)).set j (.d y)).set l (.d z))) (hc : X.calm = true) (hN : X.N.Nodup) (hi : X.N[i]? = some n) (hj : X.N[j]? = some m) (hl : X.N[l]? = some o) (hij : i ≠ j) (hil : i ≠ l) (hjl : j ≠ l)
    (hx : X.env.scope.names.lookup n = some .local) (hy : X.env.scope.names.lookup m = some .local) (hz : X.env.scope.names.lookup o = some .local)
    (hw : swappedStores [.Tuple [.Name n px, .Name m py, .Name o pz] kt pt] (.Tuple [a, b, c] k2 pt2) X.env = pure (some [n, m, o]) := by rfl) (hs : swapsWithSole [.Tuple [.Name n px, .Name m py, .Name o pz] kt pt] (.Tuple [a, b, c] k2 pt2) pos.line X.env = pure false := by rfl) :
    S1 X (.Assign [.Tuple [.Name n px, .Name m py, .Name o pz] kt pt] (.Tuple [a, b, c] k2 pt2) pos) k Γ := fun B G H σ E _ => w_ps (ps_par3 hc hN hi hj hl hij hil hjl hx hy hz pa_w hw hs) (he.2 B G H σ E _ fun vs G' H' s d => by
    cases d with
    | cons d1 d2 =>
      cases d2 with
      | cons d2 d3 =>
        cases d3 with
        | cons d3 d4 =>
          cases d4
          exact ⟨_, _, _, rfl, G', _, (((E.step s).set_d d1 i).set_d d2 j).set_d d3 l, h⟩)
/-! ### loops -/
/-- for over frozen things: I by the turn and the slots -/
theorem s1_for {tg iter : Expr} {body : List Stmt} (I : Nat → List Sl → Prop) (hc : X.calm = true) (src : Src X true tg iter Γ xs) (h0 : I 0 Γ)
    (hs : ∀ (i : Nat) (x : D) (Γ1 : List Sl), xs[i]? = some x → I i Γ1 → ∃ Γ2 vs, TgD X tg vs x Γ1 Γ2 ∧ Ss X body { k with nx := I (i + 1), ct := I (i + 1), bk := k.nx } Γ2) (hd : ∀ Γ1, I xs.length Γ1 → k.nx Γ1)
    (hfs : ∀ x, foldedSetIterable iter X.env x = pure x := by intro _; rfl) : S1 X (.For tg iter body [] pos) k Γ := fun B G H σ E xt => by
  obtain ⟨wi, hpi, hsrc⟩ := src
  obtain ⟨W, tk, po, hW⟩ := id xt
  refine w_ps (ps_for po hc hpi pg_w pss_w hfs) (hsrc B G H σ E _ fun J G1 H1 s1 k1 => ?_)
  obtain ⟨Gd, Y, wk, og, oy⟩ := k1
  let Pv : Nat → L2.St → Hp → Prop := fun i σ' H' => ∃ (G' : Hp) (Γ' : List Sl), Env X.K B G' H' σ' Γ' ∧ Same G1 G' ∧ I i Γ'
  refine for_it wk Pv ⟨G1, Γ, E.step s1, Same.refl _, h0⟩ (fun i σ' H' hi ⟨G', Γ', E', g, _⟩ => og H' ⟨g.trans E'.gh, fun z => by cases z⟩) ?_ ?_
  · rintro i v σ2 H2 H3 hi ⟨G2, Γ2, E2, g2, i2⟩ y
    obtain ⟨G3, x, hx, t3, dx⟩ := oy i G2 H2 v H3 hi g2 E2.gh ⟨g2.trans E2.gh, fun z => by cases z⟩ y
    obtain ⟨Γ3, vs3, hT, hB⟩ := hs i x Γ2 hx i2
    refine hT B G3 H3 σ2 v (E2.step t3) dx _ fun σ' E' _ => ?_
    obtain ⟨Eb, back⟩ := E'.rebase
    refine wSs_mono (hB _ G3 H3 σ' Eb ⟨W, tk, po, fun c σ G H Γ E x => hW c σ G H Γ (back E).1 x⟩) (fun σ4 H4 ⟨G4, Γ4, E4, q⟩ => ?_) (fun v4 H4 ⟨G4, σ4, s4, Γ4, E4, q⟩ => ?_) (fun σ4 H4 ⟨G4, Γ4, E4, q⟩ => ?_) (fun σ4 H4 ⟨G4, Γ4, E4, q⟩ => ?_)
    · exact ⟨G4, Γ4, (back E4).1, (g2.trans t3.g).trans (back E4).2, q⟩
    · exact ⟨G4, σ4, s4, Γ4, (back E4).1, q⟩
    · exact ⟨G4, Γ4, (back E4).1, q⟩
    · exact ⟨G4, Γ4, (back E4).1, (g2.trans t3.g).trans (back E4).2, q⟩
  · rintro σ2 H2 ⟨G2, Γ2, E2, g2, i2⟩
    exact ⟨G2, Γ2, E2, hd Γ2 i2⟩
/-- while, by a word that falls -/
theorem s1_while {body : List Stmt} (I : Nat → List Sl → Prop) (m0 : Nat) (h0 : I m0 Γ)
    (hs : ∀ (m : Nat) (Γ1 : List Sl), I m Γ1 → ∃ t, EvT X c Γ1 t ∧ (t = true → ∃ N : List Sl → Prop, (∀ Γ2, N Γ2 → ∃ m', m' < m ∧ I m' Γ2) ∧ Ss X body { k with nx := N, ct := N, bk := k.nx } Γ1) ∧ (t = false → k.nx Γ1)) : S1 X (.While c body [] pos) k Γ := fun B G H σ E xt => by
  obtain ⟨W, tk, po, hW⟩ := id xt
  refine w_ps (ps_while po pt_w pss_w) ⟨fun m σ H => ∃ G Γ, Env X.K B G H σ Γ ∧ I m Γ, ⟨m0, G, Γ, E, h0⟩, ?_⟩
  rintro m σ1 H1 ⟨G1, Γ1, E1, i1⟩
  obtain ⟨t, ht, h1, h2⟩ := hs m Γ1 i1
  refine ht B G1 H1 σ1 E1 _ fun G2 H2 s2 => ?_
  cases t with
  | true =>
    obtain ⟨N, hN, hb⟩ := h1 rfl
    refine iteT ⟨fun σ H => ∃ G Γ, Env X.K B G H σ Γ ∧ N Γ, fun σ' H' ⟨G', Γ', E', n⟩ => ?_, hb B G2 H2 σ1 (E1.step s2) xt⟩
    obtain ⟨m', hm, i'⟩ := hN Γ' n
    exact ⟨m', hm, G', Γ', E', i'⟩
  | false => exact iteF ⟨G2, Γ1, E1.step s2, h2 rfl⟩
/-! ### what may raise -/
/-- e yields x, or raises -/
def EvX (X : Cx) (e : Expr) (Γ : List Sl) (o : Oc) : Prop := ∀ (B : Bs) (G H : Hp) (σ : L2.St), Env X.K B G H σ Γ → ∀ (W : WX), L2N.Takes X W → ∀ Q : VK,
  (match o with
    | .ret x => ∀ v G' H', Stp G H G' H' → Dt X.K G' v x → Q v H'
    | .exc n => ∀ G' H', Stp G H G' H' → W (.ref (clsAt X.mg n)) none σ H') → wE X e σ H Q
theorem EvD.toX (h : EvD X e Γ x) : EvX X e Γ (.ret x) := fun B G H σ E W tk Q q => h B G H σ E Q q
theorem EvX.d (h : EvX X e Γ (.ret x)) : (∃ W, L2N.Takes X W) → EvD X e Γ x := fun ⟨W, tk⟩ B G H σ E Q q => h B G H σ E W tk Q q
theorem ev_callX {n : Str} {p : Pos} {kk j m : Nat} {F : List D → Oc → Prop} {o : Oc} (f : FG X.prog X.w X.K X.mg X.base kk n m (spD X.K X.mg F)) (hr : Room j X.A) (hkj : kk ≤ j) (hF : F xs o) (ha : EvA X (e :: es) Γ xs) (hg : Gl X n) (hdb : (n == ("__debug__" : Str)) = false := by decide)
    (he : starEach (e :: es) X.env = (false, eval e X.env) :: starEach es X.env := by rfl) (hpl : (backTo pos (starEach es X.env)).any (·.1) = false := by rfl) : EvX X (.Call (.Name n p) (e :: es) [] pos) Γ o := fun B G H σ E W tk Q q => by
  obtain ⟨a, fd, ps, hps, hm, hkp, hb, hf⟩ := f.ex
  refine w_pe (pe_callS hf (hr.mono hkj) hg hm hkp hb (fun σ => L2N.passAt tk σ) pa_w hdb he hpl) (ha.2 B G H σ E _ fun vs G1 H1 s1 k1 => ?_)
  refine ⟨G1, xs, o, s1.gh, s1.h.t E.tab, s1.nt E.nt, k1, hF, ?_⟩
  cases o with
  | ret x => exact fun v G2 H2 s2 d => q v G2 H2 (s1.trans s2) d
  | exc n => exact fun G2 H2 s2 => q G2 H2 (s1.trans s2)
theorem s1_setX {n : Str} {i : Nat} {p' : Pos} {o : Oc} (he : EvX X e Γ o) (h : match o with | .ret x => k.nx (Γ.set i (.d x)) | .exc c => k.ex c Γ) (hN : X.N.Nodup) (hi : X.N[i]? = some n) (hx : Loc X.env.scope n) (hf : X.fn n = true ∨ X.env.scope.names.lookup n = some .local) (hs : swapsWith e (some (.Name n p')) pos.line X.env = pure false := by rfl) :
    S1 X (.Assign [.Name n p'] e pos) k Γ := fun B G H σ E ⟨W, tk, po, hW⟩ => w_ps (ps_set hN hi hx pe_w hs hf) (he B G H σ E W tk _ (by
    cases o with
    | ret x => exact fun v G' H' s d => ⟨G', _, (E.step s).set_d d i, h⟩
    | exc c => exact fun G' H' s => hW c σ G' H' Γ (E.step s) h))
theorem s1_retX {o : Oc} (he : EvX X e Γ o) (h : match o with | .ret x => k.rt (.d x) Γ | .exc c => k.ex c Γ) : S1 X (.Return (some e) pos) k Γ := fun B G H σ E ⟨W, tk, po, hW⟩ =>
  w_ps (ps_ret pe_w) (he B G H σ E W tk _ (by
    cases o with
    | ret x => exact fun v G' H' s d => ⟨G', σ, .d x, Γ, (E.step s).push d, h⟩
    | exc c => exact fun G' H' s => hW c σ G' H' Γ (E.step s) h))
theorem s1_exprX {o : Oc} (he : EvX X e Γ o) (h : match o with | .ret _ => k.nx Γ | .exc c => k.ex c Γ) (hs : swapsWith e none pos.line X.env = pure false := by rfl) : S1 X (.Expr e pos) k Γ := fun B G H σ E ⟨W, tk, po, hW⟩ =>
  w_ps (ps_expr pe_w hs) (he B G H σ E W tk _ (by
    cases o with
    | ret x => exact fun v G' H' s d => ⟨G', Γ, E.step s, h⟩
    | exc c => exact fun G' H' s => hW c σ G' H' Γ (E.step s) h))
/-- an own exception class of the module, without an __init__ -/
structure XC (K : Frg) (mg : Str → Option Value) (n : Str) : Prop where
  gC : mg n = some (.ref (clsAt mg n))
  xC : PySem.W.excIn K (clsAt mg n) [.type "ValueError", .type "Exception", .type "BaseException", .type "object"] "ValueError.__new__" = true
  kC : PySem.W.keepIn K (.ref (clsAt mg n)) = true
  bC : PySem.W.subIn K (.ref (clsAt mg n)) (.type "BaseException") = some true
  tC : PySem.W.typeIn K (.ref (clsAt mg n)) = some (.type "type")
theorem s1_raise {n m : Str} {j : Nat} {p q : Pos} (hc : X.calm = true) (C : XC X.K X.mg n) (h : k.ex n Γ) (hg : Gl X n) (hdb : (n == ("__debug__" : Str)) = false := by decide) :
    S1 X (.Raise (some (.Call (.Name n p) [.Constant (.str m) j q] [] p2)) none pos) k Γ := fun B G H σ E ⟨W, tk, po, hW⟩ =>
  w_ps (L2N.ps_raise hc tk (L2N.pmk_own PySem.F.excBase_ValueError C.xC C.gC C.kC (raises_own C.bC C.tC) hg hdb)) (hW n σ G H Γ E h)
/-! ### a def -/
def knO (o : Oc) : Kn where
  nx := fun _ => o = .ret .none
  rt := fun s _ => ∃ x, s = .d x ∧ o = .ret x
  ex := fun c _ => o = .exc c
/-- the slots at the entry -/
def ent (n : Nat) (xs : List D) : List Sl := xs.map Sl.d ++ List.replicate (n - xs.length) .un
end
theorem sls_start {K : Frg} {G H : Hp} : ∀ {vs : List V} {xs : List D} (m : Nat), DtAll K G vs xs → SlsAt K G H (List.replicate (xs.length + m) []) (vs.map some ++ List.replicate m none) (xs.map Sl.d ++ List.replicate m .un)
  | [], [], 0, _ => True.intro
  | [], [], m + 1, h => by
    rw [show ([] : List D).length + (m + 1) = (([] : List D).length + m) + 1 from rfl]
    exact ⟨rfl, sls_start m h⟩
  | v :: vs, x :: xs, m, .cons h t => by
    rw [show (x :: xs).length + m = (xs.length + m) + 1 by rw [List.length_cons]; omega]
    exact ⟨⟨rfl, v, rfl, h⟩, sls_start m t⟩
theorem flat_nil {α : Type} : ∀ n : Nat, (List.replicate n ([] : List α)).flatten = []
  | 0 => rfl
  | n + 1 => by rw [List.replicate_succ, List.flatten_cons, flat_nil n]; rfl
theorem env_start {K : Frg} {G H : Hp} {N : List Str} {vs : List V} {xs : List D} (e : Same G H) (t : LamX.Tabs Tb.T H) (nt : NoT G) (d : DtAll K G vs xs) : Env K ⟨G, H, []⟩ G H (L2.start N vs) (ent N.length xs) := by
  refine ⟨e, Same.refl _, fun _ => .inl rfl, fun a o h _ _ => h, t, nt, List.replicate (xs.length + (N.length - xs.length)) [], ?_, ?_, fun a ha => ?_⟩
  · have k := sls_start (K := K) (G := G) (H := H) (N.length - xs.length) d
    unfold L2.start ent
    rw [d.len]
    exact k
  · rw [flat_nil]; exact List.nodup_nil
  · rw [flat_nil] at ha; cases ha
theorem Env.stp {K : Frg} {G H G' H' : Hp} {σ : L2.St} {Γ : List Sl} (E : Env K ⟨G, H, []⟩ G' H' σ Γ) : Stp G H G' H' := ⟨E.g0, ⟨fun a o h n => E.keep a o h (by simp) n, fun _ => E.tab⟩, E.gh, fun a => (E.new a).imp id fun h => h.elim id fun z => absurd z (by simp), fun _ => E.nt⟩
/-- THE RULE for a def over data -/
theorem fn_D {P : Program} {w : World} {K : Frg} {mg : Str → Option Value} {base : Heap} {x qual : Str} {params : Arguments} {body : List Stmt} {scope : Scope} {f : Addr} {fd : FuncData} {N ps : List Str} {k : Nat} {F : List D → Oc → Prop} (F0 : FunD K x qual params body scope [] [] f fd) (S : FnScope N ps scope)
    (hlen : ∀ xs o, F xs o → xs.length = ps.length)
    (hbody : ∀ (cdv : Value) (A : Around) (outer : List PySem.Env) (s : Shared) (H : Hp) (E : XK), Room k (A.deeper (envOfC qual scope s.heap.objs.size f cdv)) → ∀ (xs : List D) (o : Oc), F xs o → Ss (cxOf (L2N.CX P w) P w K mg base N qual scope f cdv A outer s H E) body (knO o) (ent N.length xs)) :
    FnOk P w K mg base (L2N.CX P w) (k + 1) f fd ps (spD K mg F) := by
  refine F0.ok S (fun vs H Q E ⟨G, xs, o, _, _, _, d, hF, _⟩ => by rw [d.len]; exact hlen xs o hF) (fun cdv A outer s H vs Q E hr ⟨G, xs, o, e, tb, nt, d, hF, q⟩ => ⟨wSs _ body, pss_w, ?_⟩)
  have En := env_start (N := N) e tb nt d
  refine wSs_mono (hbody cdv A outer s H E hr xs o hF ⟨G, H, []⟩ G H _ En ⟨fun cls d _ H' => E cls d H', L2N.takes_of rfl rfl rfl rfl, passes_of rfl, fun c σ G' H' Γ E' z => ?_⟩) (fun σ' H' ⟨G', Γ', E', z⟩ => ?_) (fun v' H' ⟨G', σ', s', Γ', E', y, z1, z2⟩ => ?_) (fun _ _ ⟨_, _, _, z⟩ => z) (fun _ _ ⟨_, _, _, z⟩ => z)
  · have z : o = .exc c := z
    subst z
    exact q G' H' E'.stp
  · have z : o = .ret .none := z
    subst z
    exact q .non G' H' E'.stp .non
  · subst z1 z2
    obtain ⟨v, hv, dv⟩ := E'.get_d (i := 0) rfl
    cases hv
    exact q v' G' H' E'.pop.stp dv
end Wl

/-! W6: within an except suite: the end of a list's walk, sum, a comprehension over a list, isinstance of the caught one. -/
namespace Wl
open PySem PySem.Spec PyProof.Rows L2 HotX L2H
variable [Tb]
section
variable {prog : Program} {w : World} {A : Around} {E : Value → Shared → Prop} {s : Shared}
theorem hot_kept {x1 : Addr} {h h' : Heap} (c : HotAt A x1 h) (k : ∀ o, h.get? x1 = some o → h'.get? x1 = some o) : HotAt A x1 h' := by
  obtain ⟨a, o, f, g, d, e⟩ := c
  exact ⟨a, o, f, k o g, d, e⟩
/-- the walk of a list ends while x1 is handled -/
theorem next_end_hot {it l x1 : Addr} {i : Nat} {items : Array Value} {Q : Option Value → Shared → Prop} (hot : HotAt A x1 s.heap) (hne : x1 ≠ it) (hit : s.heap.IsListIter it l i) (hl : s.heap.IsList l items) (hx : items[i]? = none)
    (hQ : ∀ h', Heap.ExtBut it s.heap h' → Q none { s with heap := h' }) : wpAny (model prog w) A (pyNext (.ref it)) Q E s := by
  obtain ⟨oi, gi, ci, di⟩ := id hit
  obtain ⟨ol, gl, cl, nl, dl⟩ := hl
  obtain ⟨hh, o1, f1, g1, d1, c1⟩ := hot
  unfold pyNext
  refine wpAny_bind (wpAny_attempt (wpAny_callSpecial?_slot (name := Str.ofString "__next__") hit.typeIs slot_listiter_next (wpAny_call_entry slot_listiter_next hit.typeIs entry_listiter_next ?_ (args_listiter_next _))))
  show wpAny _ _ (field (.ref it) 0 >>= _) _ _ s
  refine wpAny_bind (wpAny_field gi di (x := .ref l) rfl ?_)
  show wpAny _ _ (if (Value.ref l == Value.none) = true then _ else _) _ _ s
  rw [if_neg (show ¬ ((Value.ref l == Value.none) = true) from Bool.false_ne_true)]
  show wpAny _ _ (field (.ref it) 1 >>= _) _ _ s
  refine wpAny_bind (wpAny_field gi di (x := .int i 0) rfl ?_)
  show wpAny _ _ (seqItems? (.ref l) >>= _) _ _ s
  refine wpAny_bind (wpAny_seqItems gl dl ?_)
  simp only [Int.toNat_natCast, hx]
  refine wpAny_bind (wpAny_rule (wpAny_bind (wpAny_setField gi di (by simp) ?_)))
  show wpAny _ _ (newExc (.type "StopIteration") [] >>= _) _ _ _
  refine wpAny_bind ?_
  simp only [newExc, newTuple]
  refine wpAny_bind (wpAny_newObj_type ?_ (by size_fits))
  refine wpAny_bind (m := firstArgMember _ _) (wpAny_of_eq (a := Value.none) (by first | rfl | (simp only [firstArgMember]; rfl)) ?_)
  refine wpAny_newObj_type ?_ (by size_fits)
  have g2 := fun (f : Obj → Obj) => (Heap.get?_update_other s.heap f (Ne.symm hne)).trans g1
  refine raiseNew_hot ⟨hh, o1, f1, Heap.get?_push_of_some _ (Heap.get?_push_of_some _ (g2 _)), d1, c1⟩ (Nat.ne_of_lt (Heap.lt_size (Heap.get?_push_of_some _ (g2 _)))) (Heap.get?_push_size _ rfl) rfl (by first | (simp; done) | (simp; omega) | (simp only [Array.size_append]; simp; omega)) ?_
  refine wpAny_bind (wpAny_isInstance (T := "StopIteration") (b := true) ⟨_, Heap.get?_update_self _ (Heap.get?_push_size _ rfl) rfl, rfl⟩ isSubtype_stop ?_)
  refine wpAny_pure (hQ _ fun b o hb e => ?_)
  have e2 := fun (f : Obj → Obj) => (Heap.get?_update_other s.heap f (Ne.symm hb)).trans e
  rw [Heap.get?_update_other _ _ (Nat.ne_of_gt (Heap.lt_size (Heap.get?_push_of_some _ (e2 _))))]
  exact Heap.get?_push_of_some _ (Heap.get?_push_of_some _ (e2 _))
theorem walks_hot {x1 I ax : Addr} {items : Array Value} (nx : x1 ≠ I) (na : ax ≠ I) :
    Walks prog w A I [I, ax, x1] [I] items.size (fun i v => items[i]? = some v) (fun i h => (h.IsListIter I ax i ∧ h.IsList ax items) ∧ HotAt A x1 h) where
  sub := fun b hb => by simp at hb; simp [hb]
  frame := fun i h h' st k => ⟨⟨st.1.1.at fun o e => k I (by simp) o e, st.1.2.at fun o e => k ax (by simp) o e⟩, hot_kept st.2 fun o e => k x1 (by simp) o e⟩
  item := fun i s Q E hi st q => by
    refine wpAny_pyNext_list_item st.1.1 st.1.2 (x := items[i]) (by simp [hi]) fun h' t' sb => ?_
    exact q _ h' s.toks (by simp [hi]) ⟨⟨t', st.1.2.extBut sb.extBut na⟩, hot_kept st.2 fun o e => sb.extBut x1 o nx e⟩ fun b o hb e => sb.extBut b o (fun z => hb (by simp [z])) e
  done := fun s Q E st q => next_end_hot st.2 nx st.1.1 st.1.2 (by simp) fun h' he => q h' s.toks fun b o hb e => he b o (fun z => hb (by simp [z])) e
  self := fun _ _ _ _ st q => wpAny_pyIter_listiter st.1.1 q
theorem sum_hot {l x1 : Addr} {its : List Value} {ns : List Int} {Q : Value → Shared → Prop} (hot : HotAt A x1 s.heap) (hl : s.heap.IsList l its.toArray) (hi : IntsAre its ns)
    (h : ∀ h' tk t', (∀ b o, s.heap.get? b = some o → h'.get? b = some o) → Q (.int ns.sum t') { s with heap := h', toks := tk }) : wpAny (model prog w) A (call (.builtin "sum") [.ref l]) Q E s := by
  obtain ⟨xs, e⟩ := hi.allInts.items
  have hn : numsOf (intItems xs).toList = ns := by rw [← e]; exact hi.numsOf
  rw [nums_intItems] at hn
  rw [e] at hl
  have lx : x1 < s.heap.objs.size := by obtain ⟨_, o, _, g, _⟩ := id hot; exact Heap.lt_size g
  refine call_sum_walkG (iter_intList hl fun s2 e2 st hfp hlI => ?_)
  subst e2
  refine ⟨_, _, _, _, _, _, numAt xs, rfl, walks_hot (A := A.in1) (x1 := x1) (Nat.ne_of_lt lx) hlI, ⟨st, hot_kept (h := s.heap) hot fun o g => Heap.get?_push_of_some _ g⟩, fun b hb => ?_, (fun _ _ => intItems_at), fun h' tk t' hk => ?_⟩
  · rcases List.mem_cons.mp hb with rfl | hb
    · exact hfp _ (by simp)
    · rcases List.mem_cons.mp hb with rfl | hb
      · exact hfp _ (by simp)
      · rw [show b = x1 by simpa using hb]
        show x1 < (s.heap.push _).objs.size
        rw [Heap.size_push]
        exact Nat.lt_succ_of_lt lx
  · have e3 : preSum (numAt xs) (intItems xs).size = ns.sum := by rw [show (intItems xs).size = xs.size by simp [intItems], preSum_eq, List.take_of_length_le (by simp), hn]
    rw [e3]
    exact h h' tk t' (old_kept hk)
end
section
variable {X : Cx}
theorem cr_sumHot (hc : HotC X) : CallR X (.builtin "sum") (rSum X.K) := by
  intro pins s σ H vs us Q I r h
  obtain ⟨a, ns, rfl, hs, q⟩ := h
  obtain ⟨its, rv, hl, _⟩ := I.list hs
  obtain ⟨x1, hot⟩ := hc.at I
  rw [Vals.ref1 r]
  exact sum_hot hot hl.isList rv.ints fun h' tk t' hk => ⟨.int _, H, I.kept hk, ⟨_, rfl⟩, q⟩
theorem cal_sumH {ns : List Int} (hc : HotC X) : CalD X (.builtin "sum") [.list (ns.map .int)] (.int ns.sum) := ⟨_, cr_sumHot hc, fun G H vs Q e h q => by
  obtain ⟨v, rfl, h1⟩ := wk1 h
  obtain ⟨p, vs, rfl, h2, h3⟩ := h1.list e
  rw [h3.ints] at h2
  exact ⟨p, ns, rfl, h2, q _ G H (.refl e) (.int _)⟩⟩
/-- the core of a comprehension over a list, within a suite -/
theorem lcH_core {pins : List (Addr × Obj)} {s : Shared} {σ : L2.St} {H : Hp} {Q : VK} {elt tg iter : Expr} {ifs : List Expr} {scope : Scope} {own : List (Str × Nat)} {pos pos' : Pos} {te0 : TE} {g : TG} {tt : TT} {te : TE} {Qf : Value → Shared → Prop}
    (hot : HotC X) (nd : X.N.Nodup) (I : Inv X pins σ H s) (hi : PE X iter te0) (ok : BlkOk X.N X.env.scope scope own)
    (pg : ∀ (s : Shared) (H : Hp) (C : Addr) (cl : List (Str × Addr)) (fp : List Addr), PG (X.blk s H scope (compEnvC scope cl C X.env) fp) tg g) (pt : ∀ (s : Shared) (H : Hp) (C : Addr) (cl : List (Str × Addr)) (fp : List Addr), PTs (X.blk s H scope (compEnvC scope cl C X.env) fp) ifs tt)
    (pe : ∀ (s : Shared) (H : Hp) (C : Addr) (cl : List (Str × Addr)) (fp : List Addr), PE (X.blk s H scope (compEnvC scope cl C X.env) fp) elt te) (hs : ∀ x, foldedSetIterable iter X.env x = pure x)
    (h : tLc (iList X.K te0) g tt te (own.map (·.2)) σ H Q)
    (fin : ∀ D C s' m H', Inv X pins σ H' s' → Q (.ref D) H' → s'.heap.Ns C m → FpOk X pins H' C → compPost (model X.prog X.w) X.A X.xe none Qf (.ref D) C (.ok .next) s') :
    wpAny (model X.prog X.w) X.A (comprehension (.ListComp elt [⟨tg, iter, ifs, 0⟩] scope pos) scope X.env pos' (newList []) false (eval iter X.env) none) Qf X.xe s := by
  obtain ⟨px, ⟨hh, vx, dx, cx⟩, hpx⟩ := hot
  have clo := closure_ok (scope := scope) (env := X.env) fun y hy e => by
    rcases ok.free y hy e with k | k
    · exact I.ok.has _ (.inl k)
    · exact I.ok.has _ (.inr k)
  refine wpAny_comprehension_free (use := none) rfl hs clo ok.kind (fun y hy e => (ok.uniq y hy).trans (congrArg some e)) ?_
  refine thn (hi.run pins s σ H _ I h) fun xv s1 ⟨x, H1, I1, r1, a, ex, ⟨xs0, hq0⟩, q⟩ => ?_
  subst ex
  cases r1
  obtain ⟨its0, _, p0, _⟩ := I1.list hq0
  refine wpAny_pyIter_list p0.isList ?_
  generalize hit : s1.heap.objs.size = it
  have I2 : Inv X pins σ H1 { s1 with heap := s1.heap.push { cls := .type "list_iterator", data := .fields #[.ref a, .int 0 0] } } := I1.kept (t' := s1.toks) fun b o e => Heap.get?_push_of_some _ e
  have st2 : (s1.heap.push { cls := .type "list_iterator", data := .fields #[.ref a, .int 0 0] }).IsListIter it a 0 := ⟨_, by rw [← hit]; exact Heap.get?_push_size _ rfl, rfl, rfl⟩
  have f2 : FpOk X pins H1 it := I1.fpOk (Nat.le_of_eq hit) (I1.hok.fresh (Nat.le_of_eq hit))
  generalize hs2 : ({ s1 with heap := s1.heap.push { cls := .type "list_iterator", data := .fields #[.ref a, .int 0 0] } } : Shared) = s2 at I2
  have hp2 : s2.heap = s1.heap.push { cls := .type "list_iterator", data := .fields #[.ref a, .int 0 0] } := by rw [← hs2]
  rw [← hp2] at st2
  refine wpAny_newObj_type (newEnv_comp ?_) (by show 0 ≤ sizeLine; decide)
  generalize hD : s2.heap.objs.size = Dl
  have nD : H1 Dl = none := I2.hok.fresh (Nat.le_of_eq hD)
  obtain ⟨W, ⟨m0, w0⟩, turn⟩ := q Dl nD
  generalize hs3 : ({ s2 with heap := s2.heap.push { cls := .type "list", data := .seq ([] : List Value).toArray } } : Shared) = s3
  have hp3 : s3.heap = s2.heap.push { cls := .type "list", data := .seq ([] : List Value).toArray } := by rw [← hs3]
  have I3 : Inv X pins σ (upd H1 Dl (.lst [])) s3 := by
    rw [← hs3]
    exact I2.laid (t' := s2.toks) (fun b o e => Heap.get?_push_of_some _ e) (Nat.le_of_eq hD) ⟨Nat.zero_le _, [], 0, .nil, hD ▸ Heap.get?_push_size _ rfl⟩
  have ilt : it < s2.heap.objs.size := by obtain ⟨o, e, _⟩ := id st2; exact Heap.lt_size e
  have f3 : ∀ b ∈ [it], FpOk X pins (upd H1 Dl (.lst [])) b ∧ b < s3.heap.objs.size := fun b hb => by
    have e : b = it := by simpa using hb
    subst e
    refine ⟨⟨?_, f2.2⟩, by rw [hp3, Heap.size_push]; exact Nat.lt_succ_of_lt ilt⟩
    exact (upd_ne (hD ▸ Nat.ne_of_lt ilt)).trans f2.1
  have st3 : s3.heap.IsListIter it a 0 := st2.at fun o e => by rw [hp3]; exact Heap.get?_push_of_some _ e
  have I4 := block_start I3 ok nd f3
  have pg := pg s3 (upd H1 Dl (.lst [])) s3.heap.objs.size (cellsFrom (s3.heap.objs.size + 1) scope.names (cloFrom X.env.cells scope.names [])) [it]
  have pt := pt s3 (upd H1 Dl (.lst [])) s3.heap.objs.size (cellsFrom (s3.heap.objs.size + 1) scope.names (cloFrom X.env.cells scope.names [])) [it]
  have pe := pe s3 (upd H1 Dl (.lst [])) s3.heap.objs.size (cellsFrom (s3.heap.objs.size + 1) scope.names (cloFrom X.env.cells scope.names [])) [it]
  show codeAny _ _ (.compStart (.ListComp elt [⟨tg, iter, ifs, 0⟩] scope pos) 0 (.ref it) (.ref Dl) (compEnvC scope (cellsFrom (s3.heap.objs.size + 1) scope.names (cloFrom X.env.cells scope.names [])) s3.heap.objs.size X.env)) (compPost (model X.prog X.w) X.A X.xe none Qf (.ref Dl) s3.heap.objs.size) { s3 with heap := pushCells (s3.heap.push { cls := .type "dict", data := .dict #[] }) scope.names }
  generalize hce : compEnvC scope (cellsFrom (s3.heap.objs.size + 1) scope.names (cloFrom X.env.cells scope.names [])) s3.heap.objs.size X.env = ce at I4 pg pt pe ⊢
  have cL : ce.locals = s3.heap.objs.size := by subst hce; rfl
  generalize hH3 : upd H1 Dl (.lst []) = H3 at I3 I4 pg pt pe w0 f3
  -- the caught one is kept
  obtain ⟨gx, nx, _, nfx, _⟩ := I3.pin px (List.mem_append_left _ hpx)
  have nstk : px.1 ∉ frs X.stack := fun z => by
    rcases List.mem_cons.mp (I3.stkSub _ z) with e | e
    · exact (I3.pin px (List.mem_append_left _ hpx)).2.2.1 e
    · exact nfx e
  have npx : px.1 ≠ it := (f3 it (by simp)).1.2.2.2.2.2 px (List.mem_append_left _ hpx)
  have hotB : ∀ {σ' : L2.St} {H' : Hp} {s' : Shared} {pins' : List (Addr × Obj)}, Inv (X.blk s3 H3 scope ce [it]) pins' σ' H' s' → HotAt X.A px.1 s'.heap := fun {σ' H' s' pins'} J => ⟨hh, px.2, vx, J.base.keep px.1 px.2 gx nx nstk (fun z => npx (by simpa using z)), dx, cx⟩
  generalize hs4 : ({ s3 with heap := pushCells (s3.heap.push { cls := .type "dict", data := .dict #[] }) scope.names } : Shared) = s4 at I4 ⊢
  have st4 : s4.heap.IsListIter it a 0 := st3.at fun o e => by rw [← hs4]; exact pushCells_keeps _ _ _ _ (Heap.get?_push_of_some _ e)
  have stat : ∀ {σ' : L2.St} {H' : Hp} {s' : Shared}, Inv (X.blk s3 H3 scope ce [it]) [] σ' H' s' → H' it = none → FpOk (X.blk s3 H3 scope ce [it]) [] H' it := fun {σ' H' s'} J n =>
    ⟨n, (J.ok.exf it (by simp)).1, J.ok.exfs it (by simp), .inl (by simp), fun x c e => (J.ok.exf it (by simp)).2 x c e, fun p hp => absurd (show p ∈ ([] : List (Addr × Obj)) ++ [] from hp) (by simp)⟩
  have loop : codeAny (model X.prog X.w) X.A (.compLoop (.ListComp elt [⟨tg, iter, ifs, 0⟩] scope pos) 0 (.ref it) (.ref Dl) ce) (compPost (model X.prog X.w) X.A X.xe none Qf (.ref Dl) s3.heap.objs.size) s4 := by
    refine compLoop_any (fun n s' => ∃ i H', Inv (X.blk s3 H3 scope ce [it]) [] (wipe σ (own.map (·.2))) H' s' ∧ s'.heap.IsListIter it a i ∧ H' it = none ∧ W i n H') ?_ m0 ⟨0, H3, I4, st4, (f3 it (by simp)).1.1, w0⟩
    rintro n s5 ⟨i, H5, I5, st5, n5, w5⟩
    obtain ⟨b0, b1, b2, b3, b4, b5⟩ := stat I5 n5
    rcases turn i n H5 w5 with ⟨⟨ys, hy, hlen⟩, qq⟩ | ⟨⟨ys, y, hy, hyi⟩, Nx, hNx, step⟩
    · obtain ⟨its, rv, p5, hz⟩ := I5.list hy
      have hl := rv.length
      refine next_end_hot (hotB I5) npx st5 p5.isList (by simp; omega) fun h' eb => ?_
      have I6 : Inv (X.blk s3 H3 scope ce [it]) [] (wipe σ (own.map (·.2))) H5 { s5 with heap := h' } := I5.turned (t' := s5.toks) (fun b o hb e => eb b o hb e) b0 b1 b3 b4 b5
      have I7 : Inv X pins σ H5 { s5 with heap := h' } := I3.call' (ch := [it]) I6.os I6.base I6.hok I6.bare fun b hb => ⟨(f3 b hb).1.2.2.2.1, (f3 b hb).1.2.1, (f3 b hb).1.2.2.2.2.1, (f3 b hb).1.2.2.2.2.2⟩
      have nC : H5 s3.heap.objs.size = none := cL ▸ (show H5 ce.locals = none from I6.free)
      obtain ⟨m, hn, _⟩ := I6.loc
      exact fin Dl s3.heap.objs.size _ m H5 I7 qq (cL ▸ (show Heap.Ns _ ce.locals m from hn)) (I3.fpOk (Nat.le_refl _) nC)
    · obtain ⟨its, rv, p5, hz⟩ := I5.list hy
      obtain ⟨u, hu, ru⟩ := rv.get hyi
      refine wpAny_pyNext_list_item st5 p5.isList (x := u) (by simpa using hu) fun h' st6 sb => ?_
      have I6 : Inv (X.blk s3 H3 scope ce [it]) [] (wipe σ (own.map (·.2))) H5 { s5 with heap := h' } := I5.turned (t' := s5.toks) (fun b o hb e => (sb.2 b hb).trans e) b0 b1 b3 b4 b5
      obtain ⟨oi, gi, ci, di⟩ := id st6
      refine go_of (s := { s5 with heap := h' }) gi ci di (by decide) ?_
      have I6' := I6.pinned (fp := [it]) (fun b hb => by rw [show b = it by simpa using hb]; exact stat I6 n5) fun b hb => by
        rw [show b = it by simpa using hb]
        exact ⟨oi, gi, fun v z => by rw [di] at z; cases z⟩
      have yl : (Itl X.K a).yld i H5 y H5 := ⟨rfl, fun zs hz2 => by rw [I5.list_inj hz2 hy]; exact hyi⟩
      refine thnF (pg.run _ _ _ H5 y u _ I6' ru (step y H5 yl)) fun _ s8 ⟨σ8, H8, I8, hw8, q8⟩ => ?_
      refine thnF (pt.run _ s8 σ8 H8 _ I8 q8) fun b s9 ⟨H9, I9, q9⟩ => ?_
      have again : ∀ {s' : Shared} {H' : Hp}, Inv (X.blk s3 H3 scope ce [it]) ([] ++ pinsAt [it] h') σ8 H' s' → Nx H' → ∃ m, m < n ∧ ∃ i H', Inv (X.blk s3 H3 scope ce [it]) [] (wipe σ (own.map (·.2))) H' s' ∧ s'.heap.IsListIter it a i ∧ H' it = none ∧ W i m H' := fun {s' H'} J nx => by
        obtain ⟨m', hm, w'⟩ := hNx H' nx
        have pin := J.pin (it, oi) (List.mem_append_right _ (List.mem_append_right _ (mem_pinsAt (by simp) gi)))
        have hl : (wipe σ (own.map (·.2))).length = σ8.length := by rw [← hw8, wipe_length]
        refine ⟨m', hm, i + 1, H', (J.unpinned (pins := [])).weak hl (fun j v e => ?_), ⟨oi, pin.1, ci, di⟩, pin.2.1, w'⟩
        rw [← hw8] at e
        exact (wipe_some e).1
      cases b with
      | false =>
        simp only [Bool.false_eq_true, if_false] at q9 ⊢
        exact again I9 q9
      | true =>
        simp only [if_true] at q9 ⊢
        refine thnF (pe.run _ s9 σ8 H9 _ I9 q9) fun z s10 ⟨yv, H10, I10, r10, acc, hD10, hz10, nx10⟩ => ?_
        exact app_ok (X := X.blk s3 H3 scope ce [it]) I10 hD10 hz10 r10 fun s11 I11 => again I11 nx10
  exact codeAny_compStart_list loop (wpAny_pyIter_listiter st4 loop)
/-- .. as a value -/
theorem ev_lcH {Γ : List Sl} {tg iter : Expr} {pos : Pos} {α : Type} {own : List (Str × Nat)} {scope : Scope} {elt : Expr} {ifs : List Expr} {ys : List α} {enc : α → D} {p : α → Bool} {f : α → D} (hot : HotC X) (nd : X.N.Nodup) (src : EvD X iter Γ (.list (ys.map enc))) (ok : BlkOk X.N X.env.scope scope own) (len : ys.length ≤ 100000) (tn : TurnD X Γ own scope tg elt ifs ys enc p f)
    (hs : ∀ x, foldedSetIterable iter X.env x = pure x := by intro _; rfl) : EvD X (.ListComp elt [⟨tg, iter, ifs, 0⟩] scope pos) Γ (.list ((ys.filter p).map f)) := fun B G H σ E Q q => by
  have h : tLc (iList X.K (wE X iter)) (tgB X scope tg) (tsB X scope ifs) (teB X scope elt) (own.map (·.2)) σ H Q := lc_tell (fun R r => src B G H σ E _ fun v G1 H1 s1 k1 => by
    obtain ⟨p, vs, rfl, hp, hd⟩ := k1.list
    refine ⟨p, rfl, ⟨vs, s1.gh.seq hp⟩, r _ G1 H1 s1 ⟨_, _, by rw [← hd.len]; exact walk_list, fun H2 e => e.1.seq hp, fun i G2 H2 v H3 hi e1 e2 e3 y => ?_⟩⟩
    obtain ⟨rfl, hv⟩ := y
    obtain ⟨x, e4, d⟩ := hd.get' hv
    exact ⟨G2, x, e4, .refl e2, dt_mono e1 _ _ d⟩) len tn E fun d vs G' H' t hH hG hd da => by
    refine q _ (upd G' d (.lst vs)) _ ⟨t.g.trans (same_upd hG), t.h, fun a o e => ?_, fun a => ?_, fun n => (t.nt n).upd fun ps z => by cases z⟩ (.lst (.of upd_same) (dp_lay hG da))
    · by_cases z : a = d
      · subst z; rw [upd_same] at e; rw [hd]; exact e
      · rw [upd_ne z] at e; exact t.gh _ _ e
    · by_cases z : a = d
      · subst z; exact .inr hH
      · rw [upd_ne z]; exact t.new a
  intro pins s I
  rw [eval_ListComp]
  refine lcH_core hot nd I pe_w ok (fun s H C cl fp => ⟨fun pins s' σ H' v u Q I r z => z s H C cl fp pins s' u I r⟩) (fun s H C cl fp => ⟨fun pins s' σ H' Q I z => z s H C cl fp pins s' I⟩) (fun s H C cl fp => ⟨fun pins s' σ H' Q I z => z s H C cl fp pins s' I⟩) hs h fun Dl C s' m H' I' q hn f => ⟨m, hn, fun h'' sb => ?_⟩
  obtain ⟨f0, f1, f2, f3, f4, f5⟩ := f
  exact ⟨.ref Dl, H', I'.turned (t' := s'.toks) (fun b o hb e => (sb.2 b hb).trans e) f0 f1 f3 f4 f5, rfl, q⟩
end
end Wl

/-! W7: a lambda handed to a def that tells its value or the class of its refusal. -/
namespace Wl
open PySem PySem.Spec PyProof.Rows L2 HotX L2H LamX
variable [Tb]
/-- the context of the lambda's body; what leaves it bears no context of its own -/
def lamN (X : Cx) (A : Around) (outer : List PySem.Env) (s : Shared) (H : Hp) (E : XK) (scope : Scope) (f c' : Addr) : Cx := { lamCx X A outer s H E scope f c' with
  xe := fun e s' => wpAny (model X.prog X.w) (A.deeper (lamEnv X scope s.heap.objs.size f c')) (leaving (lamEnv X scope s.heap.objs.size f c') e) (fun _ s2 => L2N.CX X.prog X.w outer H s E e s2) (fun e2 s2 => L2N.CX X.prog X.w outer H s E e2 s2) s' }
/-- a thing of which nothing is asked (the caught exception) -/
def xR (p : Addr) : Res where
  root := p
  at_ := fun K G H fp => fp = []
  mono := fun h _ _ => h
  live := fun {K G H fp} h a ha => by
    have h : fp = [] := h
    rw [h] at ha; cases ha
/-! ### the def that gets the exception, called in the suite -/
/-- such a def's promise: p is the exception that is handled, of the class named n; it tells a text -/
structure FnZ (P : Program) (w : World) (K : Frg) (mg : Str → Option Value) (base : Heap) (k : Nat) (f : Addr) (fd : FuncData) (x : Str) (clf : Str → Str) (ok : Str → Prop) : Prop where
  run : ∀ (A : Around) (outer : List PySem.Env) (s : Shared) (H G : Hp) (p : Addr × Obj) (n : Str) (Q : VK) (E : XK), RoomH k A → Hot1 A p → PinOk outer H s p → Env0 P w K mg base A outer s H → BindsTo s fd ⟨[.ref p.1], []⟩ [(x, .ref p.1)] → ok n → Zc (.ref (clsAt mg n)) none p.2 →
    Same G H → LamX.Tabs Tb.T H → NoT G → (∀ v G' H', Stp G H G' H' → Dt K G' v (.str (clf n)) → Q v H') → codeAny (model P w) A (.call (.ref f) ⟨[.ref p.1], []⟩) (CR (L2N.CX P w) outer P w H s Q E) s
theorem env_startX {K : Frg} {G H : Hp} {N : List Str} {p : Addr} (e : Same G H) (t : LamX.Tabs Tb.T H) (nt : NoT G) : Env K ⟨G, H, []⟩ G H (L2.start N [.ref p]) (Sl.r (xR p) :: List.replicate (N.length - 1) .un) := by
  refine ⟨e, Same.refl _, fun _ => .inl rfl, fun a o h _ _ => h, t, nt, List.replicate ((N.length - 1) + 1) [], ?_, ?_, fun a ha => ?_⟩
  · exact ⟨⟨rfl, rfl⟩, sls_start (vs := []) (xs := []) (K := K) (G := G) (H := H) (N.length - 1) .nil |> fun k => by simpa using k⟩
  · rw [flat_nil]; exact List.nodup_nil
  · rw [flat_nil] at ha; cases ha
theorem fn_Z {P : Program} {w : World} {K : Frg} {mg : Str → Option Value} {base : Heap} {nm x : Str} {params : Arguments} {body : List Stmt} {scope : Scope} {f : Addr} {fd : FuncData} {N : List Str} {k : Nat} {clf : Str → Str} {ok : Str → Prop} (F0 : FunD K nm nm params body scope [] [] f fd) (S : FnScope N [x] scope)
    (hbody : ∀ (cdv : Value) (A : Around) (outer : List PySem.Env) (s : Shared) (H : Hp) (E : XK) (p : Addr × Obj) (n : Str), Hot1 A p → RoomH k (A.deeper (envOfC nm scope s.heap.objs.size f cdv)) → ok n → Zc (.ref (clsAt mg n)) none p.2 →
      Ss (cxH (L2N.CX P w) P w K mg base N nm scope f cdv A outer s H E p) body (knO (.ret (.str (clf n)))) (Sl.r (xR p.1) :: List.replicate (N.length - 1) .un)) :
    FnZ P w K mg base (k + 1) f fd x clf ok := by
  obtain ⟨oc, od, dV, kV, doc, pm, an, cdv, ct, osl, rfl, lk, hcd, _, _⟩ := F0.ex
  refine ⟨fun A outer s H G p n Q E hr hot hpin e0 hb hn hz e tb nt q => ?_⟩
  have KX : K.In s.heap := e0.mod.kin.keeps (fun b o z => (e0.bs b o z).1)
  have nl : s.heap.NoLimit := e0.mod.nolimit.keeps (fun b o z => (e0.bs b o z).1)
  have kd : ∀ y ∈ [x].zip [Value.ref p.1], scope.names.lookup y.1 = some .local ∨ (scope.names.lookup y.1 = some .cell ∧ ((cellsFrom (s.heap.objs.size + 1) scope.names []).lookup y.1).isSome = true) := fun y hy => by
    rcases S.par y.1 (List.of_mem_zip (show (y.1, y.2) ∈ _ from hy)).1 with k | k
    · exact .inl k
    · exact .inr ⟨k, PySem.W.cellsFrom_some _ _ _ (.inl k)⟩
  refine codeAny_call_function hr.depth (KX _ _ lk) rfl S.co S.gen rfl (PySem.W.codeRec_of KX hcd) (hb _ _ _ _ (wpAny_newFunctionEnv_cells S.kind kd fun env he s1 z => ?_))
  subst he
  refine ⟨nl.keeps z.toInCall.keep, codeAny_func ?_⟩
  have I := inv_startH (CX := L2N.CX P w) (E := E) (cd := cdv) (vs := [.ref p.1]) (us := [.ref p.1]) S hpin e0 rfl (.cons rfl .nil) z
  have Bd := hbody cdv A outer s H E p n hot (hr.deeper _) hn hz ⟨G, H, []⟩ G H _ (env_startX (N := N) (p := p.1) e tb nt) ⟨fun cls d _ H' => E cls d H', L2N.takes_of rfl rfl rfl rfl, passes_of rfl, fun c σ G' H' Γ E' y => by cases (show Oc.ret _ = Oc.exc c from y)⟩
  refine wpAny_mono (Bd [] s1 I) (fun fl s' hs => ?_) fun e2 s' hs => hs
  cases fl with
  | ret u =>
    obtain ⟨v, σ', H', J, rv, G', σ2, s2, Γ', E', y, y1, y2⟩ := hs
    subst y1
    cases y2
    obtain ⟨v2, hv, dv⟩ := E'.get_d (i := 0) rfl
    cases hv
    exact ⟨v, H', J.os, J.bare, J.base, J.hok, rv, q v G' H' E'.pop.stp dv⟩
  | next =>
    obtain ⟨σ', H', J, G', Γ', E', y⟩ := hs
    cases (show Oc.ret (.str (clf n)) = Oc.ret .none from y)
  | brk =>
    obtain ⟨_, _, _, _, _, _, y⟩ := hs
    exact False.elim y
  | cont =>
    obtain ⟨_, _, _, _, _, _, y⟩ := hs
    exact False.elim y
/-! ### the lambda called -/
section
variable {X : Cx} {pins : List (Addr × Obj)} {σ : L2.St} {G H H1 : Hp} {s s' : Shared} {B : Bs} {Γ : List Sl}
/-- a(), where a holds the lambda; Y is the context of the def that got it, entered at s' -/
theorem act_N {CXg : CXT} {Eg E : XK} {Ng : List Str} {qg a : Str} {sg scope : Scope} {g f c' : Addr} {cdg pm ctv : Value} {params : Arguments} {body : Expr} {k : Nat} {pn : List (Addr × Obj)} {xe : Value → Shared → Prop} {W : WX} {o : Oc} {p1 p2 : Pos}
    (I : Inv X pins σ H1 s') (Ev : Env X.K B G H1 σ Γ) (L : LamS X.env.scope scope) (hf : s'.heap.get? f = some (PySem.W.kla_obj "<lambda>" (X.env.qual ++ "<lambda>") params body scope (cloFrom X.env.cells scope.names []) pm c' ctv)) (hfn : H1 f = none) (hfr : f ∉ frs X.stack) (hco : H1 c' = some (CodeO c' (X.env.qual ++ "<lambda>")))
    (hbind : bindArgs (PySem.W.kla_fn "<lambda>" (X.env.qual ++ "<lambda>") params body scope (cloFrom X.env.cells scope.names []) pm (.ref c') ctv) ⟨[], []⟩ = pure [])
    (tk : L2N.Takes ((cxOf CXg X.prog X.w X.K X.mg X.base Ng qg sg g cdg X.A X.stack s' H1 Eg).tr pn xe) W) (hW : ∀ cls d σ' H', E cls d H' → W cls d σ' H') (hr : Room (k + 1) (X.A.deeper (envOfC qg sg s'.heap.objs.size g cdg)))
    (hbody : ∀ (A : Around) (outer : List PySem.Env) (s : Shared) (H : Hp) (E : XK), Room k (A.deeper (lamEnv X scope s.heap.objs.size f c')) → EvX (lamN X A outer s H E scope f c') body Γ o)
    (hN : Ng[0]? = some a) (hv : Vis sg a) (hd : (a == ("__debug__" : Str)) = false) (hcd : (a == ("__classdict__" : Str)) = false) :
    PE ((cxOf CXg X.prog X.w X.K X.mg X.base Ng qg sg g cdg X.A X.stack s' H1 Eg).tr pn xe) (.Call (.Name a p1) [] [] p2) (fun σZ HZ Q => σZ[0]? = some (some (.ref f)) ∧ HZ = H1 ∧ (match o with
      | .ret x => ∀ v G' H', Stp G H1 G' H' → Dt X.K G' v x → Q v H'
      | .exc n => ∀ G' H', Stp G H1 G' H' → E (.ref (clsAt X.mg n)) none H')) := by
  refine ⟨fun pinsZ sZ σZ HZ Q IZ ⟨hs, eHZ, hq⟩ => ?_⟩
  subst eHZ
  refine wpAny_Call_Name_kw (thn ((pe_var (pos := p1) (i := 0) hN hv hd hcd).run pinsZ sZ σZ HZ (fun v H1 => v = .ref f ∧ H1 = HZ) IZ ⟨.ref f, hs, rfl, rfl⟩) fun u s1 ⟨v, H2, I1, r1, ev, eH⟩ => ?_)
  subst ev eH
  obtain rfl : u = Value.ref f := r1
  have gf := I1.base.keep f _ hf hfn hfr (fun z => nomatch (show f ∈ ([] : List Addr) from z))
  refine PySem.W.callWith_F0 ⟨_, _, _, _, gf⟩ ?_
  obtain ⟨⟨oc, vs, t, hoc, hdc, hvc⟩, _, _⟩ := I1.hok c' _ hco
  have run : codeAny (model X.prog X.w) (X.A.deeper (envOfC qg sg s'.heap.objs.size g cdg)) (.call (.ref f) ⟨[], []⟩) (CR (L2N.CX X.prog X.w) (envOfC qg sg s'.heap.objs.size g cdg :: X.stack) X.prog X.w H2 s1 Q E) s1 := by
    refine PySem.W.kla_callFunE hr.depth gf rfl L.co L.gen rfl ⟨c', oc, vs, t, rfl, hoc, hdc, hvc⟩ ?_
    rw [hbind]
    refine wpAny_pure (wpAny_newFunctionEnv (fun y hy => (L.own y hy).2) (fun y hy => absurd hy (by simp)) (fun h1 hns hsb => ⟨I1.nolimit.fresh _ hsb, ?_⟩) L.kind)
    show codeAny _ _ (.expr body (lamEnv X scope s1.heap.objs.size f c')) _ _
    have kp := fun (b : Addr) (u : Obj) (e : s1.heap.get? b = some u) => hsb.extBut b u (Nat.ne_of_lt (Heap.lt_size e)) (Heap.get?_push_of_some _ e)
    have J := lam_start2 (E := E) (f := f) (c' := c') (tk := s1.toks + ([] : List (Str × Value)).length) I L I1.env0 hr.hd I1.base hns kp
    have J2 : Inv (lamN X (X.A.deeper (envOfC qg sg s'.heap.objs.size g cdg)) (envOfC qg sg s'.heap.objs.size g cdg :: X.stack) s1 H2 E scope f c') [] σ H2 { s1 with heap := h1, toks := s1.toks + ([] : List (Str × Value)).length } := ⟨⟨J.ok.mod, J.ok.kind, J.ok.glob, J.ok.blt, J.ok.above, J.ok.inj, J.ok.has, J.ok.cab, J.ok.hd, J.ok.frames, J.ok.stk, J.ok.exf, J.ok.bs, J.ok.bsz, J.ok.noex, J.ok.exfs, J.ok.funs, J.ok.frf⟩, J.os, J.bare, J.base, J.loc, J.cell, J.free, J.freeC, J.pin, J.hok, J.len⟩
    have Bd := hbody (X.A.deeper (envOfC qg sg s'.heap.objs.size g cdg)) (envOfC qg sg s'.heap.objs.size g cdg :: X.stack) s1 H2 E (hr.deeper _) B G H2 σ Ev (fun cls d _ H' => E cls d H') (L2N.takes_of rfl rfl rfl rfl) Q (by
      cases o with
      | ret x => exact hq
      | exc n => exact hq)
    refine PySem.W.kla_codeExpr (wpAny_mono (Bd [] _ J2) (fun v s' hq => ?_) fun e s' hq => hq)
    obtain ⟨w', H', J', rv, q⟩ := hq
    exact ⟨w', H', J'.os, J'.bare, J'.base, J'.hok, rv, q⟩
  refine wpAny_call (codeAny_mono run fun r s2 hq => ?_)
  cases r with
  | error e => exact L2N.passes_call tk hW pinsZ σZ H2 s1 e s2 I1 hq
  | ok fl =>
    cases fl with
    | ret u => exact I1.after hq
    | next => exact False.elim hq
    | brk => exact False.elim hq
    | cont => exact False.elim hq
/-! ### the whole: the def told(lambda: body) -/
/-- the def that tells, as it stands behind the top; cl: the def that names the class of a refusal -/
structure ToldF (X : Cx) (x a : Str) (g : Addr) (clf : Str → Str) (ok : Str → Prop) (kz : Nat) : Prop where
  ex : ∃ (pg : Arguments) (bg : List Stmt) (sg : Scope) (fdg fdz : FuncData) (Ng : List Str) (e lerr cl xz : Str) (ie : Nat) (CS fz : Addr) (p1 p2 p3 p4 p5 p6 p7 p8 p11 p12 : Pos),
    FunD X.K x x pg bg sg [] [] g fdg ∧ FnScope Ng [a] sg ∧ L2.Binds X.K fdg [a] [] ∧
    bg = [.Try [.Return (some (.Call (.Name a p1) [] [] p2)) p3] [.ExceptHandler (some (.Name lerr p4)) (some e) [.Return (some (.Call (.Name cl p5) [.Name e p6] [] p7)) p8] p11] [] [] p12] ∧
    Ng[0]? = some a ∧ sg.names.lookup a = some .local ∧ Ng[ie]? = some e ∧ sg.names.lookup e = some .local ∧ sg.names.lookup lerr = some .globalImplicit ∧ sg.names.lookup cl = some .globalImplicit ∧
    (a == ("__debug__" : Str)) = false ∧ (a == ("__classdict__" : Str)) = false ∧ (e == ("__debug__" : Str)) = false ∧ (e == ("__classdict__" : Str)) = false ∧ (lerr == ("__debug__" : Str)) = false ∧ (cl == ("__debug__" : Str)) = false ∧
    X.mg lerr = some (.ref CS) ∧ X.mg cl = some (.ref fz) ∧ PySem.W.keepIn X.K (.ref fz) = true ∧ L2.Binds X.K fdz [xz] [] ∧ FnZ X.prog X.w X.K X.mg X.base kz fz fdz xz clf ok ∧ (∀ n, ok n → PySem.W.exmOne X.K (.ref (clsAt X.mg n)) (.ref CS) = some true)
theorem takesN0 {X : Cx} : L2N.Takes X (fun _ _ _ _ => False) := fun _ _ ⟨_, _, _, _, _, _, _, _, _, _, _, _, _, _, _, _, z⟩ => z.elim
/-- the suite: return cl(e) -/
theorem suite_ret {Z : Cx} {clf : Str → Str} {ok : Str → Prop} {kz ie : Nat} {fz : Addr} {fdz : FuncData} {xz cl e : Str} {a : Addr} {oe : Obj} {cls : Value} {d : Option Addr} {pn : List (Addr × Obj)} {p5 p6 p7 p8 : Pos} (FZ : FnZ Z.prog Z.w Z.K Z.mg Z.base kz fz fdz xz clf ok) (hz : L2N.Zn cls d oe) (hf : ∃ vs, oe.data = .fields vs)
    (hr : RoomH kz Z.A) (hie : Z.N[ie]? = some e) (hv : Vis Z.env.scope e) (hd : (e == ("__debug__" : Str)) = false) (hcd : (e == ("__classdict__" : Str)) = false) (hg : Gl Z cl) (hdb : (cl == ("__debug__" : Str)) = false) (hm : Z.mg cl = some (.ref fz)) (hk : PySem.W.keepIn Z.K (.ref fz) = true) (hb : L2.Binds Z.K fdz [xz] []) :
    PSs (Z.suite a ((a, oe) :: pn)) [.Return (some (.Call (.Name cl p5) [.Name e p6] [] p7)) p8] (fun D σz Hz => d = none ∧ (∃ σ0 : L2.St, σz = σ0.set ie (some (.ref a))) ∧ ∃ n, ok n ∧ cls = .ref (clsAt Z.mg n) ∧ ∃ G' : Hp, Same G' Hz ∧ Tabs Tb.T Hz ∧ NoT G' ∧ ∀ v G2 H2, Stp G' Hz G2 H2 → Dt Z.K G2 v (.str (clf n)) → D.rt v H2) := by
  refine pss_one (ps_ret (te := fun σz Hz Q => d = none ∧ (∃ σ0 : L2.St, σz = σ0.set ie (some (.ref a))) ∧ ∃ n, ok n ∧ cls = .ref (clsAt Z.mg n) ∧ ∃ G' : Hp, Same G' Hz ∧ Tabs Tb.T Hz ∧ NoT G' ∧ ∀ v G2 H2, Stp G' Hz G2 H2 → Dt Z.K G2 v (.str (clf n)) → Q v H2) ⟨fun pins s σ H Q I h => ?_⟩)
  obtain ⟨hd0, ⟨σ0, es⟩, n, hn, ec, G', hs, ht, hnt, q⟩ := h
  subst hd0
  have lie : ie < σ0.length := by
    have l1 := I.len
    rw [es, List.length_set] at l1
    rw [l1]
    exact (List.getElem?_eq_some_iff.mp hie).1
  have hσ : σ[ie]? = some (some (.ref a)) := by rw [es]; exact List.getElem?_set_self lie
  refine wpAny_Call_Name_kw (ld_glob I hg hm ?_ hdb)
  have pa : PA (Z.suite a ((a, oe) :: pn)) [.Name e p6] (tCons (tVar ie) tNil) := pa_cons (pe_var (X := Z.suite a ((a, oe) :: pn)) hie hv hd hcd) pa_nil
  refine PySem.W.callWith_K (h₀ := Z.base) I.ok.mod.kin hk (thn (pa.run p7 pins s σ H (fun vs H1 => vs = [V.ref a] ∧ H1 = H) I ⟨.ref a, hσ, rfl, rfl⟩) fun us s1 ⟨vs, H1, I1, r, ev, eH⟩ => ⟨I1.kIn, ?_⟩) (by rfl) (by rfl)
  subst ev eH
  rw [Vals.ref1 r]
  obtain ⟨vs, hvs⟩ := hf
  obtain ⟨g1, g2, g3, g4, g5⟩ := I1.pin (a, oe) (List.mem_append_left _ List.mem_cons_self)
  have hot : Hot1 (Z.suite a ((a, oe) :: pn)).A (a, oe) := ⟨rfl, vs, hvs, hz.2.2 vs hvs⟩
  have pinok : PinOk (Z.suite a ((a, oe) :: pn)).stack H1 s1 (a, oe) := ⟨g1, g2, fun y => (List.mem_cons.mp (I1.stkSub a y)).elim g3 g4, g5⟩
  have zc : Zc (.ref (clsAt Z.mg n)) none oe := ⟨hz.1.trans ec, hz.2.1⟩
  have bs := hb s1 [.ref a] I1.kIn rfl
  refine wpAny_call (codeAny_mono (FZ.run _ _ s1 H1 G' (a, oe) n Q (fun _ _ _ => False) ⟨hr.dp, hr.un⟩ hot pinok I1.env0 bs hn zc hs ht hnt q) fun r s2 hq => ?_)
  cases r with
  | error u => exact (show False from let ⟨_, _, _, _, _, _, _, _, _, _, _, _, z⟩ := hq; z).elim
  | ok fl =>
    cases fl with
    | ret u => exact I1.after hq
    | next => exact False.elim hq
    | brk => exact False.elim hq
    | cont => exact False.elim hq
def Tells (clf : Str → Str) (ok : Str → Prop) (o : Oc) (z : D) : Prop := match o with
  | .ret y => z = y
  | .exc n => ok n ∧ z = .str (clf n)
theorem ev_told {x a : Str} {g c P : Addr} {clf : Str → Str} {ok : Str → Prop} {k kz : Nat} {params : Arguments} {body : Expr} {scope : Scope} {o : Oc} {z : D} {p lpos pos : Pos} (TF : ToldF X x a g clf ok kz) (hm : X.mg x = some (.ref g)) (hg : Gl X x) (hbody : ∀ (A : Around) (outer : List PySem.Env) (s : Shared) (H : Hp) (E : XK) (f c' : Addr), Room k (A.deeper (lamEnv X scope s.heap.objs.size f c')) → EvX (lamN X A outer s H E scope f c') body Γ o)
    (ho : Tells clf ok o z) (TB : TabB X.base X.mg c P) (hcode : X.env.code = .ref c) (hmT : (P, X.env.qual ++ "<lambda>") ∈ Tb.T) (hu : ∀ p ∈ Tb.T, p.1 = P → p.2 = X.env.qual ++ "<lambda>") (hr : Room (k + 2) X.A) (hkz : kz ≤ k) (L : LamS X.env.scope scope) (hdef : defaultsOf params X.env = ([], []))
    (hbind : ∀ (q : Str) (cl : List (Str × Addr)) (pm cv ctv : Value), bindArgs (PySem.W.kla_fn "<lambda>" q params body scope cl pm cv ctv) ⟨[], []⟩ = pure []) (hdb : (x == ("__debug__" : Str)) = false := by decide) : EvD X (.Call (.Name x p) [.Lambda params body scope lpos] [] pos) Γ z := fun B G H σ E Q q pins s I => by
  obtain ⟨pg, bg, sg, fdg, fdz, Ng, e, lerr, cl, xz, ie, CS, fz, p1, p2, p3, p4, p5, p6, p7, p8, p11, p12, F0, Sg, bd, hbg, h0, ha, hie, he, hlerr, hcl, n1, n2, n3, n4, n5, n6, mCS, mfz, kfz, bz, FZ, hex⟩ := TF.ex
  subst hbg
  have kp := F0.kp
  obtain ⟨oc, od, dV, kV, dd, pm, an, cdv, ct, osl, rfl, lk, hcd, _, _⟩ := F0.ex
  refine wpAny_Call_Name_kw (ld_glob I hg hm ?_ hdb)
  refine PySem.W.callWith_K (h₀ := X.base) I.ok.mod.kin kp ?_ rfl rfl
  show wpAny _ _ (spliced ((false, eval (.Lambda params body scope lpos) X.env) :: backTo pos (starEach [] X.env))) _ _ s
  refine Calls.spliced_cons (lam_make2 (T := Tb.T) I TB hcode hmT hu E.tab hdef (L.has I.ok) fun f c' pm' ctv H1 s' I1 eN T1 hf hfn hfr hco => ?_)
  refine Calls.spliced_nil ⟨I1.kIn, ?_⟩
  have st : Stp G H G H1 := ⟨Same.refl _, ⟨eN, fun _ => T1⟩, fun a o h => eN a o (E.gh a o h) (fun ps z => E.nt a ps (z ▸ h)), fun _ => .inl rfl, id⟩
  have E1 := E.step st
  have run : codeAny (model X.prog X.w) X.A (.call (.ref g) ⟨[.ref f], []⟩) (CR C8.CX0 X.stack X.prog X.w H1 s' Q C8.E0) s' := by
    refine run_ofS (N := Ng) (ps := [a]) (us := [.ref f]) (vs := [.ref f]) lk hcd Sg hr I1.env0 (bd s' [.ref f] I1.kIn rfl) (.cons rfl .nil) rfl fun hr2 => ?_
    let Z := cxOf C8.CX0 X.prog X.w X.K X.mg X.base Ng x sg g cdv X.A X.stack s' H1 C8.E0
    let ts : Addr → Value → Option Addr → TS := fun a cls d D σz Hz => d = none ∧ (∃ σ0 : L2.St, σz = σ0.set ie (some (.ref a))) ∧ ∃ n, ok n ∧ cls = .ref (clsAt Z.mg n) ∧ ∃ G' : Hp, Same G' Hz ∧ Tabs Tb.T Hz ∧ NoT G' ∧ ∀ v G2 H2, Stp G' Hz G2 H2 → Dt Z.K G2 v (.str (clf n)) → D.rt v H2
    let tb : WX → TS := fun W D σz Hz => ∃ Ech : XK, (∀ cls d σ' H', Ech cls d H' → W cls d σ' H') ∧ σz[0]? = some (some (.ref f)) ∧ Hz = H1 ∧ (match o with
      | .ret x => ∀ v G' H', Stp G H1 G' H' → Dt X.K G' v x → D.rt v H'
      | .exc n => ∀ G' H', Stp G H1 G' H' → Ech (.ref (clsAt X.mg n)) none H')
    refine ⟨_, (pss_one (L2N.ps_try_as (X := Z) (c := .ref CS) (i := ie) (tb := tb) (ts := ts) (Wout := fun _ _ _ _ => False) rfl rfl Sg.nd hie he ⟨hlerr, n5, .inl mCS⟩ takesN0 (fun W pn xe tk po => ⟨fun pinsZ sZ σZ HZ D IZ hh => ?_⟩)
      (fun a oe cls d pn hz hf => suite_ret (Z := Z) FZ hz hf ((roomH_of hr2).mono (by omega)) hie (.inl he) n3 n4 hcl n6 mfz kfz bz))), ?_⟩
    · obtain ⟨Ech, hW, h1, h2, h3⟩ := hh
      have pe := act_N (p1 := p1) (p2 := p2) (E := Ech) (pn := pn) (xe := xe) (o := o) I1 E1 L hf hfn hfr hco (hbind _ _ _ _ _) tk hW hr2 (fun A outer s H E hr3 => hbody A outer s H E f c' hr3) h0 (.inl ha) n1 n2
      refine (pss_one (ps_ret (pos := p3) pe)).run pinsZ sZ σZ HZ D IZ ⟨h1, h2, ?_⟩
      cases o with
      | ret y => exact h3
      | exc n => exact h3
    · have hs0 : (L2.start Ng [V.ref f])[0]? = some (some (V.ref f)) := rfl
      cases o with
      | ret y =>
        obtain rfl : z = y := ho
        exact ⟨fun _ _ _ => False, fun _ _ _ _ z => z.elim, hs0, rfl, fun v G' H' s1 d => q v G' H' (st.trans s1) d⟩
      | exc n =>
        obtain ⟨hn, rfl⟩ := (show ok n ∧ z = .str (clf n) from ho)
        refine ⟨fun cls d H' => cls = .ref (clsAt X.mg n) ∧ d = none ∧ ∃ G', Stp G H1 G' H', fun cls d σ' H' ⟨e1, e2, G', s1⟩ => ⟨true, by rw [e1]; exact hex n hn, fun _ a hna => ⟨e2, ⟨σ', rfl⟩, n, hn, e1, G', s1.gh, s1.h.t E1.tab, s1.nt E1.nt, fun v G2 H2 s2 d2 => q v G2 H2 ((st.trans s1).trans s2) d2⟩, fun z => by cases z⟩, hs0, rfl, fun G' H' s1 => ⟨rfl, rfl, G', s1⟩⟩
  refine wpAny_call (codeAny_mono run fun r s2 hq => ?_)
  cases r with
  | error u => exact (show False from hq).elim
  | ok fl =>
    cases fl with
    | ret u => exact I1.after hq
    | next => exact False.elim hq
    | brk => exact False.elim hq
    | cont => exact False.elim hq
end
end Wl

/-! W8: isinstance of the caught one, list.index; the tactic words. -/
namespace Wl
open PySem PySem.Spec PyProof.Rows L2 HotX L2H LamX
variable [Tb]
section
variable {X : Cx} {Γ : List Sl} {e a b c : Expr} {es : List Expr} {x y z : D} {xs : List D} {pos p2 : Pos}
theorem call_isX {p : Addr × Obj} {Dc : Addr} (hp : p ∈ X.pn) (C : ExcC X.K Dc) (hz : Zc (.ref Dc) none p.2) (hf : ∃ vs, p.2.data = .fields vs) : CallR X (.builtin "isinstance") (rIsE X.K Dc p.1) := by
  intro pins s σ H xs us Q I r ⟨c, cv, b, hx, hcv, e, q⟩
  subst hx
  cases r with
  | cons rx rr =>
    cases rr with
    | cons rt rr =>
      cases rr
      cases rx
      obtain rfl := hcv _ rt
      have g := (I.pin p (List.mem_append_left _ hp)).1
      obtain ⟨vs, hv⟩ := hf
      obtain ⟨pa, oc, od, oda, osl⟩ := p
      obtain ⟨h1, h2⟩ := hz
      dsimp only at h1 h2 hv g
      subst h1 h2 hv
      have J : PySem.W.InstAt s.heap pa ⟨.ref Dc, none, .fields vs, osl⟩ Dc none := ⟨g, rfl, rfl, trivial⟩
      exact PySem.W.kia_one (PySem.W.handS_kitx_exc C.hg C.hk C.hs C.hd C.ha C.hn C.ht C.hm) I.kIn J e (fun z => nomatch z) fun tk => ⟨.bl b, H, I.kept (t' := tk) fun _ _ z => z, rfl, q⟩
/-- isinstance(e, T) of the caught one -/
theorem ev_isX {p : Addr × Obj} {Dc : Addr} {n T : Str} {i : Nat} {cv : V} {u : Value} {b : Bool} {q q1 q2 : Pos} (hp : p ∈ X.pn) (C : ExcC X.K Dc) (hz : Zc (.ref Dc) none p.2) (hf : ∃ vs, p.2.data = .fields vs) (hm : X.mg "isinstance" = none) (hN : X.N[i]? = some n) (h : Γ[i]? = some (.r (xR p.1))) (hT : PE X (.Name T q1) (tC cv))
    (hcv : ∀ w, RelV cv w → w = u) (hk : PySem.W.kitOne X.K (.ref Dc) u = some b) (hv : Vis X.env.scope n) (hg : Gl X "isinstance") (hd : (n == ("__debug__" : Str)) = false := by decide) (hcd : (n == ("__classdict__" : Str)) = false := by decide)
    (he : starEach [.Name n q2, .Name T q1] X.env = (false, eval (.Name n q2) X.env) :: starEach [.Name T q1] X.env := by rfl) (hpl : (backTo pos (starEach [.Name T q1] X.env)).any (·.1) = false := by rfl) :
    EvD X (.Call (.Name "isinstance" q) [.Name n q2, .Name T q1] [] pos) Γ (.bool b) := fun B G H σ E Q k => by
  obtain ⟨e1, _⟩ := E.get_r h
  refine w_pe (pe_callB (call_isX hp C hz hf) hg hm (by decide +kernel) (pa_cons (pe_var hN hv hd hcd) (pa_cons hT pa_nil) he) (by decide) (by decide) he hpl) ⟨_, e1, cv, u, b, rfl, hcv, hk, k _ G H (.refl E.gh) (.bl _)⟩
/-- l.index(True) -/
theorem ev_indexB {o : Expr} {bs : List Bool} {j : Nat} {apos : Pos} (ho : EvW X o Γ (.list (bs.map .bool))) (he : EvD X e Γ (.bool true)) (hj : bs[j]? = some true) (hn : ∀ m, m < j → bs[m]? = some false)
    (hbase : attributeBase o "index" X.env (eval o X.env) = eval o X.env := by rfl)
    (hfew : ((backTo p2 (starEach [e] X.env)).all (fun x => !x.1) && (backToKw p2 (keywordEach [] X.env)).all (fun x => x.1.isSome) && decide ([e].length + ([] : List Keyword).length + (if ([] : List Keyword).isEmpty then 0 else 1) < 30)) = true := by rfl)
    (hline : (apos.endLine == p2.line) = true := by rfl) (hs : starEach [e] X.env = (false, eval e X.env) :: starEach [] X.env := by rfl) (hplain : (backTo p2 (starEach [] X.env)).any (·.1) = false := by rfl) :
    EvD X (.Call (.Attribute o "index" apos) [e] [] p2) Γ (.int (j : Nat)) := fun B G H σ E Q q =>
  w_pe (pe_bm PySem.F.plainAttrs_list PySem.F.slot_list_index PySem.F.type_list_index mt_index pe_w (pa_cons pe_w pa_nil hs) hbase hfew hline hs hplain) (ho B G H σ E _ fun v G1 H1 s1 k1 => by
    obtain ⟨p, vs, rfl, hq, hd⟩ := k1.list s1.gh
    have hvs := hd.bools
    subst hvs
    refine ⟨.inl ⟨rfl, ?_⟩, ?_⟩
    · exact ⟨_, hq⟩
    · refine he B G1 H1 σ (E.step s1) _ fun u G2 H2 s2 d2 => ?_
      cases d2
      refine ⟨p, bs.map V.bl, .bl true, j, .bl true, rfl, rfl, s2.h.seq hq, rfl, ?_, ?_, rfl, fun m z' hm hz' => ?_, q _ G2 H2 (s1.trans s2) (.int _)⟩
      · rw [List.all_eq_true]; intro w hw
        obtain ⟨b, _, rfl⟩ := List.mem_map.mp hw
        rfl
      · rw [List.getElem?_map, hj]; rfl
      · rw [List.getElem?_map, hn m hm] at hz'
        cases hz'
        rfl)
end
end Wl

/-! W9: rules by the names of the slots, for the tactic words. -/
namespace Wl
open PySem PySem.Spec PyProof.Rows L2 HotX L2H LamX
variable [Tb]
/-- n's slot -/
inductive Lk : List Str → List Sl → Str → Sl → Prop
  | here {n : Str} {N : List Str} {s : Sl} {Γ : List Sl} : Lk (n :: N) (s :: Γ) n s
  | there {n m : Str} {N : List Str} {s t : Sl} {Γ : List Sl} : Lk N Γ n s → Lk (m :: N) (t :: Γ) n s
theorem Lk.at_ {N : List Str} {Γ : List Sl} {n : Str} {s : Sl} (h : Lk N Γ n s) : ∃ i : Nat, N[i]? = some n ∧ Γ[i]? = some s := by
  induction h with
  | here => exact ⟨0, rfl, rfl⟩
  | there _ ih => obtain ⟨i, h1, h2⟩ := ih; exact ⟨i + 1, by simpa using h1, by simpa using h2⟩
/-- n's slot gets s -/
inductive Pt : List Str → List Sl → Str → Sl → List Sl → Prop
  | here {n : Str} {N : List Str} {s t : Sl} {Γ : List Sl} : Pt (n :: N) (t :: Γ) n s (s :: Γ)
  | there {n m : Str} {N : List Str} {s t : Sl} {Γ Γ' : List Sl} : Pt N Γ n s Γ' → Pt (m :: N) (t :: Γ) n s (t :: Γ')
theorem Pt.at_ {N : List Str} {Γ Γ' : List Sl} {n : Str} {s : Sl} (h : Pt N Γ n s Γ') : ∃ i : Nat, N[i]? = some n ∧ Γ' = Γ.set i s ∧ i < Γ.length := by
  induction h with
  | here => exact ⟨0, rfl, rfl, by simp⟩
  | there _ ih => obtain ⟨i, h1, h2, h3⟩ := ih; exact ⟨i + 1, by simpa using h1, by rw [h2, List.set_cons_succ], by simpa using h3⟩
section
variable {X : Cx} {Γ Γ' : List Sl} {e a b c : Expr} {es : List Expr} {x y z : D} {xs ys : List D} {pos p2 : Pos} {k : Kn} {st : Stmt} {sts : List Stmt} {N : List Str} {n : Str}
/-- the context's names -/
structure CN (X : Cx) (N : List Str) : Prop where
  n : X.N = N
theorem ev_nm (cn : CN X N) (l : Lk N Γ n (.d x)) (hv : Vis X.env.scope n) (hd : (n == ("__debug__" : Str)) = false) (hcd : (n == ("__classdict__" : Str)) = false) : EvD X (.Name n pos) Γ x := by
  obtain ⟨i, h1, h2⟩ := l.at_
  exact ev_name (by rw [cn.n]; exact h1) h2 hv hd hcd
theorem ew_nm {p : Addr} (cn : CN X N) (l : Lk N Γ n (.l p xs)) (hv : Vis X.env.scope n) (hd : (n == ("__debug__" : Str)) = false) (hcd : (n == ("__classdict__" : Str)) = false) : EvW X (.Name n pos) Γ (.list xs) := by
  obtain ⟨i, h1, h2⟩ := l.at_
  exact ev_nameL (by rw [cn.n]; exact h1) h2 hv hd hcd
/-- a whole number of the module -/
def GI (mg : Str → Option Value) (n : Str) (i : Int) : Prop := ∃ t, mg n = some (.int i t)
theorem ev_gi {i : Int} (h : GI X.mg n i) (hg : Gl X n) (hdb : (n == ("__debug__" : Str)) = false) : EvD X (.Name n pos) Γ (.int i) := by
  obtain ⟨t, h⟩ := h
  exact ev_glob (v := .int i) h ⟨t, rfl⟩ (fun _ => .int i) hg hdb
theorem ev_binA {op : Operator} (ha : EvW X a Γ x) (hb : EvW X b Γ y) (ho : BinD X op x y z) : EvD X (.BinOp a op b pos) Γ z := ev_bin ho ha hb
theorem ev_cmpA {op : CmpOp} {l : Bool} (ha : EvW X a Γ x) (hb : EvW X b Γ y) (ho : CmpD X op x y l) (hm : behindInMarks op b = false) : EvD X (.Compare a [op] [b] pos) Γ (.bool l) := ev_cmp ho ha hb hm
theorem et_cmpA {op : CmpOp} {l : Bool} (ha : EvW X a Γ x) (hb : EvW X b Γ y) (ho : CmpD X op x y l) (hm : behindInMarks op b = false) : EvT X (.Compare a [op] [b] pos) Γ l := et_cmp ho ha hb hm
theorem ev_chainA {op op' : CmpOp} {l m : Bool} (ha : EvW X a Γ x) (hb : EvW X b Γ y) (hc : EvW X c Γ z) (ho : CmpD X op x y l) (ho' : CmpD X op' y z m) (hm : lastMarks [op, op'] [b, c] = false) : EvD X (.Compare a [op, op'] [b, c] pos) Γ (.bool (l && m)) := ev_chain ho (fun _ => ho') (let ⟨r, h, _⟩ := ho'; ⟨r, h⟩) ha hb hc hm
theorem et_chainA {op op' : CmpOp} {l m : Bool} (ha : EvW X a Γ x) (hb : EvW X b Γ y) (hc : EvW X c Γ z) (ho : CmpD X op x y l) (ho' : CmpD X op' y z m) (hm : lastMarks [op, op'] [b, c] = false) : EvT X (.Compare a [op, op'] [b, c] pos) Γ (l && m) := et_chain ho (fun _ => ho') (let ⟨r, h, _⟩ := ho'; ⟨r, h⟩) ha hb hc hm
theorem eqv_int (i j : Int) : PyData.eqv (.int i) (.int j) = decide (i = j) := by
  by_cases h : i = j
  · subst h; simp [PyData.eqv]
  · simp [PyData.eqv, h]
theorem cmp_eqI {i j : Int} (hu : X.A.units + 64 < cLine) : CmpD X .Eq (.int i) (.int j) (decide (i = j)) := by
  rw [← eqv_int]; exact cmp_eq hu (by simp [PyData.depth])
theorem cmp_neI {i j : Int} (hu : X.A.units + 64 < cLine) : CmpD X .NotEq (.int i) (.int j) (!decide (i = j)) := by
  rw [← eqv_int]; exact cmp_ne hu (by simp [PyData.depth])
theorem ev_callBA {f : Str} {id : String} {p : Pos} (ha : EvB X (e :: es) Γ xs) (hc : CalD X (.builtin id) xs z) (hm : X.mg f = none) (hv : bootBuiltins f = some (.builtin id)) (hg : Gl X f) (hn : f ≠ "__name__") (hdb : (f == ("__debug__" : Str)) = false)
    (he : starEach (e :: es) X.env = (false, eval e X.env) :: starEach es X.env) (hpl : (backTo pos (starEach es X.env)).any (·.1) = false) : EvD X (.Call (.Name f p) (e :: es) [] pos) Γ z := ev_callB hc hm hv hg ha hn hdb he hpl
theorem ev_callTyA {f : Str} {T : String} {p : Pos} (ha : EvB X (e :: es) Γ xs) (hc : CalD X (.type T) xs z) (hm : X.mg f = none) (hv : bootBuiltins f = some (.type T)) (hg : Gl X f) (hn : f ≠ "__name__") (hdb : (f == ("__debug__" : Str)) = false)
    (he : starEach (e :: es) X.env = (false, eval e X.env) :: starEach es X.env) (hpl : (backTo pos (starEach es X.env)).any (·.1) = false) : EvD X (.Call (.Name f p) (e :: es) [] pos) Γ z := ev_callTy hc hm hv hg ha hn hdb he hpl
theorem s1_setP {p' : Pos} {i0 : List Str} (he : EvD X e Γ x) (cn : CN X N) (p : Pt N Γ n (.d x) Γ') (h : k.nx Γ') (nd : N.Nodup) (hx : Loc X.env.scope n) (hf : X.fn n = true ∨ X.env.scope.names.lookup n = some .local) (hs : swapsWith e (some (.Name n p')) pos.line X.env = pure false) :
    S1 X (.Assign [.Name n p'] e pos) k Γ := by
  obtain ⟨i, h1, h2, _⟩ := p.at_
  rw [h2] at h
  exact s1_set he h (by rw [cn.n]; exact nd) (by rw [cn.n]; exact h1) hx hf hs
theorem s1_setXP {p' : Pos} {o : Oc} (he : EvX X e Γ o) (cn : CN X N) (h : match o with | .ret x => ∃ Γ', Pt N Γ n (.d x) Γ' ∧ k.nx Γ' | .exc c => k.ex c Γ) (hi : n ∈ N) (nd : N.Nodup) (hx : Loc X.env.scope n) (hf : X.fn n = true ∨ X.env.scope.names.lookup n = some .local) (hs : swapsWith e (some (.Name n p')) pos.line X.env = pure false) :
    S1 X (.Assign [.Name n p'] e pos) k Γ := by
  cases o with
  | ret x =>
    obtain ⟨Γ', p, h⟩ := h
    obtain ⟨i, h1, h2, _⟩ := p.at_
    rw [h2] at h
    exact s1_setX he h (by rw [cn.n]; exact nd) (by rw [cn.n]; exact h1) hx hf hs
  | exc c =>
    obtain ⟨i, hi⟩ := List.mem_iff_getElem?.mp hi
    exact s1_setX (i := i) he h (by rw [cn.n]; exact nd) (by rw [cn.n]; exact hi) hx hf hs
theorem s1_newP {p' : Pos} (he : EvA X es Γ xs) (cn : CN X N) (p : ∀ q, ∃ Γ', Pt N Γ n (.l q xs) Γ' ∧ k.nx Γ') (nd : N.Nodup) (hx : Loc X.env.scope n) (hf : X.fn n = true ∨ X.env.scope.names.lookup n = some .local) (hl : es.length ≤ 1000) (hs : swapsWith (.List es p2) (some (.Name n p')) pos.line X.env = pure false) :
    S1 X (.Assign [.Name n p'] (.List es p2) pos) k Γ := by
  obtain ⟨Γ0, p0, _⟩ := p 0
  obtain ⟨i, h1, _, h3⟩ := p0.at_
  refine s1_new (sl := Γ[i]) (List.getElem?_eq_getElem h3) he (fun q => ?_) (by rw [cn.n]; exact nd) (by rw [cn.n]; exact h1) hx hf hl hs
  obtain ⟨Γq, pq, hq⟩ := p q
  obtain ⟨j, g1, g2, _⟩ := pq.at_
  have : j = i := ((List.getElem?_inj (List.getElem?_eq_some_iff.mp h1).1 nd).mp (h1.trans g1.symm)).symm
  rw [← this, ← g2]
  exact hq
theorem s1_appendP {p : Addr} {np apos : Pos} (cn : CN X N) (l : Lk N Γ n (.l p xs)) (he : EvD X e Γ x) (hlen : xs.length < sizeLine) (q : Pt N Γ n (.l p (xs ++ [x])) Γ') (h : k.nx Γ') (nd : N.Nodup) (hv : Vis X.env.scope n) (hd : (n == ("__debug__" : Str)) = false) (hcd : (n == ("__classdict__" : Str)) = false)
    (hbase : attributeBase (.Name n np) "append" X.env (eval (.Name n np) X.env) = eval (.Name n np) X.env)
    (hfew : ((backTo p2 (starEach [e] X.env)).all (fun x => !x.1) && (backToKw p2 (keywordEach [] X.env)).all (fun x => x.1.isSome) && decide ([e].length + ([] : List Keyword).length + (if ([] : List Keyword).isEmpty then 0 else 1) < 30)) = true)
    (hline : (apos.endLine == p2.line) = true) (hs : starEach [e] X.env = (false, eval e X.env) :: starEach [] X.env) (hplain : (backTo p2 (starEach [] X.env)).any (·.1) = false) (hsw : swapsWith (.Call (.Attribute (.Name n np) "append" apos) [e] [] p2) none pos.line X.env = pure false) :
    S1 X (.Expr (.Call (.Attribute (.Name n np) "append" apos) [e] [] p2) pos) k Γ := by
  obtain ⟨i, h1, h2⟩ := l.at_
  obtain ⟨j, g1, g2, _⟩ := q.at_
  have : j = i := ((List.getElem?_inj (List.getElem?_eq_some_iff.mp h1).1 nd).mp (h1.trans g1.symm)).symm
  subst this
  rw [g2] at h
  exact s1_append h2 he hlen h (by rw [cn.n]; exact h1) hv hd hcd hbase hfew hline hs hplain hsw
theorem ss_freezeP {p : Addr} (l : Lk N Γ n (.l p xs)) (q : Pt N Γ n (.d (.list xs)) Γ') (nd : N.Nodup) (h : Ss X sts k Γ') : Ss X sts k Γ := by
  obtain ⟨i, h1, h2⟩ := l.at_
  obtain ⟨j, g1, g2, _⟩ := q.at_
  have : j = i := ((List.getElem?_inj (List.getElem?_eq_some_iff.mp h1).1 nd).mp (h1.trans g1.symm)).symm
  subst this
  rw [g2] at h
  exact ss_freeze h2 h
theorem tg_nm {vs : List Nat} (cn : CN X N) (p : Pt N Γ n (.d x) Γ') (nd : N.Nodup) (hx : Loc X.env.scope n) (hm : ∀ i, N[i]? = some n → i ∈ vs) (hf : X.fn n = true ∨ X.env.scope.names.lookup n = some .local) : TgD X (.Name n pos) vs x Γ Γ' := by
  obtain ⟨i, h1, h2, _⟩ := p.at_
  subst h2
  exact tg_name (by rw [cn.n]; exact nd) (by rw [cn.n]; exact h1) hx (hm i h1) hf
/-! ### by one Bool -/
def okN (sc : Scope) (n : Str) : Bool := (match sc.names.lookup n with
  | some .local => true
  | some .cell => true
  | some .free => true
  | _ => false) && !(n == ("__debug__" : Str)) && !(n == ("__classdict__" : Str))
theorem okN_ok {sc : Scope} {n : Str} (h : okN sc n = true) : Vis sc n ∧ (n == ("__debug__" : Str)) = false ∧ (n == ("__classdict__" : Str)) = false := by
  unfold okN at h
  simp only [Bool.and_eq_true, Bool.not_eq_true'] at h
  obtain ⟨⟨h1, h2⟩, h3⟩ := h
  refine ⟨?_, h2, h3⟩
  unfold Vis
  revert h1
  cases sc.names.lookup n with
  | none => intro h; cases h
  | some k => cases k <;> first | exact fun _ => .inl rfl | exact fun _ => .inr (.inl rfl) | exact fun _ => .inr (.inr rfl) | exact fun h => Bool.noConfusion h
def okG (sc : Scope) (n : Str) : Bool := decide (sc.names.lookup n = some .globalImplicit) && !(n == ("__debug__" : Str)) && decide (n ≠ "__name__")
theorem okG_ok {n : Str} (h : okG X.env.scope n = true) : Gl X n ∧ (n == ("__debug__" : Str)) = false ∧ n ≠ "__name__" := by
  unfold okG at h
  simp only [Bool.and_eq_true, Bool.not_eq_true', decide_eq_true_eq] at h
  exact ⟨h.1.1, h.1.2, h.2⟩
/-- a name that is stored: a local, or a cell of this very def -/
def okS (sc : Scope) (fn : Bool) (n : Str) : Bool := decide (sc.names.lookup n = some .local) || (decide (sc.names.lookup n = some .cell) && fn)
theorem okS_ok {n : Str} (h : okS X.env.scope (X.fn n) n = true) : Loc X.env.scope n ∧ (X.fn n = true ∨ X.env.scope.names.lookup n = some .local) := by
  unfold okS at h
  simp only [Bool.or_eq_true, Bool.and_eq_true, decide_eq_true_eq] at h
  rcases h with h | ⟨h1, h2⟩
  · exact ⟨.inl h, .inr h⟩
  · exact ⟨.inr h1, .inl h2⟩
/-- one of some names -/
inductive Mm : List Str → Str → Prop
  | here {n : Str} {L : List Str} : Mm (n :: L) n
  | there {n m : Str} {L : List Str} : Mm L n → Mm (m :: L) n
theorem Mm.mem {L : List Str} {n : Str} (h : Mm L n) : n ∈ L := by
  induction h with
  | here => exact List.mem_cons_self
  | there _ ih => exact List.mem_cons_of_mem _ ih
def allN (sc : Scope) (L : List Str) : Bool := L.all (okN sc)
def allG (sc : Scope) (L : List Str) : Bool := L.all (okG sc)
def allS (sc : Scope) (fn : Str → Bool) (L : List Str) : Bool := L.all fun n => okS sc (fn n) n
/-- what is known of a context's names: N the slots, G the globals, S those that are stored -/
structure Nms (X : Cx) (N V G S : List Str) : Prop where
  n : X.N = N
  nd : N.Nodup
  vis : allN X.env.scope V = true
  glo : allG X.env.scope G = true
  sto : allS X.env.scope X.fn S = true
/-- names that the module does not bear -/
def FreeL (mg : Str → Option Value) (L : List Str) : Prop := ∀ n, Mm L n → mg n = none
inductive LkI : List (Str × Int) → Str → Int → Prop
  | here {n : Str} {i : Int} {L : List (Str × Int)} : LkI ((n, i) :: L) n i
  | there {n m : Str} {i j : Int} {L : List (Str × Int)} : LkI L n i → LkI ((m, j) :: L) n i
def GIs (mg : Str → Option Value) (L : List (Str × Int)) : Prop := ∀ n i, LkI L n i → GI mg n i
variable {VL GL SL L : List Str} {LI : List (Str × Int)}
theorem Nms.cn (h : Nms X N VL GL SL) : CN X N := ⟨h.n⟩
theorem Nms.v (h : Nms X N VL GL SL) (m : Mm VL n) : okN X.env.scope n = true := List.all_eq_true.mp h.vis n m.mem
theorem Nms.g (h : Nms X N VL GL SL) (m : Mm GL n) : okG X.env.scope n = true := List.all_eq_true.mp h.glo n m.mem
theorem Nms.s (h : Nms X N VL GL SL) (m : Mm SL n) : okS X.env.scope (X.fn n) n = true := List.all_eq_true.mp h.sto n m.mem
theorem Lk.mm {s : Sl} (h : Lk N Γ n s) : Mm N n := by
  induction h with
  | here => exact .here
  | there _ ih => exact .there ih
theorem Pt.mm {s : Sl} (h : Pt N Γ n s Γ') : Mm N n := by
  induction h with
  | here => exact .here
  | there _ ih => exact .there ih
theorem u_nm (h : Nms X N VL GL SL) (v : Mm VL n) (l : Lk N Γ n (.d x)) : EvD X (.Name n pos) Γ x := ev_nm h.cn l (okN_ok (h.v v)).1 (okN_ok (h.v v)).2.1 (okN_ok (h.v v)).2.2
theorem u_nmL {p : Addr} (h : Nms X N VL GL SL) (v : Mm VL n) (l : Lk N Γ n (.l p xs)) : EvW X (.Name n pos) Γ (.list xs) := ew_nm h.cn l (okN_ok (h.v v)).1 (okN_ok (h.v v)).2.1 (okN_ok (h.v v)).2.2
theorem u_gi {i : Int} (h : Nms X N VL GL SL) (m : Mm GL n) (g : GIs X.mg LI) (l : LkI LI n i) : EvD X (.Name n pos) Γ (.int i) := ev_gi (g n i l) (okG_ok (h.g m)).1 (okG_ok (h.g m)).2.1
theorem u_callB {f : Str} {id : String} {p : Pos} (hv : bootBuiltins f = some (.builtin id)) (h : Nms X N VL GL SL) (m : Mm GL f) (fr : FreeL X.mg L) (hL : Mm L f) (ha : EvB X (e :: es) Γ xs) (hc : CalD X (.builtin id) xs z)
    (he : starEach (e :: es) X.env = (false, eval e X.env) :: starEach es X.env := by rfl) (hpl : (backTo pos (starEach es X.env)).any (·.1) = false := by rfl) : EvD X (.Call (.Name f p) (e :: es) [] pos) Γ z := ev_callB hc (fr f hL) hv (okG_ok (h.g m)).1 ha (okG_ok (h.g m)).2.2 (okG_ok (h.g m)).2.1 he hpl
theorem u_callT {f : Str} {T : String} {p : Pos} (hv : bootBuiltins f = some (.type T)) (h : Nms X N VL GL SL) (m : Mm GL f) (fr : FreeL X.mg L) (hL : Mm L f) (ha : EvB X (e :: es) Γ xs) (hc : CalD X (.type T) xs z)
    (he : starEach (e :: es) X.env = (false, eval e X.env) :: starEach es X.env := by rfl) (hpl : (backTo pos (starEach es X.env)).any (·.1) = false := by rfl) : EvD X (.Call (.Name f p) (e :: es) [] pos) Γ z := ev_callTy hc (fr f hL) hv (okG_ok (h.g m)).1 ha (okG_ok (h.g m)).2.2 (okG_ok (h.g m)).2.1 he hpl
theorem u_isi {T : Str} {Tn : String} {f : D → Bool} {p q1 : Pos} (hvT : bootBuiltins T = some (.type Tn)) (hk : ∀ x : D, kitB (tyName x) Tn = some (f x)) (h : Nms X N VL GL SL) (m : Mm GL "isinstance") (mT : Mm GL T) (fr : FreeL X.mg L) (hL : Mm L "isinstance") (hT : Mm L T) (ha : EvW X e Γ x) {r : Bool} (hr : f x = r)
    (he : starEach [e, .Name T q1] X.env = (false, eval e X.env) :: starEach [.Name T q1] X.env := by rfl) (hpl : (backTo pos (starEach [.Name T q1] X.env)).any (·.1) = false := by rfl) : EvD X (.Call (.Name "isinstance" p) [e, .Name T q1] [] pos) Γ (.bool r) :=
  hr ▸ ev_isi hk (fr _ hL) (fr _ hT) hvT ha (okG_ok (h.g m)).1 (okG_ok (h.g mT)).1 (okG_ok (h.g mT)).2.2 (okG_ok (h.g mT)).2.1 he hpl
/-- a def of the program, by its promise; it doesn't raise here -/
theorem u_call {f : Str} {p : Pos} {kk j m : Nat} {F : List D → Oc → Prop} (fg : FG X.prog X.w X.K X.mg X.base kk f m (spD X.K X.mg F)) (hr : Room j X.A) (hkj : kk ≤ j) (h : Nms X N VL GL SL) (g : Mm GL f) (ha : EvA X (e :: es) Γ xs) (hF : F xs (.ret z))
    (he : starEach (e :: es) X.env = (false, eval e X.env) :: starEach es X.env := by rfl) (hpl : (backTo pos (starEach es X.env)).any (·.1) = false := by rfl) : EvD X (.Call (.Name f p) (e :: es) [] pos) Γ z := ev_call fg hr hkj hF ha (okG_ok (h.g g)).1 (okG_ok (h.g g)).2.1 he hpl
theorem u_callX {f : Str} {p : Pos} {kk j m : Nat} {F : List D → Oc → Prop} {o : Oc} (fg : FG X.prog X.w X.K X.mg X.base kk f m (spD X.K X.mg F)) (hr : Room j X.A) (hkj : kk ≤ j) (h : Nms X N VL GL SL) (g : Mm GL f) (ha : EvA X (e :: es) Γ xs) (hF : F xs o)
    (he : starEach (e :: es) X.env = (false, eval e X.env) :: starEach es X.env := by rfl) (hpl : (backTo pos (starEach es X.env)).any (·.1) = false := by rfl) : EvX X (.Call (.Name f p) (e :: es) [] pos) Γ o := ev_callX fg hr hkj hF ha (okG_ok (h.g g)).1 (okG_ok (h.g g)).2.1 he hpl
theorem q_set {p' : Pos} (h : Nms X N VL GL SL) (g : Mm SL n) (he : EvD X e Γ x) (p : Pt N Γ n (.d x) Γ') (t : Ss X sts k Γ') (hs : swapsWith e (some (.Name n p')) pos.line X.env = pure false := by rfl) : Ss X (.Assign [.Name n p'] e pos :: sts) k Γ :=
  ss_cons (s1_setP (i0 := []) he h.cn p t h.nd (okS_ok (h.s g)).1 (okS_ok (h.s g)).2 hs)
theorem q_setX {p' : Pos} {o : Oc} (h : Nms X N VL GL SL) (g : Mm SL n) (he : EvX X e Γ o) (t : match o with | .ret x => ∃ Γ', Pt N Γ n (.d x) Γ' ∧ Ss X sts k Γ' | .exc c => k.ex c Γ) (hi : Mm N n) (hs : swapsWith e (some (.Name n p')) pos.line X.env = pure false := by rfl) : Ss X (.Assign [.Name n p'] e pos :: sts) k Γ :=
  ss_cons (s1_setXP he h.cn (by cases o <;> exact t) hi.mem h.nd (okS_ok (h.s g)).1 (okS_ok (h.s g)).2 hs)
theorem q_new {p' : Pos} (h : Nms X N VL GL SL) (g : Mm SL n) (he : EvA X es Γ xs) (p : ∀ q, ∃ Γ', Pt N Γ n (.l q xs) Γ' ∧ Ss X sts k Γ') (hl : es.length ≤ 1000 := by decide) (hs : swapsWith (.List es p2) (some (.Name n p')) pos.line X.env = pure false := by rfl) : Ss X (.Assign [.Name n p'] (.List es p2) pos :: sts) k Γ :=
  ss_cons (s1_newP he h.cn p h.nd (okS_ok (h.s g)).1 (okS_ok (h.s g)).2 hl hs)
theorem q_append {p : Addr} {np apos : Pos} (h : Nms X N VL GL SL) (v : Mm VL n) (l : Lk N Γ n (.l p xs)) (he : EvD X e Γ x) (hlen : xs.length < sizeLine) (q : Pt N Γ n (.l p (xs ++ [x])) Γ') (t : Ss X sts k Γ')
    (hbase : attributeBase (.Name n np) "append" X.env (eval (.Name n np) X.env) = eval (.Name n np) X.env := by rfl)
    (hfew : ((backTo p2 (starEach [e] X.env)).all (fun x => !x.1) && (backToKw p2 (keywordEach [] X.env)).all (fun x => x.1.isSome) && decide ([e].length + ([] : List Keyword).length + (if ([] : List Keyword).isEmpty then 0 else 1) < 30)) = true := by rfl)
    (hline : (apos.endLine == p2.line) = true := by rfl) (hs : starEach [e] X.env = (false, eval e X.env) :: starEach [] X.env := by rfl) (hplain : (backTo p2 (starEach [] X.env)).any (·.1) = false := by rfl) (hsw : swapsWith (.Call (.Attribute (.Name n np) "append" apos) [e] [] p2) none pos.line X.env = pure false := by rfl) :
    Ss X (.Expr (.Call (.Attribute (.Name n np) "append" apos) [e] [] p2) pos :: sts) k Γ := ss_cons (s1_appendP h.cn l he hlen q t h.nd (okN_ok (h.v v)).1 (okN_ok (h.v v)).2.1 (okN_ok (h.v v)).2.2 hbase hfew hline hs hplain hsw)
theorem q_freeze {p : Addr} (h : Nms X N VL GL SL) (l : Lk N Γ n (.l p xs)) (q : Pt N Γ n (.d (.list xs)) Γ') (t : Ss X sts k Γ') : Ss X sts k Γ := ss_freezeP l q h.nd t
theorem q_ret (he : EvD X e Γ x) (h : k.rt (.d x) Γ) : Ss X (.Return (some e) pos :: sts) k Γ := ss_cons (s1_ret he h)
theorem q_retX {o : Oc} (he : EvX X e Γ o) (h : match o with | .ret x => k.rt (.d x) Γ | .exc c => k.ex c Γ) : Ss X (.Return (some e) pos :: sts) k Γ := ss_cons (s1_retX he (by cases o <;> exact h))
theorem q_if {t : Bool} {p q : List Stmt} (hc : EvT X c Γ t) (h1 : t = true → Ss X p { k with nx := Ss X sts k } Γ) (h2 : t = false → Ss X q { k with nx := Ss X sts k } Γ) : Ss X (.If c p q pos :: sts) k Γ := ss_cons (s1_if hc h1 h2)
/-- an if without else whose suite is not entered -/
theorem q_ifF {t : Bool} {p : List Stmt} (hc : EvT X c Γ t) (ht : t = false) (h : Ss X sts k Γ) : Ss X (.If c p [] pos :: sts) k Γ := ss_cons (s1_if hc (fun z => by rw [ht] at z; cases z) fun _ => ss_nil h)
theorem q_ifT {t : Bool} {p q : List Stmt} (hc : EvT X c Γ t) (ht : t = true) (h : Ss X p { k with nx := Ss X sts k } Γ) : Ss X (.If c p q pos :: sts) k Γ := ss_cons (s1_if hc (fun _ => h) fun z => by rw [ht] at z; cases z)
theorem q_raise {m : Str} {j : Nat} {p q : Pos} (hc : X.calm = true) (C : XC X.K X.mg n) (h : Nms X N VL GL SL) (g : Mm GL n) (t : k.ex n Γ) : Ss X (.Raise (some (.Call (.Name n p) [.Constant (.str m) j q] [] p2)) none pos :: sts) k Γ := ss_cons (s1_raise hc C t (okG_ok (h.g g)).1 (okG_ok (h.g g)).2.1)
/-- a comprehension: its names, told once -/
theorem u_lc {α : Type} {own : List (Str × Nat)} {sc scope : Scope} {tg iter elt : Expr} {ifs : List Expr} {ys : List α} {enc : α → D} {p : α → Bool} {f : α → D} {GB VB : List Str} (hc : X.calm = true) (h : Nms X N VL GL SL) (hsc : X.env.scope = sc) (src : Src X false tg iter Γ (ys.map enc)) (ok : (blkC N sc scope own && (allN (relS scope sc) VB && (allG (relS scope sc) GB && allS (relS scope sc) (fun x => scope.names.lookup x == some .cell) (own.map (·.1))))) = true) (len : ys.length ≤ 100000)
    (tn : ∀ a : α, a ∈ ys → ∃ Γ', ∀ (s : Shared) (H0 : Hp) (C : Addr) (cl : List (Str × Addr)) (fp : List Addr), Nms (Blk X scope s H0 C cl fp) N VB GB (own.map (·.1)) → TgD (Blk X scope s H0 C cl fp) tg (own.map (·.2)) (enc a) (wipeS Γ (own.map (·.2))) Γ' ∧ EvTs (Blk X scope s H0 C cl fp) ifs Γ' (p a) ∧ (p a = true → EvD (Blk X scope s H0 C cl fp) elt Γ' (f a)))
    (hs : ∀ x, foldedSetIterable iter X.env x = pure x := by intro _; rfl) : EvD X (.ListComp elt [⟨tg, iter, ifs, 0⟩] scope pos) Γ (.list ((ys.filter p).map f)) := by
  subst hsc
  simp only [Bool.and_eq_true] at ok
  obtain ⟨h0, h1, h2, h3⟩ := ok
  refine ev_lc hc (by rw [h.n]; exact h.nd) ⟨src, by rw [h.n]; exact blkOk_by h0, len, fun a ha => ?_⟩ hs
  obtain ⟨Γ', g⟩ := tn a ha
  exact ⟨Γ', fun s H0 C cl fp => g s H0 C cl fp ⟨h.n, h.nd, h1, h2, h3⟩⟩
theorem u_lcH {α : Type} {own : List (Str × Nat)} {sc scope : Scope} {tg iter elt : Expr} {ifs : List Expr} {ys : List α} {enc : α → D} {p : α → Bool} {f : α → D} {GB VB : List Str} (hot : HotC X) (h : Nms X N VL GL SL) (hsc : X.env.scope = sc) (src : EvD X iter Γ (.list (ys.map enc))) (ok : (blkC N sc scope own && (allN (relS scope sc) VB && (allG (relS scope sc) GB && allS (relS scope sc) (fun x => scope.names.lookup x == some .cell) (own.map (·.1))))) = true) (len : ys.length ≤ 100000)
    (tn : ∀ a : α, a ∈ ys → ∃ Γ', ∀ (s : Shared) (H0 : Hp) (C : Addr) (cl : List (Str × Addr)) (fp : List Addr), Nms (Blk X scope s H0 C cl fp) N VB GB (own.map (·.1)) → TgD (Blk X scope s H0 C cl fp) tg (own.map (·.2)) (enc a) (wipeS Γ (own.map (·.2))) Γ' ∧ EvTs (Blk X scope s H0 C cl fp) ifs Γ' (p a) ∧ (p a = true → EvD (Blk X scope s H0 C cl fp) elt Γ' (f a)))
    (hs : ∀ x, foldedSetIterable iter X.env x = pure x := by intro _; rfl) : EvD X (.ListComp elt [⟨tg, iter, ifs, 0⟩] scope pos) Γ (.list ((ys.filter p).map f)) := by
  subst hsc
  simp only [Bool.and_eq_true] at ok
  obtain ⟨h0, h1, h2, h3⟩ := ok
  refine ev_lcH hot (by rw [h.n]; exact h.nd) src (by rw [h.n]; exact blkOk_by h0) len (fun a ha => ?_) hs
  obtain ⟨Γ', g⟩ := tn a ha
  exact ⟨Γ', fun s H0 C cl fp => g s H0 C cl fp ⟨h.n, h.nd, h1, h2, h3⟩⟩
theorem u_range1 {tg : Expr} {n : Int} {p : Pos} (h : Nms X N VL GL SL) (m : Mm GL "range") (fr : FreeL X.mg L) (hL : Mm L "range") (ha : EvW X a Γ (.int n)) (hn : -(2 ^ 62) ≤ n ∧ n < 2 ^ 62) (hs : starEach [a] X.env = [(false, eval a X.env)] := by rfl) : Src X true tg (.Call (.Name "range" p) [a] [] pos) Γ ((List.range n.toNat).map fun k : Nat => .int k) := by
  have e := src_range1 (tg := tg) (pos := pos) (p := p) (fr _ hL) ha hn (okG_ok (h.g m)).1 hs
  unfold rgD at e
  simpa using e
theorem u_range3 {tg : Expr} {lo hi st : Int} {n : Nat} {p : Pos} (h : Nms X N VL GL SL) (m : Mm GL "range") (fr : FreeL X.mg L) (hL : Mm L "range") (ha : EvW X a Γ (.int lo)) (hb : EvW X b Γ (.int hi)) (hc : EvW X c Γ (.int st)) (hn : RgC lo hi st n) (hs : starEach [a, b, c] X.env = (false, eval a X.env) :: starEach [b, c] X.env := by rfl)
    (hs2 : starEach [b, c] X.env = (false, eval b X.env) :: starEach [c] X.env := by rfl) (hs3 : starEach [c] X.env = (false, eval c X.env) :: starEach [] X.env := by rfl) (hpl : (backTo pos (starEach [b, c] X.env)).any (·.1) = false := by rfl) : Src X true tg (.Call (.Name "range" p) [a, b, c] [] pos) Γ ((List.range n).map fun k : Nat => .int (lo + k * st)) :=
  src_range3 (fr _ hL) ha hb hc hn (okG_ok (h.g m)).1 hs hs2 hs3 hpl
theorem u_enum {elts : List Expr} {kk : Nat} {tpos p : Pos} (h : Nms X N VL GL SL) (m : Mm GL "enumerate") (fr : FreeL X.mg L) (hL : Mm L "enumerate") (ha : EvD X a Γ (.list xs)) (hs : starEach [a] X.env = [(false, eval a X.env)] := by rfl) : Src X true (.Tuple elts kk tpos) (.Call (.Name "enumerate" p) [a] [] pos) Γ (xs.zipIdx.map fun q => .tuple [.int (q.2 : Nat), q.1]) := src_enum (fr _ hL) ha (okG_ok (h.g m)).1 hs
theorem u_zip {elts : List Expr} {kk : Nat} {tpos p : Pos} (h : Nms X N VL GL SL) (m : Mm GL "zip") (fr : FreeL X.mg L) (hL : Mm L "zip") (ha : EvD X a Γ (.list xs)) (hb : EvD X b Γ (.list ys)) (hs : starEach [a, b] X.env = (false, eval a X.env) :: starEach [b] X.env := by rfl) (hs2 : starEach [b] X.env = (false, eval b X.env) :: starEach [] X.env := by rfl) (hpl : (backTo pos (starEach [b] X.env)).any (·.1) = false := by rfl) : Src X true (.Tuple elts kk tpos) (.Call (.Name "zip" p) [a, b] [] pos) Γ ((xs.zip ys).map fun q => .tuple [q.1, q.2]) := src_zip (fr _ hL) ha hb (okG_ok (h.g m)).1 hs hs2 hpl
theorem u_tg {vs : List Nat} (h : Nms X N VL GL SL) (g : Mm SL n) (p : Pt N Γ n (.d x) Γ') (hm : ∀ i : Nat, N[i]? = some n → i ∈ vs) : TgD X (.Name n pos) vs x Γ Γ' := tg_nm h.cn p h.nd (okS_ok (h.s g)).1 hm (okS_ok (h.s g)).2
end
/-- a def over data, its context's facts told -/
theorem fn_D2 {P : Program} {w : World} {K : Frg} {mg : Str → Option Value} {base : Heap} {x qual : Str} {params : Arguments} {body : List Stmt} {scope : Scope} {f : Addr} {fd : FuncData} {N ps VL GL SL : List Str} {k : Nat} {F : List D → Oc → Prop} (F0 : FunD K x qual params body scope [] [] f fd) (S : FnScope N ps scope) (hn : (allN scope VL && (allG scope GL && allS scope (fun _ => true) SL)) = true) (gm : mg x = some (.ref f)) (bd : L2.Binds K fd ps [])
    (hlen : ∀ xs o, F xs o → xs.length = ps.length)
    (hbody : ∀ X : Cx, X.prog = P → X.w = w → X.K = K → X.mg = mg → X.base = base → X.env.scope = scope → X.calm = true → Room k X.A → X.A.units + 64 < cLine → Nms X N VL GL SL → ∀ (xs : List D) (o : Oc), F xs o → Ss X body (knO o) (ent N.length xs)) :
    FG P w K mg base (k + 1) x ps.length (spD K mg F) := by
  simp only [Bool.and_eq_true] at hn
  obtain ⟨h1, h2, h3⟩ := hn
  exact ⟨f, fd, ps, rfl, gm, F0.kp, bd, fn_D F0 S hlen fun cdv A outer s H E hr xs o hF => hbody _ rfl rfl rfl rfl rfl rfl rfl hr (by have := hr.un; show (A.deeper _).units + 64 < cLine; omega) ⟨rfl, S.nd, h1, h2, h3⟩ xs o hF⟩
end Wl

/-! W10: lists of whole numbers as data; conditional tests; small rules. -/
namespace Wl
open PySem PySem.Spec PyProof.Rows L2 HotX L2H LamX
variable [Tb]
abbrev iL (l : List Int) : List D := l.map PyData.int
theorem eqv_str (i j : Str) : PyData.eqv (.str i) (.str j) = decide (i = j) := by
  by_cases h : i = j
  · subst h; simp [PyData.eqv]
  · simp [PyData.eqv, h]
theorem eqvAll_ints : ∀ a b : List Int, PyData.eqvAll (iL a) (iL b) = decide (a = b)
  | [], [] => by simp [PyData.eqvAll]
  | [], b :: bs => by simp [PyData.eqvAll]
  | a :: as, [] => by simp [PyData.eqvAll]
  | a :: as, b :: bs => by
    show PyData.eqvAll (.int a :: iL as) (.int b :: iL bs) = _
    unfold PyData.eqvAll
    rw [eqv_int, eqvAll_ints as bs]
    by_cases h : a = b <;> by_cases g : as = bs <;> simp [h, g]
theorem eqv_ints (a b : List Int) : PyData.eqv (.list (iL a)) (.list (iL b)) = decide (a = b) := by
  unfold PyData.eqv
  exact eqvAll_ints a b
theorem eqvAll_strs : ∀ a b : List Str, PyData.eqvAll (a.map .str) (b.map .str) = decide (a = b)
  | [], [] => by simp [PyData.eqvAll]
  | [], b :: bs => by simp [PyData.eqvAll]
  | a :: as, [] => by simp [PyData.eqvAll]
  | a :: as, b :: bs => by
    show PyData.eqvAll (.str a :: as.map .str) (.str b :: bs.map .str) = _
    unfold PyData.eqvAll
    rw [eqv_str, eqvAll_strs as bs]
    by_cases h : a = b <;> by_cases g : as = bs <;> simp [h, g]
theorem depthAll_ints : ∀ a : List Int, PyData.depthAll (iL a) = 0
  | [] => by simp [PyData.depthAll]
  | a :: as => by
    show PyData.depthAll (.int a :: iL as) = 0
    unfold PyData.depthAll
    rw [depthAll_ints as]
    simp [PyData.depth]
theorem depth_ints (a : List Int) : PyData.depth (.list (iL a)) ≤ 2 := by
  unfold PyData.depth
  rw [depthAll_ints a]
  omega
section
variable {X : Cx} {Γ Γ' : List Sl} {e a b c : Expr} {es : List Expr} {x y z : D} {xs ys : List D} {pos p2 : Pos} {k : Kn} {st : Stmt} {sts : List Stmt} {N GL SL : List Str} {n : Str}
theorem u_enumI {elts : List Expr} {kk : Nat} {tpos p : Pos} {l : List Int} {VL L : List Str} (h : Nms X N VL GL SL) (m : Mm GL "enumerate") (fr : FreeL X.mg L) (hL : Mm L "enumerate") (ha : EvD X a Γ (.list (iL l))) (hs : starEach [a] X.env = [(false, eval a X.env)] := by rfl) : Src X true (.Tuple elts kk tpos) (.Call (.Name "enumerate" p) [a] [] pos) Γ (l.zipIdx.map fun q => .tuple [.int (q.2 : Nat), .int q.1]) := by
  have e := u_enum (elts := elts) (kk := kk) (tpos := tpos) (p := p) (pos := pos) h m fr hL ha hs
  rw [List.zipIdx_map, List.map_map] at e
  exact e
theorem u_zipI {elts : List Expr} {kk : Nat} {tpos p : Pos} {l r : List Int} {VL L : List Str} (h : Nms X N VL GL SL) (m : Mm GL "zip") (fr : FreeL X.mg L) (hL : Mm L "zip") (ha : EvD X a Γ (.list (iL l))) (hb : EvD X b Γ (.list (iL r))) (hs : starEach [a, b] X.env = (false, eval a X.env) :: starEach [b] X.env := by rfl) (hs2 : starEach [b] X.env = (false, eval b X.env) :: starEach [] X.env := by rfl) (hpl : (backTo pos (starEach [b] X.env)).any (·.1) = false := by rfl) : Src X true (.Tuple elts kk tpos) (.Call (.Name "zip" p) [a, b] [] pos) Γ ((l.zip r).map fun q => .tuple [.int q.1, .int q.2]) := by
  have e := u_zip (elts := elts) (kk := kk) (tpos := tpos) (p := p) (pos := pos) h m fr hL ha hb hs hs2 hpl
  rw [show iL l = l.map PyData.int from rfl, show iL r = r.map PyData.int from rfl, List.zip_map, List.map_map] at e
  exact e
theorem cutL_map {α β : Type} (f : α → β) (l : List α) (lo hi : Option Int) : cutL (l.map f) lo hi = (cutL l lo hi).map f := by
  unfold cutL
  rw [List.length_map, ← List.map_drop, ← List.map_take]
theorem evo_none : EvO X none Γ none := True.intro
theorem evo_some {i : Int} (h : EvW X e Γ (.int i)) : EvO X (some e) Γ (some i) := h
theorem ev_slI {l : List Int} {lo hi : Option Expr} {i j : Option Int} (ha : EvW X a Γ (.list (iL l))) (hl : EvO X lo Γ i) (hu : EvO X hi Γ j) : EvD X (.Subscript a (.Slice lo hi none p2) pos) Γ (.list (iL (cutL l i j))) := (ev_slL ha hl hu).is (congrArg PyData.list (cutL_map _ _ _ _))
theorem ev_revI {l : List Int} {k : Nat} {q1 q2 q3 : Pos} (ha : EvW X a Γ (.list (iL l))) : EvD X (.Subscript a (.Slice none none (some (.UnaryOp .USub (.Constant (.int 1) k q1) q2)) q3) pos) Γ (.list (iL l.reverse)) := (ev_rev ha).is (congrArg PyData.list List.map_reverse.symm)
theorem cal_lenI {l : List Int} : CalD X (.builtin "len") [.list (iL l)] (.int (l.length : Nat)) := by
  have h := cal_lenL (X := X) (xs := iL l)
  rw [show (iL l).length = l.length from List.length_map _] at h
  exact h
theorem ev_ixI {l : List Int} {i j : Int} (ha : EvW X a Γ (.list (iL l))) (hb : EvW X b Γ (.int i)) (hz : atI l i = some j) (hs : PlainIx b := by exact fun _ _ => rfl) : EvD X (.Subscript a b pos) Γ (.int j) := ev_ixL ha hb (by
  unfold atI at hz ⊢
  rw [show (iL l).length = l.length from List.length_map _]
  cases q : ixN l.length i with
  | none => rw [q] at hz; cases hz
  | some n =>
    rw [q] at hz
    show (iL l)[n]? = _
    rw [List.getElem?_map, show l[n]? = some j from hz]
    rfl) hs
theorem bin_mulA {i j : Int} (h : CMul i j ∨ CMulW i j) : BinD X .Mult (.int i) (.int j) (.int (i * j)) := h.elim bin_mul bin_mulW
theorem cmp_eqL {l m : List Int} (hu : X.A.units + 64 < cLine) : CmpD X .Eq (.list (iL l)) (.list (iL m)) (decide (l = m)) := by
  rw [← eqv_ints]; exact cmp_eq hu (by have := depth_ints l; omega)
theorem cmp_neL {l m : List Int} (hu : X.A.units + 64 < cLine) : CmpD X .NotEq (.list (iL l)) (.list (iL m)) (!decide (l = m)) := by
  rw [← eqv_ints]; exact cmp_ne hu (by have := depth_ints l; omega)
theorem et_ife {k x y : Bool} (h : EvT X c Γ k) (h1 : k = true → EvT X a Γ x) (h2 : k = false → EvT X b Γ y) : EvT X (.IfExp c a b pos) Γ (if k = true then x else y) := fun B G H σ E Q q pins s I => by
  refine isTrue_IfExp (thn (h B G H σ E (fun k' H' => ∃ G', k' = k ∧ Stp G H G' H') (fun G' H' st => ⟨G', rfl, st⟩) pins s I) fun k' s1 ⟨H1, I1, G1, ek, st⟩ => ?_)
  subst ek
  cases k' with
  | true => exact h1 rfl B G1 H1 σ (E.step st) _ (fun G2 H2 s2 => q G2 H2 (st.trans s2)) pins s1 I1
  | false => exact h2 rfl B G1 H1 σ (E.step st) _ (fun G2 H2 s2 => q G2 H2 (st.trans s2)) pins s1 I1
theorem ev_ifI {k : Bool} {i j : Int} (h : EvT X c Γ k) (h1 : k = true → EvD X a Γ (.int i)) (h2 : k = false → EvD X b Γ (.int j)) : EvD X (.IfExp c a b pos) Γ (.int (if k = true then i else j)) :=
  (ev_ifexp h h1 h2).is (by cases k <;> rfl)
theorem q_setLc {α : Type} {own : List (Str × Nat)} {sc scope : Scope} {tg iter elt : Expr} {ifs : List Expr} {ys : List α} {enc : α → D} {p : α → Bool} {f : α → D} {VL GB VB : List Str} {py spos : Pos} (hc : X.calm = true) (h : Nms X N VL GL SL) (hsc : X.env.scope = sc) (src : Src X false tg iter Γ (ys.map enc)) (ok : (blkC N sc scope own && (allN (relS scope sc) VB && (allG (relS scope sc) GB && allS (relS scope sc) (fun x => scope.names.lookup x == some .cell) (own.map (·.1))))) = true) (len : ys.length ≤ 100000)
    (tn : ∀ a : α, a ∈ ys → ∃ Γ', ∀ (s : Shared) (H0 : Hp) (C : Addr) (cl : List (Str × Addr)) (fp : List Addr), Nms (Blk X scope s H0 C cl fp) N VB GB (own.map (·.1)) → TgD (Blk X scope s H0 C cl fp) tg (own.map (·.2)) (enc a) (wipeS Γ (own.map (·.2))) Γ' ∧ EvTs (Blk X scope s H0 C cl fp) ifs Γ' (p a) ∧ (p a = true → EvD (Blk X scope s H0 C cl fp) elt Γ' (f a)))
    (lo : (decide (sc.names.lookup n = some .local) && ((if sc.kind.isAnnotationScope then ScopeKind.function else sc.kind) == .function && sc.names.lookup n == some .local && py.line == pos.line && !(scope.names.any fun q => q.1 == n && (q.2 == .local || q.2 == .cell)))) = true) {r : List D} (hrr : (ys.filter p).map f = r) (pt : Pt N Γ n (.d (.list r)) Γ') (t : Ss X sts k Γ')
    (hs : ∀ x, foldedSetIterable iter X.env x = pure x := by intro _; rfl) : Ss X (.Assign [.Name n py] (.ListComp elt [⟨tg, iter, ifs, 0⟩] scope pos) spos :: sts) k Γ := by
  subst hsc hrr
  simp only [Bool.and_eq_true] at ok
  obtain ⟨h0, h1, h2, h3⟩ := ok
  obtain ⟨i, e1, e2, _⟩ := pt.at_
  subst e2
  rw [Bool.and_eq_true, decide_eq_true_eq] at lo
  refine ss_cons (s1_setLc hc (by rw [h.n]; exact h.nd) ⟨src, by rw [h.n]; exact blkOk_by h0, len, fun a ha => ?_⟩ t (by rw [h.n]; exact e1) lo.1 ?_ hs)
  · obtain ⟨Γ', g⟩ := tn a ha
    exact ⟨Γ', fun s H0 C cl fp => g s H0 C cl fp ⟨h.n, h.nd, h1, h2, h3⟩⟩
  · exact congrArg (pure : Bool → Sem Bool) lo.2
end
theorem atI_nat {α : Type} (l : List α) (n : Nat) : atI l (n : Int) = l[n]? := by
  unfold atI ixN
  by_cases h : n < l.length
  · rw [if_pos (by omega), if_pos (by omega)]; simp
  · rw [if_pos (by omega), if_neg (by omega), List.getElem?_eq_none (by omega)]; rfl
theorem atI_0 {α : Type} (l : List α) : atI l 0 = l[0]? := atI_nat l 0
theorem atI_m1 {α : Type} (l : List α) : atI l (-1) = l.getLast? := by
  unfold atI ixN
  rw [if_neg (by omega)]
  cases l with
  | nil => simp
  | cons a l =>
    rw [if_pos (by simp only [List.length_cons]; omega)]
    rw [List.getLast?_eq_getElem?]
    simp only [List.length_cons, Option.bind_some]
    congr 1
    omega
/-- a target's slot is told -/
theorem tgm {N : List Str} {n : Str} {vs : List Nat} (h : ((List.range N.length).all fun i => !(N[i]? == some n) || vs.contains i) = true) : ∀ i : Nat, N[i]? = some n → i ∈ vs := fun i hi => by
  have l := (List.getElem?_eq_some_iff.mp hi).1
  have := List.all_eq_true.mp h i (List.mem_range.mpr l)
  simp [hi] at this
  exact this
theorem cmul_l {i j : Int} (h : i.natAbs < 2 ^ 64) : CMul i j ∨ CMulW i j := .inl (.inl (by omega))
theorem cmul_r {i j : Int} (h : j.natAbs < 2 ^ 64) : CMul i j ∨ CMulW i j := .inl (.inr (by omega))
theorem cdiv_s {i j : Int} (h : 0 < j) (h2 : j < 2 ^ 64) : CDivW i j := wide_div (b := 64) h (by omega) (by decide) (by decide)
section
variable {X : Cx} {Γ Γ' : List Sl} {e a b c : Expr} {es : List Expr} {x y z : D} {xs ys : List D} {pos p2 : Pos} {k : Kn} {st : Stmt} {sts : List Stmt} {N VL GL SL L : List Str} {n : Str}
/-- a for over frozen things -/
theorem q_for {α : Type} {tg iter : Expr} {body : List Stmt} {ys : List α} {enc : α → D} (I : Nat → List Sl → Prop) (hc : X.calm = true) (src : Src X true tg iter Γ (ys.map enc)) (h0 : I 0 Γ)
    (hs : ∀ (i : Nat) (a : α) (Γ1 : List Sl), ys[i]? = some a → I i Γ1 → ∃ Γ2 vs, TgD X tg vs (enc a) Γ1 Γ2 ∧ Ss X body { k with nx := I (i + 1), ct := I (i + 1), bk := Ss X sts k } Γ2) (hd : ∀ Γ1, I ys.length Γ1 → Ss X sts k Γ1)
    (hfs : ∀ x, foldedSetIterable iter X.env x = pure x := by intro _; rfl) : Ss X (.For tg iter body [] pos :: sts) k Γ := by
  refine ss_cons (s1_for (k := { k with nx := Ss X sts k }) I hc src h0 (fun i x Γ1 hx hi => ?_) (fun Γ1 h => hd Γ1 (by rw [List.length_map] at h; exact h)) hfs)
  rw [List.getElem?_map] at hx
  obtain ⟨a, ha, rfl⟩ : ∃ a, ys[i]? = some a ∧ enc a = x := by
    cases q : ys[i]? with
    | none => rw [q] at hx; cases hx
    | some a => rw [q] at hx; exact ⟨a, rfl, Option.some.inj hx⟩
  exact hs i a Γ1 ha hi
theorem src_listI {tg : Expr} {l : List Int} (h : EvD X e Γ (.list (iL l))) : Src X true tg e Γ (l.map PyData.int) := src_list h
/-- isinstance(e, C) of the caught one, C a class of the module -/
theorem u_isX {p : Addr × Obj} {Dc : Addr} {T : Str} {Ct : Addr} {b : Bool} {q q1 q2 : Pos} (hp : p ∈ X.pn) (C : ExcC X.K Dc) (hz : Zc (.ref Dc) none p.2) (hf : ∃ vs, p.2.data = .fields vs) (h : Nms X N VL GL SL) (v : Mm VL n) (l : Lk N Γ n (.r (xR p.1))) (m : Mm GL "isinstance") (fr : FreeL X.mg L) (hL : Mm L "isinstance") (mT : Mm GL T) (gT : X.mg T = some (.ref Ct)) (hk : PySem.W.kitOne X.K (.ref Dc) (.ref Ct) = some b)
    (he : starEach [.Name n q2, .Name T q1] X.env = (false, eval (.Name n q2) X.env) :: starEach [.Name T q1] X.env := by rfl) (hpl : (backTo pos (starEach [.Name T q1] X.env)).any (·.1) = false := by rfl) : EvD X (.Call (.Name "isinstance" q) [.Name n q2, .Name T q1] [] pos) Γ (.bool b) := by
  obtain ⟨i, h1, h2⟩ := l.at_
  exact ev_isX hp C hz hf (fr _ hL) (by rw [h.n]; exact h1) h2 (pe_glob (v := .ref Ct) (okG_ok (h.g mT)).1 gT rfl (okG_ok (h.g mT)).2.1) (fun w r => r) hk (okN_ok (h.v v)).1 (okG_ok (h.g m)).1 (okN_ok (h.v v)).2.1 (okN_ok (h.v v)).2.2 he hpl
/-- .. C a class of Python's own -/
theorem u_isXB {p : Addr × Obj} {Dc : Addr} {T : Str} {Tn : String} {b : Bool} {q q1 q2 : Pos} (hp : p ∈ X.pn) (C : ExcC X.K Dc) (hz : Zc (.ref Dc) none p.2) (hf : ∃ vs, p.2.data = .fields vs) (h : Nms X N VL GL SL) (v : Mm VL n) (l : Lk N Γ n (.r (xR p.1))) (m : Mm GL "isinstance") (fr : FreeL X.mg L) (hL : Mm L "isinstance") (mT : Mm GL T) (lT : Mm L T) (hb : bootBuiltins T = some (.type Tn)) (hk : PySem.W.kitOne X.K (.ref Dc) (.type Tn) = some b)
    (he : starEach [.Name n q2, .Name T q1] X.env = (false, eval (.Name n q2) X.env) :: starEach [.Name T q1] X.env := by rfl) (hpl : (backTo pos (starEach [.Name T q1] X.env)).any (·.1) = false := by rfl) : EvD X (.Call (.Name "isinstance" q) [.Name n q2, .Name T q1] [] pos) Γ (.bool b) := by
  obtain ⟨i, h1, h2⟩ := l.at_
  exact ev_isX hp C hz hf (fr _ hL) (by rw [h.n]; exact h1) h2 (pe_bltn (v := .ty Tn) (okG_ok (h.g mT)).1 (fr _ lT) hb rfl (okG_ok (h.g mT)).2.2 (okG_ok (h.g mT)).2.1) (fun w r => r) hk (okN_ok (h.v v)).1 (okG_ok (h.g m)).1 (okN_ok (h.v v)).2.1 (okN_ok (h.v v)).2.2 he hpl
end
/-- the def that names the class of a refusal, its context's facts told -/
theorem fn_Z2 {P : Program} {w : World} {K : Frg} {mg : Str → Option Value} {base : Heap} {nm x : Str} {params : Arguments} {body : List Stmt} {scope : Scope} {f : Addr} {fd : FuncData} {N VL GL SL : List Str} {k : Nat} {clf : Str → Str} {ok : Str → Prop} (F0 : FunD K nm nm params body scope [] [] f fd) (S : FnScope N [x] scope) (hn : (allN scope VL && (allG scope GL && allS scope (fun _ => true) SL)) = true)
    (hbody : ∀ (X : Cx) (p : Addr × Obj) (n : Str), X.prog = P → X.w = w → X.K = K → X.mg = mg → X.base = base → X.env.scope = scope → p ∈ X.pn → HotC X → (∃ vs, p.2.data = .fields vs) → RoomH k X.A → X.A.units + 64 < cLine → Nms X N VL GL SL → ok n → Zc (.ref (clsAt mg n)) none p.2 →
      Ss X body (knO (.ret (.str (clf n)))) (Sl.r (xR p.1) :: List.replicate (N.length - 1) .un)) : FnZ P w K mg base (k + 1) f fd x clf ok := by
  simp only [Bool.and_eq_true] at hn
  obtain ⟨h1, h2, h3⟩ := hn
  exact fn_Z F0 S fun cdv A outer s H E p n hot hr hk hz => hbody _ p n rfl rfl rfl rfl rfl rfl List.mem_cons_self ⟨p, hot, List.mem_cons_self⟩ (let ⟨_, vs, h, _⟩ := hot; ⟨vs, h⟩) hr (by have := hr.un; show (A.deeper _).units + 64 < cLine; omega) ⟨rfl, S.nd, h1, h2, h3⟩ hk hz
end Wl

/-! W11: the law's own def: stores of three, told(lambda: ..), the rule. -/
namespace Wl
open PySem PySem.Spec PyProof.Rows L2 HotX L2H LamX
variable [Tb]
/-- a compound statement's suites -/
def suiteOf : Stmt → List Stmt
  | .For _ _ b _ _ => b
  | .While _ b _ _ => b
  | .If _ b _ _ => b
  | _ => []
def elseOf : Stmt → List Stmt
  | .For _ _ _ b _ => b
  | .While _ _ b _ => b
  | .If _ _ b _ => b
  | _ => []
section
variable {X : Cx} {Γ Γ' Γ1 Γ2 : List Sl} {e a b c : Expr} {es : List Expr} {x y z : D} {xs ys : List D} {pos p2 : Pos} {k : Kn} {st : Stmt} {sts : List Stmt} {N VL GL SL L : List Str} {n m o : Str}
theorem swapped_sc {ts : List Expr} {v : Expr} {env env' : PySem.Env} (h : env.scope = env'.scope) : swappedStores ts v env = swappedStores ts v env' := by
  have h1 : env.blockKind = env'.blockKind := by unfold Env.blockKind; rw [h]
  have h2 : env.kindOf = env'.kindOf := by funext q; unfold Env.kindOf; rw [h]
  unfold swappedStores
  rw [h1, h2]
/-- a, b, c = x, y, z -/
theorem q_par3 {sc : Scope} {px py pz pt : Pos} {kt k2 : Nat} {pt2 : Pos} {spos : Pos} (hc : X.calm = true) (h : Nms X N VL GL SL) (hsc : X.env.scope = sc) (he : EvA X [a, b, c] Γ [x, y, z]) (q1 : Pt N Γ n (.d x) Γ1) (q2 : Pt N Γ1 m (.d y) Γ2) (q3 : Pt N Γ2 o (.d z) Γ')
    (hd : (decide (n ≠ m) && (decide (n ≠ o) && (decide (m ≠ o) && (decide (sc.names.lookup n = some .local) && (decide (sc.names.lookup m = some .local) && decide (sc.names.lookup o = some .local)))))) = true)
    (hw : swappedStores [.Tuple [.Name n px, .Name m py, .Name o pz] kt pt] (.Tuple [a, b, c] k2 pt2) (envOfC Str.empty sc 0 0 .none) = pure (some [n, m, o])) (t : Ss X sts k Γ') (hs : swapsWithSole [.Tuple [.Name n px, .Name m py, .Name o pz] kt pt] (.Tuple [a, b, c] k2 pt2) spos.line X.env = pure false := by rfl) :
    Ss X (.Assign [.Tuple [.Name n px, .Name m py, .Name o pz] kt pt] (.Tuple [a, b, c] k2 pt2) spos :: sts) k Γ := by
  subst hsc
  simp only [Bool.and_eq_true, decide_eq_true_eq] at hd
  obtain ⟨d1, d2, d3, l1, l2, l3⟩ := hd
  obtain ⟨i, e1, f1, _⟩ := q1.at_
  obtain ⟨j, e2, f2, _⟩ := q2.at_
  obtain ⟨l, e3, f3, _⟩ := q3.at_
  subst f1 f2 f3
  have ne : ∀ {i j : Nat} {n m : Str}, n ≠ m → N[i]? = some n → N[j]? = some m → i ≠ j := fun d e f z => d (Option.some.inj (e.symm.trans (z ▸ f)))
  exact ss_cons (s1_par3 he t hc (by rw [h.n]; exact h.nd) (by rw [h.n]; exact e1) (by rw [h.n]; exact e2) (by rw [h.n]; exact e3) (ne d1 e1 e2) (ne d2 e1 e3) (ne d3 e2 e3) l1 l2 l3 ((swapped_sc (env' := envOfC Str.empty X.env.scope 0 0 .none) rfl).trans hw) hs)
/-- a target of several names, one by one -/
theorem q_asg {sc : Scope} {tg : Expr} {vs : List Nat} {spos : Pos} (hsc : X.env.scope = sc) (he : EvD X e Γ x) (ht : TgD X tg vs x Γ Γ') (hw : swappedStores [tg] e (envOfC Str.empty sc 0 0 .none) = pure none) (t : Ss X sts k Γ') (hs : swapsWithSole [tg] e spos.line X.env = pure false := by rfl) (h1 : (assignEach [tg] X.env).map (·.2) = [assign tg X.env] := by rfl) : Ss X (.Assign [tg] e spos :: sts) k Γ := by
  subst hsc
  exact ss_cons (s1_asg he ht t hs ((swapped_sc (env' := envOfC Str.empty X.env.scope 0 0 .none) rfl).trans hw) h1)
/-- what stands for told(lambda: ..) in the law -/
structure TL (X : Cx) (x : Str) (clf : Str → Str) (ok : Str → Prop) (k : Nat) : Prop where
  ex : ∃ (a : Str) (g c P : Addr) (kz : Nat), ToldF X x a g clf ok kz ∧ X.mg x = some (.ref g) ∧ TabB X.base X.mg c P ∧ X.env.code = .ref c ∧ (P, X.env.qual ++ "<lambda>") ∈ Tb.T ∧ (∀ p ∈ Tb.T, p.1 = P → p.2 = X.env.qual ++ "<lambda>") ∧ Room (k + 2) X.A ∧ kz ≤ k
/-- the context of such a lambda's body -/
def LamX' (X X' : Cx) (scope : Scope) : Prop := X'.prog = X.prog ∧ X'.w = X.w ∧ X'.K = X.K ∧ X'.mg = X.mg ∧ X'.base = X.base ∧ X'.N = X.N ∧ X'.env.scope = scope ∧ X'.calm = true
theorem u_told {f : Str} {clf : Str → Str} {ok : Str → Prop} {k : Nat} {params : Arguments} {body : Expr} {sc scope : Scope} {o : Oc} {z : D} {p lpos pos : Pos} {VB GB : List Str} (T : TL X f clf ok k) (h : Nms X N VL GL SL) (g : Mm GL f) (hsc : X.env.scope = sc) (hL : (lamSB sc scope && (allN scope VB && allG scope GB)) = true)
    (hbody : ∀ X' : Cx, (∀ (k : Nat) (n : Str) (m : Nat) (F : List D → Oc → Prop), FG X.prog X.w X.K X.mg X.base k n m (spD X.K X.mg F) → FG X'.prog X'.w X'.K X'.mg X'.base k n m (spD X'.K X'.mg F)) → X'.mg = X.mg → X'.calm = true → Room k X'.A → Nms X' N VB GB [] → EvX X' body Γ o)
    (ho : Tells clf ok o z) (hdef : defaultsOf params X.env = ([], []) := by rfl) (hbind : ∀ (q : Str) (cl : List (Str × Addr)) (pm cv ctv : Value), bindArgs (PySem.W.kla_fn "<lambda>" q params body scope cl pm cv ctv) ⟨[], []⟩ = pure [] := by intro _ _ _ _ _; rfl) :
    EvD X (.Call (.Name f p) [.Lambda params body scope lpos] [] pos) Γ z := by
  obtain ⟨a, g0, c, P, kz, TF, hm, TB, hcode, hmT, hu, hr, hkz⟩ := T.ex
  subst hsc
  simp only [Bool.and_eq_true] at hL
  obtain ⟨l1, l2, l3⟩ := hL
  exact ev_told TF hm (okG_ok (h.g g)).1 (fun A outer s H E f c' hr2 => hbody _ (fun _ _ _ _ h => h) rfl rfl hr2 ⟨h.n, h.nd, l2, l3, rfl⟩) ho TB hcode hmT hu hr hkz (lamS_by l1) hdef hbind (okG_ok (h.g g)).2.1
end
/-- the law's def: the code object's facts told too -/
theorem fn_L {P : Program} {w : World} {K : Frg} {mg : Str → Option Value} {base : Heap} {x : Str} {params : Arguments} {body : List Stmt} {scope : Scope} {f : Addr} {fd : FuncData} {N ps VL GL SL : List Str} {k : Nat} {F : List D → Oc → Prop} (F0 : FunD K x x params body scope [] [] f fd) (S : FnScope N ps scope) (hn : (allN scope VL && (allG scope GL && allS scope (fun _ => true) SL)) = true)
    (hlen : ∀ xs o, F xs o → xs.length = ps.length)
    (hbody : ∀ X : Cx, X.prog = P → X.w = w → X.K = K → X.mg = mg → X.base = base → X.env.scope = scope → X.calm = true → Room k X.A → X.A.units + 64 < cLine → Nms X N VL GL SL → X.env.code = fd.code → X.env.qual = x ++ ".<locals>." → ∀ (xs : List D) (o : Oc), F xs o → Ss X body (knO o) (ent N.length xs)) :
    FnOk P w K mg base (L2N.CX P w) (k + 1) f fd ps (spD K mg F) := by
  simp only [Bool.and_eq_true] at hn
  obtain ⟨h1, h2, h3⟩ := hn
  obtain ⟨oc, od, dV, kV, doc, pm, an, cdv, ct, osl, rfl, lk, hcd, hD, hK⟩ := F0.ex
  refine fn_of lk hcd S (fun vs H Q E ⟨G, xs, o, _, _, _, d, hF, _⟩ => by rw [d.len]; exact hlen xs o hF) fun A outer s H vs Q E hr ⟨G, xs, o, e, tb, nt, d, hF, q⟩ => ⟨wSs _ body, pss_w, ?_⟩
  have En := env_start (N := N) e tb nt d
  refine wSs_mono (hbody _ rfl rfl rfl rfl rfl rfl rfl hr (by have := hr.un; show (A.deeper _).units + 64 < cLine; omega) ⟨rfl, S.nd, h1, h2, h3⟩ rfl rfl xs o hF ⟨G, H, []⟩ G H _ En ⟨fun cls d _ H' => E cls d H', L2N.takes_of rfl rfl rfl rfl, passes_of rfl, fun c σ G' H' Γ E' z => ?_⟩) (fun σ' H' ⟨G', Γ', E', z⟩ => ?_) (fun v' H' ⟨G', σ', s', Γ', E', y, z1, z2⟩ => ?_) (fun _ _ ⟨_, _, _, z⟩ => z) (fun _ _ ⟨_, _, _, z⟩ => z)
  · have z : o = .exc c := z
    subst z
    exact q G' H' E'.stp
  · have z : o = .ret .none := z
    subst z
    exact q .non G' H' E'.stp .non
  · subst z1 z2
    obtain ⟨v, hv, dv⟩ := E'.get_d (i := 0) rfl
    cases hv
    exact q v' G' H' E'.pop.stp dv
end Wl

namespace K30
open PySem PySem.Spec PyProof.Rows L2 Wl
variable [Tb]
def top (i : Nat) : Stmt := PySem.Challenge.pw_wirelamps_k30_whole_fades.main.body.getD i (.Pass ⟨0, 0, 0, 0⟩)
abbrev FnP (K : PySem.W.Frag) (x : Str) (st : Stmt) (f : Addr) (fd : FuncData) : Prop := FunD K x x (defArgs st) (defBody st) (defScope st) [] [] f fd
/-! ### what the defs tell -/
def cnt (t : D) (lo hi : Int) : Bool := match t with
  | .int i => decide (lo ≤ i) && decide (i ≤ hi)
  | _ => false
def F_cnt : List D → Oc → Prop := fun xs o => ∃ t lo hi, xs = [t, .int lo, .int hi] ∧ o = .ret (.bool (cnt t lo hi))
abbrev free : List Str := ["isinstance", "int", "bool", "len", "abs", "max", "min", "range", "enumerate", "zip", "sorted", "sum", "ValueError"]
abbrev gints : List (Str × Int) := [("MOST_LEVEL", 100), ("MOST_FADE", 50)]
section
variable {P : Program} {w : World} {K : PySem.W.Frag} {mg : Str → Option Value} {base : Heap}
theorem sc_is_count : FnScope ["thing", "low", "high"] ["thing", "low", "high"] (defScope (top 10)) := ⟨rfl, rfl, rfl, by decide +kernel, rfl, by decide +kernel, by decide +kernel⟩
theorem fg_cnt {f : Addr} {fd : FuncData} (F : FnP K "is_count" (top 10) f fd) (gm : mg "is_count" = some (.ref f)) (fr : FreeL mg free) : FG P w K mg base 1 "is_count" 3 (spD K mg F_cnt) := by
  refine fn_D2 (VL := ["thing", "low", "high"]) (GL := ["isinstance", "int", "bool"]) (SL := []) F sc_is_count (by kernel_rfl) gm (F.bindsN fun _ _ _ _ _ _ us hl => match us, hl with | [_, _, _], _ => rfl) (fun xs o ⟨t, lo, hi, h, _⟩ => by rw [h]; rfl) fun X hP hw hK hm hb hsc hc hr hu nm xs o hF => ?_
  subst hP hw hK hm hb
  obtain ⟨t, lo, hi, rfl, rfl⟩ := hF
  show Ss _ _ _ [.d t, .d (.int lo), .d (.int hi)]
  refine q_ret (x := .bool (cnt t lo hi)) ?_ ⟨_, rfl, rfl⟩
  cases t with
  | int i => exact EvD.is (x := .bool (true && (!false && (decide (lo ≤ i) && decide (i ≤ hi))))) (by refine (ev_and (EvD.w (u_isi boot_int kit_int nm .here (.there .here) fr .here (.there .here) (EvD.w (u_nm nm .here .here)) ?_)) fun hk => (ev_and (EvD.w (ev_not (EvD.w (u_isi boot_bool kit_bool nm .here (.there (.there .here)) fr .here (.there (.there .here)) (EvD.w (u_nm nm .here .here)) ?_)))) fun hk => (ev_one (ev_chainA (EvD.w (u_nm nm (.there .here) (.there .here))) (EvD.w (u_nm nm .here .here)) (EvD.w (u_nm nm (.there (.there .here)) (.there (.there .here)))) cmp_le cmp_le (by with_unfolding_all rfl))))) <;> rfl) (by simp [cnt])
  | bool b => exact EvD.is (x := .bool (true && (!true && false))) (by refine ev_and (EvD.w (u_isi boot_int kit_int nm .here (.there .here) fr .here (.there .here) (EvD.w (u_nm nm .here .here)) ?_)) fun _ => ev_and (EvD.w (ev_not (EvD.w (u_isi boot_bool kit_bool nm .here (.there (.there .here)) fr .here (.there (.there .here)) (EvD.w (u_nm nm .here .here)) ?_)))) fun h => (by cases h) <;> rfl) rfl
  | _ => exact EvD.is (x := .bool (false && false)) (by refine ev_and (EvD.w (u_isi boot_int kit_int nm .here (.there .here) fr .here (.there .here) (EvD.w (u_nm nm .here .here)) ?_)) fun h => (by cases h); rfl) rfl
/-! between -/
def btw (a b t g : Int) : Int := if g ≥ t then b else if b ≥ a then a + (b - a).natAbs * g / t else a - (b - a).natAbs * g / t
def F_btw : List D → Oc → Prop := fun xs o => ∃ a b t g : Int, xs = [.int a, .int b, .int t, .int g] ∧ (0 ≤ a ∧ a ≤ 1000) ∧ (0 ≤ b ∧ b ≤ 1000) ∧ (0 ≤ t ∧ t ≤ 1000) ∧ 0 ≤ g ∧ o = .ret (.int (btw a b t g))
theorem abs_if (i : Int) : (if i < 0 then -i else i) = i.natAbs := by split <;> omega
theorem sc_between : FnScope ["first", "last", "ticks", "gone", "far"] ["first", "last", "ticks", "gone"] (defScope (top 13)) := ⟨rfl, rfl, rfl, by decide +kernel, rfl, by decide +kernel, by decide +kernel⟩
theorem fg_btw {f : Addr} {fd : FuncData} (F : FnP K "between" (top 13) f fd) (gm : mg "between" = some (.ref f)) (fr : FreeL mg free) : FG P w K mg base 1 "between" 4 (spD K mg F_btw) := by
  refine fn_D2 (VL := ["first", "last", "ticks", "gone", "far"]) (GL := ["abs"]) (SL := ["far"]) F sc_between (by kernel_rfl) gm (F.bindsN fun _ _ _ _ _ _ us hl => match us, hl with | [_, _, _, _], _ => rfl) (fun xs o ⟨a, b, t, g, h, _⟩ => by rw [h]; rfl) fun X hP hw hK hm hb hsc hc hr hu nm xs o hF => ?_
  subst hP hw hK hm hb
  obtain ⟨a, b, t, g, rfl, ha, hb, ht, hg, rfl⟩ := hF
  show Ss _ _ _ [.d (.int a), .d (.int b), .d (.int t), .d (.int g), .un]
  refine q_if (et_cmpA (EvD.w (u_nm nm (.there (.there (.there .here))) (.there (.there (.there .here))))) (EvD.w (u_nm nm (.there (.there .here)) (.there (.there .here)))) cmp_ge (nomark _)) ?_ ?_
  · intro h
    have h : t ≤ g := of_decide_eq_true h
    refine q_ret (u_nm nm (.there .here) (.there .here)) ?_
    exact ⟨_, rfl, by unfold btw; rw [if_pos h]⟩
  · intro h
    have h : ¬ t ≤ g := of_decide_eq_false h
    refine ss_nil ?_
    refine q_set nm .here (ev_binA (EvD.w (ev_binA (EvD.w (u_callB boot_abs nm .here fr (.there (.there (.there (.there .here)))) (eb_cons (EvD.w (ev_binA (EvD.w (u_nm nm (.there .here) (.there .here))) (EvD.w (u_nm nm .here .here)) bin_sub)) eb_nil) cal_abs)) (EvD.w (u_nm nm (.there (.there (.there .here))) (.there (.there (.there .here))))) (bin_mulA ?_))) (EvD.w (u_nm nm (.there (.there .here)) (.there (.there .here)))) (bin_div ?_)) (.there (.there (.there (.there .here)))) ?_
    · exact cmul_r (by omega)
    · exact cdiv_s (by omega) (by omega)
    · refine q_ret (ev_ifI (et_cmpA (EvD.w (u_nm nm (.there .here) (.there .here))) (EvD.w (u_nm nm .here .here)) cmp_ge (nomark _)) (fun hk => (ev_binA (EvD.w (u_nm nm .here .here)) (EvD.w (u_nm nm (.there (.there (.there (.there .here)))) (.there (.there (.there (.there .here)))))) bin_add)) (fun hk => (ev_binA (EvD.w (u_nm nm .here .here)) (EvD.w (u_nm nm (.there (.there (.there (.there .here)))) (.there (.there (.there (.there .here)))))) bin_sub))) ?_
      refine ⟨_, rfl, ?_⟩
      unfold btw
      rw [if_neg h, abs_if]
      simp only [decide_eq_true_eq]
/-! fade -/
def row (a b t : Int) : List Int := (List.range (t + 1).toNat).map fun g => btw a b t (g : Nat)
def F_fade : List D → Oc → Prop := fun xs o => ∃ f l t, xs = [f, l, t] ∧
  ((cnt f 0 100 && (cnt l 0 100 && cnt t 0 50)) = false ∧ o = .exc "BadNumber" ∨ ∃ a b c : Int, f = .int a ∧ l = .int b ∧ t = .int c ∧ (0 ≤ a ∧ a ≤ 100) ∧ (0 ≤ b ∧ b ≤ 100) ∧ (0 ≤ c ∧ c ≤ 50) ∧ o = .ret (.list (iL (row a b c))))
theorem cnt_int {x : D} {lo hi : Int} (h : cnt x lo hi = true) : ∃ i, x = .int i ∧ lo ≤ i ∧ i ≤ hi := by
  cases x <;> simp only [cnt] at h <;> first | cases h | skip
  simp only [Bool.and_eq_true, decide_eq_true_eq] at h
  exact ⟨_, rfl, h⟩
theorem sc_fade : FnScope ["first", "last", "ticks", "gone"] ["first", "last", "ticks"] (defScope (top 14)) := ⟨rfl, rfl, rfl, by decide +kernel, rfl, by decide +kernel, by decide +kernel⟩
theorem fg_fade {f : Addr} {fd : FuncData} (F : FnP K "fade" (top 14) f fd) (gm : mg "fade" = some (.ref f)) (fr : FreeL mg free) (gi : GIs mg gints) (x_BadNumber : XC K mg "BadNumber") (fg_is_count : FG P w K mg base 1 "is_count" 3 (spD K mg F_cnt)) (fg_between : FG P w K mg base 1 "between" 4 (spD K mg F_btw)) : FG P w K mg base 3 "fade" 3 (spD K mg F_fade) := by
  refine fn_D2 (VL := ["first", "last", "ticks"]) (GL := ["is_count", "MOST_LEVEL", "BadNumber", "MOST_FADE", "range"]) (SL := []) F sc_fade (by kernel_rfl) gm (F.bindsN fun _ _ _ _ _ _ us hl => match us, hl with | [_, _, _], _ => rfl) (fun xs o ⟨a, b, t, h, _⟩ => by rw [h]; rfl) fun X hP hw hK hm hb hsc hc hr hu nm xs o hF => ?_
  subst hP hw hK hm hb
  obtain ⟨f, l, t, rfl, hF⟩ := hF
  show Ss _ _ _ [.d f, .d l, .d t, .un]
  refine q_if (t := !cnt f 0 100 || !cnt l 0 100) (by refine (EvP.t' (ep_or (et_not (et_val (EvD.w (u_call fg_is_count hr (by omega) nm .here (ea_cons (u_nm nm .here .here) (ea_cons ev_int (ea_cons (u_gi nm (.there .here) gi .here) ea_nil))) ?_)))) fun hk => (ep_or1 (et_not (et_val (EvD.w (u_call fg_is_count hr (by omega) nm .here (ea_cons (u_nm nm (.there .here) (.there .here)) (ea_cons ev_int (ea_cons (u_gi nm (.there .here) gi .here) ea_nil))) ?_))))))) <;> exact ⟨_, _, _, rfl, rfl⟩) ?_ ?_
  · intro h
    refine q_raise hc x_BadNumber nm (.there (.there .here)) ?_
    rcases hF with ⟨_, rfl⟩ | ⟨a, b, c, rfl, rfl, rfl, h1, h2, h3, rfl⟩
    · rfl
    · simp [cnt, h1, h2] at h
  · intro h
    refine ss_nil ?_
    refine q_if (t := !cnt t 0 50) (by refine (et_not (et_val (EvD.w (u_call fg_is_count hr (by omega) nm .here (ea_cons (u_nm nm (.there (.there .here)) (.there (.there .here))) (ea_cons ev_int (ea_cons (u_gi nm (.there (.there (.there .here))) gi (.there .here)) ea_nil))) ?_)))) <;> exact ⟨_, _, _, rfl, rfl⟩) ?_ ?_
    · intro h
      refine q_raise hc x_BadNumber nm (.there (.there .here)) ?_
      rcases hF with ⟨_, rfl⟩ | ⟨a, b, c, rfl, rfl, rfl, h1, h2, h3, rfl⟩
      · rfl
      · simp [cnt, h3] at h
    · intro h2
      refine ss_nil ?_
      rcases hF with ⟨z, rfl⟩ | ⟨a, b, c, rfl, rfl, rfl, h1, h2, h3, rfl⟩
      · simp only [Bool.or_eq_false_iff, Bool.not_eq_false', Bool.and_eq_false_imp] at h h2 z
        rw [z h.1 h.2] at h2
        cases h2
      · refine q_ret (x := .list (iL (row a b c))) ?_ ⟨_, rfl, rfl⟩
        refine EvD.is (u_lc (α := Nat) (own := [("gone", 3)]) (VB := ["first", "last", "ticks", "gone"]) (GB := ["between"]) (p := fun _ => true) (f := fun k => .int (btw a b c (k : Nat))) hc nm hsc (Src.w (u_range1 nm (.there (.there (.there (.there .here)))) fr (.there (.there (.there (.there (.there (.there (.there .here))))))) (EvD.w (ev_binA (EvD.w (u_nm nm (.there (.there .here)) (.there (.there .here)))) (EvD.w ev_int) bin_add)) ?_)) (by kernel_rfl) ?_ fun k hk => ⟨[.d (.int a), .d (.int b), .d (.int c), .d (.int (k : Nat))], fun s H0 C cl fp nb => ⟨?_, rfl, fun _ => ?_⟩⟩) ?_
        · constructor <;> omega
        · rw [List.length_range]; omega
        · refine (u_tg nb .here (.there (.there (.there .here))) ?_)
          exact tgm (by decide)
        · refine (u_call fg_between hr (by omega) nb .here (ea_cons (u_nm nb .here .here) (ea_cons (u_nm nb (.there .here) (.there .here)) (ea_cons (u_nm nb (.there (.there .here)) (.there (.there .here))) (ea_cons (u_nm nb (.there (.there (.there .here))) (.there (.there (.there .here)))) ea_nil)))) ?_)
          exact ⟨a, b, c, k, rfl, by omega, by omega, by omega, by omega, rfl⟩
        · rw [List.filter_eq_self.mpr fun _ _ => rfl]; simp [row, List.map_map, Function.comp_def]
end
end K30

namespace K30
open PySem PySem.Spec PyProof.Rows L2 Wl
variable [Tb]
section
variable {P : Program} {w : World} {K : PySem.W.Frag} {mg : Str → Option Value} {base : Heap}
/-! first_tick -/
theorem row_len (a b c : Int) : (row a b c).length = (c + 1).toNat := by unfold row; simp
theorem row_at {a b c : Int} {g : Nat} (h : (g : Int) ≤ c) : (row a b c)[g]? = some (btw a b c g) := by
  unfold row
  rw [List.getElem?_map, List.getElem?_range (by omega)]
  rfl
theorem btw_end (a b c : Int) : btw a b c c = b := by unfold btw; rw [if_pos (Int.le_refl c)]
theorem row_last {a b c : Int} (h : 0 ≤ c) : (row a b c)[c.toNat]? = some b := by
  rw [row_at (by omega), show ((c.toNat : Nat) : Int) = c by omega, btw_end]
/-- the places from which a level is reached -/
def fts (a b c v : Int) : List (Int × Nat) := (row a b c).zipIdx.filter fun q => if b ≥ a then decide (q.1 ≥ v) else decide (q.1 ≤ v)
def inside (a b c v : Int) : Bool := decide (min (btw a b c 0) b ≤ v) && decide (v ≤ max (btw a b c 0) b)
def ftick (a b c v : Int) : D := if inside a b c v then (match (fts a b c v)[0]? with
  | some q => .int (q.2 : Nat)
  | none => .none) else .none
theorem fts_some {a b c v : Int} (hc : 0 ≤ c) (h : inside a b c v = true) : ∃ q, (fts a b c v)[0]? = some q := by
  have hm : (b, c.toNat) ∈ fts a b c v := by
    refine List.mem_filter.mpr ⟨?_, ?_⟩
    · rw [List.mem_zipIdx_iff_getElem?]; exact row_last hc
    · simp only [inside, Bool.and_eq_true, decide_eq_true_eq] at h
      have z : btw a b c 0 = a ∨ btw a b c 0 = b := by
        unfold btw
        split
        · exact .inr rfl
        · left; split <;> simp
      by_cases q : b ≥ a
      · rw [if_pos q]; rcases z with z | z <;> rw [z] at h <;> exact decide_eq_true (by omega)
      · rw [if_neg q]; rcases z with z | z <;> rw [z] at h <;> exact decide_eq_true (by omega)
  cases q : fts a b c v with
  | nil => rw [q] at hm; cases hm
  | cons x l => exact ⟨x, rfl⟩
def F_first : List D → Oc → Prop := fun xs o => ∃ f l t v, xs = [f, l, t, v] ∧
  ((cnt f 0 100 && (cnt l 0 100 && (cnt t 0 50 && cnt v 0 100))) = false ∧ o = .exc "BadNumber" ∨ ∃ a b c u : Int, f = .int a ∧ l = .int b ∧ t = .int c ∧ v = .int u ∧ (0 ≤ a ∧ a ≤ 100) ∧ (0 ≤ b ∧ b ≤ 100) ∧ (0 ≤ c ∧ c ≤ 50) ∧ (0 ≤ u ∧ u ≤ 100) ∧ o = .ret (ftick a b c u))
theorem sc_first_tick : FnScope ["first", "last", "ticks", "level", "row", "at", "own", "some"] ["first", "last", "ticks", "level"] (defScope (top 15)) := ⟨rfl, rfl, rfl, by decide +kernel, rfl, by decide +kernel, by decide +kernel⟩
theorem fg_first {f : Addr} {fd : FuncData} (F : FnP K "first_tick" (top 15) f fd) (gm : mg "first_tick" = some (.ref f)) (fr : FreeL mg free) (gi : GIs mg gints) (x_BadNumber : XC K mg "BadNumber") (fg_is_count : FG P w K mg base 1 "is_count" 3 (spD K mg F_cnt)) (fg_fade : FG P w K mg base 3 "fade" 3 (spD K mg F_fade)) : FG P w K mg base 4 "first_tick" 4 (spD K mg F_first) := by
  refine fn_D2 (VL := ["first", "last", "ticks", "level", "row", "some"]) (GL := ["fade", "is_count", "MOST_LEVEL", "BadNumber", "min", "max", "enumerate"]) (SL := ["row", "some"]) F sc_first_tick (by kernel_rfl) gm (F.bindsN fun _ _ _ _ _ _ us hl => match us, hl with | [_, _, _, _], _ => rfl) (fun xs o ⟨a, b, t, v, h, _⟩ => by rw [h]; rfl) fun X hP hw hK hm hb hsc hc hr hu nm xs o hF => ?_
  subst hP hw hK hm hb
  obtain ⟨f, l, t, v, rfl, hF⟩ := hF
  show Ss _ _ _ [.d f, .d l, .d t, .d v, .un, .un, .un, .un]
  by_cases hq : (cnt f 0 100 && (cnt l 0 100 && cnt t 0 50)) = true
  · simp only [Bool.and_eq_true] at hq
    obtain ⟨q1, q2, q3⟩ := hq
    obtain ⟨a, rfl, a1, a2⟩ := cnt_int q1
    obtain ⟨b, rfl, b1, b2⟩ := cnt_int q2
    obtain ⟨c, rfl, c1, c2⟩ := cnt_int q3
    refine q_setX (o := .ret (.list (iL (row a b c)))) nm .here (u_callX fg_fade hr (by omega) nm .here (ea_cons (u_nm nm .here .here) (ea_cons (u_nm nm (.there .here) (.there .here)) (ea_cons (u_nm nm (.there (.there .here)) (.there (.there .here))) ea_nil))) ?_) ⟨_, (.there (.there (.there (.there .here)))), ?_⟩ (.there (.there (.there (.there .here))))
    · exact ⟨_, _, _, rfl, .inr ⟨a, b, c, rfl, rfl, rfl, ⟨a1, a2⟩, ⟨b1, b2⟩, ⟨c1, c2⟩, rfl⟩⟩
    refine q_if (t := !cnt v 0 100) (by refine (et_not (et_val (EvD.w (u_call fg_is_count hr (by omega) nm (.there .here) (ea_cons (u_nm nm (.there (.there (.there .here))) (.there (.there (.there .here)))) (ea_cons ev_int (ea_cons (u_gi nm (.there (.there .here)) gi .here) ea_nil))) ?_)))) <;> exact ⟨_, _, _, rfl, rfl⟩) (fun h => ?_) fun h => ss_nil ?_
    · refine q_raise hc x_BadNumber nm (.there (.there (.there .here))) ?_
      rcases hF with ⟨_, rfl⟩ | ⟨a, b, c, u, e1, e2, e3, rfl, h1, h2, h3, h4, rfl⟩
      · rfl
      · simp [cnt, h4] at h
    · rcases hF with ⟨z, rfl⟩ | ⟨a', b', c', u, e1, e2, e3, rfl, h1, h2, h3, h4, rfl⟩
      · rw [q1, q2, q3] at z
        simp at z h
        rw [h] at z
        cases z
      · cases e1
        cases e2
        cases e3
        have r0 : atI (iL (row a b c)) 0 = some (.int (btw a b c 0)) := by
          rw [atI_0, List.getElem?_map, row_at (g := 0) (by omega)]
          rfl
        refine q_if (t := !inside a b c u) (EvT.is (et_not (et_chainA (EvD.w (u_callB boot_min nm (.there (.there (.there (.there .here)))) fr (.there (.there (.there (.there (.there (.there .here)))))) (eb_cons (EvD.w (ev_ixL (EvD.w (u_nm nm (.there (.there (.there (.there .here)))) (.there (.there (.there (.there .here)))))) (EvD.w ev_int) r0)) (eb_cons (EvD.w (u_nm nm (.there .here) (.there .here))) eb_nil)) (cal_min2 hc))) (EvD.w (u_nm nm (.there (.there (.there .here))) (.there (.there (.there .here))))) (EvD.w (u_callB boot_max nm (.there (.there (.there (.there (.there .here))))) fr (.there (.there (.there (.there (.there .here))))) (eb_cons (EvD.w (ev_ixL (EvD.w (u_nm nm (.there (.there (.there (.there .here)))) (.there (.there (.there (.there .here)))))) (EvD.w ev_int) r0)) (eb_cons (EvD.w (u_nm nm (.there .here) (.there .here))) eb_nil)) (cal_max2 hc))) cmp_le cmp_le (by with_unfolding_all rfl))) rfl) (fun h => ?_) fun h => ss_nil ?_
        · refine q_ret ev_none ?_
          refine ⟨_, rfl, ?_⟩
          simp only [Bool.not_eq_true'] at h
          unfold ftick
          rw [if_neg (by rw [h]; simp)]
        · simp only [Bool.not_eq_false'] at h
          obtain ⟨q, hq⟩ := fts_some c1 h
          refine q_setLc (α := Int × Nat) (own := [("at", 5), ("own", 6)]) (VB := ["first", "last", "level", "at", "own"]) (GB := []) (p := fun q => if b ≥ a then decide (q.1 ≥ u) else decide (q.1 ≤ u)) (f := fun q => .int (q.2 : Nat)) hc nm hsc (Src.w (u_enumI nm (.there (.there (.there (.there (.there (.there .here)))))) fr (.there (.there (.there (.there (.there (.there (.there (.there .here)))))))) (u_nm nm (.there (.there (.there (.there .here)))) (.there (.there (.there (.there .here))))))) (by kernel_rfl) ?_ (fun q hq => ⟨[.d (.int a), .d (.int b), .d (.int c), .d (.int u), .d (.list (iL (row a b c))), .d (.int (q.2 : Nat)), .d (.int q.1), .un], fun s H0 C cl fp nb => ⟨?_, ?_, fun _ => ?_⟩⟩) (by kernel_rfl) rfl (.there (.there (.there (.there (.there (.there (.there .here))))))) ?_
          · rw [List.length_zipIdx, row_len]; omega
          · refine (tg_tup hc (tgs_cons (u_tg nb .here (.there (.there (.there (.there (.there .here))))) ?_) (tgs_cons (u_tg nb (.there .here) (.there (.there (.there (.there (.there (.there .here)))))) ?_) tgs_nil)) rfl) <;> exact tgm (by decide)
          · show EvT _ _ _ _
            refine EvT.is (et_ife (et_cmpA (EvD.w (u_nm nb (.there .here) (.there .here))) (EvD.w (u_nm nb .here .here)) cmp_ge (nomark _)) (fun hk => (et_cmpA (EvD.w (u_nm nb (.there (.there (.there (.there .here)))) (.there (.there (.there (.there (.there (.there .here)))))))) (EvD.w (u_nm nb (.there (.there .here)) (.there (.there (.there .here))))) cmp_ge (nomark _))) (fun hk => (et_cmpA (EvD.w (u_nm nb (.there (.there (.there (.there .here)))) (.there (.there (.there (.there (.there (.there .here)))))))) (EvD.w (u_nm nb (.there (.there .here)) (.there (.there (.there .here))))) cmp_le (nomark _)))) ?_
            simp only [decide_eq_true_eq]
          · exact (u_nm nb (.there (.there (.there .here))) (.there (.there (.there (.there (.there .here))))))
          · refine q_ret (x := ftick a b c u) (EvD.is (x := .int (q.2 : Nat)) (ev_ixL (EvD.w (u_nm nm (.there (.there (.there (.there (.there .here))))) (.there (.there (.there (.there (.there (.there (.there .here))))))))) (EvD.w ev_int) ?_) ?_) ⟨_, rfl, rfl⟩
            · rw [atI_0, List.getElem?_map]
              exact congrArg (Option.map fun q : Int × Nat => PyData.int (q.2 : Nat)) hq
            · unfold ftick
              rw [if_pos h, hq]
  · rcases hF with ⟨z, rfl⟩ | ⟨a', b', c', u, rfl, rfl, rfl, rfl, h1, h2, h3, h4, rfl⟩
    · refine q_setX (o := .exc "BadNumber") nm .here (u_callX fg_fade hr (by omega) nm .here (ea_cons (u_nm nm .here .here) (ea_cons (u_nm nm (.there .here) (.there .here)) (ea_cons (u_nm nm (.there (.there .here)) (.there (.there .here))) ea_nil))) ?_) rfl (.there (.there (.there (.there .here))))
      exact ⟨_, _, _, rfl, .inl ⟨Bool.eq_false_iff.mpr hq, rfl⟩⟩
    · exact absurd (by simp [cnt, h1, h2, h3]) hq
/-! the law's cells -/
def cellv (ns : List Int) (k : Int) : Int := if ns = [] then k * 7919 else (ns[(k % (ns.length : Int)).toNat]?.getD 0) + k / (ns.length : Int) * 104729
def F_cell : List D → Oc → Prop := fun xs o => ∃ (ns : List Int) (k : Int), xs = [.list (iL ns), .int k] ∧ ns.length ≤ 63 ∧ (0 ≤ k ∧ k ≤ 63) ∧ o = .ret (.int (cellv ns k))
theorem sc__law_cell : FnScope ["_law_script", "_law_k"] ["_law_script", "_law_k"] (defScope (top 17)) := ⟨rfl, rfl, rfl, by decide +kernel, rfl, by decide +kernel, by decide +kernel⟩
theorem fg_cell {f : Addr} {fd : FuncData} (F : FnP K "_law_cell" (top 17) f fd) (gm : mg "_law_cell" = some (.ref f)) (fr : FreeL mg free) : FG P w K mg base 1 "_law_cell" 2 (spD K mg F_cell) := by
  refine fn_D2 (VL := ["_law_script", "_law_k"]) (GL := ["len"]) (SL := []) F sc__law_cell (by kernel_rfl) gm (F.bindsN fun _ _ _ _ _ _ us hl => match us, hl with | [_, _], _ => rfl) (fun xs o ⟨a, b, h, _⟩ => by rw [h]; rfl) fun X hP hw hK hm hb hsc hc hr hu nm xs o hF => ?_
  subst hP hw hK hm hb
  obtain ⟨ns, k, rfl, hl, hk, rfl⟩ := hF
  show Ss _ _ _ [.d (.list (iL ns)), .d (.int k)]
  refine q_if (t := decide (ns = [])) (EvT.is (et_cmpA (EvD.w (u_nm nm .here .here)) (EvD.w (ev_lst ea_nil)) (cmp_eqL (l := ns) (m := []) hu) (nomark _)) rfl) (fun h => ?_) fun h => ss_nil ?_
  · refine q_ret (ev_binA (EvD.w (u_nm nm (.there .here) (.there .here))) (EvD.w ev_int) (bin_mulA ?_)) ?_
    · exact cmul_r (by decide)
    · refine ⟨_, rfl, ?_⟩
      unfold cellv
      rw [if_pos (of_decide_eq_true h)]
  · have h := of_decide_eq_false h
    have l0 : 0 < (ns.length : Int) := by
      cases ns with
      | nil => exact absurd rfl h
      | cons a l => simp only [List.length_cons]; omega
    have z : ((k % (ns.length : Int)).toNat : Nat) < ns.length := by
      have h1 := Int.emod_nonneg k (Int.ne_of_gt l0)
      have h2 := Int.emod_lt_of_pos k l0
      omega
    have hz : atI (iL ns) (k % ((iL ns).length : Int)) = some (.int (ns[(k % (ns.length : Int)).toNat]?.getD 0)) := by
      obtain ⟨j, hj⟩ := Int.eq_ofNat_of_zero_le (Int.emod_nonneg k (Int.ne_of_gt l0))
      rw [show (iL ns).length = ns.length from List.length_map _, hj, Int.toNat_natCast, Wl.atI_nat, List.getElem?_map]
      rw [hj, Int.toNat_natCast] at z
      rw [List.getElem?_eq_getElem z]
      rfl
    refine q_ret (x := .int (cellv ns k)) (EvD.is (ev_binA (EvD.w (ev_ixL (EvD.w (u_nm nm .here .here)) (EvD.w (ev_binA (EvD.w (u_nm nm (.there .here) (.there .here))) (EvD.w (u_callB boot_len nm .here fr (.there (.there (.there .here))) (eb_cons (EvD.w (u_nm nm .here .here)) eb_nil) cal_lenL)) (bin_mod ?_))) hz)) (EvD.w (ev_binA (EvD.w (ev_binA (EvD.w (u_nm nm (.there .here) (.there .here))) (EvD.w (u_callB boot_len nm .here fr (.there (.there (.there .here))) (eb_cons (EvD.w (u_nm nm .here .here)) eb_nil) cal_lenL)) (bin_div ?_))) (EvD.w ev_int) (bin_mulA ?_))) bin_add) ?_) ⟨_, rfl, rfl⟩
    · rw [show (iL ns).length = ns.length from List.length_map _]; exact l0
    · rw [show (iL ns).length = ns.length from List.length_map _]; exact cdiv_s l0 (by omega)
    · exact cmul_r (by decide)
    · rw [show (iL ns).length = ns.length from List.length_map _]
      unfold cellv
      rw [if_neg h]
def drn (c k : Int) : Int :=
  let m1 := (c * 6364136223846793005 + (k + 1) * 1442695040888963407) % 340282366920938463463374607431768211507
  let m2 := m1 * m1 % 340282366920938463463374607431768211297
  let m3 := (m2 % 18446744073709551557 + 1) * (m2 / 18446744073709551557 + 1) * m2
  m3 % 340282366920938463463374607431768211507
theorem drn_pos (c k : Int) : 0 ≤ drn c k ∧ drn c k < 2 ^ 129 := by
  unfold drn
  exact ⟨Int.emod_nonneg _ (by decide), Int.lt_trans (Int.emod_lt_of_pos _ (by decide)) (by decide)⟩
def F_drn : List D → Oc → Prop := fun xs o => ∃ c k : Int, xs = [.int c, .int k] ∧ (0 ≤ k ∧ k ≤ 1000) ∧ o = .ret (.int (drn c k))
theorem sc__law_drawn : FnScope ["_law_cell_here", "_law_k", "_law_more"] ["_law_cell_here", "_law_k"] (defScope (top 18)) := ⟨rfl, rfl, rfl, by decide +kernel, rfl, by decide +kernel, by decide +kernel⟩
theorem fg_drn {f : Addr} {fd : FuncData} (F : FnP K "_law_drawn" (top 18) f fd) (gm : mg "_law_drawn" = some (.ref f)) : FG P w K mg base 1 "_law_drawn" 2 (spD K mg F_drn) := by
  refine fn_D2 (VL := ["_law_cell_here", "_law_k", "_law_more"]) (GL := []) (SL := ["_law_more"]) F sc__law_drawn (by kernel_rfl) gm (F.bindsN fun _ _ _ _ _ _ us hl => match us, hl with | [_, _], _ => rfl) (fun xs o ⟨a, b, h, _⟩ => by rw [h]; rfl) fun X hP hw hK hm hb hsc hc hr hu nm xs o hF => ?_
  subst hP hw hK hm hb
  obtain ⟨c, k, rfl, hk, rfl⟩ := hF
  show Ss _ _ _ [.d (.int c), .d (.int k), .un]
  refine q_set nm .here (ev_binA (EvD.w (ev_binA (EvD.w (ev_binA (EvD.w (u_nm nm .here .here)) (EvD.w ev_int) (bin_mulA ?_))) (EvD.w (ev_binA (EvD.w (ev_binA (EvD.w (u_nm nm (.there .here) (.there .here))) (EvD.w ev_int) bin_add)) (EvD.w ev_int) (bin_mulA ?_))) bin_add)) (EvD.w ev_int) (bin_mod ?_)) (.there (.there .here)) ?_
  · exact cmul_r (by decide)
  · exact cmul_r (by decide)
  · decide
  generalize hm1 : (c * 6364136223846793005 + (k + 1) * 1442695040888963407) % 340282366920938463463374607431768211507 = m1
  have b1 : 0 ≤ m1 ∧ m1 < 340282366920938463463374607431768211507 := by rw [← hm1]; exact ⟨Int.emod_nonneg _ (by decide), Int.emod_lt_of_pos _ (by decide)⟩
  refine q_set nm .here (ev_binA (EvD.w (ev_binA (EvD.w (u_nm nm (.there (.there .here)) (.there (.there .here)))) (EvD.w (u_nm nm (.there (.there .here)) (.there (.there .here)))) (bin_mulA ?_))) (EvD.w ev_int) (bin_mod ?_)) (.there (.there .here)) ?_
  · exact .inr (wide_mul (a := 129) (b := 129) (by omega) (by omega) (by decide) (by decide) (by decide))
  · decide
  generalize hm2 : m1 * m1 % 340282366920938463463374607431768211297 = m2
  have b2 : 0 ≤ m2 ∧ m2 < 340282366920938463463374607431768211297 := by rw [← hm2]; exact ⟨Int.emod_nonneg _ (by decide), Int.emod_lt_of_pos _ (by decide)⟩
  have b3 : 0 ≤ m2 % 18446744073709551557 ∧ m2 % 18446744073709551557 < 18446744073709551557 := ⟨Int.emod_nonneg _ (by decide), Int.emod_lt_of_pos _ (by decide)⟩
  have b4 : 0 ≤ m2 / 18446744073709551557 ∧ m2 / 18446744073709551557 < 2 ^ 70 := by omega
  refine q_set nm .here (ev_binA (EvD.w (ev_binA (EvD.w (ev_binA (EvD.w (ev_binA (EvD.w (u_nm nm (.there (.there .here)) (.there (.there .here)))) (EvD.w ev_int) (bin_mod ?_))) (EvD.w ev_int) bin_add)) (EvD.w (ev_binA (EvD.w (ev_binA (EvD.w (u_nm nm (.there (.there .here)) (.there (.there .here)))) (EvD.w ev_int) (bin_div ?_))) (EvD.w ev_int) bin_add)) (bin_mulA ?_))) (EvD.w (u_nm nm (.there (.there .here)) (.there (.there .here)))) (bin_mulA ?_)) (.there (.there .here)) ?_
  · decide
  · exact cdiv_s (by decide) (by decide)
  · exact .inr (wide_mul (a := 70) (b := 71) (by omega) (by omega) (by decide) (by decide) (by decide))
  · exact .inr (wide_mul (a := 141) (b := 129) (wide_lt (a := 70) (b := 71) (by omega) (by omega)) (by omega) (by decide) (by decide) (by decide))
  refine q_ret (ev_binA (EvD.w (u_nm nm (.there (.there .here)) (.there (.there .here)))) (EvD.w ev_int) (bin_mod ?_)) ?_
  · decide
  · refine ⟨_, rfl, ?_⟩
    unfold drn
    simp only [hm1, hm2]
end
end K30

namespace K30
open PySem PySem.Spec PyProof.Rows L2 Wl
variable [Tb]
section
variable {P : Program} {w : World} {K : PySem.W.Frag} {mg : Str → Option Value} {base : Heap}
/-! the law's row -/
def lrow1 (a b t g : Int) : Int := if a < b then a + (max a b - min a b) * g / t else a - (max a b - min a b) * g / t
def lrow (a b t : Int) : List Int := if t = 0 then [b] else (List.range (t + 1).toNat).map fun g => lrow1 a b t (g : Nat)
def F_row : List D → Oc → Prop := fun xs o => ∃ a b t : Int, xs = [.int a, .int b, .int t] ∧ (0 ≤ a ∧ a ≤ 100) ∧ (0 ≤ b ∧ b ≤ 100) ∧ (0 ≤ t ∧ t ≤ 50) ∧ o = .ret (.list (iL (lrow a b t)))
theorem sc__law_row : FnScope ["_law_first", "_law_last", "_law_ticks", "_law_found", "_law_gone", "_law_steps"] ["_law_first", "_law_last", "_law_ticks"] (defScope (top 21)) := ⟨rfl, rfl, rfl, by decide +kernel, rfl, by decide +kernel, by decide +kernel⟩
theorem fg_row {f : Addr} {fd : FuncData} (F : FnP K "_law_row" (top 21) f fd) (gm : mg "_law_row" = some (.ref f)) (fr : FreeL mg free) : FG P w K mg base 1 "_law_row" 3 (spD K mg F_row) := by
  refine fn_D2 (VL := ["_law_first", "_law_last", "_law_ticks", "_law_found", "_law_gone", "_law_steps"]) (GL := ["range", "max", "min"]) (SL := ["_law_found", "_law_gone", "_law_steps"]) F sc__law_row (by kernel_rfl) gm (F.bindsN fun _ _ _ _ _ _ us hl => match us, hl with | [_, _, _], _ => rfl) (fun xs o ⟨a, b, t, h, _⟩ => by rw [h]; rfl) fun X hP hw hK hm hb hsc hc hr hu nm xs o hF => ?_
  subst hP hw hK hm hb
  obtain ⟨a, b, t, rfl, ha, hb, ht, rfl⟩ := hF
  show Ss _ _ _ [.d (.int a), .d (.int b), .d (.int t), .un, .un, .un]
  refine q_if (et_cmpA (EvD.w (u_nm nm (.there (.there .here)) (.there (.there .here)))) (EvD.w ev_int) (cmp_eqI hu) (nomark _)) ?_ ?_ <;> intro h
  · refine q_ret (ev_lst (ea_cons (u_nm nm (.there .here) (.there .here)) ea_nil)) ?_
    exact ⟨_, rfl, by unfold lrow; rw [if_pos (of_decide_eq_true h)]; rfl⟩
  · refine ss_nil ?_
    have h := of_decide_eq_false h
    refine q_new nm .here ea_nil fun p => ⟨_, (.there (.there (.there .here))), ?_⟩
    refine q_for (α := Nat) (fun i Γ => ∃ s1 s2, Γ = [.d (.int a), .d (.int b), .d (.int t), .l p (iL ((List.range i).map fun g => lrow1 a b t (g : Nat))), s1, s2]) hc (u_range1 nm .here fr (.there (.there (.there (.there (.there (.there (.there .here))))))) (EvD.w (ev_binA (EvD.w (u_nm nm (.there (.there .here)) (.there (.there .here)))) (EvD.w ev_int) bin_add)) ?_) ⟨.un, .un, rfl⟩ ?_ ?_
    · constructor <;> omega
    · rintro i g Γ1 hg ⟨s1, s2, rfl⟩
      have hg0 := hg
      rw [List.getElem?_range (by have := (List.getElem?_eq_some_iff.mp hg).1; simpa using this)] at hg
      obtain rfl := Option.some.inj hg
      refine ⟨_, [4], (u_tg nm (.there .here) (.there (.there (.there (.there .here)))) ?_), ?_⟩
      · exact tgm (by decide)
      refine q_set nm (.there (.there .here)) (ev_binA (EvD.w (ev_binA (EvD.w (ev_binA (EvD.w (u_callB boot_max nm (.there .here) fr (.there (.there (.there (.there (.there .here))))) (eb_cons (EvD.w (u_nm nm .here .here)) (eb_cons (EvD.w (u_nm nm (.there .here) (.there .here))) eb_nil)) (cal_max2 hc))) (EvD.w (u_callB boot_min nm (.there (.there .here)) fr (.there (.there (.there (.there (.there (.there .here)))))) (eb_cons (EvD.w (u_nm nm .here .here)) (eb_cons (EvD.w (u_nm nm (.there .here) (.there .here))) eb_nil)) (cal_min2 hc))) bin_sub)) (EvD.w (u_nm nm (.there (.there (.there (.there .here)))) (.there (.there (.there (.there .here)))))) (bin_mulA ?_))) (EvD.w (u_nm nm (.there (.there .here)) (.there (.there .here)))) (bin_div ?_)) (.there (.there (.there (.there (.there .here))))) ?_
      · exact cmul_l (by omega)
      · exact cdiv_s (by omega) (by omega)
      refine q_append nm (.there (.there (.there .here))) (.there (.there (.there .here))) (ev_ifI (et_cmpA (EvD.w (u_nm nm .here .here)) (EvD.w (u_nm nm (.there .here) (.there .here))) cmp_lt (nomark _)) (fun hk => (ev_binA (EvD.w (u_nm nm .here .here)) (EvD.w (u_nm nm (.there (.there (.there (.there (.there .here))))) (.there (.there (.there (.there (.there .here))))))) bin_add)) (fun hk => (ev_binA (EvD.w (u_nm nm .here .here)) (EvD.w (u_nm nm (.there (.there (.there (.there (.there .here))))) (.there (.there (.there (.there (.there .here))))))) bin_sub))) ?_ (.there (.there (.there .here))) ?_
      · rw [List.length_map, List.length_map, List.length_range]
        have := (List.getElem?_eq_some_iff.mp hg0).1
        rw [List.length_range] at this
        exact Nat.lt_of_lt_of_le (show i < 100 by omega) (by decide)
      refine ss_nil ⟨.d (.int (i : Nat)), .d (.int ((max a b - min a b) * (i : Nat) / t)), ?_⟩
      rw [List.range_succ, List.map_append]
      simp only [iL, List.map_append, List.map_cons, List.map_nil, lrow1, decide_eq_true_eq]
    · rintro Γ1 ⟨s1, s2, rfl⟩
      refine q_freeze nm (.there (.there (.there .here))) (.there (.there (.there .here))) ?_
      refine q_ret (u_nm nm (.there (.there (.there .here))) (.there (.there (.there .here)))) ?_
      refine ⟨_, rfl, ?_⟩
      unfold lrow
      rw [if_neg h, List.length_range]
/-! the class of a refusal -/
def six : List Str := ["BadHouse", "BadWord", "BadNumber", "BadWish", "NoWay", "BadText"]
structure XF (K : PySem.W.Frag) (mg : Str → Option Value) (n : Str) : Prop where
  e : ExcC K (clsAt mg n)
  k : ∀ m ∈ six, PySem.W.kitOne K (.ref (clsAt mg n)) (.ref (clsAt mg m)) = some (decide (n = m))
  v : PySem.W.kitOne K (.ref (clsAt mg n)) (.type "ValueError") = some true
def flg (n : Str) : List Bool := six.map fun m => decide (n = m)
theorem flg_sum {n : Str} (h : n ∈ six) : ((flg n).map fun b => if b = true then (1 : Int) else 0).sum = 1 := by
  simp only [six, List.mem_cons, List.not_mem_nil, or_false] at h
  rcases h with rfl | rfl | rfl | rfl | rfl | rfl <;> decide
theorem flg_at {n : Str} (h : n ∈ six) : ∃ j : Nat, (flg n)[j]? = some true ∧ (∀ m, m < j → (flg n)[m]? = some false) ∧ six[j]? = some n := by
  simp only [six, List.mem_cons, List.not_mem_nil, or_false] at h
  rcases h with rfl | rfl | rfl | rfl | rfl | rfl
  · exact ⟨0, by decide, by decide, rfl⟩
  · exact ⟨1, by decide, by decide, rfl⟩
  · exact ⟨2, by decide, by decide, rfl⟩
  · exact ⟨3, by decide, by decide, rfl⟩
  · exact ⟨4, by decide, by decide, rfl⟩
  · exact ⟨5, by decide, by decide, rfl⟩
theorem sc__law_class : FnScope ["_law_e", "_law_flags", "_law_flag"] ["_law_e"] (defScope (top 19)) := ⟨rfl, rfl, rfl, by decide +kernel, rfl, by decide +kernel, by decide +kernel⟩
theorem fz_class {f : Addr} {fd : FuncData} (F : FnP K "_law_class" (top 19) f fd) (fr : FreeL mg free) (cl : ∀ n ∈ six, mg n = some (.ref (clsAt mg n))) : FnZ P w K mg base 1 f fd "_law_e" id (fun n => n ∈ six ∧ XF K mg n) := by
  refine fn_Z2 (VL := ["_law_e", "_law_flags"]) (GL := ["isinstance", "BadHouse", "BadWord", "BadNumber", "BadWish", "NoWay", "BadText", "sum", "ValueError"]) (SL := ["_law_flags"]) F sc__law_class (by kernel_rfl) fun X p n hP hw hK hm hb hsc hp hot hf hr hu nm hn hz => ?_
  subst hP hw hK hm hb
  obtain ⟨hn, xf⟩ := hn
  show Ss _ _ _ [.r (xR p.1), .un, .un]
  obtain ⟨j, j1, j2, j3⟩ := flg_at hn
  refine q_set (x := .list ((flg n).take 4 |>.map .bool)) nm .here (ev_lst (ea_cons (u_isX hp xf.e hz hf nm .here .here .here fr .here (.there .here) (cl _ (by decide)) (xf.k _ (by decide))) (ea_cons (u_isX hp xf.e hz hf nm .here .here .here fr .here (.there (.there .here)) (cl _ (by decide)) (xf.k _ (by decide))) (ea_cons (u_isX hp xf.e hz hf nm .here .here .here fr .here (.there (.there (.there .here))) (cl _ (by decide)) (xf.k _ (by decide))) (ea_cons (u_isX hp xf.e hz hf nm .here .here .here fr .here (.there (.there (.there (.there .here)))) (cl _ (by decide)) (xf.k _ (by decide))) ea_nil))))) (.there .here) ?_
  refine q_set (x := .list ((flg n).map .bool)) nm .here (ev_catL (ys := (flg n).drop 4 |>.map .bool) (EvD.w (u_nm nm (.there .here) (.there .here))) (EvD.w (ev_lst (ea_cons (u_isX hp xf.e hz hf nm .here .here .here fr .here (.there (.there (.there (.there (.there .here))))) (cl _ (by decide)) (xf.k _ (by decide))) (ea_cons (u_isX hp xf.e hz hf nm .here .here .here fr .here (.there (.there (.there (.there (.there (.there .here)))))) (cl _ (by decide)) (xf.k _ (by decide))) ea_nil)))) (by simp only [List.length_map, List.length_take, List.length_drop, flg]; decide)) (.there .here) ?_
  refine q_ifF (t := !decide ((1 : Int) = 1) || !true) (EvP.t' (ep_or (et_cmpA (EvD.w (x := .int 1) (EvD.is (u_callB boot_sum nm (.there (.there (.there (.there (.there (.there (.there .here))))))) fr (.there (.there (.there (.there (.there (.there (.there (.there (.there (.there (.there .here))))))))))) (eb_cons (EvD.w (EvD.is (y := .list (((flg n).map fun b => if b = true then (1 : Int) else 0).map .int)) (u_lcH (α := Bool) (ys := flg n) (enc := .bool) (own := [("_law_flag", 2)]) (VB := ["_law_flag"]) (GB := ["int"]) (p := fun _ => true) (f := fun b => .int (if b = true then 1 else 0)) hot nm hsc (u_nm nm (.there .here) (.there .here)) (by kernel_rfl) ?_ fun b hb => ⟨[.r (xR p.1), .d (.list ((flg n).map .bool)), .d (.bool b)], fun s H0 C cl fp nb => ⟨?_, rfl, fun _ => ?_⟩⟩) ?_)) eb_nil) (cal_sumH hot)) ?_)) (EvD.w ev_int) (cmp_neI hu) (nomark _)) fun _ => ep_or1 (et_not (et_val (EvD.w (u_isXB hp xf.e hz hf nm .here .here .here fr .here (.there (.there (.there (.there (.there (.there (.there (.there .here)))))))) (.there (.there (.there (.there (.there (.there (.there (.there (.there (.there (.there (.there .here)))))))))))) boot_ValueError xf.v)))))) (by decide) ?_
  · exact Nat.le_trans (show (flg n).length ≤ 6 from Nat.le_of_eq (List.length_map _)) (by decide)
  · refine (u_tg nb .here (.there (.there .here)) ?_)
    exact tgm (by decide)
  · exact (u_callT boot_int nb .here fr (.there .here) (eb_cons (EvD.w (u_nm nb .here (.there (.there .here)))) eb_nil) cal_intB)
  · rw [List.filter_eq_self.mpr fun _ _ => rfl, List.map_map]; rfl
  · rw [flg_sum hn]
  refine q_ret (x := .str n) (ev_ixL (EvD.w (ev_lst (ea_cons ev_str (ea_cons ev_str (ea_cons ev_str (ea_cons ev_str (ea_cons ev_str (ea_cons ev_str ea_nil)))))))) (EvD.w (ev_indexB (bs := flg n) (EvD.w (u_nm nm (.there .here) (.there .here))) ev_bool j1 j2)) ?_) ⟨_, rfl, rfl⟩
  rw [Wl.atI_nat]
  exact (List.getElem?_map (f := PyData.str) (l := six) (i := j)).trans (by rw [j3]; rfl)
end
end K30

namespace K30
open PySem PySem.Spec PyProof.Rows L2 Wl
variable [Tb]
/-! the plain facts of a way -/
theorem btw_lt {a b c g : Int} (h : g < c) : btw a b c g = if b ≥ a then a + (b - a).natAbs * g / c else a - (b - a).natAbs * g / c := by
  unfold btw
  rw [if_neg (by omega)]
theorem far_end {m c : Int} (hc : 0 < c) : m * c / c = m := Int.mul_ediv_cancel _ (Int.ne_of_gt hc)
theorem row_lrow {a b c : Int} (hc : 0 ≤ c) : row a b c = lrow a b c := by
  unfold lrow
  by_cases h : c = 0
  · subst h
    rw [if_pos rfl]
    rfl
  · rw [if_neg h]
    unfold row
    refine List.map_congr_left fun g hg => ?_
    have hg' : (g : Int) < c + 1 := by
      have := List.mem_range.mp hg
      omega
    unfold lrow1
    by_cases q : (g : Int) < c
    · rw [btw_lt q]
      by_cases z : a < b
      · rw [if_pos (by omega), if_pos z, show ((b - a).natAbs : Int) = max a b - min a b by omega]
      · rw [if_neg z]
        by_cases y : b ≥ a
        · have e : a = b := by omega
          subst e
          simp
        · rw [if_neg y, show ((b - a).natAbs : Int) = max a b - min a b by omega]
    · have e : (g : Int) = c := by omega
      rw [e, btw_end, far_end (by omega)]
      split <;> omega
theorem row_get {a b c : Int} {i : Nat} {x : Int} (h : (row a b c)[i]? = some x) : (i : Int) ≤ c ∧ x = btw a b c i := by
  have l := (List.getElem?_eq_some_iff.mp h).1
  rw [row_len] at l
  refine ⟨by omega, ?_⟩
  rw [row_at (by omega)] at h
  exact (Option.some.inj h).symm
/-- the way by steps -/
def far (a b c g : Int) : Int := (b - a).natAbs * g / c
theorem btw_far {a b c g : Int} (hc : 0 < c) (h : g ≤ c) : btw a b c g = if b ≥ a then a + far a b c g else a - far a b c g := by
  by_cases q : g < c
  · exact btw_lt q
  · have e : g = c := by omega
    subst e
    rw [btw_end]
    unfold far
    rw [far_end hc]
    split <;> omega
theorem far_mono {a b c g h : Int} (hc : 0 < c) (e : g ≤ h) : far a b c g ≤ far a b c h := by
  unfold far
  exact Int.ediv_le_ediv hc (Int.mul_le_mul_of_nonneg_left e (by omega))
theorem far_step {a b c g : Int} (hc : 0 < c) : far a b c (g + 1) - far a b c g ≤ ((b - a).natAbs + c - 1) / c := by
  unfold far
  have e : ((b - a).natAbs : Int) * (g + 1) = (b - a).natAbs * g + (b - a).natAbs := by rw [Int.mul_add, Int.mul_one]
  rw [e]
  generalize ((b - a).natAbs : Int) * g = p
  generalize ((b - a).natAbs : Int) = q
  have h1 := Int.emod_add_mul_ediv p c
  have h2 := Int.emod_add_mul_ediv (p + q) c
  have h3 := Int.emod_add_mul_ediv (q + c - 1) c
  have h4 := Int.emod_nonneg p (Int.ne_of_gt hc)
  have h5 := Int.emod_nonneg (p + q) (Int.ne_of_gt hc)
  have h6 := Int.emod_lt_of_pos (q + c - 1) hc
  have h7 := Int.emod_lt_of_pos p hc
  have h8 := Int.emod_lt_of_pos (p + q) hc
  generalize p / c = u at *
  generalize (p + q) / c = v at *
  generalize (q + c - 1) / c = w at *
  generalize p % c = r1 at *
  generalize (p + q) % c = r2 at *
  generalize (q + c - 1) % c = r3 at *
  have k : c * (v - u - w) < c := by rw [Int.mul_sub, Int.mul_sub]; omega
  have k2 : v - u - w < 1 := Int.lt_of_mul_lt_mul_left (by rw [Int.mul_one]; exact k) (Int.le_of_lt hc)
  omega
theorem row_pw {a b c : Int} (hc : 0 ≤ c) : (row a b c).Pairwise (· ≤ ·) ∨ (row a b c).reverse.Pairwise (· ≤ ·) := by
  by_cases h0 : c = 0
  · subst h0
    exact .inl (List.pairwise_singleton _ _)
  have hc' : 0 < c := by omega
  by_cases q : b ≥ a
  · left
    rw [List.pairwise_iff_getElem]
    intro i j hi hj hij
    have e1 := row_get (List.getElem?_eq_getElem hi)
    have e2 := row_get (List.getElem?_eq_getElem hj)
    rw [e1.2, e2.2, btw_far hc' e1.1, btw_far hc' e2.1, if_pos q, if_pos q]
    have := far_mono (a := a) (b := b) hc' (show (i : Int) ≤ j by omega)
    omega
  · right
    rw [List.pairwise_reverse, List.pairwise_iff_getElem]
    intro i j hi hj hij
    have e1 := row_get (List.getElem?_eq_getElem hi)
    have e2 := row_get (List.getElem?_eq_getElem hj)
    rw [e1.2, e2.2, btw_far hc' e1.1, btw_far hc' e2.1, if_neg q, if_neg q]
    have := far_mono (a := a) (b := b) hc' (show (i : Int) ≤ j by omega)
    omega
theorem row_turn {a b c : Int} (hc : 0 ≤ c) : sortI (row a b c) = row a b c ∨ sortI (row a b c) = (row a b c).reverse := by
  rcases row_pw (a := a) (b := b) hc with h | h
  · exact .inl (sorted_unique (sortI_perm _) (sortI_pw _) h)
  · exact .inr (sorted_unique ((sortI_perm _).trans (List.reverse_perm _).symm) (sortI_pw _) h)
theorem row_m {a b c : Int} : (row a b c).map (fun x => 100 - x) = row (100 - a) (100 - b) c := by
  unfold row
  rw [List.map_map]
  refine List.map_congr_left fun g hg => ?_
  show 100 - btw a b c g = _
  unfold btw
  by_cases q : (g : Int) ≥ c
  · rw [if_pos q, if_pos q]
  · rw [if_neg q, if_neg q, show ((100 - b - (100 - a)).natAbs : Int) = ((b - a).natAbs : Int) by omega]
    by_cases z : b ≥ a
    · rw [if_pos z]
      by_cases y : (100 - b : Int) ≥ 100 - a
      · have e : a = b := by omega
        subst e
        rw [if_pos y]
        simp
      · rw [if_neg y]
        omega
    · rw [if_neg z, if_pos (by omega)]
      omega
/-- the steps -/
def steps (l : List Int) : List Int := ((cutL l none (some (-1))).zip (cutL l (some 1) none)).map fun q => ((q.1 - q.2).natAbs : Int)
theorem cut_a {l : List Int} : cutL l none (some (-1)) = l.take (l.length - 1) := by
  unfold cutL
  cases l with
  | nil => rfl
  | cons a l =>
    have e1 : HT.sIx (a :: l).length 0 none = 0 := rfl
    have e2 : HT.sIx (a :: l).length (a :: l).length (some (-1)) = l.length := by
      simp [HT.sIx]
      omega
    rw [e1, e2]
    simp
theorem cut_b {l : List Int} : cutL l (some 1) none = l.drop 1 := by
  unfold cutL
  cases l with
  | nil => rfl
  | cons a l =>
    have e1 : HT.sIx (a :: l).length 0 (some 1) = 1 := by
      simp [HT.sIx]
    have e2 : HT.sIx (a :: l).length (a :: l).length none = (a :: l).length := rfl
    rw [e1, e2]
    simp
theorem steps_at {l : List Int} {x : Int} (h : x ∈ steps l) : ∃ i y z, l[i]? = some y ∧ l[i + 1]? = some z ∧ x = (y - z).natAbs := by
  unfold steps at h
  obtain ⟨⟨y, z⟩, h1, h2⟩ := List.mem_map.mp h
  obtain ⟨i, hi⟩ := List.mem_iff_getElem?.mp h1
  rw [List.getElem?_zip_eq_some, cut_a, cut_b, List.getElem?_take, List.getElem?_drop] at hi
  obtain ⟨g1, g2⟩ := hi
  split at g1
  · exact ⟨i, y, z, g1, by rw [Nat.add_comm]; exact g2, h2.symm⟩
  · cases g1
theorem steps_le {a b c x : Int} (hc : 0 ≤ c) (h : x ∈ steps (row a b c)) : 0 < c ∧ x ≤ ((b - a).natAbs + c - 1) / c := by
  obtain ⟨i, y, z, h1, h2, rfl⟩ := steps_at h
  have e1 := row_get h1
  have e2 := row_get h2
  have hc' : 0 < c := by have := e2.1; omega
  refine ⟨hc', ?_⟩
  have s := far_step (a := a) (b := b) (g := (i : Int)) hc'
  have m := far_mono (a := a) (b := b) hc' (show (i : Int) ≤ i + 1 by omega)
  rw [e1.2, e2.2, btw_far hc' e1.1, btw_far hc' e2.1]
  rw [show ((i + 1 : Nat) : Int) = (i : Int) + 1 by omega]
  by_cases q : b ≥ a
  · rw [if_pos q, if_pos q]; omega
  · rw [if_neg q, if_neg q]; omega
theorem steps_pos {a b c : Int} (hc : 0 ≤ c) (h : steps (row a b c) ≠ []) : 0 < c := by
  cases q : steps (row a b c) with
  | nil => exact absurd q h
  | cons x l => exact (steps_le (x := x) hc (by rw [q]; exact List.mem_cons_self)).1
end K30

namespace K30
open PySem PySem.Spec PyProof.Rows L2 Wl
variable [Tb]
section
variable {P : Program} {w : World} {K : PySem.W.Frag} {mg : Str → Option Value} {base : Heap}
def F_law : List D → Oc → Prop := fun xs o => ∃ ns : List Int, xs = [.list (iL ns)] ∧ ns.length ≤ 63 ∧ o = .ret (.bool true)
theorem eqv_refl_i (i : Int) : PyData.eqv (.int i) (.int i) = true := by rw [eqv_int]; simp
def tks (h : Int) : Int := ([0, 1, 50, h / 2 ^ 20 % 51] : List Int)[(h % 4).toNat]?.getD 0
theorem tks_at (h : Int) : atI [PyData.int 0, PyData.int 1, PyData.int 50, PyData.int (h / 2 ^ (20 : Int).toNat % 51)] (h % 4) = some (.int (tks h)) ∧ 0 ≤ tks h ∧ tks h ≤ 50 := by
  have h1 := Int.emod_nonneg h (show (4 : Int) ≠ 0 by decide)
  have h2 := Int.emod_lt_of_pos h (show (0 : Int) < 4 by decide)
  have g1 := Int.emod_nonneg (h / 2 ^ 20) (show (51 : Int) ≠ 0 by decide)
  have g2 := Int.emod_lt_of_pos (h / 2 ^ 20) (show (0 : Int) < 51 by decide)
  unfold tks
  rcases (show h % 4 = 0 ∨ h % 4 = 1 ∨ h % 4 = 2 ∨ h % 4 = 3 by omega) with e | e | e | e <;> rw [e]
  · exact ⟨rfl, (show (0 : Int) ≤ 0 by decide), (show (0 : Int) ≤ 50 by decide)⟩
  · exact ⟨rfl, (show (0 : Int) ≤ 1 by decide), (show (1 : Int) ≤ 50 by decide)⟩
  · exact ⟨rfl, (show (0 : Int) ≤ 50 by decide), (show (50 : Int) ≤ 50 by decide)⟩
  · exact ⟨rfl, g1, by show h / 2 ^ 20 % 51 ≤ 50; omega⟩
theorem rg_st {st : Int} (h : 1 ≤ st ∧ st ≤ 9) : ∃ n : Nat, RgC 0 101 st n ∧ n ≤ 101 ∧ ∀ k : Nat, k < n → 0 + (k : Int) * st ≤ 100 := by
  obtain ⟨h1, h2⟩ := h
  rcases (show st = 1 ∨ st = 2 ∨ st = 3 ∨ st = 4 ∨ st = 5 ∨ st = 6 ∨ st = 7 ∨ st = 8 ∨ st = 9 by omega) with e | e | e | e | e | e | e | e | e <;> subst e
  · exact ⟨101, ⟨by decide, by decide, by decide, by decide⟩, by decide, fun k hk => by omega⟩
  · exact ⟨51, ⟨by decide, by decide, by decide, by decide⟩, by decide, fun k hk => by omega⟩
  · exact ⟨34, ⟨by decide, by decide, by decide, by decide⟩, by decide, fun k hk => by omega⟩
  · exact ⟨26, ⟨by decide, by decide, by decide, by decide⟩, by decide, fun k hk => by omega⟩
  · exact ⟨21, ⟨by decide, by decide, by decide, by decide⟩, by decide, fun k hk => by omega⟩
  · exact ⟨17, ⟨by decide, by decide, by decide, by decide⟩, by decide, fun k hk => by omega⟩
  · exact ⟨15, ⟨by decide, by decide, by decide, by decide⟩, by decide, fun k hk => by omega⟩
  · exact ⟨13, ⟨by decide, by decide, by decide, by decide⟩, by decide, fun k hk => by omega⟩
  · exact ⟨12, ⟨by decide, by decide, by decide, by decide⟩, by decide, fun k hk => by omega⟩
theorem sc_law : FnScope ["_law_script", "_law_k", "_law_more", "_law_j", "_law_here", "_law_first", "_law_last", "_law_ticks", "_law_told_here", "_law_one", "_law_other", "_law_steps", "_law_level", "_law_at", "_law_some", "_law_is_on", "_law_due", "_law_bad"] ["_law_script"] (defScope (top 22)) := ⟨rfl, rfl, rfl, by decide +kernel, rfl, by decide +kernel, by decide +kernel⟩
theorem law_j {X : Cx} {k : Kn} {ns : List Int} {mo : Int} {j : Nat} (hsc : X.env.scope = defScope (top 22)) (hc : X.calm = true) (hr : Room 7 X.A) (hu : X.A.units + 64 < cLine) (nm : Nms X ["_law_script", "_law_k", "_law_more", "_law_j", "_law_here", "_law_first", "_law_last", "_law_ticks", "_law_told_here", "_law_one", "_law_other", "_law_steps", "_law_level", "_law_at", "_law_some", "_law_is_on", "_law_due", "_law_bad"] ["_law_script", "_law_k", "_law_more", "_law_j", "_law_here", "_law_first", "_law_last", "_law_ticks", "_law_told_here", "_law_steps", "_law_level", "_law_some", "_law_is_on", "_law_due", "_law_bad"] ["range", "max", "min", "len", "_law_drawn", "_law_cell", "fade", "_law_row", "sorted", "zip", "abs", "enumerate", "first_tick", "_law_told"] ["_law_k", "_law_more", "_law_j", "_law_here", "_law_first", "_law_last", "_law_ticks", "_law_told_here", "_law_steps", "_law_level", "_law_some", "_law_is_on", "_law_due", "_law_bad"]) (fr : FreeL X.mg free)
    (fg__law_drawn : FG X.prog X.w X.K X.mg X.base 1 "_law_drawn" 2 (spD X.K X.mg F_drn)) (fg_fade : FG X.prog X.w X.K X.mg X.base 3 "fade" 3 (spD X.K X.mg F_fade)) (fg_first_tick : FG X.prog X.w X.K X.mg X.base 4 "first_tick" 4 (spD X.K X.mg F_first)) (fg__law_row : FG X.prog X.w X.K X.mg X.base 1 "_law_row" 3 (spD X.K X.mg F_row)) (hj : j < 6)
    (hk : ∀ Γ, (∃ s1 s3 s4 s5 s6 s7 s8 s9 s10 s11 s12 s13 s14 s15 s16 s17, Γ = [.d (.list (iL ns)), s1, .d (.int mo), s3, s4, s5, s6, s7, s8, s9, s10, s11, s12, s13, s14, s15, s16, s17]) → k.nx Γ) {s1 s4 s5 s6 s7 s8 s9 s10 s11 s12 s13 s14 s15 s16 s17 : Sl} : Ss X (suiteOf ((suiteOf ((defBody (top 22)).getD 0 (.Pass ⟨0, 0, 0, 0⟩))).getD 1 (.Pass ⟨0, 0, 0, 0⟩))) k [.d (.list (iL ns)), s1, .d (.int mo), .d (.int (j : Nat)), s4, s5, s6, s7, s8, s9, s10, s11, s12, s13, s14, s15, s16, s17] := by
  have hd := drn_pos mo (10 + (j : Nat))
  refine q_set (x := .int (drn mo (10 + (j : Nat)))) nm (.there (.there (.there .here))) (u_call fg__law_drawn hr (by omega) nm (.there (.there (.there (.there .here)))) (ea_cons (u_nm nm (.there (.there .here)) (.there (.there .here))) (ea_cons (ev_binA (EvD.w ev_int) (EvD.w (u_nm nm (.there (.there (.there .here))) (.there (.there (.there .here))))) bin_add) ea_nil)) ?_) (.there (.there (.there (.there .here)))) ?_
  · exact ⟨_, _, rfl, by constructor <;> omega, rfl⟩
  generalize hh : drn mo (10 + (j : Nat)) = h at hd
  obtain ⟨tz, t1, t2⟩ := tks_at h
  refine q_asg (vs := [5, 6, 7]) hsc (ev_tup (ea_cons (ev_binA (EvD.w (ev_binA (EvD.w (u_nm nm (.there (.there (.there (.there .here)))) (.there (.there (.there (.there .here)))))) (EvD.w ev_int) (bin_div ?_))) (EvD.w ev_int) (bin_mod ?_)) (ea_cons (ev_binA (EvD.w (ev_binA (EvD.w (u_nm nm (.there (.there (.there (.there .here)))) (.there (.there (.there (.there .here)))))) (EvD.w ev_int) (bin_div ?_))) (EvD.w ev_int) (bin_mod ?_)) (ea_cons (ev_ixL (EvD.w (ev_lst (ea_cons ev_int (ea_cons ev_int (ea_cons ev_int (ea_cons (ev_binA (EvD.w (ev_binA (EvD.w (u_nm nm (.there (.there (.there (.there .here)))) (.there (.there (.there (.there .here)))))) (EvD.w (ev_binA (EvD.w ev_int) (EvD.w ev_int) (bin_pow ?_))) (bin_div ?_))) (EvD.w ev_int) (bin_mod ?_)) ea_nil)))))) (EvD.w (ev_binA (EvD.w (u_nm nm (.there (.there (.there (.there .here)))) (.there (.there (.there (.there .here)))))) (EvD.w ev_int) (bin_mod ?_))) tz) ea_nil)))) (tg_tup hc (tgs_cons (u_tg nm (.there (.there (.there (.there .here)))) (.there (.there (.there (.there (.there .here))))) ?_) (tgs_cons (u_tg nm (.there (.there (.there (.there (.there .here))))) (.there (.there (.there (.there (.there (.there .here)))))) ?_) (tgs_cons (u_tg nm (.there (.there (.there (.there (.there (.there .here)))))) (.there (.there (.there (.there (.there (.there (.there .here))))))) ?_) tgs_nil))) rfl) (by kernel_rfl) ?_
  all_goals first | exact cdiv_s (by decide) (by decide) | exact ⟨by decide, by decide, by decide⟩ | exact tgm (by decide) | decide | skip
  generalize ha : h / 8 % 101 = a
  generalize hb : h / 1024 % 101 = b
  generalize hcc : tks h = c at t1 t2
  have a1 : 0 ≤ a ∧ a ≤ 100 := by omega
  have b1 : 0 ≤ b ∧ b ≤ 100 := by omega
  refine q_set (x := .list (iL (row a b c))) nm (.there (.there (.there (.there (.there (.there (.there .here))))))) (u_call fg_fade hr (by omega) nm (.there (.there (.there (.there (.there (.there .here)))))) (ea_cons (u_nm nm (.there (.there (.there (.there (.there .here))))) (.there (.there (.there (.there (.there .here)))))) (ea_cons (u_nm nm (.there (.there (.there (.there (.there (.there .here)))))) (.there (.there (.there (.there (.there (.there .here))))))) (ea_cons (u_nm nm (.there (.there (.there (.there (.there (.there (.there .here))))))) (.there (.there (.there (.there (.there (.there (.there .here)))))))) ea_nil))) ?_) (.there (.there (.there (.there (.there (.there (.there (.there .here)))))))) ?_
  · exact ⟨_, _, _, rfl, .inr ⟨a, b, c, rfl, rfl, rfl, a1, b1, ⟨t1, t2⟩, rfl⟩⟩
  have hlast : atI (row a b c) (-1) = some b := by
    rw [atI_m1, List.getLast?_eq_getElem?, row_len, show (c + 1).toNat - 1 = c.toNat by omega, row_last t1]
  have h0 : atI (row a b c) 0 = some (btw a b c 0) := by rw [atI_0]; exact row_at t1
  refine q_ifF (t := !decide (row a b c = lrow a b c) || (!decide (b = b) || !decide (((row a b c).length : Int) = c + 1))) (EvP.t' (ep_or (et_cmpA (EvD.w (u_nm nm (.there (.there (.there (.there (.there (.there (.there (.there .here)))))))) (.there (.there (.there (.there (.there (.there (.there (.there .here)))))))))) (EvD.w (u_call fg__law_row hr (by omega) nm (.there (.there (.there (.there (.there (.there (.there .here))))))) (ea_cons (u_nm nm (.there (.there (.there (.there (.there .here))))) (.there (.there (.there (.there (.there .here)))))) (ea_cons (u_nm nm (.there (.there (.there (.there (.there (.there .here)))))) (.there (.there (.there (.there (.there (.there .here))))))) (ea_cons (u_nm nm (.there (.there (.there (.there (.there (.there (.there .here))))))) (.there (.there (.there (.there (.there (.there (.there .here)))))))) ea_nil))) ?_)) (cmp_neL hu) (nomark _)) fun hk => (ep_or (et_cmpA (EvD.w (ev_ixI (EvD.w (u_nm nm (.there (.there (.there (.there (.there (.there (.there (.there .here)))))))) (.there (.there (.there (.there (.there (.there (.there (.there .here)))))))))) (EvD.w (ev_neg (EvD.w ev_int))) hlast)) (EvD.w (u_nm nm (.there (.there (.there (.there (.there (.there .here)))))) (.there (.there (.there (.there (.there (.there .here)))))))) (cmp_neI hu) (nomark _)) fun hk => (ep_or1 (et_cmpA (EvD.w (u_callB boot_len nm (.there (.there (.there .here))) fr (.there (.there (.there .here))) (eb_cons (EvD.w (u_nm nm (.there (.there (.there (.there (.there (.there (.there (.there .here)))))))) (.there (.there (.there (.there (.there (.there (.there (.there .here)))))))))) eb_nil) cal_lenI)) (EvD.w (ev_binA (EvD.w (u_nm nm (.there (.there (.there (.there (.there (.there (.there .here))))))) (.there (.there (.there (.there (.there (.there (.there .here))))))))) (EvD.w ev_int) bin_add)) (cmp_neI hu) (nomark _)))))) ?_ ?_
  · exact ⟨_, _, _, rfl, a1, b1, ⟨t1, t2⟩, rfl⟩
  · rw [row_lrow t1, ← row_lrow t1, row_len]
    simp
    omega
  have hsorted : inD (.list (iL (sortI (row a b c)))) [.list (iL (row a b c)), .list (iL (row a b c).reverse)] = true := by
    unfold inD
    rw [List.any_cons, List.any_cons, List.any_nil, eqv_ints, eqv_ints]
    rcases row_turn (a := a) (b := b) t1 with z | z <;> rw [z] <;> simp
  refine q_ifF (t := (decide (0 < c) && !decide (btw a b c 0 = a)) || !inD (.list (iL (sortI (row a b c)))) [.list (iL (row a b c)), .list (iL (row a b c).reverse)]) (EvP.t' (ep_or (EvP.t' (ep_and (et_cmpA (EvD.w (u_nm nm (.there (.there (.there (.there (.there (.there (.there .here))))))) (.there (.there (.there (.there (.there (.there (.there .here))))))))) (EvD.w ev_int) cmp_gt (nomark _)) fun hk => (ep_and1 (et_cmpA (EvD.w (ev_ixI (EvD.w (u_nm nm (.there (.there (.there (.there (.there (.there (.there (.there .here)))))))) (.there (.there (.there (.there (.there (.there (.there (.there .here)))))))))) (EvD.w ev_int) h0)) (EvD.w (u_nm nm (.there (.there (.there (.there (.there .here))))) (.there (.there (.there (.there (.there .here))))))) (cmp_neI hu) (nomark _))))) fun hk => (ep_or1 (et_cmpA (EvD.w (u_callB boot_sorted nm (.there (.there (.there (.there (.there (.there (.there (.there .here)))))))) fr (.there (.there (.there (.there (.there (.there (.there (.there (.there (.there .here)))))))))) (eb_cons (EvD.w (u_nm nm (.there (.there (.there (.there (.there (.there (.there (.there .here)))))))) (.there (.there (.there (.there (.there (.there (.there (.there .here)))))))))) eb_nil) (cal_sorted))) (EvD.w (ev_lst (ea_cons (u_nm nm (.there (.there (.there (.there (.there (.there (.there (.there .here)))))))) (.there (.there (.there (.there (.there (.there (.there (.there .here))))))))) (ea_cons (ev_revI (EvD.w (u_nm nm (.there (.there (.there (.there (.there (.there (.there (.there .here)))))))) (.there (.there (.there (.there (.there (.there (.there (.there .here))))))))))) ea_nil)))) (cmp_notinL hu ?_) rfl)))) ?_ ?_
  · exact Nat.le_trans (Nat.min_le_right _ _) (Nat.le_trans (depth_ints _) (by decide))
  · rw [hsorted]
    by_cases z : 0 < c
    · rw [btw_lt (by omega)]
      simp
    · simp [z]
  refine q_setLc (α := Int × Int) (r := iL (steps (row a b c))) (own := [("_law_one", 9), ("_law_other", 10)]) (VB := ["_law_one", "_law_other"]) (GB := ["abs"]) (p := fun _ => true) (f := fun q => .int (q.1 - q.2).natAbs) hc nm hsc (Src.w (u_zipI nm (.there (.there (.there (.there (.there (.there (.there (.there (.there .here))))))))) fr (.there (.there (.there (.there (.there (.there (.there (.there (.there .here))))))))) (ev_slI (EvD.w (u_nm nm (.there (.there (.there (.there (.there (.there (.there (.there .here)))))))) (.there (.there (.there (.there (.there (.there (.there (.there .here)))))))))) evo_none (evo_some (EvD.w (ev_neg (EvD.w ev_int))))) (ev_slI (EvD.w (u_nm nm (.there (.there (.there (.there (.there (.there (.there (.there .here)))))))) (.there (.there (.there (.there (.there (.there (.there (.there .here)))))))))) (evo_some (EvD.w ev_int)) evo_none))) (by kernel_rfl) ?_ (fun q hq => ⟨[.d (.list (iL ns)), s1, .d (.int mo), .d (.int (j : Nat)), .d (.int h), .d (.int a), .d (.int b), .d (.int c), .d (.list (iL (row a b c))), .d (.int q.1), .d (.int q.2), s11, s12, s13, s14, s15, s16, s17], fun s H0 C cl fp nb => ⟨?_, rfl, fun _ => ?_⟩⟩) (by kernel_rfl) ?_ (.there (.there (.there (.there (.there (.there (.there (.there (.there (.there (.there .here))))))))))) ?_
  · rw [List.length_zip, cut_a, cut_b, List.length_take, List.length_drop, row_len]
    omega
  · refine (tg_tup hc (tgs_cons (u_tg nb .here (.there (.there (.there (.there (.there (.there (.there (.there (.there .here))))))))) ?_) (tgs_cons (u_tg nb (.there .here) (.there (.there (.there (.there (.there (.there (.there (.there (.there (.there .here)))))))))) ?_) tgs_nil)) rfl) <;> exact tgm (by decide)
  · exact EvD.is (u_callB boot_abs nb .here fr (.there (.there (.there (.there .here)))) (eb_cons (EvD.w (ev_binA (EvD.w (u_nm nb .here (.there (.there (.there (.there (.there (.there (.there (.there (.there .here))))))))))) (EvD.w (u_nm nb (.there .here) (.there (.there (.there (.there (.there (.there (.there (.there (.there (.there .here)))))))))))) bin_sub)) eb_nil) cal_abs) (congrArg PyData.int (abs_if _))
  · rw [List.filter_eq_self.mpr fun _ _ => rfl]
    simp [steps, iL, List.map_map, Function.comp_def]
  refine q_ifF (t := !decide (steps (row a b c) = []) && decide (((if b - a < 0 then -(b - a) else b - a) + c - 1) / c < maxL (steps (row a b c)))) (EvP.t' (ep_and (et_cmpA (EvD.w (u_nm nm (.there (.there (.there (.there (.there (.there (.there (.there (.there .here))))))))) (.there (.there (.there (.there (.there (.there (.there (.there (.there (.there (.there .here))))))))))))) (EvD.w (ev_lst ea_nil)) (cmp_neL (l := steps (row a b c)) (m := []) hu) (nomark _)) fun hk => ep_and1 (et_cmpA (EvD.w (u_callB boot_max nm (.there .here) fr (.there (.there (.there (.there (.there .here))))) (eb_cons (EvD.w (u_nm nm (.there (.there (.there (.there (.there (.there (.there (.there (.there .here))))))))) (.there (.there (.there (.there (.there (.there (.there (.there (.there (.there (.there .here))))))))))))) eb_nil) (cal_maxL hc ?_))) (EvD.w (ev_binA (EvD.w (ev_binA (EvD.w (ev_binA (EvD.w (u_callB boot_abs nm (.there (.there (.there (.there (.there (.there (.there (.there (.there (.there .here)))))))))) fr (.there (.there (.there (.there .here)))) (eb_cons (EvD.w (ev_binA (EvD.w (u_nm nm (.there (.there (.there (.there (.there (.there .here)))))) (.there (.there (.there (.there (.there (.there .here)))))))) (EvD.w (u_nm nm (.there (.there (.there (.there (.there .here))))) (.there (.there (.there (.there (.there .here))))))) bin_sub)) eb_nil) cal_abs)) (EvD.w (u_nm nm (.there (.there (.there (.there (.there (.there (.there .here))))))) (.there (.there (.there (.there (.there (.there (.there .here))))))))) bin_add)) (EvD.w ev_int) bin_sub)) (EvD.w (u_nm nm (.there (.there (.there (.there (.there (.there (.there .here))))))) (.there (.there (.there (.there (.there (.there (.there .here))))))))) (bin_div ?_))) cmp_gt (nomark _)))) ?_ ?_
  · have hk : steps (row a b c) ≠ [] := by simpa using hk
    cases q : steps (row a b c) with
    | nil => exact absurd q hk
    | cons x l => simp
  · have hk : steps (row a b c) ≠ [] := by simpa using hk
    exact cdiv_s (steps_pos t1 hk) (by omega)
  · cases q : steps (row a b c) with
    | nil => rfl
    | cons x l =>
      have hm := (maxL_mem (ns := steps (row a b c)) (by rw [q]; simp)).1
      have := steps_le t1 hm
      rw [abs_if]
      rw [← q]
      have hb := this.2
      rw [decide_eq_false (Int.not_lt.mpr hb)]
      simp
  refine q_ifF (t := !decide (row (100 - a) (100 - b) c = row (100 - a) (100 - b) c)) (et_cmpA (EvD.w (EvD.is (y := .list (iL (row (100 - a) (100 - b) c))) (u_lc (α := Int) (own := [("_law_one", 9)]) (VB := ["_law_one"]) (GB := []) (p := fun _ => true) (f := fun x => .int (100 - x)) hc nm hsc (Src.w (src_listI (u_nm nm (.there (.there (.there (.there (.there (.there (.there (.there .here)))))))) (.there (.there (.there (.there (.there (.there (.there (.there .here))))))))))) (by kernel_rfl) ?_ (fun q hq => ⟨[.d (.list (iL ns)), s1, .d (.int mo), .d (.int (j : Nat)), .d (.int h), .d (.int a), .d (.int b), .d (.int c), .d (.list (iL (row a b c))), .d (.int q), s10, .d (.list (iL (steps (row a b c)))), s12, s13, s14, s15, s16, s17], fun s H0 C cl fp nb => ⟨?_, rfl, fun _ => ?_⟩⟩)) ?_)) (EvD.w (u_call fg_fade hr (by omega) nm (.there (.there (.there (.there (.there (.there .here)))))) (ea_cons (ev_binA (EvD.w ev_int) (EvD.w (u_nm nm (.there (.there (.there (.there (.there .here))))) (.there (.there (.there (.there (.there .here))))))) bin_sub) (ea_cons (ev_binA (EvD.w ev_int) (EvD.w (u_nm nm (.there (.there (.there (.there (.there (.there .here)))))) (.there (.there (.there (.there (.there (.there .here)))))))) bin_sub) (ea_cons (u_nm nm (.there (.there (.there (.there (.there (.there (.there .here))))))) (.there (.there (.there (.there (.there (.there (.there .here)))))))) ea_nil))) ?_)) (cmp_neL hu) (nomark _)) ?_ ?_
  · rw [row_len]; omega
  · refine (u_tg nb .here (.there (.there (.there (.there (.there (.there (.there (.there (.there .here))))))))) ?_)
    exact tgm (by decide)
  · exact (ev_binA (EvD.w ev_int) (EvD.w (u_nm nb .here (.there (.there (.there (.there (.there (.there (.there (.there (.there .here))))))))))) bin_sub)
  · rw [List.filter_eq_self.mpr fun _ _ => rfl, ← row_m]
    simp [iL, List.map_map, Function.comp_def]
  · exact ⟨_, _, _, rfl, .inr ⟨_, _, _, rfl, rfl, rfl, by constructor <;> omega, by constructor <;> omega, ⟨t1, t2⟩, rfl⟩⟩
  · simp
  have g1 := Int.emod_nonneg (h / 2 ^ (30 : Int).toNat) (show (9 : Int) ≠ 0 by decide)
  have g2 := Int.emod_lt_of_pos (h / 2 ^ (30 : Int).toNat) (show (0 : Int) < 9 by decide)
  obtain ⟨n, rg, rn, rk⟩ := rg_st (st := 1 + h / 2 ^ (30 : Int).toNat % 9) (by omega)
  refine q_for (α := Nat) (ys := List.range n) (fun _ Γ => ∃ s1 s3 s9 s10 s11 s12 s13 s14 s15 s16 s17, Γ = [.d (.list (iL ns)), s1, .d (.int mo), s3, .d (.int h), .d (.int a), .d (.int b), .d (.int c), .d (.list (iL (row a b c))), s9, s10, s11, s12, s13, s14, s15, s16, s17]) hc (u_range3 nm .here fr (.there (.there (.there (.there (.there (.there (.there .here))))))) (EvD.w ev_int) (EvD.w ev_int) (EvD.w (ev_binA (EvD.w ev_int) (EvD.w (ev_binA (EvD.w (ev_binA (EvD.w (u_nm nm (.there (.there (.there (.there .here)))) (.there (.there (.there (.there .here)))))) (EvD.w (ev_binA (EvD.w ev_int) (EvD.w ev_int) (bin_pow ?_))) (bin_div ?_))) (EvD.w ev_int) (bin_mod ?_))) bin_add)) ?_) ⟨_, _, _, _, _, _, _, _, _, _, _, rfl⟩ ?_ ?_
  all_goals first | exact rg | exact cdiv_s (by decide) (by decide) | exact ⟨by decide, by decide, by decide⟩ | decide | skip
  · rintro i g Γ1 hg ⟨s1, s3, s9, s10, s11, s12, s13, s14, s15, s16, s17, rfl⟩
    have hg0 := hg
    rw [List.getElem?_range (by have := (List.getElem?_eq_some_iff.mp hg).1; simpa using this)] at hg
    obtain rfl := Option.some.inj hg
    have hi : i < n := by
      have := (List.getElem?_eq_some_iff.mp hg0).1
      simpa using this
    refine ⟨_, [12], (u_tg nm (.there (.there (.there (.there (.there (.there (.there (.there (.there .here))))))))) (.there (.there (.there (.there (.there (.there (.there (.there (.there (.there (.there (.there .here)))))))))))) ?_), ?_⟩
    · exact tgm (by decide)
    have hv1 := rk i hi
    have hv0 : 0 ≤ 0 + (i : Int) * (1 + h / 2 ^ (30 : Int).toNat % 9) := by
      have := Int.mul_nonneg (show (0 : Int) ≤ (i : Int) by omega) (show (0 : Int) ≤ 1 + h / 2 ^ (30 : Int).toNat % 9 by omega)
      omega
    generalize 0 + (i : Int) * (1 + h / 2 ^ (30 : Int).toNat % 9) = v at hv1 hv0
    refine q_setLc (α := Int × Nat) (own := [("_law_at", 13), ("_law_one", 9)]) (VB := ["_law_first", "_law_last", "_law_one", "_law_level", "_law_at"]) (GB := []) (p := fun q => if b ≥ a then decide (q.1 ≥ v) else decide (q.1 ≤ v)) (f := fun q => .int (q.2 : Nat)) hc nm hsc (Src.w (u_enumI nm (.there (.there (.there (.there (.there (.there (.there (.there (.there (.there (.there .here))))))))))) fr (.there (.there (.there (.there (.there (.there (.there (.there .here)))))))) (u_nm nm (.there (.there (.there (.there (.there (.there (.there (.there .here)))))))) (.there (.there (.there (.there (.there (.there (.there (.there .here))))))))))) (by kernel_rfl) ?_ (fun q hq => ⟨[.d (.list (iL ns)), s1, .d (.int mo), s3, .d (.int h), .d (.int a), .d (.int b), .d (.int c), .d (.list (iL (row a b c))), .d (.int q.1), s10, s11, .d (.int v), .d (.int (q.2 : Nat)), s14, s15, s16, s17], fun s H0 C cl fp nb => ⟨?_, ?_, fun _ => ?_⟩⟩) (by kernel_rfl) rfl (.there (.there (.there (.there (.there (.there (.there (.there (.there (.there (.there (.there (.there (.there .here)))))))))))))) ?_
    · rw [List.length_zipIdx, row_len]; omega
    · refine (tg_tup hc (tgs_cons (u_tg nb .here (.there (.there (.there (.there (.there (.there (.there (.there (.there (.there (.there (.there (.there .here))))))))))))) ?_) (tgs_cons (u_tg nb (.there .here) (.there (.there (.there (.there (.there (.there (.there (.there (.there .here))))))))) ?_) tgs_nil)) rfl) <;> exact tgm (by decide)
    · show EvT _ _ _ _
      refine EvT.is (et_ife (et_cmpA (EvD.w (u_nm nb (.there .here) (.there (.there (.there (.there (.there (.there .here)))))))) (EvD.w (u_nm nb .here (.there (.there (.there (.there (.there .here))))))) cmp_ge (nomark _)) (fun hk => (et_cmpA (EvD.w (u_nm nb (.there (.there .here)) (.there (.there (.there (.there (.there (.there (.there (.there (.there .here))))))))))) (EvD.w (u_nm nb (.there (.there (.there .here))) (.there (.there (.there (.there (.there (.there (.there (.there (.there (.there (.there (.there .here)))))))))))))) cmp_ge (nomark _))) (fun hk => (et_cmpA (EvD.w (u_nm nb (.there (.there .here)) (.there (.there (.there (.there (.there (.there (.there (.there (.there .here))))))))))) (EvD.w (u_nm nb (.there (.there (.there .here))) (.there (.there (.there (.there (.there (.there (.there (.there (.there (.there (.there (.there .here)))))))))))))) cmp_le (nomark _)))) ?_
      simp only [decide_eq_true_eq]
    · exact (u_nm nb (.there (.there (.there (.there .here)))) (.there (.there (.there (.there (.there (.there (.there (.there (.there (.there (.there (.there (.there .here))))))))))))))
    refine q_set (x := .bool (inside a b c v)) nm (.there (.there (.there (.there (.there (.there (.there (.there (.there (.there (.there .here))))))))))) (EvD.is (ev_chainA (EvD.w (u_callB boot_min nm (.there (.there .here)) fr (.there (.there (.there (.there (.there (.there .here)))))) (eb_cons (EvD.w (ev_ixI (EvD.w (u_nm nm (.there (.there (.there (.there (.there (.there (.there (.there .here)))))))) (.there (.there (.there (.there (.there (.there (.there (.there .here)))))))))) (EvD.w ev_int) h0)) (eb_cons (EvD.w (u_nm nm (.there (.there (.there (.there (.there (.there .here)))))) (.there (.there (.there (.there (.there (.there .here)))))))) eb_nil)) (cal_min2 hc))) (EvD.w (u_nm nm (.there (.there (.there (.there (.there (.there (.there (.there (.there (.there .here)))))))))) (.there (.there (.there (.there (.there (.there (.there (.there (.there (.there (.there (.there .here)))))))))))))) (EvD.w (u_callB boot_max nm (.there .here) fr (.there (.there (.there (.there (.there .here))))) (eb_cons (EvD.w (ev_ixI (EvD.w (u_nm nm (.there (.there (.there (.there (.there (.there (.there (.there .here)))))))) (.there (.there (.there (.there (.there (.there (.there (.there .here)))))))))) (EvD.w ev_int) h0)) (eb_cons (EvD.w (u_nm nm (.there (.there (.there (.there (.there (.there .here)))))) (.there (.there (.there (.there (.there (.there .here)))))))) eb_nil)) (cal_max2 hc))) cmp_le cmp_le (by with_unfolding_all rfl)) rfl) (.there (.there (.there (.there (.there (.there (.there (.there (.there (.there (.there (.there (.there (.there (.there .here))))))))))))))) ?_
    refine q_set (x := ftick a b c v) nm (.there (.there (.there (.there (.there (.there (.there (.there (.there (.there (.there (.there .here)))))))))))) (EvD.is (ev_ifexp (x := match (fts a b c v)[0]? with | some q => .int (q.2 : Nat) | none => .none) (y := .none) (et_val (EvD.w (u_nm nm (.there (.there (.there (.there (.there (.there (.there (.there (.there (.there (.there (.there .here)))))))))))) (.there (.there (.there (.there (.there (.there (.there (.there (.there (.there (.there (.there (.there (.there (.there .here)))))))))))))))))) (fun hk => ev_ixL (EvD.w (u_nm nm (.there (.there (.there (.there (.there (.there (.there (.there (.there (.there (.there .here))))))))))) (.there (.there (.there (.there (.there (.there (.there (.there (.there (.there (.there (.there (.there (.there .here)))))))))))))))) (EvD.w ev_int) (by
      obtain ⟨q, hq⟩ := fts_some t1 hk
      rw [hq, atI_0, List.getElem?_map]
      exact congrArg (Option.map fun q : Int × Nat => PyData.int (q.2 : Nat)) hq)) (fun _ => ev_none)) rfl) (.there (.there (.there (.there (.there (.there (.there (.there (.there (.there (.there (.there (.there (.there (.there (.there .here)))))))))))))))) ?_
    refine q_ifF (t := !PyData.eqv (ftick a b c v) (ftick a b c v)) (et_cmpA (EvD.w (u_call fg_first_tick hr (by omega) nm (.there (.there (.there (.there (.there (.there (.there (.there (.there (.there (.there (.there .here)))))))))))) (ea_cons (u_nm nm (.there (.there (.there (.there (.there .here))))) (.there (.there (.there (.there (.there .here)))))) (ea_cons (u_nm nm (.there (.there (.there (.there (.there (.there .here)))))) (.there (.there (.there (.there (.there (.there .here))))))) (ea_cons (u_nm nm (.there (.there (.there (.there (.there (.there (.there .here))))))) (.there (.there (.there (.there (.there (.there (.there .here)))))))) (ea_cons (u_nm nm (.there (.there (.there (.there (.there (.there (.there (.there (.there (.there .here)))))))))) (.there (.there (.there (.there (.there (.there (.there (.there (.there (.there (.there (.there .here))))))))))))) ea_nil)))) ?_)) (EvD.w (u_nm nm (.there (.there (.there (.there (.there (.there (.there (.there (.there (.there (.there (.there (.there .here))))))))))))) (.there (.there (.there (.there (.there (.there (.there (.there (.there (.there (.there (.there (.there (.there (.there (.there .here)))))))))))))))))) (cmp_ne hu ?_) (nomark _)) ?_ ?_
    · exact ⟨_, _, _, _, rfl, .inr ⟨a, b, c, v, rfl, rfl, rfl, rfl, a1, b1, ⟨t1, t2⟩, ⟨hv0, hv1⟩, rfl⟩⟩
    · have e : PyData.depth (ftick a b c v) = 0 := by
        unfold ftick
        split
        · split <;> rfl
        · rfl
      rw [e]
      simp
    · have e : PyData.eqv (ftick a b c v) (ftick a b c v) = true := by
        unfold ftick
        split
        · split
          · exact eqv_refl_i _
          · rfl
        · rfl
      rw [e]
      rfl
    exact ss_nil ⟨_, _, _, _, _, _, _, _, _, _, _, rfl⟩
  · rintro Γ1 ⟨s1, s3, s9, s10, s11, s12, s13, s14, s15, s16, s17, rfl⟩
    exact ss_nil (hk _ ⟨_, _, _, _, _, _, _, _, _, _, _, _, _, _, _, _, rfl⟩)
end
end K30

namespace K30
open PySem PySem.Spec PyProof.Rows L2 Wl LamX
variable [Tb]
section
variable {P : Program} {w : World} {K : PySem.W.Frag} {mg : Str → Option Value} {base : Heap}
abbrev okc (K : PySem.W.Frag) (mg : Str → Option Value) : Str → Prop := fun n => n ∈ six ∧ XF K mg n
abbrev bads : List D := [.int (-1), .int 101, .none, .bool true, .str "1"]
theorem bads_no : ∀ x, x ∈ bads → cnt x 0 100 = false ∧ cnt x 0 50 = false := by
  intro x hx
  simp only [bads, List.mem_cons, List.not_mem_nil, or_false] at hx
  rcases hx with rfl | rfl | rfl | rfl | rfl <;> exact ⟨rfl, rfl⟩
theorem law_body {X : Cx} {ns : List Int} (hl : ns.length ≤ 63) (hsc : X.env.scope = defScope (top 22)) (hc : X.calm = true) (hr : Room 7 X.A) (hu : X.A.units + 64 < cLine) (nm : Nms X ["_law_script", "_law_k", "_law_more", "_law_j", "_law_here", "_law_first", "_law_last", "_law_ticks", "_law_told_here", "_law_one", "_law_other", "_law_steps", "_law_level", "_law_at", "_law_some", "_law_is_on", "_law_due", "_law_bad"] ["_law_script", "_law_k", "_law_more", "_law_j", "_law_here", "_law_first", "_law_last", "_law_ticks", "_law_told_here", "_law_steps", "_law_level", "_law_some", "_law_is_on", "_law_due", "_law_bad"] ["range", "max", "min", "len", "_law_drawn", "_law_cell", "fade", "_law_row", "sorted", "zip", "abs", "enumerate", "first_tick", "_law_told"] ["_law_k", "_law_more", "_law_j", "_law_here", "_law_first", "_law_last", "_law_ticks", "_law_told_here", "_law_steps", "_law_level", "_law_some", "_law_is_on", "_law_due", "_law_bad"]) (fr : FreeL X.mg free) (T : TL X "_law_told" id (okc X.K X.mg) 5) (bn : okc X.K X.mg "BadNumber")
    (fg__law_cell : FG X.prog X.w X.K X.mg X.base 1 "_law_cell" 2 (spD X.K X.mg F_cell)) (fg__law_drawn : FG X.prog X.w X.K X.mg X.base 1 "_law_drawn" 2 (spD X.K X.mg F_drn)) (fg_fade : FG X.prog X.w X.K X.mg X.base 3 "fade" 3 (spD X.K X.mg F_fade)) (fg_first_tick : FG X.prog X.w X.K X.mg X.base 4 "first_tick" 4 (spD X.K X.mg F_first)) (fg__law_row : FG X.prog X.w X.K X.mg X.base 1 "_law_row" 3 (spD X.K X.mg F_row)) :
    Ss X (defBody (top 22)) (knO (.ret (.bool true))) [.d (.list (iL ns)), .un, .un, .un, .un, .un, .un, .un, .un, .un, .un, .un, .un, .un, .un, .un, .un, .un] := by
  refine q_for (α := Nat) (fun _ Γ => ∃ s1 s2 s3 s4 s5 s6 s7 s8 s9 s10 s11 s12 s13 s14 s15 s16 s17, Γ = [.d (.list (iL ns)), s1, s2, s3, s4, s5, s6, s7, s8, s9, s10, s11, s12, s13, s14, s15, s16, s17]) hc (u_range1 nm .here fr (.there (.there (.there (.there (.there (.there (.there .here))))))) (EvD.w (u_callB boot_max nm (.there .here) fr (.there (.there (.there (.there (.there .here))))) (eb_cons (EvD.w ev_int) (eb_cons (EvD.w (u_callB boot_min nm (.there (.there .here)) fr (.there (.there (.there (.there (.there (.there .here)))))) (eb_cons (EvD.w ev_int) (eb_cons (EvD.w (u_callB boot_len nm (.there (.there (.there .here))) fr (.there (.there (.there .here))) (eb_cons (EvD.w (u_nm nm .here .here)) eb_nil) cal_lenI)) eb_nil)) (cal_min2 hc))) eb_nil)) (cal_max2 hc))) ?_) ⟨_, _, _, _, _, _, _, _, _, _, _, _, _, _, _, _, _, rfl⟩ ?_ ?_
  · constructor <;> omega
  · rintro i g Γ1 hg ⟨s1, s2, s3, s4, s5, s6, s7, s8, s9, s10, s11, s12, s13, s14, s15, s16, s17, rfl⟩
    have hg0 := hg
    rw [List.getElem?_range (by have := (List.getElem?_eq_some_iff.mp hg).1; simpa using this)] at hg
    obtain rfl := Option.some.inj hg
    have hi : i < 4 := by
      have := (List.getElem?_eq_some_iff.mp hg0).1
      rw [List.length_range] at this
      omega
    refine ⟨_, [1], (u_tg nm .here (.there .here) ?_), ?_⟩
    · exact tgm (by decide)
    have hcell : F_cell [.list (iL ns), .int (i : Nat)] (.ret (.int (cellv ns (i : Nat)))) := ⟨ns, (i : Nat), rfl, hl, by constructor <;> omega, rfl⟩
    refine q_set (x := .int (drn (cellv ns (i : Nat)) (i : Nat))) nm (.there .here) (u_call fg__law_drawn hr (by omega) nm (.there (.there (.there (.there .here)))) (ea_cons (u_call fg__law_cell hr (by omega) nm (.there (.there (.there (.there (.there .here))))) (ea_cons (u_nm nm .here .here) (ea_cons (u_nm nm (.there .here) (.there .here)) ea_nil)) hcell) (ea_cons (u_nm nm (.there .here) (.there .here)) ea_nil)) ?_) (.there (.there .here)) ?_
    · exact ⟨_, _, rfl, by constructor <;> omega, rfl⟩
    refine q_for (α := Nat) (ys := List.range 6) (fun _ Γ => ∃ s1 s3 s4 s5 s6 s7 s8 s9 s10 s11 s12 s13 s14 s15 s16 s17, Γ = [.d (.list (iL ns)), s1, .d (.int (drn (cellv ns (i : Nat)) (i : Nat))), s3, s4, s5, s6, s7, s8, s9, s10, s11, s12, s13, s14, s15, s16, s17]) hc (u_range1 nm .here fr (.there (.there (.there (.there (.there (.there (.there .here))))))) (EvD.w ev_int) ?_) ⟨_, _, _, _, _, _, _, _, _, _, _, _, _, _, _, _, rfl⟩ ?_ ?_
    · constructor <;> decide
    · rintro j g Γ1 hg ⟨s1, s3, s4, s5, s6, s7, s8, s9, s10, s11, s12, s13, s14, s15, s16, s17, rfl⟩
      have hj : j < 6 := by
        have := (List.getElem?_eq_some_iff.mp hg).1
        simpa using this
      rw [List.getElem?_range hj] at hg
      obtain rfl := Option.some.inj hg
      refine ⟨_, [3], (u_tg nm (.there (.there .here)) (.there (.there (.there .here))) ?_), ?_⟩
      · exact tgm (by decide)
      · exact law_j hsc hc hr hu nm fr fg__law_drawn fg_fade fg_first_tick fg__law_row hj (fun Γ h => h)
    · rintro Γ1 ⟨s1, s3, s4, s5, s6, s7, s8, s9, s10, s11, s12, s13, s14, s15, s16, s17, rfl⟩
      refine q_for (α := D) (ys := bads) (enc := fun x => x) (fun _ Γ => ∃ s1 s2 s3 s4 s5 s6 s7 s8 s9 s10 s11 s12 s13 s14 s15 s16 s17, Γ = [.d (.list (iL ns)), s1, s2, s3, s4, s5, s6, s7, s8, s9, s10, s11, s12, s13, s14, s15, s16, s17]) hc (src_list (ev_lst (ea_cons (ev_neg (EvD.w ev_int)) (ea_cons ev_int (ea_cons ev_none (ea_cons ev_bool (ea_cons ev_str ea_nil))))))) ⟨_, _, _, _, _, _, _, _, _, _, _, _, _, _, _, _, _, rfl⟩ ?_ ?_
      · rintro j x Γ1 hx ⟨s1, s2, s3, s4, s5, s6, s7, s8, s9, s10, s11, s12, s13, s14, s15, s16, s17, rfl⟩
        obtain ⟨b1, b2⟩ := bads_no x (List.mem_of_getElem? hx)
        refine ⟨_, [17], (u_tg nm (.there (.there (.there (.there (.there (.there (.there (.there (.there (.there (.there (.there (.there .here))))))))))))) (.there (.there (.there (.there (.there (.there (.there (.there (.there (.there (.there (.there (.there (.there (.there (.there (.there .here))))))))))))))))) ?_), ?_⟩
        · exact tgm (by decide)
        refine q_new nm (.there (.there (.there (.there (.there (.there (.there (.there (.there (.there .here)))))))))) (ea_cons (u_told (o := .exc "BadNumber") (z := .str "BadNumber") (VB := ["_law_bad"]) (GB := ["fade"]) T nm (.there (.there (.there (.there (.there (.there (.there (.there (.there (.there (.there (.there (.there .here))))))))))))) hsc (by kernel_rfl) (fun X' tr hm' hc' hr' nb => (u_callX (tr _ _ _ _ fg_fade) hr' (by omega) nb .here (ea_cons (u_nm nb .here (.there (.there (.there (.there (.there (.there (.there (.there (.there (.there (.there (.there (.there (.there (.there (.there (.there .here)))))))))))))))))) (ea_cons ev_int (ea_cons ev_int ea_nil))) ?_)) ?_) ea_nil) fun p => ⟨_, (.there (.there (.there (.there (.there (.there (.there (.there (.there (.there (.there (.there (.there (.there .here)))))))))))))), ?_⟩
        · exact ⟨_, _, _, rfl, .inl ⟨by rw [b1]; rfl, rfl⟩⟩
        · exact ⟨bn, rfl⟩
        refine q_append nm (.there (.there (.there (.there (.there (.there (.there (.there (.there (.there (.there .here))))))))))) (.there (.there (.there (.there (.there (.there (.there (.there (.there (.there (.there (.there (.there (.there .here)))))))))))))) (u_told (o := .exc "BadNumber") (z := .str "BadNumber") (VB := ["_law_bad"]) (GB := ["fade"]) T nm (.there (.there (.there (.there (.there (.there (.there (.there (.there (.there (.there (.there (.there .here))))))))))))) hsc (by kernel_rfl) (fun X' tr hm' hc' hr' nb => (u_callX (tr _ _ _ _ fg_fade) hr' (by omega) nb .here (ea_cons ev_int (ea_cons (u_nm nb .here (.there (.there (.there (.there (.there (.there (.there (.there (.there (.there (.there (.there (.there (.there (.there (.there (.there .here)))))))))))))))))) (ea_cons ev_int ea_nil))) ?_)) ?_) ?_ (.there (.there (.there (.there (.there (.there (.there (.there (.there (.there (.there (.there (.there (.there .here)))))))))))))) ?_
        · exact ⟨_, _, _, rfl, .inl ⟨by rw [b1]; rfl, rfl⟩⟩
        · exact ⟨bn, rfl⟩
        · decide
        refine q_append nm (.there (.there (.there (.there (.there (.there (.there (.there (.there (.there (.there .here))))))))))) (.there (.there (.there (.there (.there (.there (.there (.there (.there (.there (.there (.there (.there (.there .here)))))))))))))) (u_told (o := .exc "BadNumber") (z := .str "BadNumber") (VB := ["_law_bad"]) (GB := ["fade"]) T nm (.there (.there (.there (.there (.there (.there (.there (.there (.there (.there (.there (.there (.there .here))))))))))))) hsc (by kernel_rfl) (fun X' tr hm' hc' hr' nb => (u_callX (tr _ _ _ _ fg_fade) hr' (by omega) nb .here (ea_cons ev_int (ea_cons ev_int (ea_cons (u_nm nb .here (.there (.there (.there (.there (.there (.there (.there (.there (.there (.there (.there (.there (.there (.there (.there (.there (.there .here)))))))))))))))))) ea_nil))) ?_)) ?_) ?_ (.there (.there (.there (.there (.there (.there (.there (.there (.there (.there (.there (.there (.there (.there .here)))))))))))))) ?_
        · exact ⟨_, _, _, rfl, .inl ⟨by rw [b2]; rfl, rfl⟩⟩
        · exact ⟨bn, rfl⟩
        · decide
        refine q_append nm (.there (.there (.there (.there (.there (.there (.there (.there (.there (.there (.there .here))))))))))) (.there (.there (.there (.there (.there (.there (.there (.there (.there (.there (.there (.there (.there (.there .here)))))))))))))) (u_told (o := .exc "BadNumber") (z := .str "BadNumber") (VB := ["_law_bad"]) (GB := ["first_tick"]) T nm (.there (.there (.there (.there (.there (.there (.there (.there (.there (.there (.there (.there (.there .here))))))))))))) hsc (by kernel_rfl) (fun X' tr hm' hc' hr' nb => (u_callX (tr _ _ _ _ fg_first_tick) hr' (by omega) nb .here (ea_cons ev_int (ea_cons ev_int (ea_cons ev_int (ea_cons (u_nm nb .here (.there (.there (.there (.there (.there (.there (.there (.there (.there (.there (.there (.there (.there (.there (.there (.there (.there .here)))))))))))))))))) ea_nil)))) ?_)) ?_) ?_ (.there (.there (.there (.there (.there (.there (.there (.there (.there (.there (.there (.there (.there (.there .here)))))))))))))) ?_
        · exact ⟨_, _, _, _, rfl, .inl ⟨by rw [b1]; rfl, rfl⟩⟩
        · exact ⟨bn, rfl⟩
        · decide
        refine q_ifF (et_cmpA (u_nmL nm (.there (.there (.there (.there (.there (.there (.there (.there (.there (.there (.there .here))))))))))) (.there (.there (.there (.there (.there (.there (.there (.there (.there (.there (.there (.there (.there (.there .here))))))))))))))) (EvD.w (ev_repL (ea_cons ev_str ea_nil) (EvD.w ev_int) ?_ ?_ ?_)) (cmp_ne hu ?_) (nomark _)) ?_ ?_
        all_goals first | exact ss_nil ⟨_, _, _, _, _, _, _, _, _, _, _, _, _, _, _, _, _, rfl⟩ | decide +kernel | skip
      · rintro Γ1 ⟨s1, s2, s3, s4, s5, s6, s7, s8, s9, s10, s11, s12, s13, s14, s15, s16, s17, rfl⟩
        refine q_ifF (et_cmpA (EvD.w (u_told (o := .exc "BadNumber") (z := .str "BadNumber") (VB := []) (GB := ["fade"]) T nm (.there (.there (.there (.there (.there (.there (.there (.there (.there (.there (.there (.there (.there .here))))))))))))) hsc (by kernel_rfl) (fun X' tr hm' hc' hr' nb => (u_callX (tr _ _ _ _ fg_fade) hr' (by omega) nb .here (ea_cons ev_int (ea_cons ev_int (ea_cons ev_int ea_nil))) ?_)) ?_)) (EvD.w ev_str) (cmp_ne hu ?_) (nomark _)) ?_ (ss_nil ⟨_, _, _, _, _, _, _, _, _, _, _, _, _, _, _, _, _, rfl⟩)
        · exact ⟨_, _, _, rfl, .inl ⟨rfl, rfl⟩⟩
        · exact ⟨bn, rfl⟩
        · decide
        · decide +kernel
  · rintro Γ1 ⟨s1, s2, s3, s4, s5, s6, s7, s8, s9, s10, s11, s12, s13, s14, s15, s16, s17, rfl⟩
    refine q_ret ev_bool ?_
    exact ⟨_, rfl, rfl⟩
end
end K30

namespace K30
open PySem PySem.Spec PyProof.Rows L2 Wl LamX
section
variable [Tb] {P : Program} {w : World} {K : PySem.W.Frag} {mg : Str → Option Value} {base : Heap}
theorem fn_law {f : Addr} {fd : FuncData} (F : FnP K "law" (top 22) f fd) (fr : FreeL mg free) (bn : okc K mg "BadNumber")
    (tl : ∀ X : Cx, X.prog = P → X.w = w → X.K = K → X.mg = mg → X.base = base → X.env.code = fd.code → X.env.qual = ("law" : Str) ++ ".<locals>." → Room 7 X.A → TL X "_law_told" id (okc X.K X.mg) 5)
    (fg__law_cell : FG P w K mg base 1 "_law_cell" 2 (spD K mg F_cell)) (fg__law_drawn : FG P w K mg base 1 "_law_drawn" 2 (spD K mg F_drn)) (fg_fade : FG P w K mg base 3 "fade" 3 (spD K mg F_fade)) (fg_first_tick : FG P w K mg base 4 "first_tick" 4 (spD K mg F_first)) (fg__law_row : FG P w K mg base 1 "_law_row" 3 (spD K mg F_row)) :
    FnOk P w K mg base (L2N.CX P w) 8 f fd ["_law_script"] (spD K mg F_law) := by
  refine fn_L (N := ["_law_script", "_law_k", "_law_more", "_law_j", "_law_here", "_law_first", "_law_last", "_law_ticks", "_law_told_here", "_law_one", "_law_other", "_law_steps", "_law_level", "_law_at", "_law_some", "_law_is_on", "_law_due", "_law_bad"]) (VL := ["_law_script", "_law_k", "_law_more", "_law_j", "_law_here", "_law_first", "_law_last", "_law_ticks", "_law_told_here", "_law_steps", "_law_level", "_law_some", "_law_is_on", "_law_due", "_law_bad"]) (GL := ["range", "max", "min", "len", "_law_drawn", "_law_cell", "fade", "_law_row", "sorted", "zip", "abs", "enumerate", "first_tick", "_law_told"]) (SL := ["_law_k", "_law_more", "_law_j", "_law_here", "_law_first", "_law_last", "_law_ticks", "_law_told_here", "_law_steps", "_law_level", "_law_some", "_law_is_on", "_law_due", "_law_bad"]) F sc_law (by kernel_rfl) (fun xs o ⟨ns, h, _⟩ => by rw [h]; rfl) fun X hP hw hK hm hb hsc hc hr hu nm hcode hqual xs o hF => ?_
  have T := tl X hP hw hK hm hb hcode hqual hr
  subst hP hw hK hm hb
  obtain ⟨ns, rfl, hl, rfl⟩ := hF
  exact law_body hl hsc hc hr hu nm fr T bn fg__law_cell fg__law_drawn fg_fade fg_first_tick fg__law_row
theorem told_F {X : Cx} {g fz : Addr} {fdg fdz : FuncData} {clf : Str → Str} {ok : Str → Prop} {CS : Addr} (F : FnP X.K "_law_told" (top 20) g fdg) (FC : FnP X.K "_law_class" (top 19) fz fdz) (mCS : X.mg "LampError" = some (.ref CS)) (mfz : X.mg "_law_class" = some (.ref fz)) (FZ : FnZ X.prog X.w X.K X.mg X.base 1 fz fdz "_law_e" clf ok) (hex : ∀ n, ok n → PySem.W.exmOne X.K (.ref (clsAt X.mg n)) (.ref CS) = some true) :
    ToldF X "_law_told" "_law_deed" g clf ok 1 := by
  refine ⟨_, _, _, fdg, fdz, ["_law_deed", "_law_e"], "_law_e", "LampError", "_law_class", "_law_e", 1, CS, fz, _, _, _, _, _, _, _, _, _, _, F, ⟨rfl, rfl, rfl, by decide +kernel, rfl, by decide +kernel, by decide +kernel⟩, F.bindsN fun _ _ _ _ _ _ us hl => match us, hl with | [_], _ => rfl, by rfl, rfl, by kernel_rfl, rfl, by kernel_rfl, by kernel_rfl, by kernel_rfl, by decide, by decide, by decide, by decide, by decide, by decide, mCS, mfz, FC.kp, FC.bindsN fun _ _ _ _ _ _ us hl => match us, hl with | [_], _ => rfl, FZ, hex⟩
theorem tl_mk {g fz CS : Addr} {fdg fdz fd0 : FuncData} {c Pt : Addr} (F8 : FnP K "_law_told" (top 20) g fdg) (F7 : FnP K "_law_class" (top 19) fz fdz) (mCS : mg "LampError" = some (.ref CS)) (mfz : mg "_law_class" = some (.ref fz)) (mt : mg "_law_told" = some (.ref g)) (FZ : FnZ P w K mg base 1 fz fdz "_law_e" id (okc K mg)) (hex : ∀ n, n ∈ six → PySem.W.exmOne K (.ref (clsAt mg n)) (.ref CS) = some true)
    (TBc : TabB base mg c Pt) (hc0 : fd0.code = .ref c) (h1 : (Pt, ("law" : Str) ++ ".<locals>." ++ "<lambda>") ∈ Tb.T) (h2 : ∀ p ∈ Tb.T, p.2 = ("law" : Str) ++ ".<locals>." ++ "<lambda>") :
    ∀ X : Cx, X.prog = P → X.w = w → X.K = K → X.mg = mg → X.base = base → X.env.code = fd0.code → X.env.qual = ("law" : Str) ++ ".<locals>." → Room 7 X.A → TL X "_law_told" id (okc X.K X.mg) 5 := fun X hP hw hK hm hb hcode hqual hr => by
  subst hP hw hK hm hb
  exact ⟨"_law_deed", g, c, Pt, 1, told_F F8 F7 mCS mfz FZ (fun n hn => hex n hn.1), mt, TBc, hcode.trans hc0, by rw [hqual]; exact h1, fun p hp _ => by rw [hqual]; exact h2 p hp, hr, by decide⟩
end

def dd (x : Str) (i : Nat) : He.DefD := ⟨(x, none), x, x, defArgs (top i), defBody (top i), defScope (top i), [], []⟩
def fn : List He.DefD := [dd "is_count" 10, dd "between" 13, dd "fade" 14, dd "first_tick" 15, dd "_law_cell" 17, dd "_law_drawn" 18, dd "_law_class" 19, dd "_law_told" 20, dd "_law_row" 21, dd "law" 22]
def defNames : List Str := ["is_count", "between", "fade", "first_tick", "_law_cell", "_law_drawn", "_law_class", "_law_told", "_law_row", "law"]
def fa : List He.Fa := defNames.map .glo ++ (free.map .free ++ ([.int "MOST_LEVEL" 100, .int "MOST_FADE" 50, .glo "LampError"] ++ (six.map .glo ++ (six.map .exc ++ six.map fun n => .exm n "LampError" true))))
/-- what isinstance asks of a class of refusals -/
def exc1 (K : PySem.W.Frag) (C : Addr) : Bool :=
  He.eqO (PySem.W.findIn K (.ref C) "__getattribute__") (some (some (.builtin "BaseException.__getattribute__"))) && (He.eqO (PySem.W.findIn K (.ref C) "__getattr__") (some none) && (decide (PySem.W.subIn K (.ref C) (.type "BaseException") = some true) && (PySem.W.hasDictIn K C &&
  (He.eqO (PySem.W.findIn K (.ref C) "__class__") (some (some (.builtin "object.__class__"))) && (He.eqO (PySem.W.specialIn K (.builtin "object.__class__") "__get__") (some (some (.builtin "getset_descriptor.__get__"))) && (decide (PySem.W.takesIn K (.builtin "object.__class__") = some true) && decide (PySem.W.mroIn K C (.type "object") = some true)))))))
theorem exc1_ok {K : PySem.W.Frag} {C : Addr} (h : exc1 K C = true) : ExcC K C := by
  unfold exc1 at h
  simp only [Bool.and_eq_true, decide_eq_true_eq] at h
  obtain ⟨h1, h2, h3, h4, h5, h6, h7, h8⟩ := h
  exact ⟨He.eqO_ok h1, He.eqO_ok h2, h3, h4, He.eqO_ok h5, He.eqO_ok h6, h7, h8⟩
def exB (K : PySem.W.Frag) : Bool := six.all fun n => exc1 K (He.ga K n) && (decide (PySem.W.kitOne K (.ref (He.ga K n)) (.type "ValueError") = some true) && six.all fun m => decide (PySem.W.kitOne K (.ref (He.ga K n)) (.ref (He.ga K m)) = some (decide (n = m))))
abbrev R : PySem.W.OpenRow := PySem.W.OpenLaw.row PySem.Challenge.rw_wirelamps_k30_whole_fades
abbrev tf : List He.Defn := [("law", none)]
abbrev hk : PySem.W.Hook := He.hookX 6 fa fn [] tf exB
def ob (s : PySem.W.SharedT) : He.AlX := He.obsX 6 fa fn [] tf exB (HandSHeadRun.getT s)
theorem ob_eq (s : PySem.W.SharedT) : ob s = hk.obs s.abs := He.obsX_eq (HandSHeadRun.getT_eq s)
def loose : List Str := ["LampError", "BadHouse", "BadWord", "BadNumber", "BadWish", "NoWay", "BadText", "MOST_LEVEL", "is_count", "MOST_FADE", "between", "fade", "first_tick", "_law_cell", "_law_drawn", "_law_class", "_law_told", "_law_row"]
theorem run (w : World) : HandSHeadRun.RunEq R (PySem.W.view R.prog [22]) hk ob 6000 loose w := by
  intro os
  kernel_rfl
theorem cls_ga {K : PySem.W.Frag} {mg : Str → Option Value} {n : Str} (h : mg n = some (.ref (He.ga K n))) : clsAt mg n = He.ga K n := by
  unfold clsAt
  rw [h]
theorem facts {w : World} {K : PySem.W.Frag} {h : Heap} {mg : Str → Option Value} {f : Addr} (KX : K.In h) (G : h.Ns mainGlobals mg) (hfa : mg ("law" : Str) = some (.ref f)) (c : He.SaysX fa fn [] tf exB w h K) :
    LawAtS PySem.Challenge.rw_wirelamps_k30_whole_fades w K (L2N.CX PySem.Challenge.rw_wirelamps_k30_whole_fades.prog w) 8 63 "_law_script" mg f h := by
  let cP := He.cT K ("law", none)
  letI tb : Tb := ⟨[(cP.2, ("law" : Str) ++ ".<locals>." ++ "<lambda>")]⟩
  have cD : He.SaysD fa fn K := congrArg (fun z : He.AlT => z.1) c.t
  have glo : ∀ n, n ∈ defNames ++ six ++ [("LampError" : Str)] → mg n = some (.ref (He.ga K n)) := fun n hn => by
    refine He.glo_ok KX G (cD.facts (f := .glo n) ?_)
    simp only [fa, List.mem_append, List.mem_map, List.mem_cons] at hn ⊢
    rcases hn with (hn | hn) | hn
    · exact .inl ⟨n, hn, rfl⟩
    · exact .inr (.inr (.inr (.inl ⟨n, hn, rfl⟩)))
    · refine .inr (.inr (.inl ?_))
      rcases hn with rfl | hn
      · exact .inr (.inr (.inl rfl))
      · cases hn
  have fr : FreeL mg free := fun n hn => He.free_ok KX G (cD.facts (f := .free n) (by
    simp only [fa, List.mem_append, List.mem_map]
    exact .inr (.inl ⟨n, hn.mem, rfl⟩)))
  have gi : GIs mg gints := fun n i hi => by
    have key : ∀ n i, (n, i) ∈ gints → GI mg n i := fun n i hm => He.int_ok KX G (cD.facts (f := .int n i) (by
      simp only [gints, List.mem_cons, List.not_mem_nil, or_false, Prod.mk.injEq] at hm
      simp only [fa, List.mem_append, List.mem_map]
      refine .inr (.inr (.inl ?_))
      rcases hm with ⟨rfl, rfl⟩ | ⟨rfl, rfl⟩ <;> simp))
    cases hi with
    | here => exact key _ _ (by simp)
    | there hi =>
      cases hi with
      | here => exact key _ _ (by simp)
      | there hi => cases hi
  have six_c : ∀ n ∈ six, clsAt mg n = He.ga K n := fun n hn => cls_ga (glo n (by simp [hn]))
  have xc : ∀ n ∈ six, XC K mg n := fun n hn => by
    obtain ⟨e1, e2, e3, e4⟩ := He.exc_ok (cD.facts (f := .exc n) (by
      simp only [fa, List.mem_append, List.mem_map]
      exact .inr (.inr (.inr (.inr (.inl ⟨n, hn, rfl⟩))))))
    have e := six_c n hn
    exact ⟨by rw [e]; exact glo n (by simp [hn]), by rw [e]; exact e1, by rw [e]; exact e2, by rw [e]; exact e3, by rw [e]; exact e4⟩
  have xf : ∀ n ∈ six, XF K mg n := fun n hn => by
    have m := List.all_eq_true.mp c.more n hn
    simp only [Bool.and_eq_true, decide_eq_true_eq] at m
    obtain ⟨m1, m2, m3⟩ := m
    refine ⟨by rw [six_c n hn]; exact exc1_ok m1, fun k hk => ?_, by rw [six_c n hn]; exact m2⟩
    rw [six_c n hn, six_c k hk]
    exact of_decide_eq_true (List.all_eq_true.mp m3 k hk)
  have hexm : ∀ n, n ∈ six → PySem.W.exmOne K (.ref (clsAt mg n)) (.ref (He.ga K "LampError")) = some true := fun n hn => by
    rw [six_c n hn]
    exact He.exm_ok (cD.facts (f := .exm n "LampError" true) (by
      simp only [fa, List.mem_append, List.mem_map]
      exact .inr (.inr (.inr (.inr (.inr ⟨n, hn, rfl⟩))))))
  obtain ⟨fd1, F1⟩ := cD.defs (d := dd "is_count" 10) (by simp [fn])
  obtain ⟨fd2, F2⟩ := cD.defs (d := dd "between" 13) (by simp [fn])
  obtain ⟨fd3, F3⟩ := cD.defs (d := dd "fade" 14) (by simp [fn])
  obtain ⟨fd4, F4⟩ := cD.defs (d := dd "first_tick" 15) (by simp [fn])
  obtain ⟨fd5, F5⟩ := cD.defs (d := dd "_law_cell" 17) (by simp [fn])
  obtain ⟨fd6, F6⟩ := cD.defs (d := dd "_law_drawn" 18) (by simp [fn])
  obtain ⟨fd7, F7⟩ := cD.defs (d := dd "_law_class" 19) (by simp [fn])
  obtain ⟨fd8, F8⟩ := cD.defs (d := dd "_law_told" 20) (by simp [fn])
  obtain ⟨fd9, F9⟩ := cD.defs (d := dd "_law_row" 21) (by simp [fn])
  obtain ⟨fd0, F0⟩ := cD.defs (d := dd "law" 22) (by simp [fn])
  have e := hfa.symm.trans (glo "law" (by decide))
  cases e
  have hc0 : fd0.code = .ref cP.1 := by
    obtain ⟨oc, od, dV, kV, doc, pm, an, cdv, ct, osl, ef, lk, hcd, _, _⟩ := F0.ex
    obtain ⟨c0, ec⟩ := He.codeIn_ref hcd
    have e2 : fd0.code = .ref c0 := by rw [ef]; exact ec
    rw [e2]
    exact congrArg Value.ref (He.codeOf_eq lk e2).symm
  have b0 := FunD.bindsA (ps := ["_law_script"]) F0 fun _ _ _ _ _ _ us hl => match us, hl with | [_], _ => rfl
  refine ⟨fd0, [cP], spD K mg F_law, fun p hp => ?_, fun p hp => ?_, fun p hp => ?_, fun s v => b0 s [v] rfl, fun H a ns hl _ hH hS => ?_, fun base KB GB hTB => ?_⟩
  · rw [show p = cP by simpa using hp]; exact c.empty _ (by simp)
  · rw [show p = cP by simpa using hp]; exact c.out _ (by simp)
  · rw [show p = cP by simpa using hp]; exact PySem.W.codeHd_of_K KX (c.hd _ (by simp))
  · have hT := hH cP (by simp)
    have htab : LamX.Tabs Tb.T H := fun p hp => by
      rw [List.mem_singleton.mp (show p ∈ [(cP.2, ("law" : Str) ++ ".<locals>." ++ "<lambda>")] from hp)]
      exact TabS.nil hT
    have fin : ∀ G : Hp, Same G H → NoT G → SqL K G a (ns.map V.int) → spD K mg F_law [.ref a] H (fun v _ => v = .bl true) fun _ _ _ => False := fun G e nt s =>
      ⟨G, [.list (iL ns)], .ret (.bool true), e, htab, nt, .cons (.lst s (DtAll.ofInts ns)) .nil, ⟨ns, rfl, hl, rfl⟩, fun v G' H' st d => by cases d; rfl⟩
    rcases hS with (hS | ⟨o, hS⟩) | hS
    · refine fin (upd (fun _ => none) a (.lst (ns.map V.int))) (fun b u hb => ?_) (fun b ps hb => ?_) (.of upd_same)
      · by_cases z : b = a
        · rw [z, upd_same] at hb; rw [z, hS]; exact hb
        · rw [upd_ne z] at hb; cases hb
      · by_cases z : b = a
        · rw [z, upd_same] at hb; cases hb
        · rw [upd_ne z] at hb; cases hb
    · refine fin (upd (fun _ => none) a (.frz o (.lst (ns.map V.int)))) (fun b u hb => ?_) (fun b ps hb => ?_) (.inl (.inr ⟨o, upd_same⟩))
      · by_cases z : b = a
        · rw [z, upd_same] at hb; rw [z, hS]; exact hb
        · rw [upd_ne z] at hb; cases hb
      · by_cases z : b = a
        · rw [z, upd_same] at hb; cases hb
        · rw [upd_ne z] at hb; cases hb
    · exact fin (fun _ => none) (fun b u hb => by cases hb) (fun b ps hb => by cases hb) (.inr hS)
  · have TBc := hTB cP (by simp)
    have g1 := fg_cnt (P := PySem.Challenge.rw_wirelamps_k30_whole_fades.prog) (w := w) (base := base) F1 (glo "is_count" (by decide)) fr
    have g2 := fg_btw (P := PySem.Challenge.rw_wirelamps_k30_whole_fades.prog) (w := w) (base := base) F2 (glo "between" (by decide)) fr
    have g3 := fg_fade F3 (glo "fade" (by decide)) fr gi (xc _ (by decide)) g1 g2
    have g4 := fg_first F4 (glo "first_tick" (by decide)) fr gi (xc _ (by decide)) g1 g3
    have g5 := fg_cell (P := PySem.Challenge.rw_wirelamps_k30_whole_fades.prog) (w := w) (base := base) F5 (glo "_law_cell" (by decide)) fr
    have g6 := fg_drn (P := PySem.Challenge.rw_wirelamps_k30_whole_fades.prog) (w := w) (base := base) F6 (glo "_law_drawn" (by decide))
    have g9 := fg_row (P := PySem.Challenge.rw_wirelamps_k30_whole_fades.prog) (w := w) (base := base) F9 (glo "_law_row" (by decide)) fr
    have zc := fz_class (P := PySem.Challenge.rw_wirelamps_k30_whole_fades.prog) (w := w) (base := base) F7 fr fun n hn => (xc n hn).gC
    exact fn_law F0 fr ⟨by decide, xf _ (by decide)⟩ (tl_mk F8 F7 (glo "LampError" (by decide)) (glo "_law_class" (by decide)) (glo "_law_told" (by decide)) zc hexm TBc hc0 List.mem_cons_self fun p hp => by rw [List.mem_singleton.mp (show p ∈ [(cP.2, ("law" : Str) ++ ".<locals>." ++ "<lambda>")] from hp)]) g5 g6 g3 g4 g9
end K30
open PySem PySem.W PySem.Calls PyProof.Rows
theorem PySem.Challenge.cw_wirelamps_k30_whole_fades_holds : PySem.Challenge.rw_wirelamps_k30_whole_fades.Holds := by
  w_on; o_law
  refine HandSHeadRun.head_any (r := OpenLaw.row PySem.Challenge.rw_wirelamps_k30_whole_fades) (q := view (OpenLaw.row PySem.Challenge.rw_wirelamps_k30_whole_fades).prog [22]) (H := K30.hk) (ob := K30.ob) (M := 6000) (loose := K30.loose) (d := HandSHeadRun.topDef (OpenLaw.row PySem.Challenge.rw_wirelamps_k30_whole_fades).prog 22) (kwd := []) K30.ob_eq
    (by kernel_rfl) (fun s => by kernel_rfl) K30.run (by kernel_rfl) (by kernel_rfl) (by kernel_rfl) (by rfl) (by first | assumption | decide +kernel) (by decide +kernel) ⟨rfl, rfl, rfl, rfl, rfl, by decide +kernel⟩ ?hw ?hc
  case hw => w_witness2
  case hc =>
    refine LamX.walk_ofTsE (l := PySem.Challenge.rw_wirelamps_k30_whole_fades) (n := 63) (k := 8) (x := "_law_script") (CX := fun w => L2N.CX PySem.Challenge.rw_wirelamps_k30_whole_fades.prog w) rfl (by decide) (by kernel_rfl) ⟨rfl, by decide, by decide⟩ ?F (fun w H s e s' z => ?G)
    case G =>
      obtain ⟨_, _, _, _, _, _, _, _, _, _, _, _, y⟩ := z
      exact y
    intro w mg f h Y G hmg0
    obtain ⟨K, KX, c⟩ := Y
    have e : (HandSHeadRun.topDef (OpenLaw.row PySem.Challenge.rw_wirelamps_k30_whole_fades).prog 22).name = ("law" : PySem.Str) := by kernel_rfl
    rw [e] at hmg0
    exact ⟨K, KX, K30.facts KX G hmg0 c⟩
