import PyProof.Rows.All
import Wide.All
import OpenK.AllK
import Wide.FinOn
import KE.DataEq
import HandS.ForMost
import HandS.Exc
import HandS.TryOnly
import HandS.ExcOwn
import HandS.WordsExc
import HandS.Lambda
import HandS.IsInst
import HandS.SortInts
import HandS.Wide
import HandS.Walk
import HandS.Style
import HandS.TupAny
import HandS.ExcCtx
import HandS.Defaults
import HandS.HotCalls
import HandS.ExcIs
import HandS.TupSets
import HandS.Conv
import HandS.More
import HandS.ExcBuiltin
import HandS.Head0
import HandS.Head1
import HandS.Head2
import HandS.HeadEnd
import HandS.HeadHook1
import HandS.HeadHook2
import HandS.HeadHook3
import HandS.HeadHook4
import HandS.HeadWalk
import PySem.Challenge.RW_wirelamps_k50_whole_seeking
set_option Elab.async false
set_option linter.all false
set_option maxRecDepth 100000
set_option maxHeartbeats 4000000
section
/-! W1: a logic of data over the hand layer. Slots hold data (frozen) or resources (owned); the heap is hidden. -/
namespace Wl
open PySem L2
abbrev D := PyData
abbrev Frg := PySem.W.Frag

/-! ### readings by meaning: the weakest reading of each piece of syntax -/
def wE (X : Cx) (e : Expr) : TE := fun σ H Q => ∀ (pins : List (Addr × Obj)) (s : Shared), Inv X pins σ H s → wpAny (model X.prog X.w) X.A (eval e X.env) (EP X pins σ Q) X.xe s
def wT (X : Cx) (e : Expr) : TT := fun σ H Q => ∀ (pins : List (Addr × Obj)) (s : Shared), Inv X pins σ H s → wpAny (model X.prog X.w) X.A (isTrue e X.env (eval e X.env)) (TP X pins σ Q) X.xe s
def wA (X : Cx) (es : List Expr) : TA := fun σ H Q => ∀ (pos : Pos) (pins : List (Addr × Obj)) (s : Shared), Inv X pins σ H s → wpAny (model X.prog X.w) X.A (spliced (backTo pos (starEach es X.env))) (AP X pins σ Q) X.xe s
def wS (X : Cx) (st : Stmt) : TS := fun K σ H => ∀ (pins : List (Addr × Obj)) (s : Shared), Inv X pins σ H s → wpAny (model X.prog X.w) X.A (exec st X.env) (SP X pins K) X.xe s
def wSs (X : Cx) (st : List Stmt) : TS := fun K σ H => ∀ (pins : List (Addr × Obj)) (s : Shared), Inv X pins σ H s → wpAny (model X.prog X.w) X.A (execs st X.env) (SP X pins K) X.xe s
section
variable {X : Cx} {σ : L2.St} {H : Hp}
theorem pe_w {e : Expr} : PE X e (wE X e) := ⟨fun pins s _ _ _ I h => h pins s I⟩
theorem pt_w {e : Expr} : PT X e (wT X e) := ⟨fun pins s _ _ _ I h => h pins s I⟩
theorem pa_w {es : List Expr} : PA X es (wA X es) := ⟨fun pos pins s _ _ _ I h => h pos pins s I⟩
theorem ps_w {st : Stmt} : PS X st (wS X st) := ⟨fun pins s _ _ _ I h => h pins s I⟩
theorem pss_w {st : List Stmt} : PSs X st (wSs X st) := ⟨fun pins s _ _ _ I h => h pins s I⟩
theorem w_pe {e : Expr} {t : TE} {Q : VK} (h : PE X e t) (q : t σ H Q) : wE X e σ H Q := fun pins s I => h.run pins s σ H Q I q
theorem w_pt {e : Expr} {t : TT} {Q : Bool → Hp → Prop} (h : PT X e t) (q : t σ H Q) : wT X e σ H Q := fun pins s I => h.run pins s σ H Q I q
theorem w_pa {es : List Expr} {t : TA} {Q : List V → Hp → Prop} (h : PA X es t) (q : t σ H Q) : wA X es σ H Q := fun pos pins s I => h.run pos pins s σ H Q I q
theorem w_ps {st : Stmt} {t : TS} {K : Ends} (h : PS X st t) (q : t K σ H) : wS X st K σ H := fun pins s I => h.run pins s σ H K I q
theorem w_pss {st : List Stmt} {t : TS} {K : Ends} (h : PSs X st t) (q : t K σ H) : wSs X st K σ H := fun pins s I => h.run pins s σ H K I q
theorem wE_mono {e : Expr} {Q Q' : VK} (h : wE X e σ H Q) (m : ∀ v H', Q v H' → Q' v H') : wE X e σ H Q' := fun pins s I =>
  thn (h pins s I) fun u s' ⟨v, H', I', r, q⟩ => ⟨v, H', I', r, m v H' q⟩
theorem wT_mono {e : Expr} {Q Q' : Bool → Hp → Prop} (h : wT X e σ H Q) (m : ∀ b H', Q b H' → Q' b H') : wT X e σ H Q' := fun pins s I =>
  thn (h pins s I) fun u s' ⟨H', I', q⟩ => ⟨H', I', m u H' q⟩
theorem wA_mono {es : List Expr} {Q Q' : List V → Hp → Prop} (h : wA X es σ H Q) (m : ∀ v H', Q v H' → Q' v H') : wA X es σ H Q' := fun pos pins s I =>
  thn (h pos pins s I) fun u s' ⟨v, H', I', r, q⟩ => ⟨v, H', I', r, m v H' q⟩
/-- a statement, then the rest -/
theorem wSs_cons {st : Stmt} {rest : List Stmt} {K : Ends} (h : wS X st { K with nx := wSs X rest K } σ H) : wSs X (st :: rest) K σ H := w_pss (pss_cons ps_w pss_w) h
theorem wSs_one {st : Stmt} {K : Ends} (h : wS X st K σ H) : wSs X [st] K σ H := w_pss (pss_one ps_w) h
theorem wSs_nil {K : Ends} (h : K.nx σ H) : wSs X [] K σ H := w_pss pss_nil h
end

/-! ### heaps: the frozen part G within H -/
theorem same_upd {H : Hp} {p : Addr} {o : HO} (h : H p = none) : Same H (upd H p o) := fun a u e => by
  rw [upd_ne (ne_of_none e h)]
  exact e
theorem same_upd2 {G H : Hp} {p : Addr} {o : HO} (e : Same G H) (h : G p = none) : Same G (upd H p o) := fun a u ha => by
  rw [upd_ne (ne_of_none ha h)]
  exact e a u ha
theorem sqT_mono {K : Frg} {H H' : Hp} {a : Addr} {xs : List V} (e : Same H H') (h : SqT K H a xs) : SqT K H' a xs := by
  rcases h with (h | ⟨o, h⟩) | h
  · exact .inl (.inl (e _ _ h))
  · exact .inl (.inr ⟨o, e _ _ h⟩)
  · exact .inr h
/-! data that stands: lists are tracked ones -/
mutual
inductive Dt (K : Frg) (G : Hp) : V → D → Prop
  | non : Dt K G .non .none
  | bl (b : Bool) : Dt K G (.bl b) (.bool b)
  | int (i : Int) : Dt K G (.int i) (.int i)
  | str (x : Str) : Dt K G (.str x) (.str x)
  | lst {a : Addr} {vs : List V} {xs : List D} : SqL K G a vs → DtAll K G vs xs → Dt K G (.ref a) (.list xs)
  | tup {a : Addr} {vs : List V} {xs : List D} : SqT K G a vs → DtAll K G vs xs → Dt K G (.ref a) (.tuple xs)
inductive DtAll (K : Frg) (G : Hp) : List V → List D → Prop
  | nil : DtAll K G [] []
  | cons {v : V} {vs : List V} {x : D} {xs : List D} : Dt K G v x → DtAll K G vs xs → DtAll K G (v :: vs) (x :: xs)
end
mutual
theorem dt_dp {K : Frg} {G H : Hp} (e : Same G H) : ∀ (x : D) (v : V), Dt K G v x → Dp K H v x
  | .none, _, h => by cases h; exact .non
  | .bool b, _, h => by cases h; exact .bl b
  | .int i, _, h => by cases h; exact .int i
  | .str z, _, h => by cases h; exact .str z
  | .list ds, _, h => by
    cases h with
    | lst hs ha => exact .lst (e.seq hs) (dtAll_dp e ds _ ha)
  | .tuple ds, _, h => by
    cases h with
    | tup hs ha => exact .tup (sqT_mono e hs) (dtAll_dp e ds _ ha)
  | .dict _, _, h => by cases h
theorem dtAll_dp {K : Frg} {G H : Hp} (e : Same G H) : ∀ (xs : List D) (vs : List V), DtAll K G vs xs → DpAll K H vs xs
  | [], _, h => by cases h; exact .nil
  | x :: xs, _, h => by
    cases h with
    | cons h1 h2 => exact .cons (dt_dp e x _ h1) (dtAll_dp e xs _ h2)
end
mutual
theorem dt_mono {K : Frg} {G G' : Hp} (e : Same G G') : ∀ (x : D) (v : V), Dt K G v x → Dt K G' v x
  | .none, _, h => by cases h; exact .non
  | .bool b, _, h => by cases h; exact .bl b
  | .int i, _, h => by cases h; exact .int i
  | .str z, _, h => by cases h; exact .str z
  | .list ds, _, h => by
    cases h with
    | lst hs ha => exact .lst (e.seq hs) (dtAll_mono e ds _ ha)
  | .tuple ds, _, h => by
    cases h with
    | tup hs ha => exact .tup (sqT_mono e hs) (dtAll_mono e ds _ ha)
  | .dict _, _, h => by cases h
theorem dtAll_mono {K : Frg} {G G' : Hp} (e : Same G G') : ∀ (xs : List D) (vs : List V), DtAll K G vs xs → DtAll K G' vs xs
  | [], _, h => by cases h; exact .nil
  | x :: xs, _, h => by
    cases h with
    | cons h1 h2 => exact .cons (dt_mono e x _ h1) (dtAll_mono e xs _ h2)
end
theorem DtAll.len {K : Frg} {G : Hp} : ∀ {vs : List V} {xs : List D}, DtAll K G vs xs → vs.length = xs.length
  | _, _, .nil => rfl
  | _, _, .cons _ t => by rw [List.length_cons, List.length_cons, DtAll.len t]
theorem DtAll.get {K : Frg} {G : Hp} : ∀ {vs : List V} {xs : List D} {i : Nat} {x : D}, DtAll K G vs xs → xs[i]? = some x → ∃ v, vs[i]? = some v ∧ Dt K G v x
  | _, _, _, _, .nil, e => by simp at e
  | _, _, 0, _, .cons h _, e => by simp at e; subst e; exact ⟨_, rfl, h⟩
  | _, _, i + 1, _, .cons _ t, e => by
    obtain ⟨v, h1, h2⟩ := DtAll.get (i := i) t (by simpa using e)
    exact ⟨v, by simpa using h1, h2⟩
theorem DtAll.get' {K : Frg} {G : Hp} : ∀ {vs : List V} {xs : List D} {i : Nat} {v : V}, DtAll K G vs xs → vs[i]? = some v → ∃ x, xs[i]? = some x ∧ Dt K G v x
  | _, _, _, _, .nil, e => by simp at e
  | _, _, 0, _, .cons h _, e => by simp at e; subst e; exact ⟨_, rfl, h⟩
  | _, _, i + 1, _, .cons _ t, e => by
    obtain ⟨x, h1, h2⟩ := DtAll.get' (i := i) t (by simpa using e)
    exact ⟨x, by simpa using h1, h2⟩
theorem DtAll.append {K : Frg} {G : Hp} : ∀ {vs ws : List V} {xs ys : List D}, DtAll K G vs xs → DtAll K G ws ys → DtAll K G (vs ++ ws) (xs ++ ys)
  | _, _, _, _, .nil, h => h
  | _, _, _, _, .cons h t, h2 => .cons h (t.append h2)
theorem DtAll.one {K : Frg} {G : Hp} {v : V} {x : D} (h : Dt K G v x) : DtAll K G [v] [x] := .cons h .nil
theorem DtAll.take {K : Frg} {G : Hp} : ∀ (n : Nat) {vs : List V} {xs : List D}, DtAll K G vs xs → DtAll K G (vs.take n) (xs.take n)
  | 0, _, _, _ => .nil
  | _ + 1, _, _, .nil => .nil
  | n + 1, _, _, .cons h t => .cons h (t.take n)
theorem DtAll.drop {K : Frg} {G : Hp} : ∀ (n : Nat) {vs : List V} {xs : List D}, DtAll K G vs xs → DtAll K G (vs.drop n) (xs.drop n)
  | 0, _, _, h => h
  | _ + 1, _, _, .nil => .nil
  | n + 1, _, _, .cons _ t => t.drop n
theorem DtAll.reverse {K : Frg} {G : Hp} : ∀ {vs : List V} {xs : List D}, DtAll K G vs xs → DtAll K G vs.reverse xs.reverse
  | _, _, .nil => .nil
  | _, _, .cons h t => by
    rw [List.reverse_cons, List.reverse_cons]
    exact t.reverse.append (.one h)
theorem DtAll.set {K : Frg} {G : Hp} {v : V} {x : D} (h : Dt K G v x) : ∀ {vs : List V} {xs : List D} (i : Nat), DtAll K G vs xs → DtAll K G (vs.set i v) (xs.set i x)
  | _, _, _, .nil => .nil
  | _, _, 0, .cons _ t => .cons h t
  | _, _, i + 1, .cons k t => .cons k (DtAll.set h i t)
theorem DtAll.eraseIdx {K : Frg} {G : Hp} : ∀ {vs : List V} {xs : List D} (i : Nat), DtAll K G vs xs → DtAll K G (vs.eraseIdx i) (xs.eraseIdx i)
  | _, _, _, .nil => .nil
  | _, _, 0, .cons _ t => t
  | _, _, i + 1, .cons k t => .cons k (DtAll.eraseIdx i t)
/-- what may be owned: no table, nothing written once for all -/
def isPl : HO → Bool
  | .lst _ | .dK _ | .dT _ | .ins _ _ _ | .own _ => true
  | _ => false
/-- free, or a table of code objects -/
def Fre (H : Hp) (a : Addr) : Prop := H a = none ∨ ∃ ps, H a = some (.tbl ps)
theorem Fre.no {H : Hp} {a : Addr} {o : HO} (f : Fre H a) (h : H a = some o) (n : ∀ ps, o ≠ .tbl ps) : False := by
  rcases f with f | ⟨ps, f⟩
  · rw [h] at f; cases f
  · rw [h] at f; exact n ps (Option.some.inj f)
theorem pl_tbl {o : HO} (h : isPl o = true) : ∀ ps, o ≠ .tbl ps := fun ps z => by rw [z] at h; cases h
/-- the tables of code objects that are told of -/
class Tb where
  T : List (Addr × Str)
variable [Tb]
/-- all stays, but tables of code objects may grow -/
structure Keeps (H H' : Hp) : Prop where
  n : ∀ a o, H a = some o → (∀ ps, o ≠ .tbl ps) → H' a = some o
  t : LamX.Tabs Tb.T H → LamX.Tabs Tb.T H'
theorem Keeps.of {H H' : Hp} (e : Same H H') : Keeps H H' := ⟨fun a o h _ => e a o h, fun t => t.ext e⟩
theorem Keeps.refl (H : Hp) : Keeps H H := .of (Same.refl H)
theorem Keeps.trans {H H1 H2 : Hp} (a : Keeps H H1) (b : Keeps H1 H2) : Keeps H H2 := ⟨fun x o h n => b.n x o (a.n x o h n) n, fun t => b.t (a.t t)⟩
theorem Keeps.fre {H H' : Hp} (e : Keeps H H') {a : Addr} (h : Fre H' a) : Fre H a := by
  cases q : H a with
  | none => exact .inl q
  | some o =>
    by_cases z : ∃ ps, o = .tbl ps
    · obtain ⟨ps, rfl⟩ := z
      exact .inr ⟨ps, q⟩
    · have n : ∀ ps, o ≠ .tbl ps := fun ps y => z ⟨ps, y⟩
      exact (h.no (e.n a o q n) n).elim
theorem Keeps.lst {H H' : Hp} (e : Keeps H H') {a : Addr} {vs : List V} (h : H a = some (.lst vs)) : H' a = some (.lst vs) := e.n a _ h fun _ z => by cases z
theorem Keeps.seq {K : Frg} {H H' : Hp} {a : Addr} {xs : List V} (e : Keeps H H') (h : SqL K H a xs) : SqL K H' a xs := by
  rcases h with (h | ⟨o, h⟩) | h
  · exact .inl (.inl (e.n _ _ h fun _ z => by cases z))
  · exact .inl (.inr ⟨o, e.n _ _ h fun _ z => by cases z⟩)
  · exact .inr h
theorem tabs_upd {H : Hp} {p : Addr} {o u : HO} (h : LamX.Tabs Tb.T H) (l : H p = some o) (n : isPl o = true) : LamX.Tabs Tb.T (upd H p u) := fun P hP => by
  obtain ⟨ps, t1, t2, t3⟩ := h P hP
  refine ⟨ps, ?_, t2, fun pos cv hc => ?_⟩
  · rw [upd_ne fun z => ?_]
    · exact t1
    · rw [z, l] at t1
      exact pl_tbl n _ (Option.some.inj t1)
  · obtain ⟨c, e1, e2⟩ := t3 pos cv hc
    refine ⟨c, e1, ?_⟩
    rw [upd_ne fun z => ?_]
    · exact e2
    · rw [z, l] at e2
      rw [Option.some.inj e2] at n
      cases n
theorem keeps_upd2 {H H' : Hp} {p : Addr} {o : HO} {vs : List V} (e : Keeps H H') (h : H p = none) (l : H' p = some (.lst vs)) : Keeps H (upd H' p o) := ⟨fun a u ha hn => by
  rw [upd_ne (ne_of_none ha h)]
  exact e.n a u ha hn, fun t => tabs_upd (e.t t) l rfl⟩
def NoT (G : Hp) : Prop := ∀ a ps, G a ≠ some (.tbl ps)
theorem NoT.upd {G : Hp} {p : Addr} {o : HO} (h : NoT G) (n : ∀ ps, o ≠ .tbl ps) : NoT (L2.upd G p o) := fun a ps z => by
  by_cases q : a = p
  · rw [q, upd_same] at z; exact n ps (Option.some.inj z)
  · rw [upd_ne q] at z; exact h a ps z
/-- from (G, H) things were only laid: some of them frozen -/
structure Stp (G H G' H' : Hp) : Prop where
  g : Same G G'
  h : Keeps H H'
  gh : Same G' H'
  new : ∀ a, G' a = G a ∨ Fre H a
  nt : NoT G → NoT G'
theorem Stp.refl {G H : Hp} (e : Same G H) : Stp G H G H := ⟨Same.refl _, Keeps.refl _, e, fun _ => .inl rfl, id⟩
theorem Stp.trans {G H G1 H1 G2 H2 : Hp} (a : Stp G H G1 H1) (b : Stp G1 H1 G2 H2) : Stp G H G2 H2 := ⟨a.g.trans b.g, a.h.trans b.h, b.gh, fun x => by
  rcases b.new x with e | e
  · rcases a.new x with q | q
    · exact .inl (e.trans q)
    · exact .inr q
  · exact .inr (a.h.fre e), fun n => b.nt (a.nt n)⟩
/-- laid and frozen -/
theorem Stp.lay {G H : Hp} {p : Addr} {o : HO} (e : Same G H) (n : H p = none) (nt : ∀ ps, o ≠ .tbl ps := by intro _ z; cases z) : Stp G H (upd G p o) (upd H p o) := by
  have ng : G p = none := e.free n
  refine ⟨same_upd ng, .of (same_upd n), fun a u q => ?_, fun a => ?_, fun x => x.upd nt⟩
  · by_cases h : a = p
    · subst h; rw [upd_same] at q ⊢; exact q
    · rw [upd_ne h] at q ⊢; exact e a u q
  · by_cases h : a = p
    · subst h; exact .inr (.inl n)
    · rw [upd_ne h]; exact .inl rfl
/-- laid, not frozen (a thing of the moment) -/
theorem Stp.put {G H : Hp} {p : Addr} {o : HO} (e : Same G H) (n : H p = none) : Stp G H G (upd H p o) :=
  ⟨Same.refl _, .of (same_upd n), e.trans (same_upd n), fun _ => .inl rfl, id⟩
theorem Stp.free {G H G' H' : Hp} (s : Stp G H G' H') {a : Addr} {o : HO} (g : G a = none) (h : H a = some o) (n : isPl o = true) : G' a = none := by
  rcases s.new a with e | e
  · rw [e]; exact g
  · exact (e.no h (pl_tbl n)).elim
theorem Stp.at {G H G' H' : Hp} (s : Stp G H G' H') {a : Addr} {o : HO} (h : H a = some o) (p : isPl o = true) : H' a = H a := by
  rw [h]
  exact s.h.n a o h fun ps z => by rw [z] at p; cases p

/-! ### slots -/
/-- an owned thing: its root's address, what is true of it; it leans on the frozen part and on the addresses fp alone -/
structure Res where
  root : Addr
  at_ : Frg → Hp → Hp → List Addr → Prop
  mono : ∀ {K : Frg} {G H G' H' : Hp} {fp : List Addr}, at_ K G H fp → Same G G' → (∀ a, a ∈ fp → H' a = H a) → at_ K G' H' fp
  live : ∀ {K : Frg} {G H : Hp} {fp : List Addr}, at_ K G H fp → ∀ a, a ∈ fp → ∃ o, H a = some o ∧ isPl o = true
inductive Sl where
  | un
  | d (x : D)
  | r (R : Res)
def SlAt (K : Frg) (G H : Hp) (fp : List Addr) (o : Option V) : Sl → Prop
  | .un => fp = []
  | .d x => fp = [] ∧ ∃ v, o = some v ∧ Dt K G v x
  | .r R => o = some (.ref R.root) ∧ R.at_ K G H fp
def SlsAt (K : Frg) (G H : Hp) : List (List Addr) → L2.St → List Sl → Prop
  | [], [], [] => True
  | fp :: fps, o :: σ, s :: Γ => SlAt K G H fp o s ∧ SlsAt K G H fps σ Γ
  | _, _, _ => False
theorem SlAt.live {K : Frg} {G H : Hp} {fp : List Addr} {o : Option V} {s : Sl} (h : SlAt K G H fp o s) : ∀ a ∈ fp, ∃ o, H a = some o ∧ isPl o = true := by
  cases s with
  | un => intro a ha; rw [show fp = [] from h] at ha; cases ha
  | d x => intro a ha; rw [h.1] at ha; cases ha
  | r R => exact R.live h.2
theorem SlAt.mono {K : Frg} {G H G' H' : Hp} {fp : List Addr} {o : Option V} {s : Sl} (h : SlAt K G H fp o s) (g : Same G G') (e : ∀ a, a ∈ fp → H' a = H a) : SlAt K G' H' fp o s := by
  cases s with
  | un => exact h
  | d x => exact ⟨h.1, let ⟨v, e1, e2⟩ := h.2; ⟨v, e1, dt_mono g x v e2⟩⟩
  | r R => exact ⟨h.1, R.mono h.2 g e⟩
theorem SlsAt.len {K : Frg} {G H : Hp} : ∀ {fps : List (List Addr)} {σ : L2.St} {Γ : List Sl}, SlsAt K G H fps σ Γ → fps.length = Γ.length ∧ σ.length = Γ.length
  | [], [], [], _ => ⟨rfl, rfl⟩
  | _ :: _, _ :: _, _ :: _, h => by
    obtain ⟨a, b⟩ := SlsAt.len h.2
    exact ⟨by rw [List.length_cons, List.length_cons, a], by rw [List.length_cons, List.length_cons, b]⟩
  | [], _ :: _, _, h => h.elim
  | [], [], _ :: _, h => h.elim
  | _ :: _, [], _, h => h.elim
  | _ :: _, _ :: _, [], h => h.elim
theorem SlsAt.mono {K : Frg} {G H G' H' : Hp} (g : Same G G') : ∀ {fps : List (List Addr)} {σ : L2.St} {Γ : List Sl}, SlsAt K G H fps σ Γ → (∀ a, a ∈ fps.flatten → H' a = H a) → SlsAt K G' H' fps σ Γ
  | [], [], [], _, _ => True.intro
  | fp :: _, _ :: _, _ :: _, h, e => ⟨h.1.mono g fun a ha => e a (by rw [List.flatten_cons]; exact List.mem_append_left _ ha), SlsAt.mono g h.2 fun a ha => e a (by rw [List.flatten_cons]; exact List.mem_append_right _ ha)⟩
  | [], _ :: _, _, h, _ => h.elim
  | [], [], _ :: _, h, _ => h.elim
  | _ :: _, [], _, h, _ => h.elim
  | _ :: _, _ :: _, [], h, _ => h.elim
theorem SlsAt.live {K : Frg} {G H : Hp} : ∀ {fps : List (List Addr)} {σ : L2.St} {Γ : List Sl}, SlsAt K G H fps σ Γ → ∀ a, a ∈ fps.flatten → ∃ o, H a = some o ∧ isPl o = true
  | [], _, _, _, a, ha => by cases ha
  | fp :: fps, _ :: _, _ :: _, h, a, ha => by
    rw [List.flatten_cons] at ha
    rcases List.mem_append.mp ha with q | q
    · exact h.1.live a q
    · exact SlsAt.live h.2 a q
  | _ :: _, [], _, h, _, _ => h.elim
  | _ :: _, _ :: _, [], h, _, _ => h.elim
theorem SlsAt.get {K : Frg} {G H : Hp} : ∀ {fps : List (List Addr)} {σ : L2.St} {Γ : List Sl} {i : Nat} {s : Sl}, SlsAt K G H fps σ Γ → Γ[i]? = some s → ∃ fp o, fps[i]? = some fp ∧ σ[i]? = some o ∧ SlAt K G H fp o s
  | [], [], [], _, _, _, e => by simp at e
  | fp :: _, o :: _, s' :: _, 0, s, h, e => by
    have e' : s' = s := Option.some.inj e
    subst e'
    exact ⟨fp, o, rfl, rfl, h.1⟩
  | _ :: _, _ :: _, _ :: _, i + 1, s, h, e => by
    obtain ⟨fp, o, h1, h2, h3⟩ := SlsAt.get (i := i) h.2 (by simpa using e)
    exact ⟨fp, o, by simpa using h1, by simpa using h2, h3⟩
  | [], _ :: _, _, _, _, h, _ => h.elim
  | [], [], _ :: _, _, _, h, _ => h.elim
  | _ :: _, [], _, _, _, h, _ => h.elim
  | _ :: _, _ :: _, [], _, _, h, _ => h.elim
theorem SlsAt.set {K : Frg} {G H : Hp} {fp : List Addr} {o : Option V} {s : Sl} (hs : SlAt K G H fp o s) : ∀ {fps : List (List Addr)} {σ : L2.St} {Γ : List Sl} (i : Nat), SlsAt K G H fps σ Γ → SlsAt K G H (fps.set i fp) (σ.set i o) (Γ.set i s)
  | [], [], [], _, _ => True.intro
  | _ :: _, _ :: _, _ :: _, 0, h => ⟨hs, h.2⟩
  | _ :: _, _ :: _, _ :: _, i + 1, h => ⟨h.1, SlsAt.set hs i h.2⟩
  | [], _ :: _, _, _, h => h.elim
  | [], [], _ :: _, _, h => h.elim
  | _ :: _, [], _, _, h => h.elim
  | _ :: _, _ :: _, [], _, h => h.elim

/-- the entry of what runs: the frozen part, the heap, what it may change -/
structure Bs where
  G : Hp
  H : Hp
  O : List Addr
structure Env (K : Frg) (B : Bs) (G H : Hp) (σ : L2.St) (Γ : List Sl) : Prop where
  gh : Same G H
  g0 : Same B.G G
  new : ∀ a, G a = B.G a ∨ Fre B.H a ∨ a ∈ B.O
  keep : ∀ a o, B.H a = some o → a ∉ B.O → (∀ ps, o ≠ .tbl ps) → H a = some o
  tab : LamX.Tabs Tb.T H
  nt : NoT G
  sl : ∃ fps : List (List Addr), SlsAt K G H fps σ Γ ∧ fps.flatten.Nodup ∧ ∀ a, a ∈ fps.flatten → G a = none ∧ (Fre B.H a ∨ a ∈ B.O)
theorem Env.fre {K : Frg} {B : Bs} {G H : Hp} {σ : L2.St} {Γ : List Sl} (E : Env K B G H σ Γ) {a : Addr} (h : Fre H a) : Fre B.H a ∨ a ∈ B.O := by
  by_cases q : a ∈ B.O
  · exact .inr q
  · refine .inl ?_
    cases e : B.H a with
    | none => exact .inl e
    | some o =>
      by_cases z : ∃ ps, o = .tbl ps
      · obtain ⟨ps, rfl⟩ := z
        exact .inr ⟨ps, e⟩
      · have n : ∀ ps, o ≠ .tbl ps := fun ps y => z ⟨ps, y⟩
        exact (h.no (E.keep a o e q n) n).elim
section
variable {K : Frg} {B : Bs} {G H G' H' : Hp} {σ : L2.St} {Γ : List Sl} {o : Option V} {s : Sl}
theorem Env.step (E : Env K B G H σ Γ) (s : Stp G H G' H') : Env K B G' H' σ Γ := by
  obtain ⟨fps, h1, h2, h3⟩ := E.sl
  have lv := h1.live
  refine ⟨s.gh, E.g0.trans s.g, fun a => ?_, fun a o e n t => s.h.n a o (E.keep a o e n t) t, s.h.t E.tab, s.nt E.nt, fps, h1.mono s.g fun a ha => ?_, h2, fun a ha => ⟨let ⟨o, e, p⟩ := lv a ha; s.free (h3 a ha).1 e p, (h3 a ha).2⟩⟩
  · rcases s.new a with e | e
    · rcases E.new a with q | q
      · exact .inl (e.trans q)
      · exact .inr q
    · exact .inr (E.fre e)
  · obtain ⟨o, e, p⟩ := lv a ha
    exact s.at e p
theorem Env.len (E : Env K B G H σ Γ) : σ.length = Γ.length := let ⟨_, h, _⟩ := E.sl; h.len.2
theorem Env.get_d (E : Env K B G H σ Γ) {i : Nat} {x : D} (h : Γ[i]? = some (.d x)) : ∃ v, σ[i]? = some (some v) ∧ Dt K G v x := by
  obtain ⟨fps, h1, _, _⟩ := E.sl
  obtain ⟨fp, o, _, e2, _, v, e3, d⟩ := h1.get h
  subst e3
  exact ⟨v, e2, d⟩
theorem Env.get_r (E : Env K B G H σ Γ) {i : Nat} {R : Res} (h : Γ[i]? = some (.r R)) : σ[i]? = some (some (.ref R.root)) ∧ ∃ fp, R.at_ K G H fp := by
  obtain ⟨fps, h1, _, _⟩ := E.sl
  obtain ⟨fp, o, _, e2, e3, d⟩ := h1.get h
  subst e3
  exact ⟨e2, fp, d⟩
theorem flatten_set_mem {α : Type} : ∀ {l : List (List α)} {i : Nat} {x fp : List α} {a : α}, l[i]? = some fp → a ∈ (l.set i x).flatten → a ∈ x ∨ (a ∈ l.flatten)
  | [], _, _, _, _, e, _ => by simp at e
  | y :: l, 0, x, fp, a, e, h => by
    rw [List.set_cons_zero, List.flatten_cons] at h
    rcases List.mem_append.mp h with q | q
    · exact .inl q
    · exact .inr (by rw [List.flatten_cons]; exact List.mem_append_right _ q)
  | y :: l, i + 1, x, fp, a, e, h => by
    rw [List.set_cons_succ, List.flatten_cons] at h
    rcases List.mem_append.mp h with q | q
    · exact .inr (by rw [List.flatten_cons]; exact List.mem_append_left _ q)
    · rcases flatten_set_mem (l := l) (i := i) (fp := fp) (by simpa using e) q with z | z
      · exact .inl z
      · exact .inr (by rw [List.flatten_cons]; exact List.mem_append_right _ z)
theorem nodup_mem {α : Type} : ∀ {l : List (List α)} {i : Nat} {fp : List α}, l[i]? = some fp → l.flatten.Nodup → fp.Nodup
  | [], _, _, e, _ => by simp at e
  | y :: l, 0, fp, e, nd => by
    have e' : y = fp := Option.some.inj e
    subst e'
    rw [List.flatten_cons] at nd
    exact (List.nodup_append.mp nd).1
  | y :: l, i + 1, fp, e, nd => by
    rw [List.flatten_cons] at nd
    exact nodup_mem (l := l) (i := i) (by simpa using e) (List.nodup_append.mp nd).2.1
/-- the other footprints: what stands in the list of footprints beside the i-th -/
theorem flatten_oth {α : Type} : ∀ {l : List (List α)} {i : Nat} {fp x : List α}, l[i]? = some fp → l.flatten.Nodup → x.Nodup → (∀ a, a ∈ x → a ∈ fp ∨ a ∉ l.flatten) → (l.set i x).flatten.Nodup
  | [], _, _, _, e, _, _, _ => by simp at e
  | y :: l, 0, fp, x, e, nd, nx, hx => by
    have e' : y = fp := Option.some.inj e
    subst e'
    rw [List.set_cons_zero, List.flatten_cons]
    rw [List.flatten_cons] at nd
    obtain ⟨n1, n2, n3⟩ := List.nodup_append.mp nd
    refine List.nodup_append.mpr ⟨nx, n2, fun a ha b hb z => ?_⟩
    rcases hx a ha with q | q
    · exact n3 a q b hb z
    · exact q (by rw [List.flatten_cons]; exact List.mem_append_right _ (z ▸ hb))
  | y :: l, i + 1, fp, x, e, nd, nx, hx => by
    rw [List.set_cons_succ, List.flatten_cons]
    rw [List.flatten_cons] at nd
    obtain ⟨n1, n2, n3⟩ := List.nodup_append.mp nd
    have e' : l[i]? = some fp := by simpa using e
    have hm : ∀ a, a ∈ fp → a ∈ l.flatten := fun a ha => List.mem_flatten.mpr ⟨fp, List.mem_of_getElem? e', ha⟩
    have ih := flatten_oth (l := l) (i := i) e' n2 nx fun a ha => by
      rcases hx a ha with q | q
      · exact .inl q
      · exact .inr fun z => q (by rw [List.flatten_cons]; exact List.mem_append_right _ z)
    refine List.nodup_append.mpr ⟨n1, ih, fun a ha b hb z => ?_⟩
    rcases flatten_set_mem e' hb with q | q
    · rcases hx b q with w | w
      · exact n3 a ha b (hm b w) z
      · exact w (by rw [List.flatten_cons]; exact List.mem_append_left _ (z ▸ ha))
    · exact n3 a ha b q z
theorem flatten_rest {α : Type} : ∀ {l : List (List α)} {i : Nat} {fp x : List α} {a : α}, l[i]? = some fp → l.flatten.Nodup → a ∈ (l.set i x).flatten → a ∉ x → a ∉ fp
  | [], _, _, _, _, e, _, _, _ => by simp at e
  | y :: l, 0, fp, x, a, e, nd, ha, hx => by
    have e' : y = fp := Option.some.inj e
    subst e'
    rw [List.set_cons_zero, List.flatten_cons] at ha
    rw [List.flatten_cons] at nd
    obtain ⟨n1, n2, n3⟩ := List.nodup_append.mp nd
    rcases List.mem_append.mp ha with q | q
    · exact absurd q hx
    · exact fun z => n3 a z a q rfl
  | y :: l, i + 1, fp, x, a, e, nd, ha, hx => by
    rw [List.set_cons_succ, List.flatten_cons] at ha
    rw [List.flatten_cons] at nd
    obtain ⟨n1, n2, n3⟩ := List.nodup_append.mp nd
    have e' : l[i]? = some fp := by simpa using e
    rcases List.mem_append.mp ha with q | q
    · exact fun z => n3 a q a (List.mem_flatten.mpr ⟨fp, List.mem_of_getElem? e', z⟩) rfl
    · exact flatten_rest e' n2 q hx
theorem SlsAt.mono_but {fp : List Addr} (g : Same G G') : ∀ {fps : List (List Addr)} {σ : L2.St} {Γ : List Sl} {i : Nat}, fps[i]? = some fp → SlsAt K G H fps σ Γ → (∀ a, a ∈ (fps.set i []).flatten → H' a = H a) → SlsAt K G' H' (fps.set i []) (σ.set i none) (Γ.set i .un)
  | [], _, _, _, e, _, _ => by simp at e
  | y :: l, o :: σ, s :: Γ, 0, e, h, k => by
    refine ⟨rfl, SlsAt.mono g h.2 fun a ha => k a ?_⟩
    rw [List.set_cons_zero, List.flatten_cons]
    exact List.mem_append_right _ ha
  | y :: l, o :: σ, s :: Γ, i + 1, e, h, k => by
    refine ⟨h.1.mono g fun a ha => k a ?_, SlsAt.mono_but g (by simpa using e) h.2 fun a ha => k a ?_⟩
    · rw [List.set_cons_succ, List.flatten_cons]
      exact List.mem_append_left _ ha
    · rw [List.set_cons_succ, List.flatten_cons]
      exact List.mem_append_right _ ha
  | _ :: _, [], _, _, _, h, _ => h.elim
  | _ :: _, _ :: _, [], _, _, h, _ => h.elim
/-- slot i in view: what it owns, and how the state goes on when it alone is changed -/
theorem Env.focus (E : Env K B G H σ Γ) {i : Nat} {s : Sl} (hi : Γ[i]? = some s) : ∃ fp o, σ[i]? = some o ∧ SlAt K G H fp o s ∧ fp.Nodup ∧ (∀ a, a ∈ fp → G a = none ∧ (Fre B.H a ∨ a ∈ B.O)) ∧
    ∀ {G' H' : Hp} {fp' : List Addr} {o' : Option V} {s' : Sl}, NoT G' → Same G G' → Same G' H' → (∀ a, a ∉ fp → H a ≠ none → H' a = H a ∧ G' a = G a) → (∀ a, G' a = G a ∨ Fre B.H a ∨ a ∈ B.O) →
      SlAt K G' H' fp' o' s' → fp'.Nodup → (∀ a, a ∈ fp' → (a ∈ fp ∨ H a = none) ∧ G' a = none) → Env K B G' H' (σ.set i o') (Γ.set i s') := by
  obtain ⟨fps, h1, h2, h3⟩ := E.sl
  obtain ⟨fp, o, ef, eo, hs⟩ := h1.get hi
  have hm : ∀ a, a ∈ fp → a ∈ fps.flatten := fun a ha => List.mem_flatten.mpr ⟨fp, List.mem_of_getElem? ef, ha⟩
  have ndf : fp.Nodup := nodup_mem ef h2
  refine ⟨fp, o, eo, hs, ndf, fun a ha => h3 a (hm a ha), ?_⟩
  intro G' H' fp' o' s' ntg g gh chg nw hs' nd' sub
  have lvp := h1.live
  have lvs : ∀ a, a ∈ fps.flatten → H a ≠ none := fun a ha => by
    obtain ⟨o, e, _⟩ := lvp a ha
    rw [e]; simp
  have npl : ∀ a o, H a = some o → isPl o = false → a ∉ fp := fun a o e q z => by
    obtain ⟨o', e', p⟩ := lvp a (hm a z)
    rw [e] at e'
    cases e'
    rw [q] at p
    cases p
  have oth : ∀ a, a ∈ (fps.set i []).flatten → a ∈ fps.flatten ∧ a ∉ fp := fun a ha => by
    refine ⟨?_, flatten_rest ef h2 ha (by simp)⟩
    rcases flatten_set_mem ef ha with z | z
    · cases z
    · exact z
  have nbase : ∀ a, a ∈ fp → (Fre B.H a ∨ a ∈ B.O) := fun a ha => (h3 a (hm a ha)).2
  refine ⟨gh, E.g0.trans g, fun a => ?_, fun a u e n nt => ?_, fun P hP => ?_, ntg, fps.set i fp', ?_, ?_, fun a ha => ?_⟩
  · rcases nw a with q | q
    · rcases E.new a with z | z
      · exact .inl (q.trans z)
      · exact .inr z
    · exact .inr q
  · have hH := E.keep a u e n nt
    have na : a ∉ fp := fun z => by
      rcases nbase a z with q | q
      · exact q.no e nt
      · exact n q
    rw [(chg a na (by rw [hH]; simp)).1]
    exact hH
  · obtain ⟨ps, t1, t2, t3⟩ := E.tab P hP
    refine ⟨ps, ?_, t2, fun pos cv hc => ?_⟩
    · rw [(chg P.1 (npl P.1 _ t1 rfl) (by rw [t1]; simp)).1]
      exact t1
    · obtain ⟨c, e1, e2⟩ := t3 pos cv hc
      refine ⟨c, e1, ?_⟩
      rw [(chg c (npl c _ e2 rfl) (by rw [e2]; simp)).1]
      exact e2
  · have k := SlsAt.mono_but g ef h1 (H' := H') fun a ha => (chg a (oth a ha).2 (lvs a (oth a ha).1)).1
    have k2 := SlsAt.set hs' i k
    rw [List.set_set, List.set_set, List.set_set] at k2
    exact k2
  · refine flatten_oth ef h2 nd' fun a ha => ?_
    rcases (sub a ha).1 with q | q
    · exact .inl q
    · exact .inr fun z => lvs a z q
  · by_cases hp : a ∈ fp'
    · refine ⟨(sub a hp).2, ?_⟩
      rcases (sub a hp).1 with q | q
      · exact nbase a q
      · exact E.fre (.inl q)
    · have q : a ∈ fps.flatten := by
        rcases flatten_set_mem ef ha with z | z
        · exact absurd z hp
        · exact z
      have na := flatten_rest ef h2 ha hp
      refine ⟨?_, (h3 a q).2⟩
      rw [(chg a na (lvs a q)).2]
      exact (h3 a q).1
theorem set_out {α : Type} {l : List α} {i : Nat} {x : α} (h : l.length ≤ i) : l.set i x = l := List.set_eq_of_length_le h
theorem Env.rebase (E : Env K B G H σ Γ) : Env K ⟨G, B.H, B.O⟩ G H σ Γ ∧ ∀ {G' H' : Hp} {σ' : L2.St} {Γ' : List Sl}, Env K ⟨G, B.H, B.O⟩ G' H' σ' Γ' → Env K B G' H' σ' Γ' ∧ Same G G' := by
  refine ⟨⟨E.gh, Same.refl _, fun _ => .inl rfl, E.keep, E.tab, E.nt, E.sl⟩, fun {G' H' σ' Γ'} E' => ⟨⟨E'.gh, E.g0.trans E'.g0, fun a => ?_, E'.keep, E'.tab, E'.nt, E'.sl⟩, E'.g0⟩⟩
  rcases E'.new a with q | q
  · rcases E.new a with z | z
    · exact .inl (q.trans z)
    · exact .inr z
  · exact .inr q
/-- a slot gets data -/
theorem Env.set_d (E : Env K B G H σ Γ) {v : V} {x : D} (h : Dt K G v x) (i : Nat) : Env K B G H (σ.set i (some v)) (Γ.set i (.d x)) := by
  cases e : Γ[i]? with
  | none =>
    have l := List.getElem?_eq_none_iff.mp e
    rw [set_out l, set_out (by rw [E.len]; exact l)]
    exact E
  | some s =>
    obtain ⟨fp, o, eo, hs, nd, hf, k⟩ := E.focus e
    exact k E.nt (Same.refl _) E.gh (fun _ _ _ => ⟨rfl, rfl⟩) (fun _ => .inl rfl) (show SlAt K G H [] (some v) (.d x) from ⟨rfl, v, rfl, h⟩) List.nodup_nil (fun a ha => by cases ha)
/-- a slot is forgotten -/
theorem Env.set_un (E : Env K B G H σ Γ) (o : Option V) (i : Nat) : Env K B G H (σ.set i o) (Γ.set i .un) := by
  cases e : Γ[i]? with
  | none =>
    have l := List.getElem?_eq_none_iff.mp e
    rw [set_out l, set_out (by rw [E.len]; exact l)]
    exact E
  | some s =>
    obtain ⟨fp, o', eo, hs, nd, hf, k⟩ := E.focus e
    exact k E.nt (Same.refl _) E.gh (fun _ _ _ => ⟨rfl, rfl⟩) (fun _ => .inl rfl) (show SlAt K G H [] o .un from rfl) List.nodup_nil (fun a ha => by cases ha)
/-- a value ahead of the slots -/
theorem Env.push (E : Env K B G H σ Γ) {v : V} {x : D} (h : Dt K G v x) : Env K B G H (some v :: σ) (.d x :: Γ) := by
  obtain ⟨fps, h1, h2, h3⟩ := E.sl
  exact ⟨E.gh, E.g0, E.new, E.keep, E.tab, E.nt, [] :: fps, ⟨⟨rfl, v, rfl, h⟩, h1⟩, by rw [List.flatten_cons]; exact h2, fun a ha => h3 a (by rw [List.flatten_cons] at ha; exact ha)⟩
theorem Env.pop (E : Env K B G H (o :: σ) (s :: Γ)) : Env K B G H σ Γ := by
  obtain ⟨fps, h1, h2, h3⟩ := E.sl
  cases fps with
  | nil => exact h1.elim
  | cons fp fps =>
    rw [List.flatten_cons] at h2 h3
    exact ⟨E.gh, E.g0, E.new, E.keep, E.tab, E.nt, fps, h1.2, (List.nodup_append.mp h2).2.1, fun a ha => h3 a (List.mem_append_right _ ha)⟩
/-! ### an owned list of data -/
def lR (p : Addr) (xs : List D) : Res where
  root := p
  at_ := fun K G H fp => fp = [p] ∧ ∃ vs, H p = some (.lst vs) ∧ DtAll K G vs xs
  mono := fun {K G H G' H' fp} h g e => by
    obtain ⟨rfl, vs, h1, h2⟩ := h
    exact ⟨rfl, vs, by rw [e p (by simp)]; exact h1, dtAll_mono g _ _ h2⟩
  live := fun {K G H fp} h a ha => by
    obtain ⟨rfl, vs, h1, h2⟩ := h
    have e : a = p := by simpa using ha
    exact ⟨_, by rw [e]; exact h1, rfl⟩
abbrev Sl.l (p : Addr) (xs : List D) : Sl := .r (lR p xs)
/-- a list that is only read (the script) -/
def rdR (p : Addr) (xs : List D) : Res where
  root := p
  at_ := fun K G H fp => fp = [] ∧ ∃ vs, SqL K G p vs ∧ DtAll K G vs xs
  mono := fun {K G H G' H' fp} h g e => by
    obtain ⟨rfl, vs, h1, h2⟩ := h
    exact ⟨rfl, vs, g.seq h1, dtAll_mono g _ _ h2⟩
  live := fun {K G H fp} h a ha => by
    obtain ⟨rfl, vs, h1, h2⟩ := h
    cases ha
theorem Env.get_l (E : Env K B G H σ Γ) {i : Nat} {p : Addr} {xs : List D} (h : Γ[i]? = some (.l p xs)) : ∃ vs, σ[i]? = some (some (.ref p)) ∧ H p = some (.lst vs) ∧ G p = none ∧ DtAll K G vs xs := by
  obtain ⟨fp, o, h1, h2, _, h4, _⟩ := E.focus h
  obtain ⟨e, rfl, vs, h5, h6⟩ := (show o = some (.ref p) ∧ fp = [p] ∧ ∃ vs, H p = some (.lst vs) ∧ DtAll K G vs xs from h2)
  subst e
  exact ⟨vs, h1, h5, (h4 p (by simp)).1, h6⟩
theorem Env.get_rd (E : Env K B G H σ Γ) {i : Nat} {p : Addr} {xs : List D} (h : Γ[i]? = some (.r (rdR p xs))) : ∃ vs, σ[i]? = some (some (.ref p)) ∧ SqL K H p vs ∧ DtAll K G vs xs := by
  obtain ⟨h1, fp, _, vs, h2, h3⟩ := E.get_r h
  exact ⟨vs, h1, E.gh.seq h2, h3⟩
/-- the owned list is written -/
theorem Env.put_l (E : Env K B G H σ Γ) {i : Nat} {p : Addr} {xs ys : List D} {ws : List V} (h : Γ[i]? = some (.l p xs)) (hd : DtAll K G ws ys) : Env K B G (upd H p (.lst ws)) (σ.set i (some (.ref p))) (Γ.set i (.l p ys)) := by
  obtain ⟨fp, o, h1, h2, nd, h4, k⟩ := E.focus h
  obtain ⟨e, rfl, vs, h5, h6⟩ := (show o = some (.ref p) ∧ fp = [p] ∧ ∃ vs, H p = some (.lst vs) ∧ DtAll K G vs xs from h2)
  have gp := (h4 p (by simp)).1
  exact k (fp' := [p]) E.nt (Same.refl _) (same_upd2 E.gh gp) (fun a n _ => ⟨upd_ne fun z => n (by simp [z]), rfl⟩) (fun _ => .inl rfl) ⟨rfl, rfl, ws, upd_same, hd⟩ nd fun a ha => ⟨.inl ha, (h4 a ha).1⟩
/-- .. is frozen -/
theorem Env.freeze (E : Env K B G H σ Γ) {i : Nat} {p : Addr} {xs : List D} (h : Γ[i]? = some (.l p xs)) : ∃ G', Same G G' ∧ Env K B G' H (σ.set i (some (.ref p))) (Γ.set i (.d (.list xs))) := by
  obtain ⟨fp, o, h1, h2, nd, h4, k⟩ := E.focus h
  obtain ⟨e, rfl, vs, h5, h6⟩ := (show o = some (.ref p) ∧ fp = [p] ∧ ∃ vs, H p = some (.lst vs) ∧ DtAll K G vs xs from h2)
  obtain ⟨gp, hb⟩ := h4 p (by simp)
  refine ⟨upd G p (.lst vs), same_upd gp, k (fp' := []) (E.nt.upd fun ps z => by cases z) (same_upd gp) (fun a u e => ?_) (fun a n _ => ⟨rfl, upd_ne fun z => n (by simp [z])⟩) (fun a => ?_) ⟨rfl, _, rfl, .lst (.of upd_same) (dtAll_mono (same_upd gp) _ _ h6)⟩ List.nodup_nil fun a ha => by cases ha⟩
  · by_cases q : a = p
    · subst q; rw [upd_same] at e; rw [h5]; exact e
    · rw [upd_ne q] at e; exact E.gh _ _ e
  · by_cases q : a = p
    · rw [q]; exact .inr hb
    · exact .inl (upd_ne q)
theorem set_self {α : Type} : ∀ {l : List α} {i : Nat} {x : α}, l[i]? = some x → l.set i x = l
  | [], _, _, h => by simp at h
  | y :: l, 0, x, h => by
    have e : y = x := Option.some.inj h
    rw [List.set_cons_zero, e]
  | y :: l, i + 1, x, h => by rw [List.set_cons_succ, set_self (l := l) (i := i) (by simpa using h)]
/-- a fresh list in a slot -/
theorem Env.new_l (E : Env K B G H σ Γ) {p : Addr} {xs : List D} {vs : List V} (hp : H p = none) (hd : DtAll K G vs xs) {i : Nat} {s : Sl} (hi : Γ[i]? = some s) : Env K B G (upd H p (.lst vs)) (σ.set i (some (.ref p))) (Γ.set i (.l p xs)) := by
  obtain ⟨fp, o, h1, h2, nd, h4, k⟩ := E.focus hi
  have gp := E.gh.free hp
  refine k (fp' := [p]) E.nt (Same.refl _) (same_upd2 E.gh gp) (fun a n q => ⟨upd_ne fun z => q (by rw [z]; exact hp), rfl⟩) (fun _ => .inl rfl) ⟨rfl, rfl, vs, upd_same, hd⟩ (by simp) fun a ha => ?_
  have e : a = p := by simpa using ha
  rw [e]
  exact ⟨.inr hp, gp⟩
end
end Wl

end

section
/-! W2: expressions over data. -/
namespace Wl
open PySem L2
variable [Tb]

/-! ### values as data: frozen (Dp over G), or an owned list that is read -/
def Wk (K : Frg) (G H : Hp) (v : V) (x : D) : Prop := Dt K G v x ∨ ∃ (p : Addr) (vs : List V) (xs : List D), v = .ref p ∧ x = .list xs ∧ SqL K H p vs ∧ DtAll K G vs xs
inductive WkAll (K : Frg) (G H : Hp) : List V → List D → Prop
  | nil : WkAll K G H [] []
  | cons {v : V} {vs : List V} {x : D} {xs : List D} : Wk K G H v x → WkAll K G H vs xs → WkAll K G H (v :: vs) (x :: xs)
section
variable {K : Frg} {G H G' H' : Hp} {v : V} {x : D}
theorem Wk.step (h : Wk K G H v x) (s : Stp G H G' H') : Wk K G' H' v x := by
  rcases h with h | ⟨p, vs, xs, e1, e2, e3, e4⟩
  · exact .inl (dt_mono s.g _ _ h)
  · exact .inr ⟨p, vs, xs, e1, e2, s.h.seq e3, dtAll_mono s.g _ _ e4⟩
theorem WkAll.step : ∀ {vs : List V} {xs : List D}, WkAll K G H vs xs → Stp G H G' H' → WkAll K G' H' vs xs
  | _, _, .nil, _ => .nil
  | _, _, .cons h t, s => .cons (h.step s) (t.step s)
theorem Wk.dpH (h : Wk K G H v x) (e : Same G H) : Dp K H v x := by
  rcases h with h | ⟨p, vs, xs, e1, e2, e3, e4⟩
  · exact dt_dp e _ _ h
  · subst e1; subst e2; exact .lst e3 (dtAll_dp e _ _ e4)
theorem Wk.none (h : Wk K G H v .none) : v = .non := by
  rcases h with h | ⟨p, vs, xs, e1, e2, _⟩
  · cases h; rfl
  · cases e2
theorem Wk.bool {b : Bool} (h : Wk K G H v (.bool b)) : v = .bl b := by
  rcases h with h | ⟨p, vs, xs, e1, e2, _⟩
  · cases h; rfl
  · cases e2
theorem Wk.int {i : Int} (h : Wk K G H v (.int i)) : v = .int i := by
  rcases h with h | ⟨p, vs, xs, e1, e2, _⟩
  · cases h; rfl
  · cases e2
theorem Wk.str {z : Str} (h : Wk K G H v (.str z)) : v = .str z := by
  rcases h with h | ⟨p, vs, xs, e1, e2, _⟩
  · cases h; rfl
  · cases e2
theorem Wk.list {xs : List D} (h : Wk K G H v (.list xs)) (e : Same G H) : ∃ p vs, v = .ref p ∧ SqL K H p vs ∧ DtAll K G vs xs := by
  rcases h with h | ⟨p, vs, ys, e1, e2, e3, e4⟩
  · cases h with
    | lst hs ha => exact ⟨_, _, rfl, e.seq hs, ha⟩
  · cases e2
    exact ⟨p, vs, e1, e3, e4⟩
theorem Wk.tuple {xs : List D} (h : Wk K G H v (.tuple xs)) (e : Same G H) : ∃ p vs, v = .ref p ∧ SqT K H p vs ∧ SqT K G p vs ∧ DtAll K G vs xs := by
  rcases h with h | ⟨p, vs, ys, e1, e2, e3, e4⟩
  · cases h with
    | tup hs ha => exact ⟨_, _, rfl, sqT_mono e hs, hs, ha⟩
  · cases e2
theorem Wk.dict {kvs : List (D × D)} (h : Wk K G H v (.dict kvs)) : False := by
  rcases h with h | ⟨p, vs, ys, e1, e2, e3, e4⟩
  · cases h
  · cases e2
end
mutual
theorem dp_plain {K : Frg} {H : Hp} : ∀ (x : D) (v : V), Dp K H v x → x.plain = true
  | .none, _, _ => rfl
  | .bool _, _, _ => rfl
  | .int _, _, _ => rfl
  | .str _, _, _ => rfl
  | .list ds, _, h => by
    cases h with
    | lst hs ha => simp only [PyData.plain]; exact dpAll_plain ds _ ha
  | .tuple ds, _, h => by
    cases h with
    | tup hs ha => simp only [PyData.plain]; exact dpAll_plain ds _ ha
  | .dict _, _, h => by cases h
theorem dpAll_plain {K : Frg} {H : Hp} : ∀ (xs : List D) (vs : List V), DpAll K H vs xs → PyData.plainAll xs = true
  | [], _, _ => rfl
  | x :: xs, _, h => by
    cases h with
    | cons h1 h2 => simp only [PyData.plainAll, dp_plain x _ h1, dpAll_plain xs _ h2, Bool.and_self]
end

/-! ### judgements -/
section
variable (X : Cx)
def EvD (e : Expr) (Γ : List Sl) (x : D) : Prop := ∀ (B : Bs) (G H : Hp) (σ : L2.St), Env X.K B G H σ Γ → ∀ Q : VK, (∀ v G' H', Stp G H G' H' → Dt X.K G' v x → Q v H') → wE X e σ H Q
def EvW (e : Expr) (Γ : List Sl) (x : D) : Prop := ∀ (B : Bs) (G H : Hp) (σ : L2.St), Env X.K B G H σ Γ → ∀ Q : VK, (∀ v G' H', Stp G H G' H' → Wk X.K G' H' v x → Q v H') → wE X e σ H Q
def EvT (e : Expr) (Γ : List Sl) (c : Bool) : Prop := ∀ (B : Bs) (G H : Hp) (σ : L2.St), Env X.K B G H σ Γ → ∀ Q : Bool → Hp → Prop, (∀ G' H', Stp G H G' H' → Q c H') → wT X e σ H Q
/-- a test, whatever it is a part of -/
def EvP (e : Expr) (Γ : List Sl) (c : Bool) : Prop := ∀ (wh : Sem Value) (B : Bs) (G H : Hp) (σ : L2.St), Env X.K B G H σ Γ → ∀ Q : Bool → Hp → Prop, (∀ G' H', Stp G H G' H' → Q c H') →
  ∀ (pins : List (Addr × Obj)) (s : Shared), Inv X pins σ H s → wpAny (model X.prog X.w) X.A (isTrue e X.env wh) (TP X pins σ Q) X.xe s
def EvA (es : List Expr) (Γ : List Sl) (xs : List D) : Prop := xs.length = es.length ∧ ∀ (B : Bs) (G H : Hp) (σ : L2.St), Env X.K B G H σ Γ → ∀ Q : List V → Hp → Prop, (∀ vs G' H', Stp G H G' H' → DtAll X.K G' vs xs → Q vs H') → wA X es σ H Q
def EvB (es : List Expr) (Γ : List Sl) (xs : List D) : Prop := ∀ (B : Bs) (G H : Hp) (σ : L2.St), Env X.K B G H σ Γ → ∀ Q : List V → Hp → Prop, (∀ vs G' H', Stp G H G' H' → WkAll X.K G' H' vs xs → Q vs H') → wA X es σ H Q
end
section
variable {X : Cx} {Γ : List Sl} {e a b c : Expr} {es : List Expr} {x y z : D} {xs : List D} {pos : Pos}
theorem EvD.w (h : EvD X e Γ x) : EvW X e Γ x := fun B G H σ E Q q => h B G H σ E Q fun v G' H' s d => q v G' H' s (.inl d)
theorem EvP.t (h : EvP X e Γ true) : EvT X e Γ true := fun B G H σ E Q q pins s I => h _ B G H σ E Q q pins s I
theorem EvP.t' {k : Bool} (h : EvP X e Γ k) : EvT X e Γ k := fun B G H σ E Q q pins s I => h _ B G H σ E Q q pins s I
theorem EvD.is (h : EvD X e Γ x) (q : x = y) : EvD X e Γ y := q ▸ h
theorem EvW.is (h : EvW X e Γ x) (q : x = y) : EvW X e Γ y := q ▸ h
theorem EvT.is {k l : Bool} (h : EvT X e Γ k) (q : k = l) : EvT X e Γ l := q ▸ h

/-! ### names, constants -/
theorem ev_name {n : Str} {i : Nat} (hN : X.N[i]? = some n) (h : Γ[i]? = some (.d x)) (hv : Vis X.env.scope n) (hd : (n == ("__debug__" : Str)) = false := by decide) (hcd : (n == ("__classdict__" : Str)) = false := by decide) : EvD X (.Name n pos) Γ x := fun B G H σ E Q q => by
  obtain ⟨v, e1, d⟩ := E.get_d h
  exact w_pe (pe_var hN hv hd hcd) ⟨v, e1, q v G H (.refl E.gh) d⟩
theorem ev_int {i : Int} {k : Nat} : EvD X (.Constant (.int i) k pos) Γ (.int i) := fun B G H σ E Q q => w_pe pe_int (q _ G H (.refl E.gh) (.int i))
theorem ev_bool {i : Bool} {k : Nat} : EvD X (.Constant (.bool i) k pos) Γ (.bool i) := fun B G H σ E Q q => w_pe pe_bl (q _ G H (.refl E.gh) (.bl i))
theorem ev_none {k : Nat} : EvD X (.Constant .none k pos) Γ .none := fun B G H σ E Q q => w_pe pe_non (q _ G H (.refl E.gh) .non)
theorem ev_str {i : Str} {k : Nat} : EvD X (.Constant (.str i) k pos) Γ (.str i) := fun B G H σ E Q q => w_pe pe_str (q _ G H (.refl E.gh) (.str i))
/-- a constant of the module -/
theorem ev_glob {n : Str} {v : V} {u : Value} (hm : X.mg n = some u) (r : RelV v u) (hd : ∀ G, Dt X.K G v x) (hg : Gl X n) (hdb : (n == ("__debug__" : Str)) = false := by decide) : EvD X (.Name n pos) Γ x := fun B G H σ E Q q =>
  w_pe (pe_glob hg hm r hdb) (q v G H (.refl E.gh) (hd G))

/-! ### operators -/
def BinD (X : Cx) (op : Operator) (x y z : D) : Prop := ∃ r, OpR X (binaryOp op) r ∧ ∀ (G H : Hp) (v u : V) (Q : VK), Same G H → Wk X.K G H v x → Wk X.K G H u y → (∀ w G' H', Stp G H G' H' → Dt X.K G' w z → Q w H') → r v u H Q
theorem ev_bin {op : Operator} (ho : BinD X op x y z) (ha : EvW X a Γ x) (hb : EvW X b Γ y) : EvD X (.BinOp a op b pos) Γ z := fun B G H σ E Q q => by
  obtain ⟨r, h1, h2⟩ := ho
  refine w_pe (pe_op h1 pe_w pe_w) (ha B G H σ E _ fun v G1 H1 s1 k1 => hb B G1 H1 σ (E.step s1) _ fun u G2 H2 s2 k2 => ?_)
  exact h2 G2 H2 v u _ s2.gh (k1.step s2) k2 fun w G' H' s d => q w G' H' ((s1.trans s2).trans s) d
theorem bin_add {i j : Int} : BinD X .Add (.int i) (.int j) (.int (i + j)) := ⟨_, op_add, fun G H v u Q e h1 h2 q => ⟨i, j, h1.int, h2.int, q _ G H (.refl e) (.int _)⟩⟩
theorem bin_sub {i j : Int} : BinD X .Sub (.int i) (.int j) (.int (i - j)) := ⟨_, op_sub, fun G H v u Q e h1 h2 q => ⟨i, j, h1.int, h2.int, q _ G H (.refl e) (.int _)⟩⟩
theorem bin_mul {i j : Int} (h : CMul i j) : BinD X .Mult (.int i) (.int j) (.int (i * j)) := ⟨_, op_mul, fun G H v u Q e h1 h2 q => ⟨i, j, h1.int, h2.int, h, q _ G H (.refl e) (.int _)⟩⟩
theorem bin_mulW {i j : Int} (h : CMulW i j) : BinD X .Mult (.int i) (.int j) (.int (i * j)) := ⟨_, op_mulW, fun G H v u Q e h1 h2 q => ⟨i, j, h1.int, h2.int, h, q _ G H (.refl e) (.int _)⟩⟩
theorem bin_div {i j : Int} (h : CDivW i j) : BinD X .FloorDiv (.int i) (.int j) (.int (i / j)) := ⟨_, op_fdivW, fun G H v u Q e h1 h2 q => ⟨i, j, h1.int, h2.int, h, q _ G H (.refl e) (.int _)⟩⟩
theorem bin_mod {i j : Int} (h : 0 < j) : BinD X .Mod (.int i) (.int j) (.int (i % j)) := ⟨_, op_mod, fun G H v u Q e h1 h2 q => ⟨i, j, h1.int, h2.int, h, q _ G H (.refl e) (.int _)⟩⟩
theorem bin_pow {i j : Int} (h : CPow i j) : BinD X .Pow (.int i) (.int j) (.int (i ^ j.toNat)) := ⟨_, op_pow, fun G H v u Q e h1 h2 q => ⟨i, j, h1.int, h2.int, h, q _ G H (.refl e) (.int _)⟩⟩
theorem bin_cats {i j : Str} (h : i.length + j.length ≤ sizeLine) : BinD X .Add (.str i) (.str j) (.str (i ++ j)) := ⟨_, op_add_str, fun G H v u Q e h1 h2 q => ⟨i, j, h1.str, h2.str, h, q _ G H (.refl e) (.str _)⟩⟩
theorem ev_neg {i : Int} (ha : EvW X a Γ (.int i)) : EvD X (.UnaryOp .USub a pos) Γ (.int (-i)) := fun B G H σ E Q q =>
  w_pe (pe_un un_neg pe_w) (ha B G H σ E _ fun v G1 H1 s1 k1 => ⟨i, k1.int, q _ G1 H1 s1 (.int _)⟩)
theorem ev_not {k : Bool} (ha : EvW X a Γ (.bool k)) : EvD X (.UnaryOp .Not a pos) Γ (.bool (!k)) := fun B G H σ E Q q =>
  w_pe (pe_not pe_w) (ha B G H σ E _ fun v G1 H1 s1 k1 => ⟨k, k1.bool, q _ G1 H1 s1 (.bl _)⟩)

/-! ### comparisons -/
def CmpD (X : Cx) (op : CmpOp) (x y : D) (k : Bool) : Prop := ∃ r, OpR X (compareOp op) r ∧ ∀ (G H : Hp) (v u : V) (Q : VK), Same G H → Wk X.K G H v x → Wk X.K G H u y → Q (.bl k) H → r v u H Q
section
variable {op op' : CmpOp} {k l : Bool}
theorem ev_cmp (ho : CmpD X op x y k) (ha : EvW X a Γ x) (hb : EvW X b Γ y) (hm : behindInMarks op b = false := by first | exact nomark _ | rfl) : EvD X (.Compare a [op] [b] pos) Γ (.bool k) := fun B G H σ E Q q => by
  obtain ⟨r, h1, h2⟩ := ho
  refine w_pe (pe_cmpR h1 pe_w pe_w hm) (ha B G H σ E _ fun v G1 H1 s1 k1 => hb B G1 H1 σ (E.step s1) _ fun u G2 H2 s2 k2 => ?_)
  exact h2 G2 H2 v u _ s2.gh (k1.step s2) k2 (q _ G2 H2 (s1.trans s2) (.bl _))
theorem et_cmp (ho : CmpD X op x y k) (ha : EvW X a Γ x) (hb : EvW X b Γ y) (hm : behindInMarks op b = false := by first | exact nomark _ | rfl) : EvT X (.Compare a [op] [b] pos) Γ k := fun B G H σ E Q q => by
  obtain ⟨r, h1, h2⟩ := ho
  refine w_pt (pt_cmpR h1 pe_w pe_w hm) (ha B G H σ E _ fun v G1 H1 s1 k1 => hb B G1 H1 σ (E.step s1) _ fun u G2 H2 s2 k2 => ?_)
  exact h2 G2 H2 v u _ s2.gh (k1.step s2) k2 ⟨k, rfl, q G2 H2 (s1.trans s2)⟩
theorem ev_chain (ho : CmpD X op x y k) (ho' : k = true → CmpD X op' y z l) (ho2 : ∃ r', OpR X (compareOp op') r') (ha : EvW X a Γ x) (hb : EvW X b Γ y) (hc : EvW X c Γ z) (hm : lastMarks [op, op'] [b, c] = false := by with_unfolding_all rfl) : EvD X (.Compare a [op, op'] [b, c] pos) Γ (.bool (k && l)) := fun B G H σ E Q q => by
  obtain ⟨r, h1, h2⟩ := ho
  cases k with
  | true =>
    obtain ⟨r', h3, h4⟩ := ho' rfl
    refine w_pe (pe_chain h1 h3 pe_w pe_w pe_w hm) (ha B G H σ E _ fun v G1 H1 s1 k1 => hb B G1 H1 σ (E.step s1) _ fun u G2 H2 s2 k2 => ?_)
    refine h2 G2 H2 v u _ s2.gh (k1.step s2) k2 ⟨true, rfl, iteT ?_⟩
    exact hc B G2 H2 σ ((E.step s1).step s2) _ fun w G3 H3 s3 k3 => h4 G3 H3 u w _ s3.gh (k2.step s3) k3 (q _ G3 H3 ((s1.trans s2).trans s3) (.bl _))
  | false =>
    obtain ⟨r', h3⟩ := ho2
    refine w_pe (pe_chain h1 h3 pe_w pe_w pe_w hm) (ha B G H σ E _ fun v G1 H1 s1 k1 => hb B G1 H1 σ (E.step s1) _ fun u G2 H2 s2 k2 => ?_)
    exact h2 G2 H2 v u _ s2.gh (k1.step s2) k2 ⟨false, rfl, iteF (q _ G2 H2 (s1.trans s2) (.bl _))⟩
theorem et_chain (ho : CmpD X op x y k) (ho' : k = true → CmpD X op' y z l) (ho2 : ∃ r', OpR X (compareOp op') r') (ha : EvW X a Γ x) (hb : EvW X b Γ y) (hc : EvW X c Γ z) (hm : lastMarks [op, op'] [b, c] = false := by with_unfolding_all rfl) : EvT X (.Compare a [op, op'] [b, c] pos) Γ (k && l) := fun B G H σ E Q q => by
  obtain ⟨r, h1, h2⟩ := ho
  cases k with
  | true =>
    obtain ⟨r', h3, h4⟩ := ho' rfl
    refine w_pt (pt_chain h1 h3 pe_w pe_w pe_w hm) (ha B G H σ E _ fun v G1 H1 s1 k1 => hb B G1 H1 σ (E.step s1) _ fun u G2 H2 s2 k2 => ?_)
    refine h2 G2 H2 v u _ s2.gh (k1.step s2) k2 ⟨true, rfl, iteT ?_⟩
    exact hc B G2 H2 σ ((E.step s1).step s2) _ fun w G3 H3 s3 k3 => h4 G3 H3 u w _ s3.gh (k2.step s3) k3 ⟨_, rfl, q G3 H3 ((s1.trans s2).trans s3)⟩
  | false =>
    obtain ⟨r', h3⟩ := ho2
    refine w_pt (pt_chain h1 h3 pe_w pe_w pe_w hm) (ha B G H σ E _ fun v G1 H1 s1 k1 => hb B G1 H1 σ (E.step s1) _ fun u G2 H2 s2 k2 => ?_)
    exact h2 G2 H2 v u _ s2.gh (k1.step s2) k2 ⟨false, rfl, iteF ⟨_, rfl, q G2 H2 (s1.trans s2)⟩⟩
end
theorem cmp_lt {i j : Int} : CmpD X .Lt (.int i) (.int j) (decide (i < j)) := ⟨_, op_lt, fun G H v u Q e h1 h2 q => ⟨i, j, h1.int, h2.int, q⟩⟩
theorem cmp_le {i j : Int} : CmpD X .LtE (.int i) (.int j) (decide (i ≤ j)) := ⟨_, op_le, fun G H v u Q e h1 h2 q => ⟨i, j, h1.int, h2.int, q⟩⟩
theorem cmp_gt {i j : Int} : CmpD X .Gt (.int i) (.int j) (decide (j < i)) := ⟨_, op_gt, fun G H v u Q e h1 h2 q => ⟨i, j, h1.int, h2.int, q⟩⟩
theorem cmp_ge {i j : Int} : CmpD X .GtE (.int i) (.int j) (decide (j ≤ i)) := ⟨_, op_ge, fun G H v u Q e h1 h2 q => ⟨i, j, h1.int, h2.int, q⟩⟩
def isNone : D → Bool
  | .none => true
  | _ => false
theorem isNone_v {K : Frg} {G H : Hp} {v : V} (h : Wk K G H v x) : decide (v = .non) = isNone x := by
  cases x with
  | none => rw [h.none]; rfl
  | bool b => rw [h.bool]; rfl
  | int b => rw [h.int]; rfl
  | str b => rw [h.str]; rfl
  | list xs =>
    rcases h with h | ⟨p, vs, ys, e1, e2, _⟩
    · cases h; rfl
    · rw [e1]; rfl
  | tuple xs =>
    rcases h with h | ⟨p, vs, ys, e1, e2, _⟩
    · cases h; rfl
    · cases e2
  | dict kvs => exact h.dict.elim
theorem cmp_is : CmpD X .Is x .none (isNone x) := ⟨_, op_isN, fun G H v u Q e h1 h2 q => ⟨h2.none, by rw [isNone_v h1]; exact q⟩⟩
theorem cmp_isnot : CmpD X .IsNot x .none (!isNone x) := ⟨_, op_notN, fun G H v u Q e h1 h2 q => ⟨h2.none, by rw [isNone_v h1]; exact q⟩⟩
/-! == and in of data at any depth, one of both shallow -/
section
variable {k : Nat} {G H : Hp} {v u : V}
def rEqP (K : Frg) : R2 := fun v u H Q => ∃ d e, Dp K H v d ∧ Dp K H u e ∧ min d.depth e.depth ≤ 60 ∧ Q (.bl (PyData.eqv d e)) H
def rNeP (K : Frg) : R2 := fun v u H Q => ∃ d e, Dp K H v d ∧ Dp K H u e ∧ min d.depth e.depth ≤ 60 ∧ Q (.bl (!PyData.eqv d e)) H
theorem op_eqP (hu : X.A.units + 64 < cLine) : OpR X (compareOp .Eq) (rEqP X.K) := by
  intro pins s σ H x y v u Q I rx ry h
  obtain ⟨d, e, hd, he, hm, q⟩ := h
  obtain ⟨as, r1⟩ := Dp.reads I d x v hd rx
  obtain ⟨bs, r2⟩ := Dp.reads I e y u he ry
  exact SeqAt.eq_plain r1 r2 (dp_plain _ _ hd) (dp_plain _ _ he) (by omega) ⟨.bl _, H, I, rfl, q⟩
theorem op_neP (hu : X.A.units + 64 < cLine) : OpR X (compareOp .NotEq) (rNeP X.K) := by
  intro pins s σ H x y v u Q I rx ry h
  obtain ⟨d, e, hd, he, hm, q⟩ := h
  obtain ⟨as, r1⟩ := Dp.reads I d x v hd rx
  obtain ⟨bs, r2⟩ := Dp.reads I e y u he ry
  exact SeqAt.ne_plain r1 r2 (dp_plain _ _ hd) (dp_plain _ _ he) (by omega) ⟨.bl _, H, I, rfl, q⟩
theorem cmp_eq (hu : X.A.units + 64 < cLine) (hd : min x.depth y.depth ≤ 60) : CmpD X .Eq x y (PyData.eqv x y) := ⟨_, op_eqP hu, fun G H v u Q e h1 h2 q => ⟨x, y, h1.dpH e, h2.dpH e, hd, q⟩⟩
theorem cmp_ne (hu : X.A.units + 64 < cLine) (hd : min x.depth y.depth ≤ 60) : CmpD X .NotEq x y (!PyData.eqv x y) := ⟨_, op_neP hu, fun G H v u Q e h1 h2 q => ⟨x, y, h1.dpH e, h2.dpH e, hd, q⟩⟩
def rInP (K : Frg) (neg : Bool) : R2 := fun v u H Q => ∃ d ys, Dp K H v d ∧ (Dp K H u (.list ys) ∨ Dp K H u (.tuple ys)) ∧ min (PyData.depthAll ys) d.depth ≤ 60 ∧ Q (.bl (if neg then !(ys.any fun y => PyData.eqv y d) else ys.any fun y => PyData.eqv y d)) H
theorem op_inP (hu : X.A.units + 64 < cLine) : OpR X (compareOp .In) (rInP X.K false) := by
  intro pins s σ H x y v u Q I rx ry h
  obtain ⟨d, ys, hd, he, hm, q⟩ := h
  obtain ⟨as, r1⟩ := Dp.reads I d x v hd rx
  rcases he with he | he
  · obtain ⟨bs, r2⟩ := Dp.reads I _ y u he ry
    have pl := dp_plain _ _ he
    simp only [PyData.plain] at pl
    exact SeqAt.in_list_data r2 r1 pl (dp_plain _ _ hd) (by omega) ⟨.bl _, H, I, rfl, q⟩
  · obtain ⟨bs, r2⟩ := Dp.reads I _ y u he ry
    have pl := dp_plain _ _ he
    simp only [PyData.plain] at pl
    exact SeqAt.in_tuple_data r2 r1 pl (dp_plain _ _ hd) (by omega) ⟨.bl _, H, I, rfl, q⟩
theorem op_notInP (hu : X.A.units + 64 < cLine) : OpR X (compareOp .NotIn) (rInP X.K true) := by
  intro pins s σ H x y v u Q I rx ry h
  obtain ⟨d, ys, hd, he, hm, q⟩ := h
  obtain ⟨as, r1⟩ := Dp.reads I d x v hd rx
  rcases he with he | he
  · obtain ⟨bs, r2⟩ := Dp.reads I _ y u he ry
    have pl := dp_plain _ _ he
    simp only [PyData.plain] at pl
    exact SeqAt.notIn_list_data r2 r1 pl (dp_plain _ _ hd) (by omega) ⟨.bl _, H, I, rfl, q⟩
  · obtain ⟨bs, r2⟩ := Dp.reads I _ y u he ry
    have pl := dp_plain _ _ he
    simp only [PyData.plain] at pl
    exact SeqAt.notIn_tuple_data r2 r1 pl (dp_plain _ _ hd) (by omega) ⟨.bl _, H, I, rfl, q⟩
def inD (x : D) (ys : List D) : Bool := ys.any fun y => PyData.eqv y x
theorem cmp_inL {ys : List D} (hu : X.A.units + 64 < cLine) (hd : min (PyData.depthAll ys) x.depth ≤ 60) : CmpD X .In x (.list ys) (inD x ys) := ⟨_, op_inP hu, fun G H v u Q e h1 h2 q => ⟨x, ys, h1.dpH e, .inl (h2.dpH e), hd, q⟩⟩
theorem cmp_inT {ys : List D} (hu : X.A.units + 64 < cLine) (hd : min (PyData.depthAll ys) x.depth ≤ 60) : CmpD X .In x (.tuple ys) (inD x ys) := ⟨_, op_inP hu, fun G H v u Q e h1 h2 q => ⟨x, ys, h1.dpH e, .inr (h2.dpH e), hd, q⟩⟩
theorem cmp_notinL {ys : List D} (hu : X.A.units + 64 < cLine) (hd : min (PyData.depthAll ys) x.depth ≤ 60) : CmpD X .NotIn x (.list ys) (!inD x ys) := ⟨_, op_notInP hu, fun G H v u Q e h1 h2 q => ⟨x, ys, h1.dpH e, .inl (h2.dpH e), hd, q⟩⟩
theorem cmp_notinT {ys : List D} (hu : X.A.units + 64 < cLine) (hd : min (PyData.depthAll ys) x.depth ≤ 60) : CmpD X .NotIn x (.tuple ys) (!inD x ys) := ⟨_, op_notInP hu, fun G H v u Q e h1 h2 q => ⟨x, ys, h1.dpH e, .inr (h2.dpH e), hd, q⟩⟩
/-- one sign in a text -/
theorem cmp_insign {c : Nat} {z : Str} : CmpD X .In (.str ⟨#[c]⟩) (.str z) (decide (c ∈ z.cps.toList)) := ⟨_, op_in_sign, fun G H v u Q e h1 h2 q => ⟨c, z, h1.str, h2.str, q⟩⟩
end

/-! ### and, or, not, if .. else -/
section
variable {k l : Bool} {rest : List Expr}
theorem ep_and1 (h : EvT X a Γ k) : EvP X (.BoolOp .And [a] pos) Γ k := fun wh B G H σ E Q q pins s I => (pw_and1 (pt_w (X := X) (e := a))).run wh pins s σ H Q I (h B G H σ E Q q)
theorem ep_or1 (h : EvT X a Γ k) : EvP X (.BoolOp .Or [a] pos) Γ k := fun wh B G H σ E Q q pins s I => (pw_or1 (pt_w (X := X) (e := a))).run wh pins s σ H Q I (h B G H σ E Q q)
theorem ep_and (h1 : EvT X a Γ k) (h2 : k = true → EvP X (.BoolOp .And (b :: rest) pos) Γ l) : EvP X (.BoolOp .And (a :: b :: rest) pos) Γ (k && l) := fun wh B G H σ E Q q pins s I => by
  let tb : TT := fun σ H Q => ∀ (wh : Sem Value) (pins : List (Addr × Obj)) (s : Shared), Inv X pins σ H s → wpAny (model X.prog X.w) X.A (isTrue (.BoolOp .And (b :: rest) pos) X.env wh) (TP X pins σ Q) X.xe s
  have hb : PW X (.BoolOp .And (b :: rest) pos) tb := ⟨fun wh pins s σ H Q I h => h wh pins s I⟩
  refine (pw_and (pt_w (X := X) (e := a)) hb).run wh pins s σ H Q I (h1 B G H σ E _ fun G1 H1 s1 => ?_)
  cases k with
  | true => exact iteT fun wh pins s I => h2 rfl wh B G1 H1 σ (E.step s1) Q (fun G2 H2 s2 => q G2 H2 (s1.trans s2)) pins s I
  | false => exact iteF (q G1 H1 s1)
theorem ep_or (h1 : EvT X a Γ k) (h2 : k = false → EvP X (.BoolOp .Or (b :: rest) pos) Γ l) : EvP X (.BoolOp .Or (a :: b :: rest) pos) Γ (k || l) := fun wh B G H σ E Q q pins s I => by
  let tb : TT := fun σ H Q => ∀ (wh : Sem Value) (pins : List (Addr × Obj)) (s : Shared), Inv X pins σ H s → wpAny (model X.prog X.w) X.A (isTrue (.BoolOp .Or (b :: rest) pos) X.env wh) (TP X pins σ Q) X.xe s
  have hb : PW X (.BoolOp .Or (b :: rest) pos) tb := ⟨fun wh pins s σ H Q I h => h wh pins s I⟩
  refine (pw_or (pt_w (X := X) (e := a)) hb).run wh pins s σ H Q I (h1 B G H σ E _ fun G1 H1 s1 => ?_)
  cases k with
  | false => exact iteF fun wh pins s I => h2 rfl wh B G1 H1 σ (E.step s1) Q (fun G2 H2 s2 => q G2 H2 (s1.trans s2)) pins s I
  | true => exact iteT (q G1 H1 s1)
theorem et_not (h : EvT X a Γ k) : EvT X (.UnaryOp .Not a pos) Γ (!k) := fun B G H σ E Q q => w_pt (pt_not pt_w) (h B G H σ E _ q)
/-- a value that is a truth value, as a test -/
theorem et_val (h : EvW X e Γ (.bool k)) (he : ∀ whole, isTrue e X.env whole = (do let v ← whole; standAt e.pos; holding [v] (truthy v)) := by intro _; rfl) : EvT X e Γ k := fun B G H σ E Q q =>
  w_pt (pt_val pe_w he) (h B G H σ E _ fun v G1 H1 s1 k1 => ⟨k, k1.bool, q G1 H1 s1⟩)
theorem ev_one {op : BoolOp} (h : EvD X a Γ x) : EvD X (.BoolOp op [a] pos) Γ x := fun B G H σ E Q q => w_pe (pe_one pe_w) (h B G H σ E Q q)
theorem ev_and (h1 : EvW X a Γ (.bool k)) (h2 : k = true → EvD X (.BoolOp .And (b :: rest) pos) Γ (.bool l)) : EvD X (.BoolOp .And (a :: b :: rest) pos) Γ (.bool (k && l)) := fun B G H σ E Q q =>
  w_pe (pe_and pe_w pe_w) (h1 B G H σ E _ fun v G1 H1 s1 k1 => ⟨k, k1.bool, by
    cases k with
    | true => exact iteT (h2 rfl B G1 H1 σ (E.step s1) Q fun u G2 H2 s2 d => q u G2 H2 (s1.trans s2) d)
    | false => exact iteF (q _ G1 H1 s1 (.bl _))⟩)
theorem ev_or (h1 : EvW X a Γ (.bool k)) (h2 : k = false → EvD X (.BoolOp .Or (b :: rest) pos) Γ (.bool l)) : EvD X (.BoolOp .Or (a :: b :: rest) pos) Γ (.bool (k || l)) := fun B G H σ E Q q =>
  w_pe (pe_or pe_w pe_w) (h1 B G H σ E _ fun v G1 H1 s1 k1 => ⟨k, k1.bool, by
    cases k with
    | false => exact iteF (h2 rfl B G1 H1 σ (E.step s1) Q fun u G2 H2 s2 d => q u G2 H2 (s1.trans s2) d)
    | true => exact iteT (q _ G1 H1 s1 (.bl _))⟩)
theorem ev_ifexp (h : EvT X c Γ k) (h1 : k = true → EvD X a Γ x) (h2 : k = false → EvD X b Γ y) : EvD X (.IfExp c a b pos) Γ (if k = true then x else y) := fun B G H σ E Q q =>
  w_pe (pe_ifExp pt_w pe_w pe_w) (h B G H σ E _ fun G1 H1 s1 => by
    cases k with
    | true => exact iteT (h1 rfl B G1 H1 σ (E.step s1) Q fun u G2 H2 s2 d => q u G2 H2 (s1.trans s2) (by rw [if_pos rfl]; exact d))
    | false => exact iteF (h2 rfl B G1 H1 σ (E.step s1) Q fun u G2 H2 s2 d => q u G2 H2 (s1.trans s2) (by rw [if_neg Bool.false_ne_true]; exact d)))
end

/-! ### argument lists, displays -/
theorem ea_nil : EvA X [] Γ [] := ⟨rfl, fun B G H σ E Q q => w_pa pa_nil (q [] G H (.refl E.gh) .nil)⟩
theorem ea_cons (h : EvD X e Γ x) (t : EvA X es Γ xs) (hs : starEach (e :: es) X.env = (false, eval e X.env) :: starEach es X.env := by rfl) : EvA X (e :: es) Γ (x :: xs) := ⟨by rw [List.length_cons, List.length_cons, t.1], fun B G H σ E Q q =>
  w_pa (pa_cons pe_w pa_w hs) (h B G H σ E _ fun v G1 H1 s1 k1 => t.2 B G1 H1 σ (E.step s1) _ fun vs G2 H2 s2 k2 => q (v :: vs) G2 H2 (s1.trans s2) (.cons (dt_mono s2.g _ _ k1) k2))⟩
theorem eb_nil : EvB X [] Γ [] := fun B G H σ E Q q => w_pa pa_nil (q [] G H (.refl E.gh) .nil)
theorem eb_cons (h : EvW X e Γ x) (t : EvB X es Γ xs) (hs : starEach (e :: es) X.env = (false, eval e X.env) :: starEach es X.env := by rfl) : EvB X (e :: es) Γ (x :: xs) := fun B G H σ E Q q =>
  w_pa (pa_cons pe_w pa_w hs) (h B G H σ E _ fun v G1 H1 s1 k1 => t B G1 H1 σ (E.step s1) _ fun vs G2 H2 s2 k2 => q (v :: vs) G2 H2 (s1.trans s2) (.cons (k1.step s2) k2))
theorem dp_lay {K : Frg} {G : Hp} {p : Addr} {o : HO} {vs : List V} (n : G p = none) (h : DtAll K G vs xs) : DtAll K (upd G p o) vs xs := dtAll_mono (same_upd n) _ _ h
theorem ev_tup {kk : Nat} (h : EvA X es Γ xs) (hl : es.length ≤ 1000 := by decide) : EvD X (.Tuple es kk pos) Γ (.tuple xs) := fun B G H σ E Q q =>
  w_pe (pe_tup pa_w) (h.2 B G H σ E _ fun vs G1 H1 s1 k1 => ⟨by rw [k1.len, h.1]; exact Nat.le_trans hl (by decide), fun p hp => q _ (upd G1 p (.tup vs)) _ (s1.trans (Stp.lay s1.gh hp)) (.tup (.of upd_same) (dp_lay (s1.gh.free hp) k1))⟩)
theorem ev_lst (h : EvA X es Γ xs) (hl : es.length ≤ 1000 := by decide) : EvD X (.List es pos) Γ (.list xs) := fun B G H σ E Q q =>
  w_pe (pe_lst pa_w) (h.2 B G H σ E _ fun vs G1 H1 s1 k1 => ⟨by rw [k1.len, h.1]; exact Nat.le_trans hl (by decide), fun p hp => q _ (upd G1 p (.lst vs)) _ (s1.trans (Stp.lay s1.gh hp)) (.lst (.of upd_same) (dp_lay (s1.gh.free hp) k1))⟩)
end
end Wl

end

section
/-! W3: subscripts, slices, built-in calls, what is walked, comprehensions. -/
namespace Wl
open PySem L2
variable [Tb]
section
variable {X : Cx} {Γ : List Sl} {e a b c : Expr} {es : List Expr} {x y z : D} {xs : List D} {pos p2 : Pos}

/-! ### subscripts -/
theorem atI_dp {K : Frg} {G : Hp} {vs : List V} {i : Int} (h : DtAll K G vs xs) (hz : atI xs i = some z) : ∃ v, atI vs i = some v ∧ Dt K G v z := by
  unfold atI at hz ⊢
  rw [h.len]
  cases q : ixN xs.length i with
  | none => rw [q] at hz; cases hz
  | some j => rw [q] at hz; exact h.get hz
theorem ev_ixL {i : Int} (ha : EvW X a Γ (.list xs)) (hb : EvW X b Γ (.int i)) (hz : atI xs i = some z) (hs : PlainIx b := by exact fun _ _ => rfl) : EvD X (.Subscript a b pos) Γ z := fun B G H σ E Q q =>
  w_pe (pe_ix ix_list pe_w pe_w hs) (ha B G H σ E _ fun v G1 H1 s1 k1 => hb B G1 H1 σ (E.step s1) _ fun u G2 H2 s2 k2 => by
    obtain ⟨p, vs, rfl, hq, hd⟩ := (k1.step s2).list s2.gh
    obtain ⟨w, e1, d⟩ := atI_dp hd hz
    exact ⟨p, vs, i, w, rfl, k2.int, hq, e1, q w G2 H2 (s1.trans s2) d⟩)
theorem ev_ixT {i : Int} (ha : EvW X a Γ (.tuple xs)) (hb : EvW X b Γ (.int i)) (hz : atI xs i = some z) (hs : PlainIx b := by exact fun _ _ => rfl) : EvD X (.Subscript a b pos) Γ z := fun B G H σ E Q q =>
  w_pe (pe_ix ix_tup pe_w pe_w hs) (ha B G H σ E _ fun v G1 H1 s1 k1 => hb B G1 H1 σ (E.step s1) _ fun u G2 H2 s2 k2 => by
    obtain ⟨p, vs, rfl, hq, _, hd⟩ := (k1.step s2).tuple s2.gh
    obtain ⟨w, e1, d⟩ := atI_dp hd hz
    exact ⟨p, vs, i, w, rfl, k2.int, hq, e1, q w G2 H2 (s1.trans s2) d⟩)
theorem ev_ixS {i : Int} {w : Str} {k : Nat} (ha : EvW X a Γ (.str w)) (hb : EvW X b Γ (.int i)) (hz : atI w.cps.toList i = some k) (hl : w.length ≤ sizeLine) (hs : PlainIx b := by exact fun _ _ => rfl) : EvD X (.Subscript a b pos) Γ (.str ⟨#[k]⟩) := fun B G H σ E Q q =>
  w_pe (pe_ix ix_str pe_w pe_w hs) (ha B G H σ E _ fun v G1 H1 s1 k1 => hb B G1 H1 σ (E.step s1) _ fun u G2 H2 s2 k2 =>
    ⟨w, i, k, k1.str, k2.int, hl, hz, q _ G2 H2 (s1.trans s2) (.str _)⟩)
/-- a slice's part -/
def EvO (X : Cx) (e : Option Expr) (Γ : List Sl) (o : Option Int) : Prop := match e, o with
  | none, none => True
  | some e, some i => EvW X e Γ (.int i)
  | _, _ => False
def wO (X : Cx) (e : Option Expr) : TO := fun σ H Q => ∀ (pins : List (Addr × Obj)) (s : Shared), Inv X pins σ H s → wpAny (model X.prog X.w) X.A (evalPart e X.env) (fun u s' => ∃ o H', Inv X pins σ H' s' ∧ IsPart u o ∧ Q o H') X.xe s
theorem po_w {o : Option Expr} : PO X o (wO X o) := ⟨fun pins s _ _ _ I h => h pins s I⟩
theorem wO_ev {eo : Option Expr} {o : Option Int} (h : EvO X eo Γ o) {B : Bs} {G H : Hp} {σ : L2.St} (E : Env X.K B G H σ Γ) {Q : Option Int → Hp → Prop} (q : ∀ G' H', Stp G H G' H' → Q o H') : wO X eo σ H Q := fun pins s I => by
  cases eo with
  | none =>
    cases o with
    | none => exact po_none.run pins s σ H Q I (q G H (.refl E.gh))
    | some i => exact h.elim
  | some e =>
    cases o with
    | none => exact h.elim
    | some i => exact (po_some pe_w).run pins s σ H Q I (h B G H σ E _ fun v G1 H1 s1 k1 => ⟨i, k1.int, q G1 H1 s1⟩)
def cutL {α : Type} (xs : List α) (lo hi : Option Int) : List α := (xs.drop (HT.sIx xs.length 0 lo)).take (HT.sIx xs.length xs.length hi - HT.sIx xs.length 0 lo)
theorem cut_dp {K : Frg} {G : Hp} {vs : List V} {lo hi : Option Int} (h : DtAll K G vs xs) : DtAll K G (cutV vs lo hi) (cutL xs lo hi) := by
  unfold cutV cutL
  rw [h.len]
  exact (h.drop _).take _
theorem ev_slL {lo hi : Option Expr} {l u : Option Int} (ha : EvW X a Γ (.list xs)) (hl : EvO X lo Γ l) (hu : EvO X hi Γ u) : EvD X (.Subscript a (.Slice lo hi none p2) pos) Γ (.list (cutL xs l u)) := fun B G H σ E Q q =>
  w_pe (pe_slice sl_list pe_w po_w po_w) (ha B G H σ E _ fun v G1 H1 s1 k1 => wO_ev hl (E.step s1) fun G2 H2 s2 => wO_ev hu ((E.step s1).step s2) fun G3 H3 s3 => by
    obtain ⟨p, vs, rfl, hq, hd⟩ := ((k1.step s2).step s3).list s3.gh
    exact ⟨p, vs, rfl, hq, fun p hp => q _ (upd G3 p _) _ (((s1.trans s2).trans s3).trans (Stp.lay s3.gh hp)) (.lst (.of upd_same) (dp_lay (s3.gh.free hp) (cut_dp hd)))⟩)
theorem ev_slT {lo hi : Option Expr} {l u : Option Int} (ha : EvW X a Γ (.tuple xs)) (hl : EvO X lo Γ l) (hu : EvO X hi Γ u) (hw : ¬ (HT.sIx xs.length 0 l = 0 ∧ HT.sIx xs.length xs.length u = xs.length)) : EvD X (.Subscript a (.Slice lo hi none p2) pos) Γ (.tuple (cutL xs l u)) := fun B G H σ E Q q =>
  w_pe (pe_slice sl_tup pe_w po_w po_w) (ha B G H σ E _ fun v G1 H1 s1 k1 => wO_ev hl (E.step s1) fun G2 H2 s2 => wO_ev hu ((E.step s1).step s2) fun G3 H3 s3 => by
    obtain ⟨p, vs, rfl, hq, _, hd⟩ := ((k1.step s2).step s3).tuple s3.gh
    exact ⟨p, vs, rfl, hq, by rw [hd.len]; exact hw, fun p hp => q _ (upd G3 p _) _ (((s1.trans s2).trans s3).trans (Stp.lay s3.gh hp)) (.tup (.of upd_same) (dp_lay (s3.gh.free hp) (cut_dp hd)))⟩)
theorem ev_slS {lo hi : Option Expr} {l u : Option Int} {w : Str} (ha : EvW X a Γ (.str w)) (hl : EvO X lo Γ l) (hu : EvO X hi Γ u) (hz : w.length ≤ sizeLine) : EvD X (.Subscript a (.Slice lo hi none p2) pos) Γ (.str (cutS w l u)) := fun B G H σ E Q q =>
  w_pe (pe_slice sl_str pe_w po_w po_w) (ha B G H σ E _ fun v G1 H1 s1 k1 => wO_ev hl (E.step s1) fun G2 H2 s2 => wO_ev hu ((E.step s1).step s2) fun G3 H3 s3 =>
    ⟨w, k1.str, hz, q _ G3 H3 ((s1.trans s2).trans s3) (.str _)⟩)
/-- xs[::-1] -/
theorem ev_rev {k : Nat} {q1 q2 q3 : Pos} (ha : EvW X a Γ (.list xs)) : EvD X (.Subscript a (.Slice none none (some (.UnaryOp .USub (.Constant (.int 1) k q1) q2)) q3) pos) Γ (.list xs.reverse) := fun B G H σ E Q q =>
  w_pe (pe_revL pe_w) (ha B G H σ E _ fun v G1 H1 s1 k1 => by
    obtain ⟨p, vs, rfl, hq, hd⟩ := k1.list s1.gh
    exact ⟨p, vs, rfl, hq, fun p hp => q _ (upd G1 p _) _ (s1.trans (Stp.lay s1.gh hp)) (.lst (.of upd_same) (dp_lay (s1.gh.free hp) hd.reverse))⟩)
/-! ### more operators -/
theorem dtAll_rep {K : Frg} {G : Hp} {vs : List V} (h : DtAll K G vs xs) : ∀ n : Nat, DtAll K G (List.replicate n vs).flatten (List.replicate n xs).flatten
  | 0 => .nil
  | n + 1 => by
    rw [List.replicate_succ, List.replicate_succ, List.flatten_cons, List.flatten_cons]
    exact h.append (dtAll_rep h n)
theorem Dt.list {K : Frg} {G : Hp} {v : V} (h : Dt K G v (.list xs)) : ∃ p vs, v = .ref p ∧ SqL K G p vs ∧ DtAll K G vs xs := by
  cases h with
  | lst hs ha => exact ⟨_, _, rfl, hs, ha⟩
theorem Dt.tuple {K : Frg} {G : Hp} {v : V} (h : Dt K G v (.tuple xs)) : ∃ p vs, v = .ref p ∧ SqT K G p vs ∧ DtAll K G vs xs := by
  cases h with
  | tup hs ha => exact ⟨_, _, rfl, hs, ha⟩
/-- xs + ys, lists: any readable ones -/
def rCatL (K : Frg) : R2 := fun x y H Q => ∃ a b xs ys, x = .ref a ∧ y = .ref b ∧ SqL K H a xs ∧ SqL K H b ys ∧ xs.length + ys.length ≤ sizeLine ∧ ∀ p, H p = none → Q (.ref p) (upd H p (.lst (xs ++ ys)))
theorem op_catL : OpR X (binaryOp .Add) (rCatL X.K) := by
  intro pins s σ H x y v u Q I rx ry h
  obtain ⟨a, b, xs, ys, rfl, rfl, ha, hb, hz, q⟩ := h
  cases rx
  cases ry
  obtain ⟨i1, r1, p1, z1⟩ := I.list ha
  obtain ⟨i2, r2, p2, z2⟩ := I.list hb
  obtain ⟨⟨c1, d1, t1, s1⟩, g1, e1, n1, f1⟩ := p1.isList
  obtain ⟨⟨c2, d2, t2, s2⟩, g2, e2, n2, f2⟩ := p2.isList
  simp only at e1 f1 e2 f2
  subst e1 f1 e2 f2
  have hz' : i1.length + i2.length ≤ sizeLine := by rw [← r1.length, ← r2.length]; exact hz
  refine PySem.concat_meets ⟨_, g1, rfl⟩ ⟨_, g2, rfl⟩ PySem.noFill_list_add PySem.seq_list_add PySem.F.slot_list_add PySem.F.entry_list_add (PySem.F.args_list_add_2 _ _) (PyProof.Rows.list_addW a b i1.toArray i2.toArray n1 n2 d1 d2 s1 s2 (by simpa using hz')) ⟨g1, g2, ?_⟩
  rw [show i1.toArray ++ i2.toArray = (i1 ++ i2).toArray by simp]
  exact ⟨.ref _, _, I.lnew (t' := s.toks) (r1.append r2) (by rw [List.length_append]; omega), rfl, q _ I.fresh⟩
theorem ev_catL {ys : List D} (ha : EvW X a Γ (.list xs)) (hb : EvW X b Γ (.list ys)) (hl : xs.length + ys.length ≤ sizeLine) : EvD X (.BinOp a .Add b pos) Γ (.list (xs ++ ys)) := fun B G H σ E Q q =>
  w_pe (pe_op op_catL pe_w pe_w) (ha B G H σ E _ fun v G1 H1 s1 k1 => hb B G1 H1 σ (E.step s1) _ fun u G2 H2 s2 k2 => by
    obtain ⟨p, vs, rfl, hp, hd⟩ := (k1.step s2).list s2.gh
    obtain ⟨p', ws, rfl, hp', hd'⟩ := k2.list s2.gh
    exact ⟨p, p', vs, ws, rfl, rfl, hp, hp', by rw [hd.len, hd'.len]; exact hl, fun r hr => q _ (upd G2 r _) _ ((s1.trans s2).trans (Stp.lay s2.gh hr)) (.lst (.of upd_same) (dp_lay (s2.gh.free hr) (hd.append hd')))⟩)
/-- [..] * k -/
theorem ev_repL {k : Int} (ha : EvA X es Γ xs) (hb : EvW X b Γ (.int k)) (h0 : 0 ≤ k) (h1 : k < 2 ^ 63) (hl : xs.length * k.toNat ≤ sizeLine) (hn : es.length ≤ 1000 := by decide) : EvD X (.BinOp (.List es p2) .Mult b pos) Γ (.list (List.replicate k.toNat xs).flatten) := fun B G H σ E Q q =>
  w_pe (pe_op op_rep (pe_lst pa_w) pe_w) (ha.2 B G H σ E _ fun vs G1 H1 s1 k1 => ⟨by rw [k1.len, ha.1]; exact Nat.le_trans hn (by decide), fun p hp => hb B (upd G1 p (.lst vs)) _ σ (E.step (s1.trans (Stp.lay s1.gh hp))) _ fun u G2 H2 s2 k2 => by
    have e := s2.gh _ _ (s2.g p (.lst vs) upd_same)
    have d := dtAll_mono s2.g _ _ (dp_lay (o := .lst vs) (s1.gh.free hp) k1)
    exact ⟨p, k, vs, rfl, k2.int, e, by omega, h1, by rw [d.len]; exact hl, fun r hr => q _ (upd G2 r _) _ (((s1.trans (Stp.lay s1.gh hp)).trans s2).trans (Stp.lay s2.gh hr)) (.lst (.of upd_same) (dp_lay (s2.gh.free hr) (dtAll_rep d _)))⟩⟩)
/-- t + u, tuples -/
theorem ev_catT {ys : List D} (ha : EvD X a Γ (.tuple xs)) (hb : EvD X b Γ (.tuple ys)) (h0 : xs ≠ []) (hl : xs.length + ys.length ≤ sizeLine) : EvD X (.BinOp a .Add b pos) Γ (.tuple (xs ++ ys)) := fun B G H σ E Q q =>
  w_pe (pe_op op_catT pe_w pe_w) (ha B G H σ E _ fun v G1 H1 s1 k1 => hb B G1 H1 σ (E.step s1) _ fun u G2 H2 s2 k2 => by
    obtain ⟨p, vs, rfl, hp, hd⟩ := (dt_mono s2.g _ _ k1).tuple
    obtain ⟨p', ws, rfl, hp', hd'⟩ := k2.tuple
    refine ⟨p, p', vs, ws, rfl, rfl, sqT_mono s2.gh hp, sqT_mono s2.gh hp', fun z => h0 ?_, by rw [hd.len, hd'.len]; exact hl, fun z => ?_, fun _ r hr => q _ (upd G2 r _) _ ((s1.trans s2).trans (Stp.lay s2.gh hr)) (.tup (.of upd_same) (dp_lay (s2.gh.free hr) (hd.append hd')))⟩
    · have e := hd.len; rw [z] at e; exact List.eq_nil_of_length_eq_zero e.symm
    · have e := hd'.len; rw [z] at e
      have e2 : ys = [] := List.eq_nil_of_length_eq_zero e.symm
      rw [e2, List.append_nil] at q
      exact q _ G2 H2 (s1.trans s2) (.tup hp hd))

/-! ### calls of built-ins -/
def CalD (X : Cx) (f : Value) (xs : List D) (z : D) : Prop := ∃ r, CallR X f r ∧ ∀ (G H : Hp) (vs : List V) (Q : VK), Same G H → WkAll X.K G H vs xs → (∀ w G' H', Stp G H G' H' → Dt X.K G' w z → Q w H') → r vs H Q
theorem ev_callB {n : Str} {id : String} {p : Pos} (hc : CalD X (.builtin id) xs z) (hm : X.mg n = none) (hv : bootBuiltins n = some (.builtin id)) (hg : Gl X n) (ha : EvB X (e :: es) Γ xs) (hn : n ≠ "__name__" := by decide) (hdb : (n == ("__debug__" : Str)) = false := by decide)
    (he : starEach (e :: es) X.env = (false, eval e X.env) :: starEach es X.env := by rfl) (hpl : (backTo pos (starEach es X.env)).any (·.1) = false := by rfl) : EvD X (.Call (.Name n p) (e :: es) [] pos) Γ z := fun B G H σ E Q q => by
  obtain ⟨r, h1, h2⟩ := hc
  exact w_pe (pe_callB h1 hg hm hv pa_w hn hdb he hpl) (ha B G H σ E _ fun vs G1 H1 s1 k1 => h2 G1 H1 vs _ s1.gh k1 fun w G2 H2 s2 d => q w G2 H2 (s1.trans s2) d)
theorem ev_callTy {n : Str} {T : String} {p : Pos} (hc : CalD X (.type T) xs z) (hm : X.mg n = none) (hv : bootBuiltins n = some (.type T)) (hg : Gl X n) (ha : EvB X (e :: es) Γ xs) (hn : n ≠ "__name__" := by decide) (hdb : (n == ("__debug__" : Str)) = false := by decide)
    (he : starEach (e :: es) X.env = (false, eval e X.env) :: starEach es X.env := by rfl) (hpl : (backTo pos (starEach es X.env)).any (·.1) = false := by rfl) : EvD X (.Call (.Name n p) (e :: es) [] pos) Γ z := fun B G H σ E Q q => by
  obtain ⟨r, h1, h2⟩ := hc
  exact w_pe (pe_callTy h1 hg hm hv pa_w hn hdb he hpl) (ha B G H σ E _ fun vs G1 H1 s1 k1 => h2 G1 H1 vs _ s1.gh k1 fun w G2 H2 s2 d => q w G2 H2 (s1.trans s2) d)
theorem wk1 {K : Frg} {G H : Hp} {vs : List V} (h : WkAll K G H vs [x]) : ∃ v, vs = [v] ∧ Wk K G H v x := by
  cases h with
  | cons h1 h2 => cases h2; exact ⟨_, rfl, h1⟩
theorem wk2 {K : Frg} {G H : Hp} {vs : List V} (h : WkAll K G H vs [x, y]) : ∃ v u, vs = [v, u] ∧ Wk K G H v x ∧ Wk K G H u y := by
  cases h with
  | cons h1 h2 =>
    obtain ⟨u, rfl, h3⟩ := wk1 h2
    exact ⟨_, u, rfl, h1, h3⟩
theorem DtAll.ints {K : Frg} {G : Hp} : ∀ {ns : List Int} {vs : List V}, DtAll K G vs (ns.map PyData.int) → vs = ns.map V.int
  | [], _, h => by cases h; rfl
  | n :: ns, _, h => by
    cases h with
    | cons h1 h2 => cases h1; rw [DtAll.ints h2]; rfl
theorem DtAll.ofInts {K : Frg} {G : Hp} : ∀ (ns : List Int), DtAll K G (ns.map V.int) (ns.map PyData.int)
  | [] => .nil
  | n :: ns => .cons (.int n) (DtAll.ofInts ns)
theorem DtAll.bools {K : Frg} {G : Hp} : ∀ {ns : List Bool} {vs : List V}, DtAll K G vs (ns.map PyData.bool) → vs = ns.map V.bl
  | [], _, h => by cases h; rfl
  | n :: ns, _, h => by
    cases h with
    | cons h1 h2 => cases h1; rw [DtAll.bools h2]; rfl
theorem DtAll.strs {K : Frg} {G : Hp} : ∀ {ns : List Str} {vs : List V}, DtAll K G vs (ns.map PyData.str) → vs = ns.map V.str
  | [], _, h => by cases h; rfl
  | n :: ns, _, h => by
    cases h with
    | cons h1 h2 => cases h1; rw [DtAll.strs h2]; rfl
theorem DtAll.ofStrs {K : Frg} {G : Hp} : ∀ (ns : List Str), DtAll K G (ns.map V.str) (ns.map PyData.str)
  | [] => .nil
  | n :: ns => .cons (.str n) (DtAll.ofStrs ns)
theorem cal_lenL : CalD X (.builtin "len") [.list xs] (.int xs.length) := ⟨_, call_len_seq, fun G H vs Q e h q => by
  obtain ⟨v, rfl, kk⟩ := wk1 h
  obtain ⟨p, ws, rfl, hq, hd⟩ := kk.list e
  exact ⟨p, ws, rfl, .inl hq, by rw [hd.len]; exact q _ G H (.refl e) (.int _)⟩⟩
theorem cal_lenT : CalD X (.builtin "len") [.tuple xs] (.int xs.length) := ⟨_, call_len_seq, fun G H vs Q e h q => by
  obtain ⟨v, rfl, kk⟩ := wk1 h
  obtain ⟨p, ws, rfl, hq, _, hd⟩ := kk.tuple e
  exact ⟨p, ws, rfl, .inr hq, by rw [hd.len]; exact q _ G H (.refl e) (.int _)⟩⟩
theorem cal_lenS {w : Str} (hl : w.length ≤ sizeLine) : CalD X (.builtin "len") [.str w] (.int w.length) := ⟨_, call_len_str, fun G H vs Q e h q => by
  obtain ⟨v, rfl, kk⟩ := wk1 h
  exact ⟨w, by rw [kk.str], hl, q _ G H (.refl e) (.int _)⟩⟩
theorem cal_abs {i : Int} : CalD X (.builtin "abs") [.int i] (.int (if i < 0 then -i else i)) := ⟨_, call_abs, fun G H vs Q e h q => by
  obtain ⟨v, rfl, kk⟩ := wk1 h
  exact ⟨i, by rw [kk.int], q _ G H (.refl e) (.int _)⟩⟩
theorem cal_max2 {i j : Int} (hc : X.calm = true) : CalD X (.builtin "max") [.int i, .int j] (.int (max i j)) := ⟨_, call_max2 hc, fun G H vs Q e h q => by
  obtain ⟨v, u, rfl, kk, kk'⟩ := wk2 h
  refine ⟨i, j, by rw [kk.int, kk'.int], ?_⟩
  rw [show (if j > i then j else i) = max i j by rw [Int.max_def]; split <;> split <;> omega]
  exact q _ G H (.refl e) (.int _)⟩
theorem cal_min2 {i j : Int} (hc : X.calm = true) : CalD X (.builtin "min") [.int i, .int j] (.int (min i j)) := ⟨_, call_min2 hc, fun G H vs Q e h q => by
  obtain ⟨v, u, rfl, kk, kk'⟩ := wk2 h
  refine ⟨i, j, by rw [kk.int, kk'.int], ?_⟩
  rw [show (if j < i then j else i) = min i j by rw [Int.min_def]; split <;> split <;> omega]
  exact q _ G H (.refl e) (.int _)⟩
theorem cal_sum {ns : List Int} (hc : X.calm = true) : CalD X (.builtin "sum") [.list (ns.map .int)] (.int ns.sum) := ⟨_, cr_sum hc, fun G H vs Q e h q => by
  obtain ⟨v, rfl, kk⟩ := wk1 h
  obtain ⟨p, ws, rfl, hq, hd⟩ := kk.list e
  rw [hd.ints] at hq
  exact ⟨p, ns, rfl, hq, q _ G H (.refl e) (.int _)⟩⟩
/-- the greatest of some, the least of some -/
def maxL : List Int → Int
  | [] => 0
  | [a] => a
  | a :: b :: r => max a (maxL (b :: r))
def minL : List Int → Int
  | [] => 0
  | [a] => a
  | a :: b :: r => min a (minL (b :: r))
theorem maxL_mem : ∀ {ns : List Int}, 0 < ns.length → maxL ns ∈ ns ∧ ∀ y, y ∈ ns → y ≤ maxL ns
  | [a], _ => ⟨by simp [maxL], fun y hy => by simp at hy; subst hy; exact Int.le_refl _⟩
  | a :: b :: r, _ => by
    obtain ⟨h1, h2⟩ := maxL_mem (ns := b :: r) (by simp)
    refine ⟨?_, fun y hy => ?_⟩
    · show max a (maxL (b :: r)) ∈ a :: b :: r
      rw [Int.max_def]
      split
      · exact List.mem_cons_of_mem _ h1
      · exact List.mem_cons_self
    · show y ≤ max a (maxL (b :: r))
      rcases List.mem_cons.mp hy with e | e
      · subst e; exact Int.le_max_left _ _
      · exact Int.le_trans (h2 y e) (Int.le_max_right _ _)
theorem minL_mem : ∀ {ns : List Int}, 0 < ns.length → minL ns ∈ ns ∧ ∀ y, y ∈ ns → minL ns ≤ y
  | [a], _ => ⟨by simp [minL], fun y hy => by simp at hy; subst hy; exact Int.le_refl _⟩
  | a :: b :: r, _ => by
    obtain ⟨h1, h2⟩ := minL_mem (ns := b :: r) (by simp)
    refine ⟨?_, fun y hy => ?_⟩
    · show min a (minL (b :: r)) ∈ a :: b :: r
      rw [Int.min_def]
      split
      · exact List.mem_cons_self
      · exact List.mem_cons_of_mem _ h1
    · show min a (minL (b :: r)) ≤ y
      rcases List.mem_cons.mp hy with e | e
      · subst e; exact Int.min_le_left _ _
      · exact Int.le_trans (Int.min_le_right _ _) (h2 y e)
theorem cal_maxL {ns : List Int} (hc : X.calm = true) (h0 : 0 < ns.length) : CalD X (.builtin "max") [.list (ns.map .int)] (.int (maxL ns)) := ⟨_, cr_max hc, fun G H vs Q e h q => by
  obtain ⟨v, rfl, kk⟩ := wk1 h
  obtain ⟨p, ws, rfl, hq, hd⟩ := kk.list e
  rw [hd.ints] at hq
  refine ⟨p, ns, rfl, hq, h0, fun m hm hy => ?_⟩
  obtain ⟨h1, h2⟩ := maxL_mem h0
  rw [show m = maxL ns from Int.le_antisymm (h2 m hm) (hy _ h1)]
  exact q _ G H (.refl e) (.int _)⟩
theorem cal_minL {ns : List Int} (hc : X.calm = true) (h0 : 0 < ns.length) : CalD X (.builtin "min") [.list (ns.map .int)] (.int (minL ns)) := ⟨_, cr_min hc, fun G H vs Q e h q => by
  obtain ⟨v, rfl, kk⟩ := wk1 h
  obtain ⟨p, ws, rfl, hq, hd⟩ := kk.list e
  rw [hd.ints] at hq
  refine ⟨p, ns, rfl, hq, h0, fun m hm hy => ?_⟩
  obtain ⟨h1, h2⟩ := minL_mem h0
  rw [show m = minL ns from Int.le_antisymm (hy _ h1) (h2 m hm)]
  exact q _ G H (.refl e) (.int _)⟩
theorem cal_all {bs : List Bool} (hc : X.calm = true) : CalD X (.builtin "all") [.list (bs.map .bool)] (.bool (bs.all id)) := ⟨_, cr_all hc, fun G H vs Q e h q => by
  obtain ⟨v, rfl, kk⟩ := wk1 h
  obtain ⟨p, ws, rfl, hq, hd⟩ := kk.list e
  rw [hd.bools] at hq
  exact ⟨p, bs, rfl, hq, q _ G H (.refl e) (.bl _)⟩⟩
/-- sorted of ints: what is left is any sorted arrangement -/
def insI (a : Int) : List Int → List Int
  | [] => [a]
  | b :: r => if a ≤ b then a :: b :: r else b :: insI a r
def sortI : List Int → List Int
  | [] => []
  | a :: r => insI a (sortI r)
theorem insI_perm (a : Int) : ∀ l, (insI a l).Perm (a :: l)
  | [] => .refl _
  | b :: r => by
    unfold insI
    split
    · exact .refl _
    · exact ((insI_perm a r).cons b).trans (.swap a b r)
theorem sortI_perm : ∀ l, (sortI l).Perm l
  | [] => .refl _
  | a :: r => (insI_perm a (sortI r)).trans ((sortI_perm r).cons a)
theorem insI_pw (a : Int) : ∀ l, l.Pairwise (· ≤ ·) → (insI a l).Pairwise (· ≤ ·)
  | [], _ => by simp [insI]
  | b :: r, h => by
    unfold insI
    split
    · rename_i hab
      refine List.pairwise_cons.mpr ⟨fun y hy => ?_, h⟩
      rcases List.mem_cons.mp hy with e | e
      · subst e; exact hab
      · exact Int.le_trans hab ((List.pairwise_cons.mp h).1 y e)
    · rename_i hab
      refine List.pairwise_cons.mpr ⟨fun y hy => ?_, insI_pw a r (List.pairwise_cons.mp h).2⟩
      rcases List.mem_cons.mp ((insI_perm a r).mem_iff.mp hy) with e | e
      · subst e; omega
      · exact (List.pairwise_cons.mp h).1 y e
theorem sortI_pw : ∀ l, (sortI l).Pairwise (· ≤ ·)
  | [] => .nil
  | a :: r => insI_pw a _ (sortI_pw r)
theorem sorted_unique : ∀ {l l' : List Int}, l.Perm l' → l.Pairwise (· ≤ ·) → l'.Pairwise (· ≤ ·) → l = l'
  | [], l', p, _, _ => (List.nil_perm.mp p).symm
  | a :: r, [], p, _, _ => by have := p.length_eq; simp at this
  | a :: r, b :: r', p, h, h' => by
    have h1 := (List.pairwise_cons.mp h).1
    have h2 := (List.pairwise_cons.mp h').1
    have e : a = b := by
      have m1 : a ∈ b :: r' := p.mem_iff.mp List.mem_cons_self
      have m2 : b ∈ a :: r := p.mem_iff.mpr List.mem_cons_self
      rcases List.mem_cons.mp m1 with q | q
      · exact q
      · rcases List.mem_cons.mp m2 with z | z
        · exact z.symm
        · exact Int.le_antisymm (h1 b z) (h2 a q)
    subst e
    rw [sorted_unique (List.perm_cons a |>.mp p) (List.pairwise_cons.mp h).2 (List.pairwise_cons.mp h').2]
theorem cal_sorted {ns : List Int} : CalD X (.builtin "sorted") [.list (ns.map .int)] (.list ((sortI ns).map .int)) := ⟨_, cr_sortedI, fun G H vs Q e h q => by
  obtain ⟨v, rfl, kk⟩ := wk1 h
  obtain ⟨p, ws, rfl, hq, hd⟩ := kk.list e
  rw [hd.ints] at hq
  refine ⟨p, ns, rfl, hq, fun ns' p pm pw hp => ?_⟩
  rw [sorted_unique (pm.trans (sortI_perm ns).symm) pw (sortI_pw ns)]
  exact q _ (upd G p _) _ (Stp.lay e hp) (.lst (.of upd_same) (dp_lay (e.free hp) (DtAll.ofInts _)))⟩
theorem cal_intB {k : Bool} : CalD X (.type "int") [.bool k] (.int (if k then 1 else 0)) := ⟨_, call_int1, fun G H vs Q e h q => by
  obtain ⟨v, rfl, kk⟩ := wk1 h
  exact .inr ⟨k, by rw [kk.bool], q _ G H (.refl e) (.int _)⟩⟩
theorem cal_intS {w : Str} {n : Int} (hn : PySem.intText? w = some n) (hl : w.length ≤ 640) : CalD X (.type "int") [.str w] (.int n) := ⟨_, call_int_str, fun G H vs Q e h q => by
  obtain ⟨v, rfl, kk⟩ := wk1 h
  exact ⟨w, n, by rw [kk.str], hn, hl, q _ G H (.refl e) (.int _)⟩⟩
theorem cal_strI {i : Int} (hb : i.natAbs.log2 < 1920) : CalD X (.type "str") [.int i] (.str (toString i)) := ⟨_, call_str_int, fun G H vs Q e h q => by
  obtain ⟨v, rfl, kk⟩ := wk1 h
  exact ⟨i, by rw [kk.int], hb, q _ G H (.refl e) (.str _)⟩⟩
theorem cal_listL : CalD X (.type "list") [.list xs] (.list xs) := ⟨_, call_list_of, fun G H vs Q e h q => by
  obtain ⟨v, rfl, kk⟩ := wk1 h
  obtain ⟨p, ws, rfl, hq, hd⟩ := kk.list e
  exact ⟨p, ws, rfl, .inl hq, fun r hr => q _ (upd G r _) _ (Stp.lay e hr) (.lst (.of upd_same) (dp_lay (e.free hr) hd))⟩⟩
theorem cal_listT : CalD X (.type "list") [.tuple xs] (.list xs) := ⟨_, call_list_of, fun G H vs Q e h q => by
  obtain ⟨v, rfl, kk⟩ := wk1 h
  obtain ⟨p, ws, rfl, hq, _, hd⟩ := kk.tuple e
  exact ⟨p, ws, rfl, .inr hq, fun r hr => q _ (upd G r _) _ (Stp.lay e hr) (.lst (.of upd_same) (dp_lay (e.free hr) hd))⟩⟩
theorem cal_tupL : CalD X (.type "tuple") [.list xs] (.tuple xs) := ⟨_, call_tuple_of, fun G H vs Q e h q => by
  obtain ⟨v, rfl, kk⟩ := wk1 h
  obtain ⟨p, ws, rfl, hq, hd⟩ := kk.list e
  exact ⟨p, ws, rfl, .inl ⟨hq, fun r hr => q _ (upd G r _) _ (Stp.lay e hr) (.tup (.of upd_same) (dp_lay (e.free hr) hd))⟩⟩⟩
/-! ### isinstance -/
def tyName : D → String
  | .none => "NoneType"
  | .bool _ => "bool"
  | .int _ => "int"
  | .str _ => "str"
  | .list _ => "list"
  | .tuple _ => "tuple"
  | .dict _ => "dict"
def isInt : D → Bool
  | .int _ => true
  | .bool _ => true
  | _ => false
def isBool : D → Bool
  | .bool _ => true
  | _ => false
def isStr : D → Bool
  | .str _ => true
  | _ => false
def isTup : D → Bool
  | .tuple _ => true
  | _ => false
def isLst : D → Bool
  | .list _ => true
  | _ => false
def isDct : D → Bool
  | .dict _ => true
  | _ => false
theorem kit_int : ∀ x : D, kitB (tyName x) "int" = some (isInt x) := fun x => by cases x <;> simp only [tyName, isInt] <;> decide +kernel
theorem kit_bool : ∀ x : D, kitB (tyName x) "bool" = some (isBool x) := fun x => by cases x <;> simp only [tyName, isBool] <;> decide +kernel
theorem kit_str : ∀ x : D, kitB (tyName x) "str" = some (isStr x) := fun x => by cases x <;> simp only [tyName, isStr] <;> decide +kernel
theorem kit_tup : ∀ x : D, kitB (tyName x) "tuple" = some (isTup x) := fun x => by cases x <;> simp only [tyName, isTup] <;> decide +kernel
theorem kit_lst : ∀ x : D, kitB (tyName x) "list" = some (isLst x) := fun x => by cases x <;> simp only [tyName, isLst] <;> decide +kernel
theorem kit_dct : ∀ x : D, kitB (tyName x) "dict" = some (isDct x) := fun x => by cases x <;> simp only [tyName, isDct] <;> decide +kernel
theorem wk_ty {K : Frg} {G H : Hp} {v : V} (h : Wk K G H v x) (e : Same G H) : TyX K H v (.type (tyName x)) := by
  cases x with
  | none => rw [h.none]; exact .base .non
  | bool b => rw [h.bool]; exact .base (.bl b)
  | int b => rw [h.int]; exact .base (.int b)
  | str b => rw [h.str]; exact .base (.str b)
  | list xs =>
    obtain ⟨p, vs, rfl, hq, _⟩ := h.list e
    rcases hq with (hq | ⟨o, hq⟩) | ⟨o, its, n, hk, hc, _⟩
    · exact .base (.lst hq)
    · exact .base (.frz hq)
    · exact .kList hk hc
  | tuple xs =>
    obtain ⟨p, vs, rfl, hq, _, _⟩ := h.tuple e
    rcases hq with (hq | ⟨o, hq⟩) | ⟨o, its, n, hk, hc, _⟩
    · exact .base (.tup hq)
    · exact .fTuple hq
    · exact .kTuple hk hc
  | dict kvs => exact h.dict.elim
theorem ev_isi {T : Str} {Tn : String} {f : D → Bool} {p q1 : Pos} (hk : ∀ x : D, kitB (tyName x) Tn = some (f x)) (hm : X.mg "isinstance" = none) (hmT : X.mg T = none) (hvT : bootBuiltins T = some (.type Tn)) (ha : EvW X e Γ x) (hg : Gl X "isinstance") (hgT : Gl X T)
    (hn : T ≠ "__name__" := by decide) (hdb : (T == ("__debug__" : Str)) = false := by decide) (he : starEach [e, .Name T q1] X.env = (false, eval e X.env) :: starEach [.Name T q1] X.env := by rfl) (hpl : (backTo pos (starEach [.Name T q1] X.env)).any (·.1) = false := by rfl) :
    EvD X (.Call (.Name "isinstance" p) [e, .Name T q1] [] pos) Γ (.bool (f x)) := fun B G H σ E Q q => by
  have hT : PE X (.Name T q1) (tC (.ty Tn)) := pe_bltn hgT hmT hvT rfl hn hdb
  refine w_pe (pe_callB call_isi hg hm (by decide +kernel) (pa_cons pe_w (pa_cons hT pa_nil) he) (by decide) (by decide) he hpl) (ha B G H σ E _ fun v G1 H1 s1 k1 => ?_)
  exact ⟨v, .ty Tn, _, _, f x, rfl, .ty Tn, wk_ty k1 s1.gh, kit_ty (hk x), q _ G1 H1 s1 (.bl _)⟩

/-! ### calls of defs -/
inductive Oc where
  | ret (x : D)
  | exc (n : Str)
/-- the object that a name of the module bears -/
def clsAt (mg : Str → Option Value) (n : Str) : Addr := match mg n with
  | some (.ref c) => c
  | _ => 0
/-- a def over data: it hands back what F tells, all else stays -/
def spD (K : Frg) (mg : Str → Option Value) (F : List D → Oc → Prop) : Sp := fun vs H Q E => ∃ (G : Hp) (xs : List D) (o : Oc), Same G H ∧ LamX.Tabs Tb.T H ∧ NoT G ∧ DtAll K G vs xs ∧ F xs o ∧
  match o with
  | .ret x => ∀ v G' H', Stp G H G' H' → Dt K G' v x → Q v H'
  | .exc n => ∀ G' H', Stp G H G' H' → E (.ref (clsAt mg n)) none H'
structure FG (P : Program) (w : World) (K : Frg) (mg : Str → Option Value) (base : Heap) (k : Nat) (n : Str) (m : Nat) (sp : Sp) : Prop where
  ex : ∃ (f : Addr) (fd : FuncData) (ps : List Str), ps.length = m ∧ mg n = some (.ref f) ∧ PySem.W.keepIn K (.ref f) = true ∧ Binds K fd ps [] ∧ FnOk P w K mg base (L2N.CX P w) k f fd ps sp
theorem passN {X : Cx} : Passes (L2N.CX X.prog X.w) X (fun _ _ _ => False) := fun _ _ _ _ _ _ _ ⟨_, _, _, _, _, _, _, _, _, _, _, _, z⟩ => z.elim
theorem ev_call {n : Str} {p : Pos} {k j m : Nat} {F : List D → Oc → Prop} (f : FG X.prog X.w X.K X.mg X.base k n m (spD X.K X.mg F)) (hr : Room j X.A) (hkj : k ≤ j) (hF : F xs (.ret z)) (ha : EvA X (e :: es) Γ xs) (hg : Gl X n) (hdb : (n == ("__debug__" : Str)) = false := by decide)
    (he : starEach (e :: es) X.env = (false, eval e X.env) :: starEach es X.env := by rfl) (hpl : (backTo pos (starEach es X.env)).any (·.1) = false := by rfl) : EvD X (.Call (.Name n p) (e :: es) [] pos) Γ z := fun B G H σ E Q q => by
  obtain ⟨a, fd, ps, hps, hm, hkp, hb, hf⟩ := f.ex
  refine w_pe (pe_call hf (hr.mono hkj) hg hm hkp hb .nil passN pa_w hdb he hpl) (ha.2 B G H σ E _ fun vs G1 H1 s1 k1 => ?_)
  rw [List.append_nil]
  exact ⟨G1, xs, .ret z, s1.gh, s1.h.t E.tab, s1.nt E.nt, k1, hF, fun v G2 H2 s2 d => q v G2 H2 (s1.trans s2) d⟩
end
end Wl

end

section
/-! W4: what is walked, targets, comprehensions; statements; defs. -/
namespace Wl
open PySem L2
variable [Tb]
section
variable {X : Cx} {Γ : List Sl} {e a b c : Expr} {es : List Expr} {x y z : D} {xs : List D} {pos p2 : Pos}
theorem ev_nameL {n : Str} {i : Nat} {p : Addr} (hN : X.N[i]? = some n) (h : Γ[i]? = some (.l p xs)) (hv : Vis X.env.scope n) (hd : (n == ("__debug__" : Str)) = false := by decide) (hcd : (n == ("__classdict__" : Str)) = false := by decide) : EvW X (.Name n pos) Γ (.list xs) := fun B G H σ E Q q => by
  obtain ⟨vs, e1, e2, _, d⟩ := E.get_l h
  exact w_pe (pe_var hN hv hd hcd) ⟨_, e1, q _ G H (.refl E.gh) (.inr ⟨p, vs, xs, rfl, rfl, .of e2, d⟩)⟩
theorem ev_nameRd {n : Str} {i : Nat} {p : Addr} (hN : X.N[i]? = some n) (h : Γ[i]? = some (.r (rdR p xs))) (hv : Vis X.env.scope n) (hd : (n == ("__debug__" : Str)) = false := by decide) (hcd : (n == ("__classdict__" : Str)) = false := by decide) : EvW X (.Name n pos) Γ (.list xs) := fun B G H σ E Q q => by
  obtain ⟨vs, e1, e2, d⟩ := E.get_rd h
  exact w_pe (pe_var hN hv hd hcd) ⟨_, e1, q _ G H (.refl E.gh) (.inr ⟨p, vs, xs, rfl, rfl, e2, d⟩)⟩

/-! ### what is walked -/
def SrcOk (K : Frg) (J : It) (xs : List D) (G1 : Hp) (ok : Hp → Prop) : Prop := ∃ (Gd : Hp → Prop) (Y : Nat → Hp → V → Hp → Prop), Walk J xs.length Gd Y ∧ (∀ H2, ok H2 → Gd H2) ∧
  ∀ (i : Nat) (G2 H2 : Hp) (v : V) (H3 : Hp), i < xs.length → Same G1 G2 → Same G2 H2 → ok H2 → Y i H2 v H3 → ∃ (G3 : Hp) (x : D), xs[i]? = some x ∧ Stp G2 H2 G3 H3 ∧ Dt K G3 v x
/-- tg walks over xs; fz: what is walked is frozen -/
def Src (X : Cx) (fz : Bool) (tg iter : Expr) (Γ : List Sl) (xs : List D) : Prop := ∃ wi : TI, PI X tg iter wi ∧ ∀ (B : Bs) (G H : Hp) (σ : L2.St), Env X.K B G H σ Γ → ∀ R : It → Hp → Prop,
  (∀ J G1 H1, Stp G H G1 H1 → SrcOk X.K J xs G1 (fun H2 => Same G1 H2 ∧ (fz = false → Keeps H1 H2)) → R J H1) → wi σ H R
variable {tg iter : Expr} {fz : Bool}
theorem Src.w (h : Src X true tg iter Γ xs) : Src X false tg iter Γ xs := by
  obtain ⟨wi, h1, h2⟩ := h
  refine ⟨wi, h1, fun B G H σ E R r => h2 B G H σ E R fun J G1 H1 s k => r J G1 H1 s ?_⟩
  obtain ⟨Gd, Y, w, o, f⟩ := k
  exact ⟨Gd, Y, w, fun H2 e => o H2 ⟨e.1, fun z => by cases z⟩, fun i G2 H2 v H3 hi e1 e2 e3 y => f i G2 H2 v H3 hi e1 e2 ⟨e3.1, fun z => by cases z⟩ y⟩
theorem src_list (h : EvD X iter Γ (.list xs)) : Src X true tg iter Γ xs := by
  refine ⟨_, pi_list pe_w, fun B G H σ E R r => h B G H σ E _ fun v G1 H1 s1 k1 => ?_⟩
  obtain ⟨p, vs, rfl, hp, hd⟩ := k1.list
  refine ⟨p, rfl, ⟨vs, s1.gh.seq hp⟩, r _ G1 H1 s1 ⟨_, _, by rw [← hd.len]; exact walk_list, fun H2 e => e.1.seq hp, fun i G2 H2 v H3 hi e1 e2 e3 y => ?_⟩⟩
  obtain ⟨rfl, hv⟩ := y
  obtain ⟨x, e4, d⟩ := hd.get' hv
  exact ⟨G2, x, e4, .refl e2, dt_mono e1 _ _ d⟩
theorem src_listW (h : EvW X iter Γ (.list xs)) : Src X false tg iter Γ xs := by
  refine ⟨_, pi_list pe_w, fun B G H σ E R r => h B G H σ E _ fun v G1 H1 s1 k1 => ?_⟩
  obtain ⟨p, vs, rfl, hp, hd⟩ := k1.list s1.gh
  refine ⟨p, rfl, ⟨vs, hp⟩, r _ G1 H1 s1 ⟨_, _, by rw [← hd.len]; exact walk_list, fun H2 e => (e.2 rfl).seq hp, fun i G2 H2 v H3 hi e1 e2 e3 y => ?_⟩⟩
  obtain ⟨rfl, hv⟩ := y
  obtain ⟨x, e4, d⟩ := hd.get' hv
  exact ⟨G2, x, e4, .refl e2, dt_mono e1 _ _ d⟩
theorem src_tup (h : EvD X iter Γ (.tuple xs)) : Src X true tg iter Γ xs := by
  refine ⟨_, pi_tup pe_w, fun B G H σ E R r => h B G H σ E _ fun v G1 H1 s1 k1 => ?_⟩
  obtain ⟨p, vs, rfl, hp, hd⟩ := k1.tuple
  refine ⟨p, rfl, ⟨vs, sqT_mono s1.gh hp⟩, r _ G1 H1 s1 ⟨_, _, by rw [← hd.len]; exact walk_tup, fun H2 e => sqT_mono e.1 hp, fun i G2 H2 v H3 hi e1 e2 e3 y => ?_⟩⟩
  obtain ⟨rfl, hv⟩ := y
  obtain ⟨x, e4, d⟩ := hd.get' hv
  exact ⟨G2, x, e4, .refl e2, dt_mono e1 _ _ d⟩
def rgD (lo : Int) (n : Nat) : List D := (List.range n).map fun k => .int (lo + (k : Nat))
theorem rgD_len (lo : Int) (n : Nat) : (rgD lo n).length = n := by unfold rgD; rw [List.length_map, List.length_range]
theorem rgD_at {lo : Int} {n i : Nat} (h : i < n) : (rgD lo n)[i]? = some (.int (lo + (i : Nat))) := by
  unfold rgD
  rw [List.getElem?_map, List.getElem?_range h]
  rfl
theorem src_rg {K : Frg} {lo : Int} {n : Nat} {G1 : Hp} {ok : Hp → Prop} : SrcOk K (Itr lo n) (rgD lo n) G1 ok := by
  refine ⟨fun _ => True, _, by rw [rgD_len]; exact walk_range, fun _ _ => True.intro, fun i G2 H2 v H3 hi e1 e2 e3 y => ?_⟩
  obtain ⟨rfl, rfl⟩ := y
  rw [rgD_len] at hi
  exact ⟨G2, _, rgD_at hi, .refl e2, .int _⟩
theorem src_range1 {n : Int} {p : Pos} (hm : X.mg "range" = none) (h : EvW X a Γ (.int n)) (hn : -(2 ^ 62) ≤ n ∧ n < 2 ^ 62) (hg : Gl X "range") (hs : starEach [a] X.env = [(false, eval a X.env)] := by rfl) : Src X true tg (.Call (.Name "range" p) [a] [] pos) Γ (rgD 0 n.toNat) := by
  refine ⟨_, pi_range1 hg hm (pa_cons pe_w pa_nil hs) hs, fun B G H σ E R r => h B G H σ E _ fun v G1 H1 s1 k1 => ?_⟩
  exact ⟨n, by rw [k1.int], hn.1, hn.2, r _ G1 H1 s1 src_rg⟩
theorem src_range2 {lo hi : Int} {p : Pos} (hm : X.mg "range" = none) (h : EvW X a Γ (.int lo)) (h2 : EvW X b Γ (.int hi)) (hn : -(2 ^ 62) ≤ lo ∧ lo < 2 ^ 62 ∧ -(2 ^ 62) ≤ hi ∧ hi < 2 ^ 62) (hg : Gl X "range") (hs : starEach [a, b] X.env = [(false, eval a X.env), (false, eval b X.env)] := by rfl)
    (hs2 : starEach [b] X.env = [(false, eval b X.env)] := by rfl) (hs3 : starEach [a, b] X.env = (false, eval a X.env) :: starEach [b] X.env := by rfl) : Src X true tg (.Call (.Name "range" p) [a, b] [] pos) Γ (rgD lo (hi - lo).toNat) := by
  refine ⟨_, pi_range2 hg hm (pa_cons pe_w (pa_cons pe_w pa_nil hs2) hs3) hs hs2, fun B G H σ E R r => h B G H σ E _ fun v G1 H1 s1 k1 => h2 B G1 H1 σ (E.step s1) _ fun u G2 H2 s2 k2 => ?_⟩
  exact ⟨lo, hi, by rw [k1.int, k2.int], hn, r _ G2 H2 (s1.trans s2) src_rg⟩
/-- range(lo, hi, st), n turns -/
def rgcD (lo st : Int) (n : Nat) : List D := (List.range n).map fun k => .int (lo + (k : Nat) * st)
theorem rgcD_len (lo st : Int) (n : Nat) : (rgcD lo st n).length = n := by unfold rgcD; rw [List.length_map, List.length_range]
theorem src_range3 {lo hi st : Int} {n : Nat} {p : Pos} (hm : X.mg "range" = none) (h : EvW X a Γ (.int lo)) (h2 : EvW X b Γ (.int hi)) (h3 : EvW X c Γ (.int st)) (hn : RgC lo hi st n) (hg : Gl X "range") (hs : starEach [a, b, c] X.env = (false, eval a X.env) :: starEach [b, c] X.env := by rfl)
    (hs2 : starEach [b, c] X.env = (false, eval b X.env) :: starEach [c] X.env := by rfl) (hs3 : starEach [c] X.env = (false, eval c X.env) :: starEach [] X.env := by rfl) (hpl : (backTo pos (starEach [b, c] X.env)).any (·.1) = false := by rfl) : Src X true tg (.Call (.Name "range" p) [a, b, c] [] pos) Γ (rgcD lo st n) := by
  refine ⟨_, pi_range3 hg hm (pa_cons pe_w (pa_cons pe_w (pa_cons pe_w pa_nil hs3) hs2) hs) hs hpl, fun B G H σ E R r => h B G H σ E _ fun v G1 H1 s1 k1 => h2 B G1 H1 σ (E.step s1) _ fun u G2 H2 s2 k2 => h3 B G2 H2 σ ((E.step s1).step s2) _ fun w G3 H3 s3 k3 => ?_⟩
  refine ⟨lo, hi, st, n, by rw [k1.int, k2.int, k3.int], hn, r _ G3 H3 ((s1.trans s2).trans s3) ?_⟩
  refine ⟨fun _ => True, _, by rw [rgcD_len]; exact walk_rangeC, fun _ _ => True.intro, fun i G2 H2 v H3 hi e1 e2 e3 y => ?_⟩
  obtain ⟨rfl, rfl⟩ := y
  rw [rgcD_len] at hi
  refine ⟨G2, _, ?_, .refl e2, .int _⟩
  unfold rgcD
  rw [List.getElem?_map, List.getElem?_range hi]
  rfl
def enumD (xs : List D) : List D := (xs.zipIdx).map fun p => .tuple [.int (p.2 : Nat), p.1]
theorem enumD_len : (enumD xs).length = xs.length := by unfold enumD; simp
theorem enumD_at {i : Nat} (h : xs[i]? = some x) : (enumD xs)[i]? = some (.tuple [.int (i : Nat), x]) := by
  unfold enumD
  rw [List.getElem?_map, List.getElem?_zipIdx, h]
  simp
theorem src_enumW {elts : List Expr} {kk : Nat} {tpos p : Pos} (hm : X.mg "enumerate" = none) (h : EvW X a Γ (.list xs)) (hg : Gl X "enumerate") (hs : starEach [a] X.env = [(false, eval a X.env)] := by rfl) : Src X false (.Tuple elts kk tpos) (.Call (.Name "enumerate" p) [a] [] pos) Γ (enumD xs) := by
  refine ⟨_, pi_enum hg hm (pa_cons pe_w pa_nil hs) hs, fun B G H σ E R r => h B G H σ E _ fun v G1 H1 s1 k1 => ?_⟩
  obtain ⟨p, vs, rfl, hp, hd⟩ := k1.list s1.gh
  refine ⟨p, vs, rfl, hp, r _ G1 H1 s1 ⟨_, _, by rw [enumD_len, ← hd.len]; exact walk_enum, fun H2 e => (e.2 rfl).seq hp, fun i G2 H2 v H3 hi e1 e2 e3 y => ?_⟩⟩
  obtain ⟨T, x, w, rfl, hT, rfl, hx, hw⟩ := y
  obtain ⟨z, e4, d⟩ := hd.get' hw
  cases hx
  exact ⟨upd G2 T _, _, enumD_at e4, Stp.lay e2 hT, .tup (.of upd_same) (dp_lay (e2.free hT) (.cons (.int _) (.one (dt_mono e1 _ _ d))))⟩
theorem src_enum {elts : List Expr} {kk : Nat} {tpos p : Pos} (hm : X.mg "enumerate" = none) (h : EvD X a Γ (.list xs)) (hg : Gl X "enumerate") (hs : starEach [a] X.env = [(false, eval a X.env)] := by rfl) : Src X true (.Tuple elts kk tpos) (.Call (.Name "enumerate" p) [a] [] pos) Γ (enumD xs) := by
  refine ⟨_, pi_enum hg hm (pa_cons pe_w pa_nil hs) hs, fun B G H σ E R r => h B G H σ E _ fun v G1 H1 s1 k1 => ?_⟩
  obtain ⟨p, vs, rfl, hp, hd⟩ := k1.list
  refine ⟨p, vs, rfl, s1.gh.seq hp, r _ G1 H1 s1 ⟨_, _, by rw [enumD_len, ← hd.len]; exact walk_enum, fun H2 e => e.1.seq hp, fun i G2 H2 v H3 hi e1 e2 e3 y => ?_⟩⟩
  obtain ⟨T, x, w, rfl, hT, rfl, hx, hw⟩ := y
  obtain ⟨z, e4, d⟩ := hd.get' hw
  cases hx
  exact ⟨upd G2 T _, _, enumD_at e4, Stp.lay e2 hT, .tup (.of upd_same) (dp_lay (e2.free hT) (.cons (.int _) (.one (dt_mono e1 _ _ d))))⟩
def zipD (xs ys : List D) : List D := (xs.zip ys).map fun p => .tuple [p.1, p.2]
theorem zipD_len {ys : List D} : (zipD xs ys).length = min xs.length ys.length := by unfold zipD; simp
theorem zipD_at {ys : List D} {i : Nat} (h : xs[i]? = some x) (h' : ys[i]? = some y) : (zipD xs ys)[i]? = some (.tuple [x, y]) := by
  unfold zipD
  rw [List.getElem?_map, List.getElem?_zip_eq_some (z := (x, y)) |>.mpr ⟨h, h'⟩]
  rfl
theorem src_zipW {elts : List Expr} {kk : Nat} {tpos p : Pos} {ys : List D} (hm : X.mg "zip" = none) (h : EvW X a Γ (.list xs)) (h' : EvW X b Γ (.list ys)) (hg : Gl X "zip") (hs : starEach [a, b] X.env = (false, eval a X.env) :: starEach [b] X.env := by rfl) (hs2 : starEach [b] X.env = (false, eval b X.env) :: starEach [] X.env := by rfl)
    (hpl : (backTo pos (starEach [b] X.env)).any (·.1) = false := by rfl) : Src X false (.Tuple elts kk tpos) (.Call (.Name "zip" p) [a, b] [] pos) Γ (zipD xs ys) := by
  refine ⟨_, pi_zip hg hm (pa_cons pe_w (pa_cons pe_w pa_nil hs2) hs) hs hpl, fun B G H σ E R r => h B G H σ E _ fun v G1 H1 s1 k1 => h' B G1 H1 σ (E.step s1) _ fun u G2 H2 s2 k2 => ?_⟩
  obtain ⟨p, vs, rfl, hp, hd⟩ := (k1.step s2).list s2.gh
  obtain ⟨p', vs', rfl, hp', hd'⟩ := k2.list s2.gh
  refine ⟨p, p', vs, vs', rfl, hp, hp', r _ G2 H2 (s1.trans s2) ⟨_, _, walk_zip (by rw [zipD_len, hd.len, hd'.len]), fun H2 e => ⟨(e.2 rfl).seq hp, (e.2 rfl).seq hp'⟩, fun i G3 H3 v H4 hi e1 e2 e3 y => ?_⟩⟩
  obtain ⟨T, x, w, rfl, hT, rfl, hx, hw⟩ := y
  obtain ⟨z, e4, d⟩ := hd.get' hx
  obtain ⟨z', e4', d'⟩ := hd'.get' hw
  exact ⟨upd G3 T _, _, zipD_at e4 e4', Stp.lay e2 hT, .tup (.of upd_same) (dp_lay (e2.free hT) (.cons (dt_mono e1 _ _ d) (.one (dt_mono e1 _ _ d'))))⟩
theorem src_zip {elts : List Expr} {kk : Nat} {tpos p : Pos} {ys : List D} (hm : X.mg "zip" = none) (h : EvD X a Γ (.list xs)) (h' : EvD X b Γ (.list ys)) (hg : Gl X "zip") (hs : starEach [a, b] X.env = (false, eval a X.env) :: starEach [b] X.env := by rfl) (hs2 : starEach [b] X.env = (false, eval b X.env) :: starEach [] X.env := by rfl)
    (hpl : (backTo pos (starEach [b] X.env)).any (·.1) = false := by rfl) : Src X true (.Tuple elts kk tpos) (.Call (.Name "zip" p) [a, b] [] pos) Γ (zipD xs ys) := by
  refine ⟨_, pi_zip hg hm (pa_cons pe_w (pa_cons pe_w pa_nil hs2) hs) hs hpl, fun B G H σ E R r => h B G H σ E _ fun v G1 H1 s1 k1 => h' B G1 H1 σ (E.step s1) _ fun u G2 H2 s2 k2 => ?_⟩
  obtain ⟨p, vs, rfl, hp, hd⟩ := (dt_mono s2.g _ _ k1).list
  obtain ⟨p', vs', rfl, hp', hd'⟩ := k2.list
  refine ⟨p, p', vs, vs', rfl, s2.gh.seq hp, s2.gh.seq hp', r _ G2 H2 (s1.trans s2) ⟨_, _, walk_zip (by rw [zipD_len, hd.len, hd'.len]), fun H2 e => ⟨e.1.seq hp, e.1.seq hp'⟩, fun i G3 H3 v H4 hi e1 e2 e3 y => ?_⟩⟩
  obtain ⟨T, x, w, rfl, hT, rfl, hx, hw⟩ := y
  obtain ⟨z, e4, d⟩ := hd.get' hx
  obtain ⟨z', e4', d'⟩ := hd'.get' hw
  exact ⟨upd G3 T _, _, zipD_at e4 e4', Stp.lay e2 hT, .tup (.of upd_same) (dp_lay (e2.free hT) (.cons (dt_mono e1 _ _ d) (.one (dt_mono e1 _ _ d'))))⟩
/-- a text, sign by sign -/
def strD (w : Str) : List D := w.cps.toList.map fun c => .str ⟨#[c]⟩
theorem src_str {w : Str} (h : EvW X iter Γ (.str w)) : Src X true tg iter Γ (strD w) := by
  refine ⟨_, pi_str pe_w, fun B G H σ E R r => h B G H σ E _ fun v G1 H1 s1 k1 => ?_⟩
  refine ⟨w, k1.str, r _ G1 H1 s1 ⟨_, _, by rw [show (strD w).length = w.cps.size by unfold strD; simp]; exact walk_str, fun H2 e => True.intro, fun i G2 H2 v H3 hi e1 e2 e3 y => ?_⟩⟩
  obtain ⟨rfl, c, hc, rfl⟩ := y
  refine ⟨G2, .str ⟨#[c]⟩, ?_, .refl e2, .str _⟩
  unfold strD
  rw [List.getElem?_map, Array.getElem?_toList, hc]
  rfl

/-! ### targets -/
def wG (X : Cx) (tg : Expr) : TG := fun v σ H Q => ∀ (pins : List (Addr × Obj)) (s : Shared) (u : Value), Inv X pins σ H s → RelV v u → wpAny (model X.prog X.w) X.A (assign tg X.env u) (fun _ s' => ∃ σ' H', Inv X pins σ' H' s' ∧ Q σ' H') X.xe s
theorem pg_w : PG X tg (wG X tg) := ⟨fun pins s σ H v u Q I r h => h pins s u I r⟩
theorem w_pg {g : TG} {v : V} {σ : L2.St} {H : Hp} {Q : L2.St → Hp → Prop} (h : PG X tg g) (q : g v σ H Q) : wG X tg v σ H Q := fun pins s u I r => h.run pins s σ H v u Q I r q
/-- x given to tg: the slots vs alone are changed -/
def TgD (X : Cx) (tg : Expr) (vs : List Nat) (x : D) (Γ Γ' : List Sl) : Prop := ∀ (B : Bs) (G H : Hp) (σ : L2.St) (v : V), Env X.K B G H σ Γ → Dt X.K G v x → ∀ Q : L2.St → Hp → Prop, (∀ σ', Env X.K B G H σ' Γ' → wipe σ' vs = wipe σ vs → Q σ' H) → wG X tg v σ H Q
theorem wipe_in {σ : L2.St} {i : Nat} {o : Option V} : ∀ {vs : List Nat}, i ∈ vs → wipe (σ.set i o) vs = wipe σ vs
  | v :: vs, h => by
    unfold wipe
    by_cases hv : i = v
    · subst hv
      by_cases hm : i ∈ vs
      · rw [wipe_in hm]
      · have key : ∀ (ws : List Nat), i ∉ ws → wipe (σ.set i o) ws = (wipe σ ws).set i o := by
          intro ws
          induction ws with
          | nil => intro _; rfl
          | cons w ws ih =>
            intro hw
            have h1 : ¬ w = i := fun z => hw (by simp [z])
            unfold wipe
            rw [ih fun z => hw (List.mem_cons_of_mem _ z), List.set_comm _ _ (fun z => h1 z.symm)]
        rw [key vs hm, List.set_set]
    · have hm : i ∈ vs := by
        rcases List.mem_cons.mp h with q | q
        · exact absurd q hv
        · exact q
      rw [wipe_in hm]
theorem wipe_sub {σ : L2.St} {vs : List Nat} : ∀ {ws : List Nat}, (∀ w, w ∈ ws → w ∈ vs) → wipe (wipe σ ws) vs = wipe σ vs
  | [], _ => rfl
  | w :: ws, h => by
    show wipe ((wipe σ ws).set w none) vs = _
    rw [wipe_in (h w List.mem_cons_self), wipe_sub fun z hz => h z (List.mem_cons_of_mem _ hz)]
theorem wipe_wipe (σ : L2.St) (vs : List Nat) : wipe (wipe σ vs) vs = wipe σ vs := wipe_sub fun _ h => h
theorem tg_name {n : Str} {i : Nat} {vs : List Nat} (hN : X.N.Nodup) (hi : X.N[i]? = some n) (hx : Loc X.env.scope n) (hm : i ∈ vs) (hf : X.fn n = true ∨ X.env.scope.names.lookup n = some .local) : TgD X (.Name n pos) vs x Γ (Γ.set i (.d x)) := fun B G H σ v E d Q q =>
  w_pg (pg_name hN hi hx hf) (q _ (E.set_d d i) (wipe_in hm))
def wGs (X : Cx) (ts : List Expr) : TGs := fun vs σ H Q => ∀ (pins : List (Addr × Obj)) (s : Shared) (us : List Value), Inv X pins σ H s → Vals vs us → wpAny (model X.prog X.w) X.A (assignInOrder ((assignEach ts X.env).map (·.2)) us) (fun _ s' => ∃ σ' H', Inv X pins σ' H' s' ∧ Q σ' H') X.xe s
theorem pgs_w {ts : List Expr} : PGs X ts (wGs X ts) := ⟨fun pins s σ H vs us Q I r h => h pins s us I r⟩
theorem w_pgs {ts : List Expr} {g : TGs} {vs : List V} {σ : L2.St} {H : Hp} {Q : L2.St → Hp → Prop} (h : PGs X ts g) (q : g vs σ H Q) : wGs X ts vs σ H Q := fun pins s us I r => h.run pins s σ H vs us Q I r q
def TgsD (X : Cx) (ts : List Expr) (ws : List Nat) (xs : List D) (Γ Γ' : List Sl) : Prop := ∀ (B : Bs) (G H : Hp) (σ : L2.St) (vs : List V), Env X.K B G H σ Γ → DtAll X.K G vs xs → ∀ Q : L2.St → Hp → Prop, (∀ σ', Env X.K B G H σ' Γ' → wipe σ' ws = wipe σ ws → Q σ' H) → wGs X ts vs σ H Q
theorem tgs_nil {ws : List Nat} : TgsD X [] ws [] Γ Γ := fun B G H σ vs E d Q q => by
  cases d
  exact w_pgs pgs_nil ⟨rfl, q σ E rfl⟩
theorem tgs_cons {ts : List Expr} {ws : List Nat} {Γ1 Γ2 : List Sl} (h : TgD X tg ws x Γ Γ1) (t : TgsD X ts ws xs Γ1 Γ2) (hs : (assignEach (tg :: ts) X.env).map (·.2) = assign tg X.env :: (assignEach ts X.env).map (·.2) := by rfl) : TgsD X (tg :: ts) ws (x :: xs) Γ Γ2 := fun B G H σ vs E d Q q => by
  cases d with
  | cons d1 d2 => exact w_pgs (pgs_cons pg_w pgs_w hs) ⟨_, _, rfl, h B G H σ _ E d1 _ fun σ1 E1 w1 => t B G H σ1 _ E1 d2 _ fun σ2 E2 w2 => q σ2 E2 (w2.trans w1)⟩
theorem tg_tup {ts : List Expr} {ws : List Nat} {Γ' : List Sl} {kk n : Nat} (hc : X.calm = true) (h : TgsD X ts ws xs Γ Γ') (hl : xs.length = n) (hn : (assignEach ts X.env).length = n := by rfl) (hst : (assignEach ts X.env).findIdx? (·.1) = none := by rfl) : TgD X (.Tuple ts kk pos) ws (.tuple xs) Γ Γ' := fun B G H σ v E d Q q => by
  obtain ⟨p, vs, rfl, hp, hd⟩ := d.tuple
  exact w_pg (pg_tup hc pgs_w hn hst) ⟨p, vs, rfl, sqT_mono E.gh hp, by rw [hd.len]; exact hl, h B G H σ vs E hd Q q⟩

/-! ### comprehensions -/
def EvTs (X : Cx) (ifs : List Expr) (Γ : List Sl) (k : Bool) : Prop := match ifs with
  | [] => k = true
  | [c] => EvT X c Γ k
  | _ => False
/-- the block's context -/
abbrev Blk (X : Cx) (scope : Scope) (s : Shared) (H : Hp) (C : Addr) (cl : List (Str × Addr)) (fp : List Addr) : Cx := X.blk s H scope (compEnvC scope cl C X.env) fp
def wTs (X : Cx) (ifs : List Expr) : TT := fun σ H Q => ∀ (pins : List (Addr × Obj)) (s : Shared), Inv X pins σ H s →
    wpAny (model X.prog X.w) X.A (forIn ifs true fun c r => if r = true then do let ok ← isTrue c X.env (eval c X.env); pure (ForInStep.yield ok) else pure (ForInStep.yield r)) (TP X pins σ Q) X.xe s
theorem w_pts {ifs : List Expr} {t : TT} {σ : L2.St} {H : Hp} {Q : Bool → Hp → Prop} (h : PTs X ifs t) (q : t σ H Q) : wTs X ifs σ H Q := fun pins s I => h.run pins s σ H Q I q
theorem evTs_w {ifs : List Expr} {k : Bool} (h : EvTs X ifs Γ k) {B : Bs} {G H : Hp} {σ : L2.St} (E : Env X.K B G H σ Γ) {Q : Bool → Hp → Prop} (q : ∀ G' H', Stp G H G' H' → Q k H') : wTs X ifs σ H Q := by
  match ifs, h with
  | [], h =>
    rw [show k = true from h] at q
    exact w_pts pts_nil (q G H (.refl E.gh))
  | [c], h => exact w_pts (pts_one pt_w) (h B G H σ E Q q)
def tgB (X : Cx) (scope : Scope) (tg : Expr) : TG := fun v σ H Q => ∀ (s : Shared) (H0 : Hp) (C : Addr) (cl : List (Str × Addr)) (fp : List Addr), wG (Blk X scope s H0 C cl fp) tg v σ H Q
def tsB (X : Cx) (scope : Scope) (ifs : List Expr) : TT := fun σ H Q => ∀ (s : Shared) (H0 : Hp) (C : Addr) (cl : List (Str × Addr)) (fp : List Addr), wTs (Blk X scope s H0 C cl fp) ifs σ H Q
def teB (X : Cx) (scope : Scope) (e : Expr) : TE := fun σ H Q => ∀ (s : Shared) (H0 : Hp) (C : Addr) (cl : List (Str × Addr)) (fp : List Addr), wE (Blk X scope s H0 C cl fp) e σ H Q
def wipeS (Γ : List Sl) : List Nat → List Sl
  | [] => Γ
  | v :: vs => (wipeS Γ vs).set v .un
theorem Env.wipe {K : Frg} {B : Bs} {G H : Hp} {σ : L2.St} (E : Env K B G H σ Γ) : ∀ vs : List Nat, Env K B G H (wipe σ vs) (wipeS Γ vs)
  | [] => E
  | v :: vs => (Env.wipe E vs).set_un none v
/-- what a comprehension's parts tell: at each item the target's slots, whether it is kept, the element -/
structure LcD {α : Type} (X : Cx) (Γ : List Sl) (own : List (Str × Nat)) (scope : Scope) (tg iter elt : Expr) (ifs : List Expr) (ys : List α) (enc : α → D) (p : α → Bool) (f : α → D) : Prop where
  src : Src X false tg iter Γ (ys.map enc)
  ok : BlkOk X.N X.env.scope scope own
  len : ys.length ≤ 100000
  turn : ∀ a : α, a ∈ ys → ∃ Γ', ∀ (s : Shared) (H0 : Hp) (C : Addr) (cl : List (Str × Addr)) (fp : List Addr), TgD (Blk X scope s H0 C cl fp) tg (own.map (·.2)) (enc a) (wipeS Γ (own.map (·.2))) Γ' ∧
    EvTs (Blk X scope s H0 C cl fp) ifs Γ' (p a) ∧ (p a = true → EvD (Blk X scope s H0 C cl fp) elt Γ' (f a))
theorem filter_snoc {α : Type} {ys : List α} {i : Nat} {a : α} (p : α → Bool) (h : ys[i]? = some a) : (ys.take (i + 1)).filter p = (ys.take i).filter p ++ (if p a = true then [a] else []) := by
  rw [List.take_add_one, h, List.filter_append]
  congr 1
  show [a].filter p = _
  rw [List.filter_cons, List.filter_nil]
/-- what a turn of a comprehension tells -/
def TurnD {α : Type} (X : Cx) (Γ : List Sl) (own : List (Str × Nat)) (scope : Scope) (tg elt : Expr) (ifs : List Expr) (ys : List α) (enc : α → D) (p : α → Bool) (f : α → D) : Prop :=
  ∀ a : α, a ∈ ys → ∃ Γ', ∀ (s : Shared) (H0 : Hp) (C : Addr) (cl : List (Str × Addr)) (fp : List Addr), TgD (Blk X scope s H0 C cl fp) tg (own.map (·.2)) (enc a) (wipeS Γ (own.map (·.2))) Γ' ∧
    EvTs (Blk X scope s H0 C cl fp) ifs Γ' (p a) ∧ (p a = true → EvD (Blk X scope s H0 C cl fp) elt Γ' (f a))
/-- the reading of such a comprehension: a new list D, not yet frozen -/
theorem lc_tell {α : Type} {own : List (Str × Nat)} {scope : Scope} {elt : Expr} {ifs : List Expr} {ys : List α} {enc : α → D} {p : α → Bool} {f : α → D} {wi : TI} {B : Bs} {G H : Hp} {σ : L2.St}
    (src : ∀ R : It → Hp → Prop, (∀ J G1 H1, Stp G H G1 H1 → SrcOk X.K J (ys.map enc) G1 (fun H2 => Same G1 H2 ∧ (false = false → Keeps H1 H2)) → R J H1) → wi σ H R) (len : ys.length ≤ 100000) (tn : TurnD X Γ own scope tg elt ifs ys enc p f)
    (E : Env X.K B G H σ Γ) {Q : VK} (q : ∀ d vs G' H', Stp G H G' H' → Fre H d → G' d = none → H' d = some (.lst vs) → DtAll X.K G' vs ((ys.filter p).map f) → Q (.ref d) H') :
    tLc wi (tgB X scope tg) (tsB X scope ifs) (teB X scope elt) (own.map (·.2)) σ H Q := by
  refine src _ fun J G1 H1 s1 k1 => ?_
  intro Dl hD
  obtain ⟨Gd, Y, wk, og, oy⟩ := k1
  have E1 := E.step s1
  let Pv : Nat → Hp → Prop := fun i H' => ∃ (G' : Hp) (vs : List V), Stp G1 H1 G' H' ∧ G' Dl = none ∧ H' Dl = some (.lst vs) ∧ DtAll X.K G' vs (((ys.take i).filter p).map f)
  have ly : (ys.map enc).length = ys.length := List.length_map _
  refine lc_it wk Pv ⟨G1, [], Stp.put s1.gh hD, s1.gh.free hD, upd_same, .nil⟩ (fun i H' hi ⟨G', vs, t, _⟩ => og H' ⟨t.g.trans t.gh, fun _ => t.h⟩) ?_ ?_
  · rintro i v H2 H3 hi ⟨G2, vs, t2, gD, hDl, hd⟩ y
    obtain ⟨G3, x, hx, t3, dx⟩ := oy i G2 H2 v H3 hi t2.g t2.gh ⟨t2.g.trans t2.gh, fun _ => t2.h⟩ y
    rw [List.getElem?_map] at hx
    obtain ⟨a, ha, rfl⟩ : ∃ a, ys[i]? = some a ∧ enc a = x := by
      cases q : ys[i]? with
      | none => rw [q] at hx; cases hx
      | some a => rw [q] at hx; exact ⟨a, rfl, Option.some.inj hx⟩
    have t13 := t2.trans t3
    have gD3 : G3 Dl = none := t3.free gD hDl rfl
    have hD3 : H3 Dl = some (.lst vs) := t3.h.lst hDl
    have Ew := (E1.step t13).wipe (own.map (·.2))
    obtain ⟨Γ', step⟩ := tn a (List.mem_of_getElem? ha)
    have ilen : i < ys.length := (List.getElem?_eq_some_iff.mp ha).1
    have accl : vs.length < sizeLine := by
      rw [hd.len, List.length_map]
      have h1 := List.length_filter_le p (ys.take i)
      rw [List.length_take] at h1
      have h2 := len
      have h3 : sizeLine = 16777216 := by decide
      omega
    have nxt : ∀ {G4 H4 : Hp}, Stp G3 H3 G4 H4 → (p a = false → Pv (i + 1) H4) ∧ (p a = true → ∀ {G5 H5 : Hp} {u : V}, Stp G4 H4 G5 H5 → Dt X.K G5 u (f a) → ∃ acc, H5 Dl = some (.lst acc) ∧ acc.length < sizeLine ∧ Pv (i + 1) (upd H5 Dl (.lst (acc ++ [u])))) := fun {G4 H4} t4 => by
      refine ⟨fun hp => ⟨G4, vs, t13.trans t4, t4.free gD3 hD3 rfl, t4.h.lst hD3, ?_⟩, fun hp {G5 H5 u} t5 du => ⟨vs, t5.h.lst (t4.h.lst hD3), accl, G5, vs ++ [u], ?_, ?_, upd_same, ?_⟩⟩
      · rw [filter_snoc p ha, hp, if_neg Bool.false_ne_true, List.append_nil]
        exact dtAll_mono (t3.g.trans t4.g) _ _ hd
      · have t15 := (t13.trans t4).trans t5
        exact ⟨t15.g, keeps_upd2 t15.h hD (t5.h.lst (t4.h.lst hD3)), same_upd2 t15.gh (t5.free (t4.free gD3 hD3 rfl) (t4.h.lst hD3) rfl), t15.new, t15.nt⟩
      · exact t5.free (t4.free gD3 hD3 rfl) (t4.h.lst hD3) rfl
      · rw [filter_snoc p ha, hp, if_pos rfl, List.map_append]
        exact (dtAll_mono ((t3.g.trans t4.g).trans t5.g) _ _ hd).append (.one du)
    intro s H0 C cl fp
    refine (step s H0 C cl fp).1 B G3 H3 _ v Ew dx _ fun σ' E' w' => ⟨w'.trans (wipe_wipe σ _), fun s H0 C cl fp => ?_⟩
    refine evTs_w (step s H0 C cl fp).2.1 E' fun G4 H4 t4 => ?_
    cases hp : p a with
    | false => exact iteF ((nxt t4).1 hp)
    | true =>
      refine iteT fun s H0 C cl fp => (step s H0 C cl fp).2.2 hp B G4 H4 σ' (E'.step t4) _ fun u G5 H5 t5 du => ?_
      exact (nxt t4).2 hp t5 du
  · rintro H2 ⟨G2, vs, t2, gD, hDl, hd⟩
    rw [ly, List.take_length] at hd
    exact q Dl vs G2 H2 (s1.trans t2) (s1.h.fre (.inl hD)) gD hDl hd
theorem lc_read {α : Type} {own : List (Str × Nat)} {scope : Scope} {elt : Expr} {ifs : List Expr} {ys : List α} {enc : α → D} {p : α → Bool} {f : α → D} (L : LcD X Γ own scope tg iter elt ifs ys enc p f)
    {B : Bs} {G H : Hp} {σ : L2.St} (E : Env X.K B G H σ Γ) {Q : VK} (q : ∀ d vs G' H', Stp G H G' H' → Fre H d → G' d = none → H' d = some (.lst vs) → DtAll X.K G' vs ((ys.filter p).map f) → Q (.ref d) H') :
    ∃ wi, PI X tg iter wi ∧ tLc wi (tgB X scope tg) (tsB X scope ifs) (teB X scope elt) (own.map (·.2)) σ H Q := by
  obtain ⟨wi, hpi, hsrc⟩ := L.src
  exact ⟨wi, hpi, lc_tell (fun R => hsrc B G H σ E R) L.len L.turn E q⟩
/-- .. as a value -/
theorem ev_lc {α : Type} {own : List (Str × Nat)} {scope : Scope} {elt : Expr} {ifs : List Expr} {ys : List α} {enc : α → D} {p : α → Bool} {f : α → D} (hc : X.calm = true) (hN : X.N.Nodup) (L : LcD X Γ own scope tg iter elt ifs ys enc p f)
    (hs : ∀ x, foldedSetIterable iter X.env x = pure x := by intro _; rfl) : EvD X (.ListComp elt [⟨tg, iter, ifs, 0⟩] scope pos) Γ (.list ((ys.filter p).map f)) := fun B G H σ E Q q => by
  obtain ⟨wi, hpi, h⟩ := lc_read L E (Q := Q) fun d vs G' H' t hH hG hd da => by
    have t' : Stp G H (upd G' d (.lst vs)) H' := ⟨t.g.trans (same_upd hG), t.h, fun a o e => ?_, fun a => ?_, fun n => (t.nt n).upd fun ps z => by cases z⟩
    · exact q _ _ _ t' (.lst (.of upd_same) (dp_lay hG da))
    · by_cases z : a = d
      · subst z; rw [upd_same] at e; rw [hd]; exact e
      · rw [upd_ne z] at e; exact t.gh _ _ e
    · by_cases z : a = d
      · subst z; exact .inr hH
      · rw [upd_ne z]; exact t.new a
  refine w_pe (pe_lc hc hN hpi L.ok (fun s H C cl fp => ⟨fun pins s' σ H' v u Q I r z => z s H C cl fp pins s' u I r⟩) (fun s H C cl fp => ⟨fun pins s' σ H' Q I z => z s H C cl fp pins s' I⟩) (fun s H C cl fp => ⟨fun pins s' σ H' Q I z => z s H C cl fp pins s' I⟩) hs) h
end
end Wl

end

section
/-! W5: statements over data; defs. -/
namespace Wl
open PySem PySem.Spec PyProof.Rows L2
variable [Tb]
/-! ### what is wanted behind a statement -/
structure Kn where
  nx : List Sl → Prop
  rt : Sl → List Sl → Prop
  bk : List Sl → Prop := fun _ => False
  ct : List Sl → Prop := fun _ => False
  ex : Str → List Sl → Prop := fun _ _ => False
def Kn.ends (K : Frg) (B : Bs) (k : Kn) : Ends where
  nx := fun σ H => ∃ G Γ, Env K B G H σ Γ ∧ k.nx Γ
  rt := fun v H => ∃ G σ s Γ, Env K B G H (some v :: σ) (s :: Γ) ∧ k.rt s Γ
  bk := fun σ H => ∃ G Γ, Env K B G H σ Γ ∧ k.bk Γ
  ct := fun σ H => ∃ G Γ, Env K B G H σ Γ ∧ k.ct Γ
/-- the context takes what may be raised -/
def XT (X : Cx) (B : Bs) (ex : Str → List Sl → Prop) : Prop := ∃ W : WX, L2N.Takes X W ∧ PassesOwn (model X.prog X.w) X.A X.env X.xe ∧ ∀ (c : Str) (σ : L2.St) (G H : Hp) (Γ : List Sl), Env X.K B G H σ Γ → ex c Γ → W (.ref (clsAt X.mg c)) none σ H
theorem XT.imp {X : Cx} {B : Bs} {ex ex' : Str → List Sl → Prop} (h : XT X B ex) (i : ∀ c Γ, ex' c Γ → ex c Γ) : XT X B ex' := by
  obtain ⟨W, tk, po, q⟩ := h
  exact ⟨W, tk, po, fun c σ G H Γ E x => q c σ G H Γ E (i c Γ x)⟩
def Ss (X : Cx) (sts : List Stmt) (k : Kn) (Γ : List Sl) : Prop := ∀ (B : Bs) (G H : Hp) (σ : L2.St), Env X.K B G H σ Γ → XT X B k.ex → wSs X sts (k.ends X.K B) σ H
def S1 (X : Cx) (st : Stmt) (k : Kn) (Γ : List Sl) : Prop := ∀ (B : Bs) (G H : Hp) (σ : L2.St), Env X.K B G H σ Γ → XT X B k.ex → wS X st (k.ends X.K B) σ H
section
variable {X : Cx} {Γ : List Sl} {e a b c : Expr} {es : List Expr} {x y z : D} {xs : List D} {pos p2 : Pos} {k : Kn} {st : Stmt} {sts : List Stmt}
theorem sp_mono {pins : List (Addr × Obj)} {K K' : Ends} {f : Flow} {s : Shared} (h : SP X pins K f s) (n : ∀ σ H, K.nx σ H → K'.nx σ H) (r : ∀ v H, K.rt v H → K'.rt v H) (bk : ∀ σ H, K.bk σ H → K'.bk σ H) (ct : ∀ σ H, K.ct σ H → K'.ct σ H) : SP X pins K' f s := by
  cases f with
  | next => obtain ⟨σ, H, I, q⟩ := h; exact ⟨σ, H, I, n σ H q⟩
  | brk => obtain ⟨σ, H, I, q⟩ := h; exact ⟨σ, H, I, bk σ H q⟩
  | cont => obtain ⟨σ, H, I, q⟩ := h; exact ⟨σ, H, I, ct σ H q⟩
  | ret v => obtain ⟨u, σ, H, I, q1, q⟩ := h; exact ⟨u, σ, H, I, q1, r u H q⟩
theorem wS_mono {σ : L2.St} {H : Hp} {K K' : Ends} (h : wS X st K σ H) (n : ∀ σ H, K.nx σ H → K'.nx σ H) (r : ∀ v H, K.rt v H → K'.rt v H) (bk : ∀ σ H, K.bk σ H → K'.bk σ H) (ct : ∀ σ H, K.ct σ H → K'.ct σ H) : wS X st K' σ H := fun pins s I =>
  thn (h pins s I) fun f s' q => sp_mono q n r bk ct
theorem wSs_mono {σ : L2.St} {H : Hp} {K K' : Ends} (h : wSs X sts K σ H) (n : ∀ σ H, K.nx σ H → K'.nx σ H) (r : ∀ v H, K.rt v H → K'.rt v H) (bk : ∀ σ H, K.bk σ H → K'.bk σ H) (ct : ∀ σ H, K.ct σ H → K'.ct σ H) : wSs X sts K' σ H := fun pins s I =>
  thn (h pins s I) fun f s' q => sp_mono q n r bk ct
theorem Ss.imp {k' : Kn} (h : Ss X sts k Γ) (n : ∀ Γ, k.nx Γ → k'.nx Γ) (r : ∀ s Γ, k.rt s Γ → k'.rt s Γ) (bk : ∀ Γ, k.bk Γ → k'.bk Γ) (ct : ∀ Γ, k.ct Γ → k'.ct Γ) (ex : ∀ c Γ, k.ex c Γ → k'.ex c Γ) : Ss X sts k' Γ := fun B G H σ E xt =>
  wSs_mono (h B G H σ E (xt.imp ex)) (fun σ H ⟨G, Γ, E, q⟩ => ⟨G, Γ, E, n Γ q⟩) (fun v H ⟨G, σ, s, Γ, E, q⟩ => ⟨G, σ, s, Γ, E, r s Γ q⟩) (fun σ H ⟨G, Γ, E, q⟩ => ⟨G, Γ, E, bk Γ q⟩) (fun σ H ⟨G, Γ, E, q⟩ => ⟨G, Γ, E, ct Γ q⟩)
theorem ss_nil (h : k.nx Γ) : Ss X [] k Γ := fun B G H σ E _ => wSs_nil ⟨G, Γ, E, h⟩
theorem ss_cons (h : S1 X st { k with nx := Ss X sts k } Γ) : Ss X (st :: sts) k Γ := fun B G H σ E xt =>
  wSs_cons (wS_mono (h B G H σ E xt) (fun σ' H' ⟨G', Γ', E', q⟩ => q B G' H' σ' E' xt) (fun _ _ q => q) (fun _ _ q => q) (fun _ _ q => q))
theorem ss_one (h : S1 X st k Γ) : Ss X [st] k Γ := fun B G H σ E xt => wSs_one (h B G H σ E xt)
/-- what holds in between -/
theorem ss_cut (M : List Sl → Prop) (h : S1 X st { k with nx := M } Γ) (h2 : ∀ Γ', M Γ' → Ss X sts k Γ') : Ss X (st :: sts) k Γ := fun B G H σ E xt =>
  wSs_cons (wS_mono (h B G H σ E xt) (fun σ' H' ⟨G', Γ', E', q⟩ => h2 Γ' q B G' H' σ' E' xt) (fun _ _ q => q) (fun _ _ q => q) (fun _ _ q => q))
/-! ### small statements -/
theorem s1_pass (h : k.nx Γ) : S1 X (.Pass pos) k Γ := fun B G H σ E _ => w_ps ps_pass ⟨G, Γ, E, h⟩
theorem s1_doc {w : Str} {j : Nat} (h : k.nx Γ) : S1 X (.Expr (.Constant (.str w) j pos) p2) k Γ := fun B G H σ E _ => w_ps ps_doc ⟨G, Γ, E, h⟩
theorem s1_set {n : Str} {i : Nat} {p' : Pos} (he : EvD X e Γ x) (h : k.nx (Γ.set i (.d x))) (hN : X.N.Nodup) (hi : X.N[i]? = some n) (hx : Loc X.env.scope n) (hf : X.fn n = true ∨ X.env.scope.names.lookup n = some .local) (hs : swapsWith e (some (.Name n p')) pos.line X.env = pure false := by rfl) :
    S1 X (.Assign [.Name n p'] e pos) k Γ := fun B G H σ E _ => w_ps (ps_set hN hi hx pe_w hs hf) (he B G H σ E _ fun v G' H' s d => ⟨G', _, (E.step s).set_d d i, h⟩)
theorem s1_ret (he : EvD X e Γ x) (h : k.rt (.d x) Γ) : S1 X (.Return (some e) pos) k Γ := fun B G H σ E _ =>
  w_ps (ps_ret pe_w) (he B G H σ E _ fun v G' H' s d => ⟨G', σ, .d x, Γ, (E.step s).push d, h⟩)
theorem s1_retN (h : k.rt (.d .none) Γ) : S1 X (.Return none pos) k Γ := fun B G H σ E _ => w_ps ps_retN ⟨G, σ, .d .none, Γ, E.push .non, h⟩
theorem s1_if {t : Bool} {p q : List Stmt} (hc : EvT X c Γ t) (h1 : t = true → Ss X p k Γ) (h2 : t = false → Ss X q k Γ) : S1 X (.If c p q pos) k Γ := fun B G H σ E xt =>
  w_ps (ps_if pt_w pss_w pss_w) (hc B G H σ E _ fun G' H' s => by
    cases t with
    | true => exact iteT (h1 rfl B G' H' σ (E.step s) xt)
    | false => exact iteF (h2 rfl B G' H' σ (E.step s) xt))
theorem s1_expr (he : EvD X e Γ x) (h : k.nx Γ) (hs : swapsWith e none pos.line X.env = pure false := by rfl) : S1 X (.Expr e pos) k Γ := fun B G H σ E _ =>
  w_ps (ps_expr pe_w hs) (he B G H σ E _ fun v G' H' s d => ⟨G', Γ, E.step s, h⟩)
/-- a comprehension given to a local on its own line -/
theorem s1_setLc {α : Type} {own : List (Str × Nat)} {scope : Scope} {tg iter elt : Expr} {ifs : List Expr} {ys : List α} {enc : α → D} {p : α → Bool} {f : α → D} {n : Str} {i : Nat} {py spos : Pos} (hc : X.calm = true) (hN : X.N.Nodup) (L : LcD X Γ own scope tg iter elt ifs ys enc p f)
    (h : k.nx (Γ.set i (.d (.list ((ys.filter p).map f))))) (hy : X.N[i]? = some n) (hyl : X.env.scope.names.lookup n = some .local) (hsw : swapsWith (.ListComp elt [⟨tg, iter, ifs, 0⟩] scope pos) (some (.Name n py)) spos.line X.env = pure true) (hs : ∀ x, foldedSetIterable iter X.env x = pure x := by intro _; rfl) :
    S1 X (.Assign [.Name n py] (.ListComp elt [⟨tg, iter, ifs, 0⟩] scope pos) spos) k Γ := fun B G H σ E _ => by
  obtain ⟨wi, hpi, h⟩ := lc_read L E (Q := fun v H1 => gName i v σ H1 (k.ends X.K B).nx) fun d vs G' H' t hH hG hd da => by
    have t' : Stp G H (upd G' d (.lst vs)) H' := ⟨t.g.trans (same_upd hG), t.h, fun a o e => ?_, fun a => ?_, fun n => (t.nt n).upd fun ps z => by cases z⟩
    · exact ⟨_, _, (E.step t').set_d (.lst (.of upd_same) (dp_lay hG da)) i, h⟩
    · by_cases z : a = d
      · subst z; rw [upd_same] at e; rw [hd]; exact e
      · rw [upd_ne z] at e; exact t.gh _ _ e
    · by_cases z : a = d
      · subst z; exact .inr hH
      · rw [upd_ne z]; exact t.new a
  refine w_ps (ps_setLc hc hN hy hyl hsw hpi L.ok (fun s H C cl fp => ⟨fun pins s' σ H' v u Q I r z => z s H C cl fp pins s' u I r⟩) (fun s H C cl fp => ⟨fun pins s' σ H' Q I z => z s H C cl fp pins s' I⟩) (fun s H C cl fp => ⟨fun pins s' σ H' Q I z => z s H C cl fp pins s' I⟩) hs) h
/-! ### lists of one's own -/
theorem s1_new {n : Str} {i : Nat} {p' : Pos} {sl : Sl} (hsl : Γ[i]? = some sl) (he : EvA X es Γ xs) (h : ∀ p, k.nx (Γ.set i (.l p xs))) (hN : X.N.Nodup) (hi : X.N[i]? = some n) (hx : Loc X.env.scope n) (hf : X.fn n = true ∨ X.env.scope.names.lookup n = some .local) (hl : es.length ≤ 1000 := by decide) (hs : swapsWith (.List es p2) (some (.Name n p')) pos.line X.env = pure false := by rfl) :
    S1 X (.Assign [.Name n p'] (.List es p2) pos) k Γ := fun B G H σ E _ => w_ps (ps_set hN hi hx (pe_lst pa_w) hs hf) (he.2 B G H σ E _ fun vs G' H' s d => ⟨by rw [d.len, he.1]; exact Nat.le_trans hl (by decide), fun p hp => ⟨G', _, (E.step s).new_l hp d hsl, h p⟩⟩)
theorem ty_list {K : Frg} {H : Hp} {p : Addr} {vs : List V} (h : H p = some (.lst vs)) : tyV K "list" (.ref p) H := .inl ⟨rfl, vs, .of h⟩
theorem s1_append {n : Str} {i : Nat} {p : Addr} {np apos : Pos} (hsl : Γ[i]? = some (.l p xs)) (he : EvD X e Γ x) (hlen : xs.length < sizeLine) (h : k.nx (Γ.set i (.l p (xs ++ [x])))) (hN : X.N[i]? = some n) (hv : Vis X.env.scope n) (hd : (n == ("__debug__" : Str)) = false := by decide) (hcd : (n == ("__classdict__" : Str)) = false := by decide)
    (hbase : attributeBase (.Name n np) "append" X.env (eval (.Name n np) X.env) = eval (.Name n np) X.env := by rfl)
    (hfew : ((backTo p2 (starEach [e] X.env)).all (fun x => !x.1) && (backToKw p2 (keywordEach [] X.env)).all (fun x => x.1.isSome) && decide ([e].length + ([] : List Keyword).length + (if ([] : List Keyword).isEmpty then 0 else 1) < 30)) = true := by rfl)
    (hline : (apos.endLine == p2.line) = true := by rfl) (hs : starEach [e] X.env = (false, eval e X.env) :: starEach [] X.env := by rfl) (hplain : (backTo p2 (starEach [] X.env)).any (·.1) = false := by rfl) (hsw : swapsWith (.Call (.Attribute (.Name n np) "append" apos) [e] [] p2) none pos.line X.env = pure false := by rfl) :
    S1 X (.Expr (.Call (.Attribute (.Name n np) "append" apos) [e] [] p2) pos) k Γ := fun B G H σ E _ => by
  obtain ⟨vs, h1, h2, h3, h4⟩ := E.get_l hsl
  refine w_ps (ps_expr (pe_bm PySem.F.plainAttrs_list PySem.F.slot_list_append PySem.F.type_list_append mt_append (pe_var hN hv hd hcd) (pa_cons pe_w pa_nil hs) hbase hfew hline hs hplain) hsw) ?_
  refine ⟨_, h1, ty_list h2, he B G H σ E _ fun v G' H' s d => ⟨p, vs, v, rfl, rfl, s.h.lst h2, by rw [h4.len]; exact hlen, ?_⟩⟩
  have E' := (E.step s).put_l (ws := vs ++ [v]) hsl ((dtAll_mono s.g _ _ h4).append (.one d))
  rw [set_self h1] at E'
  exact ⟨G', _, E', h⟩
/-- the owned list is frozen from here on -/
theorem ss_freeze {i : Nat} {p : Addr} (hsl : Γ[i]? = some (.l p xs)) (h : Ss X sts k (Γ.set i (.d (.list xs)))) : Ss X sts k Γ := fun B G H σ E xt => by
  obtain ⟨G', g, E'⟩ := E.freeze hsl
  obtain ⟨vs, h1, _⟩ := E.get_l hsl
  rw [set_self h1] at E'
  exact h B G' H σ E' xt
theorem s1_freeze {i : Nat} {p : Addr} (hsl : Γ[i]? = some (.l p xs)) (h : S1 X st k (Γ.set i (.d (.list xs)))) : S1 X st k Γ := fun B G H σ E xt => by
  obtain ⟨G', g, E'⟩ := E.freeze hsl
  obtain ⟨vs, h1, _⟩ := E.get_l hsl
  rw [set_self h1] at E'
  exact h B G' H σ E' xt
/-! ### targets of several names -/
theorem s1_asg {tg : Expr} {vs : List Nat} {Γ' : List Sl} (he : EvD X e Γ x) (ht : TgD X tg vs x Γ Γ') (h : k.nx Γ') (hs : swapsWithSole [tg] e pos.line X.env = pure false := by rfl) (hw : swappedStores [tg] e X.env = pure none := by rfl) (h1 : (assignEach [tg] X.env).map (·.2) = [assign tg X.env] := by rfl) :
    S1 X (.Assign [tg] e pos) k Γ := fun B G H σ E _ => w_ps (ps_asg pe_w pg_w hs hw h1) (he B G H σ E _ fun v G' H' s d => ht B G' H' σ v (E.step s) d _ fun σ' E' _ => ⟨G', Γ', E', h⟩)
theorem s1_par {i j : Nat} {n m : Str} {px py pt : Pos} {kt k2 : Nat} {pt2 : Pos} (he : EvA X [a, b] Γ [x, y]) (h : k.nx ((Γ.set i (.d x)).set j (.d y))) (hc : X.calm = true) (hN : X.N.Nodup) (hi : X.N[i]? = some n) (hj : X.N[j]? = some m) (hij : i ≠ j) (hx : X.env.scope.names.lookup n = some .local) (hy : X.env.scope.names.lookup m = some .local)
    (hw : swappedStores [.Tuple [.Name n px, .Name m py] kt pt] (.Tuple [a, b] k2 pt2) X.env = pure (some [n, m]) := by rfl) (hs : swapsWithSole [.Tuple [.Name n px, .Name m py] kt pt] (.Tuple [a, b] k2 pt2) pos.line X.env = pure false := by rfl) :
    S1 X (.Assign [.Tuple [.Name n px, .Name m py] kt pt] (.Tuple [a, b] k2 pt2) pos) k Γ := fun B G H σ E _ => w_ps (ps_par hc hN hi hj hij hx hy pa_w hw hs) (he.2 B G H σ E _ fun vs G' H' s d => by
    cases d with
    | cons d1 d2 =>
      cases d2 with
      | cons d2 d3 =>
        cases d3
        exact ⟨_, _, rfl, G', _, ((E.step s).set_d d1 i).set_d d2 j, h⟩)
theorem s1_par3 {i j l : Nat} {n m o : Str} {px py pz pt : Pos} {kt k2 : Nat} {pt2 : Pos} (he : EvA X [a, b, c] Γ [x, y, z]) (h : k.nx (((Γ.set i (.d x)).set j (.d y)).set l (.d z))) (hc : X.calm = true) (hN : X.N.Nodup) (hi : X.N[i]? = some n) (hj : X.N[j]? = some m) (hl : X.N[l]? = some o) (hij : i ≠ j) (hil : i ≠ l) (hjl : j ≠ l)
    (hx : X.env.scope.names.lookup n = some .local) (hy : X.env.scope.names.lookup m = some .local) (hz : X.env.scope.names.lookup o = some .local)
    (hw : swappedStores [.Tuple [.Name n px, .Name m py, .Name o pz] kt pt] (.Tuple [a, b, c] k2 pt2) X.env = pure (some [n, m, o]) := by rfl) (hs : swapsWithSole [.Tuple [.Name n px, .Name m py, .Name o pz] kt pt] (.Tuple [a, b, c] k2 pt2) pos.line X.env = pure false := by rfl) :
    S1 X (.Assign [.Tuple [.Name n px, .Name m py, .Name o pz] kt pt] (.Tuple [a, b, c] k2 pt2) pos) k Γ := fun B G H σ E _ => w_ps (ps_par3 hc hN hi hj hl hij hil hjl hx hy hz pa_w hw hs) (he.2 B G H σ E _ fun vs G' H' s d => by
    cases d with
    | cons d1 d2 =>
      cases d2 with
      | cons d2 d3 =>
        cases d3 with
        | cons d3 d4 =>
          cases d4
          exact ⟨_, _, _, rfl, G', _, (((E.step s).set_d d1 i).set_d d2 j).set_d d3 l, h⟩)
/-! ### loops -/
/-- for over frozen things: I by the turn and the slots -/
theorem s1_for {tg iter : Expr} {body : List Stmt} (I : Nat → List Sl → Prop) (hc : X.calm = true) (src : Src X true tg iter Γ xs) (h0 : I 0 Γ)
    (hs : ∀ (i : Nat) (x : D) (Γ1 : List Sl), xs[i]? = some x → I i Γ1 → ∃ Γ2 vs, TgD X tg vs x Γ1 Γ2 ∧ Ss X body { k with nx := I (i + 1), ct := I (i + 1), bk := k.nx } Γ2) (hd : ∀ Γ1, I xs.length Γ1 → k.nx Γ1)
    (hfs : ∀ x, foldedSetIterable iter X.env x = pure x := by intro _; rfl) : S1 X (.For tg iter body [] pos) k Γ := fun B G H σ E xt => by
  obtain ⟨wi, hpi, hsrc⟩ := src
  obtain ⟨W, tk, po, hW⟩ := id xt
  refine w_ps (ps_for po hc hpi pg_w pss_w hfs) (hsrc B G H σ E _ fun J G1 H1 s1 k1 => ?_)
  obtain ⟨Gd, Y, wk, og, oy⟩ := k1
  let Pv : Nat → L2.St → Hp → Prop := fun i σ' H' => ∃ (G' : Hp) (Γ' : List Sl), Env X.K B G' H' σ' Γ' ∧ Same G1 G' ∧ I i Γ'
  refine for_it wk Pv ⟨G1, Γ, E.step s1, Same.refl _, h0⟩ (fun i σ' H' hi ⟨G', Γ', E', g, _⟩ => og H' ⟨g.trans E'.gh, fun z => by cases z⟩) ?_ ?_
  · rintro i v σ2 H2 H3 hi ⟨G2, Γ2, E2, g2, i2⟩ y
    obtain ⟨G3, x, hx, t3, dx⟩ := oy i G2 H2 v H3 hi g2 E2.gh ⟨g2.trans E2.gh, fun z => by cases z⟩ y
    obtain ⟨Γ3, vs3, hT, hB⟩ := hs i x Γ2 hx i2
    refine hT B G3 H3 σ2 v (E2.step t3) dx _ fun σ' E' _ => ?_
    obtain ⟨Eb, back⟩ := E'.rebase
    refine wSs_mono (hB _ G3 H3 σ' Eb ⟨W, tk, po, fun c σ G H Γ E x => hW c σ G H Γ (back E).1 x⟩) (fun σ4 H4 ⟨G4, Γ4, E4, q⟩ => ?_) (fun v4 H4 ⟨G4, σ4, s4, Γ4, E4, q⟩ => ?_) (fun σ4 H4 ⟨G4, Γ4, E4, q⟩ => ?_) (fun σ4 H4 ⟨G4, Γ4, E4, q⟩ => ?_)
    · exact ⟨G4, Γ4, (back E4).1, (g2.trans t3.g).trans (back E4).2, q⟩
    · exact ⟨G4, σ4, s4, Γ4, (back E4).1, q⟩
    · exact ⟨G4, Γ4, (back E4).1, q⟩
    · exact ⟨G4, Γ4, (back E4).1, (g2.trans t3.g).trans (back E4).2, q⟩
  · rintro σ2 H2 ⟨G2, Γ2, E2, g2, i2⟩
    exact ⟨G2, Γ2, E2, hd Γ2 i2⟩
/-- while, by a word that falls -/
theorem s1_while {body : List Stmt} (I : Nat → List Sl → Prop) (m0 : Nat) (h0 : I m0 Γ)
    (hs : ∀ (m : Nat) (Γ1 : List Sl), I m Γ1 → ∃ t, EvT X c Γ1 t ∧ (t = true → ∃ N : List Sl → Prop, (∀ Γ2, N Γ2 → ∃ m', m' < m ∧ I m' Γ2) ∧ Ss X body { k with nx := N, ct := N, bk := k.nx } Γ1) ∧ (t = false → k.nx Γ1)) : S1 X (.While c body [] pos) k Γ := fun B G H σ E xt => by
  obtain ⟨W, tk, po, hW⟩ := id xt
  refine w_ps (ps_while po pt_w pss_w) ⟨fun m σ H => ∃ G Γ, Env X.K B G H σ Γ ∧ I m Γ, ⟨m0, G, Γ, E, h0⟩, ?_⟩
  rintro m σ1 H1 ⟨G1, Γ1, E1, i1⟩
  obtain ⟨t, ht, h1, h2⟩ := hs m Γ1 i1
  refine ht B G1 H1 σ1 E1 _ fun G2 H2 s2 => ?_
  cases t with
  | true =>
    obtain ⟨N, hN, hb⟩ := h1 rfl
    refine iteT ⟨fun σ H => ∃ G Γ, Env X.K B G H σ Γ ∧ N Γ, fun σ' H' ⟨G', Γ', E', n⟩ => ?_, hb B G2 H2 σ1 (E1.step s2) xt⟩
    obtain ⟨m', hm, i'⟩ := hN Γ' n
    exact ⟨m', hm, G', Γ', E', i'⟩
  | false => exact iteF ⟨G2, Γ1, E1.step s2, h2 rfl⟩
/-! ### what may raise -/
/-- e yields x, or raises -/
def EvX (X : Cx) (e : Expr) (Γ : List Sl) (o : Oc) : Prop := ∀ (B : Bs) (G H : Hp) (σ : L2.St), Env X.K B G H σ Γ → ∀ (W : WX), L2N.Takes X W → ∀ Q : VK,
  (match o with
    | .ret x => ∀ v G' H', Stp G H G' H' → Dt X.K G' v x → Q v H'
    | .exc n => ∀ G' H', Stp G H G' H' → W (.ref (clsAt X.mg n)) none σ H') → wE X e σ H Q
theorem EvD.toX (h : EvD X e Γ x) : EvX X e Γ (.ret x) := fun B G H σ E W tk Q q => h B G H σ E Q q
theorem EvX.d (h : EvX X e Γ (.ret x)) : (∃ W, L2N.Takes X W) → EvD X e Γ x := fun ⟨W, tk⟩ B G H σ E Q q => h B G H σ E W tk Q q
theorem ev_callX {n : Str} {p : Pos} {kk j m : Nat} {F : List D → Oc → Prop} {o : Oc} (f : FG X.prog X.w X.K X.mg X.base kk n m (spD X.K X.mg F)) (hr : Room j X.A) (hkj : kk ≤ j) (hF : F xs o) (ha : EvA X (e :: es) Γ xs) (hg : Gl X n) (hdb : (n == ("__debug__" : Str)) = false := by decide)
    (he : starEach (e :: es) X.env = (false, eval e X.env) :: starEach es X.env := by rfl) (hpl : (backTo pos (starEach es X.env)).any (·.1) = false := by rfl) : EvX X (.Call (.Name n p) (e :: es) [] pos) Γ o := fun B G H σ E W tk Q q => by
  obtain ⟨a, fd, ps, hps, hm, hkp, hb, hf⟩ := f.ex
  refine w_pe (pe_callS hf (hr.mono hkj) hg hm hkp hb (fun σ => L2N.passAt tk σ) pa_w hdb he hpl) (ha.2 B G H σ E _ fun vs G1 H1 s1 k1 => ?_)
  refine ⟨G1, xs, o, s1.gh, s1.h.t E.tab, s1.nt E.nt, k1, hF, ?_⟩
  cases o with
  | ret x => exact fun v G2 H2 s2 d => q v G2 H2 (s1.trans s2) d
  | exc n => exact fun G2 H2 s2 => q G2 H2 (s1.trans s2)
theorem s1_setX {n : Str} {i : Nat} {p' : Pos} {o : Oc} (he : EvX X e Γ o) (h : match o with | .ret x => k.nx (Γ.set i (.d x)) | .exc c => k.ex c Γ) (hN : X.N.Nodup) (hi : X.N[i]? = some n) (hx : Loc X.env.scope n) (hf : X.fn n = true ∨ X.env.scope.names.lookup n = some .local) (hs : swapsWith e (some (.Name n p')) pos.line X.env = pure false := by rfl) :
    S1 X (.Assign [.Name n p'] e pos) k Γ := fun B G H σ E ⟨W, tk, po, hW⟩ => w_ps (ps_set hN hi hx pe_w hs hf) (he B G H σ E W tk _ (by
    cases o with
    | ret x => exact fun v G' H' s d => ⟨G', _, (E.step s).set_d d i, h⟩
    | exc c => exact fun G' H' s => hW c σ G' H' Γ (E.step s) h))
theorem s1_retX {o : Oc} (he : EvX X e Γ o) (h : match o with | .ret x => k.rt (.d x) Γ | .exc c => k.ex c Γ) : S1 X (.Return (some e) pos) k Γ := fun B G H σ E ⟨W, tk, po, hW⟩ =>
  w_ps (ps_ret pe_w) (he B G H σ E W tk _ (by
    cases o with
    | ret x => exact fun v G' H' s d => ⟨G', σ, .d x, Γ, (E.step s).push d, h⟩
    | exc c => exact fun G' H' s => hW c σ G' H' Γ (E.step s) h))
theorem s1_exprX {o : Oc} (he : EvX X e Γ o) (h : match o with | .ret _ => k.nx Γ | .exc c => k.ex c Γ) (hs : swapsWith e none pos.line X.env = pure false := by rfl) : S1 X (.Expr e pos) k Γ := fun B G H σ E ⟨W, tk, po, hW⟩ =>
  w_ps (ps_expr pe_w hs) (he B G H σ E W tk _ (by
    cases o with
    | ret x => exact fun v G' H' s d => ⟨G', Γ, E.step s, h⟩
    | exc c => exact fun G' H' s => hW c σ G' H' Γ (E.step s) h))
/-- an own exception class of the module, without an __init__ -/
structure XC (K : Frg) (mg : Str → Option Value) (n : Str) : Prop where
  gC : mg n = some (.ref (clsAt mg n))
  xC : PySem.W.excIn K (clsAt mg n) [.type "ValueError", .type "Exception", .type "BaseException", .type "object"] "ValueError.__new__" = true
  kC : PySem.W.keepIn K (.ref (clsAt mg n)) = true
  bC : PySem.W.subIn K (.ref (clsAt mg n)) (.type "BaseException") = some true
  tC : PySem.W.typeIn K (.ref (clsAt mg n)) = some (.type "type")
theorem s1_raise {n m : Str} {j : Nat} {p q : Pos} (hc : X.calm = true) (C : XC X.K X.mg n) (h : k.ex n Γ) (hg : Gl X n) (hdb : (n == ("__debug__" : Str)) = false := by decide) :
    S1 X (.Raise (some (.Call (.Name n p) [.Constant (.str m) j q] [] p2)) none pos) k Γ := fun B G H σ E ⟨W, tk, po, hW⟩ =>
  w_ps (L2N.ps_raise hc tk (L2N.pmk_own PySem.F.excBase_ValueError C.xC C.gC C.kC (raises_own C.bC C.tC) hg hdb)) (hW n σ G H Γ E h)
/-! ### a def -/
def knO (o : Oc) : Kn where
  nx := fun _ => o = .ret .none
  rt := fun s _ => ∃ x, s = .d x ∧ o = .ret x
  ex := fun c _ => o = .exc c
/-- the slots at the entry -/
def ent (n : Nat) (xs : List D) : List Sl := xs.map Sl.d ++ List.replicate (n - xs.length) .un
end
theorem sls_start {K : Frg} {G H : Hp} : ∀ {vs : List V} {xs : List D} (m : Nat), DtAll K G vs xs → SlsAt K G H (List.replicate (xs.length + m) []) (vs.map some ++ List.replicate m none) (xs.map Sl.d ++ List.replicate m .un)
  | [], [], 0, _ => True.intro
  | [], [], m + 1, h => by
    rw [show ([] : List D).length + (m + 1) = (([] : List D).length + m) + 1 from rfl]
    exact ⟨rfl, sls_start m h⟩
  | v :: vs, x :: xs, m, .cons h t => by
    rw [show (x :: xs).length + m = (xs.length + m) + 1 by rw [List.length_cons]; omega]
    exact ⟨⟨rfl, v, rfl, h⟩, sls_start m t⟩
theorem flat_nil {α : Type} : ∀ n : Nat, (List.replicate n ([] : List α)).flatten = []
  | 0 => rfl
  | n + 1 => by rw [List.replicate_succ, List.flatten_cons, flat_nil n]; rfl
theorem env_start {K : Frg} {G H : Hp} {N : List Str} {vs : List V} {xs : List D} (e : Same G H) (t : LamX.Tabs Tb.T H) (nt : NoT G) (d : DtAll K G vs xs) : Env K ⟨G, H, []⟩ G H (L2.start N vs) (ent N.length xs) := by
  refine ⟨e, Same.refl _, fun _ => .inl rfl, fun a o h _ _ => h, t, nt, List.replicate (xs.length + (N.length - xs.length)) [], ?_, ?_, fun a ha => ?_⟩
  · have k := sls_start (K := K) (G := G) (H := H) (N.length - xs.length) d
    unfold L2.start ent
    rw [d.len]
    exact k
  · rw [flat_nil]; exact List.nodup_nil
  · rw [flat_nil] at ha; cases ha
theorem Env.stp {K : Frg} {G H G' H' : Hp} {σ : L2.St} {Γ : List Sl} (E : Env K ⟨G, H, []⟩ G' H' σ Γ) : Stp G H G' H' := ⟨E.g0, ⟨fun a o h n => E.keep a o h (by simp) n, fun _ => E.tab⟩, E.gh, fun a => (E.new a).imp id fun h => h.elim id fun z => absurd z (by simp), fun _ => E.nt⟩
/-- THE RULE for a def over data -/
theorem fn_D {P : Program} {w : World} {K : Frg} {mg : Str → Option Value} {base : Heap} {x qual : Str} {params : Arguments} {body : List Stmt} {scope : Scope} {f : Addr} {fd : FuncData} {N ps : List Str} {k : Nat} {F : List D → Oc → Prop} (F0 : FunD K x qual params body scope [] [] f fd) (S : FnScope N ps scope)
    (hlen : ∀ xs o, F xs o → xs.length = ps.length)
    (hbody : ∀ (cdv : Value) (A : Around) (outer : List PySem.Env) (s : Shared) (H : Hp) (E : XK), Room k (A.deeper (envOfC qual scope s.heap.objs.size f cdv)) → ∀ (xs : List D) (o : Oc), F xs o → Ss (cxOf (L2N.CX P w) P w K mg base N qual scope f cdv A outer s H E) body (knO o) (ent N.length xs)) :
    FnOk P w K mg base (L2N.CX P w) (k + 1) f fd ps (spD K mg F) := by
  refine F0.ok S (fun vs H Q E ⟨G, xs, o, _, _, _, d, hF, _⟩ => by rw [d.len]; exact hlen xs o hF) (fun cdv A outer s H vs Q E hr ⟨G, xs, o, e, tb, nt, d, hF, q⟩ => ⟨wSs _ body, pss_w, ?_⟩)
  have En := env_start (N := N) e tb nt d
  refine wSs_mono (hbody cdv A outer s H E hr xs o hF ⟨G, H, []⟩ G H _ En ⟨fun cls d _ H' => E cls d H', L2N.takes_of rfl rfl rfl rfl, passes_of rfl, fun c σ G' H' Γ E' z => ?_⟩) (fun σ' H' ⟨G', Γ', E', z⟩ => ?_) (fun v' H' ⟨G', σ', s', Γ', E', y, z1, z2⟩ => ?_) (fun _ _ ⟨_, _, _, z⟩ => z) (fun _ _ ⟨_, _, _, z⟩ => z)
  · have z : o = .exc c := z
    subst z
    exact q G' H' E'.stp
  · have z : o = .ret .none := z
    subst z
    exact q .non G' H' E'.stp .non
  · subst z1 z2
    obtain ⟨v, hv, dv⟩ := E'.get_d (i := 0) rfl
    cases hv
    exact q v' G' H' E'.pop.stp dv
end Wl

end

section
/-! W6: within an except suite: the end of a list's walk, sum, a comprehension over a list, isinstance of the caught one. -/
namespace Wl
open PySem PySem.Spec PyProof.Rows L2 HotX L2H
variable [Tb]
section
variable {prog : Program} {w : World} {A : Around} {E : Value → Shared → Prop} {s : Shared}
theorem hot_kept {x1 : Addr} {h h' : Heap} (c : HotAt A x1 h) (k : ∀ o, h.get? x1 = some o → h'.get? x1 = some o) : HotAt A x1 h' := by
  obtain ⟨a, o, f, g, d, e⟩ := c
  exact ⟨a, o, f, k o g, d, e⟩
/-- the walk of a list ends while x1 is handled -/
theorem next_end_hot {it l x1 : Addr} {i : Nat} {items : Array Value} {Q : Option Value → Shared → Prop} (hot : HotAt A x1 s.heap) (hne : x1 ≠ it) (hit : s.heap.IsListIter it l i) (hl : s.heap.IsList l items) (hx : items[i]? = none)
    (hQ : ∀ h', Heap.ExtBut it s.heap h' → Q none { s with heap := h' }) : wpAny (model prog w) A (pyNext (.ref it)) Q E s := by
  obtain ⟨oi, gi, ci, di⟩ := id hit
  obtain ⟨ol, gl, cl, nl, dl⟩ := hl
  obtain ⟨hh, o1, f1, g1, d1, c1⟩ := hot
  unfold pyNext
  refine wpAny_bind (wpAny_attempt (wpAny_callSpecial?_slot (name := Str.ofString "__next__") hit.typeIs slot_listiter_next (wpAny_call_entry slot_listiter_next hit.typeIs entry_listiter_next ?_ (args_listiter_next _))))
  show wpAny _ _ (field (.ref it) 0 >>= _) _ _ s
  refine wpAny_bind (wpAny_field gi di (x := .ref l) rfl ?_)
  show wpAny _ _ (if (Value.ref l == Value.none) = true then _ else _) _ _ s
  rw [if_neg (show ¬ ((Value.ref l == Value.none) = true) from Bool.false_ne_true)]
  show wpAny _ _ (field (.ref it) 1 >>= _) _ _ s
  refine wpAny_bind (wpAny_field gi di (x := .int i 0) rfl ?_)
  show wpAny _ _ (seqItems? (.ref l) >>= _) _ _ s
  refine wpAny_bind (wpAny_seqItems gl dl ?_)
  simp only [Int.toNat_natCast, hx]
  refine wpAny_bind (wpAny_rule (wpAny_bind (wpAny_setField gi di (by simp) ?_)))
  show wpAny _ _ (newExc (.type "StopIteration") [] >>= _) _ _ _
  refine wpAny_bind ?_
  simp only [newExc, newTuple]
  refine wpAny_bind (wpAny_newObj_type ?_ (by size_fits))
  refine wpAny_bind (m := firstArgMember _ _) (wpAny_of_eq (a := Value.none) (by first | rfl | (simp only [firstArgMember]; rfl)) ?_)
  refine wpAny_newObj_type ?_ (by size_fits)
  have g2 := fun (f : Obj → Obj) => (Heap.get?_update_other s.heap f (Ne.symm hne)).trans g1
  refine raiseNew_hot ⟨hh, o1, f1, Heap.get?_push_of_some _ (Heap.get?_push_of_some _ (g2 _)), d1, c1⟩ (Nat.ne_of_lt (Heap.lt_size (Heap.get?_push_of_some _ (g2 _)))) (Heap.get?_push_size _ rfl) rfl (by first | (simp; done) | (simp; omega) | (simp only [Array.size_append]; simp; omega)) ?_
  refine wpAny_bind (wpAny_isInstance (T := "StopIteration") (b := true) ⟨_, Heap.get?_update_self _ (Heap.get?_push_size _ rfl) rfl, rfl⟩ isSubtype_stop ?_)
  refine wpAny_pure (hQ _ fun b o hb e => ?_)
  have e2 := fun (f : Obj → Obj) => (Heap.get?_update_other s.heap f (Ne.symm hb)).trans e
  rw [Heap.get?_update_other _ _ (Nat.ne_of_gt (Heap.lt_size (Heap.get?_push_of_some _ (e2 _))))]
  exact Heap.get?_push_of_some _ (Heap.get?_push_of_some _ (e2 _))
theorem walks_hot {x1 I ax : Addr} {items : Array Value} (nx : x1 ≠ I) (na : ax ≠ I) :
    Walks prog w A I [I, ax, x1] [I] items.size (fun i v => items[i]? = some v) (fun i h => (h.IsListIter I ax i ∧ h.IsList ax items) ∧ HotAt A x1 h) where
  sub := fun b hb => by simp at hb; simp [hb]
  frame := fun i h h' st k => ⟨⟨st.1.1.at fun o e => k I (by simp) o e, st.1.2.at fun o e => k ax (by simp) o e⟩, hot_kept st.2 fun o e => k x1 (by simp) o e⟩
  item := fun i s Q E hi st q => by
    refine wpAny_pyNext_list_item st.1.1 st.1.2 (x := items[i]) (by simp [hi]) fun h' t' sb => ?_
    exact q _ h' s.toks (by simp [hi]) ⟨⟨t', st.1.2.extBut sb.extBut na⟩, hot_kept st.2 fun o e => sb.extBut x1 o nx e⟩ fun b o hb e => sb.extBut b o (fun z => hb (by simp [z])) e
  done := fun s Q E st q => next_end_hot st.2 nx st.1.1 st.1.2 (by simp) fun h' he => q h' s.toks fun b o hb e => he b o (fun z => hb (by simp [z])) e
  self := fun _ _ _ _ st q => wpAny_pyIter_listiter st.1.1 q
theorem sum_hot {l x1 : Addr} {its : List Value} {ns : List Int} {Q : Value → Shared → Prop} (hot : HotAt A x1 s.heap) (hl : s.heap.IsList l its.toArray) (hi : IntsAre its ns)
    (h : ∀ h' tk t', (∀ b o, s.heap.get? b = some o → h'.get? b = some o) → Q (.int ns.sum t') { s with heap := h', toks := tk }) : wpAny (model prog w) A (call (.builtin "sum") [.ref l]) Q E s := by
  obtain ⟨xs, e⟩ := hi.allInts.items
  have hn : numsOf (intItems xs).toList = ns := by rw [← e]; exact hi.numsOf
  rw [nums_intItems] at hn
  rw [e] at hl
  have lx : x1 < s.heap.objs.size := by obtain ⟨_, o, _, g, _⟩ := id hot; exact Heap.lt_size g
  refine call_sum_walkG (iter_intList hl fun s2 e2 st hfp hlI => ?_)
  subst e2
  refine ⟨_, _, _, _, _, _, numAt xs, rfl, walks_hot (A := A.in1) (x1 := x1) (Nat.ne_of_lt lx) hlI, ⟨st, hot_kept (h := s.heap) hot fun o g => Heap.get?_push_of_some _ g⟩, fun b hb => ?_, (fun _ _ => intItems_at), fun h' tk t' hk => ?_⟩
  · rcases List.mem_cons.mp hb with rfl | hb
    · exact hfp _ (by simp)
    · rcases List.mem_cons.mp hb with rfl | hb
      · exact hfp _ (by simp)
      · rw [show b = x1 by simpa using hb]
        show x1 < (s.heap.push _).objs.size
        rw [Heap.size_push]
        exact Nat.lt_succ_of_lt lx
  · have e3 : preSum (numAt xs) (intItems xs).size = ns.sum := by rw [show (intItems xs).size = xs.size by simp [intItems], preSum_eq, List.take_of_length_le (by simp), hn]
    rw [e3]
    exact h h' tk t' (old_kept hk)
end
section
variable {X : Cx}
theorem cr_sumHot (hc : HotC X) : CallR X (.builtin "sum") (rSum X.K) := by
  intro pins s σ H vs us Q I r h
  obtain ⟨a, ns, rfl, hs, q⟩ := h
  obtain ⟨its, rv, hl, _⟩ := I.list hs
  obtain ⟨x1, hot⟩ := hc.at I
  rw [Vals.ref1 r]
  exact sum_hot hot hl.isList rv.ints fun h' tk t' hk => ⟨.int _, H, I.kept hk, ⟨_, rfl⟩, q⟩
theorem cal_sumH {ns : List Int} (hc : HotC X) : CalD X (.builtin "sum") [.list (ns.map .int)] (.int ns.sum) := ⟨_, cr_sumHot hc, fun G H vs Q e h q => by
  obtain ⟨v, rfl, h1⟩ := wk1 h
  obtain ⟨p, vs, rfl, h2, h3⟩ := h1.list e
  rw [h3.ints] at h2
  exact ⟨p, ns, rfl, h2, q _ G H (.refl e) (.int _)⟩⟩
/-- the core of a comprehension over a list, within a suite -/
theorem lcH_core {pins : List (Addr × Obj)} {s : Shared} {σ : L2.St} {H : Hp} {Q : VK} {elt tg iter : Expr} {ifs : List Expr} {scope : Scope} {own : List (Str × Nat)} {pos pos' : Pos} {te0 : TE} {g : TG} {tt : TT} {te : TE} {Qf : Value → Shared → Prop}
    (hot : HotC X) (nd : X.N.Nodup) (I : Inv X pins σ H s) (hi : PE X iter te0) (ok : BlkOk X.N X.env.scope scope own)
    (pg : ∀ (s : Shared) (H : Hp) (C : Addr) (cl : List (Str × Addr)) (fp : List Addr), PG (X.blk s H scope (compEnvC scope cl C X.env) fp) tg g) (pt : ∀ (s : Shared) (H : Hp) (C : Addr) (cl : List (Str × Addr)) (fp : List Addr), PTs (X.blk s H scope (compEnvC scope cl C X.env) fp) ifs tt)
    (pe : ∀ (s : Shared) (H : Hp) (C : Addr) (cl : List (Str × Addr)) (fp : List Addr), PE (X.blk s H scope (compEnvC scope cl C X.env) fp) elt te) (hs : ∀ x, foldedSetIterable iter X.env x = pure x)
    (h : tLc (iList X.K te0) g tt te (own.map (·.2)) σ H Q)
    (fin : ∀ D C s' m H', Inv X pins σ H' s' → Q (.ref D) H' → s'.heap.Ns C m → FpOk X pins H' C → compPost (model X.prog X.w) X.A X.xe none Qf (.ref D) C (.ok .next) s') :
    wpAny (model X.prog X.w) X.A (comprehension (.ListComp elt [⟨tg, iter, ifs, 0⟩] scope pos) scope X.env pos' (newList []) false (eval iter X.env) none) Qf X.xe s := by
  obtain ⟨px, ⟨hh, vx, dx, cx⟩, hpx⟩ := hot
  have clo := closure_ok (scope := scope) (env := X.env) fun y hy e => by
    rcases ok.free y hy e with k | k
    · exact I.ok.has _ (.inl k)
    · exact I.ok.has _ (.inr k)
  refine wpAny_comprehension_free (use := none) rfl hs clo ok.kind (fun y hy e => (ok.uniq y hy).trans (congrArg some e)) ?_
  refine thn (hi.run pins s σ H _ I h) fun xv s1 ⟨x, H1, I1, r1, a, ex, ⟨xs0, hq0⟩, q⟩ => ?_
  subst ex
  cases r1
  obtain ⟨its0, _, p0, _⟩ := I1.list hq0
  refine wpAny_pyIter_list p0.isList ?_
  generalize hit : s1.heap.objs.size = it
  have I2 : Inv X pins σ H1 { s1 with heap := s1.heap.push { cls := .type "list_iterator", data := .fields #[.ref a, .int 0 0] } } := I1.kept (t' := s1.toks) fun b o e => Heap.get?_push_of_some _ e
  have st2 : (s1.heap.push { cls := .type "list_iterator", data := .fields #[.ref a, .int 0 0] }).IsListIter it a 0 := ⟨_, by rw [← hit]; exact Heap.get?_push_size _ rfl, rfl, rfl⟩
  have f2 : FpOk X pins H1 it := I1.fpOk (Nat.le_of_eq hit) (I1.hok.fresh (Nat.le_of_eq hit))
  generalize hs2 : ({ s1 with heap := s1.heap.push { cls := .type "list_iterator", data := .fields #[.ref a, .int 0 0] } } : Shared) = s2 at I2
  have hp2 : s2.heap = s1.heap.push { cls := .type "list_iterator", data := .fields #[.ref a, .int 0 0] } := by rw [← hs2]
  rw [← hp2] at st2
  refine wpAny_newObj_type (newEnv_comp ?_) (by show 0 ≤ sizeLine; decide)
  generalize hD : s2.heap.objs.size = Dl
  have nD : H1 Dl = none := I2.hok.fresh (Nat.le_of_eq hD)
  obtain ⟨W, ⟨m0, w0⟩, turn⟩ := q Dl nD
  generalize hs3 : ({ s2 with heap := s2.heap.push { cls := .type "list", data := .seq ([] : List Value).toArray } } : Shared) = s3
  have hp3 : s3.heap = s2.heap.push { cls := .type "list", data := .seq ([] : List Value).toArray } := by rw [← hs3]
  have I3 : Inv X pins σ (upd H1 Dl (.lst [])) s3 := by
    rw [← hs3]
    exact I2.laid (t' := s2.toks) (fun b o e => Heap.get?_push_of_some _ e) (Nat.le_of_eq hD) ⟨Nat.zero_le _, [], 0, .nil, hD ▸ Heap.get?_push_size _ rfl⟩
  have ilt : it < s2.heap.objs.size := by obtain ⟨o, e, _⟩ := id st2; exact Heap.lt_size e
  have f3 : ∀ b ∈ [it], FpOk X pins (upd H1 Dl (.lst [])) b ∧ b < s3.heap.objs.size := fun b hb => by
    have e : b = it := by simpa using hb
    subst e
    refine ⟨⟨?_, f2.2⟩, by rw [hp3, Heap.size_push]; exact Nat.lt_succ_of_lt ilt⟩
    exact (upd_ne (hD ▸ Nat.ne_of_lt ilt)).trans f2.1
  have st3 : s3.heap.IsListIter it a 0 := st2.at fun o e => by rw [hp3]; exact Heap.get?_push_of_some _ e
  have I4 := block_start I3 ok nd f3
  have pg := pg s3 (upd H1 Dl (.lst [])) s3.heap.objs.size (cellsFrom (s3.heap.objs.size + 1) scope.names (cloFrom X.env.cells scope.names [])) [it]
  have pt := pt s3 (upd H1 Dl (.lst [])) s3.heap.objs.size (cellsFrom (s3.heap.objs.size + 1) scope.names (cloFrom X.env.cells scope.names [])) [it]
  have pe := pe s3 (upd H1 Dl (.lst [])) s3.heap.objs.size (cellsFrom (s3.heap.objs.size + 1) scope.names (cloFrom X.env.cells scope.names [])) [it]
  show codeAny _ _ (.compStart (.ListComp elt [⟨tg, iter, ifs, 0⟩] scope pos) 0 (.ref it) (.ref Dl) (compEnvC scope (cellsFrom (s3.heap.objs.size + 1) scope.names (cloFrom X.env.cells scope.names [])) s3.heap.objs.size X.env)) (compPost (model X.prog X.w) X.A X.xe none Qf (.ref Dl) s3.heap.objs.size) { s3 with heap := pushCells (s3.heap.push { cls := .type "dict", data := .dict #[] }) scope.names }
  generalize hce : compEnvC scope (cellsFrom (s3.heap.objs.size + 1) scope.names (cloFrom X.env.cells scope.names [])) s3.heap.objs.size X.env = ce at I4 pg pt pe ⊢
  have cL : ce.locals = s3.heap.objs.size := by subst hce; rfl
  generalize hH3 : upd H1 Dl (.lst []) = H3 at I3 I4 pg pt pe w0 f3
  -- the caught one is kept
  obtain ⟨gx, nx, _, nfx, _⟩ := I3.pin px (List.mem_append_left _ hpx)
  have nstk : px.1 ∉ frs X.stack := fun z => by
    rcases List.mem_cons.mp (I3.stkSub _ z) with e | e
    · exact (I3.pin px (List.mem_append_left _ hpx)).2.2.1 e
    · exact nfx e
  have npx : px.1 ≠ it := (f3 it (by simp)).1.2.2.2.2.2 px (List.mem_append_left _ hpx)
  have hotB : ∀ {σ' : L2.St} {H' : Hp} {s' : Shared} {pins' : List (Addr × Obj)}, Inv (X.blk s3 H3 scope ce [it]) pins' σ' H' s' → HotAt X.A px.1 s'.heap := fun {σ' H' s' pins'} J => ⟨hh, px.2, vx, J.base.keep px.1 px.2 gx nx nstk (fun z => npx (by simpa using z)), dx, cx⟩
  generalize hs4 : ({ s3 with heap := pushCells (s3.heap.push { cls := .type "dict", data := .dict #[] }) scope.names } : Shared) = s4 at I4 ⊢
  have st4 : s4.heap.IsListIter it a 0 := st3.at fun o e => by rw [← hs4]; exact pushCells_keeps _ _ _ _ (Heap.get?_push_of_some _ e)
  have stat : ∀ {σ' : L2.St} {H' : Hp} {s' : Shared}, Inv (X.blk s3 H3 scope ce [it]) [] σ' H' s' → H' it = none → FpOk (X.blk s3 H3 scope ce [it]) [] H' it := fun {σ' H' s'} J n =>
    ⟨n, (J.ok.exf it (by simp)).1, J.ok.exfs it (by simp), .inl (by simp), fun x c e => (J.ok.exf it (by simp)).2 x c e, fun p hp => absurd (show p ∈ ([] : List (Addr × Obj)) ++ [] from hp) (by simp)⟩
  have loop : codeAny (model X.prog X.w) X.A (.compLoop (.ListComp elt [⟨tg, iter, ifs, 0⟩] scope pos) 0 (.ref it) (.ref Dl) ce) (compPost (model X.prog X.w) X.A X.xe none Qf (.ref Dl) s3.heap.objs.size) s4 := by
    refine compLoop_any (fun n s' => ∃ i H', Inv (X.blk s3 H3 scope ce [it]) [] (wipe σ (own.map (·.2))) H' s' ∧ s'.heap.IsListIter it a i ∧ H' it = none ∧ W i n H') ?_ m0 ⟨0, H3, I4, st4, (f3 it (by simp)).1.1, w0⟩
    rintro n s5 ⟨i, H5, I5, st5, n5, w5⟩
    obtain ⟨b0, b1, b2, b3, b4, b5⟩ := stat I5 n5
    rcases turn i n H5 w5 with ⟨⟨ys, hy, hlen⟩, qq⟩ | ⟨⟨ys, y, hy, hyi⟩, Nx, hNx, step⟩
    · obtain ⟨its, rv, p5, hz⟩ := I5.list hy
      have hl := rv.length
      refine next_end_hot (hotB I5) npx st5 p5.isList (by simp; omega) fun h' eb => ?_
      have I6 : Inv (X.blk s3 H3 scope ce [it]) [] (wipe σ (own.map (·.2))) H5 { s5 with heap := h' } := I5.turned (t' := s5.toks) (fun b o hb e => eb b o hb e) b0 b1 b3 b4 b5
      have I7 : Inv X pins σ H5 { s5 with heap := h' } := I3.call' (ch := [it]) I6.os I6.base I6.hok I6.bare fun b hb => ⟨(f3 b hb).1.2.2.2.1, (f3 b hb).1.2.1, (f3 b hb).1.2.2.2.2.1, (f3 b hb).1.2.2.2.2.2⟩
      have nC : H5 s3.heap.objs.size = none := cL ▸ (show H5 ce.locals = none from I6.free)
      obtain ⟨m, hn, _⟩ := I6.loc
      exact fin Dl s3.heap.objs.size _ m H5 I7 qq (cL ▸ (show Heap.Ns _ ce.locals m from hn)) (I3.fpOk (Nat.le_refl _) nC)
    · obtain ⟨its, rv, p5, hz⟩ := I5.list hy
      obtain ⟨u, hu, ru⟩ := rv.get hyi
      refine wpAny_pyNext_list_item st5 p5.isList (x := u) (by simpa using hu) fun h' st6 sb => ?_
      have I6 : Inv (X.blk s3 H3 scope ce [it]) [] (wipe σ (own.map (·.2))) H5 { s5 with heap := h' } := I5.turned (t' := s5.toks) (fun b o hb e => (sb.2 b hb).trans e) b0 b1 b3 b4 b5
      obtain ⟨oi, gi, ci, di⟩ := id st6
      refine go_of (s := { s5 with heap := h' }) gi ci di (by decide) ?_
      have I6' := I6.pinned (fp := [it]) (fun b hb => by rw [show b = it by simpa using hb]; exact stat I6 n5) fun b hb => by
        rw [show b = it by simpa using hb]
        exact ⟨oi, gi, fun v z => by rw [di] at z; cases z⟩
      have yl : (Itl X.K a).yld i H5 y H5 := ⟨rfl, fun zs hz2 => by rw [I5.list_inj hz2 hy]; exact hyi⟩
      refine thnF (pg.run _ _ _ H5 y u _ I6' ru (step y H5 yl)) fun _ s8 ⟨σ8, H8, I8, hw8, q8⟩ => ?_
      refine thnF (pt.run _ s8 σ8 H8 _ I8 q8) fun b s9 ⟨H9, I9, q9⟩ => ?_
      have again : ∀ {s' : Shared} {H' : Hp}, Inv (X.blk s3 H3 scope ce [it]) ([] ++ pinsAt [it] h') σ8 H' s' → Nx H' → ∃ m, m < n ∧ ∃ i H', Inv (X.blk s3 H3 scope ce [it]) [] (wipe σ (own.map (·.2))) H' s' ∧ s'.heap.IsListIter it a i ∧ H' it = none ∧ W i m H' := fun {s' H'} J nx => by
        obtain ⟨m', hm, w'⟩ := hNx H' nx
        have pin := J.pin (it, oi) (List.mem_append_right _ (List.mem_append_right _ (mem_pinsAt (by simp) gi)))
        have hl : (wipe σ (own.map (·.2))).length = σ8.length := by rw [← hw8, wipe_length]
        refine ⟨m', hm, i + 1, H', (J.unpinned (pins := [])).weak hl (fun j v e => ?_), ⟨oi, pin.1, ci, di⟩, pin.2.1, w'⟩
        rw [← hw8] at e
        exact (wipe_some e).1
      cases b with
      | false =>
        simp only [Bool.false_eq_true, if_false] at q9 ⊢
        exact again I9 q9
      | true =>
        simp only [if_true] at q9 ⊢
        refine thnF (pe.run _ s9 σ8 H9 _ I9 q9) fun z s10 ⟨yv, H10, I10, r10, acc, hD10, hz10, nx10⟩ => ?_
        exact app_ok (X := X.blk s3 H3 scope ce [it]) I10 hD10 hz10 r10 fun s11 I11 => again I11 nx10
  exact codeAny_compStart_list loop (wpAny_pyIter_listiter st4 loop)
/-- .. as a value -/
theorem ev_lcH {Γ : List Sl} {tg iter : Expr} {pos : Pos} {α : Type} {own : List (Str × Nat)} {scope : Scope} {elt : Expr} {ifs : List Expr} {ys : List α} {enc : α → D} {p : α → Bool} {f : α → D} (hot : HotC X) (nd : X.N.Nodup) (src : EvD X iter Γ (.list (ys.map enc))) (ok : BlkOk X.N X.env.scope scope own) (len : ys.length ≤ 100000) (tn : TurnD X Γ own scope tg elt ifs ys enc p f)
    (hs : ∀ x, foldedSetIterable iter X.env x = pure x := by intro _; rfl) : EvD X (.ListComp elt [⟨tg, iter, ifs, 0⟩] scope pos) Γ (.list ((ys.filter p).map f)) := fun B G H σ E Q q => by
  have h : tLc (iList X.K (wE X iter)) (tgB X scope tg) (tsB X scope ifs) (teB X scope elt) (own.map (·.2)) σ H Q := lc_tell (fun R r => src B G H σ E _ fun v G1 H1 s1 k1 => by
    obtain ⟨p, vs, rfl, hp, hd⟩ := k1.list
    refine ⟨p, rfl, ⟨vs, s1.gh.seq hp⟩, r _ G1 H1 s1 ⟨_, _, by rw [← hd.len]; exact walk_list, fun H2 e => e.1.seq hp, fun i G2 H2 v H3 hi e1 e2 e3 y => ?_⟩⟩
    obtain ⟨rfl, hv⟩ := y
    obtain ⟨x, e4, d⟩ := hd.get' hv
    exact ⟨G2, x, e4, .refl e2, dt_mono e1 _ _ d⟩) len tn E fun d vs G' H' t hH hG hd da => by
    refine q _ (upd G' d (.lst vs)) _ ⟨t.g.trans (same_upd hG), t.h, fun a o e => ?_, fun a => ?_, fun n => (t.nt n).upd fun ps z => by cases z⟩ (.lst (.of upd_same) (dp_lay hG da))
    · by_cases z : a = d
      · subst z; rw [upd_same] at e; rw [hd]; exact e
      · rw [upd_ne z] at e; exact t.gh _ _ e
    · by_cases z : a = d
      · subst z; exact .inr hH
      · rw [upd_ne z]; exact t.new a
  intro pins s I
  rw [eval_ListComp]
  refine lcH_core hot nd I pe_w ok (fun s H C cl fp => ⟨fun pins s' σ H' v u Q I r z => z s H C cl fp pins s' u I r⟩) (fun s H C cl fp => ⟨fun pins s' σ H' Q I z => z s H C cl fp pins s' I⟩) (fun s H C cl fp => ⟨fun pins s' σ H' Q I z => z s H C cl fp pins s' I⟩) hs h fun Dl C s' m H' I' q hn f => ⟨m, hn, fun h'' sb => ?_⟩
  obtain ⟨f0, f1, f2, f3, f4, f5⟩ := f
  exact ⟨.ref Dl, H', I'.turned (t' := s'.toks) (fun b o hb e => (sb.2 b hb).trans e) f0 f1 f3 f4 f5, rfl, q⟩
end
end Wl

end

section
/-! W7: a lambda handed to a def that tells its value or the class of its refusal. -/
namespace Wl
open PySem PySem.Spec PyProof.Rows L2 HotX L2H LamX
variable [Tb]
/-- the context of the lambda's body; what leaves it bears no context of its own -/
def lamN (X : Cx) (A : Around) (outer : List PySem.Env) (s : Shared) (H : Hp) (E : XK) (scope : Scope) (f c' : Addr) : Cx := { lamCx X A outer s H E scope f c' with
  xe := fun e s' => wpAny (model X.prog X.w) (A.deeper (lamEnv X scope s.heap.objs.size f c')) (leaving (lamEnv X scope s.heap.objs.size f c') e) (fun _ s2 => L2N.CX X.prog X.w outer H s E e s2) (fun e2 s2 => L2N.CX X.prog X.w outer H s E e2 s2) s' }
/-- a thing of which nothing is asked (the caught exception) -/
def xR (p : Addr) : Res where
  root := p
  at_ := fun K G H fp => fp = []
  mono := fun h _ _ => h
  live := fun {K G H fp} h a ha => by
    have h : fp = [] := h
    rw [h] at ha; cases ha
/-! ### the def that gets the exception, called in the suite -/
/-- such a def's promise: p is the exception that is handled, of the class named n; it tells a text -/
structure FnZ (P : Program) (w : World) (K : Frg) (mg : Str → Option Value) (base : Heap) (k : Nat) (f : Addr) (fd : FuncData) (x : Str) (clf : Str → Str) (ok : Str → Prop) : Prop where
  run : ∀ (A : Around) (outer : List PySem.Env) (s : Shared) (H G : Hp) (p : Addr × Obj) (n : Str) (Q : VK) (E : XK), RoomH k A → Hot1 A p → PinOk outer H s p → Env0 P w K mg base A outer s H → BindsTo s fd ⟨[.ref p.1], []⟩ [(x, .ref p.1)] → ok n → Zc (.ref (clsAt mg n)) none p.2 →
    Same G H → LamX.Tabs Tb.T H → NoT G → (∀ v G' H', Stp G H G' H' → Dt K G' v (.str (clf n)) → Q v H') → codeAny (model P w) A (.call (.ref f) ⟨[.ref p.1], []⟩) (CR (L2N.CX P w) outer P w H s Q E) s
theorem env_startX {K : Frg} {G H : Hp} {N : List Str} {p : Addr} (e : Same G H) (t : LamX.Tabs Tb.T H) (nt : NoT G) : Env K ⟨G, H, []⟩ G H (L2.start N [.ref p]) (Sl.r (xR p) :: List.replicate (N.length - 1) .un) := by
  refine ⟨e, Same.refl _, fun _ => .inl rfl, fun a o h _ _ => h, t, nt, List.replicate ((N.length - 1) + 1) [], ?_, ?_, fun a ha => ?_⟩
  · exact ⟨⟨rfl, rfl⟩, sls_start (vs := []) (xs := []) (K := K) (G := G) (H := H) (N.length - 1) .nil |> fun k => by simpa using k⟩
  · rw [flat_nil]; exact List.nodup_nil
  · rw [flat_nil] at ha; cases ha
theorem fn_Z {P : Program} {w : World} {K : Frg} {mg : Str → Option Value} {base : Heap} {nm x : Str} {params : Arguments} {body : List Stmt} {scope : Scope} {f : Addr} {fd : FuncData} {N : List Str} {k : Nat} {clf : Str → Str} {ok : Str → Prop} (F0 : FunD K nm nm params body scope [] [] f fd) (S : FnScope N [x] scope)
    (hbody : ∀ (cdv : Value) (A : Around) (outer : List PySem.Env) (s : Shared) (H : Hp) (E : XK) (p : Addr × Obj) (n : Str), Hot1 A p → RoomH k (A.deeper (envOfC nm scope s.heap.objs.size f cdv)) → ok n → Zc (.ref (clsAt mg n)) none p.2 →
      Ss (cxH (L2N.CX P w) P w K mg base N nm scope f cdv A outer s H E p) body (knO (.ret (.str (clf n)))) (Sl.r (xR p.1) :: List.replicate (N.length - 1) .un)) :
    FnZ P w K mg base (k + 1) f fd x clf ok := by
  obtain ⟨oc, od, dV, kV, doc, pm, an, cdv, ct, osl, rfl, lk, hcd, _, _⟩ := F0.ex
  refine ⟨fun A outer s H G p n Q E hr hot hpin e0 hb hn hz e tb nt q => ?_⟩
  have KX : K.In s.heap := e0.mod.kin.keeps (fun b o z => (e0.bs b o z).1)
  have nl : s.heap.NoLimit := e0.mod.nolimit.keeps (fun b o z => (e0.bs b o z).1)
  have kd : ∀ y ∈ [x].zip [Value.ref p.1], scope.names.lookup y.1 = some .local ∨ (scope.names.lookup y.1 = some .cell ∧ ((cellsFrom (s.heap.objs.size + 1) scope.names []).lookup y.1).isSome = true) := fun y hy => by
    rcases S.par y.1 (List.of_mem_zip (show (y.1, y.2) ∈ _ from hy)).1 with k | k
    · exact .inl k
    · exact .inr ⟨k, PySem.W.cellsFrom_some _ _ _ (.inl k)⟩
  refine codeAny_call_function hr.depth (KX _ _ lk) rfl S.co S.gen rfl (PySem.W.codeRec_of KX hcd) (hb _ _ _ _ (wpAny_newFunctionEnv_cells S.kind kd fun env he s1 z => ?_))
  subst he
  refine ⟨nl.keeps z.toInCall.keep, codeAny_func ?_⟩
  have I := inv_startH (CX := L2N.CX P w) (E := E) (cd := cdv) (vs := [.ref p.1]) (us := [.ref p.1]) S hpin e0 rfl (.cons rfl .nil) z
  have Bd := hbody cdv A outer s H E p n hot (hr.deeper _) hn hz ⟨G, H, []⟩ G H _ (env_startX (N := N) (p := p.1) e tb nt) ⟨fun cls d _ H' => E cls d H', L2N.takes_of rfl rfl rfl rfl, passes_of rfl, fun c σ G' H' Γ E' y => by cases (show Oc.ret _ = Oc.exc c from y)⟩
  refine wpAny_mono (Bd [] s1 I) (fun fl s' hs => ?_) fun e2 s' hs => hs
  cases fl with
  | ret u =>
    obtain ⟨v, σ', H', J, rv, G', σ2, s2, Γ', E', y, y1, y2⟩ := hs
    subst y1
    cases y2
    obtain ⟨v2, hv, dv⟩ := E'.get_d (i := 0) rfl
    cases hv
    exact ⟨v, H', J.os, J.bare, J.base, J.hok, rv, q v G' H' E'.pop.stp dv⟩
  | next =>
    obtain ⟨σ', H', J, G', Γ', E', y⟩ := hs
    cases (show Oc.ret (.str (clf n)) = Oc.ret .none from y)
  | brk =>
    obtain ⟨_, _, _, _, _, _, y⟩ := hs
    exact False.elim y
  | cont =>
    obtain ⟨_, _, _, _, _, _, y⟩ := hs
    exact False.elim y
/-! ### the lambda called -/
section
variable {X : Cx} {pins : List (Addr × Obj)} {σ : L2.St} {G H H1 : Hp} {s s' : Shared} {B : Bs} {Γ : List Sl}
/-- a(), where a holds the lambda; Y is the context of the def that got it, entered at s' -/
theorem act_N {CXg : CXT} {Eg E : XK} {Ng : List Str} {qg a : Str} {sg scope : Scope} {g f c' : Addr} {cdg pm ctv : Value} {params : Arguments} {body : Expr} {k : Nat} {pn : List (Addr × Obj)} {xe : Value → Shared → Prop} {W : WX} {o : Oc} {p1 p2 : Pos}
    (I : Inv X pins σ H1 s') (Ev : Env X.K B G H1 σ Γ) (L : LamS X.env.scope scope) (hf : s'.heap.get? f = some (PySem.W.kla_obj "<lambda>" (X.env.qual ++ "<lambda>") params body scope (cloFrom X.env.cells scope.names []) pm c' ctv)) (hfn : H1 f = none) (hfr : f ∉ frs X.stack) (hco : H1 c' = some (CodeO c' (X.env.qual ++ "<lambda>")))
    (hbind : bindArgs (PySem.W.kla_fn "<lambda>" (X.env.qual ++ "<lambda>") params body scope (cloFrom X.env.cells scope.names []) pm (.ref c') ctv) ⟨[], []⟩ = pure [])
    (tk : L2N.Takes ((cxOf CXg X.prog X.w X.K X.mg X.base Ng qg sg g cdg X.A X.stack s' H1 Eg).tr pn xe) W) (hW : ∀ cls d σ' H', E cls d H' → W cls d σ' H') (hr : Room (k + 1) (X.A.deeper (envOfC qg sg s'.heap.objs.size g cdg)))
    (hbody : ∀ (A : Around) (outer : List PySem.Env) (s : Shared) (H : Hp) (E : XK), Room k (A.deeper (lamEnv X scope s.heap.objs.size f c')) → EvX (lamN X A outer s H E scope f c') body Γ o)
    (hN : Ng[0]? = some a) (hv : Vis sg a) (hd : (a == ("__debug__" : Str)) = false) (hcd : (a == ("__classdict__" : Str)) = false) :
    PE ((cxOf CXg X.prog X.w X.K X.mg X.base Ng qg sg g cdg X.A X.stack s' H1 Eg).tr pn xe) (.Call (.Name a p1) [] [] p2) (fun σZ HZ Q => σZ[0]? = some (some (.ref f)) ∧ HZ = H1 ∧ (match o with
      | .ret x => ∀ v G' H', Stp G H1 G' H' → Dt X.K G' v x → Q v H'
      | .exc n => ∀ G' H', Stp G H1 G' H' → E (.ref (clsAt X.mg n)) none H')) := by
  refine ⟨fun pinsZ sZ σZ HZ Q IZ ⟨hs, eHZ, hq⟩ => ?_⟩
  subst eHZ
  refine wpAny_Call_Name_kw (thn ((pe_var (pos := p1) (i := 0) hN hv hd hcd).run pinsZ sZ σZ HZ (fun v H1 => v = .ref f ∧ H1 = HZ) IZ ⟨.ref f, hs, rfl, rfl⟩) fun u s1 ⟨v, H2, I1, r1, ev, eH⟩ => ?_)
  subst ev eH
  obtain rfl : u = Value.ref f := r1
  have gf := I1.base.keep f _ hf hfn hfr (fun z => nomatch (show f ∈ ([] : List Addr) from z))
  refine PySem.W.callWith_F0 ⟨_, _, _, _, gf⟩ ?_
  obtain ⟨⟨oc, vs, t, hoc, hdc, hvc⟩, _, _⟩ := I1.hok c' _ hco
  have run : codeAny (model X.prog X.w) (X.A.deeper (envOfC qg sg s'.heap.objs.size g cdg)) (.call (.ref f) ⟨[], []⟩) (CR (L2N.CX X.prog X.w) (envOfC qg sg s'.heap.objs.size g cdg :: X.stack) X.prog X.w H2 s1 Q E) s1 := by
    refine PySem.W.kla_callFunE hr.depth gf rfl L.co L.gen rfl ⟨c', oc, vs, t, rfl, hoc, hdc, hvc⟩ ?_
    rw [hbind]
    refine wpAny_pure (wpAny_newFunctionEnv (fun y hy => (L.own y hy).2) (fun y hy => absurd hy (by simp)) (fun h1 hns hsb => ⟨I1.nolimit.fresh _ hsb, ?_⟩) L.kind)
    show codeAny _ _ (.expr body (lamEnv X scope s1.heap.objs.size f c')) _ _
    have kp := fun (b : Addr) (u : Obj) (e : s1.heap.get? b = some u) => hsb.extBut b u (Nat.ne_of_lt (Heap.lt_size e)) (Heap.get?_push_of_some _ e)
    have J := lam_start2 (E := E) (f := f) (c' := c') (tk := s1.toks + ([] : List (Str × Value)).length) I L I1.env0 hr.hd I1.base hns kp
    have J2 : Inv (lamN X (X.A.deeper (envOfC qg sg s'.heap.objs.size g cdg)) (envOfC qg sg s'.heap.objs.size g cdg :: X.stack) s1 H2 E scope f c') [] σ H2 { s1 with heap := h1, toks := s1.toks + ([] : List (Str × Value)).length } := ⟨⟨J.ok.mod, J.ok.kind, J.ok.glob, J.ok.blt, J.ok.above, J.ok.inj, J.ok.has, J.ok.cab, J.ok.hd, J.ok.frames, J.ok.stk, J.ok.exf, J.ok.bs, J.ok.bsz, J.ok.noex, J.ok.exfs, J.ok.funs, J.ok.frf⟩, J.os, J.bare, J.base, J.loc, J.cell, J.free, J.freeC, J.pin, J.hok, J.len⟩
    have Bd := hbody (X.A.deeper (envOfC qg sg s'.heap.objs.size g cdg)) (envOfC qg sg s'.heap.objs.size g cdg :: X.stack) s1 H2 E (hr.deeper _) B G H2 σ Ev (fun cls d _ H' => E cls d H') (L2N.takes_of rfl rfl rfl rfl) Q (by
      cases o with
      | ret x => exact hq
      | exc n => exact hq)
    refine PySem.W.kla_codeExpr (wpAny_mono (Bd [] _ J2) (fun v s' hq => ?_) fun e s' hq => hq)
    obtain ⟨w', H', J', rv, q⟩ := hq
    exact ⟨w', H', J'.os, J'.bare, J'.base, J'.hok, rv, q⟩
  refine wpAny_call (codeAny_mono run fun r s2 hq => ?_)
  cases r with
  | error e => exact L2N.passes_call tk hW pinsZ σZ H2 s1 e s2 I1 hq
  | ok fl =>
    cases fl with
    | ret u => exact I1.after hq
    | next => exact False.elim hq
    | brk => exact False.elim hq
    | cont => exact False.elim hq
/-! ### the whole: the def told(lambda: body) -/
/-- the def that tells, as it stands behind the top; cl: the def that names the class of a refusal -/
structure ToldF (X : Cx) (x a : Str) (g : Addr) (clf : Str → Str) (ok : Str → Prop) (kz : Nat) : Prop where
  ex : ∃ (pg : Arguments) (bg : List Stmt) (sg : Scope) (fdg fdz : FuncData) (Ng : List Str) (e lerr cl xz : Str) (ie : Nat) (CS fz : Addr) (p1 p2 p3 p4 p5 p6 p7 p8 p11 p12 : Pos),
    FunD X.K x x pg bg sg [] [] g fdg ∧ FnScope Ng [a] sg ∧ L2.Binds X.K fdg [a] [] ∧
    bg = [.Try [.Return (some (.Call (.Name a p1) [] [] p2)) p3] [.ExceptHandler (some (.Name lerr p4)) (some e) [.Return (some (.Call (.Name cl p5) [.Name e p6] [] p7)) p8] p11] [] [] p12] ∧
    Ng[0]? = some a ∧ sg.names.lookup a = some .local ∧ Ng[ie]? = some e ∧ sg.names.lookup e = some .local ∧ sg.names.lookup lerr = some .globalImplicit ∧ sg.names.lookup cl = some .globalImplicit ∧
    (a == ("__debug__" : Str)) = false ∧ (a == ("__classdict__" : Str)) = false ∧ (e == ("__debug__" : Str)) = false ∧ (e == ("__classdict__" : Str)) = false ∧ (lerr == ("__debug__" : Str)) = false ∧ (cl == ("__debug__" : Str)) = false ∧
    X.mg lerr = some (.ref CS) ∧ X.mg cl = some (.ref fz) ∧ PySem.W.keepIn X.K (.ref fz) = true ∧ L2.Binds X.K fdz [xz] [] ∧ FnZ X.prog X.w X.K X.mg X.base kz fz fdz xz clf ok ∧ (∀ n, ok n → PySem.W.exmOne X.K (.ref (clsAt X.mg n)) (.ref CS) = some true)
theorem takesN0 {X : Cx} : L2N.Takes X (fun _ _ _ _ => False) := fun _ _ ⟨_, _, _, _, _, _, _, _, _, _, _, _, _, _, _, _, z⟩ => z.elim
/-- the suite: return cl(e) -/
theorem suite_ret {Z : Cx} {clf : Str → Str} {ok : Str → Prop} {kz ie : Nat} {fz : Addr} {fdz : FuncData} {xz cl e : Str} {a : Addr} {oe : Obj} {cls : Value} {d : Option Addr} {pn : List (Addr × Obj)} {p5 p6 p7 p8 : Pos} (FZ : FnZ Z.prog Z.w Z.K Z.mg Z.base kz fz fdz xz clf ok) (hz : L2N.Zn cls d oe) (hf : ∃ vs, oe.data = .fields vs)
    (hr : RoomH kz Z.A) (hie : Z.N[ie]? = some e) (hv : Vis Z.env.scope e) (hd : (e == ("__debug__" : Str)) = false) (hcd : (e == ("__classdict__" : Str)) = false) (hg : Gl Z cl) (hdb : (cl == ("__debug__" : Str)) = false) (hm : Z.mg cl = some (.ref fz)) (hk : PySem.W.keepIn Z.K (.ref fz) = true) (hb : L2.Binds Z.K fdz [xz] []) :
    PSs (Z.suite a ((a, oe) :: pn)) [.Return (some (.Call (.Name cl p5) [.Name e p6] [] p7)) p8] (fun D σz Hz => d = none ∧ (∃ σ0 : L2.St, σz = σ0.set ie (some (.ref a))) ∧ ∃ n, ok n ∧ cls = .ref (clsAt Z.mg n) ∧ ∃ G' : Hp, Same G' Hz ∧ Tabs Tb.T Hz ∧ NoT G' ∧ ∀ v G2 H2, Stp G' Hz G2 H2 → Dt Z.K G2 v (.str (clf n)) → D.rt v H2) := by
  refine pss_one (ps_ret (te := fun σz Hz Q => d = none ∧ (∃ σ0 : L2.St, σz = σ0.set ie (some (.ref a))) ∧ ∃ n, ok n ∧ cls = .ref (clsAt Z.mg n) ∧ ∃ G' : Hp, Same G' Hz ∧ Tabs Tb.T Hz ∧ NoT G' ∧ ∀ v G2 H2, Stp G' Hz G2 H2 → Dt Z.K G2 v (.str (clf n)) → Q v H2) ⟨fun pins s σ H Q I h => ?_⟩)
  obtain ⟨hd0, ⟨σ0, es⟩, n, hn, ec, G', hs, ht, hnt, q⟩ := h
  subst hd0
  have lie : ie < σ0.length := by
    have l1 := I.len
    rw [es, List.length_set] at l1
    rw [l1]
    exact (List.getElem?_eq_some_iff.mp hie).1
  have hσ : σ[ie]? = some (some (.ref a)) := by rw [es]; exact List.getElem?_set_self lie
  refine wpAny_Call_Name_kw (ld_glob I hg hm ?_ hdb)
  have pa : PA (Z.suite a ((a, oe) :: pn)) [.Name e p6] (tCons (tVar ie) tNil) := pa_cons (pe_var (X := Z.suite a ((a, oe) :: pn)) hie hv hd hcd) pa_nil
  refine PySem.W.callWith_K (h₀ := Z.base) I.ok.mod.kin hk (thn (pa.run p7 pins s σ H (fun vs H1 => vs = [V.ref a] ∧ H1 = H) I ⟨.ref a, hσ, rfl, rfl⟩) fun us s1 ⟨vs, H1, I1, r, ev, eH⟩ => ⟨I1.kIn, ?_⟩) (by rfl) (by rfl)
  subst ev eH
  rw [Vals.ref1 r]
  obtain ⟨vs, hvs⟩ := hf
  obtain ⟨g1, g2, g3, g4, g5⟩ := I1.pin (a, oe) (List.mem_append_left _ List.mem_cons_self)
  have hot : Hot1 (Z.suite a ((a, oe) :: pn)).A (a, oe) := ⟨rfl, vs, hvs, hz.2.2 vs hvs⟩
  have pinok : PinOk (Z.suite a ((a, oe) :: pn)).stack H1 s1 (a, oe) := ⟨g1, g2, fun y => (List.mem_cons.mp (I1.stkSub a y)).elim g3 g4, g5⟩
  have zc : Zc (.ref (clsAt Z.mg n)) none oe := ⟨hz.1.trans ec, hz.2.1⟩
  have bs := hb s1 [.ref a] I1.kIn rfl
  refine wpAny_call (codeAny_mono (FZ.run _ _ s1 H1 G' (a, oe) n Q (fun _ _ _ => False) ⟨hr.dp, hr.un⟩ hot pinok I1.env0 bs hn zc hs ht hnt q) fun r s2 hq => ?_)
  cases r with
  | error u => exact (show False from let ⟨_, _, _, _, _, _, _, _, _, _, _, _, z⟩ := hq; z).elim
  | ok fl =>
    cases fl with
    | ret u => exact I1.after hq
    | next => exact False.elim hq
    | brk => exact False.elim hq
    | cont => exact False.elim hq
def Tells (clf : Str → Str) (ok : Str → Prop) (o : Oc) (z : D) : Prop := match o with
  | .ret y => z = y
  | .exc n => ok n ∧ z = .str (clf n)
theorem ev_told {x a : Str} {g c P : Addr} {clf : Str → Str} {ok : Str → Prop} {k kz : Nat} {params : Arguments} {body : Expr} {scope : Scope} {o : Oc} {z : D} {p lpos pos : Pos} (TF : ToldF X x a g clf ok kz) (hm : X.mg x = some (.ref g)) (hg : Gl X x) (hbody : ∀ (A : Around) (outer : List PySem.Env) (s : Shared) (H : Hp) (E : XK) (f c' : Addr), Room k (A.deeper (lamEnv X scope s.heap.objs.size f c')) → EvX (lamN X A outer s H E scope f c') body Γ o)
    (ho : Tells clf ok o z) (TB : TabB X.base X.mg c P) (hcode : X.env.code = .ref c) (hmT : (P, X.env.qual ++ "<lambda>") ∈ Tb.T) (hu : ∀ p ∈ Tb.T, p.1 = P → p.2 = X.env.qual ++ "<lambda>") (hr : Room (k + 2) X.A) (hkz : kz ≤ k) (L : LamS X.env.scope scope) (hdef : defaultsOf params X.env = ([], []))
    (hbind : ∀ (q : Str) (cl : List (Str × Addr)) (pm cv ctv : Value), bindArgs (PySem.W.kla_fn "<lambda>" q params body scope cl pm cv ctv) ⟨[], []⟩ = pure []) (hdb : (x == ("__debug__" : Str)) = false := by decide) : EvD X (.Call (.Name x p) [.Lambda params body scope lpos] [] pos) Γ z := fun B G H σ E Q q pins s I => by
  obtain ⟨pg, bg, sg, fdg, fdz, Ng, e, lerr, cl, xz, ie, CS, fz, p1, p2, p3, p4, p5, p6, p7, p8, p11, p12, F0, Sg, bd, hbg, h0, ha, hie, he, hlerr, hcl, n1, n2, n3, n4, n5, n6, mCS, mfz, kfz, bz, FZ, hex⟩ := TF.ex
  subst hbg
  have kp := F0.kp
  obtain ⟨oc, od, dV, kV, dd, pm, an, cdv, ct, osl, rfl, lk, hcd, _, _⟩ := F0.ex
  refine wpAny_Call_Name_kw (ld_glob I hg hm ?_ hdb)
  refine PySem.W.callWith_K (h₀ := X.base) I.ok.mod.kin kp ?_ rfl rfl
  show wpAny _ _ (spliced ((false, eval (.Lambda params body scope lpos) X.env) :: backTo pos (starEach [] X.env))) _ _ s
  refine Calls.spliced_cons (lam_make2 (T := Tb.T) I TB hcode hmT hu E.tab hdef (L.has I.ok) fun f c' pm' ctv H1 s' I1 eN T1 hf hfn hfr hco => ?_)
  refine Calls.spliced_nil ⟨I1.kIn, ?_⟩
  have st : Stp G H G H1 := ⟨Same.refl _, ⟨eN, fun _ => T1⟩, fun a o h => eN a o (E.gh a o h) (fun ps z => E.nt a ps (z ▸ h)), fun _ => .inl rfl, id⟩
  have E1 := E.step st
  have run : codeAny (model X.prog X.w) X.A (.call (.ref g) ⟨[.ref f], []⟩) (CR C8.CX0 X.stack X.prog X.w H1 s' Q C8.E0) s' := by
    refine run_ofS (N := Ng) (ps := [a]) (us := [.ref f]) (vs := [.ref f]) lk hcd Sg hr I1.env0 (bd s' [.ref f] I1.kIn rfl) (.cons rfl .nil) rfl fun hr2 => ?_
    let Z := cxOf C8.CX0 X.prog X.w X.K X.mg X.base Ng x sg g cdv X.A X.stack s' H1 C8.E0
    let ts : Addr → Value → Option Addr → TS := fun a cls d D σz Hz => d = none ∧ (∃ σ0 : L2.St, σz = σ0.set ie (some (.ref a))) ∧ ∃ n, ok n ∧ cls = .ref (clsAt Z.mg n) ∧ ∃ G' : Hp, Same G' Hz ∧ Tabs Tb.T Hz ∧ NoT G' ∧ ∀ v G2 H2, Stp G' Hz G2 H2 → Dt Z.K G2 v (.str (clf n)) → D.rt v H2
    let tb : WX → TS := fun W D σz Hz => ∃ Ech : XK, (∀ cls d σ' H', Ech cls d H' → W cls d σ' H') ∧ σz[0]? = some (some (.ref f)) ∧ Hz = H1 ∧ (match o with
      | .ret x => ∀ v G' H', Stp G H1 G' H' → Dt X.K G' v x → D.rt v H'
      | .exc n => ∀ G' H', Stp G H1 G' H' → Ech (.ref (clsAt X.mg n)) none H')
    refine ⟨_, (pss_one (L2N.ps_try_as (X := Z) (c := .ref CS) (i := ie) (tb := tb) (ts := ts) (Wout := fun _ _ _ _ => False) rfl rfl Sg.nd hie he ⟨hlerr, n5, .inl mCS⟩ takesN0 (fun W pn xe tk po => ⟨fun pinsZ sZ σZ HZ D IZ hh => ?_⟩)
      (fun a oe cls d pn hz hf => suite_ret (Z := Z) FZ hz hf ((roomH_of hr2).mono (by omega)) hie (.inl he) n3 n4 hcl n6 mfz kfz bz))), ?_⟩
    · obtain ⟨Ech, hW, h1, h2, h3⟩ := hh
      have pe := act_N (p1 := p1) (p2 := p2) (E := Ech) (pn := pn) (xe := xe) (o := o) I1 E1 L hf hfn hfr hco (hbind _ _ _ _ _) tk hW hr2 (fun A outer s H E hr3 => hbody A outer s H E f c' hr3) h0 (.inl ha) n1 n2
      refine (pss_one (ps_ret (pos := p3) pe)).run pinsZ sZ σZ HZ D IZ ⟨h1, h2, ?_⟩
      cases o with
      | ret y => exact h3
      | exc n => exact h3
    · have hs0 : (L2.start Ng [V.ref f])[0]? = some (some (V.ref f)) := rfl
      cases o with
      | ret y =>
        obtain rfl : z = y := ho
        exact ⟨fun _ _ _ => False, fun _ _ _ _ z => z.elim, hs0, rfl, fun v G' H' s1 d => q v G' H' (st.trans s1) d⟩
      | exc n =>
        obtain ⟨hn, rfl⟩ := (show ok n ∧ z = .str (clf n) from ho)
        refine ⟨fun cls d H' => cls = .ref (clsAt X.mg n) ∧ d = none ∧ ∃ G', Stp G H1 G' H', fun cls d σ' H' ⟨e1, e2, G', s1⟩ => ⟨true, by rw [e1]; exact hex n hn, fun _ a hna => ⟨e2, ⟨σ', rfl⟩, n, hn, e1, G', s1.gh, s1.h.t E1.tab, s1.nt E1.nt, fun v G2 H2 s2 d2 => q v G2 H2 ((st.trans s1).trans s2) d2⟩, fun z => by cases z⟩, hs0, rfl, fun G' H' s1 => ⟨rfl, rfl, G', s1⟩⟩
  refine wpAny_call (codeAny_mono run fun r s2 hq => ?_)
  cases r with
  | error u => exact (show False from hq).elim
  | ok fl =>
    cases fl with
    | ret u => exact I1.after hq
    | next => exact False.elim hq
    | brk => exact False.elim hq
    | cont => exact False.elim hq
end
end Wl

end

section
/-! W8: isinstance of the caught one, list.index; the tactic words. -/
namespace Wl
open PySem PySem.Spec PyProof.Rows L2 HotX L2H LamX
variable [Tb]
section
variable {X : Cx} {Γ : List Sl} {e a b c : Expr} {es : List Expr} {x y z : D} {xs : List D} {pos p2 : Pos}
theorem call_isX {p : Addr × Obj} {Dc : Addr} (hp : p ∈ X.pn) (C : ExcC X.K Dc) (hz : Zc (.ref Dc) none p.2) (hf : ∃ vs, p.2.data = .fields vs) : CallR X (.builtin "isinstance") (rIsE X.K Dc p.1) := by
  intro pins s σ H xs us Q I r ⟨c, cv, b, hx, hcv, e, q⟩
  subst hx
  cases r with
  | cons rx rr =>
    cases rr with
    | cons rt rr =>
      cases rr
      cases rx
      obtain rfl := hcv _ rt
      have g := (I.pin p (List.mem_append_left _ hp)).1
      obtain ⟨vs, hv⟩ := hf
      obtain ⟨pa, oc, od, oda, osl⟩ := p
      obtain ⟨h1, h2⟩ := hz
      dsimp only at h1 h2 hv g
      subst h1 h2 hv
      have J : PySem.W.InstAt s.heap pa ⟨.ref Dc, none, .fields vs, osl⟩ Dc none := ⟨g, rfl, rfl, trivial⟩
      exact PySem.W.kia_one (PySem.W.handS_kitx_exc C.hg C.hk C.hs C.hd C.ha C.hn C.ht C.hm) I.kIn J e (fun z => nomatch z) fun tk => ⟨.bl b, H, I.kept (t' := tk) fun _ _ z => z, rfl, q⟩
/-- isinstance(e, T) of the caught one -/
theorem ev_isX {p : Addr × Obj} {Dc : Addr} {n T : Str} {i : Nat} {cv : V} {u : Value} {b : Bool} {q q1 q2 : Pos} (hp : p ∈ X.pn) (C : ExcC X.K Dc) (hz : Zc (.ref Dc) none p.2) (hf : ∃ vs, p.2.data = .fields vs) (hm : X.mg "isinstance" = none) (hN : X.N[i]? = some n) (h : Γ[i]? = some (.r (xR p.1))) (hT : PE X (.Name T q1) (tC cv))
    (hcv : ∀ w, RelV cv w → w = u) (hk : PySem.W.kitOne X.K (.ref Dc) u = some b) (hv : Vis X.env.scope n) (hg : Gl X "isinstance") (hd : (n == ("__debug__" : Str)) = false := by decide) (hcd : (n == ("__classdict__" : Str)) = false := by decide)
    (he : starEach [.Name n q2, .Name T q1] X.env = (false, eval (.Name n q2) X.env) :: starEach [.Name T q1] X.env := by rfl) (hpl : (backTo pos (starEach [.Name T q1] X.env)).any (·.1) = false := by rfl) :
    EvD X (.Call (.Name "isinstance" q) [.Name n q2, .Name T q1] [] pos) Γ (.bool b) := fun B G H σ E Q k => by
  obtain ⟨e1, _⟩ := E.get_r h
  refine w_pe (pe_callB (call_isX hp C hz hf) hg hm (by decide +kernel) (pa_cons (pe_var hN hv hd hcd) (pa_cons hT pa_nil) he) (by decide) (by decide) he hpl) ⟨_, e1, cv, u, b, rfl, hcv, hk, k _ G H (.refl E.gh) (.bl _)⟩
/-- l.index(True) -/
theorem ev_indexB {o : Expr} {bs : List Bool} {j : Nat} {apos : Pos} (ho : EvW X o Γ (.list (bs.map .bool))) (he : EvD X e Γ (.bool true)) (hj : bs[j]? = some true) (hn : ∀ m, m < j → bs[m]? = some false)
    (hbase : attributeBase o "index" X.env (eval o X.env) = eval o X.env := by rfl)
    (hfew : ((backTo p2 (starEach [e] X.env)).all (fun x => !x.1) && (backToKw p2 (keywordEach [] X.env)).all (fun x => x.1.isSome) && decide ([e].length + ([] : List Keyword).length + (if ([] : List Keyword).isEmpty then 0 else 1) < 30)) = true := by rfl)
    (hline : (apos.endLine == p2.line) = true := by rfl) (hs : starEach [e] X.env = (false, eval e X.env) :: starEach [] X.env := by rfl) (hplain : (backTo p2 (starEach [] X.env)).any (·.1) = false := by rfl) :
    EvD X (.Call (.Attribute o "index" apos) [e] [] p2) Γ (.int (j : Nat)) := fun B G H σ E Q q =>
  w_pe (pe_bm PySem.F.plainAttrs_list PySem.F.slot_list_index PySem.F.type_list_index mt_index pe_w (pa_cons pe_w pa_nil hs) hbase hfew hline hs hplain) (ho B G H σ E _ fun v G1 H1 s1 k1 => by
    obtain ⟨p, vs, rfl, hq, hd⟩ := k1.list s1.gh
    have hvs := hd.bools
    subst hvs
    refine ⟨.inl ⟨rfl, ?_⟩, ?_⟩
    · exact ⟨_, hq⟩
    · refine he B G1 H1 σ (E.step s1) _ fun u G2 H2 s2 d2 => ?_
      cases d2
      refine ⟨p, bs.map V.bl, .bl true, j, .bl true, rfl, rfl, s2.h.seq hq, rfl, ?_, ?_, rfl, fun m z' hm hz' => ?_, q _ G2 H2 (s1.trans s2) (.int _)⟩
      · rw [List.all_eq_true]; intro w hw
        obtain ⟨b, _, rfl⟩ := List.mem_map.mp hw
        rfl
      · rw [List.getElem?_map, hj]; rfl
      · rw [List.getElem?_map, hn m hm] at hz'
        cases hz'
        rfl)
end
end Wl

end

section
/-! W9: rules by the names of the slots, for the tactic words. -/
namespace Wl
open PySem PySem.Spec PyProof.Rows L2 HotX L2H LamX
variable [Tb]
/-- n's slot -/
inductive Lk : List Str → List Sl → Str → Sl → Prop
  | here {n : Str} {N : List Str} {s : Sl} {Γ : List Sl} : Lk (n :: N) (s :: Γ) n s
  | there {n m : Str} {N : List Str} {s t : Sl} {Γ : List Sl} : Lk N Γ n s → Lk (m :: N) (t :: Γ) n s
theorem Lk.at_ {N : List Str} {Γ : List Sl} {n : Str} {s : Sl} (h : Lk N Γ n s) : ∃ i : Nat, N[i]? = some n ∧ Γ[i]? = some s := by
  induction h with
  | here => exact ⟨0, rfl, rfl⟩
  | there _ ih => obtain ⟨i, h1, h2⟩ := ih; exact ⟨i + 1, by simpa using h1, by simpa using h2⟩
/-- n's slot gets s -/
inductive Pt : List Str → List Sl → Str → Sl → List Sl → Prop
  | here {n : Str} {N : List Str} {s t : Sl} {Γ : List Sl} : Pt (n :: N) (t :: Γ) n s (s :: Γ)
  | there {n m : Str} {N : List Str} {s t : Sl} {Γ Γ' : List Sl} : Pt N Γ n s Γ' → Pt (m :: N) (t :: Γ) n s (t :: Γ')
theorem Pt.at_ {N : List Str} {Γ Γ' : List Sl} {n : Str} {s : Sl} (h : Pt N Γ n s Γ') : ∃ i : Nat, N[i]? = some n ∧ Γ' = Γ.set i s ∧ i < Γ.length := by
  induction h with
  | here => exact ⟨0, rfl, rfl, by simp⟩
  | there _ ih => obtain ⟨i, h1, h2, h3⟩ := ih; exact ⟨i + 1, by simpa using h1, by rw [h2, List.set_cons_succ], by simpa using h3⟩
section
variable {X : Cx} {Γ Γ' : List Sl} {e a b c : Expr} {es : List Expr} {x y z : D} {xs ys : List D} {pos p2 : Pos} {k : Kn} {st : Stmt} {sts : List Stmt} {N : List Str} {n : Str}
/-- the context's names -/
structure CN (X : Cx) (N : List Str) : Prop where
  n : X.N = N
theorem ev_nm (cn : CN X N) (l : Lk N Γ n (.d x)) (hv : Vis X.env.scope n) (hd : (n == ("__debug__" : Str)) = false) (hcd : (n == ("__classdict__" : Str)) = false) : EvD X (.Name n pos) Γ x := by
  obtain ⟨i, h1, h2⟩ := l.at_
  exact ev_name (by rw [cn.n]; exact h1) h2 hv hd hcd
theorem ew_nm {p : Addr} (cn : CN X N) (l : Lk N Γ n (.l p xs)) (hv : Vis X.env.scope n) (hd : (n == ("__debug__" : Str)) = false) (hcd : (n == ("__classdict__" : Str)) = false) : EvW X (.Name n pos) Γ (.list xs) := by
  obtain ⟨i, h1, h2⟩ := l.at_
  exact ev_nameL (by rw [cn.n]; exact h1) h2 hv hd hcd
/-- a whole number of the module -/
def GI (mg : Str → Option Value) (n : Str) (i : Int) : Prop := ∃ t, mg n = some (.int i t)
theorem ev_gi {i : Int} (h : GI X.mg n i) (hg : Gl X n) (hdb : (n == ("__debug__" : Str)) = false) : EvD X (.Name n pos) Γ (.int i) := by
  obtain ⟨t, h⟩ := h
  exact ev_glob (v := .int i) h ⟨t, rfl⟩ (fun _ => .int i) hg hdb
theorem ev_binA {op : Operator} (ha : EvW X a Γ x) (hb : EvW X b Γ y) (ho : BinD X op x y z) : EvD X (.BinOp a op b pos) Γ z := ev_bin ho ha hb
theorem ev_cmpA {op : CmpOp} {l : Bool} (ha : EvW X a Γ x) (hb : EvW X b Γ y) (ho : CmpD X op x y l) (hm : behindInMarks op b = false) : EvD X (.Compare a [op] [b] pos) Γ (.bool l) := ev_cmp ho ha hb hm
theorem et_cmpA {op : CmpOp} {l : Bool} (ha : EvW X a Γ x) (hb : EvW X b Γ y) (ho : CmpD X op x y l) (hm : behindInMarks op b = false) : EvT X (.Compare a [op] [b] pos) Γ l := et_cmp ho ha hb hm
theorem ev_chainA {op op' : CmpOp} {l m : Bool} (ha : EvW X a Γ x) (hb : EvW X b Γ y) (hc : EvW X c Γ z) (ho : CmpD X op x y l) (ho' : CmpD X op' y z m) (hm : lastMarks [op, op'] [b, c] = false) : EvD X (.Compare a [op, op'] [b, c] pos) Γ (.bool (l && m)) := ev_chain ho (fun _ => ho') (let ⟨r, h, _⟩ := ho'; ⟨r, h⟩) ha hb hc hm
theorem et_chainA {op op' : CmpOp} {l m : Bool} (ha : EvW X a Γ x) (hb : EvW X b Γ y) (hc : EvW X c Γ z) (ho : CmpD X op x y l) (ho' : CmpD X op' y z m) (hm : lastMarks [op, op'] [b, c] = false) : EvT X (.Compare a [op, op'] [b, c] pos) Γ (l && m) := et_chain ho (fun _ => ho') (let ⟨r, h, _⟩ := ho'; ⟨r, h⟩) ha hb hc hm
theorem eqv_int (i j : Int) : PyData.eqv (.int i) (.int j) = decide (i = j) := by
  by_cases h : i = j
  · subst h; simp [PyData.eqv]
  · simp [PyData.eqv, h]
theorem cmp_eqI {i j : Int} (hu : X.A.units + 64 < cLine) : CmpD X .Eq (.int i) (.int j) (decide (i = j)) := by
  rw [← eqv_int]; exact cmp_eq hu (by simp [PyData.depth])
theorem cmp_neI {i j : Int} (hu : X.A.units + 64 < cLine) : CmpD X .NotEq (.int i) (.int j) (!decide (i = j)) := by
  rw [← eqv_int]; exact cmp_ne hu (by simp [PyData.depth])
theorem ev_callBA {f : Str} {id : String} {p : Pos} (ha : EvB X (e :: es) Γ xs) (hc : CalD X (.builtin id) xs z) (hm : X.mg f = none) (hv : bootBuiltins f = some (.builtin id)) (hg : Gl X f) (hn : f ≠ "__name__") (hdb : (f == ("__debug__" : Str)) = false)
    (he : starEach (e :: es) X.env = (false, eval e X.env) :: starEach es X.env) (hpl : (backTo pos (starEach es X.env)).any (·.1) = false) : EvD X (.Call (.Name f p) (e :: es) [] pos) Γ z := ev_callB hc hm hv hg ha hn hdb he hpl
theorem ev_callTyA {f : Str} {T : String} {p : Pos} (ha : EvB X (e :: es) Γ xs) (hc : CalD X (.type T) xs z) (hm : X.mg f = none) (hv : bootBuiltins f = some (.type T)) (hg : Gl X f) (hn : f ≠ "__name__") (hdb : (f == ("__debug__" : Str)) = false)
    (he : starEach (e :: es) X.env = (false, eval e X.env) :: starEach es X.env) (hpl : (backTo pos (starEach es X.env)).any (·.1) = false) : EvD X (.Call (.Name f p) (e :: es) [] pos) Γ z := ev_callTy hc hm hv hg ha hn hdb he hpl
theorem s1_setP {p' : Pos} {i0 : List Str} (he : EvD X e Γ x) (cn : CN X N) (p : Pt N Γ n (.d x) Γ') (h : k.nx Γ') (nd : N.Nodup) (hx : Loc X.env.scope n) (hf : X.fn n = true ∨ X.env.scope.names.lookup n = some .local) (hs : swapsWith e (some (.Name n p')) pos.line X.env = pure false) :
    S1 X (.Assign [.Name n p'] e pos) k Γ := by
  obtain ⟨i, h1, h2, _⟩ := p.at_
  rw [h2] at h
  exact s1_set he h (by rw [cn.n]; exact nd) (by rw [cn.n]; exact h1) hx hf hs
theorem s1_setXP {p' : Pos} {o : Oc} (he : EvX X e Γ o) (cn : CN X N) (h : match o with | .ret x => ∃ Γ', Pt N Γ n (.d x) Γ' ∧ k.nx Γ' | .exc c => k.ex c Γ) (hi : n ∈ N) (nd : N.Nodup) (hx : Loc X.env.scope n) (hf : X.fn n = true ∨ X.env.scope.names.lookup n = some .local) (hs : swapsWith e (some (.Name n p')) pos.line X.env = pure false) :
    S1 X (.Assign [.Name n p'] e pos) k Γ := by
  cases o with
  | ret x =>
    obtain ⟨Γ', p, h⟩ := h
    obtain ⟨i, h1, h2, _⟩ := p.at_
    rw [h2] at h
    exact s1_setX he h (by rw [cn.n]; exact nd) (by rw [cn.n]; exact h1) hx hf hs
  | exc c =>
    obtain ⟨i, hi⟩ := List.mem_iff_getElem?.mp hi
    exact s1_setX (i := i) he h (by rw [cn.n]; exact nd) (by rw [cn.n]; exact hi) hx hf hs
theorem s1_newP {p' : Pos} (he : EvA X es Γ xs) (cn : CN X N) (p : ∀ q, ∃ Γ', Pt N Γ n (.l q xs) Γ' ∧ k.nx Γ') (nd : N.Nodup) (hx : Loc X.env.scope n) (hf : X.fn n = true ∨ X.env.scope.names.lookup n = some .local) (hl : es.length ≤ 1000) (hs : swapsWith (.List es p2) (some (.Name n p')) pos.line X.env = pure false) :
    S1 X (.Assign [.Name n p'] (.List es p2) pos) k Γ := by
  obtain ⟨Γ0, p0, _⟩ := p 0
  obtain ⟨i, h1, _, h3⟩ := p0.at_
  refine s1_new (sl := Γ[i]) (List.getElem?_eq_getElem h3) he (fun q => ?_) (by rw [cn.n]; exact nd) (by rw [cn.n]; exact h1) hx hf hl hs
  obtain ⟨Γq, pq, hq⟩ := p q
  obtain ⟨j, g1, g2, _⟩ := pq.at_
  have : j = i := ((List.getElem?_inj (List.getElem?_eq_some_iff.mp h1).1 nd).mp (h1.trans g1.symm)).symm
  rw [← this, ← g2]
  exact hq
theorem s1_appendP {p : Addr} {np apos : Pos} (cn : CN X N) (l : Lk N Γ n (.l p xs)) (he : EvD X e Γ x) (hlen : xs.length < sizeLine) (q : Pt N Γ n (.l p (xs ++ [x])) Γ') (h : k.nx Γ') (nd : N.Nodup) (hv : Vis X.env.scope n) (hd : (n == ("__debug__" : Str)) = false) (hcd : (n == ("__classdict__" : Str)) = false)
    (hbase : attributeBase (.Name n np) "append" X.env (eval (.Name n np) X.env) = eval (.Name n np) X.env)
    (hfew : ((backTo p2 (starEach [e] X.env)).all (fun x => !x.1) && (backToKw p2 (keywordEach [] X.env)).all (fun x => x.1.isSome) && decide ([e].length + ([] : List Keyword).length + (if ([] : List Keyword).isEmpty then 0 else 1) < 30)) = true)
    (hline : (apos.endLine == p2.line) = true) (hs : starEach [e] X.env = (false, eval e X.env) :: starEach [] X.env) (hplain : (backTo p2 (starEach [] X.env)).any (·.1) = false) (hsw : swapsWith (.Call (.Attribute (.Name n np) "append" apos) [e] [] p2) none pos.line X.env = pure false) :
    S1 X (.Expr (.Call (.Attribute (.Name n np) "append" apos) [e] [] p2) pos) k Γ := by
  obtain ⟨i, h1, h2⟩ := l.at_
  obtain ⟨j, g1, g2, _⟩ := q.at_
  have : j = i := ((List.getElem?_inj (List.getElem?_eq_some_iff.mp h1).1 nd).mp (h1.trans g1.symm)).symm
  subst this
  rw [g2] at h
  exact s1_append h2 he hlen h (by rw [cn.n]; exact h1) hv hd hcd hbase hfew hline hs hplain hsw
theorem ss_freezeP {p : Addr} (l : Lk N Γ n (.l p xs)) (q : Pt N Γ n (.d (.list xs)) Γ') (nd : N.Nodup) (h : Ss X sts k Γ') : Ss X sts k Γ := by
  obtain ⟨i, h1, h2⟩ := l.at_
  obtain ⟨j, g1, g2, _⟩ := q.at_
  have : j = i := ((List.getElem?_inj (List.getElem?_eq_some_iff.mp h1).1 nd).mp (h1.trans g1.symm)).symm
  subst this
  rw [g2] at h
  exact ss_freeze h2 h
theorem tg_nm {vs : List Nat} (cn : CN X N) (p : Pt N Γ n (.d x) Γ') (nd : N.Nodup) (hx : Loc X.env.scope n) (hm : ∀ i, N[i]? = some n → i ∈ vs) (hf : X.fn n = true ∨ X.env.scope.names.lookup n = some .local) : TgD X (.Name n pos) vs x Γ Γ' := by
  obtain ⟨i, h1, h2, _⟩ := p.at_
  subst h2
  exact tg_name (by rw [cn.n]; exact nd) (by rw [cn.n]; exact h1) hx (hm i h1) hf
/-! ### by one Bool -/
def okN (sc : Scope) (n : Str) : Bool := (match sc.names.lookup n with
  | some .local => true
  | some .cell => true
  | some .free => true
  | _ => false) && !(n == ("__debug__" : Str)) && !(n == ("__classdict__" : Str))
theorem okN_ok {sc : Scope} {n : Str} (h : okN sc n = true) : Vis sc n ∧ (n == ("__debug__" : Str)) = false ∧ (n == ("__classdict__" : Str)) = false := by
  unfold okN at h
  simp only [Bool.and_eq_true, Bool.not_eq_true'] at h
  obtain ⟨⟨h1, h2⟩, h3⟩ := h
  refine ⟨?_, h2, h3⟩
  unfold Vis
  revert h1
  cases sc.names.lookup n with
  | none => intro h; cases h
  | some k => cases k <;> first | exact fun _ => .inl rfl | exact fun _ => .inr (.inl rfl) | exact fun _ => .inr (.inr rfl) | exact fun h => Bool.noConfusion h
def okG (sc : Scope) (n : Str) : Bool := decide (sc.names.lookup n = some .globalImplicit) && !(n == ("__debug__" : Str)) && decide (n ≠ "__name__")
theorem okG_ok {n : Str} (h : okG X.env.scope n = true) : Gl X n ∧ (n == ("__debug__" : Str)) = false ∧ n ≠ "__name__" := by
  unfold okG at h
  simp only [Bool.and_eq_true, Bool.not_eq_true', decide_eq_true_eq] at h
  exact ⟨h.1.1, h.1.2, h.2⟩
/-- a name that is stored: a local, or a cell of this very def -/
def okS (sc : Scope) (fn : Bool) (n : Str) : Bool := decide (sc.names.lookup n = some .local) || (decide (sc.names.lookup n = some .cell) && fn)
theorem okS_ok {n : Str} (h : okS X.env.scope (X.fn n) n = true) : Loc X.env.scope n ∧ (X.fn n = true ∨ X.env.scope.names.lookup n = some .local) := by
  unfold okS at h
  simp only [Bool.or_eq_true, Bool.and_eq_true, decide_eq_true_eq] at h
  rcases h with h | ⟨h1, h2⟩
  · exact ⟨.inl h, .inr h⟩
  · exact ⟨.inr h1, .inl h2⟩
/-- one of some names -/
inductive Mm : List Str → Str → Prop
  | here {n : Str} {L : List Str} : Mm (n :: L) n
  | there {n m : Str} {L : List Str} : Mm L n → Mm (m :: L) n
theorem Mm.mem {L : List Str} {n : Str} (h : Mm L n) : n ∈ L := by
  induction h with
  | here => exact List.mem_cons_self
  | there _ ih => exact List.mem_cons_of_mem _ ih
def allN (sc : Scope) (L : List Str) : Bool := L.all (okN sc)
def allG (sc : Scope) (L : List Str) : Bool := L.all (okG sc)
def allS (sc : Scope) (fn : Str → Bool) (L : List Str) : Bool := L.all fun n => okS sc (fn n) n
/-- what is known of a context's names: N the slots, G the globals, S those that are stored -/
structure Nms (X : Cx) (N V G S : List Str) : Prop where
  n : X.N = N
  nd : N.Nodup
  vis : allN X.env.scope V = true
  glo : allG X.env.scope G = true
  sto : allS X.env.scope X.fn S = true
/-- names that the module does not bear -/
def FreeL (mg : Str → Option Value) (L : List Str) : Prop := ∀ n, Mm L n → mg n = none
inductive LkI : List (Str × Int) → Str → Int → Prop
  | here {n : Str} {i : Int} {L : List (Str × Int)} : LkI ((n, i) :: L) n i
  | there {n m : Str} {i j : Int} {L : List (Str × Int)} : LkI L n i → LkI ((m, j) :: L) n i
def GIs (mg : Str → Option Value) (L : List (Str × Int)) : Prop := ∀ n i, LkI L n i → GI mg n i
variable {VL GL SL L : List Str} {LI : List (Str × Int)}
theorem Nms.cn (h : Nms X N VL GL SL) : CN X N := ⟨h.n⟩
theorem Nms.v (h : Nms X N VL GL SL) (m : Mm VL n) : okN X.env.scope n = true := List.all_eq_true.mp h.vis n m.mem
theorem Nms.g (h : Nms X N VL GL SL) (m : Mm GL n) : okG X.env.scope n = true := List.all_eq_true.mp h.glo n m.mem
theorem Nms.s (h : Nms X N VL GL SL) (m : Mm SL n) : okS X.env.scope (X.fn n) n = true := List.all_eq_true.mp h.sto n m.mem
theorem Lk.mm {s : Sl} (h : Lk N Γ n s) : Mm N n := by
  induction h with
  | here => exact .here
  | there _ ih => exact .there ih
theorem Pt.mm {s : Sl} (h : Pt N Γ n s Γ') : Mm N n := by
  induction h with
  | here => exact .here
  | there _ ih => exact .there ih
theorem u_nm (h : Nms X N VL GL SL) (v : Mm VL n) (l : Lk N Γ n (.d x)) : EvD X (.Name n pos) Γ x := ev_nm h.cn l (okN_ok (h.v v)).1 (okN_ok (h.v v)).2.1 (okN_ok (h.v v)).2.2
theorem u_nmL {p : Addr} (h : Nms X N VL GL SL) (v : Mm VL n) (l : Lk N Γ n (.l p xs)) : EvW X (.Name n pos) Γ (.list xs) := ew_nm h.cn l (okN_ok (h.v v)).1 (okN_ok (h.v v)).2.1 (okN_ok (h.v v)).2.2
theorem u_gi {i : Int} (h : Nms X N VL GL SL) (m : Mm GL n) (g : GIs X.mg LI) (l : LkI LI n i) : EvD X (.Name n pos) Γ (.int i) := ev_gi (g n i l) (okG_ok (h.g m)).1 (okG_ok (h.g m)).2.1
theorem u_callB {f : Str} {id : String} {p : Pos} (hv : bootBuiltins f = some (.builtin id)) (h : Nms X N VL GL SL) (m : Mm GL f) (fr : FreeL X.mg L) (hL : Mm L f) (ha : EvB X (e :: es) Γ xs) (hc : CalD X (.builtin id) xs z)
    (he : starEach (e :: es) X.env = (false, eval e X.env) :: starEach es X.env := by rfl) (hpl : (backTo pos (starEach es X.env)).any (·.1) = false := by rfl) : EvD X (.Call (.Name f p) (e :: es) [] pos) Γ z := ev_callB hc (fr f hL) hv (okG_ok (h.g m)).1 ha (okG_ok (h.g m)).2.2 (okG_ok (h.g m)).2.1 he hpl
theorem u_callT {f : Str} {T : String} {p : Pos} (hv : bootBuiltins f = some (.type T)) (h : Nms X N VL GL SL) (m : Mm GL f) (fr : FreeL X.mg L) (hL : Mm L f) (ha : EvB X (e :: es) Γ xs) (hc : CalD X (.type T) xs z)
    (he : starEach (e :: es) X.env = (false, eval e X.env) :: starEach es X.env := by rfl) (hpl : (backTo pos (starEach es X.env)).any (·.1) = false := by rfl) : EvD X (.Call (.Name f p) (e :: es) [] pos) Γ z := ev_callTy hc (fr f hL) hv (okG_ok (h.g m)).1 ha (okG_ok (h.g m)).2.2 (okG_ok (h.g m)).2.1 he hpl
theorem u_isi {T : Str} {Tn : String} {f : D → Bool} {p q1 : Pos} (hvT : bootBuiltins T = some (.type Tn)) (hk : ∀ x : D, kitB (tyName x) Tn = some (f x)) (h : Nms X N VL GL SL) (m : Mm GL "isinstance") (mT : Mm GL T) (fr : FreeL X.mg L) (hL : Mm L "isinstance") (hT : Mm L T) (ha : EvW X e Γ x) {r : Bool} (hr : f x = r)
    (he : starEach [e, .Name T q1] X.env = (false, eval e X.env) :: starEach [.Name T q1] X.env := by rfl) (hpl : (backTo pos (starEach [.Name T q1] X.env)).any (·.1) = false := by rfl) : EvD X (.Call (.Name "isinstance" p) [e, .Name T q1] [] pos) Γ (.bool r) :=
  hr ▸ ev_isi hk (fr _ hL) (fr _ hT) hvT ha (okG_ok (h.g m)).1 (okG_ok (h.g mT)).1 (okG_ok (h.g mT)).2.2 (okG_ok (h.g mT)).2.1 he hpl
/-- a def of the program, by its promise; it doesn't raise here -/
theorem u_call {f : Str} {p : Pos} {kk j m : Nat} {F : List D → Oc → Prop} (fg : FG X.prog X.w X.K X.mg X.base kk f m (spD X.K X.mg F)) (hr : Room j X.A) (hkj : kk ≤ j) (h : Nms X N VL GL SL) (g : Mm GL f) (ha : EvA X (e :: es) Γ xs) (hF : F xs (.ret z))
    (he : starEach (e :: es) X.env = (false, eval e X.env) :: starEach es X.env := by rfl) (hpl : (backTo pos (starEach es X.env)).any (·.1) = false := by rfl) : EvD X (.Call (.Name f p) (e :: es) [] pos) Γ z := ev_call fg hr hkj hF ha (okG_ok (h.g g)).1 (okG_ok (h.g g)).2.1 he hpl
theorem u_callX {f : Str} {p : Pos} {kk j m : Nat} {F : List D → Oc → Prop} {o : Oc} (fg : FG X.prog X.w X.K X.mg X.base kk f m (spD X.K X.mg F)) (hr : Room j X.A) (hkj : kk ≤ j) (h : Nms X N VL GL SL) (g : Mm GL f) (ha : EvA X (e :: es) Γ xs) (hF : F xs o)
    (he : starEach (e :: es) X.env = (false, eval e X.env) :: starEach es X.env := by rfl) (hpl : (backTo pos (starEach es X.env)).any (·.1) = false := by rfl) : EvX X (.Call (.Name f p) (e :: es) [] pos) Γ o := ev_callX fg hr hkj hF ha (okG_ok (h.g g)).1 (okG_ok (h.g g)).2.1 he hpl
theorem q_set {p' : Pos} (h : Nms X N VL GL SL) (g : Mm SL n) (he : EvD X e Γ x) (p : Pt N Γ n (.d x) Γ') (t : Ss X sts k Γ') (hs : swapsWith e (some (.Name n p')) pos.line X.env = pure false := by rfl) : Ss X (.Assign [.Name n p'] e pos :: sts) k Γ :=
  ss_cons (s1_setP (i0 := []) he h.cn p t h.nd (okS_ok (h.s g)).1 (okS_ok (h.s g)).2 hs)
theorem q_setX {p' : Pos} {o : Oc} (h : Nms X N VL GL SL) (g : Mm SL n) (he : EvX X e Γ o) (t : match o with | .ret x => ∃ Γ', Pt N Γ n (.d x) Γ' ∧ Ss X sts k Γ' | .exc c => k.ex c Γ) (hi : Mm N n) (hs : swapsWith e (some (.Name n p')) pos.line X.env = pure false := by rfl) : Ss X (.Assign [.Name n p'] e pos :: sts) k Γ :=
  ss_cons (s1_setXP he h.cn (by cases o <;> exact t) hi.mem h.nd (okS_ok (h.s g)).1 (okS_ok (h.s g)).2 hs)
theorem q_new {p' : Pos} (h : Nms X N VL GL SL) (g : Mm SL n) (he : EvA X es Γ xs) (p : ∀ q, ∃ Γ', Pt N Γ n (.l q xs) Γ' ∧ Ss X sts k Γ') (hl : es.length ≤ 1000 := by decide) (hs : swapsWith (.List es p2) (some (.Name n p')) pos.line X.env = pure false := by rfl) : Ss X (.Assign [.Name n p'] (.List es p2) pos :: sts) k Γ :=
  ss_cons (s1_newP he h.cn p h.nd (okS_ok (h.s g)).1 (okS_ok (h.s g)).2 hl hs)
theorem q_append {p : Addr} {np apos : Pos} (h : Nms X N VL GL SL) (v : Mm VL n) (l : Lk N Γ n (.l p xs)) (he : EvD X e Γ x) (hlen : xs.length < sizeLine) (q : Pt N Γ n (.l p (xs ++ [x])) Γ') (t : Ss X sts k Γ')
    (hbase : attributeBase (.Name n np) "append" X.env (eval (.Name n np) X.env) = eval (.Name n np) X.env := by rfl)
    (hfew : ((backTo p2 (starEach [e] X.env)).all (fun x => !x.1) && (backToKw p2 (keywordEach [] X.env)).all (fun x => x.1.isSome) && decide ([e].length + ([] : List Keyword).length + (if ([] : List Keyword).isEmpty then 0 else 1) < 30)) = true := by rfl)
    (hline : (apos.endLine == p2.line) = true := by rfl) (hs : starEach [e] X.env = (false, eval e X.env) :: starEach [] X.env := by rfl) (hplain : (backTo p2 (starEach [] X.env)).any (·.1) = false := by rfl) (hsw : swapsWith (.Call (.Attribute (.Name n np) "append" apos) [e] [] p2) none pos.line X.env = pure false := by rfl) :
    Ss X (.Expr (.Call (.Attribute (.Name n np) "append" apos) [e] [] p2) pos :: sts) k Γ := ss_cons (s1_appendP h.cn l he hlen q t h.nd (okN_ok (h.v v)).1 (okN_ok (h.v v)).2.1 (okN_ok (h.v v)).2.2 hbase hfew hline hs hplain hsw)
theorem q_freeze {p : Addr} (h : Nms X N VL GL SL) (l : Lk N Γ n (.l p xs)) (q : Pt N Γ n (.d (.list xs)) Γ') (t : Ss X sts k Γ') : Ss X sts k Γ := ss_freezeP l q h.nd t
theorem q_ret (he : EvD X e Γ x) (h : k.rt (.d x) Γ) : Ss X (.Return (some e) pos :: sts) k Γ := ss_cons (s1_ret he h)
theorem q_retX {o : Oc} (he : EvX X e Γ o) (h : match o with | .ret x => k.rt (.d x) Γ | .exc c => k.ex c Γ) : Ss X (.Return (some e) pos :: sts) k Γ := ss_cons (s1_retX he (by cases o <;> exact h))
theorem q_if {t : Bool} {p q : List Stmt} (hc : EvT X c Γ t) (h1 : t = true → Ss X p { k with nx := Ss X sts k } Γ) (h2 : t = false → Ss X q { k with nx := Ss X sts k } Γ) : Ss X (.If c p q pos :: sts) k Γ := ss_cons (s1_if hc h1 h2)
/-- an if without else whose suite is not entered -/
theorem q_ifF {t : Bool} {p : List Stmt} (hc : EvT X c Γ t) (ht : t = false) (h : Ss X sts k Γ) : Ss X (.If c p [] pos :: sts) k Γ := ss_cons (s1_if hc (fun z => by rw [ht] at z; cases z) fun _ => ss_nil h)
theorem q_ifT {t : Bool} {p q : List Stmt} (hc : EvT X c Γ t) (ht : t = true) (h : Ss X p { k with nx := Ss X sts k } Γ) : Ss X (.If c p q pos :: sts) k Γ := ss_cons (s1_if hc (fun _ => h) fun z => by rw [ht] at z; cases z)
theorem q_raise {m : Str} {j : Nat} {p q : Pos} (hc : X.calm = true) (C : XC X.K X.mg n) (h : Nms X N VL GL SL) (g : Mm GL n) (t : k.ex n Γ) : Ss X (.Raise (some (.Call (.Name n p) [.Constant (.str m) j q] [] p2)) none pos :: sts) k Γ := ss_cons (s1_raise hc C t (okG_ok (h.g g)).1 (okG_ok (h.g g)).2.1)
/-- a comprehension: its names, told once -/
theorem u_lc {α : Type} {own : List (Str × Nat)} {sc scope : Scope} {tg iter elt : Expr} {ifs : List Expr} {ys : List α} {enc : α → D} {p : α → Bool} {f : α → D} {GB VB : List Str} (hc : X.calm = true) (h : Nms X N VL GL SL) (hsc : X.env.scope = sc) (src : Src X false tg iter Γ (ys.map enc)) (ok : (blkC N sc scope own && (allN (relS scope sc) VB && (allG (relS scope sc) GB && allS (relS scope sc) (fun x => scope.names.lookup x == some .cell) (own.map (·.1))))) = true) (len : ys.length ≤ 100000)
    (tn : ∀ a : α, a ∈ ys → ∃ Γ', ∀ (s : Shared) (H0 : Hp) (C : Addr) (cl : List (Str × Addr)) (fp : List Addr), Nms (Blk X scope s H0 C cl fp) N VB GB (own.map (·.1)) → TgD (Blk X scope s H0 C cl fp) tg (own.map (·.2)) (enc a) (wipeS Γ (own.map (·.2))) Γ' ∧ EvTs (Blk X scope s H0 C cl fp) ifs Γ' (p a) ∧ (p a = true → EvD (Blk X scope s H0 C cl fp) elt Γ' (f a)))
    (hs : ∀ x, foldedSetIterable iter X.env x = pure x := by intro _; rfl) : EvD X (.ListComp elt [⟨tg, iter, ifs, 0⟩] scope pos) Γ (.list ((ys.filter p).map f)) := by
  subst hsc
  simp only [Bool.and_eq_true] at ok
  obtain ⟨h0, h1, h2, h3⟩ := ok
  refine ev_lc hc (by rw [h.n]; exact h.nd) ⟨src, by rw [h.n]; exact blkOk_by h0, len, fun a ha => ?_⟩ hs
  obtain ⟨Γ', g⟩ := tn a ha
  exact ⟨Γ', fun s H0 C cl fp => g s H0 C cl fp ⟨h.n, h.nd, h1, h2, h3⟩⟩
theorem u_lcH {α : Type} {own : List (Str × Nat)} {sc scope : Scope} {tg iter elt : Expr} {ifs : List Expr} {ys : List α} {enc : α → D} {p : α → Bool} {f : α → D} {GB VB : List Str} (hot : HotC X) (h : Nms X N VL GL SL) (hsc : X.env.scope = sc) (src : EvD X iter Γ (.list (ys.map enc))) (ok : (blkC N sc scope own && (allN (relS scope sc) VB && (allG (relS scope sc) GB && allS (relS scope sc) (fun x => scope.names.lookup x == some .cell) (own.map (·.1))))) = true) (len : ys.length ≤ 100000)
    (tn : ∀ a : α, a ∈ ys → ∃ Γ', ∀ (s : Shared) (H0 : Hp) (C : Addr) (cl : List (Str × Addr)) (fp : List Addr), Nms (Blk X scope s H0 C cl fp) N VB GB (own.map (·.1)) → TgD (Blk X scope s H0 C cl fp) tg (own.map (·.2)) (enc a) (wipeS Γ (own.map (·.2))) Γ' ∧ EvTs (Blk X scope s H0 C cl fp) ifs Γ' (p a) ∧ (p a = true → EvD (Blk X scope s H0 C cl fp) elt Γ' (f a)))
    (hs : ∀ x, foldedSetIterable iter X.env x = pure x := by intro _; rfl) : EvD X (.ListComp elt [⟨tg, iter, ifs, 0⟩] scope pos) Γ (.list ((ys.filter p).map f)) := by
  subst hsc
  simp only [Bool.and_eq_true] at ok
  obtain ⟨h0, h1, h2, h3⟩ := ok
  refine ev_lcH hot (by rw [h.n]; exact h.nd) src (by rw [h.n]; exact blkOk_by h0) len (fun a ha => ?_) hs
  obtain ⟨Γ', g⟩ := tn a ha
  exact ⟨Γ', fun s H0 C cl fp => g s H0 C cl fp ⟨h.n, h.nd, h1, h2, h3⟩⟩
theorem u_range1 {tg : Expr} {n : Int} {p : Pos} (h : Nms X N VL GL SL) (m : Mm GL "range") (fr : FreeL X.mg L) (hL : Mm L "range") (ha : EvW X a Γ (.int n)) (hn : -(2 ^ 62) ≤ n ∧ n < 2 ^ 62) (hs : starEach [a] X.env = [(false, eval a X.env)] := by rfl) : Src X true tg (.Call (.Name "range" p) [a] [] pos) Γ ((List.range n.toNat).map fun k : Nat => .int k) := by
  have e := src_range1 (tg := tg) (pos := pos) (p := p) (fr _ hL) ha hn (okG_ok (h.g m)).1 hs
  unfold rgD at e
  simpa using e
theorem u_range3 {tg : Expr} {lo hi st : Int} {n : Nat} {p : Pos} (h : Nms X N VL GL SL) (m : Mm GL "range") (fr : FreeL X.mg L) (hL : Mm L "range") (ha : EvW X a Γ (.int lo)) (hb : EvW X b Γ (.int hi)) (hc : EvW X c Γ (.int st)) (hn : RgC lo hi st n) (hs : starEach [a, b, c] X.env = (false, eval a X.env) :: starEach [b, c] X.env := by rfl)
    (hs2 : starEach [b, c] X.env = (false, eval b X.env) :: starEach [c] X.env := by rfl) (hs3 : starEach [c] X.env = (false, eval c X.env) :: starEach [] X.env := by rfl) (hpl : (backTo pos (starEach [b, c] X.env)).any (·.1) = false := by rfl) : Src X true tg (.Call (.Name "range" p) [a, b, c] [] pos) Γ ((List.range n).map fun k : Nat => .int (lo + k * st)) :=
  src_range3 (fr _ hL) ha hb hc hn (okG_ok (h.g m)).1 hs hs2 hs3 hpl
theorem u_enum {elts : List Expr} {kk : Nat} {tpos p : Pos} (h : Nms X N VL GL SL) (m : Mm GL "enumerate") (fr : FreeL X.mg L) (hL : Mm L "enumerate") (ha : EvD X a Γ (.list xs)) (hs : starEach [a] X.env = [(false, eval a X.env)] := by rfl) : Src X true (.Tuple elts kk tpos) (.Call (.Name "enumerate" p) [a] [] pos) Γ (xs.zipIdx.map fun q => .tuple [.int (q.2 : Nat), q.1]) := src_enum (fr _ hL) ha (okG_ok (h.g m)).1 hs
theorem u_zip {elts : List Expr} {kk : Nat} {tpos p : Pos} (h : Nms X N VL GL SL) (m : Mm GL "zip") (fr : FreeL X.mg L) (hL : Mm L "zip") (ha : EvD X a Γ (.list xs)) (hb : EvD X b Γ (.list ys)) (hs : starEach [a, b] X.env = (false, eval a X.env) :: starEach [b] X.env := by rfl) (hs2 : starEach [b] X.env = (false, eval b X.env) :: starEach [] X.env := by rfl) (hpl : (backTo pos (starEach [b] X.env)).any (·.1) = false := by rfl) : Src X true (.Tuple elts kk tpos) (.Call (.Name "zip" p) [a, b] [] pos) Γ ((xs.zip ys).map fun q => .tuple [q.1, q.2]) := src_zip (fr _ hL) ha hb (okG_ok (h.g m)).1 hs hs2 hpl
theorem u_tg {vs : List Nat} (h : Nms X N VL GL SL) (g : Mm SL n) (p : Pt N Γ n (.d x) Γ') (hm : ∀ i : Nat, N[i]? = some n → i ∈ vs) : TgD X (.Name n pos) vs x Γ Γ' := tg_nm h.cn p h.nd (okS_ok (h.s g)).1 hm (okS_ok (h.s g)).2
end
/-- a def over data, its context's facts told -/
theorem fn_D2 {P : Program} {w : World} {K : Frg} {mg : Str → Option Value} {base : Heap} {x qual : Str} {params : Arguments} {body : List Stmt} {scope : Scope} {f : Addr} {fd : FuncData} {N ps VL GL SL : List Str} {k : Nat} {F : List D → Oc → Prop} (F0 : FunD K x qual params body scope [] [] f fd) (S : FnScope N ps scope) (hn : (allN scope VL && (allG scope GL && allS scope (fun _ => true) SL)) = true) (gm : mg x = some (.ref f)) (bd : L2.Binds K fd ps [])
    (hlen : ∀ xs o, F xs o → xs.length = ps.length)
    (hbody : ∀ X : Cx, X.prog = P → X.w = w → X.K = K → X.mg = mg → X.base = base → X.env.scope = scope → X.calm = true → Room k X.A → X.A.units + 64 < cLine → Nms X N VL GL SL → ∀ (xs : List D) (o : Oc), F xs o → Ss X body (knO o) (ent N.length xs)) :
    FG P w K mg base (k + 1) x ps.length (spD K mg F) := by
  simp only [Bool.and_eq_true] at hn
  obtain ⟨h1, h2, h3⟩ := hn
  exact ⟨f, fd, ps, rfl, gm, F0.kp, bd, fn_D F0 S hlen fun cdv A outer s H E hr xs o hF => hbody _ rfl rfl rfl rfl rfl rfl rfl hr (by have := hr.un; show (A.deeper _).units + 64 < cLine; omega) ⟨rfl, S.nd, h1, h2, h3⟩ xs o hF⟩
end Wl

end

section
/-! W10: lists of whole numbers as data; conditional tests; small rules. -/
namespace Wl
open PySem PySem.Spec PyProof.Rows L2 HotX L2H LamX
variable [Tb]
abbrev iL (l : List Int) : List D := l.map PyData.int
theorem eqv_str (i j : Str) : PyData.eqv (.str i) (.str j) = decide (i = j) := by
  by_cases h : i = j
  · subst h; simp [PyData.eqv]
  · simp [PyData.eqv, h]
theorem eqvAll_ints : ∀ a b : List Int, PyData.eqvAll (iL a) (iL b) = decide (a = b)
  | [], [] => by simp [PyData.eqvAll]
  | [], b :: bs => by simp [PyData.eqvAll]
  | a :: as, [] => by simp [PyData.eqvAll]
  | a :: as, b :: bs => by
    show PyData.eqvAll (.int a :: iL as) (.int b :: iL bs) = _
    unfold PyData.eqvAll
    rw [eqv_int, eqvAll_ints as bs]
    by_cases h : a = b <;> by_cases g : as = bs <;> simp [h, g]
theorem eqv_ints (a b : List Int) : PyData.eqv (.list (iL a)) (.list (iL b)) = decide (a = b) := by
  unfold PyData.eqv
  exact eqvAll_ints a b
theorem eqvAll_strs : ∀ a b : List Str, PyData.eqvAll (a.map .str) (b.map .str) = decide (a = b)
  | [], [] => by simp [PyData.eqvAll]
  | [], b :: bs => by simp [PyData.eqvAll]
  | a :: as, [] => by simp [PyData.eqvAll]
  | a :: as, b :: bs => by
    show PyData.eqvAll (.str a :: as.map .str) (.str b :: bs.map .str) = _
    unfold PyData.eqvAll
    rw [eqv_str, eqvAll_strs as bs]
    by_cases h : a = b <;> by_cases g : as = bs <;> simp [h, g]
theorem depthAll_ints : ∀ a : List Int, PyData.depthAll (iL a) = 0
  | [] => by simp [PyData.depthAll]
  | a :: as => by
    show PyData.depthAll (.int a :: iL as) = 0
    unfold PyData.depthAll
    rw [depthAll_ints as]
    simp [PyData.depth]
theorem depth_ints (a : List Int) : PyData.depth (.list (iL a)) ≤ 2 := by
  unfold PyData.depth
  rw [depthAll_ints a]
  omega
section
variable {X : Cx} {Γ Γ' : List Sl} {e a b c : Expr} {es : List Expr} {x y z : D} {xs ys : List D} {pos p2 : Pos} {k : Kn} {st : Stmt} {sts : List Stmt} {N GL SL : List Str} {n : Str}
theorem u_enumI {elts : List Expr} {kk : Nat} {tpos p : Pos} {l : List Int} {VL L : List Str} (h : Nms X N VL GL SL) (m : Mm GL "enumerate") (fr : FreeL X.mg L) (hL : Mm L "enumerate") (ha : EvD X a Γ (.list (iL l))) (hs : starEach [a] X.env = [(false, eval a X.env)] := by rfl) : Src X true (.Tuple elts kk tpos) (.Call (.Name "enumerate" p) [a] [] pos) Γ (l.zipIdx.map fun q => .tuple [.int (q.2 : Nat), .int q.1]) := by
  have e := u_enum (elts := elts) (kk := kk) (tpos := tpos) (p := p) (pos := pos) h m fr hL ha hs
  rw [List.zipIdx_map, List.map_map] at e
  exact e
theorem u_zipI {elts : List Expr} {kk : Nat} {tpos p : Pos} {l r : List Int} {VL L : List Str} (h : Nms X N VL GL SL) (m : Mm GL "zip") (fr : FreeL X.mg L) (hL : Mm L "zip") (ha : EvD X a Γ (.list (iL l))) (hb : EvD X b Γ (.list (iL r))) (hs : starEach [a, b] X.env = (false, eval a X.env) :: starEach [b] X.env := by rfl) (hs2 : starEach [b] X.env = (false, eval b X.env) :: starEach [] X.env := by rfl) (hpl : (backTo pos (starEach [b] X.env)).any (·.1) = false := by rfl) : Src X true (.Tuple elts kk tpos) (.Call (.Name "zip" p) [a, b] [] pos) Γ ((l.zip r).map fun q => .tuple [.int q.1, .int q.2]) := by
  have e := u_zip (elts := elts) (kk := kk) (tpos := tpos) (p := p) (pos := pos) h m fr hL ha hb hs hs2 hpl
  rw [show iL l = l.map PyData.int from rfl, show iL r = r.map PyData.int from rfl, List.zip_map, List.map_map] at e
  exact e
theorem cutL_map {α β : Type} (f : α → β) (l : List α) (lo hi : Option Int) : cutL (l.map f) lo hi = (cutL l lo hi).map f := by
  unfold cutL
  rw [List.length_map, ← List.map_drop, ← List.map_take]
theorem evo_none : EvO X none Γ none := True.intro
theorem evo_some {i : Int} (h : EvW X e Γ (.int i)) : EvO X (some e) Γ (some i) := h
theorem ev_slI {l : List Int} {lo hi : Option Expr} {i j : Option Int} (ha : EvW X a Γ (.list (iL l))) (hl : EvO X lo Γ i) (hu : EvO X hi Γ j) : EvD X (.Subscript a (.Slice lo hi none p2) pos) Γ (.list (iL (cutL l i j))) := (ev_slL ha hl hu).is (congrArg PyData.list (cutL_map _ _ _ _))
theorem ev_revI {l : List Int} {k : Nat} {q1 q2 q3 : Pos} (ha : EvW X a Γ (.list (iL l))) : EvD X (.Subscript a (.Slice none none (some (.UnaryOp .USub (.Constant (.int 1) k q1) q2)) q3) pos) Γ (.list (iL l.reverse)) := (ev_rev ha).is (congrArg PyData.list List.map_reverse.symm)
theorem cal_lenI {l : List Int} : CalD X (.builtin "len") [.list (iL l)] (.int (l.length : Nat)) := by
  have h := cal_lenL (X := X) (xs := iL l)
  rw [show (iL l).length = l.length from List.length_map _] at h
  exact h
theorem ev_ixI {l : List Int} {i j : Int} (ha : EvW X a Γ (.list (iL l))) (hb : EvW X b Γ (.int i)) (hz : atI l i = some j) (hs : PlainIx b := by exact fun _ _ => rfl) : EvD X (.Subscript a b pos) Γ (.int j) := ev_ixL ha hb (by
  unfold atI at hz ⊢
  rw [show (iL l).length = l.length from List.length_map _]
  cases q : ixN l.length i with
  | none => rw [q] at hz; cases hz
  | some n =>
    rw [q] at hz
    show (iL l)[n]? = _
    rw [List.getElem?_map, show l[n]? = some j from hz]
    rfl) hs
theorem bin_mulA {i j : Int} (h : CMul i j ∨ CMulW i j) : BinD X .Mult (.int i) (.int j) (.int (i * j)) := h.elim bin_mul bin_mulW
theorem cmp_eqL {l m : List Int} (hu : X.A.units + 64 < cLine) : CmpD X .Eq (.list (iL l)) (.list (iL m)) (decide (l = m)) := by
  rw [← eqv_ints]; exact cmp_eq hu (by have := depth_ints l; omega)
theorem cmp_neL {l m : List Int} (hu : X.A.units + 64 < cLine) : CmpD X .NotEq (.list (iL l)) (.list (iL m)) (!decide (l = m)) := by
  rw [← eqv_ints]; exact cmp_ne hu (by have := depth_ints l; omega)
theorem et_ife {k x y : Bool} (h : EvT X c Γ k) (h1 : k = true → EvT X a Γ x) (h2 : k = false → EvT X b Γ y) : EvT X (.IfExp c a b pos) Γ (if k = true then x else y) := fun B G H σ E Q q pins s I => by
  refine isTrue_IfExp (thn (h B G H σ E (fun k' H' => ∃ G', k' = k ∧ Stp G H G' H') (fun G' H' st => ⟨G', rfl, st⟩) pins s I) fun k' s1 ⟨H1, I1, G1, ek, st⟩ => ?_)
  subst ek
  cases k' with
  | true => exact h1 rfl B G1 H1 σ (E.step st) _ (fun G2 H2 s2 => q G2 H2 (st.trans s2)) pins s1 I1
  | false => exact h2 rfl B G1 H1 σ (E.step st) _ (fun G2 H2 s2 => q G2 H2 (st.trans s2)) pins s1 I1
theorem ev_ifI {k : Bool} {i j : Int} (h : EvT X c Γ k) (h1 : k = true → EvD X a Γ (.int i)) (h2 : k = false → EvD X b Γ (.int j)) : EvD X (.IfExp c a b pos) Γ (.int (if k = true then i else j)) :=
  (ev_ifexp h h1 h2).is (by cases k <;> rfl)
theorem q_setLc {α : Type} {own : List (Str × Nat)} {sc scope : Scope} {tg iter elt : Expr} {ifs : List Expr} {ys : List α} {enc : α → D} {p : α → Bool} {f : α → D} {VL GB VB : List Str} {py spos : Pos} (hc : X.calm = true) (h : Nms X N VL GL SL) (hsc : X.env.scope = sc) (src : Src X false tg iter Γ (ys.map enc)) (ok : (blkC N sc scope own && (allN (relS scope sc) VB && (allG (relS scope sc) GB && allS (relS scope sc) (fun x => scope.names.lookup x == some .cell) (own.map (·.1))))) = true) (len : ys.length ≤ 100000)
    (tn : ∀ a : α, a ∈ ys → ∃ Γ', ∀ (s : Shared) (H0 : Hp) (C : Addr) (cl : List (Str × Addr)) (fp : List Addr), Nms (Blk X scope s H0 C cl fp) N VB GB (own.map (·.1)) → TgD (Blk X scope s H0 C cl fp) tg (own.map (·.2)) (enc a) (wipeS Γ (own.map (·.2))) Γ' ∧ EvTs (Blk X scope s H0 C cl fp) ifs Γ' (p a) ∧ (p a = true → EvD (Blk X scope s H0 C cl fp) elt Γ' (f a)))
    (lo : (decide (sc.names.lookup n = some .local) && ((if sc.kind.isAnnotationScope then ScopeKind.function else sc.kind) == .function && sc.names.lookup n == some .local && py.line == pos.line && !(scope.names.any fun q => q.1 == n && (q.2 == .local || q.2 == .cell)))) = true) {r : List D} (hrr : (ys.filter p).map f = r) (pt : Pt N Γ n (.d (.list r)) Γ') (t : Ss X sts k Γ')
    (hs : ∀ x, foldedSetIterable iter X.env x = pure x := by intro _; rfl) : Ss X (.Assign [.Name n py] (.ListComp elt [⟨tg, iter, ifs, 0⟩] scope pos) spos :: sts) k Γ := by
  subst hsc hrr
  simp only [Bool.and_eq_true] at ok
  obtain ⟨h0, h1, h2, h3⟩ := ok
  obtain ⟨i, e1, e2, _⟩ := pt.at_
  subst e2
  rw [Bool.and_eq_true, decide_eq_true_eq] at lo
  refine ss_cons (s1_setLc hc (by rw [h.n]; exact h.nd) ⟨src, by rw [h.n]; exact blkOk_by h0, len, fun a ha => ?_⟩ t (by rw [h.n]; exact e1) lo.1 ?_ hs)
  · obtain ⟨Γ', g⟩ := tn a ha
    exact ⟨Γ', fun s H0 C cl fp => g s H0 C cl fp ⟨h.n, h.nd, h1, h2, h3⟩⟩
  · exact congrArg (pure : Bool → Sem Bool) lo.2
end
theorem atI_nat {α : Type} (l : List α) (n : Nat) : atI l (n : Int) = l[n]? := by
  unfold atI ixN
  by_cases h : n < l.length
  · rw [if_pos (by omega), if_pos (by omega)]; simp
  · rw [if_pos (by omega), if_neg (by omega), List.getElem?_eq_none (by omega)]; rfl
theorem atI_0 {α : Type} (l : List α) : atI l 0 = l[0]? := atI_nat l 0
theorem atI_m1 {α : Type} (l : List α) : atI l (-1) = l.getLast? := by
  unfold atI ixN
  rw [if_neg (by omega)]
  cases l with
  | nil => simp
  | cons a l =>
    rw [if_pos (by simp only [List.length_cons]; omega)]
    rw [List.getLast?_eq_getElem?]
    simp only [List.length_cons, Option.bind_some]
    congr 1
    omega
/-- a target's slot is told -/
theorem tgm {N : List Str} {n : Str} {vs : List Nat} (h : ((List.range N.length).all fun i => !(N[i]? == some n) || vs.contains i) = true) : ∀ i : Nat, N[i]? = some n → i ∈ vs := fun i hi => by
  have l := (List.getElem?_eq_some_iff.mp hi).1
  have := List.all_eq_true.mp h i (List.mem_range.mpr l)
  simp [hi] at this
  exact this
theorem cmul_l {i j : Int} (h : i.natAbs < 2 ^ 64) : CMul i j ∨ CMulW i j := .inl (.inl (by omega))
theorem cmul_r {i j : Int} (h : j.natAbs < 2 ^ 64) : CMul i j ∨ CMulW i j := .inl (.inr (by omega))
theorem cdiv_s {i j : Int} (h : 0 < j) (h2 : j < 2 ^ 64) : CDivW i j := wide_div (b := 64) h (by omega) (by decide) (by decide)
section
variable {X : Cx} {Γ Γ' : List Sl} {e a b c : Expr} {es : List Expr} {x y z : D} {xs ys : List D} {pos p2 : Pos} {k : Kn} {st : Stmt} {sts : List Stmt} {N VL GL SL L : List Str} {n : Str}
/-- a for over frozen things -/
theorem q_for {α : Type} {tg iter : Expr} {body : List Stmt} {ys : List α} {enc : α → D} (I : Nat → List Sl → Prop) (hc : X.calm = true) (src : Src X true tg iter Γ (ys.map enc)) (h0 : I 0 Γ)
    (hs : ∀ (i : Nat) (a : α) (Γ1 : List Sl), ys[i]? = some a → I i Γ1 → ∃ Γ2 vs, TgD X tg vs (enc a) Γ1 Γ2 ∧ Ss X body { k with nx := I (i + 1), ct := I (i + 1), bk := Ss X sts k } Γ2) (hd : ∀ Γ1, I ys.length Γ1 → Ss X sts k Γ1)
    (hfs : ∀ x, foldedSetIterable iter X.env x = pure x := by intro _; rfl) : Ss X (.For tg iter body [] pos :: sts) k Γ := by
  refine ss_cons (s1_for (k := { k with nx := Ss X sts k }) I hc src h0 (fun i x Γ1 hx hi => ?_) (fun Γ1 h => hd Γ1 (by rw [List.length_map] at h; exact h)) hfs)
  rw [List.getElem?_map] at hx
  obtain ⟨a, ha, rfl⟩ : ∃ a, ys[i]? = some a ∧ enc a = x := by
    cases q : ys[i]? with
    | none => rw [q] at hx; cases hx
    | some a => rw [q] at hx; exact ⟨a, rfl, Option.some.inj hx⟩
  exact hs i a Γ1 ha hi
theorem src_listI {tg : Expr} {l : List Int} (h : EvD X e Γ (.list (iL l))) : Src X true tg e Γ (l.map PyData.int) := src_list h
/-- isinstance(e, C) of the caught one, C a class of the module -/
theorem u_isX {p : Addr × Obj} {Dc : Addr} {T : Str} {Ct : Addr} {b : Bool} {q q1 q2 : Pos} (hp : p ∈ X.pn) (C : ExcC X.K Dc) (hz : Zc (.ref Dc) none p.2) (hf : ∃ vs, p.2.data = .fields vs) (h : Nms X N VL GL SL) (v : Mm VL n) (l : Lk N Γ n (.r (xR p.1))) (m : Mm GL "isinstance") (fr : FreeL X.mg L) (hL : Mm L "isinstance") (mT : Mm GL T) (gT : X.mg T = some (.ref Ct)) (hk : PySem.W.kitOne X.K (.ref Dc) (.ref Ct) = some b)
    (he : starEach [.Name n q2, .Name T q1] X.env = (false, eval (.Name n q2) X.env) :: starEach [.Name T q1] X.env := by rfl) (hpl : (backTo pos (starEach [.Name T q1] X.env)).any (·.1) = false := by rfl) : EvD X (.Call (.Name "isinstance" q) [.Name n q2, .Name T q1] [] pos) Γ (.bool b) := by
  obtain ⟨i, h1, h2⟩ := l.at_
  exact ev_isX hp C hz hf (fr _ hL) (by rw [h.n]; exact h1) h2 (pe_glob (v := .ref Ct) (okG_ok (h.g mT)).1 gT rfl (okG_ok (h.g mT)).2.1) (fun w r => r) hk (okN_ok (h.v v)).1 (okG_ok (h.g m)).1 (okN_ok (h.v v)).2.1 (okN_ok (h.v v)).2.2 he hpl
/-- .. C a class of Python's own -/
theorem u_isXB {p : Addr × Obj} {Dc : Addr} {T : Str} {Tn : String} {b : Bool} {q q1 q2 : Pos} (hp : p ∈ X.pn) (C : ExcC X.K Dc) (hz : Zc (.ref Dc) none p.2) (hf : ∃ vs, p.2.data = .fields vs) (h : Nms X N VL GL SL) (v : Mm VL n) (l : Lk N Γ n (.r (xR p.1))) (m : Mm GL "isinstance") (fr : FreeL X.mg L) (hL : Mm L "isinstance") (mT : Mm GL T) (lT : Mm L T) (hb : bootBuiltins T = some (.type Tn)) (hk : PySem.W.kitOne X.K (.ref Dc) (.type Tn) = some b)
    (he : starEach [.Name n q2, .Name T q1] X.env = (false, eval (.Name n q2) X.env) :: starEach [.Name T q1] X.env := by rfl) (hpl : (backTo pos (starEach [.Name T q1] X.env)).any (·.1) = false := by rfl) : EvD X (.Call (.Name "isinstance" q) [.Name n q2, .Name T q1] [] pos) Γ (.bool b) := by
  obtain ⟨i, h1, h2⟩ := l.at_
  exact ev_isX hp C hz hf (fr _ hL) (by rw [h.n]; exact h1) h2 (pe_bltn (v := .ty Tn) (okG_ok (h.g mT)).1 (fr _ lT) hb rfl (okG_ok (h.g mT)).2.2 (okG_ok (h.g mT)).2.1) (fun w r => r) hk (okN_ok (h.v v)).1 (okG_ok (h.g m)).1 (okN_ok (h.v v)).2.1 (okN_ok (h.v v)).2.2 he hpl
end
/-- the def that names the class of a refusal, its context's facts told -/
theorem fn_Z2 {P : Program} {w : World} {K : Frg} {mg : Str → Option Value} {base : Heap} {nm x : Str} {params : Arguments} {body : List Stmt} {scope : Scope} {f : Addr} {fd : FuncData} {N VL GL SL : List Str} {k : Nat} {clf : Str → Str} {ok : Str → Prop} (F0 : FunD K nm nm params body scope [] [] f fd) (S : FnScope N [x] scope) (hn : (allN scope VL && (allG scope GL && allS scope (fun _ => true) SL)) = true)
    (hbody : ∀ (X : Cx) (p : Addr × Obj) (n : Str), X.prog = P → X.w = w → X.K = K → X.mg = mg → X.base = base → X.env.scope = scope → p ∈ X.pn → HotC X → (∃ vs, p.2.data = .fields vs) → RoomH k X.A → X.A.units + 64 < cLine → Nms X N VL GL SL → ok n → Zc (.ref (clsAt mg n)) none p.2 →
      Ss X body (knO (.ret (.str (clf n)))) (Sl.r (xR p.1) :: List.replicate (N.length - 1) .un)) : FnZ P w K mg base (k + 1) f fd x clf ok := by
  simp only [Bool.and_eq_true] at hn
  obtain ⟨h1, h2, h3⟩ := hn
  exact fn_Z F0 S fun cdv A outer s H E p n hot hr hk hz => hbody _ p n rfl rfl rfl rfl rfl rfl List.mem_cons_self ⟨p, hot, List.mem_cons_self⟩ (let ⟨_, vs, h, _⟩ := hot; ⟨vs, h⟩) hr (by have := hr.un; show (A.deeper _).units + 64 < cLine; omega) ⟨rfl, S.nd, h1, h2, h3⟩ hk hz
end Wl

end

section
/-! W11: the law's own def: stores of three, told(lambda: ..), the rule. -/
namespace Wl
open PySem PySem.Spec PyProof.Rows L2 HotX L2H LamX
variable [Tb]
/-- a compound statement's suites -/
def suiteOf : Stmt → List Stmt
  | .For _ _ b _ _ => b
  | .While _ b _ _ => b
  | .If _ b _ _ => b
  | _ => []
def elseOf : Stmt → List Stmt
  | .For _ _ _ b _ => b
  | .While _ _ b _ => b
  | .If _ _ b _ => b
  | _ => []
section
variable {X : Cx} {Γ Γ' Γ1 Γ2 : List Sl} {e a b c : Expr} {es : List Expr} {x y z : D} {xs ys : List D} {pos p2 : Pos} {k : Kn} {st : Stmt} {sts : List Stmt} {N VL GL SL L : List Str} {n m o : Str}
theorem swapped_sc {ts : List Expr} {v : Expr} {env env' : PySem.Env} (h : env.scope = env'.scope) : swappedStores ts v env = swappedStores ts v env' := by
  have h1 : env.blockKind = env'.blockKind := by unfold Env.blockKind; rw [h]
  have h2 : env.kindOf = env'.kindOf := by funext q; unfold Env.kindOf; rw [h]
  unfold swappedStores
  rw [h1, h2]
/-- a, b, c = x, y, z -/
theorem q_par3 {sc : Scope} {px py pz pt : Pos} {kt k2 : Nat} {pt2 : Pos} {spos : Pos} (hc : X.calm = true) (h : Nms X N VL GL SL) (hsc : X.env.scope = sc) (he : EvA X [a, b, c] Γ [x, y, z]) (q1 : Pt N Γ n (.d x) Γ1) (q2 : Pt N Γ1 m (.d y) Γ2) (q3 : Pt N Γ2 o (.d z) Γ')
    (hd : (decide (n ≠ m) && (decide (n ≠ o) && (decide (m ≠ o) && (decide (sc.names.lookup n = some .local) && (decide (sc.names.lookup m = some .local) && decide (sc.names.lookup o = some .local)))))) = true)
    (hw : swappedStores [.Tuple [.Name n px, .Name m py, .Name o pz] kt pt] (.Tuple [a, b, c] k2 pt2) (envOfC Str.empty sc 0 0 .none) = pure (some [n, m, o])) (t : Ss X sts k Γ') (hs : swapsWithSole [.Tuple [.Name n px, .Name m py, .Name o pz] kt pt] (.Tuple [a, b, c] k2 pt2) spos.line X.env = pure false := by rfl) :
    Ss X (.Assign [.Tuple [.Name n px, .Name m py, .Name o pz] kt pt] (.Tuple [a, b, c] k2 pt2) spos :: sts) k Γ := by
  subst hsc
  simp only [Bool.and_eq_true, decide_eq_true_eq] at hd
  obtain ⟨d1, d2, d3, l1, l2, l3⟩ := hd
  obtain ⟨i, e1, f1, _⟩ := q1.at_
  obtain ⟨j, e2, f2, _⟩ := q2.at_
  obtain ⟨l, e3, f3, _⟩ := q3.at_
  subst f1 f2 f3
  have ne : ∀ {i j : Nat} {n m : Str}, n ≠ m → N[i]? = some n → N[j]? = some m → i ≠ j := fun d e f z => d (Option.some.inj (e.symm.trans (z ▸ f)))
  exact ss_cons (s1_par3 he t hc (by rw [h.n]; exact h.nd) (by rw [h.n]; exact e1) (by rw [h.n]; exact e2) (by rw [h.n]; exact e3) (ne d1 e1 e2) (ne d2 e1 e3) (ne d3 e2 e3) l1 l2 l3 ((swapped_sc (env' := envOfC Str.empty X.env.scope 0 0 .none) rfl).trans hw) hs)
/-- a target of several names, one by one -/
theorem q_asg {sc : Scope} {tg : Expr} {vs : List Nat} {spos : Pos} (hsc : X.env.scope = sc) (he : EvD X e Γ x) (ht : TgD X tg vs x Γ Γ') (hw : swappedStores [tg] e (envOfC Str.empty sc 0 0 .none) = pure none) (t : Ss X sts k Γ') (hs : swapsWithSole [tg] e spos.line X.env = pure false := by rfl) (h1 : (assignEach [tg] X.env).map (·.2) = [assign tg X.env] := by rfl) : Ss X (.Assign [tg] e spos :: sts) k Γ := by
  subst hsc
  exact ss_cons (s1_asg he ht t hs ((swapped_sc (env' := envOfC Str.empty X.env.scope 0 0 .none) rfl).trans hw) h1)
/-- what stands for told(lambda: ..) in the law -/
structure TL (X : Cx) (x : Str) (clf : Str → Str) (ok : Str → Prop) (k : Nat) : Prop where
  ex : ∃ (a : Str) (g c P : Addr) (kz : Nat), ToldF X x a g clf ok kz ∧ X.mg x = some (.ref g) ∧ TabB X.base X.mg c P ∧ X.env.code = .ref c ∧ (P, X.env.qual ++ "<lambda>") ∈ Tb.T ∧ (∀ p ∈ Tb.T, p.1 = P → p.2 = X.env.qual ++ "<lambda>") ∧ Room (k + 2) X.A ∧ kz ≤ k
/-- the context of such a lambda's body -/
def LamX' (X X' : Cx) (scope : Scope) : Prop := X'.prog = X.prog ∧ X'.w = X.w ∧ X'.K = X.K ∧ X'.mg = X.mg ∧ X'.base = X.base ∧ X'.N = X.N ∧ X'.env.scope = scope ∧ X'.calm = true
theorem u_told {f : Str} {clf : Str → Str} {ok : Str → Prop} {k : Nat} {params : Arguments} {body : Expr} {sc scope : Scope} {o : Oc} {z : D} {p lpos pos : Pos} {VB GB : List Str} (T : TL X f clf ok k) (h : Nms X N VL GL SL) (g : Mm GL f) (hsc : X.env.scope = sc) (hL : (lamSB sc scope && (allN scope VB && allG scope GB)) = true)
    (hbody : ∀ X' : Cx, (∀ (k : Nat) (n : Str) (m : Nat) (F : List D → Oc → Prop), FG X.prog X.w X.K X.mg X.base k n m (spD X.K X.mg F) → FG X'.prog X'.w X'.K X'.mg X'.base k n m (spD X'.K X'.mg F)) → X'.mg = X.mg → X'.calm = true → Room k X'.A → Nms X' N VB GB [] → EvX X' body Γ o)
    (ho : Tells clf ok o z) (hdef : defaultsOf params X.env = ([], []) := by rfl) (hbind : ∀ (q : Str) (cl : List (Str × Addr)) (pm cv ctv : Value), bindArgs (PySem.W.kla_fn "<lambda>" q params body scope cl pm cv ctv) ⟨[], []⟩ = pure [] := by intro _ _ _ _ _; rfl) :
    EvD X (.Call (.Name f p) [.Lambda params body scope lpos] [] pos) Γ z := by
  obtain ⟨a, g0, c, P, kz, TF, hm, TB, hcode, hmT, hu, hr, hkz⟩ := T.ex
  subst hsc
  simp only [Bool.and_eq_true] at hL
  obtain ⟨l1, l2, l3⟩ := hL
  exact ev_told TF hm (okG_ok (h.g g)).1 (fun A outer s H E f c' hr2 => hbody _ (fun _ _ _ _ h => h) rfl rfl hr2 ⟨h.n, h.nd, l2, l3, rfl⟩) ho TB hcode hmT hu hr hkz (lamS_by l1) hdef hbind (okG_ok (h.g g)).2.1
end
/-- the law's def: the code object's facts told too -/
theorem fn_L {P : Program} {w : World} {K : Frg} {mg : Str → Option Value} {base : Heap} {x : Str} {params : Arguments} {body : List Stmt} {scope : Scope} {f : Addr} {fd : FuncData} {N ps VL GL SL : List Str} {k : Nat} {F : List D → Oc → Prop} (F0 : FunD K x x params body scope [] [] f fd) (S : FnScope N ps scope) (hn : (allN scope VL && (allG scope GL && allS scope (fun _ => true) SL)) = true)
    (hlen : ∀ xs o, F xs o → xs.length = ps.length)
    (hbody : ∀ X : Cx, X.prog = P → X.w = w → X.K = K → X.mg = mg → X.base = base → X.env.scope = scope → X.calm = true → Room k X.A → X.A.units + 64 < cLine → Nms X N VL GL SL → X.env.code = fd.code → X.env.qual = x ++ ".<locals>." → ∀ (xs : List D) (o : Oc), F xs o → Ss X body (knO o) (ent N.length xs)) :
    FnOk P w K mg base (L2N.CX P w) (k + 1) f fd ps (spD K mg F) := by
  simp only [Bool.and_eq_true] at hn
  obtain ⟨h1, h2, h3⟩ := hn
  obtain ⟨oc, od, dV, kV, doc, pm, an, cdv, ct, osl, rfl, lk, hcd, hD, hK⟩ := F0.ex
  refine fn_of lk hcd S (fun vs H Q E ⟨G, xs, o, _, _, _, d, hF, _⟩ => by rw [d.len]; exact hlen xs o hF) fun A outer s H vs Q E hr ⟨G, xs, o, e, tb, nt, d, hF, q⟩ => ⟨wSs _ body, pss_w, ?_⟩
  have En := env_start (N := N) e tb nt d
  refine wSs_mono (hbody _ rfl rfl rfl rfl rfl rfl rfl hr (by have := hr.un; show (A.deeper _).units + 64 < cLine; omega) ⟨rfl, S.nd, h1, h2, h3⟩ rfl rfl xs o hF ⟨G, H, []⟩ G H _ En ⟨fun cls d _ H' => E cls d H', L2N.takes_of rfl rfl rfl rfl, passes_of rfl, fun c σ G' H' Γ E' z => ?_⟩) (fun σ' H' ⟨G', Γ', E', z⟩ => ?_) (fun v' H' ⟨G', σ', s', Γ', E', y, z1, z2⟩ => ?_) (fun _ _ ⟨_, _, _, z⟩ => z) (fun _ _ ⟨_, _, _, z⟩ => z)
  · have z : o = .exc c := z
    subst z
    exact q G' H' E'.stp
  · have z : o = .ret .none := z
    subst z
    exact q .non G' H' E'.stp .non
  · subst z1 z2
    obtain ⟨v, hv, dv⟩ := E'.get_d (i := 0) rfl
    cases hv
    exact q v' G' H' E'.pop.stp dv
end Wl

end

section
/-! W12: a fresh list beside other values, while, len(set(..)), equal data. -/
namespace Wl
open PySem PySem.Spec PyProof.Rows L2 HotX L2H LamX
variable [Tb]
section
variable {K : Frg} {B : Bs} {G H G' H' : Hp} {σ : L2.St} {Γ : List Sl} {o : Option V} {s : Sl}
/-- a fresh list ahead of the slots -/
theorem Env.pushL (E : Env K B G H σ Γ) {p : Addr} {xs : List D} {vs : List V} (hp : H p = none) (hd : DtAll K G vs xs) : Env K B G (upd H p (.lst vs)) (some (.ref p) :: σ) (.l p xs :: Γ) := by
  obtain ⟨fps, h1, h2, h3⟩ := E.sl
  have gp := E.gh.free hp
  have np : p ∉ fps.flatten := fun z => by
    obtain ⟨o, e, _⟩ := h1.live p z
    rw [hp] at e; cases e
  have E' := E.step (Stp.put (o := .lst vs) E.gh hp)
  refine ⟨E'.gh, E'.g0, E'.new, E'.keep, E'.tab, E'.nt, [p] :: fps, ⟨⟨rfl, rfl, vs, upd_same, hd⟩, h1.mono (Same.refl _) fun a ha => upd_ne fun z => np (z ▸ ha)⟩, ?_, fun a ha => ?_⟩
  · rw [List.flatten_cons]
    exact List.nodup_append.mpr ⟨by simp, h2, fun a ha b hb z => by
      have : a = p := by simpa using ha
      exact np (this ▸ z ▸ hb)⟩
  · rw [List.flatten_cons] at ha
    rcases List.mem_append.mp ha with q | q
    · have : a = p := by simpa using q
      subst this
      exact ⟨gp, E.fre (.inl hp)⟩
    · exact h3 a q
/-- what stands ahead goes into a slot -/
theorem Env.take (E : Env K B G H (o :: σ) (s :: Γ)) {i : Nat} (hi : i < Γ.length) : Env K B G H (σ.set i o) (Γ.set i s) := by
  obtain ⟨fps, h1, h2, h3⟩ := E.sl
  cases fps with
  | nil => exact h1.elim
  | cons fp fps =>
    rw [List.flatten_cons] at h2 h3
    obtain ⟨n1, n2, n3⟩ := List.nodup_append.mp h2
    obtain ⟨fpi, oi, ef, _, _⟩ := h1.2.get (List.getElem?_eq_getElem hi)
    refine ⟨E.gh, E.g0, E.new, E.keep, E.tab, E.nt, fps.set i fp, SlsAt.set h1.1 i h1.2, flatten_oth ef n2 n1 fun a ha => .inr fun z => n3 a ha a z rfl, fun a ha => ?_⟩
    rcases flatten_set_mem ef ha with q | q
    · exact h3 a (List.mem_append_left _ q)
    · exact h3 a (List.mem_append_right _ q)
end
section
variable {X : Cx} {Γ Γ' Γ1 Γ2 : List Sl} {e a b c : Expr} {es fs : List Expr} {x y z : D} {xs ys : List D} {pos p2 p3 : Pos} {k : Kn} {st : Stmt} {sts : List Stmt} {N VL GL SL L : List Str} {n m o : Str}
/-- n, m = [..], b -/
theorem q_par2L {sc : Scope} {px py pt : Pos} {kt k2 : Nat} {pt2 spos : Pos} (hc : X.calm = true) (h : Nms X N VL GL SL) (hsc : X.env.scope = sc) (ha : EvA X es Γ xs) (hb : EvD X b Γ y)
    (hd : (decide (n ≠ m) && (decide (sc.names.lookup n = some .local) && decide (sc.names.lookup m = some .local))) = true) (hw : swappedStores [.Tuple [.Name n px, .Name m py] kt pt] (.Tuple [.List es p2, b] k2 pt2) (envOfC Str.empty sc 0 0 .none) = pure (some [n, m]))
    (t : ∀ p, ∃ Γ1 Γ2, Pt N Γ n (.l p xs) Γ1 ∧ Pt N Γ1 m (.d y) Γ2 ∧ Ss X sts k Γ2) (hl : es.length ≤ 1000 := by decide)
    (hs : swapsWithSole [.Tuple [.Name n px, .Name m py] kt pt] (.Tuple [.List es p2, b] k2 pt2) spos.line X.env = pure false := by rfl) (hs1 : starEach [b] X.env = (false, eval b X.env) :: starEach [] X.env := by rfl) (hs2 : starEach [.List es p2, b] X.env = (false, eval (.List es p2) X.env) :: starEach [b] X.env := by rfl) :
    Ss X (.Assign [.Tuple [.Name n px, .Name m py] kt pt] (.Tuple [.List es p2, b] k2 pt2) spos :: sts) k Γ := by
  subst hsc
  simp only [Bool.and_eq_true, decide_eq_true_eq] at hd
  obtain ⟨d1, l1, l2⟩ := hd
  obtain ⟨Γa, Γb, q1, q2, _⟩ := t 0
  obtain ⟨i, e1, f1, g1⟩ := q1.at_
  obtain ⟨j, e2, f2, _⟩ := q2.at_
  have ij : i ≠ j := fun z => d1 (Option.some.inj (e1.symm.trans (z ▸ e2)))
  refine ss_cons fun B G H σ E xt => ?_
  refine w_ps (ps_par (ta := tCons (tLst (wA X es)) (tCons (wE X b) tNil)) hc (by rw [h.n]; exact h.nd) (by rw [h.n]; exact e1) (by rw [h.n]; exact e2) ij l1 l2 (pa_cons (pe_lst pa_w) (pa_cons pe_w pa_nil hs1) hs2) ((swapped_sc (env' := envOfC Str.empty X.env.scope 0 0 .none) rfl).trans hw) hs) ?_
  refine ha.2 B G H σ E _ fun vs G1 H1 s1 k1 => ⟨by rw [k1.len, ha.1]; exact Nat.le_trans hl (by decide), fun p hp => ?_⟩
  have E1 := (E.step s1).pushL hp k1
  refine hb B _ _ σ E1.pop _ fun u G2 H2 s2 d2 => ⟨.ref p, u, rfl, ?_⟩
  obtain ⟨Γa, Γb, q1, q2, t⟩ := t p
  obtain ⟨i', e1', f1', g1'⟩ := q1.at_
  obtain ⟨j', e2', f2', _⟩ := q2.at_
  have ei : i' = i := (List.getElem?_inj (List.getElem?_eq_some_iff.mp e1').1 h.nd).mp (e1'.trans e1.symm)
  have ej : j' = j := (List.getElem?_inj (List.getElem?_eq_some_iff.mp e2').1 h.nd).mp (e2'.trans e2.symm)
  subst ei ej f1' f2'
  exact ⟨G2, _, ((E1.step s2).take g1).set_d d2 j', t⟩
/-- n, m, o = a, b, [..] -/
theorem q_par3L {sc : Scope} {px py pz pt : Pos} {kt k2 : Nat} {pt2 spos : Pos} (hc : X.calm = true) (h : Nms X N VL GL SL) (hsc : X.env.scope = sc) (ha : EvD X a Γ x) (hb : EvD X b Γ y) (hl3 : EvA X es Γ xs)
    (hd : (decide (n ≠ m) && (decide (n ≠ o) && (decide (m ≠ o) && (decide (sc.names.lookup n = some .local) && (decide (sc.names.lookup m = some .local) && decide (sc.names.lookup o = some .local)))))) = true) (hw : swappedStores [.Tuple [.Name n px, .Name m py, .Name o pz] kt pt] (.Tuple [a, b, .List es p2] k2 pt2) (envOfC Str.empty sc 0 0 .none) = pure (some [n, m, o]))
    (t : ∀ p, ∃ Γ1 Γ2 Γ3, Pt N Γ n (.d x) Γ1 ∧ Pt N Γ1 m (.d y) Γ2 ∧ Pt N Γ2 o (.l p xs) Γ3 ∧ Ss X sts k Γ3) (hl : es.length ≤ 1000 := by decide)
    (hs : swapsWithSole [.Tuple [.Name n px, .Name m py, .Name o pz] kt pt] (.Tuple [a, b, .List es p2] k2 pt2) spos.line X.env = pure false := by rfl) (hs1 : starEach [a, b, .List es p2] X.env = (false, eval a X.env) :: starEach [b, .List es p2] X.env := by rfl) (hs2 : starEach [b, .List es p2] X.env = (false, eval b X.env) :: starEach [.List es p2] X.env := by rfl) (hs3 : starEach [.List es p2] X.env = (false, eval (.List es p2) X.env) :: starEach [] X.env := by rfl) :
    Ss X (.Assign [.Tuple [.Name n px, .Name m py, .Name o pz] kt pt] (.Tuple [a, b, .List es p2] k2 pt2) spos :: sts) k Γ := by
  subst hsc
  simp only [Bool.and_eq_true, decide_eq_true_eq] at hd
  obtain ⟨d1, d2, d3, l1, l2, l3⟩ := hd
  obtain ⟨Γa, Γb, Γc, q1, q2, q3, _⟩ := t 0
  obtain ⟨i, e1, f1, g1⟩ := q1.at_
  obtain ⟨j, e2, f2, g2⟩ := q2.at_
  obtain ⟨l, e3, f3, g3⟩ := q3.at_
  have ne : ∀ {i j : Nat} {n m : Str}, n ≠ m → N[i]? = some n → N[j]? = some m → i ≠ j := fun d e f z => d (Option.some.inj (e.symm.trans (z ▸ f)))
  have inj : ∀ {i j : Nat} {n : Str}, N[i]? = some n → N[j]? = some n → i = j := fun e f => (List.getElem?_inj (List.getElem?_eq_some_iff.mp e).1 h.nd).mp (e.trans f.symm)
  refine ss_cons fun B G H σ E xt => ?_
  refine w_ps (ps_par3 (ta := tCons (wE X a) (tCons (wE X b) (tCons (tLst (wA X es)) tNil))) hc (by rw [h.n]; exact h.nd) (by rw [h.n]; exact e1) (by rw [h.n]; exact e2) (by rw [h.n]; exact e3) (ne d1 e1 e2) (ne d2 e1 e3) (ne d3 e2 e3) l1 l2 l3 (pa_cons pe_w (pa_cons pe_w (pa_cons (pe_lst pa_w) pa_nil hs3) hs2) hs1) ((swapped_sc (env' := envOfC Str.empty X.env.scope 0 0 .none) rfl).trans hw) hs) ?_
  refine ha B G H σ E _ fun u G1 H1 s1 k1 => hb B G1 H1 σ (E.step s1) _ fun v G2 H2 s2 k2 => hl3.2 B G2 H2 σ ((E.step s1).step s2) _ fun vs G3 H3 s3 k3 => ⟨by rw [k3.len, hl3.1]; exact Nat.le_trans hl (by decide), fun p hp => ⟨u, v, .ref p, rfl, ?_⟩⟩
  obtain ⟨Γa, Γb, Γc, q1, q2, q3, t⟩ := t p
  obtain ⟨i', e1', f1', g1'⟩ := q1.at_
  obtain ⟨j', e2', f2', _⟩ := q2.at_
  obtain ⟨l', e3', f3', g3'⟩ := q3.at_
  obtain rfl := inj e1' e1
  obtain rfl := inj e2' e2
  obtain rfl := inj e3' e3
  subst f1' f2' f3'
  have E3 := ((E.step s1).step s2).step s3
  have E4 := ((E3.set_d (dt_mono (s2.g.trans s3.g) _ _ k1) i').set_d (dt_mono s3.g _ _ k2) j').pushL hp k3
  exact ⟨G3, _, E4.take g3', t⟩
theorem q_exprX {oc : Oc} (he : EvX X e Γ oc) (t : match oc with | .ret _ => Ss X sts k Γ | .exc c => k.ex c Γ) (hs : swapsWith e none pos.line X.env = pure false := by rfl) : Ss X (.Expr e pos :: sts) k Γ := ss_cons (s1_exprX (k := { k with nx := Ss X sts k }) he (by cases oc <;> exact t) hs)
/-- while, by a word that falls -/
theorem q_while {body : List Stmt} (I : Nat → List Sl → Prop) (m0 : Nat) (h0 : I m0 Γ)
    (hs : ∀ (m : Nat) (Γ1 : List Sl), I m Γ1 → ∃ t, EvT X c Γ1 t ∧ (t = true → ∃ N : List Sl → Prop, (∀ Γ2, N Γ2 → ∃ m', m' < m ∧ I m' Γ2) ∧ Ss X body { k with nx := N, ct := N, bk := Ss X sts k } Γ1) ∧ (t = false → Ss X sts k Γ1)) : Ss X (.While c body [] pos :: sts) k Γ :=
  ss_cons (s1_while (k := { k with nx := Ss X sts k }) I m0 h0 hs)
/-- how many unlike ones -/
def dst (ns : List Int) : Nat := (PyProof.Rows.firstMet (fun i => ns.getD i 0) ns.length).length
theorem dst_nodup {ns : List Int} (h : ns.Nodup) : dst ns = ns.length := by
  unfold dst
  rw [L2.firstMet_nodup ns h ns.length (Nat.le_refl _), List.take_length]
def tLenSet (K : Frg) (ta : TE) : TE := fun σ H Q => ta σ H fun x H1 => ∃ (l : Addr) (ns : List Int), x = V.ref l ∧ SqL K H1 l (ns.map V.int) ∧ ns.length < 1000 ∧ Q (.int (dst ns : Nat)) H1
theorem pe_lenSet {ta : TE} {p q pp : Pos} (hc : X.calm = true) (hg : Gl X "len") (hm : X.mg "len" = none) (hg2 : Gl X "set") (hm2 : X.mg "set" = none) (ha : PE X a ta) (na : starEach [a] X.env = (false, eval a X.env) :: starEach [] X.env) : PE X (.Call (.Name "len" p) [.Call (.Name "set" pp) [a] [] q] [] pos) (tLenSet X.K ta) := by
  refine ⟨fun pins s σ H Q I h => ?_⟩
  refine Call_ (ld_blt I hg hm PySem.boot_len ?_)
  refine PyProof.Rows.callWith_builtin1 (PyProof.Rows.args_cons ?_ rfl) rfl rfl
  refine Call_ (ld_blt I hg2 hm2 PyProof.Rows.boot_set ?_)
  refine PyProof.Rows.callWith_type1 (PyProof.Rows.args_cons (thn (ha.run pins s σ H _ I h) fun v s1 ⟨x, H1, I1, r1, l, ns, ex, hq, h1, q1⟩ => PyProof.Rows.args_nil ?_) na) na rfl
  subst ex
  cases r1
  obtain ⟨its, r, pl, hz⟩ := I1.list hq
  have hl : its.toArray.size = ns.length := by rw [List.size_toArray, ← r.length, List.length_map]
  refine call_set_list (I1.ok.hd hc) pl.isList (ns := ns) (by simpa using r.ints) (by rw [hl]; unfold scanBound; omega) fun h' tk hS hk => ?_
  rw [hl] at hS
  refine PyProof.Rows.args_nil ?_
  obtain ⟨o, es, ep, t, ho, hex, hd, _, _, _, hf, hn⟩ := hS
  have I2 : Inv X pins σ H1 { s1 with heap := h', toks := tk } := I1.kept fun b o e => hk b o (Heap.lt_size e) e
  have hle : (PyProof.Rows.firstMet (fun i => ns.getD i 0) ns.length).length ≤ ns.length := PyProof.Rows.firstMet_length_le _ _
  exact call_len_set ho hex hd hf (by rw [hn] <;> omega) ⟨.int (dst ns : Nat), H1, I2.tok _, ⟨_, by rw [hn]; rfl⟩, q1⟩
theorem u_lenSet {ns : List Int} {p q pp : Pos} (hc : X.calm = true) (h : Nms X N VL GL SL) (m1 : Mm GL "len") (m2 : Mm GL "set") (fr : FreeL X.mg L) (l1 : Mm L "len") (l2 : Mm L "set") (ha : EvW X a Γ (.list (iL ns))) (hl : ns.length < 1000) (na : starEach [a] X.env = (false, eval a X.env) :: starEach [] X.env := by rfl) :
    EvD X (.Call (.Name "len" p) [.Call (.Name "set" pp) [a] [] q] [] pos) Γ (.int (dst ns : Nat)) := fun B G H σ E Q k =>
  w_pe (pe_lenSet hc (okG_ok (h.g m1)).1 (fr _ l1) (okG_ok (h.g m2)).1 (fr _ l2) pe_w na) (ha B G H σ E _ fun v G1 H1 s1 k1 => by
    obtain ⟨p, vs, rfl, hq, hd⟩ := k1.list s1.gh
    rw [hd.ints] at hq
    exact ⟨p, ns, rfl, hq, hl, k _ G1 H1 s1 (.int _)⟩)
end
theorem src_listD {X : Cx} {Γ : List Sl} {tg e : Expr} {l : List D} (h : EvD X e Γ (.list l)) : Src X true tg e Γ (l.map fun x => x) := by
  rw [List.map_id']
  exact src_list h
/-- the expression of a statement -/
def exprOf : Stmt → Expr
  | .If c _ _ _ => c
  | .While c _ _ _ => c
  | .Assign _ e _ => e
  | .Return (some e) _ => e
  | .Expr e _ => e
  | _ => .Constant .none 0 ⟨0, 0, 0, 0⟩
theorem cutL_m1 {α : Type} (l : List α) : cutL l none (some (-1)) = l.take (l.length - 1) := by
  unfold cutL
  cases l with
  | nil => rfl
  | cons a l =>
    have e1 : HT.sIx (a :: l).length 0 none = 0 := rfl
    have e2 : HT.sIx (a :: l).length (a :: l).length (some (-1)) = l.length := by
      simp [HT.sIx]
      omega
    rw [e1, e2]
    simp
theorem cutL_n {α : Type} (l : List α) (n : Nat) : cutL l (some (n : Int)) none = l.drop n := by
  unfold cutL
  have e2 : HT.sIx l.length l.length none = l.length := rfl
  rw [e2, HT.sIx_nat]
  rcases Nat.le_total n l.length with h | h
  · rw [Nat.min_eq_left h, List.take_of_length_le (by rw [List.length_drop]; omega)]
  · rw [Nat.min_eq_right h, List.drop_length, List.drop_of_length_le h, List.take_nil]
theorem cutL_1 {α : Type} (l : List α) : cutL l (some 1) none = l.drop 1 := cutL_n l 1
/-! ### equal data -/
theorem eqv_self {d : D} (h : d.plain = true) : PyData.eqv d d = true := PySem.SeqAt.eqv_refl_plain d h
end Wl

end

section
/-! Y0: a small language of data and owned trees, what its texts are worth, what they ask. No program in sight. -/
namespace Yl
open PySem L2
abbrev D := PyData
abbrev Frg := PySem.W.Frag
/-! ### values -/
inductive Kd where
  | l
  | t
  | k (ks : List D)
  | i (c : Str) (fs : List Str)
/-- data; a hole (lent out); a node -/
inductive T where
  | d (x : D)
  | h (p : Addr)
  | n (κ : Kd) (cs : List T)
instance : Inhabited T := ⟨.h 0⟩
/-- a slot: nothing, a thing that is only read, a thing of one's own -/
inductive Sl where
  | un
  | w (t : T)
  | o (p : Addr) (t : T)
abbrev Sl.d (x : D) : Sl := .w (.d x)
mutual
def T.dat : T → D
  | .d x => x
  | .h _ => .none
  | .n .l cs => .list (T.dats cs)
  | .n .t cs => .tuple (T.dats cs)
  | .n _ _ => .none
def T.dats : List T → List D
  | [] => []
  | t :: ts => T.dat t :: T.dats ts
end
mutual
def T.isDat : T → Bool
  | .d _ => true
  | .h _ => false
  | .n .l cs => T.areDat cs
  | .n .t cs => T.areDat cs
  | .n _ _ => false
def T.areDat : List T → Bool
  | [] => true
  | t :: ts => T.isDat t && T.areDat ts
end
/-- plainly data -/
def T.sd : T → Bool
  | .d _ => true
  | _ => false
def T.b : T → Bool
  | .d (.bool b) => b
  | _ => false
def T.isB : T → Bool
  | .d (.bool _) => true
  | _ => false
def T.i : T → Int
  | .d (.int i) => i
  | _ => 0
def T.isI : T → Bool
  | .d (.int _) => true
  | _ => false
/-- the items of a list or a tuple; of a dict its keys; of a text its signs -/
def T.kids : T → List T
  | .d (.list xs) => xs.map .d
  | .d (.tuple xs) => xs.map .d
  | .d (.str s) => s.cps.toList.map fun c => .d (.str ⟨#[c]⟩)
  | .n .l cs => cs
  | .n .t cs => cs
  | .n (.k ks) _ => ks.map .d
  | _ => []
def T.isL : T → Bool
  | .d (.list _) => true
  | .n .l _ => true
  | _ => false
def T.isT : T → Bool
  | .d (.tuple _) => true
  | .n .t _ => true
  | _ => false
def T.isS : T → Bool
  | .d (.str _) => true
  | _ => false
def T.isK : T → Bool
  | .n (.k _) _ => true
  | _ => false
def T.s : T → Str
  | .d (.str s) => s
  | _ => Str.empty
/-- what new things are made of: plain data, a list of plain data -/
def T.one : T → Bool
  | .d _ => true
  | .n .l cs => cs.all T.sd
  | _ => false
/-! ### operators -/
inductive Bop | add | sub | mul | div | mod | pow
inductive Cop | lt | le | gt | ge | eq | ne | is | isn | inn | nin
def binV : Bop → D → D → D
  | .add, .int i, .int j => .int (i + j)
  | .add, .list xs, .list ys => .list (xs ++ ys)
  | .add, .tuple xs, .tuple ys => .tuple (xs ++ ys)
  | .add, .str a, .str b => .str (a ++ b)
  | .sub, .int i, .int j => .int (i - j)
  | .mul, .int i, .int j => .int (i * j)
  | .div, .int i, .int j => .int (i / j)
  | .mod, .int i, .int j => .int (i % j)
  | .pow, .int i, .int j => .int (i ^ j.toNat)
  | _, _, _ => .none
def binOk : Bop → D → D → Prop
  | .add, .int _, .int _ => True
  | .add, .list xs, .list ys => xs.length + ys.length ≤ sizeLine
  | .add, .tuple xs, .tuple ys => xs ≠ [] ∧ xs.length + ys.length ≤ sizeLine
  | .add, .str a, .str b => a.length + b.length ≤ sizeLine
  | .sub, .int _, .int _ => True
  | .mul, .int i, .int j => CMul i j ∨ CMulW i j
  | .div, .int i, .int j => CDivW i j
  | .mod, .int _, .int j => 0 < j
  | .pow, .int i, .int j => CPow i j
  | _, _, _ => False
/-- is x one of these keys -/
def hasK (ks : List D) (x : D) : Bool := ks.any fun k => PyData.eqv k x
def keyT : D → Bool
  | .int _ => true
  | .str _ => true
  | _ => false
def eqD : D → D → Bool
  | .int i, .int j => decide (i = j)
  | .str i, .str j => decide (i = j)
  | .bool i, .bool j => decide (i = j)
  | x, y => PyData.eqv x y
def T.isN : T → Bool
  | .d .none => true
  | _ => false
def inV (a : T) : T → Bool
  | .n (.k ks) _ => hasK ks a.dat
  | .d (.str z) => decide (a.s.cps.toList.getD 0 0 ∈ z.cps.toList)
  | b => Wl.inD a.dat (T.dats b.kids)
def inOk (a : T) : T → Prop
  | .n (.k _) _ => a.sd = true ∧ keyT a.dat = true
  | .d (.str _) => a.isS = true ∧ a.s.cps.size = 1
  | b => a.isDat = true ∧ b.isDat = true ∧ (b.isL = true ∨ b.isT = true) ∧ min (PyData.depthAll (T.dats b.kids)) a.dat.depth ≤ 60
def cmpV : Cop → T → T → Bool
  | .lt, a, b => decide (a.i < b.i)
  | .le, a, b => decide (a.i ≤ b.i)
  | .gt, a, b => decide (b.i < a.i)
  | .ge, a, b => decide (b.i ≤ a.i)
  | .eq, a, b => eqD a.dat b.dat
  | .ne, a, b => !eqD a.dat b.dat
  | .is, a, _ => a.isN
  | .isn, a, _ => !a.isN
  | .inn, a, b => inV a b
  | .nin, a, b => !inV a b
def cmpOk : Cop → T → T → Prop
  | .lt, a, b => a.isI = true ∧ b.isI = true
  | .le, a, b => a.isI = true ∧ b.isI = true
  | .gt, a, b => a.isI = true ∧ b.isI = true
  | .ge, a, b => a.isI = true ∧ b.isI = true
  | .eq, a, b => a.isDat = true ∧ b.isDat = true ∧ min a.dat.depth b.dat.depth ≤ 60
  | .ne, a, b => a.isDat = true ∧ b.isDat = true ∧ min a.dat.depth b.dat.depth ≤ 60
  | .is, a, b => a.isDat = true ∧ b.isN = true
  | .isn, a, b => a.isDat = true ∧ b.isN = true
  | .inn, a, b => inOk a b
  | .nin, a, b => inOk a b ∧ b.isS = false
/-- the child of a dict's key -/
def keyAt : List D → List T → D → Option T
  | k :: ks, c :: cs, x => if PyData.eqv k x = true then some c else keyAt ks cs x
  | _, _, _ => none
def ixA : T → T → Option T
  | .n (.k ks) cs, b => keyAt ks cs b.dat
  | .d (.str s), b => (atI s.cps.toList b.i).map fun c => .d (.str ⟨#[c]⟩)
  | a, b => atI a.kids b.i
def ixOk : T → T → Prop
  | .n (.k ks) cs, b => b.sd = true ∧ keyT b.dat = true ∧ (keyAt ks cs b.dat).isSome = true
  | .d (.str s), b => b.isI = true ∧ s.length ≤ sizeLine ∧ (atI s.cps.toList b.i).isSome = true
  | a, b => b.isI = true ∧ (a.isL = true ∨ a.isT = true) ∧ (atI a.kids b.i).isSome = true
def slV : T → Option Int → Option Int → D
  | .d (.str s), lo, hi => .str (cutS s lo hi)
  | .d (.tuple xs), lo, hi => .tuple (Wl.cutL xs lo hi)
  | a, lo, hi => .list (Wl.cutL (T.dats a.kids) lo hi)
def slOk : T → Option Int → Option Int → Prop
  | .d (.str s), _, _ => s.length ≤ sizeLine
  | .d (.tuple xs), lo, hi => ¬ (HT.sIx xs.length 0 lo = 0 ∧ HT.sIx xs.length xs.length hi = xs.length)
  | .d (.list _), _, _ => True
  | .n .l cs, _, _ => cs.all T.sd = true
  | _, _, _ => False
/-- the child of an attribute -/
def fldAt : List Str → List T → Str → Option T
  | k :: ks, c :: cs, x => if k = x then some c else fldAt ks cs x
  | _, _, _ => none
def fldA : T → Str → Str → Option T
  | .n (.i c fs) cs, c', f => if c = c' then fldAt fs cs f else none
  | _, _, _ => none
/-- an instance of c, without an attribute m -/
def isIns : T → Str → Str → Bool
  | .n (.i c fs) _, c', m => decide (c = c') && !fs.contains m
  | _, _, _ => false
inductive Ik | int | bool | str | tuple | list
def isV : Ik → T → Bool
  | .int, .d x => Wl.isInt x
  | .bool, .d x => Wl.isBool x
  | .str, .d x => Wl.isStr x
  | .tuple, t => t.isT
  | .list, t => t.isL
  | _, _ => false
def isOk : T → Prop
  | .d _ => True
  | .n .l _ => True
  | .n .t _ => True
  | _ => False
/-! ### built-ins -/
def intsD : List D → Option (List Int)
  | [] => some []
  | .int i :: xs => (intsD xs).map (i :: ·)
  | _ => none
def boolsD : List D → Option (List Bool)
  | [] => some []
  | .bool i :: xs => (boolsD xs).map (i :: ·)
  | _ => none
inductive Bi | len | abs | max2 | min2 | max1 | min1 | sum | all | sorted | intB | intS | strI | list | tuple | lrng | trng | lset
def biV : Bi → List T → D
  | .len, [.d (.str s)] => .int s.length
  | .len, [a] => .int (a.kids.length : Nat)
  | .abs, [a] => .int (if a.i < 0 then -a.i else a.i)
  | .max2, [a, b] => .int (max a.i b.i)
  | .min2, [a, b] => .int (min a.i b.i)
  | .max1, [a] => .int (Wl.maxL ((intsD (T.dats a.kids)).getD []))
  | .min1, [a] => .int (Wl.minL ((intsD (T.dats a.kids)).getD []))
  | .sum, [a] => .int ((intsD (T.dats a.kids)).getD []).sum
  | .all, [a] => .bool (((boolsD (T.dats a.kids)).getD []).all id)
  | .sorted, [a] => .list ((Wl.sortI ((intsD (T.dats a.kids)).getD [])).map .int)
  | .intB, [a] => .int (if a.b = true then 1 else 0)
  | .intS, [a] => .int ((PySem.intText? a.s).getD 0)
  | .strI, [a] => .str (toString a.i)
  | .list, [a] => .list (T.dats a.kids)
  | .tuple, [a] => .tuple (T.dats a.kids)
  | .lrng, [a] => .list ((List.range a.i.toNat).map fun k => .int (k : Nat))
  | .trng, [a] => .tuple ((List.range a.i.toNat).map fun k => .int (k : Nat))
  | .lset, [a] => .int (Wl.dst ((intsD (T.dats a.kids)).getD []) : Nat)
  | _, _ => .none
def biOk : Bi → List T → Prop
  | .len, [a] => (a.isS = true ∧ a.s.length ≤ sizeLine) ∨ a.isL = true ∨ a.isT = true ∨ a.isK = true
  | .abs, [a] => a.isI = true
  | .max2, [a, b] => a.isI = true ∧ b.isI = true
  | .min2, [a, b] => a.isI = true ∧ b.isI = true
  | .max1, [a] => a.isL = true ∧ a.one = true ∧ ∃ ns, intsD (T.dats a.kids) = some ns ∧ 0 < ns.length
  | .min1, [a] => a.isL = true ∧ a.one = true ∧ ∃ ns, intsD (T.dats a.kids) = some ns ∧ 0 < ns.length
  | .sum, [a] => a.isL = true ∧ a.one = true ∧ ∃ ns, intsD (T.dats a.kids) = some ns
  | .all, [a] => a.isL = true ∧ a.one = true ∧ ∃ ns, boolsD (T.dats a.kids) = some ns
  | .sorted, [a] => ((a.isL = true ∧ a.one = true) ∨ (a.isK = true ∧ a.kids.length < 64)) ∧ ∃ ns, intsD (T.dats a.kids) = some ns
  | .intB, [a] => a.isB = true
  | .intS, [a] => a.isS = true ∧ (PySem.intText? a.s).isSome = true ∧ a.s.length ≤ 640
  | .strI, [a] => a.isI = true ∧ a.i.natAbs.log2 < 1920
  | .list, [a] => (a.isL = true ∨ a.isT = true) ∧ a.one = true
  | .tuple, [a] => a.isL = true ∧ a.one = true
  | .lrng, [a] => a.isI = true ∧ 0 ≤ a.i ∧ a.i ≤ 1000
  | .trng, [a] => a.isI = true ∧ 0 ≤ a.i ∧ a.i ≤ 1000
  | .lset, [a] => a.isL = true ∧ a.one = true ∧ ∃ ns, intsD (T.dats a.kids) = some ns ∧ ns.length < 1000
  | _, _ => False
/-! ### expressions that change nothing -/
inductive Ou where
  | ret (x : D)
  | exc (n : Str)
def Ou.x : Ou → D
  | .ret x => x
  | .exc _ => .none
def Ou.isR : Ou → Bool
  | .ret _ => true
  | .exc _ => false
/-- a def that changes nothing: what it asks, what it tells -/
structure PF where
  pre : List T → Prop
  out : List T → Ou
inductive Tg where
  | n (i : Nat)
  | t (is : List Nat)
mutual
inductive Ex where
  | v (i : Nat)
  | g (n : Str) (x : D)
  | gk (n : Str) (ks : List Str) (vs : List Int) (e : Ex)
  | c (x : D)
  | bin (o : Bop) (a b : Ex)
  | rep (es : Exs) (b : Ex)
  | neg (a : Ex)
  | no (a : Ex)
  | cmp (o : Cop) (a b : Ex)
  | ch (o1 o2 : Cop) (a b c : Ex)
  | an (a b : Ex)
  | or (a b : Ex)
  | on (a : Ex)
  | ite (c a b : Ex)
  | tup (es : Exs)
  | lst (es : Exs)
  | ix (a b : Ex)
  | sl (a : Ex) (lo hi : Ox)
  | rev (a : Ex)
  | fld (a : Ex) (c f : Str)
  | isi (k : Ik) (a : Ex)
  | bi (b : Bi) (es : Exs)
  | call (F : PF) (f : Str) (es : Exs)
  | meth (F : PF) (c m : Str) (a : Ex) (es : Exs)
  | lc (tg : Tg) (s : Sr) (p : Ex) (e : Ex)
inductive Exs where
  | nil
  | cons (e : Ex) (es : Exs)
inductive Ox where
  | no
  | so (e : Ex)
inductive Sr where
  | it (a : Ex)
  | r1 (a : Ex)
  | r2 (a b : Ex)
  | r3 (a b c : Ex)
  | en (a : Ex)
  | zp (a b : Ex)
end
def rd (Γ : List Sl) (i : Nat) : T := match Γ[i]? with
  | some (.w t) => t
  | some (.o _ t) => t
  | _ => .h 0
def set_ (Γ : List Sl) (i : Nat) (s : Sl) : List Sl := Γ.set i s
def binds : List Nat → List T → List Sl → List Sl
  | i :: is, t :: ts, Γ => binds is ts (Γ.set i (.w t))
  | _, _, Γ => Γ
def bind : Tg → T → List Sl → List Sl
  | .n i, t, Γ => Γ.set i (.w t)
  | .t is, t, Γ => binds is t.kids Γ
def bindOk : Tg → T → Prop
  | .n _, _ => True
  | .t is, t => t.isT = true ∧ t.kids.length = is.length
/-- how many turns range(a, b, c) has, c above nought -/
def rgn (a b c : Int) : Nat := ((b - a + c - 1) / c).toNat
mutual
def val : Ex → List Sl → T
  | .v i, Γ => rd Γ i
  | .g _ x, _ => .d x
  | .gk _ ks vs e, Γ => .d (.int ((((ks.zip vs).lookup (val e Γ).s)).getD 0))
  | .c x, _ => .d x
  | .bin o a b, Γ => .d (binV o (val a Γ).dat (val b Γ).dat)
  | .rep es b, Γ => .d (.list (List.replicate (val b Γ).i.toNat (T.dats (vals es Γ))).flatten)
  | .neg a, Γ => .d (.int (-(val a Γ).i))
  | .no a, Γ => .d (.bool (!(val a Γ).b))
  | .cmp o a b, Γ => .d (.bool (cmpV o (val a Γ) (val b Γ)))
  | .ch o1 o2 a b c, Γ => .d (.bool (cmpV o1 (val a Γ) (val b Γ) && cmpV o2 (val b Γ) (val c Γ)))
  | .an a b, Γ => .d (.bool ((val a Γ).b && (val b Γ).b))
  | .or a b, Γ => .d (.bool ((val a Γ).b || (val b Γ).b))
  | .on a, Γ => val a Γ
  | .ite c a b, Γ => if (val c Γ).b = true then val a Γ else val b Γ
  | .tup es, Γ => .d (.tuple (T.dats (vals es Γ)))
  | .lst es, Γ => .d (.list (T.dats (vals es Γ)))
  | .ix a b, Γ => (ixA (val a Γ) (val b Γ)).getD (.h 0)
  | .sl a lo hi, Γ => .d (slV (val a Γ) (valo lo Γ) (valo hi Γ))
  | .rev a, Γ => .d (.list (T.dats (val a Γ).kids).reverse)
  | .fld a c f, Γ => (fldA (val a Γ) c f).getD (.h 0)
  | .isi k a, Γ => .d (.bool (isV k (val a Γ)))
  | .bi b es, Γ => .d (biV b (vals es Γ))
  | .call F _ es, Γ => .d ((F.out (vals es Γ)).x)
  | .meth F _ _ a es, Γ => .d ((F.out (val a Γ :: vals es Γ)).x)
  | .lc tg s p e, Γ => .d (.list (((items s Γ).filter fun t => (val p (bind tg t Γ)).b).map fun t => (val e (bind tg t Γ)).dat))
def vals : Exs → List Sl → List T
  | .nil, _ => []
  | .cons e es, Γ => val e Γ :: vals es Γ
def valo : Ox → List Sl → Option Int
  | .no, _ => none
  | .so e, Γ => some (val e Γ).i
def items : Sr → List Sl → List T
  | .it a, Γ => (val a Γ).kids
  | .r1 a, Γ => (List.range (val a Γ).i.toNat).map fun k => .d (.int (k : Nat))
  | .r2 a b, Γ => (List.range ((val b Γ).i - (val a Γ).i).toNat).map fun k => .d (.int ((val a Γ).i + (k : Nat)))
  | .r3 a b c, Γ => (List.range (rgn (val a Γ).i (val b Γ).i (val c Γ).i)).map fun k => .d (.int ((val a Γ).i + (k : Nat) * (val c Γ).i))
  | .en a, Γ => (val a Γ).kids.zipIdx.map fun q => .n .t [.d (.int (q.2 : Nat)), q.1]
  | .zp a b, Γ => ((val a Γ).kids.zip (val b Γ).kids).map fun q => .n .t [q.1, q.2]
end
def allSd (ts : List T) : Bool := ts.all T.sd
mutual
def ok : Ex → List Sl → Prop
  | .v i, Γ => (match Γ[i]? with | some .un => False | none => False | _ => True)
  | .g _ _, _ => True
  | .gk _ ks vs e, Γ => ok e Γ ∧ (val e Γ).isS = true ∧ ((ks.zip vs).lookup (val e Γ).s).isSome = true
  | .c _, _ => True
  | .bin o a b, Γ => ok a Γ ∧ ok b Γ ∧ (val a Γ).one = true ∧ (val b Γ).one = true ∧ binOk o (val a Γ).dat (val b Γ).dat
  | .rep es b, Γ => oks es Γ ∧ allSd (vals es Γ) = true ∧ ok b Γ ∧ (val b Γ).isI = true ∧ 0 ≤ (val b Γ).i ∧ (val b Γ).i < 1000 ∧ (vals es Γ).length ≤ 1000
  | .neg a, Γ => ok a Γ ∧ (val a Γ).isI = true
  | .no a, Γ => ok a Γ ∧ (val a Γ).isB = true
  | .cmp o a b, Γ => ok a Γ ∧ ok b Γ ∧ cmpOk o (val a Γ) (val b Γ)
  | .ch o1 o2 a b c, Γ => ok a Γ ∧ ok b Γ ∧ cmpOk o1 (val a Γ) (val b Γ) ∧ (cmpV o1 (val a Γ) (val b Γ) = true → ok c Γ ∧ cmpOk o2 (val b Γ) (val c Γ))
  | .an a b, Γ => ok a Γ ∧ (val a Γ).isB = true ∧ ((val a Γ).b = true → ok b Γ ∧ (val b Γ).isB = true)
  | .or a b, Γ => ok a Γ ∧ (val a Γ).isB = true ∧ ((val a Γ).b = false → ok b Γ ∧ (val b Γ).isB = true)
  | .on a, Γ => ok a Γ
  | .ite c a b, Γ => ok c Γ ∧ (val c Γ).isB = true ∧ ((val c Γ).b = true → ok a Γ) ∧ ((val c Γ).b = false → ok b Γ)
  | .tup es, Γ => oks es Γ ∧ allSd (vals es Γ) = true ∧ (vals es Γ).length ≤ 1000
  | .lst es, Γ => oks es Γ ∧ allSd (vals es Γ) = true ∧ (vals es Γ).length ≤ 1000
  | .ix a b, Γ => ok a Γ ∧ ok b Γ ∧ ixOk (val a Γ) (val b Γ)
  | .sl a lo hi, Γ => ok a Γ ∧ oko lo Γ ∧ oko hi Γ ∧ slOk (val a Γ) (valo lo Γ) (valo hi Γ)
  | .rev a, Γ => ok a Γ ∧ (val a Γ).isL = true ∧ (val a Γ).one = true
  | .fld a c f, Γ => ok a Γ ∧ (fldA (val a Γ) c f).isSome = true
  | .isi _ a, Γ => ok a Γ ∧ isOk (val a Γ)
  | .bi b es, Γ => oks es Γ ∧ biOk b (vals es Γ)
  | .call F _ es, Γ => oks es Γ ∧ F.pre (vals es Γ) ∧ (F.out (vals es Γ)).isR = true
  | .meth F c m a es, Γ => ok a Γ ∧ isIns (val a Γ) c m = true ∧ oks es Γ ∧ F.pre (val a Γ :: vals es Γ) ∧ (F.out (val a Γ :: vals es Γ)).isR = true
  | .lc tg s p e, Γ => okr s Γ ∧ (items s Γ).length ≤ 100000 ∧ ∀ t, t ∈ items s Γ → bindOk tg t ∧ ok p (bind tg t Γ) ∧ (val p (bind tg t Γ)).isB = true ∧ ((val p (bind tg t Γ)).b = true → ok e (bind tg t Γ) ∧ (val e (bind tg t Γ)).sd = true)
def oks : Exs → List Sl → Prop
  | .nil, _ => True
  | .cons e es, Γ => ok e Γ ∧ oks es Γ
def oko : Ox → List Sl → Prop
  | .no, _ => True
  | .so e, Γ => ok e Γ ∧ (val e Γ).isI = true
def okr : Sr → List Sl → Prop
  | .it a, Γ => ok a Γ ∧ ((val a Γ).isL = true ∨ (val a Γ).isT = true ∨ (val a Γ).isS = true)
  | .r1 a, Γ => ok a Γ ∧ (val a Γ).isI = true ∧ -(2 ^ 62) ≤ (val a Γ).i ∧ (val a Γ).i < 2 ^ 62
  | .r2 a b, Γ => ok a Γ ∧ ok b Γ ∧ (val a Γ).isI = true ∧ (val b Γ).isI = true ∧ -(2 ^ 62) ≤ (val a Γ).i ∧ (val a Γ).i < 2 ^ 62 ∧ -(2 ^ 62) ≤ (val b Γ).i ∧ (val b Γ).i < 2 ^ 62
  | .r3 a b c, Γ => ok a Γ ∧ ok b Γ ∧ ok c Γ ∧ (val a Γ).isI = true ∧ (val b Γ).isI = true ∧ (val c Γ).isI = true ∧ RgC (val a Γ).i (val b Γ).i (val c Γ).i (rgn (val a Γ).i (val b Γ).i (val c Γ).i)
  | .en a, Γ => ok a Γ ∧ (val a Γ).isL = true
  | .zp a b, Γ => ok a Γ ∧ ok b Γ ∧ (val a Γ).isL = true ∧ (val b Γ).isL = true
end
end Yl

end

section
/-! Y1: where the trees stand in the heap; expressions that change nothing, by judgements. -/
namespace Yl
open PySem PySem.Spec PyProof.Rows L2
open Wl (wE wT wA wS wSs pe_w pt_w pa_w ps_w pss_w w_pe w_pt w_pa w_ps w_pss Dt DtAll Stp Keeps NoT Wk dt_mono dtAll_mono dt_dp dtAll_dp sqT_mono)
/-- the classes by their names -/
class Tc where
  C : Str → Addr
variable [Wl.Tb] [Tc]
def keyD : Key → D
  | .inl n => .int n
  | .inr s => .str s
/-- a node: what stands at p, the values in it, the addresses that are its own -/
def ND (H : Hp) (p : Addr) (κ : Kd) (vs : List V) (own : List Addr) : Prop := match κ with
  | .l => H p = some (.lst vs) ∧ own = [p]
  | .t => H p = some (.tup vs) ∧ own = [p]
  | .k ks => own = [p] ∧ ∃ kvs : List (Key × V), H p = some (.dK kvs) ∧ kvs.map (·.2) = vs ∧ kvs.map (fun q => keyD q.1) = ks
  | .i c fs => ∃ dx flds, H p = some (.ins (Tc.C c) dx flds) ∧ flds.map (·.1) = fs ∧ flds.map (·.2) = vs ∧ H dx = some (.own p) ∧ own = [p, dx]
mutual
inductive TAt (K : Frg) (G H : Hp) : V → T → List Addr → Prop
  | d {v : V} {x : D} : Dt K G v x → TAt K G H v (.d x) []
  | h {p : Addr} : TAt K G H (.ref p) (.h p) []
  | n {p : Addr} {κ : Kd} {vs : List V} {own fp : List Addr} {cs : List T} : ND H p κ vs own → TAts K G H vs cs fp → TAt K G H (.ref p) (.n κ cs) (own ++ fp)
inductive TAts (K : Frg) (G H : Hp) : List V → List T → List Addr → Prop
  | nil : TAts K G H [] [] []
  | cons {v : V} {vs : List V} {t : T} {ts : List T} {fp fq : List Addr} : TAt K G H v t fp → TAts K G H vs ts fq → TAts K G H (v :: vs) (t :: ts) (fp ++ fq)
end
/-- what may be owned -/
def isPl : HO → Bool
  | .lst _ | .tup _ | .dK _ | .dT _ | .ins _ _ _ | .own _ => true
  | _ => false
theorem pl_tbl {o : HO} (h : isPl o = true) : ∀ ps, o ≠ .tbl ps := fun ps z => by rw [z] at h; cases h
theorem ND.mono {H H' : Hp} {p : Addr} {κ : Kd} {vs : List V} {own : List Addr} (h : ND H p κ vs own) (e : ∀ a, a ∈ own → H' a = H a) : ND H' p κ vs own := by
  cases κ with
  | l => obtain ⟨h1, rfl⟩ := h; exact ⟨by rw [e p (by simp)]; exact h1, rfl⟩
  | t => obtain ⟨h1, rfl⟩ := h; exact ⟨by rw [e p (by simp)]; exact h1, rfl⟩
  | k ks =>
    obtain ⟨rfl, kvs, h1, h2⟩ := h
    exact ⟨rfl, kvs, by rw [e p (by simp)]; exact h1, h2⟩
  | i c fs =>
    obtain ⟨dx, fl, h1, h2, h3, h4, rfl⟩ := h
    exact ⟨dx, fl, by rw [e p (by simp)]; exact h1, h2, h3, by rw [e dx (by simp)]; exact h4, rfl⟩
theorem ND.live {H : Hp} {p : Addr} {κ : Kd} {vs : List V} {own : List Addr} (h : ND H p κ vs own) : ∀ a, a ∈ own → ∃ o, H a = some o ∧ isPl o = true := by
  intro a ha
  cases κ with
  | l => obtain ⟨h1, rfl⟩ := h; rw [List.mem_singleton.mp ha]; exact ⟨_, h1, rfl⟩
  | t => obtain ⟨h1, rfl⟩ := h; rw [List.mem_singleton.mp ha]; exact ⟨_, h1, rfl⟩
  | k ks =>
    obtain ⟨rfl, kvs, h1, _⟩ := h
    rw [List.mem_singleton.mp ha]
    exact ⟨_, h1, rfl⟩
  | i c fs =>
    obtain ⟨dx, fl, h1, h2, h3, h4, rfl⟩ := h
    rcases List.mem_cons.mp ha with e | e
    · rw [e]; exact ⟨_, h1, rfl⟩
    · rw [List.mem_singleton.mp e]; exact ⟨_, h4, rfl⟩
section
variable {K : Frg} {G H G' H' : Hp}
mutual
theorem tat_mono (g : Same G G') : ∀ (t : T) (v : V) (fp : List Addr), TAt K G H v t fp → (∀ a, a ∈ fp → H' a = H a) → TAt K G' H' v t fp
  | .d x, _, _, h, _ => by cases h with | d h => exact .d (dt_mono g _ _ h)
  | .h p, _, _, h, _ => by cases h; exact .h
  | .n κ cs, _, _, h, e => by
    cases h with
    | n h1 h2 => exact .n (h1.mono fun a ha => e a (List.mem_append_left _ ha)) (tats_mono g cs _ _ h2 fun a ha => e a (List.mem_append_right _ ha))
theorem tats_mono (g : Same G G') : ∀ (ts : List T) (vs : List V) (fp : List Addr), TAts K G H vs ts fp → (∀ a, a ∈ fp → H' a = H a) → TAts K G' H' vs ts fp
  | [], _, _, h, _ => by cases h; exact .nil
  | t :: ts, _, _, h, e => by
    cases h with
    | cons h1 h2 => exact .cons (tat_mono g t _ _ h1 fun a ha => e a (List.mem_append_left _ ha)) (tats_mono g ts _ _ h2 fun a ha => e a (List.mem_append_right _ ha))
end
mutual
theorem tat_live : ∀ (t : T) (v : V) (fp : List Addr), TAt K G H v t fp → ∀ a, a ∈ fp → ∃ o, H a = some o ∧ isPl o = true
  | .d x, _, _, h, a, ha => by cases h; cases ha
  | .h p, _, _, h, a, ha => by cases h; cases ha
  | .n κ cs, _, _, h, a, ha => by
    cases h with
    | n h1 h2 =>
      rcases List.mem_append.mp ha with q | q
      · exact h1.live a q
      · exact tats_live cs _ _ h2 a q
theorem tats_live : ∀ (ts : List T) (vs : List V) (fp : List Addr), TAts K G H vs ts fp → ∀ a, a ∈ fp → ∃ o, H a = some o ∧ isPl o = true
  | [], _, _, h, a, ha => by cases h; cases ha
  | t :: ts, _, _, h, a, ha => by
    cases h with
    | cons h1 h2 =>
      rcases List.mem_append.mp ha with q | q
      · exact tat_live t _ _ h1 a q
      · exact tats_live ts _ _ h2 a q
end
theorem TAt.step {v : V} {t : T} {fp : List Addr} (h : TAt K G H v t fp) (s : Stp G H G' H') : TAt K G' H' v t fp := tat_mono s.g _ _ _ h fun a ha => by
  obtain ⟨o, e, p⟩ := tat_live _ _ _ h a ha
  rw [e]; exact s.h.n a o e (pl_tbl p)
theorem TAts.step {v : List V} {t : List T} {fp : List Addr} (h : TAts K G H v t fp) (s : Stp G H G' H') : TAts K G' H' v t fp := tats_mono s.g _ _ _ h fun a ha => by
  obtain ⟨o, e, p⟩ := tats_live _ _ _ h a ha
  rw [e]; exact s.h.n a o e (pl_tbl p)
theorem TAts.len {K : Frg} {G H : Hp} : ∀ {vs : List V} {ts : List T} {fp : List Addr}, TAts K G H vs ts fp → vs.length = ts.length
  | _, _, _, .nil => rfl
  | _, _, _, .cons _ t => by rw [List.length_cons, List.length_cons, TAts.len t]
theorem TAts.get : ∀ {vs : List V} {ts : List T} {fp : List Addr} {i : Nat} {t : T}, TAts K G H vs ts fp → ts[i]? = some t → ∃ v fq, vs[i]? = some v ∧ TAt K G H v t fq
  | _, _, _, _, _, .nil, e => by simp at e
  | _, _, _, 0, _, .cons h _, e => by simp at e; subst e; exact ⟨_, _, rfl, h⟩
  | _, _, _, i + 1, _, .cons _ t, e => by
    obtain ⟨v, fq, h1, h2⟩ := TAts.get (i := i) t (by simpa using e)
    exact ⟨v, fq, by simpa using h1, h2⟩
theorem TAts.get' : ∀ {vs : List V} {ts : List T} {fp : List Addr} {i : Nat} {v : V}, TAts K G H vs ts fp → vs[i]? = some v → ∃ t fq, ts[i]? = some t ∧ TAt K G H v t fq
  | _, _, _, _, _, .nil, e => by simp at e
  | _, _, _, 0, _, .cons h _, e => by simp at e; subst e; exact ⟨_, _, rfl, h⟩
  | _, _, _, i + 1, _, .cons _ t, e => by
    obtain ⟨v, fq, h1, h2⟩ := TAts.get' (i := i) t (by simpa using e)
    exact ⟨v, fq, by simpa using h1, h2⟩
theorem TAts.ofD : ∀ {vs : List V} {xs : List D}, DtAll K G vs xs → TAts K G H vs (xs.map .d) []
  | _, _, .nil => .nil
  | _, _, .cons h t => .cons (fp := []) (.d h) (TAts.ofD t)
theorem TAts.sd : ∀ {vs : List V} {ts : List T} {fp : List Addr}, TAts K G H vs ts fp → allSd ts = true → DtAll K G vs (T.dats ts)
  | _, _, _, .nil, _ => .nil
  | _, _, _, .cons (t := t) h q, e => by
    unfold allSd at e
    rw [List.all_cons, Bool.and_eq_true] at e
    cases t with
    | d x => cases h with | d h => exact .cons h (TAts.sd q e.2)
    | h p => exact absurd e.1 (by simp [T.sd])
    | n κ cs => exact absurd e.1 (by simp [T.sd])
mutual
/-- read as data -/
theorem tat_dp (e : Same G H) : ∀ (t : T) (v : V) (fp : List Addr), TAt K G H v t fp → t.isDat = true → Dp K H v t.dat
  | .d x, _, _, h, _ => by cases h with | d h => exact dt_dp e _ _ h
  | .h p, _, _, h, q => by simp [T.isDat] at q
  | .n .l cs, _, _, h, q => by
    cases h with
    | n h1 h2 => obtain ⟨h1, _⟩ := h1; exact .lst (.of h1) (tats_dp e cs _ _ h2 (by simpa [T.isDat] using q))
  | .n .t cs, _, _, h, q => by
    cases h with
    | n h1 h2 => obtain ⟨h1, _⟩ := h1; exact .tup (.of h1) (tats_dp e cs _ _ h2 (by simpa [T.isDat] using q))
  | .n (.k _) _, _, _, _, q => by simp [T.isDat] at q
  | .n (.i _ _) _, _, _, _, q => by simp [T.isDat] at q
theorem tats_dp (e : Same G H) : ∀ (ts : List T) (vs : List V) (fp : List Addr), TAts K G H vs ts fp → T.areDat ts = true → DpAll K H vs (T.dats ts)
  | [], _, _, h, _ => by cases h; exact .nil
  | t :: ts, _, _, h, q => by
    rw [T.areDat, Bool.and_eq_true] at q
    cases h with
    | cons h1 h2 => exact .cons (tat_dp e t _ _ h1 q.1) (tats_dp e ts _ _ h2 q.2)
end
/-- a list: tracked, frozen or written -/
theorem TAt.list {v : V} {t : T} {fp : List Addr} (h : TAt K G H v t fp) (e : Same G H) (q : t.isL = true) : ∃ p vs fq, v = .ref p ∧ SqL K H p vs ∧ TAts K G H vs t.kids fq := by
  cases h with
  | d h =>
    rename_i x
    cases x <;> simp [T.isL] at q
    obtain ⟨p, vs, rfl, h1, h2⟩ := h.list
    exact ⟨p, vs, [], rfl, e.seq h1, .ofD h2⟩
  | h => simp [T.isL] at q
  | n h1 h2 =>
    rename_i κ _ _ _ _
    cases κ <;> simp [T.isL] at q
    exact ⟨_, _, _, rfl, .of h1.1, h2⟩
theorem TAt.tup {v : V} {t : T} {fp : List Addr} (h : TAt K G H v t fp) (e : Same G H) (q : t.isT = true) : ∃ p vs fq, v = .ref p ∧ SqT K H p vs ∧ TAts K G H vs t.kids fq := by
  cases h with
  | d h =>
    rename_i x
    cases x <;> simp [T.isT] at q
    obtain ⟨p, vs, rfl, h1, h2⟩ := h.tuple
    exact ⟨p, vs, [], rfl, sqT_mono e h1, .ofD h2⟩
  | h => simp [T.isT] at q
  | n h1 h2 =>
    rename_i κ _ _ _ _
    cases κ <;> simp [T.isT] at q
    exact ⟨_, _, _, rfl, .of h1.1, h2⟩
theorem TAt.int {v : V} {t : T} {fp : List Addr} (h : TAt K G H v t fp) (q : t.isI = true) : v = .int t.i := by
  cases h with
  | d h => rename_i x; cases x <;> simp [T.isI] at q; cases h; rfl
  | h => simp [T.isI] at q
  | n h1 h2 => simp [T.isI] at q
theorem TAt.bool {v : V} {t : T} {fp : List Addr} (h : TAt K G H v t fp) (q : t.isB = true) : v = .bl t.b := by
  cases h with
  | d h => rename_i x; cases x <;> simp [T.isB] at q; cases h; rfl
  | h => simp [T.isB] at q
  | n h1 h2 => simp [T.isB] at q
theorem TAt.str {v : V} {t : T} {fp : List Addr} (h : TAt K G H v t fp) (q : t.isS = true) : v = .str t.s ∧ t = .d (.str t.s) := by
  cases h with
  | d h => rename_i x; cases x <;> simp [T.isS] at q; cases h; exact ⟨rfl, rfl⟩
  | h => simp [T.isS] at q
  | n h1 h2 => simp [T.isS] at q
theorem TAt.dt {v : V} {t : T} {fp : List Addr} (h : TAt K G H v t fp) (q : t.sd = true) : Dt K G v t.dat := by
  cases h with
  | d h => exact h
  | h => simp [T.sd] at q
  | n h1 h2 => simp [T.sd] at q
theorem isB_eq {t : T} (q : t.isB = true) : t = .d (.bool t.b) := by
  cases t with
  | d x => cases x <;> simp [T.isB] at q; rfl
  | h p => simp [T.isB] at q
  | n κ cs => simp [T.isB] at q
theorem isI_eq {t : T} (q : t.isI = true) : t = .d (.int t.i) := by
  cases t with
  | d x => cases x <;> simp [T.isI] at q; rfl
  | h p => simp [T.isI] at q
  | n κ cs => simp [T.isI] at q
theorem sd_eq {t : T} (q : t.sd = true) : t = .d t.dat := by
  cases t with
  | d x => rfl
  | h p => simp [T.sd] at q
  | n κ cs => simp [T.sd] at q
theorem isN_eq {t : T} (q : t.isN = true) : t = .d .none := by
  cases t with
  | d x => cases x <;> simp [T.isN] at q; rfl
  | h p => simp [T.isN] at q
  | n κ cs => simp [T.isN] at q
end
/-! ### what is read in a slot -/
def rdO (Γ : List Sl) (i : Nat) : Option T := match Γ[i]? with
  | some (.w t) => some t
  | some (.o _ t) => some t
  | _ => none
structure WEnv (K : Frg) (G H : Hp) (σ : L2.St) (Γ : List Sl) : Prop where
  gh : Same G H
  tab : LamX.Tabs Wl.Tb.T H
  nt : NoT G
  len : σ.length = Γ.length
  sl : ∀ i t, rdO Γ i = some t → ∃ v fp, σ[i]? = some (some v) ∧ TAt K G H v t fp
section
variable {K : Frg} {G H G' H' : Hp} {σ : L2.St} {Γ : List Sl}
theorem WEnv.step (E : WEnv K G H σ Γ) (s : Stp G H G' H') : WEnv K G' H' σ Γ := ⟨s.gh, s.h.t E.tab, s.nt E.nt, E.len, fun i t h => by
  obtain ⟨v, fp, h1, h2⟩ := E.sl i t h
  exact ⟨v, fp, h1, h2.step s⟩⟩
theorem rdO_set {Γ : List Sl} {i j : Nat} {s : Sl} : rdO (Γ.set i s) j = if i = j then (if i < Γ.length then (match s with | .w t => some t | .o _ t => some t | .un => none) else none) else rdO Γ j := by
  unfold rdO
  rw [List.getElem?_set]
  by_cases h : i = j
  · rw [if_pos h, if_pos h]
    by_cases q : i < Γ.length
    · rw [if_pos q, if_pos q]; cases s <;> rfl
    · rw [if_neg q, if_neg q]
  · rw [if_neg h, if_neg h]
theorem WEnv.set_w (E : WEnv K G H σ Γ) {v : V} {t : T} {fp : List Addr} (h : TAt K G H v t fp) (i : Nat) : WEnv K G H (σ.set i (some v)) (Γ.set i (.w t)) := ⟨E.gh, E.tab, E.nt, by rw [List.length_set, List.length_set]; exact E.len, fun j t' hj => by
  rw [rdO_set] at hj
  by_cases e : i = j
  · subst e
    rw [if_pos rfl] at hj
    by_cases l : i < Γ.length
    · rw [if_pos l] at hj
      obtain rfl := Option.some.inj hj
      exact ⟨v, fp, by rw [List.getElem?_set_self (by rw [E.len]; exact l)], h⟩
    · rw [if_neg l] at hj; cases hj
  · rw [if_neg e] at hj
    obtain ⟨u, fq, h1, h2⟩ := E.sl j t' hj
    exact ⟨u, fq, by rw [List.getElem?_set_ne e]; exact h1, h2⟩⟩
theorem WEnv.set_un (E : WEnv K G H σ Γ) (o : Option V) (i : Nat) : WEnv K G H (σ.set i o) (Γ.set i .un) := ⟨E.gh, E.tab, E.nt, by rw [List.length_set, List.length_set]; exact E.len, fun j t' hj => by
  rw [rdO_set] at hj
  by_cases e : i = j
  · subst e
    rw [if_pos rfl] at hj
    by_cases l : i < Γ.length
    · rw [if_pos l] at hj; cases hj
    · rw [if_neg l] at hj; cases hj
  · rw [if_neg e] at hj
    obtain ⟨u, fq, h1, h2⟩ := E.sl j t' hj
    exact ⟨u, fq, by rw [List.getElem?_set_ne e]; exact h1, h2⟩⟩
end
/-! ### judgements -/
structure EvT (X : Cx) (e : Expr) (Γ : List Sl) (t : T) : Prop where
  run : ∀ (G H : Hp) (σ : L2.St), WEnv X.K G H σ Γ → ∀ Q : VK, (∀ v G' H' fp, Stp G H G' H' → TAt X.K G' H' v t fp → Q v H') → wE X e σ H Q
structure EvB (X : Cx) (e : Expr) (Γ : List Sl) (b : Bool) : Prop where
  run : ∀ (G H : Hp) (σ : L2.St), WEnv X.K G H σ Γ → ∀ Q : Bool → Hp → Prop, (∀ G' H', Stp G H G' H' → Q b H') → wT X e σ H Q
/-- a test, whatever it is a part of -/
structure EvP (X : Cx) (e : Expr) (Γ : List Sl) (b : Bool) : Prop where
  run : ∀ (wh : Sem Value) (G H : Hp) (σ : L2.St), WEnv X.K G H σ Γ → ∀ Q : Bool → Hp → Prop, (∀ G' H', Stp G H G' H' → Q b H') →
    ∀ (pins : List (Addr × Obj)) (s : Shared), Inv X pins σ H s → wpAny (model X.prog X.w) X.A (isTrue e X.env wh) (TP X pins σ Q) X.xe s
structure EvA (X : Cx) (es : List Expr) (Γ : List Sl) (ts : List T) : Prop where
  len : ts.length = es.length
  run : ∀ (G H : Hp) (σ : L2.St), WEnv X.K G H σ Γ → ∀ Q : List V → Hp → Prop, (∀ vs G' H' fp, Stp G H G' H' → TAts X.K G' H' vs ts fp → Q vs H') → wA X es σ H Q
section
variable {X : Cx} {Γ : List Sl} {e a b c : Expr} {es : List Expr} {t u r : T} {ts us : List T} {x y : D} {pos p2 : Pos}
theorem EvT.is (h : EvT X e Γ t) (q : t = u) : EvT X e Γ u := q ▸ h
theorem EvP.toB {k : Bool} (h : EvP X e Γ k) : EvB X e Γ k := ⟨fun G H σ E Q q pins s I => h.run _ G H σ E Q q pins s I⟩
theorem ev_name {n : Str} {i : Nat} (hN : X.N[i]? = some n) (h : rdO Γ i = some t) (hv : Vis X.env.scope n) (hd : (n == ("__debug__" : Str)) = false) (hcd : (n == ("__classdict__" : Str)) = false) : EvT X (.Name n pos) Γ t := ⟨fun G H σ E Q q => by
  obtain ⟨v, fp, e1, d⟩ := E.sl i t h
  exact w_pe (pe_var hN hv hd hcd) ⟨v, e1, q v G H fp (.refl E.gh) d⟩⟩
theorem ev_int {i : Int} {k : Nat} : EvT X (.Constant (.int i) k pos) Γ (.d (.int i)) := ⟨fun G H σ E Q q => w_pe pe_int (q _ G H [] (.refl E.gh) (.d (.int i)))⟩
theorem ev_bool {i : Bool} {k : Nat} : EvT X (.Constant (.bool i) k pos) Γ (.d (.bool i)) := ⟨fun G H σ E Q q => w_pe pe_bl (q _ G H [] (.refl E.gh) (.d (.bl i)))⟩
theorem ev_none {k : Nat} : EvT X (.Constant .none k pos) Γ (.d .none) := ⟨fun G H σ E Q q => w_pe pe_non (q _ G H [] (.refl E.gh) (.d .non))⟩
theorem ev_str {i : Str} {k : Nat} : EvT X (.Constant (.str i) k pos) Γ (.d (.str i)) := ⟨fun G H σ E Q q => w_pe pe_str (q _ G H [] (.refl E.gh) (.d (.str i)))⟩
theorem ev_glob {n : Str} {v : V} {w : Value} (hm : X.mg n = some w) (hr : RelV v w) (hd : ∀ G, Dt X.K G v x) (hg : Gl X n) (hdb : (n == ("__debug__" : Str)) = false) : EvT X (.Name n pos) Γ (.d x) := ⟨fun G H σ E Q q =>
  w_pe (pe_glob hg hm hr hdb) (q v G H [] (.refl E.gh) (.d (hd G)))⟩
/-! operators over data that is read -/
theorem TAt.wk {K : Frg} {G H : Hp} {v : V} {t : T} {fp : List Addr} (h : TAt K G H v t fp) (q : t.one = true) : Wk K G H v t.dat := by
  cases h with
  | d h => exact .inl h
  | h => simp [T.one] at q
  | n h1 h2 =>
    rename_i κ _ _ _ _
    cases κ with
    | l => exact .inr ⟨_, _, _, rfl, rfl, .of h1.1, h2.sd q⟩
    | t => simp [T.one] at q
    | k _ => simp [T.one] at q
    | i _ _ => simp [T.one] at q
theorem ev_bin {op : Operator} {z : D} (ho : Wl.BinD X op t.dat u.dat z) (ha : EvT X a Γ t) (hb : EvT X b Γ u) (q1 : t.one = true) (q2 : u.one = true) : EvT X (.BinOp a op b pos) Γ (.d z) := ⟨fun G H σ E Q q => by
  obtain ⟨r, h1, h2⟩ := ho
  refine w_pe (pe_op h1 pe_w pe_w) (ha.run G H σ E _ fun v G1 H1 f1 s1 k1 => hb.run G1 H1 σ (E.step s1) _ fun u G2 H2 f2 s2 k2 => ?_)
  exact h2 G2 H2 v u _ s2.gh ((k1.step s2).wk q1) (k2.wk q2) fun w G' H' s d => q w G' H' [] ((s1.trans s2).trans s) (.d d)⟩
theorem ev_catL {xs ys : List D} (ha : EvT X a Γ t) (hb : EvT X b Γ u) (q1 : t.one = true) (q2 : u.one = true) (e1 : t.dat = .list xs) (e2 : u.dat = .list ys) (hl : xs.length + ys.length ≤ sizeLine) : EvT X (.BinOp a .Add b pos) Γ (.d (.list (xs ++ ys))) := ⟨fun G H σ E Q q =>
  w_pe (pe_op Wl.op_catL pe_w pe_w) (ha.run G H σ E _ fun v G1 H1 f1 s1 k1 => hb.run G1 H1 σ (E.step s1) _ fun u G2 H2 f2 s2 k2 => by
    obtain ⟨p, vs, rfl, hp, hd⟩ := (e1 ▸ ((k1.step s2).wk q1)).list s2.gh
    obtain ⟨p', ws, rfl, hp', hd'⟩ := (e2 ▸ (k2.wk q2)).list s2.gh
    exact ⟨p, p', vs, ws, rfl, rfl, hp, hp', by rw [hd.len, hd'.len]; exact hl, fun r hr => q _ (upd G2 r _) _ [] ((s1.trans s2).trans (Stp.lay s2.gh hr)) (.d (.lst (.of upd_same) (Wl.dp_lay (s2.gh.free hr) (hd.append hd'))))⟩)⟩
theorem ev_catT {xs ys : List D} (ha : EvT X a Γ (.d (.tuple xs))) (hb : EvT X b Γ (.d (.tuple ys))) (h0 : xs ≠ []) (hl : xs.length + ys.length ≤ sizeLine) : EvT X (.BinOp a .Add b pos) Γ (.d (.tuple (xs ++ ys))) := ⟨fun G H σ E Q q =>
  w_pe (pe_op op_catT pe_w pe_w) (ha.run G H σ E _ fun v G1 H1 f1 s1 k1 => hb.run G1 H1 σ (E.step s1) _ fun u G2 H2 f2 s2 k2 => by
    obtain ⟨p, vs, rfl, hp, hd⟩ := (dt_mono s2.g _ _ (k1.dt rfl)).tuple
    obtain ⟨p', ws, rfl, hp', hd'⟩ := (k2.dt rfl).tuple
    refine ⟨p, p', vs, ws, rfl, rfl, sqT_mono s2.gh hp, sqT_mono s2.gh hp', fun z => h0 ?_, by rw [hd.len, hd'.len]; exact hl, fun z => ?_, fun _ r hr => q _ (upd G2 r _) _ [] ((s1.trans s2).trans (Stp.lay s2.gh hr)) (.d (.tup (.of upd_same) (Wl.dp_lay (s2.gh.free hr) (hd.append hd'))))⟩
    · have e := hd.len; rw [z] at e; exact List.eq_nil_of_length_eq_zero e.symm
    · have e := hd'.len; rw [z] at e
      have e2 : ys = [] := List.eq_nil_of_length_eq_zero e.symm
      rw [e2, List.append_nil] at q
      exact q _ G2 H2 [] (s1.trans s2) (.d (.tup hp hd)))⟩
theorem ev_rep (ha : EvA X es Γ ts) (hb : EvT X b Γ u) (hs : allSd ts = true) (qi : u.isI = true) (h0 : 0 ≤ u.i) (h1 : u.i < 1000) (hl : ts.length ≤ 1000) : EvT X (.BinOp (.List es p2) .Mult b pos) Γ (.d (.list (List.replicate u.i.toNat (T.dats ts)).flatten)) := ⟨fun G H σ E Q q =>
  w_pe (pe_op op_rep (pe_lst pa_w) pe_w) (ha.run G H σ E _ fun vs G1 H1 f1 s1 k1 => ⟨by rw [k1.len]; exact Nat.le_trans hl (by decide), fun p hp => hb.run (upd G1 p (.lst vs)) _ σ (E.step (s1.trans (Stp.lay s1.gh hp))) _ fun u2 G2 H2 f2 s2 k2 => by
    have e := s2.gh _ _ (s2.g p (.lst vs) upd_same)
    have d := dtAll_mono s2.g _ _ (Wl.dp_lay (o := .lst vs) (s1.gh.free hp) (k1.sd hs))
    have ll : vs.length = ts.length := k1.len
    refine ⟨p, u.i, vs, rfl, k2.int qi, e, by omega, by omega, ?_, fun r hr => q _ (upd G2 r _) _ [] (((s1.trans (Stp.lay s1.gh hp)).trans s2).trans (Stp.lay s2.gh hr)) (.d (.lst (.of upd_same) (Wl.dp_lay (s2.gh.free hr) (Wl.dtAll_rep d _))))⟩
    rw [ll]
    have h3 : u.i.toNat ≤ 1000 := by omega
    exact Nat.le_trans (Nat.mul_le_mul hl h3) (by decide)⟩)⟩
theorem ev_neg (ha : EvT X a Γ t) (qi : t.isI = true) : EvT X (.UnaryOp .USub a pos) Γ (.d (.int (-t.i))) := ⟨fun G H σ E Q q =>
  w_pe (pe_un un_neg pe_w) (ha.run G H σ E _ fun v G1 H1 f1 s1 k1 => ⟨t.i, k1.int qi, q _ G1 H1 [] s1 (.d (.int _))⟩)⟩
theorem ev_not (ha : EvT X a Γ t) (qb : t.isB = true) : EvT X (.UnaryOp .Not a pos) Γ (.d (.bool (!t.b))) := ⟨fun G H σ E Q q =>
  w_pe (pe_not pe_w) (ha.run G H σ E _ fun v G1 H1 f1 s1 k1 => ⟨t.b, k1.bool qb, q _ G1 H1 [] s1 (.d (.bl _))⟩)⟩
/-! comparisons -/
/-- an operator over what is read -/
structure CmpT (X : Cx) (op : CmpOp) (t u : T) (k : Bool) : Prop where
  ex : ∃ r, OpR X (compareOp op) r ∧ ∀ (G H : Hp) (v w : V) (f1 f2 : List Addr) (Q : VK), Same G H → TAt X.K G H v t f1 → TAt X.K G H w u f2 → Q (.bl k) H → r v w H Q
section
variable {op op' : CmpOp} {k l : Bool}
theorem ev_cmp (ho : CmpT X op t u k) (ha : EvT X a Γ t) (hb : EvT X b Γ u) (hm : behindInMarks op b = false) : EvT X (.Compare a [op] [b] pos) Γ (.d (.bool k)) := ⟨fun G H σ E Q q => by
  obtain ⟨r, h1, h2⟩ := ho.ex
  refine w_pe (pe_cmpR h1 pe_w pe_w hm) (ha.run G H σ E _ fun v G1 H1 f1 s1 k1 => hb.run G1 H1 σ (E.step s1) _ fun u G2 H2 f2 s2 k2 => ?_)
  exact h2 G2 H2 v u _ _ _ s2.gh (k1.step s2) k2 (q _ G2 H2 [] (s1.trans s2) (.d (.bl _)))⟩
theorem et_cmp (ho : CmpT X op t u k) (ha : EvT X a Γ t) (hb : EvT X b Γ u) (hm : behindInMarks op b = false) : EvB X (.Compare a [op] [b] pos) Γ k := ⟨fun G H σ E Q q => by
  obtain ⟨r, h1, h2⟩ := ho.ex
  refine w_pt (pt_cmpR h1 pe_w pe_w hm) (ha.run G H σ E _ fun v G1 H1 f1 s1 k1 => hb.run G1 H1 σ (E.step s1) _ fun u G2 H2 f2 s2 k2 => ?_)
  exact h2 G2 H2 v u _ _ _ s2.gh (k1.step s2) k2 ⟨k, rfl, q G2 H2 (s1.trans s2)⟩⟩
theorem ev_chain {r : T} (ho : CmpT X op t u k) (ho' : k = true → CmpT X op' u r l) (ho2 : ∃ r', OpR X (compareOp op') r') (ha : EvT X a Γ t) (hb : EvT X b Γ u) (hc : k = true → EvT X c Γ r) (hm : lastMarks [op, op'] [b, c] = false) : EvT X (.Compare a [op, op'] [b, c] pos) Γ (.d (.bool (k && l))) := ⟨fun G H σ E Q q => by
  obtain ⟨r, h1, h2⟩ := ho.ex
  cases k with
  | true =>
    obtain ⟨r', h3, h4⟩ := (ho' rfl).ex
    refine w_pe (pe_chain h1 h3 pe_w pe_w pe_w hm) (ha.run G H σ E _ fun v G1 H1 f1 s1 k1 => hb.run G1 H1 σ (E.step s1) _ fun u G2 H2 f2 s2 k2 => ?_)
    refine h2 G2 H2 v u _ _ _ s2.gh (k1.step s2) k2 ⟨true, rfl, iteT ?_⟩
    exact (hc rfl).run G2 H2 σ ((E.step s1).step s2) _ fun w G3 H3 f3 s3 k3 => h4 G3 H3 u w _ _ _ s3.gh (k2.step s3) k3 (q _ G3 H3 [] ((s1.trans s2).trans s3) (.d (.bl _)))
  | false =>
    obtain ⟨r', h3⟩ := ho2
    refine w_pe (pe_chain h1 h3 pe_w pe_w pe_w hm) (ha.run G H σ E _ fun v G1 H1 f1 s1 k1 => hb.run G1 H1 σ (E.step s1) _ fun u G2 H2 f2 s2 k2 => ?_)
    exact h2 G2 H2 v u _ _ _ s2.gh (k1.step s2) k2 ⟨false, rfl, iteF (q _ G2 H2 [] (s1.trans s2) (.d (.bl _)))⟩⟩
theorem et_chain {r : T} (ho : CmpT X op t u k) (ho' : k = true → CmpT X op' u r l) (ho2 : ∃ r', OpR X (compareOp op') r') (ha : EvT X a Γ t) (hb : EvT X b Γ u) (hc : k = true → EvT X c Γ r) (hm : lastMarks [op, op'] [b, c] = false) : EvB X (.Compare a [op, op'] [b, c] pos) Γ (k && l) := ⟨fun G H σ E Q q => by
  obtain ⟨r, h1, h2⟩ := ho.ex
  cases k with
  | true =>
    obtain ⟨r', h3, h4⟩ := (ho' rfl).ex
    refine w_pt (pt_chain h1 h3 pe_w pe_w pe_w hm) (ha.run G H σ E _ fun v G1 H1 f1 s1 k1 => hb.run G1 H1 σ (E.step s1) _ fun u G2 H2 f2 s2 k2 => ?_)
    refine h2 G2 H2 v u _ _ _ s2.gh (k1.step s2) k2 ⟨true, rfl, iteT ?_⟩
    exact (hc rfl).run G2 H2 σ ((E.step s1).step s2) _ fun w G3 H3 f3 s3 k3 => h4 G3 H3 u w _ _ _ s3.gh (k2.step s3) k3 ⟨_, rfl, q G3 H3 ((s1.trans s2).trans s3)⟩
  | false =>
    obtain ⟨r', h3⟩ := ho2
    refine w_pt (pt_chain h1 h3 pe_w pe_w pe_w hm) (ha.run G H σ E _ fun v G1 H1 f1 s1 k1 => hb.run G1 H1 σ (E.step s1) _ fun u G2 H2 f2 s2 k2 => ?_)
    exact h2 G2 H2 v u _ _ _ s2.gh (k1.step s2) k2 ⟨false, rfl, iteF ⟨_, rfl, q G2 H2 (s1.trans s2)⟩⟩⟩
end
theorem cmp_lt (q1 : t.isI = true) (q2 : u.isI = true) : CmpT X .Lt t u (decide (t.i < u.i)) := ⟨_, op_lt, fun G H v w f1 f2 Q e h1 h2 q => ⟨t.i, u.i, h1.int q1, h2.int q2, q⟩⟩
theorem cmp_le (q1 : t.isI = true) (q2 : u.isI = true) : CmpT X .LtE t u (decide (t.i ≤ u.i)) := ⟨_, op_le, fun G H v w f1 f2 Q e h1 h2 q => ⟨t.i, u.i, h1.int q1, h2.int q2, q⟩⟩
theorem cmp_gt (q1 : t.isI = true) (q2 : u.isI = true) : CmpT X .Gt t u (decide (u.i < t.i)) := ⟨_, op_gt, fun G H v w f1 f2 Q e h1 h2 q => ⟨t.i, u.i, h1.int q1, h2.int q2, q⟩⟩
theorem cmp_ge (q1 : t.isI = true) (q2 : u.isI = true) : CmpT X .GtE t u (decide (u.i ≤ t.i)) := ⟨_, op_ge, fun G H v w f1 f2 Q e h1 h2 q => ⟨t.i, u.i, h1.int q1, h2.int q2, q⟩⟩
theorem nN {K : Frg} {G H : Hp} {v : V} {f1 : List Addr} (h : TAt K G H v t f1) (q : t.isDat = true) : decide (v = .non) = t.isN := by
  cases h with
  | d h =>
    rename_i x
    cases x with
    | none => cases h; rfl
    | bool b => cases h; rfl
    | int b => cases h; rfl
    | str b => cases h; rfl
    | list xs => obtain ⟨p, vs, rfl, _⟩ := h.list; rfl
    | tuple xs => obtain ⟨p, vs, rfl, _⟩ := h.tuple; rfl
    | dict kvs => cases h
  | h => simp [T.isDat] at q
  | n h1 h2 => rfl
theorem cmp_is (q1 : t.isDat = true) (q2 : u.isN = true) : CmpT X .Is t u t.isN := ⟨_, op_isN, fun G H v w f1 f2 Q e h1 h2 q => ⟨by rw [isN_eq q2] at h2; cases h2 with | d h => cases h; rfl, by rw [nN h1 q1]; exact q⟩⟩
theorem cmp_isnot (q1 : t.isDat = true) (q2 : u.isN = true) : CmpT X .IsNot t u (!t.isN) := ⟨_, op_notN, fun G H v w f1 f2 Q e h1 h2 q => ⟨by rw [isN_eq q2] at h2; cases h2 with | d h => cases h; rfl, by rw [nN h1 q1]; exact q⟩⟩
theorem cmp_eq (hu : X.A.units + 64 < cLine) (q1 : t.isDat = true) (q2 : u.isDat = true) (hd : min t.dat.depth u.dat.depth ≤ 60) : CmpT X .Eq t u (PyData.eqv t.dat u.dat) := ⟨_, Wl.op_eqP hu, fun G H v w f1 f2 Q e h1 h2 q => ⟨_, _, tat_dp e _ _ _ h1 q1, tat_dp e _ _ _ h2 q2, hd, q⟩⟩
theorem cmp_ne (hu : X.A.units + 64 < cLine) (q1 : t.isDat = true) (q2 : u.isDat = true) (hd : min t.dat.depth u.dat.depth ≤ 60) : CmpT X .NotEq t u (!PyData.eqv t.dat u.dat) := ⟨_, Wl.op_neP hu, fun G H v w f1 f2 Q e h1 h2 q => ⟨_, _, tat_dp e _ _ _ h1 q1, tat_dp e _ _ _ h2 q2, hd, q⟩⟩
theorem kids_dp {K : Frg} {G H : Hp} {v : V} {f1 : List Addr} (e : Same G H) (h : TAt K G H v u f1) (q2 : u.isDat = true) (q3 : u.isL = true ∨ u.isT = true) : Dp K H v (.list (T.dats u.kids)) ∨ Dp K H v (.tuple (T.dats u.kids)) := by
  have dd : ∀ xs : List D, T.dats (xs.map .d) = xs := fun xs => by
    induction xs with
    | nil => rfl
    | cons x xs ih => rw [List.map_cons, T.dats, ih]; rfl
  have k := tat_dp e _ _ _ h q2
  cases u with
  | d x => cases x <;> simp [T.isL, T.isT] at q3
           · exact .inl (by rw [T.kids, dd]; exact k)
           · exact .inr (by rw [T.kids, dd]; exact k)
  | h p => simp [T.isDat] at q2
  | n κ cs =>
    cases κ with
    | l => exact .inl (by rw [T.dat] at k; exact k)
    | t => exact .inr (by rw [T.dat] at k; exact k)
    | k _ => simp [T.isDat] at q2
    | i _ _ => simp [T.isDat] at q2
theorem cmp_in (hu : X.A.units + 64 < cLine) (q1 : t.isDat = true) (q2 : u.isDat = true) (q3 : u.isL = true ∨ u.isT = true) (hd : min (PyData.depthAll (T.dats u.kids)) t.dat.depth ≤ 60) : CmpT X .In t u (Wl.inD t.dat (T.dats u.kids)) := ⟨_, Wl.op_inP hu, fun G H v w f1 f2 Q e h1 h2 q => ⟨_, _, tat_dp e _ _ _ h1 q1, kids_dp e h2 q2 q3, hd, q⟩⟩
theorem cmp_notin (hu : X.A.units + 64 < cLine) (q1 : t.isDat = true) (q2 : u.isDat = true) (q3 : u.isL = true ∨ u.isT = true) (hd : min (PyData.depthAll (T.dats u.kids)) t.dat.depth ≤ 60) : CmpT X .NotIn t u (!Wl.inD t.dat (T.dats u.kids)) := ⟨_, Wl.op_notInP hu, fun G H v w f1 f2 Q e h1 h2 q => ⟨_, _, tat_dp e _ _ _ h1 q1, kids_dp e h2 q2 q3, hd, q⟩⟩
theorem cmp_insign {s z : Str} (h1 : s.cps.size = 1) : CmpT X .In (.d (.str s)) (.d (.str z)) (decide (s.cps.toList.getD 0 0 ∈ z.cps.toList)) := ⟨_, op_in_sign, fun G H v w f1 f2 Q e k1 k2 q => by
  cases k1 with | d k1 => cases k2 with | d k2 =>
  cases k1; cases k2
  obtain ⟨l⟩ := s
  have : l = #[l.toList.getD 0 0] := by
    cases l with
    | mk l => cases l with
      | nil => simp at h1
      | cons a l => cases l with
        | nil => rfl
        | cons b l => simp at h1
  exact ⟨l.toList.getD 0 0, z, by rw [← this], rfl, q⟩⟩
/-! and, or, not, if .. else -/
section
variable {k l : Bool} {rest : List Expr}
theorem ep_and1 (h : EvB X a Γ k) : EvP X (.BoolOp .And [a] pos) Γ k := ⟨fun wh G H σ E Q q pins s I => (pw_and1 (pt_w (X := X) (e := a))).run wh pins s σ H Q I (h.run G H σ E Q q)⟩
theorem ep_or1 (h : EvB X a Γ k) : EvP X (.BoolOp .Or [a] pos) Γ k := ⟨fun wh G H σ E Q q pins s I => (pw_or1 (pt_w (X := X) (e := a))).run wh pins s σ H Q I (h.run G H σ E Q q)⟩
theorem ep_and (h1 : EvB X a Γ k) (h2 : k = true → EvP X (.BoolOp .And (b :: rest) pos) Γ l) : EvP X (.BoolOp .And (a :: b :: rest) pos) Γ (k && l) := ⟨fun wh G H σ E Q q pins s I => by
  let tb : TT := fun σ H Q => ∀ (wh : Sem Value) (pins : List (Addr × Obj)) (s : Shared), Inv X pins σ H s → wpAny (model X.prog X.w) X.A (isTrue (.BoolOp .And (b :: rest) pos) X.env wh) (TP X pins σ Q) X.xe s
  have hb : PW X (.BoolOp .And (b :: rest) pos) tb := ⟨fun wh pins s σ H Q I h => h wh pins s I⟩
  refine (pw_and (pt_w (X := X) (e := a)) hb).run wh pins s σ H Q I (h1.run G H σ E _ fun G1 H1 s1 => ?_)
  cases k with
  | true => exact iteT fun wh pins s I => (h2 rfl).run wh G1 H1 σ (E.step s1) Q (fun G2 H2 s2 => q G2 H2 (s1.trans s2)) pins s I
  | false => exact iteF (q G1 H1 s1)⟩
theorem ep_or (h1 : EvB X a Γ k) (h2 : k = false → EvP X (.BoolOp .Or (b :: rest) pos) Γ l) : EvP X (.BoolOp .Or (a :: b :: rest) pos) Γ (k || l) := ⟨fun wh G H σ E Q q pins s I => by
  let tb : TT := fun σ H Q => ∀ (wh : Sem Value) (pins : List (Addr × Obj)) (s : Shared), Inv X pins σ H s → wpAny (model X.prog X.w) X.A (isTrue (.BoolOp .Or (b :: rest) pos) X.env wh) (TP X pins σ Q) X.xe s
  have hb : PW X (.BoolOp .Or (b :: rest) pos) tb := ⟨fun wh pins s σ H Q I h => h wh pins s I⟩
  refine (pw_or (pt_w (X := X) (e := a)) hb).run wh pins s σ H Q I (h1.run G H σ E _ fun G1 H1 s1 => ?_)
  cases k with
  | false => exact iteF fun wh pins s I => (h2 rfl).run wh G1 H1 σ (E.step s1) Q (fun G2 H2 s2 => q G2 H2 (s1.trans s2)) pins s I
  | true => exact iteT (q G1 H1 s1)⟩
theorem et_not (h : EvB X a Γ k) : EvB X (.UnaryOp .Not a pos) Γ (!k) := ⟨fun G H σ E Q q => w_pt (pt_not pt_w) (h.run G H σ E _ q)⟩
theorem et_val (h : EvT X e Γ t) (qb : t.isB = true) (he : ∀ whole, isTrue e X.env whole = (do let v ← whole; standAt e.pos; holding [v] (truthy v))) : EvB X e Γ t.b := ⟨fun G H σ E Q q =>
  w_pt (pt_val pe_w he) (h.run G H σ E _ fun v G1 H1 f1 s1 k1 => ⟨t.b, k1.bool qb, q G1 H1 s1⟩)⟩
theorem ev_one {op : BoolOp} (h : EvT X a Γ t) : EvT X (.BoolOp op [a] pos) Γ t := ⟨fun G H σ E Q q => w_pe (pe_one pe_w) (h.run G H σ E Q q)⟩
theorem ev_and (h1 : EvT X a Γ t) (qb : t.isB = true) (h2 : t.b = true → EvT X (.BoolOp .And (b :: rest) pos) Γ u ∧ u.isB = true) : EvT X (.BoolOp .And (a :: b :: rest) pos) Γ (.d (.bool (t.b && u.b))) := ⟨fun G H σ E Q q =>
  w_pe (pe_and pe_w pe_w) (h1.run G H σ E _ fun v G1 H1 f1 s1 k1 => ⟨t.b, k1.bool qb, by
    cases e : t.b with
    | true => exact iteT ((h2 e).1.run G1 H1 σ (E.step s1) Q fun u G2 H2 f2 s2 d => q u G2 H2 [] (s1.trans s2) (by rw [e, Bool.true_and, d.bool (h2 e).2]; exact .d (.bl _)))
    | false => exact iteF (q _ G1 H1 [] s1 (by rw [e]; exact .d (.bl _)))⟩)⟩
theorem ev_or (h1 : EvT X a Γ t) (qb : t.isB = true) (h2 : t.b = false → EvT X (.BoolOp .Or (b :: rest) pos) Γ u ∧ u.isB = true) : EvT X (.BoolOp .Or (a :: b :: rest) pos) Γ (.d (.bool (t.b || u.b))) := ⟨fun G H σ E Q q =>
  w_pe (pe_or pe_w pe_w) (h1.run G H σ E _ fun v G1 H1 f1 s1 k1 => ⟨t.b, k1.bool qb, by
    cases e : t.b with
    | false => exact iteF ((h2 e).1.run G1 H1 σ (E.step s1) Q fun u G2 H2 f2 s2 d => q u G2 H2 [] (s1.trans s2) (by rw [e, Bool.false_or, d.bool (h2 e).2]; exact .d (.bl _)))
    | true => exact iteT (q _ G1 H1 [] s1 (by rw [e]; exact .d (.bl _)))⟩)⟩
theorem ev_ife (h : EvB X c Γ k) (h1 : k = true → EvT X a Γ t) (h2 : k = false → EvT X b Γ u) : EvT X (.IfExp c a b pos) Γ (if k = true then t else u) := ⟨fun G H σ E Q q =>
  w_pe (pe_ifExp pt_w pe_w pe_w) (h.run G H σ E _ fun G1 H1 s1 => by
    cases k with
    | true => exact iteT ((h1 rfl).run G1 H1 σ (E.step s1) Q fun u G2 H2 f2 s2 d => q u G2 H2 f2 (s1.trans s2) (by rw [if_pos rfl]; exact d))
    | false => exact iteF ((h2 rfl).run G1 H1 σ (E.step s1) Q fun u G2 H2 f2 s2 d => q u G2 H2 f2 (s1.trans s2) (by rw [if_neg Bool.false_ne_true]; exact d)))⟩
theorem et_ife {x y : Bool} (h : EvB X c Γ k) (h1 : k = true → EvB X a Γ x) (h2 : k = false → EvB X b Γ y) : EvB X (.IfExp c a b pos) Γ (if k = true then x else y) := ⟨fun G H σ E Q q pins s I => by
  refine isTrue_IfExp (thn (h.run G H σ E (fun k' H' => ∃ G', k' = k ∧ Stp G H G' H') (fun G' H' st => ⟨G', rfl, st⟩) pins s I) fun k' s1 ⟨H1, I1, G1, ek, st⟩ => ?_)
  subst ek
  cases k' with
  | true => exact (h1 rfl).run G1 H1 σ (E.step st) _ (fun G2 H2 s2 => q G2 H2 (st.trans s2)) pins s1 I1
  | false => exact (h2 rfl).run G1 H1 σ (E.step st) _ (fun G2 H2 s2 => q G2 H2 (st.trans s2)) pins s1 I1⟩
end
/-! argument lists, displays -/
theorem ea_nil : EvA X [] Γ [] := ⟨rfl, fun G H σ E Q q => w_pa pa_nil (q [] G H [] (.refl E.gh) .nil)⟩
theorem ea_cons (h : EvT X e Γ t) (r : EvA X es Γ ts) (hs : starEach (e :: es) X.env = (false, eval e X.env) :: starEach es X.env) : EvA X (e :: es) Γ (t :: ts) := ⟨by rw [List.length_cons, List.length_cons, r.len], fun G H σ E Q q =>
  w_pa (pa_cons pe_w pa_w hs) (h.run G H σ E _ fun v G1 H1 f1 s1 k1 => r.run G1 H1 σ (E.step s1) _ fun vs G2 H2 f2 s2 k2 => q (v :: vs) G2 H2 _ (s1.trans s2) (.cons (k1.step s2) k2))⟩
theorem ev_tup {kk : Nat} (h : EvA X es Γ ts) (hs : allSd ts = true) (hl : ts.length ≤ 1000) : EvT X (.Tuple es kk pos) Γ (.d (.tuple (T.dats ts))) := ⟨fun G H σ E Q q =>
  w_pe (pe_tup pa_w) (h.run G H σ E _ fun vs G1 H1 f1 s1 k1 => ⟨by rw [k1.len]; exact Nat.le_trans hl (by decide), fun p hp => q _ (upd G1 p (.tup vs)) _ [] (s1.trans (Stp.lay s1.gh hp)) (.d (.tup (.of upd_same) (Wl.dp_lay (s1.gh.free hp) (k1.sd hs))))⟩)⟩
theorem ev_lst (h : EvA X es Γ ts) (hs : allSd ts = true) (hl : ts.length ≤ 1000) : EvT X (.List es pos) Γ (.d (.list (T.dats ts))) := ⟨fun G H σ E Q q =>
  w_pe (pe_lst pa_w) (h.run G H σ E _ fun vs G1 H1 f1 s1 k1 => ⟨by rw [k1.len]; exact Nat.le_trans hl (by decide), fun p hp => q _ (upd G1 p (.lst vs)) _ [] (s1.trans (Stp.lay s1.gh hp)) (.d (.lst (.of upd_same) (Wl.dp_lay (s1.gh.free hp) (k1.sd hs))))⟩)⟩
end
end Yl

end

section
/-! Y2: subscripts, fields, built-ins, calls, comprehensions: all that changes nothing. -/
namespace Yl
open PySem PySem.Spec PyProof.Rows L2
open Wl (wE wT wA wS wSs pe_w pt_w pa_w ps_w pss_w w_pe w_pt w_pa w_ps w_pss Dt DtAll Stp Keeps NoT Wk WkAll dt_mono dtAll_mono dt_dp dtAll_dp sqT_mono dp_lay)
variable [Wl.Tb] [Tc]
theorem dats_map (xs : List D) : T.dats (xs.map .d) = xs := by
  induction xs with
  | nil => rfl
  | cons x xs ih => rw [List.map_cons, T.dats, ih]; rfl
theorem dats_len (ts : List T) : (T.dats ts).length = ts.length := by
  induction ts with
  | nil => rfl
  | cons x xs ih => rw [T.dats, List.length_cons, List.length_cons, ih]
theorem one_l {t : T} (h : t.one = true) (q : t.isL = true) : t.dat = .list (T.dats t.kids) := by
  cases t with
  | d x => cases x <;> simp [T.isL] at q; rw [T.kids, dats_map]; rfl
  | h p => simp [T.isL] at q
  | n κ cs =>
    cases κ <;> simp [T.isL] at q
    simp [T.dat, T.kids]
theorem one_t {t : T} (h : t.one = true) (q : t.isT = true) : ∃ xs, t = .d (.tuple xs) := by
  cases t with
  | d x => cases x <;> simp [T.isT] at q; exact ⟨_, rfl⟩
  | h p => simp [T.isT] at q
  | n κ cs => cases κ <;> simp [T.isT] at q; simp [T.one] at h
theorem intsD_eq : ∀ {xs : List D} {ns : List Int}, intsD xs = some ns → xs = ns.map .int
  | [], ns, h => by simp [intsD] at h; subst h; rfl
  | x :: xs, ns, h => by
    cases x <;> simp [intsD] at h
    obtain ⟨m, h1, rfl⟩ := h
    rw [intsD_eq h1]; rfl
theorem boolsD_eq : ∀ {xs : List D} {ns : List Bool}, boolsD xs = some ns → xs = ns.map .bool
  | [], ns, h => by simp [boolsD] at h; subst h; rfl
  | x :: xs, ns, h => by
    cases x <;> simp [boolsD] at h
    obtain ⟨m, h1, rfl⟩ := h
    rw [boolsD_eq h1]; rfl
theorem TAts.wk {K : Frg} {G H : Hp} : ∀ {vs : List V} {ts : List T} {fp : List Addr}, TAts K G H vs ts fp → ts.all T.one = true → WkAll K G H vs (ts.map T.dat)
  | _, _, _, .nil, _ => .nil
  | _, _, _, .cons h t, q => by
    rw [List.all_cons, Bool.and_eq_true] at q
    exact .cons (h.wk q.1) (t.wk q.2)
section
variable {X : Cx} {Γ Γ' : List Sl} {e a b c : Expr} {es : List Expr} {t u r : T} {ts us its : List T} {x y z : D} {pos p2 : Pos}
/-! ### subscripts -/
theorem atI_t {K : Frg} {G H : Hp} {vs : List V} {i : Int} {fp : List Addr} (h : TAts K G H vs ts fp) (hz : atI ts i = some r) : ∃ v fq, atI vs i = some v ∧ TAt K G H v r fq := by
  unfold atI at hz ⊢
  rw [h.len]
  cases q : ixN ts.length i with
  | none => rw [q] at hz; cases hz
  | some j =>
    rw [q] at hz
    obtain ⟨v, fq, h1, h2⟩ := h.get hz
    exact ⟨v, fq, h1, h2⟩
theorem ev_ixL (ha : EvT X a Γ t) (hb : EvT X b Γ u) (q1 : t.isL = true) (q2 : u.isI = true) (hz : atI t.kids u.i = some r) (hs : PlainIx b) : EvT X (.Subscript a b pos) Γ r := ⟨fun G H σ E Q q =>
  w_pe (pe_ix ix_list pe_w pe_w hs) (ha.run G H σ E _ fun v G1 H1 f1 s1 k1 => hb.run G1 H1 σ (E.step s1) _ fun u G2 H2 f2 s2 k2 => by
    obtain ⟨p, vs, fq, rfl, hq, hd⟩ := (k1.step s2).list s2.gh q1
    obtain ⟨w, fz, e1, d⟩ := atI_t hd hz
    exact ⟨p, vs, _, w, rfl, k2.int q2, hq, e1, q w G2 H2 fz (s1.trans s2) d⟩)⟩
theorem ev_ixT (ha : EvT X a Γ t) (hb : EvT X b Γ u) (q1 : t.isT = true) (q2 : u.isI = true) (hz : atI t.kids u.i = some r) (hs : PlainIx b) : EvT X (.Subscript a b pos) Γ r := ⟨fun G H σ E Q q =>
  w_pe (pe_ix ix_tup pe_w pe_w hs) (ha.run G H σ E _ fun v G1 H1 f1 s1 k1 => hb.run G1 H1 σ (E.step s1) _ fun u G2 H2 f2 s2 k2 => by
    obtain ⟨p, vs, fq, rfl, hq, hd⟩ := (k1.step s2).tup s2.gh q1
    obtain ⟨w, fz, e1, d⟩ := atI_t hd hz
    exact ⟨p, vs, _, w, rfl, k2.int q2, hq, e1, q w G2 H2 fz (s1.trans s2) d⟩)⟩
theorem ev_ixS {w : Str} {k : Nat} (ha : EvT X a Γ (.d (.str w))) (hb : EvT X b Γ u) (q2 : u.isI = true) (hz : atI w.cps.toList u.i = some k) (hl : w.length ≤ sizeLine) (hs : PlainIx b) : EvT X (.Subscript a b pos) Γ (.d (.str ⟨#[k]⟩)) := ⟨fun G H σ E Q q =>
  w_pe (pe_ix ix_str pe_w pe_w hs) (ha.run G H σ E _ fun v G1 H1 f1 s1 k1 => hb.run G1 H1 σ (E.step s1) _ fun u G2 H2 f2 s2 k2 =>
    ⟨w, _, k, (k1.str rfl).1, k2.int q2, hl, hz, q _ G2 H2 [] (s1.trans s2) (.d (.str _))⟩)⟩
/-! dicts -/
theorem keyD_eqv (k k' : Key) : PyData.eqv (keyD k) (keyD k') = decide (k = k') := by
  cases k <;> cases k' <;> simp [keyD, Wl.eqv_int, Wl.eqv_str, PyData.eqv]
theorem keyT_ex {x : D} (h : keyT x = true) : ∃ k, keyD k = x := by
  cases x <;> simp [keyT] at h
  · exact ⟨.inl _, rfl⟩
  · exact ⟨.inr _, rfl⟩
theorem valV_key {K : Frg} {G H : Hp} {k : Key} : ∀ {kvs : List (Key × V)} {cs : List T} {fp : List Addr}, TAts K G H (kvs.map (·.2)) cs fp →
    (keyAt (kvs.map fun q => keyD q.1) cs (keyD k) = none ∧ valV kvs k = none) ∨ ∃ c v fq, keyAt (kvs.map fun q => keyD q.1) cs (keyD k) = some c ∧ valV kvs k = some v ∧ TAt K G H v c fq
  | [], cs, fp, h => .inl ⟨by cases cs <;> rfl, rfl⟩
  | q :: kvs, cs, fp, h => by
    cases h with
    | cons h1 h2 =>
      rename_i c cs _ _
      by_cases e : q.1 = k
      · refine .inr ⟨c, q.2, _, ?_, ?_, h1⟩
        · simp only [List.map_cons, keyAt]; rw [keyD_eqv, decide_eq_true e, if_pos rfl]
        · unfold valV; rw [List.find?_cons_of_pos (by simp [e])]; rfl
      · rcases valV_key (k := k) h2 with ⟨e1, e2⟩ | ⟨c', v, fq, e1, e2, e3⟩
        · refine .inl ⟨?_, ?_⟩
          · simp only [List.map_cons, keyAt]; rw [keyD_eqv, decide_eq_false e, if_neg (by simp)]; exact e1
          · unfold valV at e2 ⊢; rw [List.find?_cons_of_neg (by simp [e])]; exact e2
        · refine .inr ⟨c', v, fq, ?_, ?_, e3⟩
          · simp only [List.map_cons, keyAt]; rw [keyD_eqv, decide_eq_false e, if_neg (by simp)]; exact e1
          · unfold valV at e2 ⊢; rw [List.find?_cons_of_neg (by simp [e])]; exact e2
theorem hasK_key {k : Key} {kvs : List (Key × V)} : hasK (kvs.map fun q => keyD q.1) (keyD k) = (valV kvs k).isSome := by
  unfold hasK
  induction kvs with
  | nil => rfl
  | cons q kvs ih =>
    rw [List.map_cons, List.any_cons, ih, keyD_eqv]
    unfold valV
    by_cases e : q.1 = k
    · rw [List.find?_cons_of_pos (by simp [e])]; simp [e]
    · rw [List.find?_cons_of_neg (by simp [e])]; simp [e]
theorem ev_ixK {ks : List D} {cs : List T} (hu : X.A.units + 64 < cLine) (ha : EvT X a Γ (.n (.k ks) cs)) (hb : EvT X b Γ (.d x)) (qx : keyT x = true) (hz : keyAt ks cs x = some r) (hs : NoSl b) : EvT X (.Subscript a b pos) Γ r := ⟨fun G H σ E Q q =>
  w_pe (pe_dget (by omega) pe_w pe_w hs) (ha.run G H σ E _ fun v G1 H1 f1 s1 k1 => hb.run G1 H1 σ (E.step s1) _ fun w G2 H2 f2 s2 k2 => by
    have k1' := k1.step s2
    cases k1' with
    | n h1 h2 =>
      rename_i p vs own fp
      obtain ⟨rfl, kvs, e1, rfl, rfl⟩ := h1
      obtain ⟨k, rfl⟩ := keyT_ex qx
      rcases valV_key (k := k) h2 with ⟨e3, e4⟩ | ⟨c, v, fq, e3, e4, e5⟩
      · rw [e3] at hz; cases hz
      · rw [e3] at hz
        obtain rfl := Option.some.inj hz
        have ew : w = kV k := by
          cases k2 with | d k2 => cases k <;> (simp only [keyD] at k2; cases k2; rfl)
        refine ⟨p, v, rfl, ?_, q v G2 H2 fq (s1.trans s2) e5⟩
        rw [ew, ← e4]
        exact DGet.k e1)⟩
theorem ev_inK {ks : List D} {cs : List T} (hu : X.A.units + 64 < cLine) (ha : EvT X a Γ (.d x)) (hb : EvT X b Γ (.n (.k ks) cs)) (qx : keyT x = true) (h1 : behindInMarks .In b = false) : EvT X (.Compare a [.In] [b] pos) Γ (.d (.bool (hasK ks x))) := ⟨fun G H σ E Q q =>
  w_pe (pe_cmp (pc_din (by omega) pe_w pe_w) h1) (ha.run G H σ E _ fun w G1 H1 f1 s1 k1 => hb.run G1 H1 σ (E.step s1) _ fun v G2 H2 f2 s2 k2 => by
    have k1' := k1.step s2
    cases k2 with
    | n h1 h2 =>
      rename_i p vs own fp
      obtain ⟨rfl, kvs, e1, rfl, rfl⟩ := h1
      obtain ⟨k, rfl⟩ := keyT_ex qx
      have ew : w = kV k := by
        cases k1' with | d k2 => cases k <;> (simp only [keyD] at k2; cases k2; rfl)
      exact ⟨p, valV kvs k, rfl, by rw [ew]; exact DGet.k e1, q _ G2 H2 [] (s1.trans s2) (by rw [← hasK_key]; exact .d (.bl _))⟩)⟩
theorem ev_ninK {ks : List D} {cs : List T} (hu : X.A.units + 64 < cLine) (ha : EvT X a Γ (.d x)) (hb : EvT X b Γ (.n (.k ks) cs)) (qx : keyT x = true) (h1 : behindInMarks .NotIn b = false) : EvT X (.Compare a [.NotIn] [b] pos) Γ (.d (.bool (!hasK ks x))) := ⟨fun G H σ E Q q =>
  w_pe (pe_cmp (pc_dnotin (by omega) pe_w pe_w) h1) (ha.run G H σ E _ fun w G1 H1 f1 s1 k1 => hb.run G1 H1 σ (E.step s1) _ fun v G2 H2 f2 s2 k2 => by
    have k1' := k1.step s2
    cases k2 with
    | n h1 h2 =>
      rename_i p vs own fp
      obtain ⟨rfl, kvs, e1, rfl, rfl⟩ := h1
      obtain ⟨k, rfl⟩ := keyT_ex qx
      have ew : w = kV k := by
        cases k1' with | d k2 => cases k <;> (simp only [keyD] at k2; cases k2; rfl)
      exact ⟨p, valV kvs k, rfl, by rw [ew]; exact DGet.k e1, q _ G2 H2 [] (s1.trans s2) (by rw [← hasK_key]; exact .d (.bl _))⟩)⟩
theorem et_inK {ks : List D} {cs : List T} (hu : X.A.units + 64 < cLine) (ha : EvT X a Γ (.d x)) (hb : EvT X b Γ (.n (.k ks) cs)) (qx : keyT x = true) (h1 : behindInMarks .In b = false) : EvB X (.Compare a [.In] [b] pos) Γ (hasK ks x) := ⟨fun G H σ E Q q =>
  w_pt (pt_cmp (pc_din (by omega) pe_w pe_w) h1) (ha.run G H σ E _ fun w G1 H1 f1 s1 k1 => hb.run G1 H1 σ (E.step s1) _ fun v G2 H2 f2 s2 k2 => by
    have k1' := k1.step s2
    cases k2 with
    | n h1 h2 =>
      rename_i p vs own fp
      obtain ⟨rfl, kvs, e1, rfl, rfl⟩ := h1
      obtain ⟨k, rfl⟩ := keyT_ex qx
      have ew : w = kV k := by
        cases k1' with | d k2 => cases k <;> (simp only [keyD] at k2; cases k2; rfl)
      exact ⟨p, valV kvs k, rfl, by rw [ew]; exact DGet.k e1, _, rfl, by rw [← hasK_key]; exact q G2 H2 (s1.trans s2)⟩)⟩
theorem et_ninK {ks : List D} {cs : List T} (hu : X.A.units + 64 < cLine) (ha : EvT X a Γ (.d x)) (hb : EvT X b Γ (.n (.k ks) cs)) (qx : keyT x = true) (h1 : behindInMarks .NotIn b = false) : EvB X (.Compare a [.NotIn] [b] pos) Γ (!hasK ks x) := ⟨fun G H σ E Q q =>
  w_pt (pt_cmp (pc_dnotin (by omega) pe_w pe_w) h1) (ha.run G H σ E _ fun w G1 H1 f1 s1 k1 => hb.run G1 H1 σ (E.step s1) _ fun v G2 H2 f2 s2 k2 => by
    have k1' := k1.step s2
    cases k2 with
    | n h1 h2 =>
      rename_i p vs own fp
      obtain ⟨rfl, kvs, e1, rfl, rfl⟩ := h1
      obtain ⟨k, rfl⟩ := keyT_ex qx
      have ew : w = kV k := by
        cases k1' with | d k2 => cases k <;> (simp only [keyD] at k2; cases k2; rfl)
      exact ⟨p, valV kvs k, rfl, by rw [ew]; exact DGet.k e1, _, rfl, by rw [← hasK_key]; exact q G2 H2 (s1.trans s2)⟩)⟩
/-! ### fields -/
theorem fld_look {K : Frg} {G H : Hp} {f : Str} : ∀ {fl : List (Str × V)} {cs : List T} {fp : List Addr}, TAts K G H (fl.map (·.2)) cs fp → fldAt (fl.map (·.1)) cs f = some r → ∃ v fq, fl.lookup f = some v ∧ TAt K G H v r fq
  | [], cs, fp, h, e => by cases cs <;> simp [fldAt] at e
  | q :: fl, cs, fp, h, e => by
    cases h with
    | cons h1 h2 =>
      simp only [List.map_cons, fldAt] at e
      by_cases z : q.1 = f
      · rw [if_pos z] at e
        obtain rfl := Option.some.inj e
        exact ⟨q.2, _, by rw [List.lookup_cons, ← z]; simp, h1⟩
      · rw [if_neg z] at e
        obtain ⟨v, fq, h3, h4⟩ := fld_look h2 e
        refine ⟨v, fq, ?_, h4⟩
        rw [List.lookup_cons, show (f == q.1) = false by simp; exact fun y => z y.symm]
        exact h3
theorem fldA_ex {cn f : Str} (h : fldA t cn f = some r) : ∃ fs cs, t = .n (.i cn fs) cs ∧ fldAt fs cs f = some r := by
  cases t with
  | d x => simp [fldA] at h
  | h p => simp [fldA] at h
  | n κ cs =>
    cases κ with
    | i c fs =>
      simp only [fldA] at h
      by_cases e : c = cn
      · subst e; rw [if_pos rfl] at h; exact ⟨fs, cs, rfl, h⟩
      · rw [if_neg e] at h; cases h
    | _ => simp [fldA] at h
theorem ev_fld {cn f : Str} (ha : EvT X a Γ t) (hf : fldA t cn f = some r) (cl : Cls X.K (Tc.C cn)) (na : NoAttr X.K (Tc.C cn) f) (hb : attributeBase a f X.env (eval a X.env) = eval a X.env) : EvT X (.Attribute a f pos) Γ r := ⟨fun G H σ E Q q =>
  w_pe (pe_fld pe_w hb) (ha.run G H σ E _ fun v G1 H1 f1 s1 k1 => by
    obtain ⟨fs, cs, rfl, hf2⟩ := fldA_ex hf
    cases k1 with
    | n h1 h2 =>
      obtain ⟨dx, fl, e1, rfl, rfl, e2, rfl⟩ := h1
      obtain ⟨w, fq, e3, e4⟩ := fld_look h2 hf2
      exact ⟨_, _, dx, fl, w, rfl, e1, cl, na, e3, q w G1 H1 fq s1 e4⟩)⟩
/-! ### slices -/
def EvO (X : Cx) (e : Option Expr) (Γ : List Sl) (o : Option Int) : Prop := match e, o with
  | none, none => True
  | some e, some i => EvT X e Γ (.d (.int i))
  | _, _ => False
theorem wO_ev {eo : Option Expr} {o : Option Int} (h : EvO X eo Γ o) {G H : Hp} {σ : L2.St} (E : WEnv X.K G H σ Γ) {Q : Option Int → Hp → Prop} (q : ∀ G' H', Stp G H G' H' → Q o H') : Wl.wO X eo σ H Q := fun pins s I => by
  cases eo with
  | none =>
    cases o with
    | none => exact po_none.run pins s σ H Q I (q G H (.refl E.gh))
    | some i => exact h.elim
  | some e =>
    cases o with
    | none => exact h.elim
    | some i => exact (po_some pe_w).run pins s σ H Q I ((show EvT X e Γ (.d (.int i)) from h).run G H σ E _ fun v G1 H1 f1 s1 k1 => ⟨i, k1.int rfl, q G1 H1 s1⟩)
theorem ev_slL {lo hi : Option Expr} {l m : Option Int} {xs : List D} (ha : EvT X a Γ t) (q1 : t.one = true) (e1 : t.dat = .list xs) (hl : EvO X lo Γ l) (hu : EvO X hi Γ m) : EvT X (.Subscript a (.Slice lo hi none p2) pos) Γ (.d (.list (Wl.cutL xs l m))) := ⟨fun G H σ E Q q =>
  w_pe (pe_slice sl_list pe_w Wl.po_w Wl.po_w) (ha.run G H σ E _ fun v G1 H1 f1 s1 k1 => wO_ev hl (E.step s1) fun G2 H2 s2 => wO_ev hu ((E.step s1).step s2) fun G3 H3 s3 => by
    obtain ⟨p, vs, rfl, hq, hd⟩ := (e1 ▸ (((k1.step s2).step s3).wk q1)).list s3.gh
    exact ⟨p, vs, rfl, hq, fun p hp => q _ (upd G3 p _) _ [] (((s1.trans s2).trans s3).trans (Stp.lay s3.gh hp)) (.d (.lst (.of upd_same) (dp_lay (s3.gh.free hp) (Wl.cut_dp hd))))⟩)⟩
theorem ev_slT {lo hi : Option Expr} {l m : Option Int} {xs : List D} (ha : EvT X a Γ (.d (.tuple xs))) (hl : EvO X lo Γ l) (hu : EvO X hi Γ m) (hw : ¬ (HT.sIx xs.length 0 l = 0 ∧ HT.sIx xs.length xs.length m = xs.length)) : EvT X (.Subscript a (.Slice lo hi none p2) pos) Γ (.d (.tuple (Wl.cutL xs l m))) := ⟨fun G H σ E Q q =>
  w_pe (pe_slice sl_tup pe_w Wl.po_w Wl.po_w) (ha.run G H σ E _ fun v G1 H1 f1 s1 k1 => wO_ev hl (E.step s1) fun G2 H2 s2 => wO_ev hu ((E.step s1).step s2) fun G3 H3 s3 => by
    obtain ⟨p, vs, rfl, hq, _, hd⟩ := (((k1.step s2).step s3).wk rfl).tuple s3.gh
    exact ⟨p, vs, rfl, hq, by rw [hd.len]; exact hw, fun p hp => q _ (upd G3 p _) _ [] (((s1.trans s2).trans s3).trans (Stp.lay s3.gh hp)) (.d (.tup (.of upd_same) (dp_lay (s3.gh.free hp) (Wl.cut_dp hd))))⟩)⟩
theorem ev_slS {lo hi : Option Expr} {l m : Option Int} {w : Str} (ha : EvT X a Γ (.d (.str w))) (hl : EvO X lo Γ l) (hu : EvO X hi Γ m) (hz : w.length ≤ sizeLine) : EvT X (.Subscript a (.Slice lo hi none p2) pos) Γ (.d (.str (cutS w l m))) := ⟨fun G H σ E Q q =>
  w_pe (pe_slice sl_str pe_w Wl.po_w Wl.po_w) (ha.run G H σ E _ fun v G1 H1 f1 s1 k1 => wO_ev hl (E.step s1) fun G2 H2 s2 => wO_ev hu ((E.step s1).step s2) fun G3 H3 s3 =>
    ⟨w, (k1.str rfl).1, hz, q _ G3 H3 [] ((s1.trans s2).trans s3) (.d (.str _))⟩)⟩
theorem ev_rev {k : Nat} {q1 q2 q3 : Pos} {xs : List D} (ha : EvT X a Γ t) (o1 : t.one = true) (e1 : t.dat = .list xs) : EvT X (.Subscript a (.Slice none none (some (.UnaryOp .USub (.Constant (.int 1) k q1) q2)) q3) pos) Γ (.d (.list xs.reverse)) := ⟨fun G H σ E Q q =>
  w_pe (pe_revL pe_w) (ha.run G H σ E _ fun v G1 H1 f1 s1 k1 => by
    obtain ⟨p, vs, rfl, hq, hd⟩ := (e1 ▸ (k1.wk o1)).list s1.gh
    exact ⟨p, vs, rfl, hq, fun p hp => q _ (upd G1 p _) _ [] (s1.trans (Stp.lay s1.gh hp)) (.d (.lst (.of upd_same) (dp_lay (s1.gh.free hp) hd.reverse)))⟩)⟩
/-! ### built-ins -/
theorem ev_callB {n : Str} {id : String} {p : Pos} (hc : Wl.CalD X (.builtin id) (ts.map T.dat) z) (ho : ts.all T.one = true) (hm : X.mg n = none) (hv : bootBuiltins n = some (.builtin id)) (hg : Gl X n) (ha : EvA X (e :: es) Γ ts) (hn : n ≠ "__name__") (hdb : (n == ("__debug__" : Str)) = false)
    (he : starEach (e :: es) X.env = (false, eval e X.env) :: starEach es X.env) (hpl : (backTo pos (starEach es X.env)).any (·.1) = false) : EvT X (.Call (.Name n p) (e :: es) [] pos) Γ (.d z) := ⟨fun G H σ E Q q => by
  obtain ⟨r, h1, h2⟩ := hc
  exact w_pe (pe_callB h1 hg hm hv pa_w hn hdb he hpl) (ha.run G H σ E _ fun vs G1 H1 f1 s1 k1 => h2 G1 H1 vs _ s1.gh (k1.wk ho) fun w G2 H2 s2 d => q w G2 H2 [] (s1.trans s2) (.d d))⟩
theorem ev_callTy {n : Str} {Tn : String} {p : Pos} (hc : Wl.CalD X (.type Tn) (ts.map T.dat) z) (ho : ts.all T.one = true) (hm : X.mg n = none) (hv : bootBuiltins n = some (.type Tn)) (hg : Gl X n) (ha : EvA X (e :: es) Γ ts) (hn : n ≠ "__name__") (hdb : (n == ("__debug__" : Str)) = false)
    (he : starEach (e :: es) X.env = (false, eval e X.env) :: starEach es X.env) (hpl : (backTo pos (starEach es X.env)).any (·.1) = false) : EvT X (.Call (.Name n p) (e :: es) [] pos) Γ (.d z) := ⟨fun G H σ E Q q => by
  obtain ⟨r, h1, h2⟩ := hc
  exact w_pe (pe_callTy h1 hg hm hv pa_w hn hdb he hpl) (ha.run G H σ E _ fun vs G1 H1 f1 s1 k1 => h2 G1 H1 vs _ s1.gh (k1.wk ho) fun w G2 H2 s2 d => q w G2 H2 [] (s1.trans s2) (.d d))⟩
/-- len of whatever has items -/
theorem ev_lenSeq {p : Pos} (q1 : t.isL = true ∨ t.isT = true) (hm : X.mg "len" = none) (hg : Gl X "len") (ha : EvT X e Γ t) (he : starEach [e] X.env = (false, eval e X.env) :: starEach [] X.env) : EvT X (.Call (.Name "len" p) [e] [] pos) Γ (.d (.int (t.kids.length : Nat))) := ⟨fun G H σ E Q q =>
  w_pe (pe_callB call_len_seq hg hm PySem.boot_len (pa_cons pe_w pa_nil he) (by decide) (by decide) he rfl) (ha.run G H σ E _ fun v G1 H1 f1 s1 k1 => by
    rcases q1 with q1 | q1
    · obtain ⟨p, vs, fq, rfl, hq, hd⟩ := k1.list s1.gh q1
      exact ⟨p, vs, rfl, .inl hq, by rw [hd.len]; exact q _ G1 H1 [] s1 (.d (.int _))⟩
    · obtain ⟨p, vs, fq, rfl, hq, hd⟩ := k1.tup s1.gh q1
      exact ⟨p, vs, rfl, .inr hq, by rw [hd.len]; exact q _ G1 H1 [] s1 (.d (.int _))⟩)⟩
theorem ev_lenK {p : Pos} {ks : List D} {cs : List T} (hm : X.mg "len" = none) (hg : Gl X "len") (ha : EvT X e Γ (.n (.k ks) cs)) (he : starEach [e] X.env = (false, eval e X.env) :: starEach [] X.env) : EvT X (.Call (.Name "len" p) [e] [] pos) Γ (.d (.int (ks.length : Nat))) := ⟨fun G H σ E Q q =>
  w_pe (pe_callB call_lenD hg hm PySem.boot_len (pa_cons pe_w pa_nil he) (by decide) (by decide) he rfl) (ha.run G H σ E _ fun v G1 H1 f1 s1 k1 => by
    cases k1 with
    | n h1 h2 =>
      obtain ⟨rfl, kvs, e1, rfl, rfl⟩ := h1
      exact ⟨_, kvs, rfl, e1, by rw [List.length_map] at q; exact q _ G1 H1 [] s1 (.d (.int _))⟩)⟩
theorem ev_lenSet {ns : List Int} {p q pp : Pos} (hc : X.calm = true) (hg : Gl X "len") (hm : X.mg "len" = none) (hg2 : Gl X "set") (hm2 : X.mg "set" = none) (ha : EvT X a Γ t) (q1 : t.one = true) (e1 : t.dat = .list (ns.map .int)) (hl : ns.length < 1000) (na : starEach [a] X.env = (false, eval a X.env) :: starEach [] X.env) :
    EvT X (.Call (.Name "len" p) [.Call (.Name "set" pp) [a] [] q] [] pos) Γ (.d (.int (Wl.dst ns : Nat))) := ⟨fun G H σ E Q k =>
  w_pe (Wl.pe_lenSet hc hg hm hg2 hm2 pe_w na) (ha.run G H σ E _ fun v G1 H1 f1 s1 k1 => by
    obtain ⟨p, vs, rfl, hq, hd⟩ := (e1 ▸ (k1.wk q1)).list s1.gh
    rw [hd.ints] at hq
    exact ⟨p, ns, rfl, hq, hl, k _ G1 H1 [] s1 (.d (.int _))⟩)⟩
/-! isinstance -/
def tyT : T → String
  | .d x => Wl.tyName x
  | .n .l _ => "list"
  | _ => "tuple"
theorem t_ty {K : Frg} {G H : Hp} {v : V} {fp : List Addr} (h : TAt K G H v t fp) (e : Same G H) (q : isOk t) : TyX K H v (.type (tyT t)) := by
  cases h with
  | d h => exact Wl.wk_ty (.inl h) e
  | h => exact q.elim
  | n h1 h2 =>
    rename_i κ _ _ _ _
    cases κ with
    | l => exact .base (.lst h1.1)
    | t => exact .base (.tup h1.1)
    | k _ => exact q.elim
    | i _ _ => exact q.elim
theorem ev_isi {Tk : Str} {Tn : String} {bb : Bool} {p q1 : Pos} (q : isOk t) (hk : kitB (tyT t) Tn = some bb) (hm : X.mg "isinstance" = none) (hmT : X.mg Tk = none) (hvT : bootBuiltins Tk = some (.type Tn)) (ha : EvT X e Γ t) (hg : Gl X "isinstance") (hgT : Gl X Tk)
    (hn : Tk ≠ "__name__") (hdb : (Tk == ("__debug__" : Str)) = false) (he : starEach [e, .Name Tk q1] X.env = (false, eval e X.env) :: starEach [.Name Tk q1] X.env) (hpl : (backTo pos (starEach [.Name Tk q1] X.env)).any (·.1) = false) :
    EvT X (.Call (.Name "isinstance" p) [e, .Name Tk q1] [] pos) Γ (.d (.bool bb)) := ⟨fun G H σ E Q qq => by
  have hT : PE X (.Name Tk q1) (tC (.ty Tn)) := pe_bltn hgT hmT hvT rfl hn hdb
  refine w_pe (pe_callB call_isi hg hm (by decide +kernel) (pa_cons pe_w (pa_cons hT pa_nil) he) (by decide) (by decide) he hpl) (ha.run G H σ E _ fun v G1 H1 f1 s1 k1 => ?_)
  exact ⟨v, .ty Tn, _, _, bb, rfl, .ty Tn, t_ty k1 s1.gh q, kit_ty hk, qq _ G1 H1 [] s1 (.d (.bl _))⟩⟩
end
end Yl

end

section
/-! Y3: what is walked, targets, comprehensions, calls that change nothing. -/
namespace Yl
open PySem PySem.Spec PyProof.Rows L2
open Wl (wE wT wA wS wSs pe_w pt_w pa_w ps_w pss_w w_pe w_pt w_pa w_ps w_pss Dt DtAll Stp Keeps NoT Wk WkAll dt_mono dtAll_mono dt_dp dtAll_dp sqT_mono dp_lay wG pg_w w_pg wGs pgs_w w_pgs wipe_in wipe_wipe wipe_sub Fre)
variable [Wl.Tb] [Tc]
/-! ### what is walked -/
structure SrcOk (K : Frg) (J : It) (its : List T) (G1 H1 : Hp) (fs : List Addr) : Prop where
  live : ∀ a, a ∈ fs → ∃ o, H1 a = some o ∧ isPl o = true
  ex : ∃ (Gd : Hp → Prop) (Y : Nat → Hp → V → Hp → Prop), Walk J its.length Gd Y ∧ (∀ G2 H2, Same G1 G2 → Same G2 H2 → (∀ a, a ∈ fs → H2 a = H1 a) → Gd H2) ∧
    ∀ (i : Nat) (G2 H2 : Hp) (v : V) (H3 : Hp), i < its.length → Same G1 G2 → Same G2 H2 → (∀ a, a ∈ fs → H2 a = H1 a) → Y i H2 v H3 → ∃ (G3 : Hp) (t : T) (fp : List Addr), its[i]? = some t ∧ Stp G2 H2 G3 H3 ∧ TAt K G3 H3 v t fp
/-- tg walks over its; st: over plain data alone -/
structure SrcT (X : Cx) (st : Bool) (tg iter : Expr) (Γ : List Sl) (its : List T) : Prop where
  ex : ∃ wi : TI, PI X tg iter wi ∧ ∀ (G H : Hp) (σ : L2.St), WEnv X.K G H σ Γ → ∀ R : It → Hp → Prop, (∀ J G1 H1 fs, Stp G H G1 H1 → (st = true → fs = []) → SrcOk X.K J its G1 H1 fs → R J H1) → wi σ H R
theorem SrcT.w {X : Cx} {tg iter : Expr} {Γ : List Sl} {its : List T} {st : Bool} (h : SrcT X st tg iter Γ its) : SrcT X false tg iter Γ its := by
  obtain ⟨wi, h1, h2⟩ := h.ex
  exact ⟨wi, h1, fun G H σ E R r => h2 G H σ E R fun J G1 H1 fs s _ k => r J G1 H1 fs s (fun z => by cases z) k⟩
section
variable {K : Frg} {G H G' H' G2 H2 : Hp} {v : V} {t : T} {fp : List Addr}
/-- a list that stands while its own addresses stand -/
theorem TAt.listS (h : TAt K G H v t fp) (e : Same G H) (q : t.isL = true) : ∃ p vs fq, v = .ref p ∧ (∀ G2 H2, Same G G2 → Same G2 H2 → (∀ a, a ∈ fp → H2 a = H a) → SqL K H2 p vs) ∧ TAts K G H vs t.kids fq ∧ ∀ a, a ∈ fq → a ∈ fp := by
  cases h with
  | d h =>
    rename_i x
    cases x <;> simp [T.isL] at q
    obtain ⟨p, vs, rfl, h1, h2⟩ := h.list
    exact ⟨p, vs, [], rfl, fun G2 H2 e1 e2 _ => e2.seq (e1.seq h1), .ofD h2, fun a ha => by cases ha⟩
  | h => simp [T.isL] at q
  | n h1 h2 =>
    rename_i κ _ _ fz _
    cases κ <;> simp [T.isL] at q
    obtain ⟨h1, rfl⟩ := h1
    exact ⟨_, _, fz, rfl, fun G2 H2 e1 e2 e3 => .of (by rw [e3 _ (by simp)]; exact h1), h2, fun a ha => List.mem_append_right _ ha⟩
theorem TAt.tupS (h : TAt K G H v t fp) (e : Same G H) (q : t.isT = true) : ∃ p vs fq, v = .ref p ∧ (∀ G2 H2, Same G G2 → Same G2 H2 → (∀ a, a ∈ fp → H2 a = H a) → SqT K H2 p vs) ∧ TAts K G H vs t.kids fq ∧ ∀ a, a ∈ fq → a ∈ fp := by
  cases h with
  | d h =>
    rename_i x
    cases x <;> simp [T.isT] at q
    obtain ⟨p, vs, rfl, h1, h2⟩ := h.tuple
    exact ⟨p, vs, [], rfl, fun G2 H2 e1 e2 _ => sqT_mono e2 (sqT_mono e1 h1), .ofD h2, fun a ha => by cases ha⟩
  | h => simp [T.isT] at q
  | n h1 h2 =>
    rename_i κ _ _ fz _
    cases κ <;> simp [T.isT] at q
    obtain ⟨h1, rfl⟩ := h1
    exact ⟨_, _, fz, rfl, fun G2 H2 e1 e2 e3 => .of (by rw [e3 _ (by simp)]; exact h1), h2, fun a ha => List.mem_append_right _ ha⟩
theorem TAt.fpd (h : TAt K G H v t fp) (q : t.sd = true) : fp = [] := by
  cases h with
  | d h => rfl
  | h => simp [T.sd] at q
  | n h1 h2 => simp [T.sd] at q
theorem same_of {fs : List Addr} (lv : ∀ a, a ∈ fs → ∃ o, H a = some o ∧ isPl o = true) (s : Stp G H G2 H2) : ∀ a, a ∈ fs → H2 a = H a := fun a ha => by
  obtain ⟨o, e, p⟩ := lv a ha
  rw [e]; exact s.h.n a o e (pl_tbl p)
end
section
variable {X : Cx} {Γ Γ' : List Sl} {e a b c tg iter : Expr} {es : List Expr} {t u r : T} {ts us its : List T} {x y z : D} {pos p2 : Pos}
theorem src_list (h : EvT X iter Γ t) (q1 : t.isL = true) : SrcT X t.sd tg iter Γ t.kids := ⟨by
  refine ⟨_, pi_list pe_w, fun G H σ E R rr => h.run G H σ E _ fun v G1 H1 f1 s1 k1 => ?_⟩
  obtain ⟨p, vs, fq, rfl, hp, hd, sub⟩ := k1.listS s1.gh q1
  refine ⟨p, rfl, ⟨vs, hp G1 H1 (Same.refl _) s1.gh fun _ _ => rfl⟩, rr _ G1 H1 f1 s1 (fun z => k1.fpd z) ⟨tat_live _ _ _ k1, _, _, by rw [← hd.len]; exact walk_list, fun G2 H2 e1 e2 e3 => hp G2 H2 e1 e2 e3, fun i G2 H2 v H3 hi e1 e2 e3 y => ?_⟩⟩
  obtain ⟨rfl, hv⟩ := y
  obtain ⟨x, fz, e4, d⟩ := (tats_mono e1 _ _ _ hd fun a ha => e3 a (sub a ha)).get' hv
  exact ⟨G2, x, fz, e4, .refl e2, d⟩⟩
theorem src_tup (h : EvT X iter Γ t) (q1 : t.isT = true) : SrcT X t.sd tg iter Γ t.kids := ⟨by
  refine ⟨_, pi_tup pe_w, fun G H σ E R rr => h.run G H σ E _ fun v G1 H1 f1 s1 k1 => ?_⟩
  obtain ⟨p, vs, fq, rfl, hp, hd, sub⟩ := k1.tupS s1.gh q1
  refine ⟨p, rfl, ⟨vs, hp G1 H1 (Same.refl _) s1.gh fun _ _ => rfl⟩, rr _ G1 H1 f1 s1 (fun z => k1.fpd z) ⟨tat_live _ _ _ k1, _, _, by rw [← hd.len]; exact walk_tup, fun G2 H2 e1 e2 e3 => hp G2 H2 e1 e2 e3, fun i G2 H2 v H3 hi e1 e2 e3 y => ?_⟩⟩
  obtain ⟨rfl, hv⟩ := y
  obtain ⟨x, fz, e4, d⟩ := (tats_mono e1 _ _ _ hd fun a ha => e3 a (sub a ha)).get' hv
  exact ⟨G2, x, fz, e4, .refl e2, d⟩⟩
theorem src_str {w : Str} (h : EvT X iter Γ (.d (.str w))) : SrcT X true tg iter Γ (T.kids (.d (.str w))) := ⟨by
  refine ⟨_, pi_str pe_w, fun G H σ E R rr => h.run G H σ E _ fun v G1 H1 f1 s1 k1 => ?_⟩
  refine ⟨w, (k1.str rfl).1, rr _ G1 H1 [] s1 (fun _ => rfl) ⟨(fun a ha => by cases ha), _, _, by rw [show (T.kids (.d (.str w))).length = w.cps.size by unfold T.kids; simp]; exact walk_str, fun G2 H2 _ _ _ => True.intro, fun i G2 H2 v H3 hi e1 e2 e3 y => ?_⟩⟩
  obtain ⟨rfl, c, hc, rfl⟩ := y
  refine ⟨G2, .d (.str ⟨#[c]⟩), [], ?_, .refl e2, .d (.str _)⟩
  unfold T.kids
  rw [List.getElem?_map, Array.getElem?_toList, hc]
  rfl⟩
theorem rg_at {lo : Int} {n i : Nat} {st : Int} (h : i < n) : ((List.range n).map fun k => T.d (.int (lo + (k : Nat) * st)))[i]? = some (.d (.int (lo + (i : Nat) * st))) := by
  rw [List.getElem?_map, List.getElem?_range h]; rfl
theorem src_rg {K : Frg} {lo : Int} {n : Nat} {G1 H1 : Hp} {its : List T} (hl : its = (List.range n).map fun k => T.d (.int (lo + (k : Nat)))) : SrcOk K (Itr lo n) its G1 H1 [] := by
  subst hl
  refine ⟨(fun a ha => by cases ha), fun _ => True, _, by rw [List.length_map, List.length_range]; exact walk_range, fun _ _ _ _ _ => True.intro, fun i G2 H2 v H3 hi e1 e2 e3 y => ?_⟩
  obtain ⟨rfl, rfl⟩ := y
  rw [List.length_map, List.length_range] at hi
  exact ⟨G2, _, [], by rw [List.getElem?_map, List.getElem?_range hi]; rfl, .refl e2, .d (.int _)⟩
theorem src_r1 {p : Pos} (hm : X.mg "range" = none) (h : EvT X a Γ t) (qi : t.isI = true) (h1 : -(2 ^ 62) ≤ t.i) (h2 : t.i < 2 ^ 62) (hg : Gl X "range") (hs : starEach [a] X.env = [(false, eval a X.env)]) : SrcT X true tg (.Call (.Name "range" p) [a] [] pos) Γ ((List.range t.i.toNat).map fun k => .d (.int (k : Nat))) := ⟨by
  refine ⟨_, pi_range1 hg hm (pa_cons pe_w pa_nil hs) hs, fun G H σ E R rr => h.run G H σ E _ fun v G1 H1 f1 s1 k1 => ?_⟩
  exact ⟨_, by rw [k1.int qi], h1, h2, rr _ G1 H1 [] s1 (fun _ => rfl) (src_rg (by simp))⟩⟩
theorem src_r2 {p : Pos} (hm : X.mg "range" = none) (h : EvT X a Γ t) (h' : EvT X b Γ u) (qi : t.isI = true) (qj : u.isI = true) (hn : -(2 ^ 62) ≤ t.i ∧ t.i < 2 ^ 62 ∧ -(2 ^ 62) ≤ u.i ∧ u.i < 2 ^ 62) (hg : Gl X "range") (hs : starEach [a, b] X.env = [(false, eval a X.env), (false, eval b X.env)])
    (hs2 : starEach [b] X.env = [(false, eval b X.env)]) (hs3 : starEach [a, b] X.env = (false, eval a X.env) :: starEach [b] X.env) : SrcT X true tg (.Call (.Name "range" p) [a, b] [] pos) Γ ((List.range (u.i - t.i).toNat).map fun k => .d (.int (t.i + (k : Nat)))) := ⟨by
  refine ⟨_, pi_range2 hg hm (pa_cons pe_w (pa_cons pe_w pa_nil hs2) hs3) hs hs2, fun G H σ E R rr => h.run G H σ E _ fun v G1 H1 f1 s1 k1 => h'.run G1 H1 σ (E.step s1) _ fun w G2 H2 f2 s2 k2 => ?_⟩
  exact ⟨_, _, by rw [k1.int qi, k2.int qj], hn, rr _ G2 H2 [] (s1.trans s2) (fun _ => rfl) (src_rg rfl)⟩⟩
theorem src_r3 {n : Nat} {p : Pos} (hm : X.mg "range" = none) (h : EvT X a Γ t) (h' : EvT X b Γ u) (h'' : EvT X c Γ r) (q1 : t.isI = true) (q2 : u.isI = true) (q3 : r.isI = true) (hn : RgC t.i u.i r.i n) (hg : Gl X "range") (hs : starEach [a, b, c] X.env = (false, eval a X.env) :: starEach [b, c] X.env)
    (hs2 : starEach [b, c] X.env = (false, eval b X.env) :: starEach [c] X.env) (hs3 : starEach [c] X.env = (false, eval c X.env) :: starEach [] X.env) (hpl : (backTo pos (starEach [b, c] X.env)).any (·.1) = false) : SrcT X true tg (.Call (.Name "range" p) [a, b, c] [] pos) Γ ((List.range n).map fun k => .d (.int (t.i + (k : Nat) * r.i))) := ⟨by
  refine ⟨_, pi_range3 hg hm (pa_cons pe_w (pa_cons pe_w (pa_cons pe_w pa_nil hs3) hs2) hs) hs hpl, fun G H σ E R rr => h.run G H σ E _ fun v G1 H1 f1 s1 k1 => h'.run G1 H1 σ (E.step s1) _ fun w G2 H2 f2 s2 k2 => h''.run G2 H2 σ ((E.step s1).step s2) _ fun w3 G3 H3 f3 s3 k3 => ?_⟩
  refine ⟨_, _, _, n, by rw [k1.int q1, k2.int q2, k3.int q3], hn, rr _ G3 H3 [] ((s1.trans s2).trans s3) (fun _ => rfl) ?_⟩
  refine ⟨(fun a ha => by cases ha), fun _ => True, _, by rw [List.length_map, List.length_range]; exact walk_rangeC, fun _ _ _ _ _ => True.intro, fun i G2 H2 v H3 hi e1 e2 e3 y => ?_⟩
  obtain ⟨rfl, rfl⟩ := y
  rw [List.length_map, List.length_range] at hi
  exact ⟨G2, _, [], rg_at hi, .refl e2, .d (.int _)⟩⟩
theorem src_en {elts : List Expr} {kk : Nat} {tpos p : Pos} (hm : X.mg "enumerate" = none) (h : EvT X a Γ t) (q1 : t.isL = true) (hg : Gl X "enumerate") (hs : starEach [a] X.env = [(false, eval a X.env)]) : SrcT X t.sd (.Tuple elts kk tpos) (.Call (.Name "enumerate" p) [a] [] pos) Γ (t.kids.zipIdx.map fun q => .n .t [.d (.int (q.2 : Nat)), q.1]) := ⟨by
  refine ⟨_, pi_enum hg hm (pa_cons pe_w pa_nil hs) hs, fun G H σ E R rr => h.run G H σ E _ fun v G1 H1 f1 s1 k1 => ?_⟩
  obtain ⟨p, vs, fq, rfl, hp, hd, sub⟩ := k1.listS s1.gh q1
  refine ⟨p, vs, rfl, hp G1 H1 (Same.refl _) s1.gh fun _ _ => rfl, rr _ G1 H1 f1 s1 (fun z => k1.fpd z) ⟨tat_live _ _ _ k1, _, _, by rw [List.length_map, List.length_zipIdx, ← hd.len]; exact walk_enum, fun G2 H2 e1 e2 e3 => hp G2 H2 e1 e2 e3, fun i G2 H2 v H3 hi e1 e2 e3 y => ?_⟩⟩
  obtain ⟨A, x, w, rfl, hT, rfl, hx, hw⟩ := y
  cases hx
  obtain ⟨z, fz, e4, d⟩ := (tats_mono e1 _ _ _ hd fun a ha => e3 a (sub a ha)).get' hw
  have st : Stp G2 H2 G2 (upd H2 A (.tup [V.int (i : Nat), w])) := Stp.put e2 hT
  refine ⟨G2, .n .t [.d (.int (i : Nat)), z], _, ?_, st, .n ⟨upd_same, rfl⟩ (.cons (.d (.int _)) (.cons (d.step st) .nil))⟩
  rw [List.getElem?_map, List.getElem?_zipIdx, e4]
  simp⟩
theorem src_zp {elts : List Expr} {kk : Nat} {tpos p : Pos} (hm : X.mg "zip" = none) (h : EvT X a Γ t) (h' : EvT X b Γ u) (q1 : t.isL = true) (q2 : u.isL = true) (hg : Gl X "zip") (hs : starEach [a, b] X.env = (false, eval a X.env) :: starEach [b] X.env) (hs2 : starEach [b] X.env = (false, eval b X.env) :: starEach [] X.env)
    (hpl : (backTo pos (starEach [b] X.env)).any (·.1) = false) : SrcT X (t.sd && u.sd) (.Tuple elts kk tpos) (.Call (.Name "zip" p) [a, b] [] pos) Γ ((t.kids.zip u.kids).map fun q => .n .t [q.1, q.2]) := ⟨by
  refine ⟨_, pi_zip hg hm (pa_cons pe_w (pa_cons pe_w pa_nil hs2) hs) hs hpl, fun G H σ E R rr => h.run G H σ E _ fun v G1 H1 f1 s1 k1 => h'.run G1 H1 σ (E.step s1) _ fun w G2 H2 f2 s2 k2 => ?_⟩
  have k1' := k1.step s2
  obtain ⟨p, vs, fq, rfl, hp, hd, sub⟩ := k1'.listS s2.gh q1
  obtain ⟨p', vs', fq', rfl, hp', hd', sub'⟩ := k2.listS s2.gh q2
  refine ⟨p, p', vs, vs', rfl, hp G2 H2 (Same.refl _) s2.gh fun _ _ => rfl, hp' G2 H2 (Same.refl _) s2.gh fun _ _ => rfl, rr _ G2 H2 (f1 ++ f2) (s1.trans s2) (fun z => ?_) ⟨fun a ha => ?_, _, _, walk_zip (by rw [List.length_map, List.length_zip, hd.len, hd'.len]), fun G3 H3 e1 e2 e3 => ⟨hp G3 H3 e1 e2 fun a ha => e3 a (List.mem_append_left _ ha), hp' G3 H3 e1 e2 fun a ha => e3 a (List.mem_append_right _ ha)⟩, fun i G3 H3 v H4 hi e1 e2 e3 y => ?_⟩⟩
  · rw [Bool.and_eq_true] at z
    rw [k1'.fpd z.1, k2.fpd z.2]; rfl
  · rcases List.mem_append.mp ha with q | q
    · exact tat_live _ _ _ k1' a q
    · exact tat_live _ _ _ k2 a q
  obtain ⟨A, x, w, rfl, hT, rfl, hx, hw⟩ := y
  obtain ⟨z, fz, e4, d⟩ := (tats_mono e1 _ _ _ hd fun a ha => e3 a (List.mem_append_left _ (sub a ha))).get' hx
  obtain ⟨z', fz', e4', d'⟩ := (tats_mono e1 _ _ _ hd' fun a ha => e3 a (List.mem_append_right _ (sub' a ha))).get' hw
  have st : Stp G3 H3 G3 (upd H3 A (.tup [x, w])) := Stp.put e2 hT
  refine ⟨G3, .n .t [z, z'], _, ?_, st, .n ⟨upd_same, rfl⟩ (.cons (d.step st) (.cons (d'.step st) .nil))⟩
  rw [List.getElem?_map, List.zip_eq_zipWith, List.getElem?_zipWith, e4, e4']
  rfl⟩
/-! ### targets -/
structure TgT (X : Cx) (tg : Expr) (vs : List Nat) (t : T) (Γ Γ' : List Sl) : Prop where
  run : ∀ (G H : Hp) (σ : L2.St) (v : V) (fp : List Addr), WEnv X.K G H σ Γ → TAt X.K G H v t fp → ∀ Q : L2.St → Hp → Prop, (∀ σ', WEnv X.K G H σ' Γ' → wipe σ' vs = wipe σ vs → Q σ' H) → wG X tg v σ H Q
theorem tg_name {n : Str} {i : Nat} {vs : List Nat} (hN : X.N.Nodup) (hi : X.N[i]? = some n) (hx : Loc X.env.scope n) (hm : i ∈ vs) (hf : X.fn n = true ∨ X.env.scope.names.lookup n = some .local) : TgT X (.Name n pos) vs t Γ (Γ.set i (.w t)) := ⟨fun G H σ v fp E d Q q =>
  w_pg (pg_name hN hi hx hf) (q _ (E.set_w d i) (wipe_in hm))⟩
structure TgsT (X : Cx) (tgs : List Expr) (ws : List Nat) (ts : List T) (Γ Γ' : List Sl) : Prop where
  run : ∀ (G H : Hp) (σ : L2.St) (vs : List V) (fp : List Addr), WEnv X.K G H σ Γ → TAts X.K G H vs ts fp → ∀ Q : L2.St → Hp → Prop, (∀ σ', WEnv X.K G H σ' Γ' → wipe σ' ws = wipe σ ws → Q σ' H) → wGs X tgs vs σ H Q
theorem tgs_nil {ws : List Nat} : TgsT X [] ws [] Γ Γ := ⟨fun G H σ vs fp E d Q q => by
  cases d
  exact w_pgs pgs_nil ⟨rfl, q σ E rfl⟩⟩
theorem tgs_cons {tgs : List Expr} {ws : List Nat} {Γ1 Γ2 : List Sl} (h : TgT X tg ws t Γ Γ1) (k : TgsT X tgs ws ts Γ1 Γ2) (hs : (assignEach (tg :: tgs) X.env).map (·.2) = assign tg X.env :: (assignEach tgs X.env).map (·.2)) : TgsT X (tg :: tgs) ws (t :: ts) Γ Γ2 := ⟨fun G H σ vs fp E d Q q => by
  cases d with
  | cons d1 d2 => exact w_pgs (pgs_cons pg_w pgs_w hs) ⟨_, _, rfl, h.run G H σ _ _ E d1 _ fun σ1 E1 w1 => k.run G H σ1 _ _ E1 d2 _ fun σ2 E2 w2 => q σ2 E2 (w2.trans w1)⟩⟩
theorem tg_tup {tgs : List Expr} {ws : List Nat} {Γ' : List Sl} {kk n : Nat} (hc : X.calm = true) (qt : t.isT = true) (h : TgsT X tgs ws t.kids Γ Γ') (hl : t.kids.length = n) (hn : (assignEach tgs X.env).length = n) (hst : (assignEach tgs X.env).findIdx? (·.1) = none) : TgT X (.Tuple tgs kk pos) ws t Γ Γ' := ⟨fun G H σ v fp E d Q q => by
  obtain ⟨p, vs, fq, rfl, hp, hd⟩ := d.tup E.gh qt
  exact w_pg (pg_tup hc pgs_w hn hst) ⟨p, vs, rfl, hp, by rw [hd.len]; exact hl, h.run G H σ vs fq E hd Q q⟩⟩
/-! ### comprehensions -/
def EvTs (X : Cx) (ifs : List Expr) (Γ : List Sl) (k : Bool) : Prop := match ifs with
  | [] => k = true
  | [c] => EvB X c Γ k
  | _ => False
abbrev Blk (X : Cx) (scope : Scope) (s : Shared) (H : Hp) (C : Addr) (cl : List (Str × Addr)) (fp : List Addr) : Cx := X.blk s H scope (compEnvC scope cl C X.env) fp
theorem evTs_w {ifs : List Expr} {k : Bool} (h : EvTs X ifs Γ k) {G H : Hp} {σ : L2.St} (E : WEnv X.K G H σ Γ) {Q : Bool → Hp → Prop} (q : ∀ G' H', Stp G H G' H' → Q k H') : Wl.wTs X ifs σ H Q := by
  match ifs, h with
  | [], h =>
    rw [show k = true from h] at q
    exact Wl.w_pts pts_nil (q G H (.refl E.gh))
  | [c], h => exact Wl.w_pts (pts_one pt_w) ((show EvB X c Γ k from h).run G H σ E Q q)
def wipeS (Γ : List Sl) : List Nat → List Sl
  | [] => Γ
  | v :: vs => (wipeS Γ vs).set v .un
theorem WEnv.wipe {K : Frg} {G H : Hp} {σ : L2.St} (E : WEnv K G H σ Γ) : ∀ vs : List Nat, WEnv K G H (wipe σ vs) (wipeS Γ vs)
  | [] => E
  | v :: vs => (WEnv.wipe E vs).set_un none v
/-- what a turn of a comprehension tells -/
def TurnT (X : Cx) (Γ : List Sl) (own : List (Str × Nat)) (scope : Scope) (tg elt : Expr) (ifs : List Expr) (its : List T) (p : T → Bool) (f : T → D) : Prop :=
  ∀ t : T, t ∈ its → ∃ Γ', ∀ (s : Shared) (H0 : Hp) (C : Addr) (cl : List (Str × Addr)) (fp : List Addr), TgT (Blk X scope s H0 C cl fp) tg (own.map (·.2)) t (wipeS Γ (own.map (·.2))) Γ' ∧
    EvTs (Blk X scope s H0 C cl fp) ifs Γ' (p t) ∧ (p t = true → EvT (Blk X scope s H0 C cl fp) elt Γ' (.d (f t)))
/-- the reading of such a comprehension: a new list -/
theorem lc_tell {own : List (Str × Nat)} {scope : Scope} {elt : Expr} {ifs : List Expr} {p : T → Bool} {f : T → D} {wi : TI} {G H : Hp} {σ : L2.St}
    (src : ∀ R : It → Hp → Prop, (∀ J G1 H1 fs, Stp G H G1 H1 → (false = true → fs = []) → SrcOk X.K J its G1 H1 fs → R J H1) → wi σ H R) (len : its.length ≤ 100000) (tn : TurnT X Γ own scope tg elt ifs its p f)
    (E : WEnv X.K G H σ Γ) {Q : VK} (q : ∀ d vs G' H', Stp G H G' H' → Fre H d → G' d = none → H' d = some (.lst vs) → DtAll X.K G' vs ((its.filter p).map f) → Q (.ref d) H') :
    tLc wi (Wl.tgB X scope tg) (Wl.tsB X scope ifs) (Wl.teB X scope elt) (own.map (·.2)) σ H Q := by
  refine src _ fun J G1 H1 fs s1 _ k1 => ?_
  intro Dl hD
  obtain ⟨Gd, Y, wk, og, oy⟩ := k1.ex
  have E1 := E.step s1
  have fsD : Dl ∉ fs := fun z => by obtain ⟨o, e, _⟩ := k1.live _ z; rw [hD] at e; cases e
  let Pv : Nat → Hp → Prop := fun i H' => ∃ (G' : Hp) (vs : List V), Stp G1 H1 G' H' ∧ G' Dl = none ∧ H' Dl = some (.lst vs) ∧ DtAll X.K G' vs (((its.take i).filter p).map f)
  have st0 : ∀ {G' H' : Hp}, Stp G1 H1 G' H' → ∀ a, a ∈ fs → H' a = H1 a := fun s => same_of k1.live s
  refine lc_it wk Pv ⟨G1, [], Stp.put s1.gh hD, s1.gh.free hD, upd_same, .nil⟩ (fun i H' hi ⟨G', vs, t, _⟩ => og G' H' t.g t.gh (st0 t)) ?_ ?_
  · rintro i v H2 H3 hi ⟨G2, vs, t2, gD, hDl, hd⟩ y
    obtain ⟨G3, x, fz, hx, t3, dx⟩ := oy i G2 H2 v H3 hi t2.g t2.gh (st0 t2) y
    have t13 := t2.trans t3
    have gD3 : G3 Dl = none := t3.free gD hDl rfl
    have hD3 : H3 Dl = some (.lst vs) := t3.h.lst hDl
    have Ew := (E1.step t13).wipe (own.map (·.2))
    obtain ⟨Γ', step⟩ := tn x (List.mem_of_getElem? hx)
    have accl : vs.length < sizeLine := by
      rw [hd.len, List.length_map]
      have h1 := List.length_filter_le p (its.take i)
      rw [List.length_take] at h1
      have h3 : sizeLine = 16777216 := by decide
      omega
    have nxt : ∀ {G4 H4 : Hp}, Stp G3 H3 G4 H4 → (p x = false → Pv (i + 1) H4) ∧ (p x = true → ∀ {G5 H5 : Hp} {u : V}, Stp G4 H4 G5 H5 → Dt X.K G5 u (f x) → ∃ acc, H5 Dl = some (.lst acc) ∧ acc.length < sizeLine ∧ Pv (i + 1) (upd H5 Dl (.lst (acc ++ [u])))) := fun {G4 H4} t4 => by
      refine ⟨fun hp => ⟨G4, vs, t13.trans t4, t4.free gD3 hD3 rfl, t4.h.lst hD3, ?_⟩, fun hp {G5 H5 u} t5 du => ⟨vs, t5.h.lst (t4.h.lst hD3), accl, G5, vs ++ [u], ?_, ?_, upd_same, ?_⟩⟩
      · rw [Wl.filter_snoc p hx, hp, if_neg Bool.false_ne_true, List.append_nil]
        exact dtAll_mono (t3.g.trans t4.g) _ _ hd
      · have t15 := (t13.trans t4).trans t5
        exact ⟨t15.g, Wl.keeps_upd2 t15.h hD (t5.h.lst (t4.h.lst hD3)), Wl.same_upd2 t15.gh (t5.free (t4.free gD3 hD3 rfl) (t4.h.lst hD3) rfl), t15.new, t15.nt⟩
      · exact t5.free (t4.free gD3 hD3 rfl) (t4.h.lst hD3) rfl
      · rw [Wl.filter_snoc p hx, hp, if_pos rfl, List.map_append]
        exact (dtAll_mono ((t3.g.trans t4.g).trans t5.g) _ _ hd).append (.one du)
    intro s H0 C cl fp
    refine (step s H0 C cl fp).1.run G3 H3 _ v fz Ew dx _ fun σ' E' w' => ⟨w'.trans (wipe_wipe σ _), fun s H0 C cl fp => ?_⟩
    refine evTs_w (step s H0 C cl fp).2.1 E' fun G4 H4 t4 => ?_
    cases hp : p x with
    | false => exact iteF ((nxt t4).1 hp)
    | true =>
      refine iteT fun s H0 C cl fp => ((step s H0 C cl fp).2.2 hp).run G4 H4 σ' (E'.step t4) _ fun u G5 H5 f5 t5 du => ?_
      exact (nxt t4).2 hp t5 (du.dt rfl)
  · rintro H2 ⟨G2, vs, t2, gD, hDl, hd⟩
    rw [List.take_length] at hd
    exact q Dl vs G2 H2 (s1.trans t2) (s1.h.fre (.inl hD)) gD hDl hd
theorem lay_new {G H G' H' : Hp} {d : Addr} {vs : List V} (t : Stp G H G' H') (hH : Fre H d) (hG : G' d = none) (hd : H' d = some (.lst vs)) : Stp G H (upd G' d (.lst vs)) H' := by
  refine ⟨t.g.trans (Wl.same_upd hG), t.h, fun a o e => ?_, fun a => ?_, fun n => (t.nt n).upd fun ps z => by cases z⟩
  · by_cases z : a = d
    · subst z; rw [upd_same] at e; rw [hd]; exact e
    · rw [upd_ne z] at e; exact t.gh _ _ e
  · by_cases z : a = d
    · subst z; exact .inr hH
    · rw [upd_ne z]; exact t.new a
theorem ev_lc {own : List (Str × Nat)} {scope : Scope} {elt : Expr} {ifs : List Expr} {p : T → Bool} {f : T → D} (hc : X.calm = true) (hN : X.N.Nodup) (src : SrcT X false tg iter Γ its) (ok : BlkOk X.N X.env.scope scope own) (len : its.length ≤ 100000) (tn : TurnT X Γ own scope tg elt ifs its p f)
    (hs : ∀ x, foldedSetIterable iter X.env x = pure x) : EvT X (.ListComp elt [⟨tg, iter, ifs, 0⟩] scope pos) Γ (.d (.list ((its.filter p).map f))) := ⟨fun G H σ E Q q => by
  obtain ⟨wi, hpi, hsrc⟩ := src.ex
  have h := lc_tell (hsrc G H σ E) len tn E (Q := Q) fun d vs G' H' t hH hG hd da => by
    have t' : Stp G H (upd G' d (.lst vs)) H' := lay_new t hH hG hd
    exact q _ _ _ [] t' (.d (.lst (.of upd_same) (dp_lay hG da)))
  exact w_pe (pe_lc hc hN hpi ok (fun s H C cl fp => ⟨fun pins s' σ H' v u Q I r z => z s H C cl fp pins s' u I r⟩) (fun s H C cl fp => ⟨fun pins s' σ H' Q I z => z s H C cl fp pins s' I⟩) (fun s H C cl fp => ⟨fun pins s' σ H' Q I z => z s H C cl fp pins s' I⟩) hs) h⟩
/-! ### calls of defs that change nothing -/
def spR (K : Frg) (mg : Str → Option Value) (F : PF) : Sp := fun vs H Q E => ∃ (G : Hp) (ts : List T) (fp : List Addr), Same G H ∧ LamX.Tabs Wl.Tb.T H ∧ NoT G ∧ TAts K G H vs ts fp ∧ F.pre ts ∧
  match F.out ts with
  | .ret x => ∀ v G' H', Stp G H G' H' → Dt K G' v x → Q v H'
  | .exc n => ∀ G' H', Stp G H G' H' → E (.ref (Wl.clsAt mg n)) none H'
theorem ou_ret {o : Ou} (h : o.isR = true) : o = .ret o.x := by
  cases o with
  | ret x => rfl
  | exc n => cases h
theorem ev_call {n : Str} {p : Pos} {k j m : Nat} {F : PF} (f : Wl.FG X.prog X.w X.K X.mg X.base k n m (spR X.K X.mg F)) (hr : Room j X.A) (hkj : k ≤ j) (hF : F.pre ts) (hR : (F.out ts).isR = true) (ha : EvA X (e :: es) Γ ts) (hg : Gl X n) (hdb : (n == ("__debug__" : Str)) = false)
    (he : starEach (e :: es) X.env = (false, eval e X.env) :: starEach es X.env) (hpl : (backTo pos (starEach es X.env)).any (·.1) = false) : EvT X (.Call (.Name n p) (e :: es) [] pos) Γ (.d (F.out ts).x) := ⟨fun G H σ E Q q => by
  obtain ⟨a, fd, ps, hps, hm, hkp, hb, hf⟩ := f.ex
  refine w_pe (pe_call hf (hr.mono hkj) hg hm hkp hb .nil Wl.passN pa_w hdb he hpl) (ha.run G H σ E _ fun vs G1 H1 f1 s1 k1 => ?_)
  rw [List.append_nil]
  refine ⟨G1, ts, f1, s1.gh, s1.h.t E.tab, s1.nt E.nt, k1, hF, ?_⟩
  rw [ou_ret hR]
  exact fun v G2 H2 s2 d => q v G2 H2 [] (s1.trans s2) (.d d)⟩
/-- a method of a class, by its promise -/
structure MG (P : Program) (w : World) (K : Frg) (mg : Str → Option Value) (base : Heap) (k : Nat) (c m : Str) (ar : Nat) (sp : Sp) : Prop where
  ex : ∃ (f : Addr) (fd : FuncData) (ps : List Str), ps.length = ar ∧ Cls K (Tc.C c) ∧ Meth K (Tc.C c) m f ∧ Binds K fd ps [] ∧ FnOk P w K mg base (L2N.CX P w) k f fd ps sp
theorem isIns_ex {c m : Str} (h : isIns t c m = true) : ∃ fs cs, t = .n (.i c fs) cs ∧ m ∉ fs := by
  cases t with
  | d x => simp [isIns] at h
  | h p => simp [isIns] at h
  | n κ cs =>
    cases κ with
    | i c' fs =>
      simp only [isIns, Bool.and_eq_true, decide_eq_true_eq, Bool.not_eq_true', List.contains_eq_mem, decide_eq_false_iff_not] at h
      obtain ⟨rfl, h⟩ := h
      exact ⟨fs, cs, rfl, h⟩
    | _ => simp [isIns] at h
theorem look_none {f : Str} : ∀ {fl : List (Str × V)}, f ∉ fl.map (·.1) → fl.lookup f = none
  | [], _ => rfl
  | q :: fl, h => by
    rw [List.map_cons] at h
    rw [List.lookup_cons, show (f == q.1) = false by simp; exact fun z => h (by rw [z]; exact List.mem_cons_self)]
    exact look_none fun z => h (List.mem_cons_of_mem _ z)
theorem ev_meth {c m : Str} {k j ar : Nat} {F : PF} {apos : Pos} {pl : Sem Bool} (M : MG X.prog X.w X.K X.mg X.base k c m ar (spR X.K X.mg F)) (hr : Room j X.A) (hkj : k ≤ j) (ho : EvT X a Γ t) (hi : isIns t c m = true) (ha : EvA X (e :: es) Γ ts) (hF : F.pre (t :: ts)) (hR : (F.out (t :: ts)).isR = true)
    (hst : starEach (e :: es) X.env = (false, eval e X.env) :: starEach es X.env) (hpl : (backTo pos (starEach es X.env)).any (·.1) = false)
    (ht : eval (.Call (.Attribute a m apos) (e :: es) [] pos) X.env = (do
      let ov ← eval a X.env
      standAt apos.atName
      let (f, first) ← holding [ov] (getMethod ov m pl)
      callWith pos f first (backTo pos (starEach (e :: es) X.env)) (backToKw pos (keywordEach [] X.env)))) : EvT X (.Call (.Attribute a m apos) (e :: es) [] pos) Γ (.d (F.out (t :: ts)).x) := ⟨fun G H σ E Q q => by
  obtain ⟨f, fd, ps, hps, cl, hm, hb, hf⟩ := M.ex
  obtain ⟨fs, cs, rfl, hno⟩ := isIns_ex hi
  refine w_pe (pe_meth pe_w cl hm hf (hr.mono hkj) hb .nil Wl.passN pa_w hst hpl ht) (ho.run G H σ E _ fun v G1 H1 f1 s1 k1 => ?_)
  cases id k1 with
  | n h1 h2 =>
    rename_i p vs own fp
    obtain ⟨dx, fl, e1, rfl, rfl, e2, rfl⟩ := h1
    refine ⟨p, dx, fl, rfl, e1, look_none hno, ha.run G1 H1 σ (E.step s1) _ fun ws G2 H2 f2 s2 k2 => ?_⟩
    rw [List.append_nil]
    refine ⟨G2, _, _, s2.gh, s2.h.t (s1.h.t E.tab), s2.nt (s1.nt E.nt), .cons (k1.step s2) k2, hF, ?_⟩
    rw [ou_ret hR]
    exact fun v G3 H3 s3 d => q v G3 H3 [] ((s1.trans s2).trans s3) (.d d)⟩
theorem ev_meth0 {c m : Str} {k j ar : Nat} {F : PF} {apos : Pos} {pl : Sem Bool} (M : MG X.prog X.w X.K X.mg X.base k c m ar (spR X.K X.mg F)) (hr : Room j X.A) (hkj : k ≤ j) (ho : EvT X a Γ t) (hi : isIns t c m = true) (hF : F.pre [t]) (hR : (F.out [t]).isR = true)
    (ht : eval (.Call (.Attribute a m apos) [] [] pos) X.env = (do
      let ov ← eval a X.env
      standAt apos.atName
      let (f, first) ← holding [ov] (getMethod ov m pl)
      callWith pos f first (backTo pos (starEach [] X.env)) (backToKw pos (keywordEach [] X.env)))) : EvT X (.Call (.Attribute a m apos) [] [] pos) Γ (.d (F.out [t]).x) := ⟨fun G H σ E Q q => by
  obtain ⟨f, fd, ps, hps, cl, hm, hb, hf⟩ := M.ex
  obtain ⟨fs, cs, rfl, hno⟩ := isIns_ex hi
  refine w_pe (pe_meth0 pe_w cl hm hf (hr.mono hkj) hb .nil Wl.passN ht) (ho.run G H σ E _ fun v G1 H1 f1 s1 k1 => ?_)
  cases id k1 with
  | n h1 h2 =>
    rename_i p vs own fp
    obtain ⟨dx, fl, e1, rfl, rfl, e2, rfl⟩ := h1
    refine ⟨p, dx, fl, rfl, e1, look_none hno, ?_⟩
    refine ⟨G1, _, _, s1.gh, s1.h.t E.tab, s1.nt E.nt, .cons k1 .nil, hF, ?_⟩
    rw [ou_ret hR]
    exact fun v G3 H3 s3 d => q v G3 H3 [] (s1.trans s3) (.d d)⟩
end
end Yl

end

section
/-! Y4: does a text of the program say what an expression of ours says; it does what that is worth. -/
namespace Yl
open PySem PySem.Spec PyProof.Rows L2
open Wl (wE wT wA wS wSs pe_w pt_w pa_w ps_w pss_w w_pe w_pt w_pa w_ps w_pss Dt DtAll Stp Keeps NoT Wk WkAll dt_mono dtAll_mono dt_dp dtAll_dp sqT_mono dp_lay)
variable [Wl.Tb] [Tc]
/-! ### the look -/
def plainE : Expr → Bool
  | .Starred _ _ => false
  | _ => true
theorem star_plain {e : Expr} (h : plainE e = true) (es : List Expr) (env : Env) : starEach (e :: es) env = (false, eval e env) :: starEach es env := by
  cases e <;> first | rfl | simp [plainE] at h
theorem star_back {es : List Expr} (h : es.all plainE = true) (pos : Pos) (env : Env) : (backTo pos (starEach es env)).any (·.1) = false := by
  induction es with
  | nil => rfl
  | cons e es ih =>
    rw [List.all_cons, Bool.and_eq_true] at h
    rw [star_plain h.1]
    simp only [backTo, List.map_cons, List.any_cons, Bool.false_or]
    exact ih h.2
theorem star_all {es : List Expr} (h : es.all plainE = true) (pos : Pos) (env : Env) : (backTo pos (starEach es env)).all (fun x => !x.1) = true := by
  induction es with
  | nil => rfl
  | cons e es ih =>
    rw [List.all_cons, Bool.and_eq_true] at h
    rw [star_plain h.1]
    simp only [backTo, List.map_cons, List.all_cons]
    rw [Bool.and_eq_true]
    exact ⟨rfl, ih h.2⟩
def notCall : Expr → Bool
  | .Call _ _ _ _ => false
  | _ => true
theorem attr_base {e : Expr} (h : notCall e = true) (f : Str) (env : Env) (w : Sem Value) : attributeBase e f env w = w := by
  cases e <;> first | rfl | simp [notCall] at h
def notSlice : Expr → Bool
  | .Slice _ _ _ _ => false
  | .Tuple _ _ _ => false
  | _ => true
def notSet : Expr → Bool
  | .Set _ _ _ => false
  | _ => true
theorem no_mark {op : CmpOp} {e : Expr} (h : notSet e = true) : behindInMarks op e = false := by
  cases e <;> first | rfl | simp [notSet] at h
theorem no_fold {e : Expr} (h : notSet e = true) (env : Env) (x : Value) : foldedSetIterable e env x = pure x := by
  cases e <;> first | rfl | simp [notSet] at h
theorem plain_ix {e : Expr} (h : notSlice e = true) : PlainIx e := by
  cases e <;> first | exact fun _ _ => rfl | simp [notSlice] at h
theorem no_sl {e : Expr} (h : notSlice e = true) : NoSl e := by
  cases e <;> first | exact fun _ _ => rfl | simp [notSlice] at h
theorem eval_meth {a : Expr} {m : Str} {es : List Expr} {apos pos : Pos} {env : Env} (h1 : notCall a = true) (h2 : es.all plainE = true) (h3 : es.length < 30) (h4 : (apos.endLine == pos.line) = true) :
    eval (.Call (.Attribute a m apos) es [] pos) env = (do
      let ov ← eval a env
      standAt apos.atName
      let (f, first) ← holding [ov] (getMethod ov m (do return (← importBound a env).getD true))
      callWith pos f first (backTo pos (starEach es env)) (backToKw pos (keywordEach [] env))) := by
  have hf : methodCallForm (es.length + ([] : List Keyword).length) (backTo pos (starEach es env)) (backToKw pos (keywordEach [] env)) = true := by
    unfold methodCallForm
    rw [star_all h2]
    simp [backToKw, keywordEach]
    exact h3
  have hp : methodCallPos true a env apos pos = pure pos := by
    unfold methodCallPos
    rw [h4]
    rfl
  show (do
    let ov ← attributeBase a m env (eval a env)
    standAt apos.atName
    methodCall a m apos pos env ov (es.length + ([] : List Keyword).length) (backTo pos (starEach es env)) (backToKw pos (keywordEach [] env))) = _
  rw [attr_base h1]
  unfold methodCall
  rw [hf, hp]
  rfl
def opB : Bop → Operator → Bool
  | .add, .Add => true
  | .sub, .Sub => true
  | .mul, .Mult => true
  | .div, .FloorDiv => true
  | .mod, .Mod => true
  | .pow, .Pow => true
  | _, _ => false
def opC : Cop → CmpOp → Bool
  | .lt, .Lt => true
  | .le, .LtE => true
  | .gt, .Gt => true
  | .ge, .GtE => true
  | .eq, .Eq => true
  | .ne, .NotEq => true
  | .is, .Is => true
  | .isn, .IsNot => true
  | .inn, .In => true
  | .nin, .NotIn => true
  | _, _ => false
def ordC : Cop → Bool
  | .lt => true
  | .le => true
  | .gt => true
  | .ge => true
  | _ => false
def constB : D → Const → Bool
  | .none, .none => true
  | .bool b, .bool c => decide (b = c)
  | .int b, .int c => decide (b = c)
  | .str b, .str c => decide (b = c)
  | _, _ => false
def ikN : Ik → Str
  | .int => "int"
  | .bool => "bool"
  | .str => "str"
  | .tuple => "tuple"
  | .list => "list"
def biN : Bi → Str
  | .len => "len"
  | .abs => "abs"
  | .max2 => "max"
  | .min2 => "min"
  | .max1 => "max"
  | .min1 => "min"
  | .sum => "sum"
  | .all => "all"
  | .sorted => "sorted"
  | .intB => "int"
  | .intS => "int"
  | .strI => "str"
  | .list => "list"
  | .tuple => "tuple"
  | .lrng => "list"
  | .trng => "tuple"
  | .lset => "len"
def oneArg : Bi → Bool
  | .max2 => false
  | .min2 => false
  | .lrng => false
  | .trng => false
  | .lset => false
  | _ => true
def tgI : Tg → List Nat
  | .n i => [i]
  | .t is => is
def ownOf (N : List Str) (tg : Tg) : List (Str × Nat) := (tgI tg).map fun i => (N.getD i Str.empty, i)
def chkNm (N : List Str) : List Nat → List Expr → Bool
  | [], [] => true
  | i :: is, .Name n _ :: es => decide (N[i]? = some n) && chkNm N is es
  | _, _ => false
def chkTg (N : List Str) : Tg → Expr → Bool
  | .n i, .Name n _ => decide (N[i]? = some n)
  | .t is, .Tuple es _ _ => decide is.Nodup && chkNm N is es
  | _, _ => false
def isTru : Ex → Bool
  | .c (.bool true) => true
  | _ => false
def glB (fr : List Str) (sc : Scope) (n : Str) : Bool := decide (n ∈ fr) && Wl.okG sc n
section
variable (N fr : List Str)
mutual
def chk : Scope → Ex → Expr → Bool
  | sc, .v i, e => match e with
    | .Name n _ => decide (N[i]? = some n) && Wl.okN sc n
    | _ => false
  | sc, .g n _, e => match e with
    | .Name m _ => decide (n = m) && Wl.okG sc n
    | _ => false
  | sc, .gk n _ _ a, e => match e with
    | .Subscript (.Name m _) x _ => decide (n = m) && (Wl.okG sc n && (notSlice x && chk sc a x))
    | _ => false
  | sc, .c x, e => match e with
    | .Constant k _ _ => constB x k
    | _ => false
  | sc, .bin o a b, e => match e with
    | .BinOp x op y _ => opB o op && (chk sc a x && chk sc b y)
    | _ => false
  | sc, .rep es b, e => match e with
    | .BinOp (.List xs _) .Mult y _ => chks sc es xs && chk sc b y
    | _ => false
  | sc, .neg a, e => match e with
    | .UnaryOp .USub x _ => chk sc a x
    | _ => false
  | sc, .no a, e => match e with
    | .UnaryOp .Not x _ => chk sc a x
    | _ => false
  | sc, .cmp o a b, e => match e with
    | .Compare x [op] [y] _ => opC o op && (notSet y && (chk sc a x && chk sc b y))
    | _ => false
  | sc, .ch o1 o2 a b c, e => match e with
    | .Compare x [p1, p2] [y, z] _ => opC o1 p1 && (opC o2 p2 && (ordC o1 && ordC o2 && (notSet z && (chk sc a x && (chk sc b y && chk sc c z)))))
    | _ => false
  | sc, .an a b, e => match e with
    | .BoolOp .And (x :: y :: r) pos => chk sc a x && chk sc b (.BoolOp .And (y :: r) pos)
    | _ => false
  | sc, .or a b, e => match e with
    | .BoolOp .Or (x :: y :: r) pos => chk sc a x && chk sc b (.BoolOp .Or (y :: r) pos)
    | _ => false
  | sc, .on a, e => match e with
    | .BoolOp _ [x] _ => chk sc a x
    | _ => false
  | sc, .ite c a b, e => match e with
    | .IfExp t x y _ => chk sc c t && (chk sc a x && chk sc b y)
    | _ => false
  | sc, .tup es, e => match e with
    | .Tuple xs _ _ => chks sc es xs
    | _ => false
  | sc, .lst es, e => match e with
    | .List xs _ => chks sc es xs
    | _ => false
  | sc, .ix a b, e => match e with
    | .Subscript x y _ => notSlice y && (chk sc a x && chk sc b y)
    | _ => false
  | sc, .sl a lo hi, e => match e with
    | .Subscript x (.Slice l h none _) _ => chk sc a x && (chko sc lo l && chko sc hi h)
    | _ => false
  | sc, .rev a, e => match e with
    | .Subscript x (.Slice none none (some (.UnaryOp .USub (.Constant (.int i) _ _) _)) _) _ => decide (i = 1) && chk sc a x
    | _ => false
  | sc, .fld a _ f, e => match e with
    | .Attribute x g _ => decide (f = g) && (notCall x && chk sc a x)
    | _ => false
  | sc, .isi k a, e => match e with
    | .Call (.Name n _) [x, .Name Tk _] [] _ => decide (n = "isinstance") && (glB fr sc "isinstance" && (decide (Tk = ikN k) && (glB fr sc (ikN k) && (plainE x && chk sc a x))))
    | _ => false
  | sc, .bi b es, e => match e with
    | .Call (.Name n _) xs [] _ => decide (n = biN b) && (glB fr sc (biN b) && (match b with
      | .lset => (match xs with
        | [.Call (.Name m _) ys [] _] => decide (m = "set") && (glB fr sc "set" && (decide (ys.length = 1) && chks sc es ys))
        | _ => false)
      | .lrng => (match xs with
        | [.Call (.Name m _) ys [] _] => decide (m = "range") && (glB fr sc "range" && (decide (ys.length = 1) && chks sc es ys))
        | _ => false)
      | .trng => (match xs with
        | [.Call (.Name m _) ys [] _] => decide (m = "range") && (glB fr sc "range" && (decide (ys.length = 1) && chks sc es ys))
        | _ => false)
      | .max2 => decide (xs.length = 2) && chks sc es xs
      | .min2 => decide (xs.length = 2) && chks sc es xs
      | _ => decide (xs.length = 1) && chks sc es xs))
    | _ => false
  | sc, .call _ f es, e => match e with
    | .Call (.Name n _) xs [] _ => decide (n = f) && (Wl.okG sc f && (decide (0 < xs.length) && chks sc es xs))
    | _ => false
  | sc, .meth _ _ m a es, e => match e with
    | .Call (.Attribute x n ap) xs [] pos => decide (n = m) && (notCall x && ((ap.endLine == pos.line) && (decide (xs.length < 30) && (chk sc a x && chks sc es xs))))
    | _ => false
  | sc, .lc tg s p el, e => match e with
    | .ListComp elt [⟨tg', iter, ifs, 0⟩] scope _ => blkC N sc scope (ownOf N tg) && ((ownOf N tg).all (fun q => Wl.okS (relS scope sc) (scope.names.lookup q.1 == some .cell) q.1) && (chkTg N tg tg' && (chkr sc s tg' iter && ((match ifs with
      | [] => isTru p
      | [c] => chk (relS scope sc) p c
      | _ => false) && chk (relS scope sc) el elt))))
    | _ => false
def chks : Scope → Exs → List Expr → Bool
  | _, .nil, es => match es with
    | [] => true
    | _ => false
  | sc, .cons a r, es => match es with
    | x :: xs => plainE x && (chk sc a x && chks sc r xs)
    | _ => false
def chko : Scope → Ox → Option Expr → Bool
  | _, .no, e => match e with
    | none => true
    | _ => false
  | sc, .so a, e => match e with
    | some x => chk sc a x
    | _ => false
/-- what is walked, for a target -/
def chkr : Scope → Sr → Expr → Expr → Bool
  | sc, .it a, _, e => notSet e && chk sc a e
  | sc, .r1 a, _, e => match e with
    | .Call (.Name n _) [x] [] _ => decide (n = "range") && (glB fr sc "range" && (plainE x && chk sc a x))
    | _ => false
  | sc, .r2 a b, _, e => match e with
    | .Call (.Name n _) [x, y] [] _ => decide (n = "range") && (glB fr sc "range" && (plainE x && (plainE y && (chk sc a x && chk sc b y))))
    | _ => false
  | sc, .r3 a b c, _, e => match e with
    | .Call (.Name n _) [x, y, z] [] _ => decide (n = "range") && (glB fr sc "range" && (plainE x && (plainE y && (plainE z && (chk sc a x && (chk sc b y && chk sc c z))))))
    | _ => false
  | sc, .en a, tg, e => match tg, e with
    | .Tuple _ _ _, .Call (.Name n _) [x] [] _ => decide (n = "enumerate") && (glB fr sc "enumerate" && (plainE x && chk sc a x))
    | _, _ => false
  | sc, .zp a b, tg, e => match tg, e with
    | .Tuple _ _ _, .Call (.Name n _) [x, y] [] _ => decide (n = "zip") && (glB fr sc "zip" && (plainE x && (plainE y && (chk sc a x && chk sc b y))))
    | _, _ => false
end
end
/-! ### what is asked of the program -/
structure Pg where
  P : Program
  w : World
  K : Frg
  mg : Str → Option Value
  base : Heap
  j : Nat
structure InPg (g : Pg) (X : Cx) : Prop where
  P : X.prog = g.P
  w : X.w = g.w
  K : X.K = g.K
  mg : X.mg = g.mg
  base : X.base = g.base
  room : Room g.j X.A
/-- a def at a level that there is room for -/
def HasF (g : Pg) (f : Str) (ar : Nat) (F : PF) : Prop := ∃ k, k ≤ g.j ∧ Wl.FG g.P g.w g.K g.mg g.base k f ar (spR g.K g.mg F)
def HasM (g : Pg) (c m : Str) (ar : Nat) (F : PF) : Prop := ∃ k, k ≤ g.j ∧ MG g.P g.w g.K g.mg g.base k c m ar (spR g.K g.mg F)
def HasG (g : Pg) (n : Str) (x : D) : Prop := ∃ v u, g.mg n = some u ∧ RelV v u ∧ ∀ G, Dt g.K G v x
def HasA (g : Pg) (c f : Str) : Prop := Cls g.K (Tc.C c) ∧ NoAttr g.K (Tc.C c) f
/-- a written dict of texts and whole numbers -/
def HasK (g : Pg) (n : Str) (ks : List Str) (vs : List Int) : Prop := ∀ (X : Cx) (e : Expr) (Γ : List Sl) (s : Str) (i : Int) (p pos : Pos), InPg g X → Gl X n → (n == ("__debug__" : Str)) = false → PlainIx e → EvT X e Γ (.d (.str s)) → (ks.zip vs).lookup s = some i → EvT X (.Subscript (.Name n p) e pos) Γ (.d (.int i))
def exLen : Exs → Nat
  | .nil => 0
  | .cons _ es => exLen es + 1
section
variable (g : Pg)
mutual
def ob : Ex → Prop
  | .v _ => True
  | .g n x => HasG g n x
  | .gk n ks vs e => HasK g n ks vs ∧ ob e
  | .c _ => True
  | .bin _ a b => ob a ∧ ob b
  | .rep es b => obs es ∧ ob b
  | .neg a => ob a
  | .no a => ob a
  | .cmp _ a b => ob a ∧ ob b
  | .ch _ _ a b c => ob a ∧ ob b ∧ ob c
  | .an a b => ob a ∧ ob b
  | .or a b => ob a ∧ ob b
  | .on a => ob a
  | .ite c a b => ob c ∧ ob a ∧ ob b
  | .tup es => obs es
  | .lst es => obs es
  | .ix a b => ob a ∧ ob b
  | .sl a lo hi => ob a ∧ obo lo ∧ obo hi
  | .rev a => ob a
  | .fld a c f => HasA g c f ∧ ob a
  | .isi _ a => ob a
  | .bi _ es => obs es
  | .call F f es => HasF g f (exLen es) F ∧ obs es
  | .meth F c m a es => HasM g c m (exLen es + 1) F ∧ ob a ∧ obs es
  | .lc _ s p e => obr s ∧ ob p ∧ ob e
def obs : Exs → Prop
  | .nil => True
  | .cons e es => ob e ∧ obs es
def obo : Ox → Prop
  | .no => True
  | .so e => ob e
def obr : Sr → Prop
  | .it a => ob a
  | .r1 a => ob a
  | .r2 a b => ob a ∧ ob b
  | .r3 a b c => ob a ∧ ob b ∧ ob c
  | .en a => ob a
  | .zp a b => ob a ∧ ob b
end
end
end Yl

end

section
/-! Y5: expressions that change nothing: what is looked at does what it is worth. -/
namespace Yl
open PySem PySem.Spec PyProof.Rows L2
open Wl (wE wT wA wS wSs pe_w pt_w pa_w ps_w pss_w w_pe w_pt w_pa w_ps w_pss Dt DtAll Stp Keeps NoT Wk WkAll dt_mono dtAll_mono dt_dp dtAll_dp sqT_mono dp_lay)
variable [Wl.Tb] [Tc]
structure CtxOk (N fr : List Str) (sc : Scope) (X : Cx) : Prop where
  n : X.N = N
  nd : N.Nodup
  sc : X.env.scope = sc
  calm : X.calm = true
  hu : X.A.units + 64 < cLine
  fr : ∀ n ∈ fr, X.mg n = none
def notTest : Expr → Bool
  | .UnaryOp .Not _ _ => false
  | .BoolOp _ _ _ => false
  | .IfExp _ _ _ _ => false
  | .Compare _ _ _ _ => false
  | _ => true
def isBO : Expr → Bool
  | .BoolOp _ _ _ => true
  | _ => false
theorem test_val {e : Expr} {env : Env} (h : notTest e = true) : ∀ whole, isTrue e env whole = (do let v ← whole; standAt e.pos; holding [v] (truthy v)) := by
  intro whole
  cases e with
  | UnaryOp op x p => cases op <;> first | rfl | simp [notTest] at h
  | _ => first | rfl | simp [notTest] at h
section
variable {X : Cx} {Γ : List Sl} {e : Expr} {t : T}
/-- what is known of an expression -/
def Tells (X : Cx) (e : Expr) (Γ : List Sl) (t : T) : Prop := EvT X e Γ t ∧ (t.isB = true → EvB X e Γ t.b ∧ (isBO e = true → EvP X e Γ t.b))
theorem Tells.of (h : EvT X e Γ t) (ht : notTest e = true) : Tells X e Γ t := ⟨h, fun q => ⟨et_val h q (test_val ht), fun z => by cases e <;> simp_all [isBO, notTest]⟩⟩
theorem Tells.is {u : T} (h : Tells X e Γ t) (q : t = u) : Tells X e Γ u := q ▸ h
end
theorem gl_ok {fr : List Str} {sc : Scope} {N : List Str} {X : Cx} {n : Str} (cx : CtxOk N fr sc X) (h : glB fr sc n = true) : X.mg n = none ∧ Gl X n ∧ (n == ("__debug__" : Str)) = false ∧ n ≠ "__name__" := by
  unfold glB at h
  rw [Bool.and_eq_true, decide_eq_true_eq] at h
  rw [← cx.sc] at h
  obtain ⟨h1, h2⟩ := h
  obtain ⟨h3, h4, h5⟩ := Wl.okG_ok h2
  exact ⟨cx.fr n h1, h3, h4, h5⟩
theorem g_ok {fr : List Str} {sc : Scope} {N : List Str} {X : Cx} {n : Str} (cx : CtxOk N fr sc X) (h : Wl.okG sc n = true) : Gl X n ∧ (n == ("__debug__" : Str)) = false ∧ n ≠ "__name__" := by
  rw [← cx.sc] at h
  exact Wl.okG_ok h
theorem const_ev {X : Cx} {Γ : List Sl} {x : D} {k : Const} {j : Nat} {p : Pos} (h : constB x k = true) : EvT X (.Constant k j p) Γ (.d x) := by
  cases x <;> cases k <;> simp [constB] at h
  · exact ev_none
  · subst h; exact ev_bool
  · subst h; exact ev_int
  · subst h; exact ev_str
theorem atI_some {α : Type} {o : Option α} {d : α} (h : o.isSome = true) : o = some (o.getD d) := by
  cases o with
  | none => cases h
  | some x => rfl
theorem one_dat {t : T} (h : t.one = true) {xs : List D} (e : t.dat = .tuple xs) : t = .d (.tuple xs) := by
  cases t with
  | d x => exact congrArg T.d e
  | h p => simp [T.one] at h
  | n κ cs => cases κ <;> simp [T.one] at h; simp [T.dat] at e
theorem bin_ev {X : Cx} {Γ : List Sl} {a b : Expr} {t u : T} {o : Bop} {op : Operator} {pos : Pos} (ho : opB o op = true) (ha : EvT X a Γ t) (hb : EvT X b Γ u) (q1 : t.one = true) (q2 : u.one = true) (hk : binOk o t.dat u.dat) : EvT X (.BinOp a op b pos) Γ (.d (binV o t.dat u.dat)) := by
  cases o <;> cases op <;> simp [opB] at ho
  · revert hk
    cases e1 : t.dat <;> cases e2 : u.dat <;> simp only [binOk, false_implies, forall_const, binV]
    · exact ev_bin (by rw [e1, e2]; exact Wl.bin_add) ha hb q1 q2
    · intro hk; exact ev_bin (by rw [e1, e2]; exact Wl.bin_cats hk) ha hb q1 q2
    · intro hk; exact ev_catL ha hb q1 q2 e1 e2 hk
    · intro hk
      rw [one_dat q1 e1] at ha
      rw [one_dat q2 e2] at hb
      exact ev_catT ha hb hk.1 hk.2
  · revert hk
    cases e1 : t.dat <;> cases e2 : u.dat <;> simp only [binOk, false_implies, forall_const, binV]
    exact ev_bin (by rw [e1, e2]; exact Wl.bin_sub) ha hb q1 q2
  · revert hk
    cases e1 : t.dat <;> cases e2 : u.dat <;> simp only [binOk, false_implies, forall_const, binV]
    intro hk; exact ev_bin (by rw [e1, e2]; exact Wl.bin_mulA hk) ha hb q1 q2
  · revert hk
    cases e1 : t.dat <;> cases e2 : u.dat <;> simp only [binOk, false_implies, forall_const, binV]
    intro hk; exact ev_bin (by rw [e1, e2]; exact Wl.bin_div hk) ha hb q1 q2
  · revert hk
    cases e1 : t.dat <;> cases e2 : u.dat <;> simp only [binOk, false_implies, forall_const, binV]
    intro hk; exact ev_bin (by rw [e1, e2]; exact Wl.bin_mod hk) ha hb q1 q2
  · revert hk
    cases e1 : t.dat <;> cases e2 : u.dat <;> simp only [binOk, false_implies, forall_const, binV]
    intro hk; exact ev_bin (by rw [e1, e2]; exact Wl.bin_pow hk) ha hb q1 q2
theorem eqD_eqv (x y : D) : eqD x y = PyData.eqv x y := by
  cases x <;> cases y <;> first | rfl | exact (Wl.eqv_int _ _).symm | exact (Wl.eqv_str _ _).symm | (rename_i a b; cases a <;> cases b <;> rfl)
theorem isDict_ne {u : T} : (∃ ks cs, u = .n (.k ks) cs) ∨ (∀ ks cs, u ≠ .n (.k ks) cs) := by
  cases u with
  | d x => exact .inr fun _ _ z => by cases z
  | h p => exact .inr fun _ _ z => by cases z
  | n κ cs =>
    cases κ with
    | k ks => exact .inl ⟨ks, cs, rfl⟩
    | _ => exact .inr fun _ _ z => by cases z
theorem isStr_ne {u : T} : (∃ s, u = .d (.str s)) ∨ (∀ s, u ≠ .d (.str s)) := by
  cases u with
  | d x => cases x <;> first | exact .inl ⟨_, rfl⟩ | exact .inr fun _ z => by cases z
  | h p => exact .inr fun _ z => by cases z
  | n κ cs => exact .inr fun _ z => by cases z
/-- an operator but in, not in of a dict -/
theorem cmp_t {X : Cx} {t u : T} {o : Cop} {op : CmpOp} (hu : X.A.units + 64 < cLine) (ho : opC o op = true) (hk : cmpOk o t u) (nd : ∀ ks cs, u ≠ .n (.k ks) cs) : CmpT X op t u (cmpV o t u) := by
  cases o <;> cases op <;> simp [opC] at ho
  · exact cmp_lt hk.1 hk.2
  · exact cmp_le hk.1 hk.2
  · exact cmp_gt hk.1 hk.2
  · exact cmp_ge hk.1 hk.2
  · simp only [cmpV]; rw [eqD_eqv]; exact cmp_eq hu hk.1 hk.2.1 hk.2.2
  · simp only [cmpV]; rw [eqD_eqv]; exact cmp_ne hu hk.1 hk.2.1 hk.2.2
  · exact cmp_is hk.1 hk.2
  · exact cmp_isnot hk.1 hk.2
  · rcases isStr_ne (u := u) with ⟨s, rfl⟩ | ns
    · have hk : t.isS = true ∧ t.s.cps.size = 1 := hk
      have e : t = .d (.str t.s) := by
        cases t with
        | d x => cases x <;> simp [T.isS] at hk; rfl
        | h p => simp [T.isS] at hk
        | n κ cs => simp [T.isS] at hk
      have k := cmp_insign (X := X) (s := t.s) (z := s) hk.2
      rw [← e] at k
      exact k
    · have e : inV t u = Wl.inD t.dat (T.dats u.kids) := by
        cases u with
        | d x => cases x <;> first | rfl | exact absurd rfl (ns _)
        | h p => rfl
        | n κ cs => cases κ <;> first | rfl | exact absurd rfl (nd _ _)
      have hk : t.isDat = true ∧ u.isDat = true ∧ (u.isL = true ∨ u.isT = true) ∧ min (PyData.depthAll (T.dats u.kids)) t.dat.depth ≤ 60 := by
        cases u with
        | d x => cases x <;> first | exact hk | exact absurd rfl (ns _)
        | h p => exact hk
        | n κ cs => cases κ <;> first | exact hk | exact absurd rfl (nd _ _)
      simp only [cmpV]
      rw [e]
      exact cmp_in hu hk.1 hk.2.1 hk.2.2.1 hk.2.2.2
  · have ns : ∀ s, u ≠ .d (.str s) := fun s z => by rw [z] at hk; cases hk.2
    have e : inV t u = Wl.inD t.dat (T.dats u.kids) := by
      cases u with
      | d x => cases x <;> first | rfl | exact absurd rfl (ns _)
      | h p => rfl
      | n κ cs => cases κ <;> first | rfl | exact absurd rfl (nd _ _)
    have hk : t.isDat = true ∧ u.isDat = true ∧ (u.isL = true ∨ u.isT = true) ∧ min (PyData.depthAll (T.dats u.kids)) t.dat.depth ≤ 60 := by
      have hk := hk.1
      cases u with
      | d x => cases x <;> first | exact hk | exact absurd rfl (ns _)
      | h p => exact hk
      | n κ cs => cases κ <;> first | exact hk | exact absurd rfl (nd _ _)
    simp only [cmpV]
    rw [e]
    exact cmp_notin hu hk.1 hk.2.1 hk.2.2.1 hk.2.2.2

theorem cmp_tells {X : Cx} {Γ : List Sl} {a b : Expr} {t u : T} {o : Cop} {op : CmpOp} {pos : Pos} (hu : X.A.units + 64 < cLine) (ho : opC o op = true) (hk : cmpOk o t u) (hm : behindInMarks op b = false) (ha : EvT X a Γ t) (hb : EvT X b Γ u) : Tells X (.Compare a [op] [b] pos) Γ (.d (.bool (cmpV o t u))) := by
  by_cases nd : ∀ ks cs, u ≠ .n (.k ks) cs
  · have h := cmp_t (X := X) hu ho hk nd
    exact ⟨ev_cmp h ha hb hm, fun _ => ⟨et_cmp h ha hb hm, fun z => by cases z⟩⟩
  · rcases isDict_ne (u := u) with ⟨ks, cs, rfl⟩ | q
    · cases o <;> first | (simp [cmpOk, T.isI, T.isDat, T.isN] at hk; done) | skip
      · cases op <;> simp [opC] at ho
        have hk : t.sd = true ∧ keyT t.dat = true := hk
        rw [sd_eq hk.1] at ha
        exact ⟨ev_inK hu ha hb hk.2 hm, fun _ => ⟨et_inK hu ha hb hk.2 hm, fun z => by cases z⟩⟩
      · cases op <;> simp [opC] at ho
        have hk : t.sd = true ∧ keyT t.dat = true := hk.1
        rw [sd_eq hk.1] at ha
        exact ⟨ev_ninK hu ha hb hk.2 hm, fun _ => ⟨et_ninK hu ha hb hk.2 hm, fun z => by cases z⟩⟩
    · exact absurd q nd
theorem opr_ex {X : Cx} {o : Cop} {op : CmpOp} (ho : opC o op = true) (hu : X.A.units + 64 < cLine) : ∃ r, OpR X (compareOp op) r := by
  cases o <;> cases op <;> simp [opC] at ho
  · exact ⟨_, op_lt⟩
  · exact ⟨_, op_le⟩
  · exact ⟨_, op_gt⟩
  · exact ⟨_, op_ge⟩
  · exact ⟨_, Wl.op_eqP hu⟩
  · exact ⟨_, Wl.op_neP hu⟩
  · exact ⟨_, op_isN⟩
  · exact ⟨_, op_notN⟩
  · exact ⟨_, Wl.op_inP hu⟩
  · exact ⟨_, Wl.op_notInP hu⟩
theorem ix_ev {X : Cx} {Γ : List Sl} {a b : Expr} {t u : T} {pos : Pos} (hu : X.A.units + 64 < cLine) (hs : notSlice b = true) (ha : EvT X a Γ t) (hb : EvT X b Γ u) (hk : ixOk t u) : EvT X (.Subscript a b pos) Γ ((ixA t u).getD (.h 0)) := by
  have lst : u.isI = true ∧ (t.isL = true ∨ t.isT = true) ∧ (atI t.kids u.i).isSome = true → ixA t u = atI t.kids u.i → EvT X (.Subscript a b pos) Γ ((ixA t u).getD (.h 0)) := fun hk e => by
    rw [e]
    rcases hk.2.1 with q | q
    · exact ev_ixL ha hb q hk.1 (atI_some hk.2.2) (plain_ix hs)
    · exact ev_ixT ha hb q hk.1 (atI_some hk.2.2) (plain_ix hs)
  cases t with
  | d x =>
    cases x with
    | str s =>
      have hk : u.isI = true ∧ s.length ≤ sizeLine ∧ (atI s.cps.toList u.i).isSome = true := hk
      have e := atI_some (d := 0) hk.2.2
      have h := ev_ixS (pos := pos) ha hb hk.1 e hk.2.1 (plain_ix hs)
      refine h.is ?_
      simp only [ixA]
      rw [e]
      rfl
    | _ => exact lst hk rfl
  | h p => exact lst hk rfl
  | n κ cs =>
    cases κ with
    | k ks =>
      have hk : u.sd = true ∧ keyT u.dat = true ∧ (keyAt ks cs u.dat).isSome = true := hk
      rw [sd_eq hk.1] at hb
      exact ev_ixK hu ha hb hk.2.1 (atI_some hk.2.2) (no_sl hs)
    | _ => exact lst hk rfl
theorem sl_ev {X : Cx} {Γ : List Sl} {a : Expr} {lo hi : Option Expr} {t : T} {l m : Option Int} {pos p2 : Pos} (ha : EvT X a Γ t) (hl : EvO X lo Γ l) (hh : EvO X hi Γ m) (hk : slOk t l m) : EvT X (.Subscript a (.Slice lo hi none p2) pos) Γ (.d (slV t l m)) := by
  cases t with
  | d x =>
    cases x with
    | str s => exact ev_slS ha hl hh hk
    | tuple xs => exact ev_slT ha hl hh hk
    | list xs =>
      have h := ev_slL (pos := pos) (p2 := p2) ha rfl rfl hl hh
      refine h.is ?_
      simp only [slV, T.kids, dats_map]
    | _ => exact hk.elim
  | h p => exact hk.elim
  | n κ cs =>
    cases κ with
    | l =>
      have hk : cs.all T.sd = true := hk
      have h := ev_slL (pos := pos) (p2 := p2) (xs := T.dats cs) ha hk (by simp [T.dat]) hl hh
      exact h
    | _ => exact hk.elim
theorem isi_ev {X : Cx} {Γ : List Sl} {a : Expr} {t : T} {k : Ik} {p q1 pos : Pos} (hk : isOk t) (ha : EvT X a Γ t) (hm : X.mg "isinstance" = none) (hmT : X.mg (ikN k) = none) (hg : Gl X "isinstance") (hgT : Gl X (ikN k)) (hn : ikN k ≠ "__name__") (hdb : (ikN k == ("__debug__" : Str)) = false) (he : plainE a = true) : EvT X (.Call (.Name "isinstance" p) [a, .Name (ikN k) q1] [] pos) Γ (.d (.bool (isV k t))) := by
  have st := star_plain he [.Name (ikN k) q1] X.env
  cases k with
  | int => exact ev_isi (Tn := "int") hk (by cases t with | d x => exact Wl.kit_int x | h p => exact hk.elim | n κ cs => cases κ <;> first | exact hk.elim | exact Wl.kit_int (.list []) | exact Wl.kit_int (.tuple [])) hm hmT (by decide +kernel) ha hg hgT hn hdb st rfl
  | bool => exact ev_isi (Tn := "bool") hk (by cases t with | d x => exact Wl.kit_bool x | h p => exact hk.elim | n κ cs => cases κ <;> first | exact hk.elim | exact Wl.kit_bool (.list []) | exact Wl.kit_bool (.tuple [])) hm hmT (by decide +kernel) ha hg hgT hn hdb st rfl
  | str => exact ev_isi (Tn := "str") hk (by cases t with | d x => exact Wl.kit_str x | h p => exact hk.elim | n κ cs => cases κ <;> first | exact hk.elim | exact Wl.kit_str (.list []) | exact Wl.kit_str (.tuple [])) hm hmT (by decide +kernel) ha hg hgT hn hdb st rfl
  | tuple => exact ev_isi (Tn := "tuple") hk (by cases t with | d x => exact (Wl.kit_tup x).trans (by cases x <;> rfl) | h p => exact hk.elim | n κ cs => cases κ <;> first | exact hk.elim | exact Wl.kit_tup (.list []) | exact Wl.kit_tup (.tuple [])) hm hmT (by decide +kernel) ha hg hgT hn hdb st rfl
  | list => exact ev_isi (Tn := "list") hk (by cases t with | d x => exact (Wl.kit_lst x).trans (by cases x <;> rfl) | h p => exact hk.elim | n κ cs => cases κ <;> first | exact hk.elim | exact Wl.kit_lst (.list []) | exact Wl.kit_lst (.tuple [])) hm hmT (by decide +kernel) ha hg hgT hn hdb st rfl

theorem kids_l {t : T} (h : t.one = true) (q : t.isL = true) : t.dat = .list (T.dats t.kids) := one_l h q
theorem keys_int : ∀ {kvs : List (Key × V)} {ns : List Int}, kvs.map (fun q => keyD q.1) = ns.map PyData.int → kvs.map (·.1) = ns.map Sum.inl
  | [], [], _ => rfl
  | [], n :: ns, e => by simp at e
  | q :: kvs, [], e => by simp at e
  | (k, v) :: kvs, n :: ns, e => by
    simp only [List.map_cons, List.cons.injEq] at e ⊢
    refine ⟨?_, keys_int e.2⟩
    cases k with
    | inl i => have e1 := e.1; simp only [keyD, PyData.int.injEq] at e1; rw [e1]
    | inr i => have e1 := e.1; simp [keyD] at e1
/-- a built-in of one argument, but len(set(..)), list(range(..)) -/
theorem bi1_ev {X : Cx} {Γ : List Sl} {a : Expr} {t : T} {b : Bi} {p pos : Pos} (hc : X.calm = true) (h1 : oneArg b = true) (hm : X.mg (biN b) = none) (hg : Gl X (biN b)) (hdb : (biN b == ("__debug__" : Str)) = false) (hn : biN b ≠ "__name__") (ha : EvT X a Γ t) (he : plainE a = true) (hk : biOk b [t]) : EvT X (.Call (.Name (biN b) p) [a] [] pos) Γ (.d (biV b [t])) := by
  have st := star_plain he [] X.env
  have A : EvA X [a] Γ [t] := ea_cons ha ea_nil st
  have one1 : t.one = true → [t].all T.one = true := fun h => by rw [List.all_cons, h]; rfl
  have oi : ∀ {t : T}, t.isI = true → t.one = true := fun {t} h => by rw [isI_eq h]; rfl
  have ob : ∀ {t : T}, t.isB = true → t.one = true := fun {t} h => by rw [isB_eq h]; rfl
  cases b <;> simp [oneArg] at h1
  case len =>
    rcases hk with hk | hk | hk | hk
    · have e : t = .d (.str t.s) := by
        cases t with
        | d x => cases x <;> simp [T.isS] at hk; rfl
        | h p => simp [T.isS] at hk
        | n κ cs => simp [T.isS] at hk
      have c := ev_callB (pos := pos) (p := p) (z := .int t.s.length) (ts := [t]) (by rw [e]; exact Wl.cal_lenS hk.2) (one1 (by rw [e]; rfl)) hm PySem.boot_len hg A hn hdb st rfl
      refine c.is ?_
      rw [e]; rfl
    · have c := ev_lenSeq (pos := pos) (p := p) (.inl hk) hm hg ha st
      refine c.is ?_
      cases t with
      | d x => cases x <;> first | rfl | simp [T.isL] at hk
      | _ => rfl
    · have c := ev_lenSeq (pos := pos) (p := p) (.inr hk) hm hg ha st
      refine c.is ?_
      cases t with
      | d x => cases x <;> first | rfl | simp [T.isT] at hk
      | _ => rfl
    · cases t with
      | d x => simp [T.isK] at hk
      | h p => simp [T.isK] at hk
      | n κ cs =>
        cases κ with
        | k ks =>
          have c := ev_lenK (pos := pos) (p := p) hm hg ha st
          refine c.is ?_
          simp only [biV, T.kids, List.length_map]
        | _ => simp [T.isK] at hk
  case abs =>
    have e := isI_eq (show t.isI = true from hk)
    have c := ev_callB (pos := pos) (p := p) (ts := [t]) (by rw [e]; exact Wl.cal_abs) (one1 (oi hk)) hm boot_abs hg A hn hdb st rfl
    exact c.is (by rw [e]; rfl)
  case max1 =>
    obtain ⟨k1, k2, ns, k3, k4⟩ := hk
    have e := intsD_eq k3
    have c := ev_callB (pos := pos) (p := p) (ts := [t]) (z := .int (Wl.maxL ns)) (by rw [List.map_cons, one_l k2 k1, e]; exact Wl.cal_maxL hc k4) (one1 k2) hm boot_max hg A hn hdb st rfl
    exact c.is (by simp only [biV]; rw [k3]; rfl)
  case min1 =>
    obtain ⟨k1, k2, ns, k3, k4⟩ := hk
    have e := intsD_eq k3
    have c := ev_callB (pos := pos) (p := p) (ts := [t]) (z := .int (Wl.minL ns)) (by rw [List.map_cons, one_l k2 k1, e]; exact Wl.cal_minL hc k4) (one1 k2) hm boot_min hg A hn hdb st rfl
    exact c.is (by simp only [biV]; rw [k3]; rfl)
  case sum =>
    obtain ⟨k1, k2, ns, k3⟩ := hk
    have e := intsD_eq k3
    have c := ev_callB (pos := pos) (p := p) (ts := [t]) (z := .int ns.sum) (by rw [List.map_cons, one_l k2 k1, e]; exact Wl.cal_sum hc) (one1 k2) hm boot_sum hg A hn hdb st rfl
    exact c.is (by simp only [biV]; rw [k3]; rfl)
  case all =>
    obtain ⟨k1, k2, ns, k3⟩ := hk
    have e := boolsD_eq k3
    have c := ev_callB (pos := pos) (p := p) (ts := [t]) (z := .bool (ns.all id)) (by rw [List.map_cons, one_l k2 k1, e]; exact Wl.cal_all hc) (one1 k2) hm boot_all hg A hn hdb st rfl
    exact c.is (by simp only [biV]; rw [k3]; rfl)
  case sorted =>
    obtain ⟨k1, ns, k3⟩ := hk
    have e := intsD_eq k3
    rcases k1 with k1 | k1
    · have c := ev_callB (pos := pos) (p := p) (ts := [t]) (z := .list ((Wl.sortI ns).map .int)) (by rw [List.map_cons, one_l k1.2 k1.1, e]; exact Wl.cal_sorted) (one1 k1.2) hm boot_sorted hg A hn hdb st rfl
      exact c.is (by simp only [biV]; rw [k3]; rfl)
    · refine ⟨fun G H σ E Q q => w_pe (pe_callB (call_sortedDI hc) hg hm boot_sorted (pa_cons pe_w pa_nil st) hn hdb st rfl) (ha.run G H σ E _ fun v G1 H1 f1 s1 k => ?_)⟩
      cases t with
      | d x => simp [T.isK] at k1
      | h p => simp [T.isK] at k1
      | n κ cs =>
        cases κ with
        | k ks =>
          cases k with
          | n h1 h2 =>
            obtain ⟨rfl, kvs, e1, rfl, rfl⟩ := h1
            simp only [T.kids, dats_map, List.length_map] at e k1 k3
            have ek := keys_int e
            have ll : ns.length = kvs.length := by
              have := congrArg List.length ek
              simpa using this.symm
            refine ⟨_, kvs, ns, rfl, .inl e1, ek, by omega, fun ys r pm pw hr => ?_⟩
            rw [Wl.sorted_unique (pm.trans (Wl.sortI_perm ns).symm) pw (Wl.sortI_pw ns)]
            have ez : biV .sorted [.n (.k (kvs.map fun q => keyD q.1)) cs] = .list ((Wl.sortI ns).map .int) := by
              simp only [biV, T.kids, dats_map]
              rw [k3]; rfl
            refine q _ (upd G1 r (.lst ((Wl.sortI ns).map V.int))) _ [] (s1.trans (Stp.lay s1.gh hr)) ?_
            rw [ez]
            exact .d (.lst (.of upd_same) (dp_lay (s1.gh.free hr) (Wl.DtAll.ofInts (Wl.sortI ns))))
        | _ => simp [T.isK] at k1
  case intB =>
    have e := isB_eq (show t.isB = true from hk)
    have c := ev_callTy (pos := pos) (p := p) (ts := [t]) (by rw [e]; exact Wl.cal_intB) (one1 (ob hk)) hm boot_int hg A hn hdb st rfl
    exact c.is (by rw [e]; rfl)
  case intS =>
    obtain ⟨k1, k2, k3⟩ := hk
    have e : t = .d (.str t.s) := by
      cases t with
      | d x => cases x <;> simp [T.isS] at k1; rfl
      | h p => simp [T.isS] at k1
      | n κ cs => simp [T.isS] at k1
    have c := ev_callTy (pos := pos) (p := p) (ts := [t]) (by rw [e]; exact Wl.cal_intS (atI_some (d := 0) k2) k3) (one1 (by rw [e]; rfl)) hm boot_int hg A hn hdb st rfl
    exact c.is (by rw [e]; rfl)
  case strI =>
    obtain ⟨k1, k2⟩ := hk
    have e := isI_eq k1
    have c := ev_callTy (pos := pos) (p := p) (ts := [t]) (by rw [e]; exact Wl.cal_strI k2) (one1 (oi k1)) hm boot_str hg A hn hdb st rfl
    exact c.is (by rw [e]; rfl)
  case list =>
    obtain ⟨k1, k2⟩ := hk
    rcases k1 with k1 | k1
    · exact ev_callTy (pos := pos) (p := p) (ts := [t]) (by rw [List.map_cons, one_l k2 k1]; exact Wl.cal_listL) (one1 k2) hm boot_list hg A hn hdb st rfl
    · obtain ⟨xs, rfl⟩ := one_t k2 k1
      have c := ev_callTy (pos := pos) (p := p) (ts := [.d (.tuple xs)]) (z := .list xs) Wl.cal_listT rfl hm boot_list hg A hn hdb st rfl
      exact c.is (by simp only [biV, T.kids, dats_map])
  case tuple =>
    obtain ⟨k1, k2⟩ := hk
    exact ev_callTy (pos := pos) (p := p) (ts := [t]) (by rw [List.map_cons, one_l k2 k1]; exact Wl.cal_tupL) (one1 k2) hm boot_tuple hg A hn hdb st rfl
theorem rg_ev {X : Cx} {Γ : List Sl} {a : Expr} {t : T} {p q pp pos : Pos} {b : Bi} (hb : b = .lrng ∨ b = .trng) (hc : X.calm = true) (hm : X.mg (biN b) = none) (hg : Gl X (biN b)) (hm2 : X.mg "range" = none) (hg2 : Gl X "range") (ha : EvT X a Γ t) (he : plainE a = true) (hk : biOk b [t]) :
    EvT X (.Call (.Name (biN b) p) [.Call (.Name "range" pp) [a] [] q] [] pos) Γ (.d (biV b [t])) := by
  have st := star_plain he [] X.env
  have rv : ∀ n : Int, DtAll X.K (fun _ => none) (rgV 0 n) ((List.range n.toNat).map fun k => PyData.int (k : Nat)) := fun n => by
    unfold rgV
    rw [Int.sub_zero]
    generalize List.range n.toNat = l
    induction l with
    | nil => exact .nil
    | cons k l ih => rw [List.map_cons, List.map_cons, Int.zero_add]; exact .cons (.int _) ih
  have up : ∀ G : Hp, Same (fun _ => none) G := fun G a o e => by cases e
  rcases hb with rfl | rfl
  · have hk : t.isI = true ∧ 0 ≤ t.i ∧ t.i ≤ 1000 := hk
    refine ⟨fun G H σ E Q k => w_pe (pe_listRg hc hg hm (prg_1 hg2 hm2 pe_w st) rfl) (ha.run G H σ E _ fun v G1 H1 f1 s1 k1 => ⟨t.i, k1.int hk.1, RgOk.of_le (by omega) (by omega) (by omega) hk.2.1, fun r hr => ?_⟩)⟩
    exact k _ (upd G1 r _) _ [] (s1.trans (Stp.lay s1.gh hr)) (.d (.lst (.of upd_same) (dtAll_mono (up _) _ _ (rv t.i))))
  · have hk : t.isI = true ∧ 0 ≤ t.i ∧ t.i ≤ 1000 := hk
    refine ⟨fun G H σ E Q k => w_pe (pe_tupRg hc hg hm (prg_1 hg2 hm2 pe_w st) rfl) (ha.run G H σ E _ fun v G1 H1 f1 s1 k1 => ⟨t.i, k1.int hk.1, RgOk.of_le (by omega) (by omega) (by omega) hk.2.1, fun r hr => ?_⟩)⟩
    exact k _ (upd G1 r _) _ [] (s1.trans (Stp.lay s1.gh hr)) (.d (.tup (.of upd_same) (dtAll_mono (up _) _ _ (rv t.i))))
end Yl

end

section
/-! Y6: THE THEOREM of expressions: what is looked at, asked of the program and right, tells what it is worth. -/
namespace Yl
open PySem PySem.Spec PyProof.Rows L2
open Wl (wE wT wA wS wSs pe_w pt_w pa_w ps_w pss_w w_pe w_pt w_pa w_ps w_pss Dt DtAll Stp Keeps NoT Wk WkAll dt_mono dtAll_mono dt_dp dtAll_dp sqT_mono dp_lay)
variable [Wl.Tb] [Tc]
section
variable {N fr : List Str} {sc : Scope} {X : Cx} {Γ : List Sl} {t : T}
/-! ### targets -/
theorem names_tg (hN : X.N = N) (nd : N.Nodup) : ∀ {is : List Nat} {es : List Expr} {ts : List T} {ws : List Nat} {Γ : List Sl}, chkNm N is es = true → ts.length = is.length → (∀ i, i ∈ is → i ∈ ws) → (∀ i n, i ∈ is → N[i]? = some n → Wl.okS X.env.scope (X.fn n) n = true) →
    TgsT X es ws ts Γ (binds is ts Γ) ∧ (assignEach es X.env).length = is.length ∧ (assignEach es X.env).findIdx? (·.1) = none
  | [], [], [], ws, Γ, _, _, _, _ => ⟨tgs_nil, rfl, rfl⟩
  | [], [], t :: ts, ws, Γ, _, h, _, _ => by simp at h
  | [], e :: es, ts, ws, Γ, h, _, _, _ => by simp [chkNm] at h
  | i :: is, [], ts, ws, Γ, h, _, _, _ => by simp [chkNm] at h
  | i :: is, e :: es, [], ws, Γ, _, h, _, _ => by simp at h
  | i :: is, e :: es, t :: ts, ws, Γ, h, hl, hw, hs => by
    cases e <;> simp [chkNm] at h
    rename_i n p
    obtain ⟨h1, h2⟩ := h
    obtain ⟨k1, k2, k3⟩ := names_tg hN nd (ts := ts) (ws := ws) (Γ := Γ.set i (.w t)) h2 (by simpa using hl) (fun j hj => hw j (List.mem_cons_of_mem _ hj)) fun j m hj => hs j m (List.mem_cons_of_mem _ hj)
    have o := Wl.okS_ok (hs i n List.mem_cons_self h1)
    refine ⟨tgs_cons (tg_name (by rw [hN]; exact nd) (by rw [hN]; exact h1) o.1 (hw i List.mem_cons_self) o.2) k1 rfl, ?_, ?_⟩
    · show (_ :: assignEach es X.env).length = _
      rw [List.length_cons, List.length_cons, k2]
    · show List.findIdx? (·.1) ((false, _) :: assignEach es X.env) = none
      rw [List.findIdx?_cons]
      simp [k3]
theorem tgt_ok {tg : Tg} {te : Expr} {ws : List Nat} (hN : X.N = N) (nd : N.Nodup) (hc : X.calm = true) (hk : chkTg N tg te = true) (hb : bindOk tg t) (hw : ∀ i, i ∈ tgI tg → i ∈ ws) (hs : ∀ i n, i ∈ tgI tg → N[i]? = some n → Wl.okS X.env.scope (X.fn n) n = true) : TgT X te ws t Γ (bind tg t Γ) := by
  cases tg with
  | n i =>
    cases te <;> simp [chkTg] at hk
    have o := Wl.okS_ok (hs i _ (by simp [tgI]) hk)
    exact tg_name (by rw [hN]; exact nd) (by rw [hN]; exact hk) o.1 (hw i (by simp [tgI])) o.2
  | t is =>
    cases te <;> simp [chkTg] at hk
    obtain ⟨h1, h2⟩ := hk
    obtain ⟨k1, k2, k3⟩ := names_tg (X := X) hN nd (Γ := Γ) (ts := t.kids) (ws := ws) h2 hb.2 hw hs
    exact tg_tup hc hb.1 k1 hb.2 k2 k3
theorem binds_wipe : ∀ {is : List Nat} {ts : List T} {Γ : List Sl}, is.Nodup → ts.length = is.length → binds is ts (wipeS Γ is) = binds is ts Γ
  | [], ts, Γ, _, _ => rfl
  | i :: is, [], Γ, _, h => by simp at h
  | i :: is, t :: ts, Γ, nd, h => by
    have key : ∀ (ws : List Nat) (Γ : List Sl) (s : Sl), i ∉ ws → (wipeS Γ ws).set i s = wipeS (Γ.set i s) ws := by
      intro ws
      induction ws with
      | nil => intro Γ s _; rfl
      | cons w ws ih =>
        intro Γ s hw
        have h1 : ¬ w = i := fun z => hw (by simp [z])
        show ((wipeS Γ ws).set w .un).set i s = (wipeS (Γ.set i s) ws).set w .un
        rw [List.set_comm _ _ h1, ih Γ s fun z => hw (List.mem_cons_of_mem _ z)]
    obtain ⟨n1, n2⟩ := List.nodup_cons.mp nd
    show binds is ts (((wipeS Γ is).set i .un).set i (.w t)) = binds is ts (Γ.set i (.w t))
    rw [List.set_set, key is Γ _ n1]
    exact binds_wipe n2 (by simpa using h)
theorem bind_wipe {tg : Tg} {te : Expr} (hk : chkTg N tg te = true) (hb : bindOk tg t) : bind tg t (wipeS Γ (tgI tg)) = bind tg t Γ := by
  cases tg with
  | n i => show (Γ.set i .un).set i (.w t) = Γ.set i (.w t); rw [List.set_set]
  | t is =>
    cases te <;> simp [chkTg] at hk
    exact binds_wipe hk.1 hb.2
theorem own_snd (tg : Tg) : (ownOf N tg).map (·.2) = tgI tg := by
  unfold ownOf
  rw [List.map_map]
  exact List.map_id' _
end
section
variable {N fr : List Str} {g : Pg}
/-- what a text of ours tells of every text of the program that is looked at as it -/
def SndE (N fr : List Str) (g : Pg) (c : Ex) : Prop := ∀ (X : Cx) (sc : Scope) (e : Expr) (Γ : List Sl), CtxOk N fr sc X → InPg g X → chk N fr sc c e = true → ob g c → ok c Γ → Tells X e Γ (val c Γ)
def SndEs (N fr : List Str) (g : Pg) (c : Exs) : Prop := ∀ (X : Cx) (sc : Scope) (es : List Expr) (Γ : List Sl), CtxOk N fr sc X → InPg g X → chks N fr sc c es = true → obs g c → oks c Γ → EvA X es Γ (vals c Γ) ∧ es.all plainE = true ∧ es.length = exLen c
def SndO (N fr : List Str) (g : Pg) (c : Ox) : Prop := ∀ (X : Cx) (sc : Scope) (e : Option Expr) (Γ : List Sl), CtxOk N fr sc X → InPg g X → chko N fr sc c e = true → obo g c → oko c Γ → EvO X e Γ (valo c Γ)
def srcSd : Sr → List Sl → Bool
  | .it a, Γ => (val a Γ).sd
  | .en a, Γ => (val a Γ).sd
  | .zp a b, Γ => (val a Γ).sd && (val b Γ).sd
  | _, _ => true
def SndR (N fr : List Str) (g : Pg) (c : Sr) : Prop := ∀ (X : Cx) (sc : Scope) (tg e : Expr) (Γ : List Sl), CtxOk N fr sc X → InPg g X → chkr N fr sc c tg e = true → obr g c → okr c Γ → SrcT X (srcSd c Γ) tg e Γ (items c Γ) ∧ notSet e = true
theorem InPg.f {X : Cx} {f : Str} {ar : Nat} {F : PF} (ip : InPg g X) (h : HasF g f ar F) : ∃ k, k ≤ g.j ∧ Wl.FG X.prog X.w X.K X.mg X.base k f ar (spR X.K X.mg F) := by
  rw [ip.P, ip.w, ip.K, ip.mg, ip.base]; exact h
theorem InPg.m {X : Cx} {c f : Str} {ar : Nat} {F : PF} (ip : InPg g X) (h : HasM g c f ar F) : ∃ k, k ≤ g.j ∧ MG X.prog X.w X.K X.mg X.base k c f ar (spR X.K X.mg F) := by
  rw [ip.P, ip.w, ip.K, ip.mg, ip.base]; exact h
theorem CtxOk.blk {sc scope : Scope} {X : Cx} (cx : CtxOk N fr sc X) (s : Shared) (H0 : Hp) (C : Addr) (cl : List (Str × Addr)) (fp : List Addr) : CtxOk N fr (relS scope sc) (Blk X scope s H0 C cl fp) := ⟨cx.n, cx.nd, by rw [← cx.sc]; rfl, cx.calm, cx.hu, cx.fr⟩
theorem InPg.blk {X : Cx} (ip : InPg g X) {scope : Scope} (s : Shared) (H0 : Hp) (C : Addr) (cl : List (Str × Addr)) (fp : List Addr) : InPg g (Blk X scope s H0 C cl fp) := ⟨ip.P, ip.w, ip.K, ip.mg, ip.base, ip.room⟩
theorem rdO_ok {Γ : List Sl} {i : Nat} (h : (match Γ[i]? with | some .un => False | none => False | _ => True)) : rdO Γ i = some (rd Γ i) := by
  unfold rdO rd
  cases e : Γ[i]? with
  | none => rw [e] at h; exact h.elim
  | some s =>
    rw [e] at h
    cases s with
    | un => exact h.elim
    | w t => rfl
    | o p t => rfl
theorem isTru_val {p : Ex} {Γ : List Sl} (h : isTru p = true) : val p Γ = .d (.bool true) := by
  unfold isTru at h
  split at h
  · rfl
  · cases h
mutual
theorem snd : ∀ c : Ex, SndE N fr g c
  | .v i, X, sc, e, Γ, cx, ip, hc, ho, hk => by
    unfold chk at hc; split at hc; case h_2 => cases hc
    rw [Bool.and_eq_true, decide_eq_true_eq] at hc
    obtain ⟨h1, h2⟩ := hc
    rw [← cx.sc] at h2
    obtain ⟨o1, o2, o3⟩ := Wl.okN_ok h2
    exact .of (ev_name (by rw [cx.n]; exact h1) (rdO_ok hk) o1 o2 o3) rfl
  | .g n x, X, sc, e, Γ, cx, ip, hc, ho, hk => by
    unfold chk at hc; split at hc; case h_2 => cases hc
    rw [Bool.and_eq_true, decide_eq_true_eq] at hc
    obtain ⟨rfl, h2⟩ := hc
    obtain ⟨v, u, e1, e2, e3⟩ := ho
    obtain ⟨o1, o2, o3⟩ := g_ok cx h2
    exact .of (ev_glob (by rw [ip.mg]; exact e1) e2 (by rw [ip.K]; exact e3) o1 o2) rfl
  | .gk n ks vs a, X, sc, e, Γ, cx, ip, hc, ho, hk => by
    unfold chk at hc; split at hc; case h_2 => cases hc
    simp only [Bool.and_eq_true, decide_eq_true_eq] at hc
    obtain ⟨rfl, h2, h3, h4⟩ := hc
    obtain ⟨k1, k2, k3⟩ := hk
    obtain ⟨o1, o2, o3⟩ := g_ok cx h2
    have h := (snd a X sc _ Γ cx ip h4 ho.2 k1).1
    have es : val a Γ = .d (.str (val a Γ).s) := by
      revert k2
      generalize val a Γ = t
      intro k2
      cases t with
      | d x => cases x <;> simp [T.isS] at k2; rfl
      | h p => simp [T.isS] at k2
      | n κ cs => simp [T.isS] at k2
    rw [es] at h
    exact .of (ho.1 X _ Γ _ _ _ _ ip o1 o2 (plain_ix h3) h (atI_some (d := 0) k3)) rfl
  | .c x, X, sc, e, Γ, cx, ip, hc, ho, hk => by
    unfold chk at hc; split at hc; case h_2 => cases hc
    exact .of (const_ev hc) rfl
  | .bin o a b, X, sc, e, Γ, cx, ip, hc, ho, hk => by
    unfold chk at hc; split at hc; case h_2 => cases hc
    simp only [Bool.and_eq_true] at hc
    obtain ⟨h1, h2, h3⟩ := hc
    obtain ⟨k1, k2, k3, k4, k5⟩ := hk
    exact .of (bin_ev h1 (snd a X sc _ Γ cx ip h2 ho.1 k1).1 (snd b X sc _ Γ cx ip h3 ho.2 k2).1 k3 k4 k5) rfl
  | .rep es b, X, sc, e, Γ, cx, ip, hc, ho, hk => by
    unfold chk at hc; split at hc; case h_2 => cases hc
    simp only [Bool.and_eq_true] at hc
    obtain ⟨h2, h3⟩ := hc
    obtain ⟨k1, k2, k3, k4, k5, k6, k7⟩ := hk
    exact .of (ev_rep (snds es X sc _ Γ cx ip h2 ho.1 k1).1 (snd b X sc _ Γ cx ip h3 ho.2 k3).1 k2 k4 k5 k6 k7) rfl
  | .neg a, X, sc, e, Γ, cx, ip, hc, ho, hk => by
    unfold chk at hc; split at hc; case h_2 => cases hc
    exact .of (ev_neg (snd a X sc _ Γ cx ip hc ho hk.1).1 hk.2) rfl
  | .no a, X, sc, e, Γ, cx, ip, hc, ho, hk => by
    unfold chk at hc; split at hc; case h_2 => cases hc
    have h := snd a X sc _ Γ cx ip hc ho hk.1
    exact ⟨ev_not h.1 hk.2, fun _ => ⟨et_not (h.2 hk.2).1, fun z => by cases z⟩⟩
  | .cmp o a b, X, sc, e, Γ, cx, ip, hc, ho, hk => by
    unfold chk at hc; split at hc; case h_2 => cases hc
    simp only [Bool.and_eq_true] at hc
    obtain ⟨h1, h2, h3, h4⟩ := hc
    exact cmp_tells cx.hu h1 hk.2.2 (no_mark h2) (snd a X sc _ Γ cx ip h3 ho.1 hk.1).1 (snd b X sc _ Γ cx ip h4 ho.2 hk.2.1).1
  | .ch o1 o2 a b c, X, sc, e, Γ, cx, ip, hc, ho, hk => by
    unfold chk at hc; split at hc; case h_2 => cases hc
    rename_i x p1 p2 y z q
    simp only [Bool.and_eq_true] at hc
    obtain ⟨h1, h2, ⟨r1, r2⟩, h3, h4, h5, h6⟩ := hc
    obtain ⟨k1, k2, k3, k4⟩ := hk
    have nd : ∀ (o : Cop) (t u : T), ordC o = true → cmpOk o t u → ∀ ks cs, u ≠ .n (.k ks) cs := fun o t u ho hh ks cs z => by
      subst z
      cases o <;> simp [ordC] at ho <;> exact absurd hh.2 (by simp [T.isI])
    have c1 := cmp_t (X := X) cx.hu h1 k3 (nd _ _ _ r1 k3)
    have c2 := fun z => cmp_t (X := X) cx.hu h2 (k4 z).2 (nd _ _ _ r2 (k4 z).2)
    have ha := (snd a X sc _ Γ cx ip h4 ho.1 k1).1
    have hb := (snd b X sc _ Γ cx ip h5 ho.2.1 k2).1
    have hcc := fun z => (snd c X sc _ Γ cx ip h6 ho.2.2 (k4 z).1).1
    have hm : lastMarks [p1, p2] [y, z] = false := no_mark h3
    exact ⟨ev_chain c1 c2 (opr_ex h2 cx.hu) ha hb hcc hm, fun _ => ⟨et_chain c1 c2 (opr_ex h2 cx.hu) ha hb hcc hm, fun z => by cases z⟩⟩
  | .an a b, X, sc, e, Γ, cx, ip, hc, ho, hk => by
    unfold chk at hc; split at hc; case h_2 => cases hc
    simp only [Bool.and_eq_true] at hc
    obtain ⟨h1, h2⟩ := hc
    obtain ⟨k1, k2, k3⟩ := hk
    have ha := snd a X sc _ Γ cx ip h1 ho.1 k1
    have p := ep_and (l := (val b Γ).b) (ha.2 k2).1 fun z => ((snd b X sc _ Γ cx ip h2 ho.2 (k3 z).1).2 (k3 z).2).2 rfl
    exact ⟨ev_and ha.1 k2 fun z => ⟨(snd b X sc _ Γ cx ip h2 ho.2 (k3 z).1).1, (k3 z).2⟩, fun _ => ⟨p.toB, fun _ => p⟩⟩
  | .or a b, X, sc, e, Γ, cx, ip, hc, ho, hk => by
    unfold chk at hc; split at hc; case h_2 => cases hc
    simp only [Bool.and_eq_true] at hc
    obtain ⟨h1, h2⟩ := hc
    obtain ⟨k1, k2, k3⟩ := hk
    have ha := snd a X sc _ Γ cx ip h1 ho.1 k1
    have p := ep_or (l := (val b Γ).b) (ha.2 k2).1 fun z => ((snd b X sc _ Γ cx ip h2 ho.2 (k3 z).1).2 (k3 z).2).2 rfl
    exact ⟨ev_or ha.1 k2 fun z => ⟨(snd b X sc _ Γ cx ip h2 ho.2 (k3 z).1).1, (k3 z).2⟩, fun _ => ⟨p.toB, fun _ => p⟩⟩
  | .on a, X, sc, e, Γ, cx, ip, hc, ho, hk => by
    unfold chk at hc; split at hc; case h_2 => cases hc
    rename_i op x p
    have ha := snd a X sc _ Γ cx ip hc ho hk
    refine ⟨ev_one ha.1, fun q => ?_⟩
    cases op with
    | And => exact ⟨(ep_and1 (ha.2 q).1).toB, fun _ => ep_and1 (ha.2 q).1⟩
    | Or => exact ⟨(ep_or1 (ha.2 q).1).toB, fun _ => ep_or1 (ha.2 q).1⟩
  | .ite c a b, X, sc, e, Γ, cx, ip, hc, ho, hk => by
    unfold chk at hc; split at hc; case h_2 => cases hc
    simp only [Bool.and_eq_true] at hc
    obtain ⟨h1, h2, h3⟩ := hc
    obtain ⟨k1, k2, k3, k4⟩ := hk
    have hcnd := (snd c X sc _ Γ cx ip h1 ho.1 k1).2 k2
    have ha := fun z => snd a X sc _ Γ cx ip h2 ho.2.1 (k3 z)
    have hb := fun z => snd b X sc _ Γ cx ip h3 ho.2.2 (k4 z)
    refine ⟨ev_ife hcnd.1 (fun z => (ha z).1) (fun z => (hb z).1), fun q => ⟨?_, fun z => by cases z⟩⟩
    cases e : (val c Γ).b with
    | true =>
      have e2 : val (.ite c a b) Γ = val a Γ := by simp only [val]; rw [if_pos e]
      rw [e2] at q ⊢
      have hh := hcnd.1
      rw [e] at hh
      exact et_ife (x := (val a Γ).b) (y := true) hh (fun _ => ((ha e).2 q).1) (fun z => by cases z)
    | false =>
      have e2 : val (.ite c a b) Γ = val b Γ := by simp only [val]; rw [if_neg (by rw [e]; simp)]
      rw [e2] at q ⊢
      have hh := hcnd.1
      rw [e] at hh
      exact et_ife (x := true) (y := (val b Γ).b) hh (fun z => by cases z) (fun _ => ((hb e).2 q).1)
  | .tup es, X, sc, e, Γ, cx, ip, hc, ho, hk => by
    unfold chk at hc; split at hc; case h_2 => cases hc
    exact .of (ev_tup (snds es X sc _ Γ cx ip hc ho hk.1).1 hk.2.1 hk.2.2) rfl
  | .lst es, X, sc, e, Γ, cx, ip, hc, ho, hk => by
    unfold chk at hc; split at hc; case h_2 => cases hc
    exact .of (ev_lst (snds es X sc _ Γ cx ip hc ho hk.1).1 hk.2.1 hk.2.2) rfl
  | .ix a b, X, sc, e, Γ, cx, ip, hc, ho, hk => by
    unfold chk at hc; split at hc; case h_2 => cases hc
    simp only [Bool.and_eq_true] at hc
    obtain ⟨h1, h2, h3⟩ := hc
    exact .of (ix_ev cx.hu h1 (snd a X sc _ Γ cx ip h2 ho.1 hk.1).1 (snd b X sc _ Γ cx ip h3 ho.2 hk.2.1).1 hk.2.2) rfl
  | .sl a lo hi, X, sc, e, Γ, cx, ip, hc, ho, hk => by
    unfold chk at hc; split at hc; case h_2 => cases hc
    simp only [Bool.and_eq_true] at hc
    obtain ⟨h1, h2, h3⟩ := hc
    exact .of (sl_ev (snd a X sc _ Γ cx ip h1 ho.1 hk.1).1 (sndo lo X sc _ Γ cx ip h2 ho.2.1 hk.2.1) (sndo hi X sc _ Γ cx ip h3 ho.2.2 hk.2.2.1) hk.2.2.2) rfl
  | .rev a, X, sc, e, Γ, cx, ip, hc, ho, hk => by
    unfold chk at hc; split at hc; case h_2 => cases hc
    simp only [Bool.and_eq_true, decide_eq_true_eq] at hc
    obtain ⟨rfl, h2⟩ := hc
    exact .of (ev_rev (snd a X sc _ Γ cx ip h2 ho hk.1).1 hk.2.2 (one_l hk.2.2 hk.2.1)) rfl
  | .fld a c f, X, sc, e, Γ, cx, ip, hc, ho, hk => by
    unfold chk at hc; split at hc; case h_2 => cases hc
    simp only [Bool.and_eq_true, decide_eq_true_eq] at hc
    obtain ⟨rfl, h2, h3⟩ := hc
    exact .of (ev_fld (snd a X sc _ Γ cx ip h3 ho.2 hk.1).1 (atI_some hk.2) (by rw [ip.K]; exact ho.1.1) (by rw [ip.K]; exact ho.1.2) (attr_base h2 _ _ _)) rfl
  | .isi k a, X, sc, e, Γ, cx, ip, hc, ho, hk => by
    unfold chk at hc; split at hc; case h_2 => cases hc
    simp only [Bool.and_eq_true, decide_eq_true_eq] at hc
    obtain ⟨rfl, h2, rfl, h4, h5, h6⟩ := hc
    obtain ⟨g1, g2, g3, g4⟩ := gl_ok cx h2
    obtain ⟨g5, g6, g7, g8⟩ := gl_ok cx h4
    exact .of (isi_ev hk.2 (snd a X sc _ Γ cx ip h6 ho hk.1).1 g1 g5 g2 g6 g8 g7 h5) rfl
  | .bi b es, X, sc, e, Γ, cx, ip, hc, ho, hk => by
    unfold chk at hc; split at hc; case h_2 => cases hc
    rename_i n pn xs pos
    simp only [Bool.and_eq_true, decide_eq_true_eq] at hc
    obtain ⟨rfl, h2, h3⟩ := hc
    obtain ⟨g1, g2, g3, g4⟩ := gl_ok cx h2
    have one : (decide (xs.length = 1) && chks N fr sc es xs) = true → oneArg b = true → Tells X (.Call (.Name (biN b) pn) xs [] pos) Γ (val (.bi b es) Γ) := fun h ob => by
      rw [Bool.and_eq_true, decide_eq_true_eq] at h
      obtain ⟨a1, a2, a3⟩ := snds es X sc _ Γ cx ip h.2 ho hk.1
      cases es with
      | nil => rw [a3] at h; exact absurd h.1 (by simp [exLen])
      | cons a r =>
        cases xs with
        | nil => simp at h
        | cons x xs =>
          have hc2 := h.2
          unfold chks at hc2
          simp only [Bool.and_eq_true] at hc2
          cases xs with
          | cons _ _ => simp at h
          | nil =>
            cases r with
            | cons _ _ => simp [exLen] at a3
            | nil => exact .of (bi1_ev cx.calm ob g1 g2 g3 g4 (snd a X sc x Γ cx ip hc2.2.1 ho.1 hk.1.1).1 hc2.1 hk.2) rfl
    have two : (decide (xs.length = 2) && chks N fr sc es xs) = true → (b = .max2 ∨ b = .min2) → Tells X (.Call (.Name (biN b) pn) xs [] pos) Γ (val (.bi b es) Γ) := fun h ob => by
      rw [Bool.and_eq_true, decide_eq_true_eq] at h
      obtain ⟨a1, a2, a3⟩ := snds es X sc _ Γ cx ip h.2 ho hk.1
      have hb := hk.2
      revert a1 hb
      generalize e : vals es Γ = ts
      intro a1 hb
      have e2 : val (.bi b es) Γ = .d (biV b ts) := by simp only [val]; rw [e]
      rw [e2]
      cases xs with
      | nil => simp at h
      | cons x xs =>
        rw [List.all_cons, Bool.and_eq_true] at a2
        rcases ob with rfl | rfl
        · match ts, hb with
          | [t, u], hb =>
            have hb : t.isI = true ∧ u.isI = true := hb
            have z : Wl.CalD X (.builtin "max") ([t, u].map T.dat) (.int (max t.i u.i)) := by
              rw [isI_eq hb.1, isI_eq hb.2]; exact Wl.cal_max2 cx.calm
            exact .of (ev_callB z (by rw [isI_eq hb.1, isI_eq hb.2]; rfl) g1 boot_max g2 a1 g4 g3 (star_plain a2.1 _ _) (star_back a2.2 _ _)) rfl
          | [], hb => exact hb.elim
          | [_], hb => exact hb.elim
          | _ :: _ :: _ :: _, hb => exact hb.elim
        · match ts, hb with
          | [t, u], hb =>
            have hb : t.isI = true ∧ u.isI = true := hb
            have z : Wl.CalD X (.builtin "min") ([t, u].map T.dat) (.int (min t.i u.i)) := by
              rw [isI_eq hb.1, isI_eq hb.2]; exact Wl.cal_min2 cx.calm
            exact .of (ev_callB z (by rw [isI_eq hb.1, isI_eq hb.2]; rfl) g1 boot_min g2 a1 g4 g3 (star_plain a2.1 _ _) (star_back a2.2 _ _)) rfl
          | [], hb => exact hb.elim
          | [_], hb => exact hb.elim
          | _ :: _ :: _ :: _, hb => exact hb.elim
    have inner : ∀ {m : Str} {ys : List Expr}, (decide (ys.length = 1) && chks N fr sc es ys) = true → ∃ a y, es = .cons a .nil ∧ ys = [y] ∧ EvT X y Γ (val a Γ) ∧ plainE y = true := fun {m ys} h => by
      rw [Bool.and_eq_true, decide_eq_true_eq] at h
      obtain ⟨a1, a2, a3⟩ := snds es X sc _ Γ cx ip h.2 ho hk.1
      cases es with
      | nil => rw [a3] at h; exact absurd h.1 (by simp [exLen])
      | cons a r =>
        cases ys with
        | nil => simp at h
        | cons x xs =>
          have hc2 := h.2
          unfold chks at hc2
          simp only [Bool.and_eq_true] at hc2
          cases xs with
          | cons _ _ => simp at h
          | nil =>
            cases r with
            | cons _ _ => simp [exLen] at a3
            | nil => exact ⟨a, x, rfl, rfl, (snd a X sc x Γ cx ip hc2.2.1 ho.1 hk.1.1).1, hc2.1⟩
    cases b
    case max2 => exact two h3 (.inl rfl)
    case min2 => exact two h3 (.inr rfl)
    case lset =>
      simp only at h3; split at h3; case h_2 => cases h3
      simp only [Bool.and_eq_true] at h3
      obtain ⟨hm, h4, h5, h6⟩ := h3
      obtain rfl := of_decide_eq_true hm
      obtain ⟨a, y, rfl, rfl, h7, h8⟩ := inner (m := Str.empty) (by rw [h5, h6]; rfl)
      obtain ⟨q1, q2, q3, q4⟩ := gl_ok cx h4
      obtain ⟨k1, k2, ns, k3, k4⟩ := (show (val a Γ).isL = true ∧ (val a Γ).one = true ∧ ∃ ns, intsD (T.dats (val a Γ).kids) = some ns ∧ ns.length < 1000 from hk.2)
      refine .of ((ev_lenSet cx.calm g2 g1 q2 q1 h7 k2 (by rw [one_l k2 k1, intsD_eq k3]) k4 (star_plain h8 _ _)).is ?_) rfl
      simp only [val, vals, biV]
      rw [k3]; rfl
    case lrng =>
      simp only at h3; split at h3; case h_2 => cases h3
      simp only [Bool.and_eq_true] at h3
      obtain ⟨hm, h4, h5, h6⟩ := h3
      obtain rfl := of_decide_eq_true hm
      obtain ⟨a, y, rfl, rfl, h7, h8⟩ := inner (m := Str.empty) (by rw [h5, h6]; rfl)
      obtain ⟨q1, q2, q3, q4⟩ := gl_ok cx h4
      exact .of (rg_ev (.inl rfl) cx.calm g1 g2 q1 q2 h7 h8 hk.2) rfl
    case trng =>
      simp only at h3; split at h3; case h_2 => cases h3
      simp only [Bool.and_eq_true] at h3
      obtain ⟨hm, h4, h5, h6⟩ := h3
      obtain rfl := of_decide_eq_true hm
      obtain ⟨a, y, rfl, rfl, h7, h8⟩ := inner (m := Str.empty) (by rw [h5, h6]; rfl)
      obtain ⟨q1, q2, q3, q4⟩ := gl_ok cx h4
      exact .of (rg_ev (.inr rfl) cx.calm g1 g2 q1 q2 h7 h8 hk.2) rfl
    all_goals exact one h3 rfl
  | .call F f es, X, sc, e, Γ, cx, ip, hc, ho, hk => by
    unfold chk at hc; split at hc; case h_2 => cases hc
    rename_i n pn xs pos
    simp only [Bool.and_eq_true, decide_eq_true_eq] at hc
    obtain ⟨rfl, h2, h3, h4⟩ := hc
    obtain ⟨g1, g2, g3⟩ := g_ok cx h2
    obtain ⟨k, hkj, fg⟩ := ip.f ho.1
    obtain ⟨a1, a2, a3⟩ := snds es X sc _ Γ cx ip h4 ho.2 hk.1
    rw [← a3] at fg
    cases xs with
    | nil => simp at h3
    | cons x xs =>
      rw [List.all_cons, Bool.and_eq_true] at a2
      exact .of (ev_call fg ip.room hkj hk.2.1 hk.2.2 a1 g1 g2 (star_plain a2.1 _ _) (star_back a2.2 _ _)) rfl
  | .meth F c m a es, X, sc, e, Γ, cx, ip, hc, ho, hk => by
    unfold chk at hc; split at hc; case h_2 => cases hc
    rename_i x n ap xs pos
    simp only [Bool.and_eq_true, decide_eq_true_eq] at hc
    obtain ⟨rfl, h2, h3, h4, h5, h6⟩ := hc
    obtain ⟨k, hkj, mg⟩ := ip.m ho.1
    obtain ⟨k1, k2, k3, k4, k5⟩ := hk
    obtain ⟨a1, a2, a3⟩ := snds es X sc _ Γ cx ip h6 ho.2.2 k3
    have hx := (snd a X sc _ Γ cx ip h5 ho.2.1 k1).1
    have em := eval_meth (env := X.env) (m := n) h2 a2 h4 h3
    cases xs with
    | nil =>
      have ev : vals es Γ = [] := List.eq_nil_of_length_eq_zero a1.len
      rw [ev] at k4 k5
      have h := ev_meth0 mg ip.room hkj hx k2 k4 k5 em
      refine .of (h.is ?_) rfl
      simp only [val]; rw [ev]
    | cons y xs =>
      rw [List.all_cons, Bool.and_eq_true] at a2
      exact .of (ev_meth mg ip.room hkj hx k2 a1 k4 k5 (star_plain a2.1 _ _) (star_back a2.2 _ _) em) rfl
  | .lc tg s p el, X, sc, e, Γ, cx, ip, hc, ho, hk => by
    unfold chk at hc; split at hc; case h_2 => cases hc
    rename_i elt tg' iter ifs scope pos
    simp only [Bool.and_eq_true] at hc
    obtain ⟨h1, h2, h3, h4, h5, h6⟩ := hc
    obtain ⟨k1, k2, k3⟩ := hk
    obtain ⟨src, hns⟩ := sndr s X sc tg' iter Γ cx ip h4 ho.1 k1
    have os : ∀ i n, i ∈ tgI tg → N[i]? = some n → Wl.okS (relS scope sc) (scope.names.lookup n == some .cell) n = true := fun i n hi hn => by
      have := List.all_eq_true.mp h2 (N.getD i Str.empty, i) (by unfold ownOf; exact List.mem_map.mpr ⟨i, hi, rfl⟩)
      have en : N.getD i Str.empty = n := by rw [List.getD_eq_getElem?_getD, hn]; rfl
      rw [en] at this
      exact this
    refine .of (ev_lc (own := ownOf N tg) (p := fun t => (val p (bind tg t Γ)).b) (f := fun t => (val el (bind tg t Γ)).dat) cx.calm (by rw [cx.n]; exact cx.nd) src.w (by rw [cx.n, cx.sc]; exact blkOk_by h1) k2 (fun t ht => ⟨bind tg t Γ, fun s0 H0 C cl fp => ?_⟩) (no_fold hns _)) rfl
    obtain ⟨q1, q2, q3, q4⟩ := k3 t ht
    have cb := cx.blk (scope := scope) s0 H0 C cl fp
    have ib := ip.blk (scope := scope) s0 H0 C cl fp
    rw [own_snd]
    refine ⟨?_, ?_, fun z => ?_⟩
    · have h := tgt_ok (X := Blk X scope s0 H0 C cl fp) (Γ := wipeS Γ (tgI tg)) cx.n cx.nd cx.calm h3 q1 (fun i hi => hi) fun i n hi hn => by
        have := os i n hi hn
        rw [← cx.sc] at this
        exact this
      rw [bind_wipe h3 q1] at h
      exact h
    · cases ifs with
      | nil =>
        show (val p (bind tg t Γ)).b = true
        rw [isTru_val h5]; rfl
      | cons c cs =>
        cases cs with
        | nil => exact ((snd p _ _ c _ cb ib h5 ho.2.1 q2).2 q3).1
        | cons _ _ => exact absurd h5 (by simp)
    · have h := (snd el _ _ elt _ cb ib h6 ho.2.2 (q4 z).1).1
      rw [sd_eq (q4 z).2] at h
      exact h
theorem snds : ∀ c : Exs, SndEs N fr g c
  | .nil, X, sc, es, Γ, cx, ip, hc, ho, hk => by
    unfold chks at hc; split at hc; case h_2 => cases hc
    exact ⟨ea_nil, rfl, rfl⟩
  | .cons a r, X, sc, es, Γ, cx, ip, hc, ho, hk => by
    unfold chks at hc; split at hc; case h_2 => cases hc
    simp only [Bool.and_eq_true] at hc
    obtain ⟨h1, h2, h3⟩ := hc
    obtain ⟨a1, a2, a3⟩ := snds r X sc _ Γ cx ip h3 ho.2 hk.2
    exact ⟨ea_cons (snd a X sc _ Γ cx ip h2 ho.1 hk.1).1 a1 (star_plain h1 _ _), by rw [List.all_cons, h1, a2]; rfl, by rw [List.length_cons, a3]; rfl⟩
theorem sndo : ∀ c : Ox, SndO N fr g c
  | .no, X, sc, e, Γ, cx, ip, hc, ho, hk => by
    unfold chko at hc; split at hc; case h_2 => cases hc
    exact True.intro
  | .so a, X, sc, e, Γ, cx, ip, hc, ho, hk => by
    unfold chko at hc; split at hc; case h_2 => cases hc
    have h := (snd a X sc _ Γ cx ip hc ho hk.1).1
    rw [isI_eq hk.2] at h
    exact h
theorem sndr : ∀ c : Sr, SndR N fr g c
  | .it a, X, sc, tg, e, Γ, cx, ip, hc, ho, hk => by
    unfold chkr at hc
    rw [Bool.and_eq_true] at hc
    have h := (snd a X sc _ Γ cx ip hc.2 ho hk.1).1
    refine ⟨?_, hc.1⟩
    rcases hk.2 with q | q | q
    · exact src_list h q
    · exact src_tup h q
    · show SrcT X (val a Γ).sd tg e Γ (val a Γ).kids
      revert q h
      generalize val a Γ = t
      intro h q
      cases t with
      | d x => cases x <;> simp [T.isS] at q; exact src_str h
      | h p => simp [T.isS] at q
      | n κ cs => simp [T.isS] at q
  | .r1 a, X, sc, tg, e, Γ, cx, ip, hc, ho, hk => by
    unfold chkr at hc; split at hc; case h_2 => cases hc
    simp only [Bool.and_eq_true, decide_eq_true_eq] at hc
    obtain ⟨rfl, h2, h3, h4⟩ := hc
    obtain ⟨g1, g2, g3, g4⟩ := gl_ok cx h2
    exact ⟨src_r1 g1 (snd a X sc _ Γ cx ip h4 ho hk.1).1 hk.2.1 hk.2.2.1 hk.2.2.2 g2 (star_plain h3 _ _), rfl⟩
  | .r2 a b, X, sc, tg, e, Γ, cx, ip, hc, ho, hk => by
    unfold chkr at hc; split at hc; case h_2 => cases hc
    simp only [Bool.and_eq_true, decide_eq_true_eq] at hc
    obtain ⟨rfl, h2, h3, h4, h5, h6⟩ := hc
    obtain ⟨g1, g2, g3, g4⟩ := gl_ok cx h2
    obtain ⟨k1, k2, k3, k4, k5⟩ := hk
    exact ⟨src_r2 g1 (snd a X sc _ Γ cx ip h5 ho.1 k1).1 (snd b X sc _ Γ cx ip h6 ho.2 k2).1 k3 k4 k5 g2 (by rw [star_plain h3, star_plain h4]; rfl) (star_plain h4 _ _) (star_plain h3 _ _), rfl⟩
  | .r3 a b c, X, sc, tg, e, Γ, cx, ip, hc, ho, hk => by
    unfold chkr at hc; split at hc; case h_2 => cases hc
    simp only [Bool.and_eq_true, decide_eq_true_eq] at hc
    obtain ⟨rfl, h2, h3, h4, h5, h6, h7, h8⟩ := hc
    obtain ⟨g1, g2, g3, g4⟩ := gl_ok cx h2
    obtain ⟨k1, k2, k3, k4, k5, k6, k7⟩ := hk
    exact ⟨src_r3 g1 (snd a X sc _ Γ cx ip h6 ho.1 k1).1 (snd b X sc _ Γ cx ip h7 ho.2.1 k2).1 (snd c X sc _ Γ cx ip h8 ho.2.2 k3).1 k4 k5 k6 k7 g2 (star_plain h3 _ _) (star_plain h4 _ _) (star_plain h5 _ _) (star_back (by rw [List.all_cons, List.all_cons, h4, h5]; rfl) _ _), rfl⟩
  | .en a, X, sc, tg, e, Γ, cx, ip, hc, ho, hk => by
    unfold chkr at hc; split at hc; case h_2 => cases hc
    simp only [Bool.and_eq_true, decide_eq_true_eq] at hc
    obtain ⟨rfl, h2, h3, h4⟩ := hc
    obtain ⟨g1, g2, g3, g4⟩ := gl_ok cx h2
    exact ⟨src_en g1 (snd a X sc _ Γ cx ip h4 ho hk.1).1 hk.2 g2 (star_plain h3 _ _), rfl⟩
  | .zp a b, X, sc, tg, e, Γ, cx, ip, hc, ho, hk => by
    unfold chkr at hc; split at hc; case h_2 => cases hc
    simp only [Bool.and_eq_true, decide_eq_true_eq] at hc
    obtain ⟨rfl, h2, h3, h4, h5, h6⟩ := hc
    obtain ⟨g1, g2, g3, g4⟩ := gl_ok cx h2
    obtain ⟨k1, k2, k3, k4⟩ := hk
    exact ⟨src_zp g1 (snd a X sc _ Γ cx ip h5 ho.1 k1).1 (snd b X sc _ Γ cx ip h6 ho.2 k2).1 k3 k4 g2 (star_plain h3 _ _) (star_plain h4 _ _) (star_back (by rw [List.all_cons, h4]; rfl) _ _), rfl⟩
end
end
end Yl

end

section
/-! Y7: the slots: things that are read, trees of one's own; how they are changed; frames. -/
namespace Yl
open PySem PySem.Spec PyProof.Rows L2
open Wl (wE wT wA wS wSs pe_w pt_w pa_w ps_w pss_w w_pe w_pt w_pa w_ps w_pss Dt DtAll Stp Keeps NoT Wk WkAll dt_mono dtAll_mono dt_dp dtAll_dp sqT_mono dp_lay Fre same_upd same_upd2 flatten_set_mem nodup_mem flatten_oth flatten_rest set_out set_self)
variable [Wl.Tb] [Tc]
/-! ### places in a tree -/
def get : List Nat → T → Option T
  | [], t => some t
  | k :: π, .n _ cs => match cs[k]? with
    | some c => get π c
    | none => none
  | _ :: _, _ => none
def put : List Nat → T → T → T
  | [], _, u => u
  | k :: π, .n κ cs, u => match cs[k]? with
    | some c => .n κ (cs.set k (put π c u))
    | none => .n κ cs
  | _ :: _, t, _ => t
/-- the values in what stands at p -/
def valsO : Option HO → Option (List V)
  | some (.lst vs) => some vs
  | some (.tup vs) => some vs
  | some (.dK kvs) => some (kvs.map (·.2))
  | some (.ins _ _ fl) => some (fl.map (·.2))
  | _ => none
def vals_ (H : Hp) : V → Option (List V)
  | .ref p => valsO (H p)
  | _ => none
def wlk (H : Hp) : List Nat → V → Option V
  | [], v => some v
  | k :: π, v => match vals_ H v with
    | some vs => match vs[k]? with
      | some w => wlk H π w
      | none => none
    | none => none
theorem ND.vals {H : Hp} {p : Addr} {κ : Kd} {vs : List V} {own : List Addr} (h : ND H p κ vs own) : vals_ H (.ref p) = some vs := by
  show valsO (H p) = some vs
  cases κ with
  | l => rw [h.1]; rfl
  | t => rw [h.1]; rfl
  | k ks => obtain ⟨_, kvs, h1, rfl, _⟩ := h; rw [h1]; rfl
  | i c fs => obtain ⟨dx, fl, h1, _, rfl, _⟩ := h; rw [h1]; rfl
section
variable {K : Frg} {G H G' H' : Hp}
/-- one of some trees in view -/
theorem tats_foc {k : Nat} : ∀ {vs : List V} {ts : List T} {fp : List Addr} {c : T} (n : Nat), n = k → TAts K G H vs ts fp → ts[k]? = some c → ∃ v fk, vs[k]? = some v ∧ TAt K G H v c fk ∧ (∀ a, a ∈ fk → a ∈ fp) ∧ (fp.Nodup → fk.Nodup) ∧
    ∀ {G' H' : Hp} {c' : T} {fk' : List Addr}, Same G G' → (∀ a, a ∈ fp → a ∉ fk → H' a = H a) → (fp.Nodup) → TAt K G' H' v c' fk' → ∃ fp', TAts K G' H' vs (ts.set k c') fp' ∧ (∀ a, a ∈ fp' ↔ (a ∈ fp ∧ a ∉ fk) ∨ a ∈ fk') ∧ (fk'.Nodup → (∀ a, a ∈ fk' → a ∉ fp ∨ a ∈ fk) → fp'.Nodup) := by
  induction k with
  | zero =>
    intro vs ts fp c n _ h e
    cases h with
    | nil => simp at e
    | cons h1 h2 =>
      rename_i v vs t ts f1 f2
      simp at e
      subst e
      refine ⟨v, f1, rfl, h1, fun a ha => List.mem_append_left _ ha, fun nd => (List.nodup_append.mp nd).1, ?_⟩
      intro G' H' c' fk' g hh nd h1'
      obtain ⟨n1, n2, n3⟩ := List.nodup_append.mp nd
      refine ⟨fk' ++ f2, .cons h1' (tats_mono g _ _ _ h2 fun a ha => hh a (List.mem_append_right _ ha) fun z => n3 a z a ha rfl), fun a => ?_, fun d1 d2 => List.nodup_append.mpr ⟨d1, n2, fun a ha b hb z => ?_⟩⟩
      · rw [List.mem_append, List.mem_append]
        constructor
        · rintro (q | q)
          · exact .inr q
          · exact .inl ⟨.inr q, fun z => n3 a z a q rfl⟩
        · rintro (⟨q | q, q2⟩ | q)
          · exact absurd q q2
          · exact .inr q
          · exact .inl q
      · subst z
        rcases d2 a ha with q | q
        · exact q (List.mem_append_right _ hb)
        · exact n3 a q a hb rfl
  | succ k ih =>
    intro vs ts fp c n _ h e
    cases h with
    | nil => simp at e
    | cons h1 h2 =>
      rename_i v vs t ts f1 f2
      obtain ⟨w, fk, e1, e2, e3, e4, e5⟩ := ih k rfl h2 (by simpa using e)
      refine ⟨w, fk, by simpa using e1, e2, fun a ha => List.mem_append_right _ (e3 a ha), fun nd => e4 (List.nodup_append.mp nd).2.1, ?_⟩
      intro G' H' c' fk' g hh nd h1'
      obtain ⟨n1, n2, n3⟩ := List.nodup_append.mp nd
      have no1 : ∀ a, a ∈ f1 → a ∉ fk := fun a ha z => n3 a ha a (e3 a z) rfl
      obtain ⟨fp', k1, k2, k3⟩ := e5 g (fun a ha hn => hh a (List.mem_append_right _ ha) hn) n2 h1'
      refine ⟨f1 ++ fp', .cons (tat_mono g _ _ _ h1 fun a ha => hh a (List.mem_append_left _ ha) (no1 a ha)) k1, fun a => ?_, fun d1 d2 => List.nodup_append.mpr ⟨n1, k3 d1 fun a ha => ?_, fun a ha b hb z => ?_⟩⟩
      · rw [List.mem_append, List.mem_append, k2]
        constructor
        · rintro (q | ⟨q, q2⟩ | q)
          · exact .inl ⟨.inl q, no1 a q⟩
          · exact .inl ⟨.inr q, q2⟩
          · exact .inr q
        · rintro (⟨q | q, q2⟩ | q)
          · exact .inl q
          · exact .inr (.inl ⟨q, q2⟩)
          · exact .inr (.inr q)
      · rcases d2 a ha with q | q
        · exact .inl fun z => q (List.mem_append_right _ z)
        · exact .inr q
      · subst z
        rcases (k2 a).mp hb with q | q
        · exact n3 a ha a q.1 rfl
        · rcases d2 a q with z | z
          · exact z (List.mem_append_left _ ha)
          · exact no1 a ha z
/-- a place of a tree in view -/
theorem tat_foc : ∀ (π : List Nat) {t t1 : T} {v : V} {fp : List Addr}, TAt K G H v t fp → get π t = some t1 → ∃ v1 f1, wlk H π v = some v1 ∧ TAt K G H v1 t1 f1 ∧ (∀ a, a ∈ f1 → a ∈ fp) ∧ (fp.Nodup → f1.Nodup) ∧
    ∀ {G' H' : Hp} {t1' : T} {f1' : List Addr}, Same G G' → (∀ a, a ∈ fp → a ∉ f1 → H' a = H a) → fp.Nodup → TAt K G' H' v1 t1' f1' → ∃ fp', TAt K G' H' v (put π t t1') fp' ∧ (∀ a, a ∈ fp' ↔ (a ∈ fp ∧ a ∉ f1) ∨ a ∈ f1') ∧ (f1'.Nodup → (∀ a, a ∈ f1' → a ∉ fp ∨ a ∈ f1) → fp'.Nodup)
  | [], t, t1, v, fp, h, e => by
    obtain rfl := Option.some.inj (show some t = some t1 from e)
    refine ⟨v, fp, rfl, h, fun a ha => ha, id, ?_⟩
    intro G' H' t1' f1' g hh nd h'
    exact ⟨f1', h', fun a => ⟨.inr, fun z => z.elim (fun q => absurd q.1 q.2) id⟩, fun d _ => d⟩
  | k :: π, t, t1, v, fp, h, e => by
    cases t with
    | d x => simp [get] at e
    | h p => simp [get] at e
    | n κ cs =>
      cases h with
      | n h1 h2 =>
        rename_i p vs own fq
        simp only [get] at e
        cases ec : cs[k]? with
        | none => rw [ec] at e; cases e
        | some c =>
          rw [ec] at e
          obtain ⟨w, fk, e1, e2, e3, e4, e5⟩ := tats_foc k rfl h2 ec
          obtain ⟨v1, f1, g1, g2, g3, g4, g5⟩ := tat_foc π e2 e
          refine ⟨v1, f1, ?_, g2, fun a ha => List.mem_append_right _ (e3 a (g3 a ha)), fun nd => g4 (e4 (List.nodup_append.mp nd).2.1), ?_⟩
          · simp only [wlk]; rw [h1.vals]; simp only; rw [e1]; exact g1
          intro G' H' t1' f1' g hh nd h'
          obtain ⟨n1, n2, n3⟩ := List.nodup_append.mp nd
          have noo : ∀ a, a ∈ own → a ∉ f1 := fun a ha z => n3 a ha a (e3 a (g3 a z)) rfl
          obtain ⟨fk', k1, k2, k3⟩ := g5 g (fun a ha hn => hh a (List.mem_append_right _ (e3 a ha)) hn) (e4 n2) h'
          obtain ⟨fq', j1, j2, j3⟩ := e5 g (fun a ha hn => hh a (List.mem_append_right _ ha) fun z => hn (g3 a z)) n2 k1
          have em : ∀ a, a ∈ fq' ↔ (a ∈ fq ∧ a ∉ f1) ∨ a ∈ f1' := fun a => by
            rw [j2, k2]
            constructor
            · rintro (⟨q1, q2⟩ | ⟨q1, q2⟩ | q)
              · exact .inl ⟨q1, fun z => q2 (g3 a z)⟩
              · exact .inl ⟨e3 a q1, q2⟩
              · exact .inr q
            · rintro (⟨q1, q2⟩ | q)
              · by_cases z : a ∈ fk
                · exact .inr (.inl ⟨z, q2⟩)
                · exact .inl ⟨q1, z⟩
              · exact .inr (.inr q)
          refine ⟨own ++ fq', ?_, fun a => ?_, fun d1 d2 => List.nodup_append.mpr ⟨n1, j3 (k3 d1 fun a ha => ?_) fun a ha => ?_, fun a ha b hb z => ?_⟩⟩
          · simp only [put]; rw [ec]
            exact .n (h1.mono fun a ha => hh a (List.mem_append_left _ ha) (noo a ha)) j1
          · rw [List.mem_append, List.mem_append, em]
            constructor
            · rintro (q | ⟨q1, q2⟩ | q)
              · exact .inl ⟨.inl q, noo a q⟩
              · exact .inl ⟨.inr q1, q2⟩
              · exact .inr q
            · rintro (⟨q | q, q2⟩ | q)
              · exact .inl q
              · exact .inr (.inl ⟨q, q2⟩)
              · exact .inr (.inr q)
          · rcases d2 a ha with q | q
            · exact .inl fun z => q (List.mem_append_right _ (e3 a z))
            · exact .inr q
          · rcases (k2 a).mp ha with q | q
            · exact .inr q.1
            · rcases d2 a q with z | z
              · exact .inl fun y => z (List.mem_append_right _ y)
              · exact .inr (g3 a z)
          · subst z
            rcases (em a).mp hb with q | q
            · exact n3 a ha a q.1 rfl
            · rcases d2 a q with z | z
              · exact z (List.mem_append_left _ ha)
              · exact noo a ha z
end
/-! ### the slots -/
def SlAt (K : Frg) (G W H : Hp) (fp : List Addr) (o : Option V) : Sl → Prop
  | .un => fp = []
  | .w t => fp = [] ∧ ∃ v fq, o = some v ∧ TAt K G W v t fq
  | .o p t => o = some (.ref p) ∧ TAt K G H (.ref p) t fp
def SlsAt (K : Frg) (G W H : Hp) : List (List Addr) → L2.St → List Sl → Prop
  | [], [], [] => True
  | fp :: fps, o :: σ, s :: Γ => SlAt K G W H fp o s ∧ SlsAt K G W H fps σ Γ
  | _, _, _ => False
section
variable {K : Frg} {G W H G' H' : Hp}
theorem SlAt.live {fp : List Addr} {o : Option V} {s : Sl} (h : SlAt K G W H fp o s) : ∀ a ∈ fp, ∃ o, H a = some o ∧ isPl o = true := by
  cases s with
  | un => intro a ha; rw [show fp = [] from h] at ha; cases ha
  | w t => intro a ha; rw [h.1] at ha; cases ha
  | o p t => exact tat_live _ _ _ h.2
theorem SlAt.mono {fp : List Addr} {o : Option V} {s : Sl} (h : SlAt K G W H fp o s) (g : Same G G') (e : ∀ a, a ∈ fp → H' a = H a) : SlAt K G' W H' fp o s := by
  cases s with
  | un => exact h
  | w t => obtain ⟨h1, v, fq, h2, h3⟩ := h; exact ⟨h1, v, fq, h2, tat_mono g _ _ _ h3 fun _ _ => rfl⟩
  | o p t => exact ⟨h.1, tat_mono g _ _ _ h.2 e⟩
theorem SlsAt.len : ∀ {fps : List (List Addr)} {σ : L2.St} {Γ : List Sl}, SlsAt K G W H fps σ Γ → fps.length = Γ.length ∧ σ.length = Γ.length
  | [], [], [], _ => ⟨rfl, rfl⟩
  | _ :: _, _ :: _, _ :: _, h => by
    obtain ⟨a, b⟩ := SlsAt.len h.2
    exact ⟨by rw [List.length_cons, List.length_cons, a], by rw [List.length_cons, List.length_cons, b]⟩
  | [], _ :: _, _, h => h.elim
  | [], [], _ :: _, h => h.elim
  | _ :: _, [], _, h => h.elim
  | _ :: _, _ :: _, [], h => h.elim
theorem SlsAt.mono (g : Same G G') : ∀ {fps : List (List Addr)} {σ : L2.St} {Γ : List Sl}, SlsAt K G W H fps σ Γ → (∀ a, a ∈ fps.flatten → H' a = H a) → SlsAt K G' W H' fps σ Γ
  | [], [], [], _, _ => True.intro
  | fp :: _, _ :: _, _ :: _, h, e => ⟨h.1.mono g fun a ha => e a (by rw [List.flatten_cons]; exact List.mem_append_left _ ha), SlsAt.mono g h.2 fun a ha => e a (by rw [List.flatten_cons]; exact List.mem_append_right _ ha)⟩
  | [], _ :: _, _, h, _ => h.elim
  | [], [], _ :: _, h, _ => h.elim
  | _ :: _, [], _, h, _ => h.elim
  | _ :: _, _ :: _, [], h, _ => h.elim
theorem SlsAt.live : ∀ {fps : List (List Addr)} {σ : L2.St} {Γ : List Sl}, SlsAt K G W H fps σ Γ → ∀ a, a ∈ fps.flatten → ∃ o, H a = some o ∧ isPl o = true
  | [], _, _, _, a, ha => by cases ha
  | fp :: fps, _ :: _, _ :: _, h, a, ha => by
    rw [List.flatten_cons] at ha
    rcases List.mem_append.mp ha with q | q
    · exact h.1.live a q
    · exact SlsAt.live h.2 a q
  | _ :: _, [], _, h, _, _ => h.elim
  | _ :: _, _ :: _, [], h, _, _ => h.elim
theorem SlsAt.get : ∀ {fps : List (List Addr)} {σ : L2.St} {Γ : List Sl} {i : Nat} {s : Sl}, SlsAt K G W H fps σ Γ → Γ[i]? = some s → ∃ fp o, fps[i]? = some fp ∧ σ[i]? = some o ∧ SlAt K G W H fp o s
  | [], [], [], _, _, _, e => by simp at e
  | fp :: _, o :: _, s' :: _, 0, s, h, e => by
    have e' : s' = s := Option.some.inj e
    subst e'
    exact ⟨fp, o, rfl, rfl, h.1⟩
  | _ :: _, _ :: _, _ :: _, i + 1, s, h, e => by
    obtain ⟨fp, o, h1, h2, h3⟩ := SlsAt.get (i := i) h.2 (by simpa using e)
    exact ⟨fp, o, by simpa using h1, by simpa using h2, h3⟩
  | [], _ :: _, _, _, _, h, _ => h.elim
  | [], [], _ :: _, _, _, h, _ => h.elim
  | _ :: _, [], _, _, _, h, _ => h.elim
  | _ :: _, _ :: _, [], _, _, h, _ => h.elim
theorem SlsAt.set {fp : List Addr} {o : Option V} {s : Sl} (hs : SlAt K G W H fp o s) : ∀ {fps : List (List Addr)} {σ : L2.St} {Γ : List Sl} (i : Nat), SlsAt K G W H fps σ Γ → SlsAt K G W H (fps.set i fp) (σ.set i o) (Γ.set i s)
  | [], [], [], _, _ => True.intro
  | _ :: _, _ :: _, _ :: _, 0, h => ⟨hs, h.2⟩
  | _ :: _, _ :: _, _ :: _, i + 1, h => ⟨h.1, SlsAt.set hs i h.2⟩
  | [], _ :: _, _, _, h => h.elim
  | [], [], _ :: _, _, h => h.elim
  | _ :: _, [], _, _, h => h.elim
  | _ :: _, _ :: _, [], _, h => h.elim
theorem SlsAt.mono_but {fp : List Addr} (g : Same G G') : ∀ {fps : List (List Addr)} {σ : L2.St} {Γ : List Sl} {i : Nat}, fps[i]? = some fp → SlsAt K G W H fps σ Γ → (∀ a, a ∈ (fps.set i []).flatten → H' a = H a) → SlsAt K G' W H' (fps.set i []) (σ.set i none) (Γ.set i .un)
  | [], _, _, _, e, _, _ => by simp at e
  | y :: l, o :: σ, s :: Γ, 0, e, h, k => by
    refine ⟨rfl, SlsAt.mono g h.2 fun a ha => k a ?_⟩
    rw [List.set_cons_zero, List.flatten_cons]
    exact List.mem_append_right _ ha
  | y :: l, o :: σ, s :: Γ, i + 1, e, h, k => by
    refine ⟨h.1.mono g fun a ha => k a ?_, SlsAt.mono_but g (by simpa using e) h.2 fun a ha => k a ?_⟩
    · rw [List.set_cons_succ, List.flatten_cons]
      exact List.mem_append_left _ ha
    · rw [List.set_cons_succ, List.flatten_cons]
      exact List.mem_append_right _ ha
  | _ :: _, [], _, _, _, h, _ => h.elim
  | _ :: _, _ :: _, [], _, _, h, _ => h.elim
theorem SlsAt.app : ∀ {f1 : List (List Addr)} {τ : L2.St} {S : List Sl} {f2 : List (List Addr)} {σ : L2.St} {Γ : List Sl}, SlsAt K G W H f1 τ S → SlsAt K G W H f2 σ Γ → SlsAt K G W H (f1 ++ f2) (τ ++ σ) (S ++ Γ)
  | [], [], [], _, _, _, _, h => h
  | _ :: _, _ :: _, _ :: _, _, _, _, h, k => ⟨h.1, SlsAt.app h.2 k⟩
  | [], _ :: _, _, _, _, _, h, _ => h.elim
  | [], [], _ :: _, _, _, _, h, _ => h.elim
  | _ :: _, [], _, _, _, _, h, _ => h.elim
  | _ :: _, _ :: _, [], _, _, _, h, _ => h.elim
theorem SlsAt.split : ∀ {τ : L2.St} {S : List Sl} {fps : List (List Addr)} {σ : L2.St} {Γ : List Sl}, τ.length = S.length → SlsAt K G W H fps (τ ++ σ) (S ++ Γ) → ∃ f1 f2, fps = f1 ++ f2 ∧ SlsAt K G W H f1 τ S ∧ SlsAt K G W H f2 σ Γ
  | [], [], fps, _, _, _, h => ⟨[], fps, rfl, True.intro, h⟩
  | o :: τ, s :: S, [], _, _, _, h => h.elim
  | o :: τ, s :: S, fp :: fps, _, _, l, h => by
    obtain ⟨f1, f2, rfl, h1, h2⟩ := SlsAt.split (τ := τ) (S := S) (by simpa using l) h.2
    exact ⟨fp :: f1, f2, rfl, ⟨h.1, h1⟩, h2⟩
  | [], _ :: _, _, _, _, l, _ => by simp at l
  | _ :: _, [], _, _, _, l, _ => by simp at l
end
/-- the entry of what runs: the frozen part, the heap, what it may change, what is read alone -/
structure Bs where
  G : Hp
  H : Hp
  O : List Addr
  W : Hp
structure Env (K : Frg) (B : Bs) (G H : Hp) (σ : L2.St) (Γ : List Sl) : Prop where
  gh : Same G H
  g0 : Same B.G G
  new : ∀ a, G a = B.G a ∨ Fre B.H a ∨ a ∈ B.O
  keep : ∀ a o, B.H a = some o → a ∉ B.O → (∀ ps, o ≠ .tbl ps) → H a = some o
  tab : LamX.Tabs Wl.Tb.T H
  nt : NoT G
  wh : Same B.W H
  wn : NoT B.W
  sl : ∃ fps : List (List Addr), SlsAt K G B.W H fps σ Γ ∧ fps.flatten.Nodup ∧ ∀ a, a ∈ fps.flatten → G a = none ∧ B.W a = none ∧ (Fre B.H a ∨ a ∈ B.O)
section
variable {K : Frg} {B : Bs} {G H G' H' : Hp} {σ : L2.St} {Γ : List Sl} {o : Option V} {s : Sl}
theorem Env.len (E : Env K B G H σ Γ) : σ.length = Γ.length := let ⟨_, h, _⟩ := E.sl; h.len.2
theorem Env.fre (E : Env K B G H σ Γ) {a : Addr} (h : Fre H a) : Fre B.H a ∨ a ∈ B.O := by
  by_cases q : a ∈ B.O
  · exact .inr q
  · refine .inl ?_
    cases e : B.H a with
    | none => exact .inl e
    | some o =>
      by_cases z : ∃ ps, o = .tbl ps
      · obtain ⟨ps, rfl⟩ := z
        exact .inr ⟨ps, e⟩
      · have n : ∀ ps, o ≠ .tbl ps := fun ps y => z ⟨ps, y⟩
        exact (h.no (E.keep a o e q n) n).elim
/-- to what is read -/
theorem Env.wenv (E : Env K B G H σ Γ) : WEnv K G H σ Γ := ⟨E.gh, E.tab, E.nt, E.len, fun i t h => by
  obtain ⟨fps, h1, _, _⟩ := E.sl
  unfold rdO at h
  cases e : Γ[i]? with
  | none => rw [e] at h; cases h
  | some s =>
    rw [e] at h
    obtain ⟨fp, o, _, e2, e3⟩ := h1.get e
    cases s with
    | un => cases h
    | w u =>
      obtain rfl := Option.some.inj (show some u = some t from h)
      obtain ⟨_, v, fq, rfl, k⟩ := e3
      refine ⟨v, fq, e2, tat_mono (Same.refl _) _ _ _ k fun a ha => ?_⟩
      obtain ⟨o, e, _⟩ := tat_live _ _ _ k a ha
      rw [e]; exact E.wh a o e
    | o p u =>
      obtain rfl := Option.some.inj (show some u = some t from h)
      obtain ⟨rfl, k⟩ := e3
      exact ⟨_, fp, e2, k⟩⟩
theorem stp_free {G H G' H' : Hp} (s : Stp G H G' H') {a : Addr} {o : HO} (g : G a = none) (h : H a = some o) (n : isPl o = true) : G' a = none := by
  rcases s.new a with e | e
  · rw [e]; exact g
  · exact (e.no h (pl_tbl n)).elim
theorem Env.step (E : Env K B G H σ Γ) (s : Stp G H G' H') : Env K B G' H' σ Γ := by
  obtain ⟨fps, h1, h2, h3⟩ := E.sl
  have lv := h1.live
  refine ⟨s.gh, E.g0.trans s.g, fun a => ?_, fun a o e n t => s.h.n a o (E.keep a o e n t) t, s.h.t E.tab, s.nt E.nt, fun a o e => s.h.n a o (E.wh a o e) fun ps z => E.wn a ps (z ▸ e), E.wn, fps, h1.mono s.g fun a ha => ?_, h2, fun a ha => ⟨let ⟨o, e, p⟩ := lv a ha; stp_free s (h3 a ha).1 e p, (h3 a ha).2⟩⟩
  · rcases s.new a with e | e
    · rcases E.new a with q | q
      · exact .inl (e.trans q)
      · exact .inr q
    · exact .inr (E.fre e)
  · obtain ⟨o, e, p⟩ := lv a ha
    rw [e]
    exact s.h.n a o e (pl_tbl p)

/-- slot i in view: what it owns, and how the state goes on when it alone is changed -/
theorem Env.focus (E : Env K B G H σ Γ) {i : Nat} {s : Sl} (hi : Γ[i]? = some s) : ∃ fp o, σ[i]? = some o ∧ SlAt K G B.W H fp o s ∧ fp.Nodup ∧ (∀ a, a ∈ fp → G a = none ∧ B.W a = none ∧ (Fre B.H a ∨ a ∈ B.O)) ∧
    ∀ {G' H' : Hp} {fp' : List Addr} {o' : Option V} {s' : Sl}, NoT G' → Same G G' → Same G' H' → (∀ a, a ∉ fp → H a ≠ none → H' a = H a ∧ G' a = G a) → (∀ a, G' a = G a ∨ Fre B.H a ∨ a ∈ B.O) →
      SlAt K G' B.W H' fp' o' s' → fp'.Nodup → (∀ a, a ∈ fp' → (a ∈ fp ∨ H a = none) ∧ G' a = none) → Env K B G' H' (σ.set i o') (Γ.set i s') := by
  obtain ⟨fps, h1, h2, h3⟩ := E.sl
  obtain ⟨fp, o, ef, eo, hs⟩ := h1.get hi
  have hm : ∀ a, a ∈ fp → a ∈ fps.flatten := fun a ha => List.mem_flatten.mpr ⟨fp, List.mem_of_getElem? ef, ha⟩
  have ndf : fp.Nodup := nodup_mem ef h2
  refine ⟨fp, o, eo, hs, ndf, fun a ha => h3 a (hm a ha), ?_⟩
  intro G' H' fp' o' s' ntg g gh chg nw hs' nd' sub
  have lvp := h1.live
  have lvs : ∀ a, a ∈ fps.flatten → H a ≠ none := fun a ha => by
    obtain ⟨o, e, _⟩ := lvp a ha
    rw [e]; simp
  have npl : ∀ a o, H a = some o → isPl o = false → a ∉ fp := fun a o e q z => by
    obtain ⟨o', e', p⟩ := lvp a (hm a z)
    rw [e] at e'
    cases e'
    rw [q] at p
    cases p
  have oth : ∀ a, a ∈ (fps.set i []).flatten → a ∈ fps.flatten ∧ a ∉ fp := fun a ha => by
    refine ⟨?_, flatten_rest ef h2 ha (by simp)⟩
    rcases flatten_set_mem ef ha with z | z
    · cases z
    · exact z
  have nbase : ∀ a, a ∈ fp → (Fre B.H a ∨ a ∈ B.O) := fun a ha => (h3 a (hm a ha)).2.2
  have wne : ∀ a o, B.W a = some o → H a ≠ none ∧ a ∉ fp := fun a o e => ⟨by rw [E.wh a o e]; simp, fun z => by
    have := (h3 a (hm a z)).2.1
    rw [e] at this; cases this⟩
  refine ⟨gh, E.g0.trans g, fun a => ?_, fun a u e n nt => ?_, fun P hP => ?_, ntg, fun a o e => ?_, E.wn, fps.set i fp', ?_, ?_, fun a ha => ?_⟩
  · rcases nw a with q | q
    · rcases E.new a with z | z
      · exact .inl (q.trans z)
      · exact .inr z
    · exact .inr q
  · have hH := E.keep a u e n nt
    have na : a ∉ fp := fun z => by
      rcases nbase a z with q | q
      · exact q.no e nt
      · exact n q
    rw [(chg a na (by rw [hH]; simp)).1]
    exact hH
  · obtain ⟨ps, t1, t2, t3⟩ := E.tab P hP
    refine ⟨ps, ?_, t2, fun pos cv hc => ?_⟩
    · rw [(chg P.1 (npl P.1 _ t1 rfl) (by rw [t1]; simp)).1]
      exact t1
    · obtain ⟨c, e1, e2⟩ := t3 pos cv hc
      refine ⟨c, e1, ?_⟩
      rw [(chg c (npl c _ e2 rfl) (by rw [e2]; simp)).1]
      exact e2
  · rw [(chg a (wne a o e).2 (wne a o e).1).1]; exact E.wh a o e
  · have k := SlsAt.mono_but g ef h1 (H' := H') fun a ha => (chg a (oth a ha).2 (lvs a (oth a ha).1)).1
    have k2 := SlsAt.set hs' i k
    rw [List.set_set, List.set_set, List.set_set] at k2
    exact k2
  · refine flatten_oth ef h2 nd' fun a ha => ?_
    rcases (sub a ha).1 with q | q
    · exact .inl q
    · exact .inr fun z => lvs a z q
  · by_cases hp : a ∈ fp'
    · refine ⟨(sub a hp).2, ?_⟩
      rcases (sub a hp).1 with q | q
      · exact ⟨(h3 a (hm a q)).2.1, nbase a q⟩
      · refine ⟨?_, E.fre (.inl q)⟩
        cases e : B.W a with
        | none => rfl
        | some o => exact absurd q (wne a o e).1
    · have q : a ∈ fps.flatten := by
        rcases flatten_set_mem ef ha with z | z
        · exact absurd z hp
        · exact z
      have na := flatten_rest ef h2 ha hp
      refine ⟨?_, (h3 a q).2⟩
      rw [(chg a na (lvs a q)).2]
      exact (h3 a q).1
/-- a slot gets data, or what is only read -/
theorem Env.set_w (E : Env K B G H σ Γ) {v : V} {t : T} {fq : List Addr} (h : TAt K G B.W v t fq) (i : Nat) : Env K B G H (σ.set i (some v)) (Γ.set i (.w t)) := by
  cases e : Γ[i]? with
  | none =>
    have l := List.getElem?_eq_none_iff.mp e
    rw [set_out l, set_out (by rw [E.len]; exact l)]
    exact E
  | some s =>
    obtain ⟨fp, o, eo, hs, nd, hf, k⟩ := E.focus e
    exact k E.nt (Same.refl _) E.gh (fun _ _ _ => ⟨rfl, rfl⟩) (fun _ => .inl rfl) (show SlAt K G B.W H [] (some v) (.w t) from ⟨rfl, v, fq, rfl, h⟩) List.nodup_nil (fun a ha => by cases ha)
theorem Env.set_d (E : Env K B G H σ Γ) {v : V} {x : D} (h : Dt K G v x) (i : Nat) : Env K B G H (σ.set i (some v)) (Γ.set i (.w (.d x))) := E.set_w (.d h) i
theorem Env.set_un (E : Env K B G H σ Γ) (o : Option V) (i : Nat) : Env K B G H (σ.set i o) (Γ.set i .un) := by
  cases e : Γ[i]? with
  | none =>
    have l := List.getElem?_eq_none_iff.mp e
    rw [set_out l, set_out (by rw [E.len]; exact l)]
    exact E
  | some s =>
    obtain ⟨fp, o', eo, hs, nd, hf, k⟩ := E.focus e
    exact k E.nt (Same.refl _) E.gh (fun _ _ _ => ⟨rfl, rfl⟩) (fun _ => .inl rfl) (show SlAt K G B.W H [] o .un from rfl) List.nodup_nil (fun a ha => by cases ha)
/-- a slot is forgotten, its value stays -/
theorem Env.forget (E : Env K B G H σ Γ) (i : Nat) : Env K B G H σ (Γ.set i .un) := by
  cases e : σ[i]? with
  | none =>
    have l := List.getElem?_eq_none_iff.mp e
    rw [set_out (by rw [← E.len]; exact l)]
    exact E
  | some o =>
    have h := E.set_un o i
    rw [set_self e] at h
    exact h
/-- things ahead of the slots -/
theorem Env.push_w (E : Env K B G H σ Γ) {v : V} {t : T} {fq : List Addr} (h : TAt K G B.W v t fq) : Env K B G H (some v :: σ) (.w t :: Γ) := by
  obtain ⟨fps, h1, h2, h3⟩ := E.sl
  exact ⟨E.gh, E.g0, E.new, E.keep, E.tab, E.nt, E.wh, E.wn, [] :: fps, ⟨⟨rfl, v, fq, rfl, h⟩, h1⟩, by rw [List.flatten_cons]; exact h2, fun a ha => h3 a (by rw [List.flatten_cons] at ha; exact ha)⟩
theorem Env.push_d (E : Env K B G H σ Γ) {v : V} {x : D} (h : Dt K G v x) : Env K B G H (some v :: σ) (.w (.d x) :: Γ) := E.push_w (.d h)
theorem Env.push_un (E : Env K B G H σ Γ) (o : Option V) : Env K B G H (o :: σ) (.un :: Γ) := by
  obtain ⟨fps, h1, h2, h3⟩ := E.sl
  exact ⟨E.gh, E.g0, E.new, E.keep, E.tab, E.nt, E.wh, E.wn, [] :: fps, ⟨rfl, h1⟩, by rw [List.flatten_cons]; exact h2, fun a ha => h3 a (by rw [List.flatten_cons] at ha; exact ha)⟩
theorem Env.pop (E : Env K B G H (o :: σ) (s :: Γ)) : Env K B G H σ Γ := by
  obtain ⟨fps, h1, h2, h3⟩ := E.sl
  cases fps with
  | nil => exact h1.elim
  | cons fp fps =>
    rw [List.flatten_cons] at h2 h3
    exact ⟨E.gh, E.g0, E.new, E.keep, E.tab, E.nt, E.wh, E.wn, fps, h1.2, (List.nodup_append.mp h2).2.1, fun a ha => h3 a (List.mem_append_right _ ha)⟩
/-- a new tree ahead of the slots -/
theorem Env.push_o (E : Env K B G H σ Γ) {p : Addr} {t : T} {fp : List Addr} {G' H' : Hp} (h : TAt K G' H' (.ref p) t fp) (nd : fp.Nodup) (nw : ∀ a, a ∈ fp → Fre H a) (ng : ∀ a, a ∈ fp → G' a = none) (st : Stp G H G' H') : Env K B G' H' (some (.ref p) :: σ) (.o p t :: Γ) := by
  have E' := E.step st
  obtain ⟨fps0, k1, k2, k3⟩ := E.sl
  have wno : ∀ a, a ∈ fp → B.W a = none := fun a ha => by
    cases e : B.W a with
    | none => rfl
    | some o => exact ((nw a ha).no (E.wh a o e) fun ps z => E.wn a ps (z ▸ e)).elim
  have lv : ∀ a, a ∈ fps0.flatten → H' a = H a := fun a ha => by
    obtain ⟨o, e, p⟩ := k1.live a ha
    rw [e]; exact st.h.n a o e (pl_tbl p)
  refine ⟨E'.gh, E'.g0, E'.new, E'.keep, E'.tab, E'.nt, E'.wh, E'.wn, fp :: fps0, ⟨⟨rfl, h⟩, k1.mono st.g lv⟩, ?_, fun a ha => ?_⟩
  · rw [List.flatten_cons]
    refine List.nodup_append.mpr ⟨nd, k2, fun a ha b hb z => ?_⟩
    subst z
    obtain ⟨o, e, p⟩ := k1.live a hb
    exact (nw a ha).no e (pl_tbl p)
  · rw [List.flatten_cons] at ha
    rcases List.mem_append.mp ha with q | q
    · exact ⟨ng a q, wno a q, E.fre (nw a q)⟩
    · obtain ⟨z1, z2, z3⟩ := k3 a q
      refine ⟨?_, z2, z3⟩
      obtain ⟨o, e, p⟩ := k1.live a q
      exact stp_free st z1 e p
/-- what stands ahead goes into a slot -/
theorem Env.take (E : Env K B G H (o :: σ) (s :: Γ)) (i : Nat) : Env K B G H (σ.set i o) (Γ.set i s) := by
  by_cases hi : i < Γ.length
  · obtain ⟨fps, h1, h2, h3⟩ := E.sl
    cases fps with
    | nil => exact h1.elim
    | cons fp fps =>
      rw [List.flatten_cons] at h2 h3
      obtain ⟨n1, n2, n3⟩ := List.nodup_append.mp h2
      obtain ⟨fpi, oi, ef, _, _⟩ := h1.2.get (List.getElem?_eq_getElem hi)
      refine ⟨E.gh, E.g0, E.new, E.keep, E.tab, E.nt, E.wh, E.wn, fps.set i fp, SlsAt.set h1.1 i h1.2, flatten_oth ef n2 n1 fun a ha => .inr fun z => n3 a ha a z rfl, fun a ha => ?_⟩
      rcases flatten_set_mem ef ha with q | q
      · exact h3 a (List.mem_append_left _ q)
      · exact h3 a (List.mem_append_right _ q)
  · have l : Γ.length ≤ i := by omega
    rw [set_out l, set_out (by rw [E.pop.len]; exact l)]
    exact E.pop
/-- a tree of one's own, changed in place -/
theorem Env.chg (E : Env K B G H σ Γ) {j : Nat} {p : Addr} {t t1 : T} {π : List Nat} (hj : Γ[j]? = some (.o p t)) (hg : get π t = some t1) : ∃ v1 f1, σ[j]? = some (some (.ref p)) ∧ wlk H π (.ref p) = some v1 ∧ TAt K G H v1 t1 f1 ∧ f1.Nodup ∧ (∀ a, a ∈ f1 → G a = none ∧ B.W a = none) ∧
    ∀ {G' H' : Hp} {t1' : T} {f1' : List Addr}, NoT G' → Same G G' → Same G' H' → (∀ a, a ∉ f1 → H a ≠ none → H' a = H a ∧ G' a = G a) → (∀ a, G' a = G a ∨ Fre B.H a ∨ a ∈ B.O) → TAt K G' H' v1 t1' f1' → f1'.Nodup → (∀ a, a ∈ f1' → (a ∈ f1 ∨ H a = none) ∧ G' a = none) → Env K B G' H' σ (Γ.set j (.o p (put π t t1'))) := by
  obtain ⟨fp, o, e1, e2', e3, e4, k⟩ := E.focus hj
  obtain ⟨rfl, e2⟩ := (show o = some (.ref p) ∧ TAt K G H (.ref p) t fp from e2')
  obtain ⟨v1, f1, g1, g2, g3, g4, g5⟩ := tat_foc π e2 hg
  refine ⟨v1, f1, e1, g1, g2, g4 e3, fun a ha => ⟨(e4 a (g3 a ha)).1, (e4 a (g3 a ha)).2.1⟩, ?_⟩
  intro G' H' t1' f1' ntg g gh ch nw h' nd sub
  have lv := tat_live _ _ _ e2
  have lvn : ∀ a, a ∈ fp → H a ≠ none := fun a ha => by obtain ⟨o, e, _⟩ := lv a ha; rw [e]; simp
  obtain ⟨fp', q1, q2, q3⟩ := g5 g (fun a ha hn => (ch a hn (lvn a ha)).1) e3 h'
  have r := k (G' := G') (H' := H') (fp' := fp') (o' := some (.ref p)) (s' := .o p (put π t t1')) ntg g gh (fun a hn hh => ch a (fun z => hn (g3 a z)) hh) nw ⟨rfl, q1⟩ (q3 nd fun a ha => ?_) fun a ha => ?_
  · rw [set_self e1] at r
    exact r
  · rcases (sub a ha).1 with q | q
    · exact .inr q
    · exact .inl fun z => lvn a z q
  · rcases (q2 a).mp ha with q | q
    · exact ⟨.inl q.1, by rw [(ch a q.2 (lvn a q.1)).2]; exact (e4 a q.1).1⟩
    · refine ⟨?_, (sub a q).2⟩
      rcases (sub a q).1 with z | z
      · exact .inl (g3 a z)
      · exact .inr z
/-- the entry anew: all that is owned by the slots may be changed, nothing else -/
theorem Env.frame {τ : L2.St} {S : List Sl} (l : τ.length = S.length) (E : Env K B G H (τ ++ σ) (S ++ Γ)) : ∃ O : List Addr, Env K ⟨G, H, O, B.W⟩ G H σ Γ ∧
    ∀ {G' H' : Hp} {σ' : L2.St} {Γ' : List Sl}, Env K ⟨G, H, O, B.W⟩ G' H' σ' Γ' → Env K B G' H' (τ ++ σ') (S ++ Γ') ∧ Same G G' := by
  obtain ⟨fps, h1, h2, h3⟩ := E.sl
  obtain ⟨f1, f2, rfl, k1, k2⟩ := h1.split l
  rw [List.flatten_append] at h2 h3
  obtain ⟨n1, n2, n3⟩ := List.nodup_append.mp h2
  refine ⟨f2.flatten, ⟨E.gh, Same.refl _, fun _ => .inl rfl, fun a o e _ _ => e, E.tab, E.nt, E.wh, E.wn, f2, k2, n2, fun a ha => ⟨(h3 a (List.mem_append_right _ ha)).1, (h3 a (List.mem_append_right _ ha)).2.1, .inr ha⟩⟩, ?_⟩
  intro G' H' σ' Γ' E'
  have lv := k1.live
  have st : ∀ a, a ∈ f1.flatten → H' a = H a ∧ G' a = G a := fun a ha => by
    obtain ⟨o, e, p⟩ := lv a ha
    have na : a ∉ f2.flatten := fun z => n3 a ha a z rfl
    refine ⟨by rw [e]; exact E'.keep a o e na (pl_tbl p), ?_⟩
    rcases E'.new a with q | q | q
    · exact q
    · exact (q.no e (pl_tbl p)).elim
    · exact absurd q na
  obtain ⟨fps', j1, j2, j3⟩ := E'.sl
  have nb : ∀ a, a ∈ fps'.flatten → Fre H a ∨ a ∈ f2.flatten := fun a ha => (j3 a ha).2.2
  refine ⟨⟨E'.gh, E.g0.trans E'.g0, fun a => ?_, fun a o e n nt => ?_, E'.tab, E'.nt, E'.wh, E.wn, f1 ++ fps', SlsAt.app (k1.mono E'.g0 fun a ha => (st a ha).1) j1, ?_, fun a ha => ?_⟩, E'.g0⟩
  · rcases E'.new a with q | q | q
    · rcases E.new a with z | z
      · exact .inl (q.trans z)
      · exact .inr z
    · exact .inr (E.fre q)
    · exact .inr (h3 a (List.mem_append_right _ q)).2.2
  · have hH := E.keep a o e n nt
    refine E'.keep a o hH (fun z => ?_) nt
    rcases (h3 a (List.mem_append_right _ z)).2.2 with q | q
    · exact q.no e nt
    · exact n q
  · rw [List.flatten_append]
    refine List.nodup_append.mpr ⟨n1, j2, fun a ha b hb z => ?_⟩
    subst z
    rcases nb a hb with q | q
    · obtain ⟨o, e, p⟩ := lv a ha
      exact q.no e (pl_tbl p)
    · exact n3 a ha a q rfl
  · rw [List.flatten_append] at ha
    rcases List.mem_append.mp ha with q | q
    · obtain ⟨z1, z2, z3⟩ := h3 a (List.mem_append_left _ q)
      exact ⟨by rw [(st a q).2]; exact z1, z2, z3⟩
    · obtain ⟨z1, z2, z3⟩ := j3 a q
      refine ⟨z1, z2, ?_⟩
      rcases z3 with z | z
      · exact E.fre z
      · exact (h3 a (List.mem_append_right _ z)).2.2
end
end Yl

end

section
/-! Y8: trees lent and given back; calls that may change them. -/
namespace Yl
open PySem PySem.Spec PyProof.Rows L2
open Wl (wE wT wA wS wSs pe_w pt_w pa_w ps_w pss_w w_pe w_pt w_pa w_ps w_pss Dt DtAll Stp Keeps NoT Wk WkAll dt_mono dtAll_mono dt_dp dtAll_dp sqT_mono dp_lay Fre same_upd same_upd2 flatten_set_mem nodup_mem flatten_oth flatten_rest set_out set_self)
variable [Wl.Tb] [Tc]
def isNode : T → Bool
  | .n _ _ => true
  | _ => false
theorem node_ref {K : Frg} {G H : Hp} {v : V} {t : T} {fp : List Addr} (h : TAt K G H v t fp) (q : isNode t = true) : ∃ p, v = .ref p := by
  cases h with
  | d h => simp [isNode] at q
  | h => simp [isNode] at q
  | n h1 h2 => exact ⟨_, rfl⟩
section
variable {K : Frg} {B : Bs} {G H G' H' : Hp} {σ : L2.St} {Γ : List Sl} {o : Option V} {s : Sl}
/-- a place of a tree comes ahead of the slots; a hole is left -/
theorem Env.ext (E : Env K B G H σ Γ) {j : Nat} {p : Addr} {t t1 : T} {π : List Nat} (hj : Γ[j]? = some (.o p t)) (hg : get π t = some t1) (hn : isNode t1 = true) : ∃ p1, σ[j]? = some (some (.ref p)) ∧ wlk H π (.ref p) = some (.ref p1) ∧ Env K B G H (some (.ref p1) :: σ) (.o p1 t1 :: Γ.set j (.o p (put π t (.h p1)))) := by
  obtain ⟨fps, h1, h2, h3⟩ := id E.sl
  obtain ⟨fp, o, ef, eo, hs0⟩ := h1.get hj
  obtain ⟨rfl, hs⟩ := (show o = some (.ref p) ∧ TAt K G H (.ref p) t fp from hs0)
  have hm : ∀ a, a ∈ fp → a ∈ fps.flatten := fun a ha => List.mem_flatten.mpr ⟨fp, List.mem_of_getElem? ef, ha⟩
  have ndf : fp.Nodup := nodup_mem ef h2
  obtain ⟨v1, f1, g1, g2, g3, g4, g5⟩ := tat_foc π hs hg
  obtain ⟨p1, rfl⟩ := node_ref g2 hn
  obtain ⟨fp', k1, k2, k3⟩ := g5 (Same.refl G) (H' := H) (fun _ _ _ => rfl) ndf (TAt.h (p := p1))
  have ndp : fp'.Nodup := k3 List.nodup_nil fun a ha => by cases ha
  have sub : ∀ a, a ∈ fp' → a ∈ fp ∧ a ∉ f1 := fun a ha => ((k2 a).mp ha).elim id fun z => by cases z
  refine ⟨p1, eo, g1, E.gh, E.g0, E.new, E.keep, E.tab, E.nt, E.wh, E.wn, f1 :: fps.set j fp', ⟨⟨rfl, g2⟩, ?_⟩, ?_, fun a ha => ?_⟩
  · have k := SlsAt.set (show SlAt K G B.W H fp' (some (.ref p)) (.o p (put π t (.h p1))) from ⟨rfl, k1⟩) j h1
    rw [set_self eo] at k
    exact k
  · rw [List.flatten_cons]
    refine List.nodup_append.mpr ⟨g4 ndf, flatten_oth ef h2 ndp fun a ha => .inl (sub a ha).1, fun a ha b hb z => ?_⟩
    subst z
    by_cases hp : a ∈ fp'
    · exact (sub a hp).2 ha
    · exact flatten_rest ef h2 hb hp (g3 a ha)
  · rw [List.flatten_cons] at ha
    rcases List.mem_append.mp ha with q | q
    · exact h3 a (hm a (g3 a q))
    · rcases flatten_set_mem ef q with z | z
      · exact h3 a (hm a (sub a z).1)
      · exact h3 a z
/-- .. and goes back into its hole -/
theorem Env.ins {p1 : Addr} {t1 : T} (E : Env K B G H (o :: σ) (.o p1 t1 :: Γ)) {j : Nat} {p : Addr} {t : T} {π : List Nat} (hj : Γ[j]? = some (.o p t)) (hg : get π t = some (.h p1)) : Env K B G H σ (Γ.set j (.o p (put π t t1))) := by
  obtain ⟨fps, h1, h2, h3⟩ := id E.sl
  cases fps with
  | nil => exact h1.elim
  | cons f1 fps =>
    obtain ⟨⟨rfl, ht⟩, h1⟩ := h1
    rw [List.flatten_cons] at h2 h3
    obtain ⟨n1, n2, n3⟩ := List.nodup_append.mp h2
    obtain ⟨fp, o, ef, eo, hs0⟩ := h1.get hj
    obtain ⟨rfl, hs⟩ := (show o = some (.ref p) ∧ TAt K G H (.ref p) t fp from hs0)
    have hm : ∀ a, a ∈ fp → a ∈ fps.flatten := fun a ha => List.mem_flatten.mpr ⟨fp, List.mem_of_getElem? ef, ha⟩
    obtain ⟨v1, f0, g1, g2, g3, g4, g5⟩ := tat_foc π hs hg
    cases g2
    obtain ⟨fp', k1, k2, k3⟩ := g5 (Same.refl G) (H' := H) (fun _ _ _ => rfl) (nodup_mem ef n2) ht
    have nf : ∀ a, a ∈ f1 → a ∉ fps.flatten := fun a ha z => n3 a ha a z rfl
    have ndp : fp'.Nodup := k3 n1 fun a ha => .inl fun z => nf a ha (hm a z)
    have em : ∀ a, a ∈ fp' → a ∈ fp ∨ a ∈ f1 := fun a ha => ((k2 a).mp ha).elim (fun z => .inl z.1) .inr
    refine ⟨E.gh, E.g0, E.new, E.keep, E.tab, E.nt, E.wh, E.wn, fps.set j fp', ?_, ?_, fun a ha => ?_⟩
    · have k := SlsAt.set (show SlAt K G B.W H fp' (some (.ref p)) (.o p (put π t t1)) from ⟨rfl, k1⟩) j h1
      rw [set_self eo] at k
      exact k
    · refine flatten_oth ef n2 ndp fun a ha => ?_
      rcases em a ha with q | q
      · exact .inl q
      · exact .inr (nf a q)
    · rcases flatten_set_mem ef ha with q | q
      · rcases em a q with z | z
        · exact h3 a (List.mem_append_right _ (hm a z))
        · exact h3 a (List.mem_append_left _ z)
      · exact h3 a (List.mem_append_right _ q)
/-- a tree of plain data is frozen: the lists of plain data -/
theorem Env.freeze (E : Env K B G H σ Γ) {i : Nat} {p : Addr} {cs : List T} (h : Γ[i]? = some (.o p (.n .l cs))) (hs : allSd cs = true) : ∃ G', Same G G' ∧ Env K B G' H σ (Γ.set i (.w (.d (.list (T.dats cs))))) := by
  obtain ⟨fp, o, h1, h20, nd, h4, k⟩ := E.focus h
  obtain ⟨rfl, h2⟩ := (show o = some (.ref p) ∧ TAt K G H (.ref p) (.n .l cs) fp from h20)
  cases h2 with
  | n n1 n2 =>
    rename_i vs own fq
    obtain ⟨n1, rfl⟩ := n1
    obtain ⟨gp, wp, hb⟩ := h4 p (by simp)
    have dd := n2.sd hs
    refine ⟨upd G p (.lst vs), same_upd gp, ?_⟩
    have r := k (G' := upd G p (.lst vs)) (H' := H) (fp' := []) (o' := some (.ref p)) (s' := .w (.d (.list (T.dats cs)))) (E.nt.upd fun ps z => by cases z) (same_upd gp) (fun a u e => ?_) (fun a n _ => ⟨rfl, upd_ne fun z => n (by simp [z])⟩) (fun a => ?_) ⟨rfl, _, [], rfl, .d (.lst (.of upd_same) (dtAll_mono (same_upd gp) _ _ dd))⟩ List.nodup_nil fun a ha => by cases ha
    · rw [set_self h1] at r
      exact r
    · by_cases q : a = p
      · subst q; rw [upd_same] at e; rw [n1]; exact e
      · rw [upd_ne q] at e; exact E.gh _ _ e
    · by_cases q : a = p
      · rw [q]; exact .inr hb
      · exact .inl (upd_ne q)
end
/-! ### effects -/
/-- the context takes what may be raised -/
def XE (X : Cx) (B : Bs) (ex : Str → List Sl → Prop) : Prop := ∃ W : WX, L2N.Takes X W ∧ ∀ (c : Str) (σ : L2.St) (G H : Hp) (Γ : List Sl), Env X.K B G H σ Γ → ex c Γ → W (.ref (Wl.clsAt X.mg c)) none σ H
theorem XE.imp {X : Cx} {B : Bs} {ex ex' : Str → List Sl → Prop} (h : XE X B ex) (i : ∀ c Γ, ex' c Γ → ex c Γ) : XE X B ex' := by
  obtain ⟨W, tk, q⟩ := h
  exact ⟨W, tk, fun c σ G H Γ E x => q c σ G H Γ E (i c Γ x)⟩
theorem XE.none {X : Cx} {B : Bs} : XE X B (fun _ _ => False) := ⟨fun _ _ _ _ => False, Wl.takesN0, fun _ _ _ _ _ _ z => z⟩
/-- what may be told: plain data, a tree of one's own -/
def Rs (s : Sl) : Prop := (∃ x, s = .w (.d x)) ∨ ∃ p t, s = .o p t ∧ ∀ x, t ≠ .d x
theorem Rs.d (x : D) : Rs (.w (.d x)) := .inl ⟨x, rfl⟩
/-- e yields a thing ahead of the slots, which may be changed, or raises -/
structure EvM (X : Cx) (e : Expr) (Γ : List Sl) (P : Sl → List Sl → Prop) (ex : Str → List Sl → Prop) : Prop where
  run : ∀ (B : Bs) (G H : Hp) (σ : L2.St), Env X.K B G H σ Γ → XE X B ex → ∀ Q : VK, (∀ v s G' H' Γ', Env X.K B G' H' (some v :: σ) (s :: Γ') → Rs s → P s Γ' → Q v H') → wE X e σ H Q
section
variable {X : Cx} {Γ : List Sl} {e a : Expr} {es : List Expr} {t : T} {P P' : Sl → List Sl → Prop} {ex ex' : Str → List Sl → Prop} {pos : Pos}
theorem EvM.mono (h : EvM X e Γ P ex) (i : ∀ s Γ', P s Γ' → P' s Γ') (j : ∀ c Γ', ex c Γ' → ex' c Γ') : EvM X e Γ P' ex' := ⟨fun B G H σ E x Q q => h.run B G H σ E (x.imp j) Q fun v s G' H' Γ' E' r p => q v s G' H' Γ' E' r (i s Γ' p)⟩
theorem em_p (h : EvT X e Γ t) (q : t.sd = true) (hp : P (.w t) Γ) : EvM X e Γ P ex := ⟨fun B G H σ E x Q k => h.run G H σ E.wenv Q fun v G' H' fp st d => by
  have E' := E.step st
  rw [sd_eq q] at d hp
  refine k v _ G' H' Γ (E'.push_d ?_) (.d _) hp
  cases d with | d d => exact d⟩
/-- .. with things ahead of the slots -/
theorem EvM.under (h : EvM X e Γ P ex) {B : Bs} {G H : Hp} {σ τ : L2.St} {S : List Sl} (l : τ.length = S.length) (E : Env X.K B G H (τ ++ σ) (S ++ Γ)) (x : XE X B ex) {Q : VK} (k : ∀ v s G' H' Γ', Env X.K B G' H' (some v :: (τ ++ σ)) (s :: (S ++ Γ')) → Same G G' → Rs s → P s Γ' → Q v H') : wE X e σ H Q := by
  obtain ⟨O, E1, back⟩ := E.frame l
  obtain ⟨W, tk, hW⟩ := x
  have drop : ∀ {τ : L2.St} {S : List Sl} {B : Bs} {G H : Hp} {σ : L2.St} {Γ : List Sl}, τ.length = S.length → Env X.K B G H (τ ++ σ) (S ++ Γ) → Env X.K B G H σ Γ := by
    intro τ
    induction τ with
    | nil => intro S B G H σ Γ l E; cases S with | nil => exact E | cons _ _ => simp at l
    | cons o τ ih => intro S B G H σ Γ l E; cases S with | nil => simp at l | cons s S => exact ih (by simpa using l) E.pop
  refine h.run _ G H σ E1 ⟨W, tk, fun c σ' G' H' Γ' E' z => hW c σ' G' H' Γ' (drop l (back E').1) z⟩ Q fun v s G' H' Γ' E' r p => ?_
  obtain ⟨E2, g⟩ := back E'
  refine k v s G' H' Γ' ?_ g r p
  -- the value comes ahead of the things
  obtain ⟨fps, h1, h2, h3⟩ := E2.sl
  obtain ⟨f1, f2, rfl, k1, k2⟩ := h1.split l
  cases f2 with
  | nil => exact k2.elim
  | cons f f2 =>
    obtain ⟨k2, k3⟩ := k2
    refine ⟨E2.gh, E2.g0, E2.new, E2.keep, E2.tab, E2.nt, E2.wh, E2.wn, f :: (f1 ++ f2), ⟨k2, SlsAt.app k1 k3⟩, ?_, fun a ha => h3 a ?_⟩
    · rw [List.flatten_append, List.flatten_cons] at h2
      rw [List.flatten_cons, List.flatten_append]
      have e : (f1.flatten ++ (f ++ f2.flatten)).Perm (f ++ (f1.flatten ++ f2.flatten)) := by
        rw [← List.append_assoc, ← List.append_assoc]
        exact (List.perm_append_comm).append_right _
      exact e.nodup_iff.mp h2
    · rw [List.flatten_cons, List.flatten_append] at ha
      rw [List.flatten_append, List.flatten_cons]
      simp only [List.mem_append] at ha ⊢
      rcases ha with q | q | q
      · exact .inr (.inl q)
      · exact .inl q
      · exact .inr (.inr q)
end
end Yl

end

section
/-! Y9: statements of ours, what they ask: no program in sight. -/
namespace Yl
open PySem L2
/-- how a def ends -/
inductive Oc where
  | ret (t : T)
  | exc (n : Str)
/-- a def's promise: from its slots, what is wanted of its end and its slots then -/
abbrev Spc := List Sl → (Oc → List Sl → Prop) → Prop
inductive Ar where
  | x (e : Ex)
  | l (e : Ex)
inductive Ag where
  | x (x : D)
  | l (j : Nat) (π : List Nat)
def fldIx : List Str → Str → Option Nat
  | [], _ => none
  | k :: ks, f => if k = f then some 0 else (fldIx ks f).map (· + 1)
def keyIx : List D → D → Option Nat
  | [], _ => none
  | k :: ks, x => if PyData.eqv k x = true then some 0 else (keyIx ks x).map (· + 1)
/-- the place that a text tells -/
def loc : Ex → List Sl → Option (Nat × List Nat)
  | .v i, _ => some (i, [])
  | .fld a _ f, Γ => match loc a Γ, val a Γ with
    | some (j, π), .n (.i _ fs) _ => (fldIx fs f).map fun k => (j, π ++ [k])
    | _, _ => none
  | .ix a b, Γ => match loc a Γ, val a Γ with
    | some (j, π), .n .l cs => (ixN cs.length (val b Γ).i).map fun k => (j, π ++ [k])
    | some (j, π), .n (.k ks) _ => (keyIx ks (val b Γ).dat).map fun k => (j, π ++ [k])
    | _, _ => none
  | _, _ => none
def ag (a : Ar) (Γ : List Sl) : Ag := match a with
  | .x e => .x (val e Γ).dat
  | .l e => match loc e Γ with
    | some (j, π) => .l j π
    | none => .l Γ.length []
def arOk (a : Ar) (Γ : List Sl) : Prop := match a with
  | .x e => ok e Γ ∧ (val e Γ).sd = true
  | .l e => ok e Γ ∧ (loc e Γ).isSome = true
def arsOk (as : List Ar) (Γ : List Sl) : Prop := match as with
  | [] => True
  | a :: as => arOk a Γ ∧ arsOk as Γ
def lendA : List Ag → List Sl → (List Sl → List Sl → Prop) → Prop
  | [], Γ, P => P [] Γ
  | .x d :: as, Γ, P => lendA as Γ fun A Γ' => P (.w (.d d) :: A) Γ'
  | .l j π :: as, Γ, P => match Γ[j]? with
    | some (.o p t) => match get π t with
      | some t1 => isNode t1 = true ∧ ∀ p1, lendA as (Γ.set j (.o p (put π t (.h p1)))) fun A Γ' => P (.o p1 t1 :: A) Γ'
      | none => False
    | _ => False
def giveA : List Ag → List Sl → List Sl → (List Sl → Prop) → Prop
  | [], [], Γ, P => P Γ
  | .x _ :: as, _ :: A, Γ, P => giveA as A Γ P
  | .l j π :: as, .o p1 t1 :: A, Γ, P => match Γ[j]? with
    | some (.o p t) => get π t = some (.h p1) ∧ giveA as A (Γ.set j (.o p (put π t t1))) P
    | _ => False
  | _, _, _, _ => False
def resW (t : T) (P : Sl → Prop) : Prop := match t with
  | .d x => P (.w (.d x))
  | t => ∀ p, P (.o p t)
/-- a thing told as data: it is frozen -/
def datW (s : Sl) (P : D → Prop) : Prop := match s with
  | .w (.d x) => P x
  | .o _ (.n .l cs) => allSd cs = true ∧ P (.list (T.dats cs))
  | _ => False
def callW (F : Spc) (as : List Ar) (Γ : List Sl) (P : Sl → List Sl → Prop) (ex : Str → List Sl → Prop) : Prop :=
  arsOk as Γ ∧ lendA (as.map (ag · Γ)) Γ fun A Γh => F A fun o A' => giveA (as.map (ag · Γ)) A' Γh fun Γ' => match o with
    | .ret t => resW t fun s => P s Γ'
    | .exc n => ex n Γ'
def makeW (F : Spc) (c : Str) (as : List Ar) (Γ : List Sl) (P : Sl → List Sl → Prop) (ex : Str → List Sl → Prop) : Prop :=
  arsOk as Γ ∧ lendA (as.map (ag · Γ)) Γ fun A Γh => ∀ p, F (.o p (.n (.i c []) []) :: A) fun o A' => match A' with
    | .o _ t :: A'' => giveA (as.map (ag · Γ)) A'' Γh fun Γ' => match o with
      | .ret r => r = .d .none ∧ isNode t = true ∧ P (.o p t) Γ'
      | .exc n => ex n Γ'
    | _ => False
/-! things made anew -/
mutual
inductive Fx where
  | x (e : Ex)
  | l (ts : Fxs)
  | k (ks : List D) (ts : Fxs)
  | rng (e : Ex)
  | lof (e : Ex)
  | add (a b : Ex)
  | lc (tg : Tg) (s : Sr) (p e : Ex)
  | ite (c : Ex) (a b : Fx)
inductive Fxs where
  | nil
  | cons (f : Fx) (fs : Fxs)
end
mutual
def fval : Fx → List Sl → T
  | .x e, Γ => val e Γ
  | .l ts, Γ => .n .l (fvals ts Γ)
  | .k ks ts, Γ => .n (.k ks) (fvals ts Γ)
  | .rng e, Γ => .n .l ((List.range (val e Γ).i.toNat).map fun k => .d (.int (k : Nat)))
  | .lof e, Γ => .n .l (val e Γ).kids
  | .add a b, Γ => .n .l ((val a Γ).kids ++ (val b Γ).kids)
  | .lc tg s p e, Γ => .n .l (((items s Γ).filter fun t => (val p (bind tg t Γ)).b).map fun t => val e (bind tg t Γ))
  | .ite c a b, Γ => if (val c Γ).b = true then fval a Γ else fval b Γ
def fvals : Fxs → List Sl → List T
  | .nil, _ => []
  | .cons f fs, Γ => fval f Γ :: fvals fs Γ
end
def nodupK : List D → Bool
  | [] => true
  | k :: ks => !hasK ks k && nodupK ks
mutual
def fok : Fx → List Sl → Prop
  | .x e, Γ => ok e Γ ∧ (val e Γ).sd = true
  | .l ts, Γ => foks ts Γ ∧ (fvals ts Γ).length ≤ 1000
  | .k ks ts, Γ => foks ts Γ ∧ ks.length = (fvals ts Γ).length ∧ ks.length ≤ 15 ∧ ks.all keyT = true ∧ nodupK ks = true
  | .rng e, Γ => ok e Γ ∧ (val e Γ).isI = true ∧ 0 ≤ (val e Γ).i ∧ (val e Γ).i ≤ 1000
  | .lof e, Γ => ok e Γ ∧ ((val e Γ).isL = true ∨ (val e Γ).isT = true) ∧ allSd (val e Γ).kids = true
  | .add a b, Γ => ok a Γ ∧ ok b Γ ∧ (val a Γ).isL = true ∧ (val b Γ).isL = true ∧ allSd (val a Γ).kids = true ∧ allSd (val b Γ).kids = true ∧ (val a Γ).kids.length + (val b Γ).kids.length ≤ 100000
  | .lc tg s p e, Γ => ok (.lc tg s p e) Γ
  | .ite c a b, Γ => ok c Γ ∧ (val c Γ).isB = true ∧ ((val c Γ).b = true → fok a Γ) ∧ ((val c Γ).b = false → fok b Γ)
def foks : Fxs → List Sl → Prop
  | .nil, _ => True
  | .cons f fs, Γ => fok f Γ ∧ foks fs Γ
end
/-- the slots of a def at its end, as its caller has them -/
inductive Bk : List Sl → List Sl → List Sl → Prop
  | nil {Γ : List Sl} : Bk [] Γ []
  | un {s : Sl} {Γ Γ1 Γ2 : List Sl} : Bk Γ Γ1 Γ2 → Bk (.un :: Γ) (s :: Γ1) (.un :: Γ2)
  | w {t : T} {s : Sl} {Γ Γ1 Γ2 : List Sl} : Bk Γ Γ1 Γ2 → Bk (.w t :: Γ) (s :: Γ1) (.w t :: Γ2)
  | o {p : Addr} {t t' : T} {Γ Γ1 Γ2 : List Sl} : Bk Γ Γ1 Γ2 → Bk (.o p t :: Γ) (.o p t' :: Γ1) (.o p t' :: Γ2)
/-- a def that tells a deed's value, or the class of its refusal -/
structure Td where
  x : Str
  clf : Str → Str
  okn : Str → Prop
/-! expressions that may change something -/
inductive Ef where
  | p (e : Ex)
  | fx (f : Fx)
  | mv (i : Nat)
  | call (F : Spc) (f : Str) (as : List Ar)
  | meth (F : Spc) (c m : Str) (r : Ex) (as : List Ar)
  | make (F : Spc) (c : Str) (as : List Ar)
  | cmp (o : Cop) (a b : Ef)
  | no (a : Ef)
  | ite (c : Ex) (a b : Ef)
  | pop (r : Ex)
  | popi (r i : Ex)
  | popd (r k d : Ex)
  | callr (F : PF) (f : Str) (es : Exs)
  | methr (F : PF) (c m : Str) (a : Ex) (es : Exs)
  | told (d : Td) (e : Ef)
/-- what stands in a place is changed -/
def atW (r : Ex) (Γ : List Sl) (f : T → (T → Prop) → Prop) (P : List Sl → Prop) : Prop := ok r Γ ∧ match loc r Γ with
  | some (j, π) => match Γ[j]? with
    | some (.o p t) => match get π t with
      | some t1 => f t1 fun t1' => P (Γ.set j (.o p (put π t t1')))
      | none => False
    | _ => False
  | none => False
def wpF : Ef → List Sl → (Sl → List Sl → Prop) → (Str → List Sl → Prop) → Prop
  | .p e, Γ, P, _ => ok e Γ ∧ (val e Γ).sd = true ∧ P (.w (.d (val e Γ).dat)) Γ
  | .fx f, Γ, P, _ => fok f Γ ∧ resW (fval f Γ) fun s => P s Γ
  | .mv i, Γ, P, _ => match Γ[i]? with
    | some (.o _ (.n κ cs)) => resW (.n κ cs) fun s => P s (Γ.set i .un)
    | _ => False
  | .call F _ as, Γ, P, ex => callW F as Γ P ex
  | .meth F c m r as, Γ, P, ex => isIns (val r Γ) c m = true ∧ callW F (.l r :: as) Γ P ex
  | .make F c as, Γ, P, ex => makeW F c as Γ P ex
  | .cmp o a b, Γ, P, ex => wpF a Γ (fun s Γ1 => datW s fun x => wpF b Γ1 (fun s2 Γ2 => datW s2 fun y => cmpOk o (.d x) (.d y) ∧ P (.w (.d (.bool (cmpV o (.d x) (.d y))))) Γ2) ex) ex
  | .no a, Γ, P, ex => wpF a Γ (fun s Γ1 => match s with
    | .w (.d (.bool k)) => P (.w (.d (.bool (!k)))) Γ1
    | _ => False) ex
  | .ite c a b, Γ, P, ex => ok c Γ ∧ (val c Γ).isB = true ∧ ((val c Γ).b = true → wpF a Γ P ex) ∧ ((val c Γ).b = false → wpF b Γ P ex)
  | .pop r, Γ, P, _ => atW r Γ (fun t q => match t with
    | .n .l cs => match cs.getLast? with
      | some (.d x) => q (.n .l cs.dropLast)
      | _ => False
    | _ => False) (fun Γ' => P (.w (.d ((val r Γ).kids.getLast?.getD (.h 0)).dat)) Γ')
  | .popi r i, Γ, P, _ => ok i Γ ∧ (val i Γ).isI = true ∧ atW r Γ (fun t q => match t with
    | .n .l cs => match ixN cs.length (val i Γ).i with
      | some k => match cs[k]? with
        | some (.d _) => cs.length < 1000000 ∧ q (.n .l (cs.eraseIdx k))
        | _ => False
      | none => False
    | _ => False) (fun Γ' => P (.w (.d ((atI (val r Γ).kids (val i Γ).i).getD (.h 0)).dat)) Γ')
  | .popd r k d, Γ, P, _ => ok k Γ ∧ (val k Γ).sd = true ∧ keyT (val k Γ).dat = true ∧ ok d Γ ∧ (val d Γ).sd = true ∧ atW r Γ (fun t q => match t with
    | .n (.k ks) cs => match keyIx ks (val k Γ).dat with
      | some n => match cs[n]? with
        | some (.d _) => q (.n (.k (ks.eraseIdx n)) (cs.eraseIdx n))
        | _ => False
      | none => q (.n (.k ks) cs)
    | _ => False) (fun Γ' => P (.w (.d (((ixA (val r Γ) (val k Γ)).getD (val d Γ)).dat))) Γ')
  | .callr F _ es, Γ, P, ex => oks es Γ ∧ F.pre (vals es Γ) ∧ (match F.out (vals es Γ) with
    | .ret x => P (.w (.d x)) Γ
    | .exc n => ex n Γ)
  | .methr F c m a es, Γ, P, ex => ok a Γ ∧ isIns (val a Γ) c m = true ∧ oks es Γ ∧ F.pre (val a Γ :: vals es Γ) ∧ (match F.out (val a Γ :: vals es Γ) with
    | .ret x => P (.w (.d x)) Γ
    | .exc n => ex n Γ)
  | .told d e, Γ, P, _ => wpF e Γ P fun n Γ' => d.okn n ∧ ∃ Γ2, Bk Γ Γ' Γ2 ∧ P (.w (.d (.str (d.clf n)))) Γ2
/-! ### statements -/
structure Kn where
  nx : List Sl → Prop
  rt : T → List Sl → Prop
  bk : List Sl → Prop := fun _ => False
  ct : List Sl → Prop := fun _ => False
  ex : Str → List Sl → Prop := fun _ _ => False
def slT : Sl → T
  | .w t => t
  | .o _ t => t
  | .un => .h 0
mutual
inductive St where
  | set (i : Nat) (e : Ef)
  | setlc (i : Nat) (own : Bool) (tg : Tg) (s : Sr) (p e : Ex)
  | par (is : List Nat) (es : List Ef)
  | unp (is : List Nat) (e : Ex)
  | fld (r : Ex) (c f : Str) (e : Ef)
  | put (r k : Ex) (e : Ef)
  | app (r : Ex) (f : Fx)
  | appx (r : Ex) (e : Ef)
  | exte (r : Ex) (f : Fx)
  | rem (r e : Ex)
  | ex (e : Ef)
  | ret (e : Ef)
  | retN
  | ite (c : Ef) (a b : Sts)
  | for_ (tg : Tg) (s : Sr) (b : Sts)
  | whl (c : Ex) (b : Sts)
  | rais (n : Str)
  | pass
  | brk
  | cnt
  | frz (i : Nat)
  | dead (is : List Nat)
inductive Sts where
  | nil
  | cons (s : St) (r : Sts)
end
def toW (s : Sl) (P : Sl → Prop) : Prop := match s with
  | .un => False
  | s => P s
/-- the expressions from the left, their things ahead of the slots -/
def wpFs : List Ef → List Sl → (List Sl → List Sl → Prop) → (Str → List Sl → Prop) → Prop
  | [], Γ, P, _ => P [] Γ
  | e :: es, Γ, P, ex => wpF e Γ (fun s Γ1 => wpFs es Γ1 (fun ss Γ2 => P (s :: ss) Γ2) ex) ex
def sets : List Nat → List Sl → List Sl → List Sl
  | i :: is, s :: ss, Γ => sets is ss (Γ.set i s)
  | _, _, Γ => Γ
def isOwnL : T → Bool
  | .n .l _ => true
  | _ => false
def bindD : Tg → T → Prop
  | .n _, t => t.sd = true
  | .t _, t => allSd t.kids = true
def deadS : List Nat → List Sl → List Sl
  | [], Γ => Γ
  | i :: is, Γ => deadS is (Γ.set i .un)
def forW (step : T → List Sl → Kn → Prop) : List T → List Sl → Kn → Prop
  | [], Γ, K => K.nx Γ
  | t :: ts, Γ, K => step t Γ { K with nx := fun Γ' => forW step ts Γ' K, ct := fun Γ' => forW step ts Γ' K, bk := K.nx }
mutual
def wp : St → List Sl → Kn → Prop
  | .set i e, Γ, K => wpF e Γ (fun s Γ' => K.nx (Γ'.set i s)) K.ex
  | .setlc i own tg s p e, Γ, K => ok (.lc tg s p e) Γ ∧ (if own = true then ∀ q, K.nx (Γ.set i (.o q (fval (.lc tg s p e) Γ))) else K.nx (Γ.set i (.w (val (.lc tg s p e) Γ))))
  | .par is es, Γ, K => wpFs es Γ (fun ss Γ' => K.nx (sets is ss Γ')) K.ex
  | .unp is e, Γ, K => ok e Γ ∧ (val e Γ).isT = true ∧ (val e Γ).kids.length = is.length ∧ allSd (val e Γ).kids = true ∧ K.nx (binds is (val e Γ).kids Γ)
  | .fld r c f e, Γ, K => wpF e Γ (fun s Γ' => toW s fun s => atW r Γ' (fun t q => match t with
    | .n (.i c' fs) cs => c' = c ∧ cs.length = fs.length ∧ fs.length < 900 ∧ (match fldIx fs f with
      | some k => q (.n (.i c' fs) (cs.set k (slT s)))
      | none => q (.n (.i c' (fs ++ [f])) (cs ++ [slT s])))
    | _ => False) K.nx) K.ex
  | .put r k e, Γ, K => wpF e Γ (fun s Γ' => toW s fun s => ok k Γ' ∧ (val k Γ').sd = true ∧ keyT (val k Γ').dat = true ∧ atW r Γ' (fun t q => match t with
    | .n (.k ks) cs => cs.length = ks.length ∧ ks.length < 100000 ∧ (match keyIx ks (val k Γ').dat with
      | some n => nodupK ks = true ∧ q (.n (.k ks) (cs.set n (slT s)))
      | none => q (.n (.k (ks ++ [(val k Γ').dat])) (cs ++ [slT s])))
    | _ => False) K.nx) K.ex
  | .app r f, Γ, K => fok f Γ ∧ atW r Γ (fun t q => match t with
    | .n .l cs => cs.length < 1000000 ∧ q (.n .l (cs ++ [fval f Γ]))
    | _ => False) K.nx
  | .appx r e, Γ, K => ok r Γ ∧ (match loc r Γ with
    | some (j, π) => match Γ[j]? with
      | some (.o p t) => match get π t with
        | some (.n .l cs) => cs.length < 1000000 ∧ ∀ p1, wpF e (Γ.set j (.o p (put π t (.h p1)))) (fun s Γ1 => match Γ1[j]? with
          | some (.o p2 t2) => get π t2 = some (.h p1) ∧ K.nx (Γ1.set j (.o p2 (put π t2 (.n .l (cs ++ [slT s])))))
          | _ => False) K.ex
        | _ => False
      | _ => False
    | none => False)
  | .exte r f, Γ, K => fok f Γ ∧ isOwnL (fval f Γ) = true ∧ allSd (fval f Γ).kids = true ∧ atW r Γ (fun t q => match t with
    | .n .l cs => cs.length + (fval f Γ).kids.length < 1000000 ∧ q (.n .l (cs ++ (fval f Γ).kids))
    | _ => False) K.nx
  | .rem r e, Γ, K => ok e Γ ∧ (val e Γ).isI = true ∧ atW r Γ (fun t q => match t with
    | .n .l cs => ∃ ns : List Int, cs = ns.map (fun n => .d (.int n)) ∧ (val e Γ).i ∈ ns ∧ q (.n .l ((ns.erase (val e Γ).i).map (fun n => .d (.int n))))
    | _ => False) K.nx
  | .ex e, Γ, K => wpF e Γ (fun _ Γ' => K.nx Γ') K.ex
  | .ret e, Γ, K => wpF e Γ (fun s Γ' => K.rt (slT s) Γ') K.ex
  | .retN, Γ, K => K.rt (.d .none) Γ
  | .ite c a b, Γ, K => wpF c Γ (fun s Γ' => match s with
    | .w (.d (.bool k)) => (k = true → wps a Γ' K) ∧ (k = false → wps b Γ' K)
    | _ => False) K.ex
  | .for_ tg s b, Γ, K => okr s Γ ∧ (∀ t, t ∈ items s Γ → bindOk tg t ∧ bindD tg t) ∧ srcSd s Γ = true ∧ forW (fun t Γ' K' => wps b (bind tg t Γ') K') (items s Γ) Γ K
  | .whl c b, Γ, K => ∃ (I : Nat → List Sl → Prop) (m0 : Nat), I m0 Γ ∧ ∀ m Γ1, I m Γ1 → ok c Γ1 ∧ (val c Γ1).isB = true ∧ ((val c Γ1).b = true → wps b Γ1 { K with nx := fun Γ2 => ∃ m', m' < m ∧ I m' Γ2, ct := fun Γ2 => ∃ m', m' < m ∧ I m' Γ2, bk := K.nx }) ∧ ((val c Γ1).b = false → K.nx Γ1)
  | .rais n, Γ, K => K.ex n Γ
  | .pass, Γ, K => K.nx Γ
  | .brk, Γ, K => K.bk Γ
  | .cnt, Γ, K => K.ct Γ
  | .frz i, Γ, K => match Γ[i]? with
    | some (.w t) => t.sd = true ∧ K.nx Γ
    | some (.o _ (.n .l cs)) => allSd cs = true ∧ K.nx (Γ.set i (.w (.d (.list (T.dats cs)))))
    | _ => False
  | .dead is, Γ, K => K.nx (deadS is Γ)
def wps : Sts → List Sl → Kn → Prop
  | .nil, Γ, K => K.nx Γ
  | .cons s r, Γ, K => wp s Γ { K with nx := fun Γ' => wps r Γ' K }
end
def knS (Γ : List Sl) (P : Oc → List Sl → Prop) : Kn where
  nx := fun Γ1 => ∃ Γ2, Bk Γ Γ1 Γ2 ∧ P (.ret (.d .none)) Γ2
  rt := fun t Γ1 => ∃ Γ2, Bk Γ Γ1 Γ2 ∧ P (.ret t) Γ2
  ex := fun c Γ1 => ∃ Γ2, Bk Γ Γ1 Γ2 ∧ P (.exc c) Γ2
end Yl

end

section
/-! Y10: lending, calls, things made anew. -/
namespace Yl
open PySem PySem.Spec PyProof.Rows L2
open Wl (wE wT wA wS wSs pe_w pt_w pa_w ps_w pss_w w_pe w_pt w_pa w_ps w_pss Dt DtAll Stp Keeps NoT Wk WkAll dt_mono dtAll_mono dt_dp dtAll_dp sqT_mono dp_lay Fre same_upd same_upd2 set_self)
variable [Wl.Tb] [Tc]
section
variable {K : Frg} {B : Bs} {G H G' H' : Hp} {σ : L2.St} {Γ : List Sl} {o : Option V} {s : Sl}
/-! ### lending -/
def AgOk (K : Frg) (G H : Hp) (σ : L2.St) (v : V) : Ag → Prop
  | .x d => Dt K G v d
  | .l j π => ∃ v0, σ[j]? = some (some v0) ∧ wlk H π v0 = some v
inductive AgsOk (K : Frg) (G H : Hp) (σ : L2.St) : List V → List Ag → Prop
  | nil : AgsOk K G H σ [] []
  | cons {v : V} {a : Ag} {vs : List V} {as : List Ag} : AgOk K G H σ v a → AgsOk K G H σ vs as → AgsOk K G H σ (v :: vs) (a :: as)
theorem AgsOk.len : ∀ {vs : List V} {as : List Ag}, AgsOk K G H σ vs as → vs.length = as.length
  | _, _, .nil => rfl
  | _, _, .cons _ t => by rw [List.length_cons, List.length_cons, t.len]
theorem vals_keep {H H' : Hp} (h : Keeps H H') {v : V} {vs : List V} (e : vals_ H v = some vs) : vals_ H' v = some vs := by
  cases v <;> simp [vals_] at e ⊢
  rename_i p
  cases q : H p with
  | none => rw [q] at e; cases e
  | some o =>
    rw [q] at e
    rw [h.n p o q fun ps z => by rw [z] at e; cases e]
    exact e
theorem wlk_keep {H H' : Hp} (h : Keeps H H') : ∀ {π : List Nat} {v w : V}, wlk H π v = some w → wlk H' π v = some w
  | [], v, w, e => e
  | k :: π, v, w, e => by
    simp only [wlk] at e ⊢
    cases q : vals_ H v with
    | none => rw [q] at e; cases e
    | some vs =>
      rw [q] at e
      rw [vals_keep h q]
      simp only at e ⊢
      cases z : vs[k]? with
      | none => rw [z] at e; cases e
      | some x => rw [z] at e; exact wlk_keep h e
theorem AgsOk.step {vs : List V} {as : List Ag} (h : AgsOk K G H σ vs as) (s : Stp G H G' H') : AgsOk K G' H' σ vs as := by
  induction h with
  | nil => exact .nil
  | cons h t ih =>
    refine .cons ?_ ih
    rename_i v a vs as
    cases a with
    | x d => exact dt_mono s.g _ _ h
    | l j π => obtain ⟨v0, h1, h2⟩ := h; exact ⟨v0, h1, wlk_keep s.h h2⟩
theorem app_set {α : Type} (A : List α) (Γ : List α) (j : Nat) (x : α) : (A ++ Γ).set (A.length + j) x = A ++ Γ.set j x := by
  rw [List.set_append_right _ _ (by omega)]
  congr 2
  omega
theorem app_get {α : Type} (A : List α) (Γ : List α) (j : Nat) : (A ++ Γ)[A.length + j]? = Γ[j]? := by
  rw [List.getElem?_append_right (by omega)]
  congr 1
  omega
theorem lend_env : ∀ {as : List Ag} {Γ : List Sl} {vs : List V} {P : List Sl → List Sl → Prop} {τ : L2.St} {S : List Sl}, τ.length = S.length → AgsOk K G H σ vs as → lendA as Γ P → Env K B G H (τ ++ σ) (S ++ Γ) → ∃ A Γh, P A Γh ∧ A.length = vs.length ∧ Env K B G H ((τ ++ vs.map some) ++ σ) ((S ++ A) ++ Γh)
  | [], Γ, vs, P, τ, S, l, ha, hl, E => by
    cases ha
    exact ⟨[], Γ, hl, rfl, by rw [List.map_nil, List.append_nil, List.append_nil]; exact E⟩
  | .x d :: as, Γ, vs, P, τ, S, l, ha, hl, E => by
    cases ha with
    | cons h1 h2 =>
      rename_i v vs
      obtain ⟨O, E1, back⟩ := E.frame l
      have E2 := (back (E1.push_d h1)).1
      have e1 : τ ++ (some v :: σ) = (τ ++ [some v]) ++ σ := by simp
      have e2 : S ++ (Sl.w (.d d) :: Γ) = (S ++ [Sl.w (.d d)]) ++ Γ := by simp
      rw [e1, e2] at E2
      obtain ⟨A, Γh, p, lA, E3⟩ := lend_env (by simp [l]) h2 (show lendA as Γ fun A Γ' => P (.w (.d d) :: A) Γ' from hl) E2
      refine ⟨.w (.d d) :: A, Γh, p, by rw [List.length_cons, List.length_cons, lA], ?_⟩
      simpa using E3
  | .l j π :: as, Γ, vs, P, τ, S, l, ha, hl, E => by
    cases ha with
    | cons h1 h2 =>
      rename_i v vs
      simp only [lendA] at hl
      split at hl
      · rename_i p t ej
        split at hl
        · rename_i t1 eg
          obtain ⟨hn, hl⟩ := hl
          obtain ⟨O, E1, back⟩ := E.frame l
          obtain ⟨p1, q1, q2, E2⟩ := E1.ext ej eg hn
          obtain ⟨v0, r1, r2⟩ := h1
          rw [q1] at r1
          obtain rfl := Option.some.inj (Option.some.inj r1)
          rw [q2] at r2
          obtain rfl := Option.some.inj r2
          have E3 := (back E2).1
          have e1 : τ ++ (some (.ref p1) :: σ) = (τ ++ [some (.ref p1)]) ++ σ := by simp
          have e2 : S ++ (Sl.o p1 t1 :: Γ.set j (.o p (put π t (.h p1)))) = (S ++ [Sl.o p1 t1]) ++ Γ.set j (.o p (put π t (.h p1))) := by simp
          rw [e1, e2] at E3
          obtain ⟨A, Γh, pp, lA, E4⟩ := lend_env (by simp [l]) h2 (hl p1) E3
          refine ⟨.o p1 t1 :: A, Γh, pp, by rw [List.length_cons, List.length_cons, lA], ?_⟩
          simpa using E4
        · exact hl.elim
      · exact hl.elim
theorem give_env : ∀ {as : List Ag} {A Γ : List Sl} {vs : List V} {P : List Sl → Prop} {r : Option V} {s : Sl}, vs.length = A.length → giveA as A Γ P → Env K B G H (r :: (vs.map some ++ σ)) (s :: (A ++ Γ)) → ∃ Γ', P Γ' ∧ Env K B G H (r :: σ) (s :: Γ')
  | [], [], Γ, vs, P, r, s, l, h, E => by
    cases vs with
    | nil => exact ⟨Γ, h, E⟩
    | cons _ _ => simp at l
  | [], _ :: _, _, _, _, _, _, _, h, _ => h.elim
  | .x d :: as, [], _, _, _, _, _, _, h, _ => h.elim
  | .l j π :: as, [], _, _, _, _, _, _, h, _ => h.elim
  | .x d :: as, a :: A, Γ, vs, P, r, s, l, h, E => by
    cases vs with
    | nil => simp at l
    | cons v vs =>
      obtain ⟨O, E1, back⟩ := Env.frame (τ := [r]) (S := [s]) rfl E
      exact give_env (by simpa using l) (show giveA as A Γ P from h) (back (E1.pop)).1
  | .l j π :: as, a :: A, Γ, vs, P, r, s, l, h, E => by
    cases vs with
    | nil => simp at l
    | cons v vs =>
      cases a with
      | un => exact h.elim
      | w t => exact h.elim
      | o p1 t1 =>
        simp only [giveA] at h
        split at h
        · rename_i p t ej
          obtain ⟨O, E1, back⟩ := Env.frame (τ := [r]) (S := [s]) rfl E
          have E1' : Env K ⟨G, H, O, B.W⟩ G H (some v :: (vs.map some ++ σ)) (Sl.o p1 t1 :: (A ++ Γ)) := E1
          have E2 := Env.ins (j := A.length + j) E1' (by rw [app_get]; exact ej) h.1
          rw [app_set] at E2
          exact give_env (by simpa using l) h.2 (back E2).1
        · exact h.elim
/-! ### a def's promise -/
def spS (K : Frg) (mg : Str → Option Value) (F : Spc) : Sp := fun vs H Q E => ∃ (B : Bs) (G : Hp) (Γ : List Sl) (P : Oc → List Sl → Prop), Env K B G H (vs.map some) Γ ∧ (∀ s, s ∈ Γ → s ≠ .un) ∧ F Γ P ∧
  (∀ v s G' H' Γ', Env K B G' H' (some v :: vs.map some) (s :: Γ') → Rs s → Γ'.length = Γ.length → P (.ret (slT s)) Γ' → Q v H') ∧ (∀ n G' H' Γ', Env K B G' H' (vs.map some) Γ' → P (.exc n) Γ' → E (.ref (Wl.clsAt mg n)) none H')
theorem Rs.res {P : Sl → Prop} (h : Rs s) (k : resW (slT s) P) : (∃ x, s = .w (.d x) ∧ P (.w (.d x))) ∨ ∃ p t, s = .o p t ∧ P (.o p t) := by
  rcases h with ⟨x, rfl⟩ | ⟨p, t, rfl, hn⟩
  · exact .inl ⟨x, rfl, k⟩
  · refine .inr ⟨p, t, rfl, ?_⟩
    simp only [slT] at k
    unfold resW at k
    split at k
    · exact absurd rfl (hn _)
    · exact k p
theorem Rs.res' {P : Sl → Prop} (h : Rs s) (k : resW (slT s) P) : P s := by
  rcases h.res k with ⟨x, rfl, q⟩ | ⟨p, t, rfl, q⟩
  · exact q
  · exact q
theorem lendA_mono : ∀ {as : List Ag} {Γ : List Sl} {P P' : List Sl → List Sl → Prop}, lendA as Γ P → (∀ A Γ', P A Γ' → P' A Γ') → lendA as Γ P'
  | [], Γ, P, P', h, i => i _ _ h
  | .x d :: as, Γ, P, P', h, i => by
    have h : lendA as Γ fun A Γ' => P (.w (.d d) :: A) Γ' := h
    exact (lendA_mono h fun A Γ' z => i _ _ z : lendA as Γ fun A Γ' => P' (.w (.d d) :: A) Γ')
  | .l j π :: as, Γ, P, P', h, i => by
    simp only [lendA] at h ⊢
    split at h
    · rename_i p t ej
      split at h
      · rename_i t1 eg
        exact ⟨h.1, fun p1 => lendA_mono (h.2 p1) fun A Γ' z => i _ _ z⟩
      · exact h.elim
    · exact h.elim
theorem lendA_no : ∀ {as : List Ag} {Γ : List Sl} {P : List Sl → List Sl → Prop}, lendA as Γ P → lendA as Γ fun A Γh => P A Γh ∧ ∀ s, s ∈ A → s ≠ .un
  | [], Γ, P, h => ⟨h, fun s hs => by cases hs⟩
  | .x d :: as, Γ, P, h => by
    have k := lendA_no (as := as) (Γ := Γ) (P := fun A Γ' => P (.w (.d d) :: A) Γ') h
    refine (lendA_mono k fun A Γ' z => ⟨z.1, fun s hs => ?_⟩ : lendA as Γ fun A Γ' => P (.w (.d d) :: A) Γ' ∧ ∀ s, s ∈ (Sl.w (.d d) :: A) → s ≠ .un)
    rcases List.mem_cons.mp hs with q | q
    · subst q; intro z; cases z
    · exact z.2 s q
  | .l j π :: as, Γ, P, h => by
    simp only [lendA] at h ⊢
    split at h
    · rename_i p t ej
      split at h
      · rename_i t1 eg
        refine ⟨h.1, fun p1 => lendA_mono (lendA_no (h.2 p1)) fun A Γ' z => ⟨z.1, fun s hs => ?_⟩⟩
        rcases List.mem_cons.mp hs with q | q
        · subst q; intro z; cases z
        · exact z.2 s q
      · exact h.elim
    · exact h.elim
end
end Yl

end

section
/-! Y11: places told by texts; the arguments of a call. -/
namespace Yl
open PySem PySem.Spec PyProof.Rows L2
open Wl (wE wT wA wS wSs pe_w pt_w pa_w ps_w pss_w w_pe w_pt w_pa w_ps w_pss Dt DtAll Stp Keeps NoT Wk WkAll dt_mono dtAll_mono dt_dp dtAll_dp sqT_mono dp_lay Fre same_upd same_upd2 set_self)
variable [Wl.Tb] [Tc]
theorem wlk_app {H : Hp} {k : Nat} : ∀ {π : List Nat} {v w : V}, wlk H π v = some w → wlk H (π ++ [k]) v = wlk H [k] w
  | [], v, w, h => by obtain rfl := Option.some.inj (show some v = some w from h); rfl
  | n :: π, v, w, h => by
    simp only [wlk, List.cons_append] at h ⊢
    cases q : vals_ H v with
    | none => rw [q] at h; cases h
    | some vs =>
      rw [q] at h
      simp only at h ⊢
      cases z : vs[n]? with
      | none => rw [z] at h; cases h
      | some x => rw [z] at h; exact wlk_app h
theorem wlk_one {H : Hp} {k : Nat} {v w : V} {vs : List V} (h : vals_ H v = some vs) (e : vs[k]? = some w) : wlk H [k] v = some w := by
  simp only [wlk]; rw [h]; simp only; rw [e]
theorem get_app {k : Nat} : ∀ {π : List Nat} {t t1 : T}, get π t = some t1 → get (π ++ [k]) t = get [k] t1
  | [], t, t1, h => by obtain rfl := Option.some.inj (show some t = some t1 from h); rfl
  | n :: π, t, t1, h => by
    cases t with
    | d x => simp [get] at h
    | h p => simp [get] at h
    | n κ cs =>
      simp only [get, List.cons_append] at h ⊢
      cases q : cs[n]? with
      | none => rw [q] at h; cases h
      | some c => rw [q] at h; exact get_app h
theorem get_one {k : Nat} {κ : Kd} {cs : List T} {c : T} (h : cs[k]? = some c) : get [k] (.n κ cs) = some c := by
  simp only [get]; rw [h]
theorem fldIx_at {f : Str} : ∀ {fs : List Str} {cs : List T} {k : Nat} {r : T}, fldIx fs f = some k → fldAt fs cs f = some r → cs[k]? = some r
  | [], cs, k, r, h, _ => by simp [fldIx] at h
  | n :: fs, [], k, r, _, h => by simp [fldAt] at h
  | n :: fs, c :: cs, k, r, h, e => by
    simp only [fldIx, fldAt] at h e
    by_cases q : n = f
    · rw [if_pos q] at h e; cases h; simpa using e
    · rw [if_neg q] at h e
      cases z : fldIx fs f with
      | none => rw [z] at h; cases h
      | some m =>
        rw [z] at h
        obtain rfl := Option.some.inj (show some (m + 1) = some k from h)
        simpa using fldIx_at z e
theorem fldIx_look {f : Str} : ∀ {fl : List (Str × V)} {k : Nat} {v : V}, fldIx (fl.map (·.1)) f = some k → fl.lookup f = some v → (fl.map (·.2))[k]? = some v
  | [], k, v, h, _ => by simp [fldIx] at h
  | q :: fl, k, v, h, e => by
    simp only [List.map_cons, fldIx] at h
    rw [List.lookup_cons] at e
    by_cases z : q.1 = f
    · rw [if_pos z] at h
      cases h
      rw [show (f == q.1) = true by rw [z]; simp] at e
      simpa using e
    · rw [if_neg z] at h
      rw [show (f == q.1) = false by simp; exact fun y => z y.symm] at e
      cases w : fldIx (fl.map (·.1)) f with
      | none => rw [w] at h; cases h
      | some m =>
        rw [w] at h
        obtain rfl := Option.some.inj (show some (m + 1) = some k from h)
        simpa using fldIx_look w e
theorem keyIx_at {x : D} : ∀ {ks : List D} {cs : List T} {k : Nat} {r : T}, keyIx ks x = some k → keyAt ks cs x = some r → cs[k]? = some r
  | [], cs, k, r, h, _ => by simp [keyIx] at h
  | n :: fs, [], k, r, _, h => by simp [keyAt] at h
  | n :: fs, c :: cs, k, r, h, e => by
    simp only [keyIx, keyAt] at h e
    by_cases q : PyData.eqv n x = true
    · rw [if_pos q] at h e; cases h; simpa using e
    · rw [if_neg q] at h e
      cases z : keyIx fs x with
      | none => rw [z] at h; cases h
      | some m =>
        rw [z] at h
        obtain rfl := Option.some.inj (show some (m + 1) = some k from h)
        simpa using keyIx_at z e
theorem keyIx_val {k : Key} : ∀ {kvs : List (Key × V)} {n : Nat} {v : V}, keyIx (kvs.map fun q => keyD q.1) (keyD k) = some n → valV kvs k = some v → (kvs.map (·.2))[n]? = some v
  | [], n, v, h, _ => by simp [keyIx] at h
  | q :: kvs, n, v, h, e => by
    simp only [List.map_cons, keyIx, keyD_eqv] at h
    unfold valV at e
    by_cases z : q.1 = k
    · rw [if_pos (by simp [z])] at h
      cases h
      rw [List.find?_cons_of_pos (by simp [z])] at e
      simpa using e
    · rw [if_neg (by simp [z])] at h
      rw [List.find?_cons_of_neg (by simp [z])] at e
      cases w : keyIx (kvs.map fun q => keyD q.1) (keyD k) with
      | none => rw [w] at h; cases h
      | some m =>
        rw [w] at h
        obtain rfl := Option.some.inj (show some (m + 1) = some n from h)
        simpa using keyIx_val w e
structure EvPa (X : Cx) (e : Expr) (Γ : List Sl) (j : Nat) (π : List Nat) : Prop where
  run : ∀ (G H : Hp) (σ : L2.St), WEnv X.K G H σ Γ → ∀ Q : VK, (∀ v G' H', Stp G H G' H' → AgOk X.K G' H' σ v (.l j π) → Q v H') → wE X e σ H Q
/-- the value in a place reads as the tree there -/
theorem pa_tree {K : Frg} {G H : Hp} {σ : L2.St} {Γ : List Sl} (E : WEnv K G H σ Γ) {j : Nat} {π : List Nat} {v : V} {t0 t : T} (h : AgOk K G H σ v (.l j π)) (h1 : rdO Γ j = some t0) (h2 : get π t0 = some t) : ∃ fp, TAt K G H v t fp := by
  obtain ⟨v0, fp, e1, e2⟩ := E.sl j t0 h1
  obtain ⟨v0', g1, g2⟩ := h
  rw [e1] at g1
  obtain rfl := Option.some.inj (Option.some.inj g1)
  obtain ⟨v1, f1, k1, k2, _⟩ := tat_foc π e2 h2
  rw [k1] at g2
  obtain rfl := Option.some.inj g2
  exact ⟨f1, k2⟩
section
variable {N fr : List Str} {g : Pg}
theorem sndP : ∀ (c : Ex) (X : Cx) (sc : Scope) (e : Expr) (Γ : List Sl) (j : Nat) (π : List Nat), CtxOk N fr sc X → InPg g X → chk N fr sc c e = true → ob g c → ok c Γ → loc c Γ = some (j, π) → EvPa X e Γ j π ∧ ∃ t0, rdO Γ j = some t0 ∧ get π t0 = some (val c Γ)
  | .v i, X, sc, e, Γ, j, π, cx, ip, hc, ho, hk, hl => by
    unfold chk at hc; split at hc; case h_2 => cases hc
    rw [Bool.and_eq_true, decide_eq_true_eq] at hc
    obtain ⟨h1, h2⟩ := hc
    rw [← cx.sc] at h2
    obtain ⟨o1, o2, o3⟩ := Wl.okN_ok h2
    simp only [loc, Option.some.injEq, Prod.mk.injEq] at hl
    obtain ⟨rfl, rfl⟩ := hl
    have hr := rdO_ok hk
    refine ⟨⟨fun G H σ E Q q => ?_⟩, _, hr, rfl⟩
    obtain ⟨v, fp, e1, d⟩ := E.sl i _ hr
    exact w_pe (pe_var (by rw [cx.n]; exact h1) o1 o2 o3) ⟨v, e1, q v G H (.refl E.gh) ⟨v, e1, rfl⟩⟩
  | .fld a c f, X, sc, e, Γ, j, π, cx, ip, hc, ho, hk, hl => by
    unfold chk at hc; split at hc; case h_2 => cases hc
    simp only [Bool.and_eq_true, decide_eq_true_eq] at hc
    obtain ⟨rfl, h2, h3⟩ := hc
    simp only [loc] at hl
    split at hl; case h_2 => cases hl
    rename_i j' π' c' fs cs e1 e2
    cases ek : fldIx fs f with
    | none => rw [ek] at hl; cases hl
    | some k =>
      rw [ek] at hl
      simp only [Option.map_some, Option.some.injEq, Prod.mk.injEq] at hl
      obtain ⟨rfl, rfl⟩ := hl
      obtain ⟨p1, t0, p2, p3⟩ := sndP a X sc _ Γ _ _ cx ip h3 ho.2 hk.1 e1
      have hf := atI_some (d := T.h 0) hk.2
      rw [e2] at p3
      have hf2 := hf
      rw [e2] at hf2
      simp only [fldA] at hf2
      by_cases ec : c' = c
      · subst ec
        rw [if_pos rfl] at hf2
        refine ⟨⟨fun G H σ E Q q => ?_⟩, t0, p2, ?_⟩
        · refine w_pe (pe_fld pe_w (attr_base h2 _ _ _)) (p1.run G H σ E _ fun v G1 H1 s1 k1 => ?_)
          obtain ⟨fp, d⟩ := pa_tree (E.step s1) k1 p2 p3
          cases d with
          | n n1 n2 =>
            rename_i p vs own fq
            have nv := n1.vals
            obtain ⟨dx, fl, m1, rfl, rfl, m2, rfl⟩ := n1
            obtain ⟨w, fz, l1, l2⟩ := fld_look n2 hf2
            refine ⟨p, _, dx, fl, w, rfl, m1, by rw [ip.K]; exact ho.1.1, by rw [ip.K]; exact ho.1.2, l1, q w G1 H1 s1 ?_⟩
            obtain ⟨v0, g1, g2⟩ := k1
            refine ⟨v0, g1, ?_⟩
            rw [wlk_app g2]
            exact wlk_one nv (fldIx_look ek l1)
        · rw [get_app p3]
          have : val (.fld a c' f) Γ = (fldAt fs cs f).getD (.h 0) := by
            simp only [val]; rw [e2]; simp [fldA]
          rw [this]
          have e3 : fldAt fs cs f = some ((fldAt fs cs f).getD (.h 0)) := atI_some (by rw [hf2]; rfl)
          exact get_one (fldIx_at ek e3)
      · rw [if_neg ec] at hf2; cases hf2
  | .ix a b, X, sc, e, Γ, j, π, cx, ip, hc, ho, hk, hl => by
    unfold chk at hc; split at hc; case h_2 => cases hc
    simp only [Bool.and_eq_true] at hc
    obtain ⟨h1, h2, h3⟩ := hc
    simp only [loc] at hl
    have hb := (snd b X sc _ Γ cx ip h3 ho.2 hk.2.1).1
    have hkk := hk.2.2
    split at hl
    · rename_i j' π' cs e1 e2
      cases ek : ixN cs.length (val b Γ).i with
      | none => rw [ek] at hl; cases hl
      | some k =>
        rw [ek] at hl
        simp only [Option.map_some, Option.some.injEq, Prod.mk.injEq] at hl
        obtain ⟨rfl, rfl⟩ := hl
        obtain ⟨p1, t0, p2, p3⟩ := sndP a X sc _ Γ _ _ cx ip h2 ho.1 hk.1 e1
        rw [e2] at p3 hkk
        have hkk : (val b Γ).isI = true ∧ _ ∧ (atI cs (val b Γ).i).isSome = true := hkk
        have ec : atI cs (val b Γ).i = cs[k]? := by unfold atI; rw [ek]; rfl
        have es := atI_some (d := T.h 0) hkk.2.2
        rw [ec] at es
        have ev : val (.ix a b) Γ = (cs[k]?).getD (.h 0) := by
          simp only [val]; rw [e2]; simp only [ixA, T.kids]; rw [ec]
        refine ⟨⟨fun G H σ E Q q => ?_⟩, t0, p2, ?_⟩
        · refine w_pe (pe_ix ix_list pe_w pe_w (plain_ix h1)) (p1.run G H σ E _ fun v G1 H1 s1 k1 => hb.run G1 H1 σ (E.step s1) _ fun u G2 H2 f2 s2 k2 => ?_)
          have k1' : AgOk X.K G2 H2 σ v (.l j' π') := by obtain ⟨v0, g1, g2⟩ := k1; exact ⟨v0, g1, wlk_keep s2.h g2⟩
          obtain ⟨fp, d⟩ := pa_tree ((E.step s1).step s2) k1' p2 p3
          cases d with
          | n n1 n2 =>
            rename_i p vs own fq
            have nv := n1.vals
            obtain ⟨w, fz, l1, l2⟩ := n2.get es
            refine ⟨p, vs, _, w, rfl, k2.int hkk.1, .of n1.1, ?_, q w G2 H2 (s1.trans s2) ?_⟩
            · unfold atI; rw [n2.len, ek]; exact l1
            · obtain ⟨v0, g1, g2⟩ := k1'
              refine ⟨v0, g1, ?_⟩
              rw [wlk_app g2]
              exact wlk_one nv l1
        · rw [get_app p3, ev]; exact get_one es
    · rename_i j' π' ks cs e1 e2
      cases ek : keyIx ks (val b Γ).dat with
      | none => rw [ek] at hl; cases hl
      | some k =>
        rw [ek] at hl
        simp only [Option.map_some, Option.some.injEq, Prod.mk.injEq] at hl
        obtain ⟨rfl, rfl⟩ := hl
        obtain ⟨p1, t0, p2, p3⟩ := sndP a X sc _ Γ _ _ cx ip h2 ho.1 hk.1 e1
        rw [e2] at p3 hkk
        have hkk : (val b Γ).sd = true ∧ keyT (val b Γ).dat = true ∧ (keyAt ks cs (val b Γ).dat).isSome = true := hkk
        have es := atI_some (d := T.h 0) hkk.2.2
        have ev : val (.ix a b) Γ = (keyAt ks cs (val b Γ).dat).getD (.h 0) := by
          simp only [val]; rw [e2]; simp only [ixA]
        refine ⟨⟨fun G H σ E Q q => ?_⟩, t0, p2, ?_⟩
        · refine w_pe (pe_dget (by have := cx.hu; omega) pe_w pe_w (no_sl h1)) (p1.run G H σ E _ fun v G1 H1 s1 k1 => hb.run G1 H1 σ (E.step s1) _ fun u G2 H2 f2 s2 k2 => ?_)
          have k1' : AgOk X.K G2 H2 σ v (.l j' π') := by obtain ⟨v0, g1, g2⟩ := k1; exact ⟨v0, g1, wlk_keep s2.h g2⟩
          obtain ⟨fp, d⟩ := pa_tree ((E.step s1).step s2) k1' p2 p3
          rw [sd_eq hkk.1] at k2
          cases d with
          | n n1 n2 =>
            rename_i p vs own fq
            have nv := n1.vals
            obtain ⟨rfl, kvs, m1, rfl, rfl⟩ := n1
            obtain ⟨kk, ekk⟩ := keyT_ex hkk.2.1
            rw [← ekk] at es ek k2
            rcases valV_key (k := kk) n2 with ⟨q1, q2⟩ | ⟨c, w, fz, q1, q2, q3⟩
            · rw [q1] at es; cases es
            · have ew : u = kV kk := by
                cases k2 with | d k2 => cases kk <;> (simp only [keyD] at k2; cases k2; rfl)
              refine ⟨p, w, rfl, by rw [ew, ← q2]; exact DGet.k m1, q w G2 H2 (s1.trans s2) ?_⟩
              obtain ⟨v0, g1, g2⟩ := k1'
              refine ⟨v0, g1, ?_⟩
              rw [wlk_app g2]
              exact wlk_one nv (keyIx_val ek q2)
        · rw [get_app p3, ev]; exact get_one (keyIx_at ek es)
    · cases hl
  | .g _ _, _, _, _, _, _, _, _, _, _, _, _, hl => by simp [loc] at hl
  | .gk _ _ _ _, _, _, _, _, _, _, _, _, _, _, _, hl => by simp [loc] at hl
  | .c _, _, _, _, _, _, _, _, _, _, _, _, hl => by simp [loc] at hl
  | .bin _ _ _, _, _, _, _, _, _, _, _, _, _, _, hl => by simp [loc] at hl
  | .rep _ _, _, _, _, _, _, _, _, _, _, _, _, hl => by simp [loc] at hl
  | .neg _, _, _, _, _, _, _, _, _, _, _, _, hl => by simp [loc] at hl
  | .no _, _, _, _, _, _, _, _, _, _, _, _, hl => by simp [loc] at hl
  | .cmp _ _ _, _, _, _, _, _, _, _, _, _, _, _, hl => by simp [loc] at hl
  | .ch _ _ _ _ _, _, _, _, _, _, _, _, _, _, _, _, hl => by simp [loc] at hl
  | .an _ _, _, _, _, _, _, _, _, _, _, _, _, hl => by simp [loc] at hl
  | .or _ _, _, _, _, _, _, _, _, _, _, _, _, hl => by simp [loc] at hl
  | .on _, _, _, _, _, _, _, _, _, _, _, _, hl => by simp [loc] at hl
  | .ite _ _ _, _, _, _, _, _, _, _, _, _, _, _, hl => by simp [loc] at hl
  | .tup _, _, _, _, _, _, _, _, _, _, _, _, hl => by simp [loc] at hl
  | .lst _, _, _, _, _, _, _, _, _, _, _, _, hl => by simp [loc] at hl
  | .sl _ _ _, _, _, _, _, _, _, _, _, _, _, _, hl => by simp [loc] at hl
  | .rev _, _, _, _, _, _, _, _, _, _, _, _, hl => by simp [loc] at hl
  | .isi _ _, _, _, _, _, _, _, _, _, _, _, _, hl => by simp [loc] at hl
  | .bi _ _, _, _, _, _, _, _, _, _, _, _, _, hl => by simp [loc] at hl
  | .call _ _ _, _, _, _, _, _, _, _, _, _, _, _, hl => by simp [loc] at hl
  | .meth _ _ _ _ _, _, _, _, _, _, _, _, _, _, _, _, hl => by simp [loc] at hl
  | .lc _ _ _ _, _, _, _, _, _, _, _, _, _, _, _, hl => by simp [loc] at hl
/-! ### the arguments of a call -/
def arE : Ar → Ex
  | .x e => e
  | .l e => e
def chkA (N fr : List Str) (sc : Scope) : List Ar → List Expr → Bool
  | [], [] => true
  | a :: as, e :: es => plainE e && (chk N fr sc (arE a) e && chkA N fr sc as es)
  | _, _ => false
def obA (g : Pg) : List Ar → Prop
  | [] => True
  | a :: as => ob g (arE a) ∧ obA g as
structure EvAg (X : Cx) (es : List Expr) (Γ : List Sl) (as : List Ag) : Prop where
  run : ∀ (G H : Hp) (σ : L2.St), WEnv X.K G H σ Γ → ∀ Q : List V → Hp → Prop, (∀ vs G' H', Stp G H G' H' → AgsOk X.K G' H' σ vs as → Q vs H') → wA X es σ H Q
theorem ag_one {a : Ar} {X : Cx} {sc : Scope} {e : Expr} {Γ : List Sl} (cx : CtxOk N fr sc X) (ip : InPg g X) (hc : chk N fr sc (arE a) e = true) (ho : ob g (arE a)) (hk : arOk a Γ) : ∀ (G H : Hp) (σ : L2.St), WEnv X.K G H σ Γ → ∀ Q : VK, (∀ v G' H', Stp G H G' H' → AgOk X.K G' H' σ v (ag a Γ) → Q v H') → wE X e σ H Q := by
  intro G H σ E Q q
  cases a with
  | x c =>
    have h := (snd c X sc e Γ cx ip hc ho hk.1).1
    rw [sd_eq hk.2] at h
    exact h.run G H σ E Q fun v G' H' fp s d => q v G' H' s (by cases d with | d d => exact d)
  | l c =>
    obtain ⟨h1, h2⟩ := hk
    cases el : loc c Γ with
    | none => rw [el] at h2; cases h2
    | some jp =>
      obtain ⟨j, π⟩ := jp
      have h := (sndP c X sc e Γ j π cx ip hc ho h1 el).1
      refine h.run G H σ E Q fun v G' H' s d => q v G' H' s ?_
      simp only [ag]; rw [el]; exact d
theorem ags_ev {X : Cx} {sc : Scope} {Γ : List Sl} (cx : CtxOk N fr sc X) (ip : InPg g X) : ∀ {as : List Ar} {es : List Expr}, chkA N fr sc as es = true → obA g as → arsOk as Γ → EvAg X es Γ (as.map (ag · Γ)) ∧ es.all plainE = true ∧ es.length = as.length
  | [], [], _, _, _ => ⟨⟨fun G H σ E Q q => w_pa pa_nil (q [] G H (.refl E.gh) .nil)⟩, rfl, rfl⟩
  | [], _ :: _, h, _, _ => by simp [chkA] at h
  | _ :: _, [], h, _, _ => by simp [chkA] at h
  | a :: as, e :: es, h, ho, hk => by
    simp only [chkA, Bool.and_eq_true] at h
    obtain ⟨h1, h2, h3⟩ := h
    obtain ⟨k1, k2, k3⟩ := ags_ev cx ip h3 ho.2 hk.2
    refine ⟨⟨fun G H σ E Q q => w_pa (pa_cons pe_w pa_w (star_plain h1 _ _)) (ag_one cx ip h2 ho.1 hk.1 G H σ E _ fun v G1 H1 s1 d1 => k1.run G1 H1 σ (E.step s1) _ fun vs G2 H2 s2 d2 => q (v :: vs) G2 H2 (s1.trans s2) (.cons ?_ d2))⟩, by rw [List.all_cons, h1, k2]; rfl, by rw [List.length_cons, List.length_cons, k3]⟩
    exact (AgsOk.step (.cons d1 .nil) s2 |> fun z => by cases z with | cons z _ => exact z)
end
end Yl

end

section
/-! Y12: things made anew. -/
namespace Yl
open PySem PySem.Spec PyProof.Rows L2
open Wl (wE wT wA wS wSs pe_w pt_w pa_w ps_w pss_w w_pe w_pt w_pa w_ps w_pss Dt DtAll Stp Keeps NoT Wk WkAll dt_mono dtAll_mono dt_dp dtAll_dp sqT_mono dp_lay Fre same_upd same_upd2 set_self)
variable [Wl.Tb] [Tc]
structure EvF (X : Cx) (e : Expr) (Γ : List Sl) (t : T) : Prop where
  run : ∀ (G H : Hp) (σ : L2.St), WEnv X.K G H σ Γ → ∀ Q : VK, (∀ v G' H' fp, Stp G H G' H' → TAt X.K G' H' v t fp → fp.Nodup → (∀ a, a ∈ fp → Fre H a ∧ G' a = none) → Q v H') → wE X e σ H Q
structure EvFs (X : Cx) (es : List Expr) (Γ : List Sl) (ts : List T) : Prop where
  len : ts.length = es.length
  run : ∀ (G H : Hp) (σ : L2.St), WEnv X.K G H σ Γ → ∀ Q : List V → Hp → Prop, (∀ vs G' H' fp, Stp G H G' H' → TAts X.K G' H' vs ts fp → fp.Nodup → (∀ a, a ∈ fp → Fre H a ∧ G' a = none) → Q vs H') → wA X es σ H Q
section
variable {K : Frg} {G H G1 H1 G2 H2 : Hp}
/-- two fresh things -/
theorem fresh2 {v : V} {vs : List V} {t : T} {ts : List T} {f1 f2 : List Addr} (s1 : Stp G H G1 H1) (k1 : TAt K G1 H1 v t f1) (n1 : f1.Nodup) (w1 : ∀ a, a ∈ f1 → Fre H a ∧ G1 a = none) (s2 : Stp G1 H1 G2 H2) (k2 : TAts K G2 H2 vs ts f2) (n2 : f2.Nodup) (w2 : ∀ a, a ∈ f2 → Fre H1 a ∧ G2 a = none) :
    TAts K G2 H2 (v :: vs) (t :: ts) (f1 ++ f2) ∧ (f1 ++ f2).Nodup ∧ ∀ a, a ∈ f1 ++ f2 → Fre H a ∧ G2 a = none := by
  have lv := tat_live _ _ _ k1
  refine ⟨.cons (k1.step s2) k2, List.nodup_append.mpr ⟨n1, n2, fun a ha b hb z => ?_⟩, fun a ha => ?_⟩
  · subst z
    obtain ⟨o, e, p⟩ := lv a ha
    exact (w2 a hb).1.no e (pl_tbl p)
  · rcases List.mem_append.mp ha with q | q
    · obtain ⟨o, e, p⟩ := lv a q
      exact ⟨(w1 a q).1, stp_free s2 (w1 a q).2 e p⟩
    · exact ⟨s1.h.fre (w2 a q).1, (w2 a q).2⟩
/-- a list of fresh things is laid -/
theorem fresh_l {vs : List V} {ts : List T} {fp : List Addr} {p : Addr} (s : Stp G H G1 H1) (k : TAts K G1 H1 vs ts fp) (nd : fp.Nodup) (w : ∀ a, a ∈ fp → Fre H a ∧ G1 a = none) (hp : H1 p = none) :
    Stp G H G1 (upd H1 p (.lst vs)) ∧ TAt K G1 (upd H1 p (.lst vs)) (.ref p) (.n .l ts) ([p] ++ fp) ∧ ([p] ++ fp).Nodup ∧ ∀ a, a ∈ [p] ++ fp → Fre H a ∧ G1 a = none := by
  have st : Stp G1 H1 G1 (upd H1 p (.lst vs)) := Stp.put s.gh hp
  have lv := tats_live _ _ _ k
  refine ⟨s.trans st, .n ⟨upd_same, rfl⟩ (k.step st), ?_, fun a ha => ?_⟩
  · refine List.nodup_append.mpr ⟨by simp, nd, fun a ha b hb z => ?_⟩
    have : a = p := by simpa using ha
    subst this; subst z
    obtain ⟨o, e, _⟩ := lv _ hb
    rw [hp] at e; cases e
  · rcases List.mem_append.mp ha with q | q
    · have : a = p := by simpa using q
      subst this
      exact ⟨s.h.fre (.inl hp), s.gh.free hp⟩
    · exact w a q
end
section
variable {X : Cx} {Γ : List Sl} {e a b c : Expr} {es : List Expr} {t u : T} {ts us : List T} {pos p2 : Pos}
theorem ef_d (h : EvT X e Γ t) (q : t.sd = true) : EvF X e Γ t := ⟨fun G H σ E Q k => h.run G H σ E Q fun v G' H' fp st d => by
  have := d.fpd q
  subst this
  exact k v G' H' [] st d List.nodup_nil fun a ha => by cases ha⟩
theorem efs_nil : EvFs X [] Γ [] := ⟨rfl, fun G H σ E Q q => w_pa pa_nil (q [] G H [] (.refl E.gh) .nil List.nodup_nil fun a ha => by cases ha)⟩
theorem efs_cons (h : EvF X e Γ t) (r : EvFs X es Γ ts) (hs : starEach (e :: es) X.env = (false, eval e X.env) :: starEach es X.env) : EvFs X (e :: es) Γ (t :: ts) := ⟨by rw [List.length_cons, List.length_cons, r.len], fun G H σ E Q q =>
  w_pa (pa_cons pe_w pa_w hs) (h.run G H σ E _ fun v G1 H1 f1 s1 k1 n1 w1 => r.run G1 H1 σ (E.step s1) _ fun vs G2 H2 f2 s2 k2 n2 w2 => by
    obtain ⟨h1, h2, h3⟩ := fresh2 s1 k1 n1 w1 s2 k2 n2 w2
    exact q (v :: vs) G2 H2 _ (s1.trans s2) h1 h2 h3)⟩
theorem ef_l (h : EvFs X es Γ ts) (hl : ts.length ≤ 1000) : EvF X (.List es pos) Γ (.n .l ts) := ⟨fun G H σ E Q q =>
  w_pe (pe_lst pa_w) (h.run G H σ E _ fun vs G1 H1 f1 s1 k1 n1 w1 => ⟨by rw [k1.len]; exact Nat.le_trans hl (by decide), fun p hp => by
    obtain ⟨h1, h2, h3, h4⟩ := fresh_l s1 k1 n1 w1 hp
    exact q _ _ _ _ h1 h2 h3 h4⟩)⟩
/-- a list of plain data, laid -/
theorem fresh_d {K : Frg} {G H G1 H1 : Hp} {vs : List V} {ts : List T} {p : Addr} {Q : VK} (q : ∀ v G' H' fp, Stp G H G' H' → TAt K G' H' v (.n .l ts) fp → fp.Nodup → (∀ a, a ∈ fp → Fre H a ∧ G' a = none) → Q v H') (s : Stp G H G1 H1) (d : DtAll K G1 vs (T.dats ts)) (hs : allSd ts = true) (hp : H1 p = none) : Q (.ref p) (upd H1 p (.lst vs)) := by
  have k : TAts K G1 H1 vs ts [] := by
    have e : ts = (T.dats ts).map .d := by
      clear d q
      induction ts with
      | nil => rfl
      | cons t ts ih =>
        unfold allSd at hs
        rw [List.all_cons, Bool.and_eq_true] at hs
        rw [T.dats, List.map_cons, ← ih hs.2, ← sd_eq hs.1]
    rw [e]
    exact .ofD d
  obtain ⟨h1, h2, h3, h4⟩ := fresh_l s k List.nodup_nil (fun a ha => by cases ha) hp
  exact q _ _ _ _ h1 h2 h3 h4
theorem sd_ints (f : Nat → Int) (l : List Nat) : allSd (l.map fun k => T.d (.int (f k))) = true ∧ T.dats (l.map fun k => T.d (.int (f k))) = l.map fun k => PyData.int (f k) := by
  induction l with
  | nil => exact ⟨rfl, rfl⟩
  | cons k l ih =>
    refine ⟨?_, ?_⟩
    · unfold allSd; rw [List.map_cons, List.all_cons]; exact ih.1
    · rw [List.map_cons, T.dats, ih.2]; rfl
theorem ef_rng {p q pp : Pos} (hc : X.calm = true) (hm : X.mg "list" = none) (hg : Gl X "list") (hm2 : X.mg "range" = none) (hg2 : Gl X "range") (ha : EvT X a Γ t) (he : plainE a = true) (qi : t.isI = true) (h0 : 0 ≤ t.i) (h1 : t.i ≤ 1000) :
    EvF X (.Call (.Name "list" p) [.Call (.Name "range" pp) [a] [] q] [] pos) Γ (.n .l ((List.range t.i.toNat).map fun k => .d (.int (k : Nat)))) := by
  have st := star_plain he [] X.env
  refine ⟨fun G H σ E Q k => w_pe (pe_listRg hc hg hm (prg_1 hg2 hm2 pe_w st) rfl) (ha.run G H σ E _ fun v G1 H1 f1 s1 k1 => ⟨t.i, k1.int qi, RgOk.of_le (by omega) (by omega) (by omega) h0, fun r hr => ?_⟩)⟩
  obtain ⟨e1, e2⟩ := sd_ints (fun k => (k : Int)) (List.range t.i.toNat)
  refine fresh_d k s1 ?_ e1 hr
  rw [e2]
  unfold rgV
  rw [Int.sub_zero]
  generalize List.range t.i.toNat = l
  induction l with
  | nil => exact .nil
  | cons k l ih => rw [List.map_cons, List.map_cons, Int.zero_add]; exact .cons (.int _) ih
theorem ef_lof {p : Pos} (hm : X.mg "list" = none) (hg : Gl X "list") (ha : EvT X a Γ t) (he : plainE a = true) (ql : t.isL = true ∨ t.isT = true) (hs : allSd t.kids = true) : EvF X (.Call (.Name "list" p) [a] [] pos) Γ (.n .l t.kids) := by
  have st := star_plain he [] X.env
  refine ⟨fun G H σ E Q k => w_pe (pe_callTy call_list_of hg hm boot_list (pa_cons pe_w pa_nil st) (by decide) (by decide) st rfl) (ha.run G H σ E _ fun v G1 H1 f1 s1 k1 => ?_)⟩
  rcases ql with q | q
  · obtain ⟨p, vs, fq, rfl, hq, hd⟩ := k1.list s1.gh q
    exact ⟨p, vs, rfl, .inl hq, fun r hr => fresh_d k s1 (hd.sd hs) hs hr⟩
  · obtain ⟨p, vs, fq, rfl, hq, hd⟩ := k1.tup s1.gh q
    exact ⟨p, vs, rfl, .inr hq, fun r hr => fresh_d k s1 (hd.sd hs) hs hr⟩
theorem allSd_app {ts us : List T} (h1 : allSd ts = true) (h2 : allSd us = true) : allSd (ts ++ us) = true ∧ T.dats (ts ++ us) = T.dats ts ++ T.dats us := by
  refine ⟨by unfold allSd at *; rw [List.all_append, h1, h2]; rfl, ?_⟩
  clear h1 h2
  induction ts with
  | nil => rfl
  | cons t ts ih => rw [List.cons_append, T.dats, T.dats, List.cons_append, ih]
theorem ef_add (ha : EvT X a Γ t) (hb : EvT X b Γ u) (q1 : t.isL = true) (q2 : u.isL = true) (s1 : allSd t.kids = true) (s2 : allSd u.kids = true) (hl : t.kids.length + u.kids.length ≤ 100000) : EvF X (.BinOp a .Add b pos) Γ (.n .l (t.kids ++ u.kids)) := ⟨fun G H σ E Q q =>
  w_pe (pe_op Wl.op_catL pe_w pe_w) (ha.run G H σ E _ fun v G1 H1 f1 t1 k1 => hb.run G1 H1 σ (E.step t1) _ fun w G2 H2 f2 t2 k2 => by
    obtain ⟨p, vs, fq, rfl, hp, hd⟩ := (k1.step t2).list t2.gh q1
    obtain ⟨p', ws, fq', rfl, hp', hd'⟩ := k2.list t2.gh q2
    obtain ⟨e1, e2⟩ := allSd_app s1 s2
    exact ⟨p, p', vs, ws, rfl, rfl, hp, hp', by rw [hd.len, hd'.len]; exact Nat.le_trans hl (by decide), fun r hr => fresh_d q (t1.trans t2) (by rw [e2]; exact (hd.sd s1).append (hd'.sd s2)) e1 hr⟩)⟩
theorem ef_ife {k : Bool} (h : EvB X c Γ k) (h1 : k = true → EvF X a Γ t) (h2 : k = false → EvF X b Γ u) : EvF X (.IfExp c a b pos) Γ (if k = true then t else u) := ⟨fun G H σ E Q q =>
  w_pe (pe_ifExp pt_w pe_w pe_w) (h.run G H σ E _ fun G1 H1 s1 => by
    cases k with
    | true => exact iteT ((h1 rfl).run G1 H1 σ (E.step s1) Q fun u G2 H2 f2 s2 d n w => q u G2 H2 f2 (s1.trans s2) (by rw [if_pos rfl]; exact d) n fun a ha => ⟨s1.h.fre (w a ha).1, (w a ha).2⟩)
    | false => exact iteF ((h2 rfl).run G1 H1 σ (E.step s1) Q fun u G2 H2 f2 s2 d n w => q u G2 H2 f2 (s1.trans s2) (by rw [if_neg Bool.false_ne_true]; exact d) n fun a ha => ⟨s1.h.fre (w a ha).1, (w a ha).2⟩))⟩
theorem ef_dict0 : EvF X (.Dict [] [] pos) Γ (.n (.k []) []) := ⟨fun G H σ E Q q => w_pe pe_dnewK fun p hp => by
  refine q _ G (upd H p (.dK [])) ([p] ++ []) (Stp.put E.gh hp) (.n ⟨rfl, [], upd_same, rfl, rfl⟩ .nil) (by simp) fun a ha => ?_
  have : a = p := by simpa using ha
  subst this
  exact ⟨.inl hp, E.gh.free hp⟩⟩
/-- a comprehension's list, as one's own -/
theorem ef_lc {own : List (Str × Nat)} {scope : Scope} {tg iter elt : Expr} {ifs : List Expr} {its : List T} {p : T → Bool} {f : T → T} (hc : X.calm = true) (hN : X.N.Nodup) (src : SrcT X false tg iter Γ its) (ok : BlkOk X.N X.env.scope scope own) (len : its.length ≤ 100000) (tn : TurnT X Γ own scope tg elt ifs its p (fun t => (f t).dat)) (hsd : ∀ t, t ∈ its → p t = true → (f t).sd = true)
    (hs : ∀ x, foldedSetIterable iter X.env x = pure x) : EvF X (.ListComp elt [⟨tg, iter, ifs, 0⟩] scope pos) Γ (.n .l ((its.filter p).map f)) := ⟨fun G H σ E Q q => by
  obtain ⟨wi, hpi, hsrc⟩ := src.ex
  have h := lc_tell (hsrc G H σ E) len tn E (Q := Q) fun d vs G' H' t hH hG hd da => by
    have e : (its.filter p).map f = ((its.filter p).map fun t => (f t).dat).map .d := by
      rw [List.map_map]
      refine List.map_congr_left fun t ht => ?_
      have m := List.mem_filter.mp ht
      exact sd_eq (hsd t m.1 m.2)
    refine q _ G' H' ([d] ++ []) t (.n ⟨hd, rfl⟩ ?_) (by simp) fun a ha => ?_
    · rw [e]; exact .ofD da
    · have : a = d := by simpa using ha
      subst this
      exact ⟨hH, hG⟩
  exact w_pe (pe_lc hc hN hpi ok (fun s H C cl fp => ⟨fun pins s' σ H' v u Q I r z => z s H C cl fp pins s' u I r⟩) (fun s H C cl fp => ⟨fun pins s' σ H' Q I z => z s H C cl fp pins s' I⟩) (fun s H C cl fp => ⟨fun pins s' σ H' Q I z => z s H C cl fp pins s' I⟩) hs) h⟩
/-- to an effect -/
theorem EvF.m (h : EvF X e Γ t) {P : Sl → List Sl → Prop} {ex : Str → List Sl → Prop} (hp : resW t fun s => P s Γ) (hh : ∀ p, t ≠ .h p) : EvM X e Γ P ex := ⟨fun B G H σ E x Q k => h.run G H σ E.wenv Q fun v G' H' fp st d nd w => by
  cases t with
  | d x =>
    cases d with | d d =>
    exact k v _ G' H' Γ ((E.step st).push_d d) (.d _) hp
  | h p => exact absurd rfl (hh p)
  | n κ cs =>
    obtain ⟨p, rfl⟩ := node_ref d rfl
    exact k _ _ G' H' Γ (E.push_o d nd (fun a ha => (w a ha).1) (fun a ha => (w a ha).2) st) (.inr ⟨p, _, rfl, fun x z => by cases z⟩) (hp p)⟩
end
end Yl

end

section
/-! Y13: calls of defs, methods and classes that may change what is lent. -/
namespace Yl
open PySem PySem.Spec PyProof.Rows L2
open Wl (wE wT wA wS wSs pe_w pt_w pa_w ps_w pss_w w_pe w_pt w_pa w_ps w_pss Dt DtAll Stp Keeps NoT Wk WkAll dt_mono dtAll_mono dt_dp dtAll_dp sqT_mono dp_lay Fre same_upd same_upd2 set_self)
variable [Wl.Tb] [Tc]
section
variable {K : Frg} {B : Bs} {G H G' H' : Hp} {σ τ : L2.St} {Γ S : List Sl} {o : Option V} {s : Sl}
/-- the slots in another order -/
theorem Env.swap (l : τ.length = S.length) (E : Env K B G H (τ ++ σ) (S ++ Γ)) : Env K B G H (σ ++ τ) (Γ ++ S) := by
  obtain ⟨fps, h1, h2, h3⟩ := id E.sl
  obtain ⟨f1, f2, rfl, k1, k2⟩ := h1.split l
  refine ⟨E.gh, E.g0, E.new, E.keep, E.tab, E.nt, E.wh, E.wn, f2 ++ f1, SlsAt.app k2 k1, ?_, fun a ha => h3 a ?_⟩
  · rw [List.flatten_append] at h2 ⊢
    exact (List.perm_append_comm).nodup_iff.mp h2
  · rw [List.flatten_append] at ha ⊢
    exact List.mem_append.mpr ((List.mem_append.mp ha).symm)
theorem Env.len2 {vs : List V} {A : List Sl} (E : Env K B G H (vs.map some ++ σ) (A ++ Γ)) (l : A.length = vs.length) : σ.length = Γ.length := by
  have := E.len
  rw [List.length_append, List.length_append, List.length_map, l] at this
  omega
/-- the callee's own entry, and the way back -/
theorem Env.enter {vs : List V} {A : List Sl} (l : A.length = vs.length) (E : Env K B G H (vs.map some ++ σ) (A ++ Γ)) : ∃ B1 : Bs, Env K B1 G H (vs.map some) A ∧
    (∀ {G' H' : Hp} {v : V} {s : Sl} {A' : List Sl}, A'.length = A.length → Env K B1 G' H' (some v :: vs.map some) (s :: A') → Env K B G' H' (some v :: (vs.map some ++ σ)) (s :: (A' ++ Γ))) ∧
    (∀ {G' H' : Hp} {A' : List Sl}, A'.length = A.length → Env K B1 G' H' (vs.map some) A' → Env K B G' H' (vs.map some ++ σ) (A' ++ Γ)) := by
  have hl : σ.length = Γ.length := E.len2 l
  have E2 := E.swap (by rw [List.length_map, l])
  obtain ⟨O, E3, back⟩ := E2.frame hl
  refine ⟨_, E3, fun {G' H' v s A'} la E' => ?_, fun {G' H' A'} la E' => ?_⟩
  · have E4 := (back E').1
    exact (E4.swap hl : Env K B G' H' ((some v :: vs.map some) ++ σ) ((s :: A') ++ Γ))
  · exact (back E').1.swap hl
end
section
variable {X : Cx} {Γ : List Sl} {e a : Expr} {es : List Expr} {t : T} {as : List Ag} {P : Sl → List Sl → Prop} {ex : Str → List Sl → Prop} {pos : Pos}
/-- what a call asks, once its arguments stand -/
theorem call_sp {F : Spc} {B : Bs} {G H : Hp} {σ : L2.St} {vs : List V} {W : WX} {Q : VK} (E : Env X.K B G H σ Γ) (ha : AgsOk X.K G H σ vs as) (hW : ∀ (c : Str) (σ : L2.St) (G H : Hp) (Γ : List Sl), Env X.K B G H σ Γ → ex c Γ → W (.ref (Wl.clsAt X.mg c)) none σ H)
    (h : lendA as Γ fun A Γh => F A fun o A' => giveA as A' Γh fun Γ' => match o with
      | .ret t => resW t fun s => P s Γ'
      | .exc n => ex n Γ') (k : ∀ v s G' H' Γ', Env X.K B G' H' (some v :: σ) (s :: Γ') → Rs s → P s Γ' → Q v H') : spS X.K X.mg F vs H Q (fun cls d H => W cls d σ H) := by
  obtain ⟨A, Γh, ⟨hF, hno⟩, lA, E1⟩ := lend_env (τ := []) (S := []) rfl ha (lendA_no h) E
  obtain ⟨B1, E2, back, backx⟩ := Env.enter lA (by simpa using E1)
  refine ⟨B1, G, A, _, E2, hno, hF, fun v s G' H' A' E' r lA' p => ?_, fun n G' H' A' E' p => ?_⟩
  · have la : A'.length = A.length := lA'
    obtain ⟨Γ', p', E3⟩ := give_env (by rw [la, lA]) p (back la E')
    exact k v s G' H' Γ' E3 r (r.res' p')
  · have la : A'.length = A.length := by
      have := E'.len; have h2 := E2.len
      rw [← this, h2]
    obtain ⟨Γ', p', E3⟩ := give_env (by rw [la, lA]) p ((backx la E').push_un none)
    exact hW n σ G' H' Γ' E3.pop p'
theorem em_call {F : Spc} {f : Str} {p : Pos} {k j m : Nat} (fg : Wl.FG X.prog X.w X.K X.mg X.base k f m (spS X.K X.mg F)) (hr : Room j X.A) (hkj : k ≤ j) (ha : EvAg X (e :: es) Γ as) (h : lendA as Γ fun A Γh => F A fun o A' => giveA as A' Γh fun Γ' => match o with
      | .ret t => resW t fun s => P s Γ'
      | .exc n => ex n Γ') (hg : Gl X f) (hdb : (f == ("__debug__" : Str)) = false)
    (he : starEach (e :: es) X.env = (false, eval e X.env) :: starEach es X.env) (hpl : (backTo pos (starEach es X.env)).any (·.1) = false) : EvM X (.Call (.Name f p) (e :: es) [] pos) Γ P ex := ⟨fun B G H σ E ⟨W, tk, hW⟩ Q q => by
  obtain ⟨a, fd, ps, hps, hm, hkp, hb, hf⟩ := fg.ex
  refine w_pe (pe_callS hf (hr.mono hkj) hg hm hkp hb (fun σ => L2N.passAt tk σ) pa_w hdb he hpl) (ha.run G H σ E.wenv _ fun vs G1 H1 s1 k1 => ?_)
  exact call_sp (E.step s1) k1 hW h q⟩
/-- o.m(..), at these slots -/
theorem w_meth {k : Nat} {f C : Addr} {fd : FuncData} {ps : List Str} {sp : Sp} {W : WX} {m : Str} {apos : Pos} {o : Expr} {pl : Sem Bool} {σ : L2.St} {H : Hp} {Q : VK} (c : Cls X.K C) (hm : Meth X.K C m f) (F : FnOk X.prog X.w X.K X.mg X.base (L2N.CX X.prog X.w) k f fd ps sp) (hr : Room k X.A) (hb : Binds X.K fd ps []) (tk : L2N.Takes X W)
    (hst : es = [] ∨ ∃ e es', es = e :: es' ∧ starEach (e :: es') X.env = (false, eval e X.env) :: starEach es' X.env ∧ (backTo pos (starEach es' X.env)).any (·.1) = false)
    (ht : eval (.Call (.Attribute o m apos) es [] pos) X.env = (do
      let ov ← eval o X.env
      standAt apos.atName
      let (f, first) ← holding [ov] (getMethod ov m pl)
      callWith pos f first (backTo pos (starEach es X.env)) (backToKw pos (keywordEach [] X.env))))
    (h : wE X o σ H fun x H1 => ∃ a dx fs, x = .ref a ∧ H1 a = some (.ins C dx fs) ∧ fs.lookup m = none ∧ (es = [] → sp [x] H1 Q (fun cls d H => W cls d σ H)) ∧ (es ≠ [] → wA X es σ H1 fun vs H2 => sp (x :: vs) H2 Q (fun cls d H => W cls d σ H))) : wE X (.Call (.Attribute o m apos) es [] pos) σ H Q := by
  intro pins s I
  refine PySem.W.methodCall_KW (pl := pl) (thn (h pins s I) fun u s1 ⟨x, H1, I1, rx, a, dx, fs, ex, ea, l, q0, q⟩ => ?_) ht
  subst ex
  obtain rfl : u = Value.ref a := rx
  refine getmeth_ok I1 ea c hm l ?_
  rcases hst with rfl | ⟨e, es', rfl, h1, h2⟩
  · exact PySem.W.callWith_K0 (first := [.ref a]) I1.kIn hm.kp (run_fnS (us := [.ref a]) (vs := [.ref a]) (E := fun σ cls d H => W cls d σ H) F hr hb (L2N.passAt tk σ) I1 (.cons rfl .nil) (q0 rfl))
  · refine PySem.W.callWith_K (first := [.ref a]) (h₀ := X.base) I1.ok.mod.kin hm.kp (thn (q (by simp) pos pins s1 I1) fun us s2 ⟨vs, H2, I2, r, q2⟩ => ⟨I2.kIn, ?_⟩) h1 h2
    exact run_fnS (us := .ref a :: us) (vs := .ref a :: vs) (E := fun σ cls d H => W cls d σ H) F hr hb (L2N.passAt tk σ) I2 (.cons rfl r) q2
/-- C(..), at these slots -/
theorem w_make {x : Str} {p : Pos} {k : Nat} {f C : Addr} {fd : FuncData} {ps : List Str} {sp : Sp} {W : WX} {σ : L2.St} {H : Hp} {Q : VK} (M : Mk X.K C f) (F : FnOk X.prog X.w X.K X.mg X.base (L2N.CX X.prog X.w) k f fd ps sp) (hr : Room (k + 1) X.A) (hg : Gl X x) (hm : X.mg x = some (.ref C)) (hb : Binds X.K fd ps []) (tk : L2N.Takes X W)
    (hst : es = [] ∨ ∃ e es', es = e :: es' ∧ starEach (e :: es') X.env = (false, eval e X.env) :: starEach es' X.env ∧ (backTo pos (starEach es' X.env)).any (·.1) = false) (hdb : (x == ("__debug__" : Str)) = false)
    (h0 : es = [] → ∀ x dx, H x = none → H dx = none → dx ≠ x → sp [.ref x] (upd (upd H dx (.own x)) x (.ins C dx [])) (fun v H2 => v = .non ∧ Q (.ref x) H2) (fun cls d H => W cls d σ H))
    (h : es ≠ [] → wA X es σ H fun vs H1 => ∀ x dx, H1 x = none → H1 dx = none → dx ≠ x → sp (.ref x :: vs) (upd (upd H1 dx (.own x)) x (.ins C dx [])) (fun v H2 => v = .non ∧ Q (.ref x) H2) (fun cls d H => W cls d σ H)) : wE X (.Call (.Name x p) es [] pos) σ H Q := by
  intro pins s I
  have run : ∀ {s : Shared} {H : Hp} {us : List Value} {vs : List V}, Inv X pins σ H s → Vals vs us → (∀ x dx, H x = none → H dx = none → dx ≠ x → sp (.ref x :: vs) (upd (upd H dx (.own x)) x (.ins C dx [])) (fun v H2 => v = .non ∧ Q (.ref x) H2) (fun cls d H => W cls d σ H)) →
      wpAny (model X.prog X.w) X.A (call (.ref C) us) (EP X pins σ Q) X.xe s := by
    intro s H us vs I r h
    have hq := h (s.heap.objs.size + 1) s.heap.objs.size (I.hok.fresh (Nat.le_succ _)) (I.hok.fresh (Nat.le_refl _)) (Nat.ne_of_lt (Nat.lt_succ_self _))
    have I2 := Inv.made (C := C) I
    have r2 : Vals (V.ref (s.heap.objs.size + 1) :: vs) (Value.ref (s.heap.objs.size + 1) :: us) := .cons rfl r
    have hl : (Value.ref (s.heap.objs.size + 1) :: us).length = ps.length := by
      rw [← r2.length]; exact F.len _ _ _ _ hq
    have b := hb _ (Value.ref (s.heap.objs.size + 1) :: us) I2.kIn (by rw [List.append_nil]; exact hl)
    rw [List.append_nil] at b
    refine wpAny_call (make_map (f := f) I.kIn M.makes M.init (beq_iff_eq.mp M.fn) (codeAny_mono (F.run _ X.stack _ _ ⟨Value.ref (s.heap.objs.size + 1) :: us, []⟩ (Value.ref (s.heap.objs.size + 1) :: us) _ _ _ (hr.make C us [])
      (I2.env0.make C us []) b r2 hq) fun r s' hq' => ?_))
    cases r with
    | error e => exact L2N.passAt tk σ pins _ _ e s' I2 hq'
    | ok fl =>
      cases fl with
      | ret u =>
        obtain ⟨v, H', I3, rv, ev, q3⟩ := I2.after hq'
        subst ev
        exact ⟨rv, ⟨V.ref (s.heap.objs.size + 1), H', I3, rfl, q3⟩⟩
      | next => exact False.elim hq'
      | brk => exact False.elim hq'
      | cont => exact False.elim hq'
  refine wpAny_Call_Name_kw (ld_glob I hg hm ?_ hdb)
  rcases hst with rfl | ⟨e, es', rfl, h1, h2⟩
  · exact PySem.W.callWith_K0 I.kIn M.kp (run I .nil (h0 rfl))
  · refine PySem.W.callWith_K (h₀ := X.base) I.ok.mod.kin M.kp (thn (h (by simp) pos pins s I) fun us s1 ⟨vs, H1, I1, r, q⟩ => ⟨I1.kIn, ?_⟩) h1 h2
    exact run I1 r q
theorem em_meth {F : Spc} {c m : Str} {k j ar : Nat} {apos : Pos} {o : Expr} {pl : Sem Bool} {j0 : Nat} {π0 : List Nat} {t0 t1 : T} (M : MG X.prog X.w X.K X.mg X.base k c m ar (spS X.K X.mg F)) (hr : Room j X.A) (hkj : k ≤ j) (ho : EvPa X o Γ j0 π0) (hj : rdO Γ j0 = some t0) (hg : get π0 t0 = some t1) (hi : isIns t1 c m = true) (ha : EvAg X es Γ as)
    (h : lendA (.l j0 π0 :: as) Γ fun A Γh => F A fun o A' => giveA (.l j0 π0 :: as) A' Γh fun Γ' => match o with
      | .ret t => resW t fun s => P s Γ'
      | .exc n => ex n Γ') (ha0 : es = [] → as = [])
    (hst : es = [] ∨ ∃ e es', es = e :: es' ∧ starEach (e :: es') X.env = (false, eval e X.env) :: starEach es' X.env ∧ (backTo pos (starEach es' X.env)).any (·.1) = false)
    (ht : eval (.Call (.Attribute o m apos) es [] pos) X.env = (do
      let ov ← eval o X.env
      standAt apos.atName
      let (f, first) ← holding [ov] (getMethod ov m pl)
      callWith pos f first (backTo pos (starEach es X.env)) (backToKw pos (keywordEach [] X.env)))) : EvM X (.Call (.Attribute o m apos) es [] pos) Γ P ex := ⟨fun B G H σ E ⟨W, tk, hW⟩ Q q => by
  obtain ⟨f, fd, ps, hps, cl, hm, hb, hf⟩ := M.ex
  obtain ⟨fs, cs, rfl, hno⟩ := isIns_ex hi
  refine w_meth cl hm hf (hr.mono hkj) hb tk hst ht (ho.run G H σ E.wenv _ fun v G1 H1 s1 k1 => ?_)
  obtain ⟨fp, d⟩ := pa_tree (E.step s1).wenv k1 hj hg
  cases d with
  | n n1 n2 =>
    rename_i p vs own fq
    obtain ⟨dx, fl, m1, rfl, rfl, m2, rfl⟩ := n1
    refine ⟨p, dx, fl, rfl, m1, look_none hno, fun z => ?_, fun z => ha.run G1 H1 σ (E.step s1).wenv _ fun vs2 G2 H2 s2 k2 => ?_⟩
    · obtain rfl := ha0 z
      exact call_sp (E.step s1) (.cons k1 .nil) hW h q
    · refine call_sp ((E.step s1).step s2) (.cons ?_ k2) hW h q
      exact (AgsOk.step (.cons k1 .nil) s2 |> fun z => by cases z with | cons z _ => exact z)⟩
theorem em_make {F : Spc} {c : Str} {p : Pos} {k j : Nat} {f : Addr} {fd : FuncData} {ps : List Str} (M : Mk X.K (Tc.C c) f) (hf : FnOk X.prog X.w X.K X.mg X.base (L2N.CX X.prog X.w) k f fd ps (spS X.K X.mg F)) (hr : Room j X.A) (hkj : k + 1 ≤ j) (hm : X.mg c = some (.ref (Tc.C c))) (hb : Binds X.K fd ps []) (ha : EvAg X es Γ as)
    (h : lendA as Γ fun A Γh => ∀ p, F (.o p (.n (.i c []) []) :: A) fun o A' => match A' with
      | .o _ t :: A'' => giveA as A'' Γh fun Γ' => match o with
        | .ret r => r = .d .none ∧ isNode t = true ∧ P (.o p t) Γ'
        | .exc n => ex n Γ'
      | _ => False) (ha0 : es = [] → as = []) (hg : Gl X c) (hdb : (c == ("__debug__" : Str)) = false)
    (hst : es = [] ∨ ∃ e es', es = e :: es' ∧ starEach (e :: es') X.env = (false, eval e X.env) :: starEach es' X.env ∧ (backTo pos (starEach es' X.env)).any (·.1) = false) : EvM X (.Call (.Name c p) es [] pos) Γ P ex := ⟨fun B G H σ E ⟨W, tk, hW⟩ Q q => by
  have key : ∀ {G H : Hp} {vs : List V}, Env X.K B G H σ Γ → AgsOk X.K G H σ vs as → ∀ x dx, H x = none → H dx = none → dx ≠ x → spS X.K X.mg F (.ref x :: vs) (upd (upd H dx (.own x)) x (.ins (Tc.C c) dx [])) (fun v H2 => v = .non ∧ Q (.ref x) H2) (fun cls d H => W cls d σ H) := by
    intro G H vs E k x dx hx hdx hne
    obtain ⟨A, Γh, ⟨hF, hno⟩, lA, E1⟩ := lend_env (τ := []) (S := []) rfl k (lendA_no h) E
    have E1 : Env X.K B G H (vs.map some ++ σ) (A ++ Γh) := by simpa using E1
    have s1 : Stp G H G (upd H dx (.own x)) := Stp.put E1.gh hdx
    have hx2 : upd H dx (.own x) x = none := by rw [upd_ne fun z => hne z.symm]; exact hx
    have s2 : Stp G (upd H dx (.own x)) G (upd (upd H dx (.own x)) x (.ins (Tc.C c) dx [])) := Stp.put s1.gh hx2
    have ti : TAt X.K G (upd (upd H dx (.own x)) x (.ins (Tc.C c) dx [])) (.ref x) (.n (.i c []) []) ([x, dx] ++ []) := .n ⟨dx, [], upd_same, rfl, rfl, by rw [upd_ne hne, upd_same], rfl⟩ .nil
    have E2 := E1.push_o ti (by simp [Ne.symm hne]) (fun a ha => by
      rcases List.mem_cons.mp (show a ∈ [x, dx] by simpa using ha) with z | z
      · rw [z]; exact .inl hx
      · rw [List.mem_singleton.mp z]; exact .inl hdx) (fun a ha => by
      rcases List.mem_cons.mp (show a ∈ [x, dx] by simpa using ha) with z | z
      · rw [z]; exact E1.gh.free hx
      · rw [List.mem_singleton.mp z]; exact E1.gh.free hdx) (s1.trans s2)
    obtain ⟨B1, E3, back, backx⟩ := Env.enter (vs := .ref x :: vs) (A := .o x (.n (.i c []) []) :: A) (by simp [lA]) E2
    refine ⟨B1, G, _, _, E3, fun s hs => ?_, hF x, fun v s G' H' A' E' r lA' pp => ?_, fun n G' H' A' E' pp => ?_⟩
    · rcases List.mem_cons.mp hs with z | z
      · rw [z]; intro y; cases y
      · exact hno s z
    · split at pp
      · rename_i p' t A''
        have la : A''.length = vs.length := by
          simp only [List.length_cons] at lA'; omega
        have E4 := back lA' E'
        have e4 : Env X.K B G' H' (some v :: (some (.ref x) :: (vs.map some ++ σ))) (s :: (.o p' t :: (A'' ++ Γh))) := E4
        have ex : p' = x := by
          obtain ⟨fps, g1, _, _⟩ := e4.pop.sl
          obtain ⟨_, _, _, g2, g3⟩ := g1.get (i := 0) rfl
          cases g2
          have := g3.1
          injection this with this
          injection this with this
          exact this.symm
        subst ex
        obtain ⟨Γ', p3, E5⟩ := give_env (r := some (.ref p')) (s := .o p' t) (by rw [la]) pp e4.pop
        obtain ⟨p4, p5, p6⟩ := p3
        refine ⟨?_, q _ _ G' H' Γ' E5 (.inr ⟨p', t, rfl, fun z y => by rw [y] at p5; cases p5⟩) p6⟩
        have en : s = .w (.d .none) := by
          rcases r with ⟨z, rfl⟩ | ⟨z, u, rfl, hz⟩
          · exact congrArg Sl.w p4
          · exact absurd p4 (hz _)
        rw [en] at e4
        obtain ⟨fps, g1, _, _⟩ := e4.sl
        obtain ⟨_, _, _, g2, g3⟩ := g1.get (i := 0) rfl
        cases g2
        obtain ⟨_, w, fq, hw, hd⟩ := g3
        cases hw
        cases hd with | d hd => cases hd; rfl
      · exact pp.elim
    · split at pp
      · rename_i p' t A''
        have la : A''.length = vs.length := by
          have := E'.len
          simp only [List.length_map, List.length_cons] at this; omega
        have E4 := backx (by simp [la, lA]) E'
        have e4 : Env X.K B G' H' (some (.ref x) :: (vs.map some ++ σ)) (.o p' t :: (A'' ++ Γh)) := E4
        obtain ⟨Γ', p3, E5⟩ := give_env (r := some (.ref x)) (s := .o p' t) (by rw [la]) pp e4
        exact hW n σ G' H' Γ' E5.pop p3
      · exact pp.elim
  refine w_make M hf (hr.mono hkj) hg hm hb tk hst hdb (fun z => ?_) (fun z => ha.run G H σ E.wenv _ fun vs G1 H1 s1 k1 => key (E.step s1) k1)
  obtain rfl := ha0 z
  exact key E .nil⟩
end
end Yl

end

section
/-! Y14: a tree in its place takes another one in. -/
namespace Yl
open PySem PySem.Spec PyProof.Rows L2
open Wl (wE wT wA wS wSs pe_w pt_w pa_w ps_w pss_w w_pe w_pt w_pa w_ps w_pss Dt DtAll Stp Keeps NoT Wk WkAll dt_mono dtAll_mono dt_dp dtAll_dp sqT_mono dp_lay Fre same_upd same_upd2 set_self)
variable [Wl.Tb] [Tc]
section
variable {K : Frg} {B : Bs} {G H G' H' : Hp} {σ : L2.St} {Γ : List Sl} {o o1 o0 : Option V} {s s1 s0 : Sl}
/-- the two things ahead in view; they become one -/
theorem Env.front2 (E : Env K B G H (o1 :: o0 :: σ) (s1 :: s0 :: Γ)) : ∃ f1 f0 : List Addr, SlAt K G B.W H f1 o1 s1 ∧ SlAt K G B.W H f0 o0 s0 ∧ (f1 ++ f0).Nodup ∧ (∀ a, a ∈ f1 ++ f0 → G a = none ∧ B.W a = none) ∧
    ∀ {G' H' : Hp} {f' : List Addr} {o' : Option V} {s' : Sl}, NoT G' → Same G G' → Same G' H' → (∀ a, a ∉ f1 ++ f0 → H a ≠ none → H' a = H a ∧ G' a = G a) → (∀ a, G' a = G a ∨ Fre B.H a ∨ a ∈ B.O) → SlAt K G' B.W H' f' o' s' → f'.Nodup → (∀ a, a ∈ f' → (a ∈ f1 ++ f0 ∨ H a = none) ∧ G' a = none) → Env K B G' H' (o' :: σ) (s' :: Γ) := by
  obtain ⟨fps, h1, h2, h3⟩ := E.sl
  match fps, h1, h2, h3 with
  | f1 :: f0 :: fps, h1, h2, h3 =>
    obtain ⟨k1, k0, k⟩ := h1
    have e : (f1 :: f0 :: fps).flatten = (f1 ++ f0) ++ fps.flatten := by simp
    rw [e] at h2 h3
    obtain ⟨n1, n2, n3⟩ := List.nodup_append.mp h2
    refine ⟨f1, f0, k1, k0, n1, fun a ha => ⟨(h3 a (List.mem_append_left _ ha)).1, (h3 a (List.mem_append_left _ ha)).2.1⟩, ?_⟩
    intro G' H' f' o' s' ntg g gh ch nw hs' nd sub
    have lv1 : ∀ a, a ∈ f1 ++ f0 → ∃ o, H a = some o ∧ isPl o = true := fun a ha => by
      rcases List.mem_append.mp ha with q | q
      · exact k1.live a q
      · exact k0.live a q
    have lv := k.live
    have lvn : ∀ a, a ∈ fps.flatten → H a ≠ none ∧ a ∉ f1 ++ f0 := fun a ha => ⟨by obtain ⟨o, e, _⟩ := lv a ha; rw [e]; simp, fun z => n3 a z a ha rfl⟩
    have npl : ∀ a o, H a = some o → isPl o = false → a ∉ f1 ++ f0 := fun a o e q z => by
      obtain ⟨o', e', p⟩ := lv1 a z
      rw [e] at e'; cases e'; rw [q] at p; cases p
    have wne : ∀ a o, B.W a = some o → H a ≠ none ∧ a ∉ f1 ++ f0 := fun a o e => ⟨by rw [E.wh a o e]; simp, fun z => by
      have := (h3 a (List.mem_append_left _ z)).2.1
      rw [e] at this; cases this⟩
    refine ⟨gh, E.g0.trans g, fun a => ?_, fun a u e n nt => ?_, fun P hP => ?_, ntg, fun a o e => ?_, E.wn, f' :: fps, ⟨hs', k.mono g fun a ha => (ch a (lvn a ha).2 (lvn a ha).1).1⟩, ?_, fun a ha => ?_⟩
    · rcases nw a with q | q
      · rcases E.new a with z | z
        · exact .inl (q.trans z)
        · exact .inr z
      · exact .inr q
    · have hH := E.keep a u e n nt
      have na : a ∉ f1 ++ f0 := fun z => by
        rcases (h3 a (List.mem_append_left _ z)).2.2 with q | q
        · exact q.no e nt
        · exact n q
      rw [(ch a na (by rw [hH]; simp)).1]
      exact hH
    · obtain ⟨ps, t1, t2, t3⟩ := E.tab P hP
      refine ⟨ps, ?_, t2, fun pos cv hc => ?_⟩
      · rw [(ch P.1 (npl P.1 _ t1 rfl) (by rw [t1]; simp)).1]
        exact t1
      · obtain ⟨c, e1, e2⟩ := t3 pos cv hc
        refine ⟨c, e1, ?_⟩
        rw [(ch c (npl c _ e2 rfl) (by rw [e2]; simp)).1]
        exact e2
    · rw [(ch a (wne a o e).2 (wne a o e).1).1]; exact E.wh a o e
    · rw [List.flatten_cons]
      refine List.nodup_append.mpr ⟨nd, n2, fun a ha b hb z => ?_⟩
      subst z
      rcases (sub a ha).1 with q | q
      · exact (lvn a hb).2 q
      · exact (lvn a hb).1 q
    · rw [List.flatten_cons] at ha
      rcases List.mem_append.mp ha with q | q
      · refine ⟨(sub a q).2, ?_⟩
        rcases (sub a q).1 with z | z
        · exact (h3 a (List.mem_append_left _ z)).2
        · refine ⟨?_, E.fre (.inl z)⟩
          cases e : B.W a with
          | none => rfl
          | some o => exact absurd z (wne a o e).1
      · obtain ⟨z1, z2⟩ := h3 a (List.mem_append_right _ q)
        refine ⟨?_, z2⟩
        rw [(ch a (lvn a q).2 (lvn a q).1).2]
        exact z1
/-- what is told, as a tree -/
theorem Rs.tat {fp : List Addr} (r : Rs s) (wh : Same B.W H) (h : SlAt K G B.W H fp o s) : ∃ v, o = some v ∧ TAt K G H v (slT s) fp := by
  rcases r with ⟨x, rfl⟩ | ⟨p, t, rfl, _⟩
  · obtain ⟨rfl, v, fq, rfl, d⟩ := h
    cases d with | d d => exact ⟨v, rfl, .d d⟩
  · exact ⟨_, h.1, h.2⟩
theorem TAts.app : ∀ {vs : List V} {ts : List T} {fp : List Addr} {ws : List V} {us : List T} {fq : List Addr}, TAts K G H vs ts fp → TAts K G H ws us fq → TAts K G H (vs ++ ws) (ts ++ us) (fp ++ fq)
  | _, _, _, _, _, _, .nil, k => k
  | _, _, _, _, _, _, .cons h t, k => by
    rw [List.append_assoc]
    exact .cons h (t.app k)
theorem TAts.set : ∀ {vs : List V} {ts : List T} {fp : List Addr} {k : Nat} {v : V} {t : T} {fv : List Addr}, TAts K G H vs ts fp → TAt K G H v t fv → k < ts.length → ∃ fp', TAts K G H (vs.set k v) (ts.set k t) fp' ∧ (∀ a, a ∈ fp' → a ∈ fp ∨ a ∈ fv) ∧ ((fp ++ fv).Nodup → fp'.Nodup)
  | _, _, _, _, _, _, _, .nil, _, l => by simp at l
  | _, _, _, 0, v, t, fv, .cons (fp := f1) (fq := f2) h q, d, _ => by
    refine ⟨fv ++ f2, .cons d q, fun a ha => ?_, fun nd => ?_⟩
    · rcases List.mem_append.mp ha with z | z
      · exact .inr z
      · exact .inl (List.mem_append_right _ z)
    · obtain ⟨n1, n2, n3⟩ := List.nodup_append.mp nd
      exact List.nodup_append.mpr ⟨n2, (List.nodup_append.mp n1).2.1, fun a ha b hb z => n3 b (List.mem_append_right _ hb) a ha z.symm⟩
  | _, _, _, k + 1, v, t, fv, .cons (fp := f1) (fq := f2) h q, d, l => by
    obtain ⟨fp', e1, e2, e3⟩ := TAts.set (k := k) q d (by simpa using l)
    refine ⟨f1 ++ fp', .cons h e1, fun a ha => ?_, fun nd => ?_⟩
    · rcases List.mem_append.mp ha with z | z
      · exact .inl (List.mem_append_left _ z)
      · rcases e2 a z with z | z
        · exact .inl (List.mem_append_right _ z)
        · exact .inr z
    · obtain ⟨n1, n2, n3⟩ := List.nodup_append.mp nd
      obtain ⟨m1, m2, m3⟩ := List.nodup_append.mp n1
      refine List.nodup_append.mpr ⟨m1, e3 (List.nodup_append.mpr ⟨m2, n2, fun a ha b hb z => n3 a (List.mem_append_right _ ha) b hb z⟩), fun a ha b hb z => ?_⟩
      subst z
      rcases e2 a hb with w | w
      · exact m3 a ha a w rfl
      · exact n3 a (List.mem_append_left _ ha) a w rfl
/-- a list ahead takes in what stands behind it -/
theorem Env.append2 {p : Addr} {cs : List T} (E : Env K B G H (o1 :: o :: σ) (.o p (.n .l cs) :: s :: Γ)) (r : Rs s) : ∃ vs v, o1 = some (.ref p) ∧ H p = some (.lst vs) ∧ vs.length = cs.length ∧ o = some v ∧ Env K B G (upd H p (.lst (vs ++ [v]))) (some (.ref p) :: σ) (.o p (.n .l (cs ++ [slT s])) :: Γ) := by
  obtain ⟨f1, f0, h10, h0, nd, gw, k⟩ := E.front2
  obtain ⟨rfl, h1⟩ := (show o1 = some (.ref p) ∧ TAt K G H (.ref p) (.n .l cs) f1 from h10)
  obtain ⟨v, rfl, ht⟩ := r.tat E.wh h0
  cases h1 with
  | n n1 n2 =>
    rename_i vs own fq
    obtain ⟨hp, rfl⟩ := n1
    have gp : G p = none := (gw p (by simp)).1
    have hne : ∀ a, a ∈ fq ++ f0 → a ≠ p := fun a ha z => by
      rw [List.append_assoc] at nd
      exact (List.nodup_append.mp nd).2.2 p (by simp) a ha z.symm
    refine ⟨vs, v, rfl, hp, n2.len, rfl, ?_⟩
    have nd' : ([p] ++ (fq ++ f0)).Nodup := by rw [← List.append_assoc]; exact nd
    refine k (f' := [p] ++ (fq ++ f0)) E.nt (Same.refl _) (same_upd2 E.gh gp) (fun a hn hh => ⟨upd_ne fun z => hn (by simp [z]), rfl⟩) (fun _ => .inl rfl) ⟨rfl, .n ⟨upd_same, rfl⟩ (TAts.app (tats_mono (Same.refl _) _ _ _ n2 fun a ha => upd_ne (hne a (List.mem_append_left _ ha))) (fq := f0) ?_)⟩ nd' fun a ha => ⟨.inl (by rw [List.append_assoc]; exact ha), (gw a (by rw [List.append_assoc]; exact ha)).1⟩
    have := TAts.cons (tat_mono (Same.refl _) _ _ _ ht fun a ha => upd_ne (hne a (List.mem_append_right _ ha))) (TAts.nil (K := K) (G := G) (H := upd H p (.lst (vs ++ [v]))))
    rw [List.append_nil] at this
    exact this
/-- an instance ahead gets an attribute -/
theorem Env.field2 {p : Addr} {c f : Str} {fs : List Str} {cs : List T} (E : Env K B G H (o1 :: o :: σ) (.o p (.n (.i c fs) cs) :: s :: Γ)) (r : Rs s) (hl : cs.length = fs.length) : ∃ dx fl v, o1 = some (.ref p) ∧ H p = some (.ins (Tc.C c) dx fl) ∧ fl.map (·.1) = fs ∧ o = some v ∧
    Env K B G (upd H p (.ins (Tc.C c) dx (putF f v fl))) (some (.ref p) :: σ) (.o p (match fldIx fs f with
      | some k => .n (.i c fs) (cs.set k (slT s))
      | none => .n (.i c (fs ++ [f])) (cs ++ [slT s])) :: Γ) := by
  obtain ⟨f1, f0, h10, h0, nd, gw, k⟩ := E.front2
  obtain ⟨rfl, h1⟩ := (show o1 = some (.ref p) ∧ TAt K G H (.ref p) (.n (.i c fs) cs) f1 from h10)
  obtain ⟨v, rfl, ht⟩ := r.tat E.wh h0
  cases h1 with
  | n n1 n2 =>
    rename_i vs own fq
    obtain ⟨dx, fl, hp, rfl, rfl, hd, rfl⟩ := n1
    have gp : G p = none := (gw p (by simp)).1
    have hne : ∀ a, a ∈ fq ++ f0 → a ≠ p := fun a ha z => by
      rw [List.append_assoc] at nd
      exact (List.nodup_append.mp nd).2.2 p (by simp) a ha z.symm
    have pdx : p ≠ dx := fun z => by
      have := (List.nodup_append.mp (List.nodup_append.mp nd).1).1
      simp [z] at this
    refine ⟨dx, fl, v, rfl, hp, rfl, rfl, ?_⟩
    have tm : TAt K G (upd H p (.ins (Tc.C c) dx (putF f v fl))) v (slT s) f0 := tat_mono (Same.refl _) _ _ _ ht fun a ha => upd_ne (hne a (List.mem_append_right _ ha))
    have ts : TAts K G (upd H p (.ins (Tc.C c) dx (putF f v fl))) (fl.map (·.2)) cs fq := tats_mono (Same.refl _) _ _ _ n2 fun a ha => upd_ne (hne a (List.mem_append_left _ ha))
    have hd' : (upd H p (.ins (Tc.C c) dx (putF f v fl))) dx = some (.own p) := by rw [upd_ne fun z => pdx z.symm]; exact hd
    obtain ⟨n3, n4, n5⟩ := List.nodup_append.mp nd
    obtain ⟨m3, m4, m5⟩ := List.nodup_append.mp n3
    have nq : (fq ++ f0).Nodup := List.nodup_append.mpr ⟨m4, n4, fun a ha b hb z => n5 a (List.mem_append_right _ ha) b hb z⟩
    have fin : ∀ {t' : T} {f' : List Addr}, TAt K G (upd H p (.ins (Tc.C c) dx (putF f v fl))) (.ref p) t' ([p, dx] ++ f') → (∀ a, a ∈ f' → a ∈ fq ∨ a ∈ f0) → f'.Nodup → Env K B G (upd H p (.ins (Tc.C c) dx (putF f v fl))) (some (.ref p) :: σ) (.o p t' :: Γ) := by
      intro t' f' h' sub nf
      have sub2 : ∀ a, a ∈ [p, dx] ++ f' → a ∈ ([p, dx] ++ fq) ++ f0 := fun a ha => by
        simp only [List.mem_append] at ha ⊢
        rcases ha with q | q
        · exact .inl (.inl q)
        · rcases sub a q with z | z
          · exact .inl (.inr z)
          · exact .inr z
      refine k (f' := [p, dx] ++ f') E.nt (Same.refl _) (same_upd2 E.gh gp) (fun a hn hh => ⟨upd_ne fun z => hn (by simp [z]), rfl⟩) (fun _ => .inl rfl) ⟨rfl, h'⟩ (List.nodup_append.mpr ⟨m3, nf, fun a ha b hb z => ?_⟩) fun a ha => ⟨.inl (sub2 a ha), (gw a (sub2 a ha)).1⟩
      subst z
      rcases sub a hb with q | q
      · exact m5 a ha a q rfl
      · exact n5 a (List.mem_append_left _ ha) a q rfl
    have pf : ∀ (fl : List (Str × V)), (match fldIx (fl.map (·.1)) f with
        | some k => (putF f v fl).map (·.1) = fl.map (·.1) ∧ (putF f v fl).map (·.2) = (fl.map (·.2)).set k v ∧ k < fl.length
        | none => (putF f v fl).map (·.1) = fl.map (·.1) ++ [f] ∧ (putF f v fl).map (·.2) = fl.map (·.2) ++ [v]) := by
      intro fl
      induction fl with
      | nil => exact ⟨rfl, rfl⟩
      | cons q fl ih =>
        obtain ⟨n, w⟩ := q
        simp only [List.map_cons, fldIx]
        by_cases z : n = f
        · rw [if_pos z]
          refine ⟨?_, ?_, by simp⟩
          · show ((if n = f then (n, v) :: fl else (n, w) :: putF f v fl)).map (·.1) = _
            rw [if_pos z]; rfl
          · show ((if n = f then (n, v) :: fl else (n, w) :: putF f v fl)).map (·.2) = _
            rw [if_pos z]; rfl
        · rw [if_neg z]
          have e : putF f v ((n, w) :: fl) = (n, w) :: putF f v fl := by
            show (if n = f then (n, v) :: fl else (n, w) :: putF f v fl) = _
            rw [if_neg z]
          rw [e]
          cases y : fldIx (fl.map (·.1)) f with
          | none =>
            rw [y] at ih
            exact ⟨by simp [ih.1], by simp [ih.2]⟩
          | some k =>
            rw [y] at ih
            exact ⟨by simp [ih.1], by simp [ih.2.1], by simpa using ih.2.2⟩
    have pfl := pf fl
    cases y : fldIx (fl.map (·.1)) f with
    | some n =>
      rw [y] at pfl
      obtain ⟨q1, q2, q3⟩ := pfl
      obtain ⟨fp', e1, e2, e3⟩ := TAts.set (k := n) ts tm (by rw [hl, List.length_map]; exact q3)
      exact fin (.n ⟨dx, _, upd_same, q1, q2, hd', rfl⟩ e1) e2 (e3 nq)
    | none =>
      rw [y] at pfl
      obtain ⟨q1, q2⟩ := pfl
      have e1 := TAts.app ts (TAts.cons tm .nil)
      rw [List.append_nil] at e1
      exact fin (.n ⟨dx, _, upd_same, q1, q2, hd', rfl⟩ e1) (fun a ha => List.mem_append.mp ha) nq
end
end Yl

end

section
/-! Y15: lists and dicts changed in their places. -/
namespace Yl
open PySem PySem.Spec PyProof.Rows L2
open Wl (wE wT wA wS wSs pe_w pt_w pa_w ps_w pss_w w_pe w_pt w_pa w_ps w_pss Dt DtAll Stp Keeps NoT Wk WkAll dt_mono dtAll_mono dt_dp dtAll_dp sqT_mono dp_lay Fre same_upd same_upd2 set_self)
variable [Wl.Tb] [Tc]
section
variable {K : Frg} {B : Bs} {G H G' H' : Hp} {σ : L2.St} {Γ : List Sl}
theorem TAts.take : ∀ (n : Nat) {vs : List V} {ts : List T} {fp : List Addr}, TAts K G H vs ts fp → ∃ fp', TAts K G H (vs.take n) (ts.take n) fp' ∧ (∀ a, a ∈ fp' → a ∈ fp) ∧ (fp.Nodup → fp'.Nodup)
  | 0, _, _, _, _ => ⟨[], .nil, (fun a ha => by cases ha), fun _ => List.nodup_nil⟩
  | _ + 1, _, _, _, .nil => ⟨[], .nil, (fun a ha => by cases ha), fun _ => List.nodup_nil⟩
  | n + 1, _, _, _, .cons (fp := f1) (fq := f2) h q => by
    obtain ⟨fp', e1, e2, e3⟩ := TAts.take n q
    refine ⟨f1 ++ fp', .cons h e1, fun a ha => ?_, fun nd => ?_⟩
    · rcases List.mem_append.mp ha with z | z
      · exact List.mem_append_left _ z
      · exact List.mem_append_right _ (e2 a z)
    · obtain ⟨n1, n2, n3⟩ := List.nodup_append.mp nd
      exact List.nodup_append.mpr ⟨n1, e3 n2, fun a ha b hb z => n3 a ha b (e2 b hb) z⟩
theorem TAts.erase : ∀ (n : Nat) {vs : List V} {ts : List T} {fp : List Addr}, TAts K G H vs ts fp → ∃ fp', TAts K G H (vs.eraseIdx n) (ts.eraseIdx n) fp' ∧ (∀ a, a ∈ fp' → a ∈ fp) ∧ (fp.Nodup → fp'.Nodup)
  | _, _, _, _, .nil => ⟨[], .nil, (fun a ha => by cases ha), fun _ => List.nodup_nil⟩
  | 0, _, _, _, .cons (fp := f1) (fq := f2) h q => ⟨f2, q, fun a ha => List.mem_append_right _ ha, fun nd => (List.nodup_append.mp nd).2.1⟩
  | n + 1, _, _, _, .cons (fp := f1) (fq := f2) h q => by
    obtain ⟨fp', e1, e2, e3⟩ := TAts.erase n q
    refine ⟨f1 ++ fp', .cons h e1, fun a ha => ?_, fun nd => ?_⟩
    · rcases List.mem_append.mp ha with z | z
      · exact List.mem_append_left _ z
      · exact List.mem_append_right _ (e2 a z)
    · obtain ⟨n1, n2, n3⟩ := List.nodup_append.mp nd
      exact List.nodup_append.mpr ⟨n1, e3 n2, fun a ha b hb z => n3 a ha b (e2 b hb) z⟩
/-- a list in its place gets other items, of its own ones and plain data -/
theorem Env.relist (E : Env K B G H σ Γ) {j : Nat} {π : List Nat} {p : Addr} {t : T} {cs : List T} {v : V} (hj : Γ[j]? = some (.o p t)) (hg : get π t = some (.n .l cs)) (ha : AgOk K G H σ v (.l j π)) : ∃ q vs fq, v = .ref q ∧ H q = some (.lst vs) ∧ TAts K G H vs cs fq ∧
    ∀ {vs' : List V} {cs' : List T} {fq' : List Addr}, TAts K G H vs' cs' fq' → (∀ a, a ∈ fq' → a ∈ fq) → (fq.Nodup → fq'.Nodup) → Env K B G (upd H q (.lst vs')) σ (Γ.set j (.o p (put π t (.n .l cs')))) := by
  obtain ⟨v1, f1, e1, e2, e3, e4, e5, k⟩ := E.chg hj hg
  obtain ⟨v0, g1, g2⟩ := ha
  rw [e1] at g1
  obtain rfl := Option.some.inj (Option.some.inj g1)
  rw [e2] at g2
  obtain rfl := Option.some.inj g2
  cases e3 with
  | n n1 n2 =>
    rename_i q vs own fq
    obtain ⟨hq, rfl⟩ := n1
    have gq : G q = none := (e5 q (by simp)).1
    obtain ⟨m1, m2, m3⟩ := List.nodup_append.mp e4
    refine ⟨q, vs, fq, rfl, hq, n2, ?_⟩
    intro vs' cs' fq' h' sub nd
    have hne : ∀ a, a ∈ fq' → a ≠ q := fun a ha z => m3 q (by simp) a (sub a ha) z.symm
    refine k (f1' := [q] ++ fq') E.nt (Same.refl _) (same_upd2 E.gh gq) (fun a hn hh => ⟨upd_ne fun z => hn (by simp [z]), rfl⟩) (fun _ => .inl rfl) (.n ⟨upd_same, rfl⟩ (tats_mono (Same.refl _) _ _ _ h' fun a ha => upd_ne (hne a ha))) (List.nodup_append.mpr ⟨by simp, nd m2, fun a ha b hb z => ?_⟩) fun a ha => ?_
    · have : a = q := by simpa using ha
      exact hne b hb (z ▸ this)
    · have : a ∈ [q] ++ fq := by
        rcases List.mem_append.mp ha with z | z
        · exact List.mem_append_left _ z
        · exact List.mem_append_right _ (sub a z)
      exact ⟨.inl this, (e5 a this).1⟩
theorem Env.redict (E : Env K B G H σ Γ) {j : Nat} {π : List Nat} {p : Addr} {t : T} {ks : List D} {cs : List T} {v : V} (hj : Γ[j]? = some (.o p t)) (hg : get π t = some (.n (.k ks) cs)) (ha : AgOk K G H σ v (.l j π)) : ∃ q kvs fq, v = .ref q ∧ H q = some (.dK kvs) ∧ kvs.map (fun q => keyD q.1) = ks ∧ TAts K G H (kvs.map (·.2)) cs fq ∧
    ∀ {kvs' : List (Key × V)} {cs' : List T} {fq' : List Addr}, TAts K G H (kvs'.map (·.2)) cs' fq' → (∀ a, a ∈ fq' → a ∈ fq) → (fq.Nodup → fq'.Nodup) → Env K B G (upd H q (.dK kvs')) σ (Γ.set j (.o p (put π t (.n (.k (kvs'.map fun q => keyD q.1)) cs')))) := by
  obtain ⟨v1, f1, e1, e2, e3, e4, e5, k⟩ := E.chg hj hg
  obtain ⟨v0, g1, g2⟩ := ha
  rw [e1] at g1
  obtain rfl := Option.some.inj (Option.some.inj g1)
  rw [e2] at g2
  obtain rfl := Option.some.inj g2
  cases e3 with
  | n n1 n2 =>
    rename_i q vs own fq
    obtain ⟨rfl, kvs, hq, rfl, rfl⟩ := n1
    have gq : G q = none := (e5 q (by simp)).1
    obtain ⟨m1, m2, m3⟩ := List.nodup_append.mp e4
    refine ⟨q, kvs, fq, rfl, hq, rfl, n2, ?_⟩
    intro kvs' cs' fq' h' sub nd
    have hne : ∀ a, a ∈ fq' → a ≠ q := fun a ha z => m3 q (by simp) a (sub a ha) z.symm
    refine k (f1' := [q] ++ fq') E.nt (Same.refl _) (same_upd2 E.gh gq) (fun a hn hh => ⟨upd_ne fun z => hn (by simp [z]), rfl⟩) (fun _ => .inl rfl) (.n ⟨rfl, kvs', upd_same, rfl, rfl⟩ (tats_mono (Same.refl _) _ _ _ h' fun a ha => upd_ne (hne a ha))) (List.nodup_append.mpr ⟨by simp, nd m2, fun a ha b hb z => ?_⟩) fun a ha => ?_
    · have : a = q := by simpa using ha
      exact hne b hb (z ▸ this)
    · have : a ∈ [q] ++ fq := by
        rcases List.mem_append.mp ha with z | z
        · exact List.mem_append_left _ z
        · exact List.mem_append_right _ (sub a z)
      exact ⟨.inl this, (e5 a this).1⟩
end
theorem get_put : ∀ {π : List Nat} {t t1 u : T}, get π t = some t1 → get π (put π t u) = some u
  | [], t, t1, u, h => rfl
  | k :: π, t, t1, u, h => by
    cases t with
    | d x => simp [get] at h
    | h p => simp [get] at h
    | n κ cs =>
      simp only [get] at h
      cases e : cs[k]? with
      | none => rw [e] at h; cases h
      | some c =>
        rw [e] at h
        have l := (List.getElem?_eq_some_iff.mp e).1
        simp only [put]; rw [e]
        simp only [get]; rw [List.getElem?_set_self l]
        exact get_put h
theorem put_put : ∀ {π : List Nat} {t t1 u w : T}, get π t = some t1 → put π (put π t u) w = put π t w
  | [], t, t1, u, w, h => rfl
  | k :: π, t, t1, u, w, h => by
    cases t with
    | d x => simp [get] at h
    | h p => simp [get] at h
    | n κ cs =>
      simp only [get] at h
      cases e : cs[k]? with
      | none => rw [e] at h; cases h
      | some c =>
        rw [e] at h
        have l := (List.getElem?_eq_some_iff.mp e).1
        have e1 : put (k :: π) (.n κ cs) u = .n κ (cs.set k (put π c u)) := by simp only [put]; rw [e]
        have e2 : put (k :: π) (.n κ cs) w = .n κ (cs.set k (put π c w)) := by simp only [put]; rw [e]
        rw [e1, e2]
        simp only [put]; rw [List.getElem?_set_self l]
        simp only
        rw [List.set_set, put_put h]
theorem ty_list {K : Frg} {H : Hp} {p : Addr} {vs : List V} (h : H p = some (.lst vs)) : tyV K "list" (.ref p) H := .inl ⟨rfl, vs, .of h⟩
section
variable {X : Cx} {Γ : List Sl} {o a : Expr} {t : T} {cs : List T} {P : Sl → List Sl → Prop} {ex : Str → List Sl → Prop} {apos pos : Pos} {j : Nat} {π : List Nat} {p : Addr}
theorem few1 {es : List Expr} (h : es.all plainE = true) (l : es.length < 30) (pos : Pos) (env : PySem.Env) : ((backTo pos (starEach es env)).all (fun x => !x.1) && (backToKw pos (keywordEach [] env)).all (fun x => x.1.isSome) && decide (es.length + ([] : List Keyword).length + (if ([] : List Keyword).isEmpty then 0 else 1) < 30)) = true := by
  rw [star_all h]
  simp [backToKw, keywordEach]
  exact l
theorem em_pop {x : D} (ho : EvPa X o Γ j π) (hj : Γ[j]? = some (.o p t)) (hg : get π t = some (.n .l cs)) (hx : cs.getLast? = some (.d x)) (hn : notCall o = true) (hl : (apos.endLine == pos.line) = true) (hp : P (.w (.d x)) (Γ.set j (.o p (put π t (.n .l cs.dropLast))))) : EvM X (.Call (.Attribute o "pop" apos) [] [] pos) Γ P ex := ⟨fun B G H σ E xe Q q => by
  refine w_pe (pe_bm0 PySem.F.plainAttrs_list PySem.F.slot_list_pop PySem.F.type_list_pop mt_pop pe_w (attr_base hn _ _ _) hl) (ho.run G H σ E.wenv _ fun v G1 H1 s1 k1 => ?_)
  obtain ⟨l, vs, fq, rfl, h1, h2, k⟩ := (E.step s1).relist hj hg k1
  have hlen := h2.len
  rw [List.getLast?_eq_getElem?] at hx
  obtain ⟨y, fy, e1, e2⟩ := h2.get hx
  refine ⟨ty_list h1, l, vs, y, rfl, rfl, h1, by rw [hlen]; exact e1, ?_⟩
  obtain ⟨fq', g1, g2, g3⟩ := h2.take (cs.length - 1)
  have E2 := k g1 g2 g3
  rw [← List.dropLast_eq_take] at E2
  rw [show vs.take (cs.length - 1) = vs.dropLast by rw [List.dropLast_eq_take, hlen]] at E2
  cases e2 with | d e2 => exact q y _ _ _ _ (E2.push_d e2) (.d x) hp⟩
theorem em_popi {x : D} {b : Expr} {u : T} {k : Nat} (ho : EvPa X o Γ j π) (hb : EvT X b Γ u) (qi : u.isI = true) (hj : Γ[j]? = some (.o p t)) (hg : get π t = some (.n .l cs)) (hk : ixN cs.length u.i = some k) (hx : cs[k]? = some (.d x)) (hn : notCall o = true) (he : plainE b = true) (hl : (apos.endLine == pos.line) = true) (hsz : cs.length < 2 ^ 62) (hp : P (.w (.d x)) (Γ.set j (.o p (put π t (.n .l (cs.eraseIdx k)))))) : EvM X (.Call (.Attribute o "pop" apos) [b] [] pos) Γ P ex := ⟨fun B G H σ E xe Q q => by
  have st := star_plain he [] X.env
  refine w_pe (pe_bm PySem.F.plainAttrs_list PySem.F.slot_list_pop PySem.F.type_list_pop mt_popAt pe_w (pa_cons pe_w pa_nil st) (attr_base hn _ _ _) (few1 (by rw [List.all_cons, he]; rfl) (by show 1 < 30; decide) _ _) hl st rfl) (ho.run G H σ E.wenv _ fun v G1 H1 s1 k1 => ?_)
  have E1 := E.step s1
  refine ⟨?_, hb.run G1 H1 σ E1.wenv _ fun w G2 H2 f2 s2 k2 => ?_⟩
  · obtain ⟨l, vs, fq, rfl, h1, h2, _⟩ := E1.relist hj hg k1
    exact ty_list h1
  have k1' : AgOk X.K G2 H2 σ v (.l j π) := by obtain ⟨v0, g1, g2⟩ := k1; exact ⟨v0, g1, wlk_keep s2.h g2⟩
  obtain ⟨l, vs, fq, rfl, h1, h2, kk⟩ := (E1.step s2).relist hj hg k1'
  have hlen := h2.len
  obtain ⟨y, fy, e1, e2⟩ := h2.get hx
  have kl : k < cs.length := (List.getElem?_eq_some_iff.mp hx).1
  have hb2 : -(2 ^ 63) ≤ u.i ∧ u.i < 2 ^ 63 := by
    unfold ixN at hk
    split at hk
    · split at hk
      · constructor <;> omega
      · cases hk
    · split at hk
      · constructor <;> omega
      · cases hk
  refine ⟨l, vs, u.i, k, y, rfl, by rw [k2.int qi], h1, hb2.1, hb2.2, ?_, e1, ?_⟩
  · rw [hlen]
    exact (ixN_seq hk).1
  · obtain ⟨fq', g1, g2, g3⟩ := h2.erase k
    have E3 := kk g1 g2 g3
    cases e2 with | d e2 => exact q y _ _ _ _ (E3.push_d e2) (.d x) hp⟩
/-- to a value that nobody asks for -/
theorem k_non {B : Bs} {G H : Hp} {σ : L2.St} {Q : VK} (E : Env X.K B G H σ Γ) (hp : P (.w (.d .none)) Γ) (q : ∀ v s G' H' Γ', Env X.K B G' H' (some v :: σ) (s :: Γ') → Rs s → P s Γ' → Q v H') : Q .non H := q .non _ G H Γ (E.push_d .non) (.d .none) hp
theorem em_append {b : Expr} {u : T} (ho : EvPa X o Γ j π) (hb : EvF X b Γ u) (hu : ∀ p, u ≠ .h p) (hj : Γ[j]? = some (.o p t)) (hg : get π t = some (.n .l cs)) (hn : notCall o = true) (he : plainE b = true) (hl : (apos.endLine == pos.line) = true) (hsz : cs.length < 1000000) (hp : P (.w (.d .none)) (Γ.set j (.o p (put π t (.n .l (cs ++ [u])))))) : EvM X (.Call (.Attribute o "append" apos) [b] [] pos) Γ P ex := ⟨fun B G H σ E xe Q q => by
  have st := star_plain he [] X.env
  refine w_pe (pe_bm PySem.F.plainAttrs_list PySem.F.slot_list_append PySem.F.type_list_append mt_append pe_w (pa_cons pe_w pa_nil st) (attr_base hn _ _ _) (few1 (by rw [List.all_cons, he]; rfl) (by show 1 < 30; decide) _ _) hl st rfl) (ho.run G H σ E.wenv _ fun v G1 H1 s1 k1 => ?_)
  have E1 := E.step s1
  refine ⟨?_, hb.run G1 H1 σ E1.wenv _ fun w G2 H2 f2 s2 k2 n2 w2 => ?_⟩
  · obtain ⟨l, vs, fq, rfl, h1, h2, _⟩ := E1.relist hj hg k1
    exact ty_list h1
  have k1' : AgOk X.K G2 H2 σ v (.l j π) := by obtain ⟨v0, g1, g2⟩ := k1; exact ⟨v0, g1, wlk_keep s2.h g2⟩
  -- the new thing ahead of the slots
  have key : ∀ (s : Sl), Rs s → slT s = u → Env X.K B G2 H2 (some w :: σ) (s :: Γ) → ∃ l xs y, v = V.ref l ∧ [w] = [y] ∧ H2 l = some (.lst xs) ∧ xs.length < sizeLine ∧ Q .non (upd H2 l (.lst (xs ++ [y]))) := by
    intro s r es E2
    obtain ⟨O, E3, back⟩ := Env.frame (τ := [some w]) (S := [s]) rfl E2
    obtain ⟨p1, q1, q2, E4⟩ := E3.ext hj hg rfl
    obtain ⟨v0, g1, g2⟩ := k1'
    rw [q1] at g1
    obtain rfl := Option.some.inj (Option.some.inj g1)
    rw [q2] at g2
    obtain rfl := Option.some.inj g2
    have E5 : Env X.K B G2 H2 (some w :: some (.ref p1) :: σ) (s :: .o p1 (.n .l cs) :: Γ.set j (.o p (put π t (.h p1)))) := (back E4).1
    -- the list comes to the front
    have E6 : Env X.K B G2 H2 (some (.ref p1) :: some w :: σ) (.o p1 (.n .l cs) :: s :: Γ.set j (.o p (put π t (.h p1)))) := by
      obtain ⟨fps, h1, h2, h3⟩ := E5.sl
      match fps, h1, h2, h3 with
      | f0 :: f1 :: fps, h1, h2, h3 =>
        refine ⟨E5.gh, E5.g0, E5.new, E5.keep, E5.tab, E5.nt, E5.wh, E5.wn, f1 :: f0 :: fps, ⟨h1.2.1, h1.1, h1.2.2⟩, ?_, fun a ha => h3 a ?_⟩
        · have e : (f0 :: f1 :: fps).flatten.Perm (f1 :: f0 :: fps).flatten := by
            simp only [List.flatten_cons]
            rw [← List.append_assoc, ← List.append_assoc]
            exact (List.perm_append_comm).append_right _
          exact e.nodup_iff.mp h2
        · simp only [List.flatten_cons, List.mem_append] at ha ⊢
          rcases ha with q | q | q
          · exact .inr (.inl q)
          · exact .inl q
          · exact .inr (.inr q)
    obtain ⟨xs, y, z1, z2, z3, z4, E7⟩ := E6.append2 r
    cases z4
    refine ⟨p1, xs, w, rfl, rfl, z2, by rw [z3]; exact Nat.lt_of_lt_of_le hsz (by decide), ?_⟩
    have gp : get π (put π t (.h p1)) = some (.h p1) := get_put hg
    have ij : j < Γ.length := (List.getElem?_eq_some_iff.mp hj).1
    have E8 := E7.ins (j := j) (π := π) (p := p) (t := put π t (.h p1)) (by rw [List.getElem?_set_self ij]) gp
    rw [List.set_set, put_put hg, es] at E8
    exact k_non E8 hp q
  cases u with
  | d x =>
    cases k2 with | d k2 =>
    exact key (.w (.d x)) (.d x) rfl ((E1.step s2).push_d k2)
  | h p => exact absurd rfl (hu p)
  | n κ us =>
    obtain ⟨pp, rfl⟩ := node_ref k2 rfl
    exact key (.o pp (.n κ us)) (.inr ⟨pp, _, rfl, fun x z => by cases z⟩) rfl (E1.push_o k2 n2 (fun a ha => (w2 a ha).1) (fun a ha => (w2 a ha).2) s2)⟩
theorem sd_list {ts : List T} (hs : allSd ts = true) : ts = (T.dats ts).map .d := by
  induction ts with
  | nil => rfl
  | cons t ts ih =>
    unfold allSd at hs
    rw [List.all_cons, Bool.and_eq_true] at hs
    rw [T.dats, List.map_cons, ← ih hs.2, ← sd_eq hs.1]
theorem em_extend {b : Expr} {us : List T} (ho : EvPa X o Γ j π) (hb : EvF X b Γ (.n .l us)) (hu : allSd us = true) (hj : Γ[j]? = some (.o p t)) (hg : get π t = some (.n .l cs)) (hn : notCall o = true) (he : plainE b = true) (hl : (apos.endLine == pos.line) = true) (hsz : cs.length + us.length < 1000000) (hp : P (.w (.d .none)) (Γ.set j (.o p (put π t (.n .l (cs ++ us)))))) : EvM X (.Call (.Attribute o "extend" apos) [b] [] pos) Γ P ex := ⟨fun B G H σ E xe Q q => by
  have st := star_plain he [] X.env
  refine w_pe (pe_bm PySem.F.plainAttrs_list PySem.F.slot_list_extend PySem.F.type_list_extend mt_extend pe_w (pa_cons pe_w pa_nil st) (attr_base hn _ _ _) (few1 (by rw [List.all_cons, he]; rfl) (by show 1 < 30; decide) _ _) hl st rfl) (ho.run G H σ E.wenv _ fun v G1 H1 s1 k1 => ?_)
  have E1 := E.step s1
  refine ⟨?_, hb.run G1 H1 σ E1.wenv _ fun w G2 H2 f2 s2 k2 n2 w2 => ?_⟩
  · obtain ⟨l, vs, fq, rfl, h1, h2, _⟩ := E1.relist hj hg k1
    exact ty_list h1
  have k1' : AgOk X.K G2 H2 σ v (.l j π) := by obtain ⟨v0, g1, g2⟩ := k1; exact ⟨v0, g1, wlk_keep s2.h g2⟩
  obtain ⟨l, vs, fq, rfl, h1, h2, kk⟩ := (E1.step s2).relist hj hg k1'
  cases k2 with
  | n m1 m2 =>
    rename_i bb zs own fz
    obtain ⟨m1, _⟩ := m1
    have dz : TAts X.K G2 H2 zs us [] := by rw [sd_list hu]; exact .ofD (m2.sd hu)
    have E3 := kk (vs' := vs ++ zs) (cs' := cs ++ us) (fq' := fq ++ []) (TAts.app h2 dz) (fun a ha => by simpa using ha) (fun nd => by simpa using nd)
    exact ⟨l, bb, vs, zs, rfl, rfl, h1, m1, by rw [h2.len, m2.len]; exact Nat.le_of_lt (Nat.lt_of_lt_of_le hsz (by decide)), k_non E3 hp q⟩⟩
theorem vals_ints {K : Frg} {G H : Hp} : ∀ {ns : List Int} {vs : List V} {fq : List Addr}, TAts K G H vs (ns.map fun n => .d (.int n)) fq → vs = ns.map V.int ∧ fq = []
  | [], _, _, h => by cases h; exact ⟨rfl, rfl⟩
  | n :: ns, _, _, h => by
    cases h with
    | cons h1 h2 =>
      obtain ⟨rfl, rfl⟩ := vals_ints h2
      cases h1 with | d h1 => cases h1; exact ⟨rfl, rfl⟩
theorem em_remove {b : Expr} {u : T} {ns : List Int} (ho : EvPa X o Γ j π) (hb : EvT X b Γ u) (qi : u.isI = true) (hj : Γ[j]? = some (.o p t)) (hg : get π t = some (.n .l (ns.map fun n => .d (.int n)))) (hm : u.i ∈ ns) (hn : notCall o = true) (he : plainE b = true) (hl : (apos.endLine == pos.line) = true) (hp : P (.w (.d .none)) (Γ.set j (.o p (put π t (.n .l ((ns.erase u.i).map fun n => .d (.int n))))))) : EvM X (.Call (.Attribute o "remove" apos) [b] [] pos) Γ P ex := ⟨fun B G H σ E xe Q q => by
  have st := star_plain he [] X.env
  refine w_pe (pe_bm PySem.F.plainAttrs_list PySem.F.slot_list_remove PySem.F.type_list_remove mt_remove pe_w (pa_cons pe_w pa_nil st) (attr_base hn _ _ _) (few1 (by rw [List.all_cons, he]; rfl) (by show 1 < 30; decide) _ _) hl st rfl) (ho.run G H σ E.wenv _ fun v G1 H1 s1 k1 => ?_)
  have E1 := E.step s1
  refine ⟨?_, hb.run G1 H1 σ E1.wenv _ fun w G2 H2 f2 s2 k2 => ?_⟩
  · obtain ⟨l, vs, fq, rfl, h1, h2, _⟩ := E1.relist hj hg k1
    exact ty_list h1
  have k1' : AgOk X.K G2 H2 σ v (.l j π) := by obtain ⟨v0, g1, g2⟩ := k1; exact ⟨v0, g1, wlk_keep s2.h g2⟩
  obtain ⟨l, vs, fq, rfl, h1, h2, kk⟩ := (E1.step s2).relist hj hg k1'
  obtain ⟨rfl, rfl⟩ := vals_ints h2
  have hi : ns.idxOf u.i < ns.length := List.idxOf_lt_length_iff.mpr hm
  have er : ns.erase u.i = ns.eraseIdx (ns.idxOf u.i) := by
    rw [List.erase_eq_eraseIdx_of_idxOf rfl]
  have E3 := kk (vs' := (ns.erase u.i).map V.int) (cs' := (ns.erase u.i).map fun n => .d (.int n)) (fq' := []) (by
    rw [show ((ns.erase u.i).map fun n => T.d (.int n)) = ((ns.erase u.i).map PyData.int).map T.d by rw [List.map_map]; rfl]
    exact .ofD (Wl.DtAll.ofInts _)) (fun a ha => by cases ha) (fun _ => List.nodup_nil)
  refine ⟨l, ns, u.i, ns.idxOf u.i, rfl, by rw [k2.int qi], h1, ?_, fun m hm2 => ?_, ?_⟩
  · rw [List.getElem?_eq_getElem hi, List.getElem_idxOf]
  · intro z
    have hz := List.getElem?_eq_some_iff.mp z
    have := List.not_of_lt_findIdx (p := fun x => x == u.i) (xs := ns) (i := m) (by exact hm2)
    obtain ⟨h3, h4⟩ := hz
    rw [h4] at this
    simp at this
  · rw [← er]; exact k_non E3 hp q⟩
end
end Yl

end

section
/-! Yt: calls that change nothing and may refuse; told(lambda: ..). -/
namespace Yl
open PySem PySem.Spec PyProof.Rows L2 HotX L2H LamX
open Wl (wE wT wA wS wSs pe_w pt_w pa_w ps_w pss_w w_pe w_pt w_pa w_ps w_pss Dt DtAll Stp Keeps NoT Wk WkAll dt_mono dtAll_mono dt_dp dtAll_dp sqT_mono dp_lay Fre same_upd same_upd2 set_self lamN FnZ ToldF suite_ret takesN0)
variable [Wl.Tb] [Tc]
section
variable {K : Frg} {B : Bs} {G H G' H' W : Hp} {σ : L2.St} {Γ : List Sl}
theorem bk_sls {G0 H0 : Hp} (g : Same G0 G') : ∀ {Γ Γ1 Γ2 : List Sl}, Bk Γ Γ1 Γ2 → ∀ {σ0 : L2.St} {fps0 : List (List Addr)} {σ1 : L2.St} {fps1 : List (List Addr)}, SlsAt K G0 W H0 fps0 σ0 Γ → SlsAt K G' W H' fps1 σ1 Γ1 → ∃ fps2, SlsAt K G' W H' fps2 σ0 Γ2 ∧ fps2.flatten.Sublist fps1.flatten := by
  intro Γ Γ1 Γ2 bk
  induction bk with
  | nil =>
    intro σ0 fps0 σ1 fps1 h0 h1
    cases σ0 with
    | nil => exact ⟨[], True.intro, List.nil_sublist _⟩
    | cons v vs => cases fps0 <;> exact h0.elim
  | un bk ih =>
    intro σ0 fps0 σ1 fps1 h0 h1
    cases σ0 with
    | nil => cases fps0 <;> exact h0.elim
    | cons v vs =>
    cases fps0 with
    | nil => exact h0.elim
    | cons f0 fps0 =>
    cases fps1 with
    | nil => cases σ1 <;> exact h1.elim
    | cons f1 fps1 =>
    cases σ1 with
    | nil => exact h1.elim
    | cons o1 σ1 =>
    obtain ⟨fps2, q1, q2⟩ := ih h0.2 h1.2
    exact ⟨[] :: fps2, ⟨rfl, q1⟩, by rw [List.flatten_cons, List.flatten_cons]; exact q2.trans (List.sublist_append_right _ _)⟩
  | w bk ih =>
    intro σ0 fps0 σ1 fps1 h0 h1
    cases σ0 with
    | nil => cases fps0 <;> exact h0.elim
    | cons v vs =>
    cases fps0 with
    | nil => exact h0.elim
    | cons f0 fps0 =>
    cases fps1 with
    | nil => cases σ1 <;> exact h1.elim
    | cons f1 fps1 =>
    cases σ1 with
    | nil => exact h1.elim
    | cons o1 σ1 =>
    obtain ⟨fps2, q1, q2⟩ := ih h0.2 h1.2
    obtain ⟨rfl, w, fq, e, d⟩ := h0.1
    exact ⟨[] :: fps2, ⟨⟨rfl, w, fq, e, tat_mono g _ _ _ d fun _ _ => rfl⟩, q1⟩, by rw [List.flatten_cons, List.flatten_cons]; exact q2.trans (List.sublist_append_right _ _)⟩
  | o bk ih =>
    intro σ0 fps0 σ1 fps1 h0 h1
    cases σ0 with
    | nil => cases fps0 <;> exact h0.elim
    | cons v vs =>
    cases fps0 with
    | nil => exact h0.elim
    | cons f0 fps0 =>
    cases fps1 with
    | nil => cases σ1 <;> exact h1.elim
    | cons f1 fps1 =>
    cases σ1 with
    | nil => exact h1.elim
    | cons o1 σ1 =>
    obtain ⟨fps2, q1, q2⟩ := ih h0.2 h1.2
    obtain ⟨e0, _⟩ := h0.1
    obtain ⟨e1, k1⟩ := h1.1
    exact ⟨f1 :: fps2, ⟨⟨e0, k1⟩, q1⟩, by rw [List.flatten_cons, List.flatten_cons]; exact (List.Sublist.refl _).append q2⟩
theorem Bk.len {Γ Γ1 Γ2 : List Sl} (h : Bk Γ Γ1 Γ2) : Γ2.length = Γ.length := by
  induction h with
  | nil => rfl
  | un _ ih => simp [ih]
  | w _ ih => simp [ih]
  | o _ ih => simp [ih]
theorem Env.bk {σ0 : L2.St} {Γ0 Γ1 Γ2 : List Sl} {G0 H0 : Hp} (E0 : Env K B G0 H0 σ0 Γ0) (E : Env K B G H σ Γ1) (g : Same G0 G) (bk : Bk Γ0 Γ1 Γ2) : Env K B G H σ0 Γ2 := by
  obtain ⟨fps0, a1, _, _⟩ := E0.sl
  obtain ⟨fps, h1, h2, h3⟩ := E.sl
  obtain ⟨fps2, q1, q2⟩ := bk_sls g bk a1 h1
  exact ⟨E.gh, E.g0, E.new, E.keep, E.tab, E.nt, E.wh, E.wn, fps2, q1, h2.sublist q2, fun a ha => h3 a (q2.subset ha)⟩
theorem Env.bk1 {σ0 : L2.St} {Γ0 Γ1 Γ2 : List Sl} {G0 H0 : Hp} {o : Option V} {s : Sl} (E0 : Env K B G0 H0 σ0 Γ0) (E : Env K B G H (o :: σ) (s :: Γ1)) (g : Same G0 G) (bk : Bk Γ0 Γ1 Γ2) : Env K B G H (o :: σ0) (s :: Γ2) := by
  obtain ⟨fps0, a1, _, _⟩ := E0.sl
  obtain ⟨fps, h1, h2, h3⟩ := E.sl
  cases fps with
  | nil => exact h1.elim
  | cons f fps =>
    obtain ⟨fps2, q1, q2⟩ := bk_sls g bk a1 h1.2
    have q3 : (f :: fps2).flatten.Sublist (f :: fps).flatten := by rw [List.flatten_cons, List.flatten_cons]; exact (List.Sublist.refl _).append q2
    exact ⟨E.gh, E.g0, E.new, E.keep, E.tab, E.nt, E.wh, E.wn, f :: fps2, ⟨h1.1, q1⟩, h2.sublist q3, fun a ha => h3 a (q3.subset ha)⟩
end
section
variable {X : Cx} {Γ : List Sl} {a e : Expr} {es : List Expr} {t : T} {ts : List T} {pos : Pos} {P : Sl → List Sl → Prop} {ex : Str → List Sl → Prop}
theorem em_callr {n : Str} {p : Pos} {k j m : Nat} {F : PF} (f : Wl.FG X.prog X.w X.K X.mg X.base k n m (spR X.K X.mg F)) (hr : Room j X.A) (hkj : k ≤ j) (hF : F.pre ts) (h : match F.out ts with
      | .ret x => P (.w (.d x)) Γ
      | .exc n => ex n Γ) (ha : EvA X (e :: es) Γ ts) (hg : Gl X n) (hdb : (n == ("__debug__" : Str)) = false)
    (he : starEach (e :: es) X.env = (false, eval e X.env) :: starEach es X.env) (hpl : (backTo pos (starEach es X.env)).any (·.1) = false) : EvM X (.Call (.Name n p) (e :: es) [] pos) Γ P ex := ⟨fun B G H σ E ⟨W, tk, hW⟩ Q q => by
  obtain ⟨a, fd, ps, hps, hm, hkp, hb, hf⟩ := f.ex
  refine w_pe (pe_callS hf (hr.mono hkj) hg hm hkp hb (fun σ => L2N.passAt tk σ) pa_w hdb he hpl) (ha.run G H σ E.wenv _ fun vs G1 H1 f1 s1 k1 => ?_)
  have E1 := E.step s1
  refine ⟨G1, ts, f1, s1.gh, E1.tab, E1.nt, k1, hF, ?_⟩
  cases o : F.out ts with
  | ret x =>
    rw [o] at h
    exact fun v G2 H2 s2 d => q v _ G2 H2 Γ ((E1.step s2).push_d d) (.d _) h
  | exc n =>
    rw [o] at h
    exact fun G2 H2 s2 => hW n σ G2 H2 Γ (E1.step s2) h⟩
theorem em_methr {c m : Str} {k j ar : Nat} {F : PF} {apos : Pos} {pl : Sem Bool} (M : MG X.prog X.w X.K X.mg X.base k c m ar (spR X.K X.mg F)) (hr : Room j X.A) (hkj : k ≤ j) (ho : EvT X a Γ t) (hi : isIns t c m = true) (ha : EvA X es Γ ts) (hF : F.pre (t :: ts)) (h : match F.out (t :: ts) with
      | .ret x => P (.w (.d x)) Γ
      | .exc n => ex n Γ) (ha0 : es = [] → ts = [])
    (hst : es = [] ∨ ∃ e es', es = e :: es' ∧ starEach (e :: es') X.env = (false, eval e X.env) :: starEach es' X.env ∧ (backTo pos (starEach es' X.env)).any (·.1) = false)
    (ht : eval (.Call (.Attribute a m apos) es [] pos) X.env = (do
      let ov ← eval a X.env
      standAt apos.atName
      let (f, first) ← holding [ov] (getMethod ov m pl)
      callWith pos f first (backTo pos (starEach es X.env)) (backToKw pos (keywordEach [] X.env)))) : EvM X (.Call (.Attribute a m apos) es [] pos) Γ P ex := ⟨fun B G H σ E ⟨W, tk, hW⟩ Q q => by
  obtain ⟨f, fd, ps, hps, cl, hm, hb, hf⟩ := M.ex
  obtain ⟨fs, cs, rfl, hno⟩ := isIns_ex hi
  have fin : ∀ {G2 H2 : Hp}, Env X.K B G2 H2 σ Γ → match F.out (.n (.i c fs) cs :: ts) with
      | .ret x => ∀ v G' H', Stp G2 H2 G' H' → Dt X.K G' v x → Q v H'
      | .exc n => ∀ G' H', Stp G2 H2 G' H' → W (.ref (Wl.clsAt X.mg n)) none σ H' := fun {G2 H2} E2 => by
    cases o : F.out (.n (.i c fs) cs :: ts) with
    | ret x =>
      rw [o] at h
      exact fun v G3 H3 s3 d => q v _ G3 H3 Γ ((E2.step s3).push_d d) (.d _) h
    | exc n =>
      rw [o] at h
      exact fun G3 H3 s3 => hW n σ G3 H3 Γ (E2.step s3) h
  refine w_meth cl hm hf (hr.mono hkj) hb tk hst ht (ho.run G H σ E.wenv _ fun v G1 H1 f1 s1 k1 => ?_)
  have E1 := E.step s1
  cases id k1 with
  | n h1 h2 =>
    rename_i p vs own fp
    obtain ⟨dx, fl, e1, rfl, rfl, e2, rfl⟩ := h1
    refine ⟨p, dx, fl, rfl, e1, look_none hno, fun z => ?_, fun z => ha.run G1 H1 σ E1.wenv _ fun ws G2 H2 f2 s2 k2 => ?_⟩
    · obtain rfl := ha0 z
      exact ⟨G1, _, _, s1.gh, E1.tab, E1.nt, .cons k1 .nil, hF, fin E1⟩
    · exact ⟨G2, _, _, s2.gh, (E1.step s2).tab, (E1.step s2).nt, .cons (k1.step s2) k2, hF, fin (E1.step s2)⟩⟩
theorem EvM.bk_frame {B : Bs} {G H : Hp} {σ : L2.St} (E : Env X.K B G H σ Γ) : ∃ O : List Addr, Env X.K ⟨G, H, O, B.W⟩ G H σ Γ ∧ ∀ {G' H' : Hp} {σ' : L2.St} {Γ' : List Sl}, Env X.K ⟨G, H, O, B.W⟩ G' H' σ' Γ' → Env X.K B G' H' σ' Γ' ∧ Same G G' := Env.frame (τ := []) (S := []) rfl E
variable {pins : List (Addr × Obj)} {σ : L2.St} {G H H1 : Hp} {s s' : Shared} {B : Bs}
/-- a(), where a holds the lambda; Y is the context of the def that got it, entered at s' -/
theorem act_E {CXg : CXT} {Eg E : XK} {Ng : List Str} {qg a : Str} {sg scope : Scope} {g f c' : Addr} {cdg pm ctv : Value} {params : Arguments} {body : Expr} {k : Nat} {pn : List (Addr × Obj)} {xe : Value → Shared → Prop} {W : WX} {p1 p2 : Pos}
    (I : Inv X pins σ H1 s') (Ev : Env X.K B G H1 σ Γ) (L : LamS X.env.scope scope) (hf : s'.heap.get? f = some (PySem.W.kla_obj "<lambda>" (X.env.qual ++ "<lambda>") params body scope (cloFrom X.env.cells scope.names []) pm c' ctv)) (hfn : H1 f = none) (hfr : f ∉ frs X.stack) (hco : H1 c' = some (CodeO c' (X.env.qual ++ "<lambda>")))
    (hbind : bindArgs (PySem.W.kla_fn "<lambda>" (X.env.qual ++ "<lambda>") params body scope (cloFrom X.env.cells scope.names []) pm (.ref c') ctv) ⟨[], []⟩ = pure [])
    (tk : L2N.Takes ((cxOf CXg X.prog X.w X.K X.mg X.base Ng qg sg g cdg X.A X.stack s' H1 Eg).tr pn xe) W) (hW : ∀ cls d σ' H', E cls d H' → W cls d σ' H') (hr : Room (k + 1) (X.A.deeper (envOfC qg sg s'.heap.objs.size g cdg)))
    (hbody : ∀ (A : Around) (outer : List PySem.Env) (s : Shared) (H : Hp) (E : XK), Room k (A.deeper (lamEnv X scope s.heap.objs.size f c')) → EvM (lamN X A outer s H E scope f c') body Γ P ex)
    (hE : ∀ (c : Str) (σ' : L2.St) (G' H' : Hp) (Γ' : List Sl), Env X.K B G' H' σ' Γ' → ex c Γ' → E (.ref (Wl.clsAt X.mg c)) none H')
    (hN : Ng[0]? = some a) (hv : Vis sg a) (hd : (a == ("__debug__" : Str)) = false) (hcd : (a == ("__classdict__" : Str)) = false) :
    PE ((cxOf CXg X.prog X.w X.K X.mg X.base Ng qg sg g cdg X.A X.stack s' H1 Eg).tr pn xe) (.Call (.Name a p1) [] [] p2) (fun σZ HZ Q => σZ[0]? = some (some (.ref f)) ∧ HZ = H1 ∧ ∀ v s G' H' Γ', Env X.K B G' H' (some v :: σ) (s :: Γ') → Rs s → P s Γ' → Q v H') := by
  refine ⟨fun pinsZ sZ σZ HZ Q IZ ⟨hs, eHZ, hq⟩ => ?_⟩
  subst eHZ
  refine wpAny_Call_Name_kw (thn ((pe_var (pos := p1) (i := 0) hN hv hd hcd).run pinsZ sZ σZ HZ (fun v H1 => v = .ref f ∧ H1 = HZ) IZ ⟨.ref f, hs, rfl, rfl⟩) fun u s1 ⟨v, H2, I1, r1, ev, eH⟩ => ?_)
  subst ev eH
  obtain rfl : u = Value.ref f := r1
  have gf := I1.base.keep f _ hf hfn hfr (fun z => nomatch (show f ∈ ([] : List Addr) from z))
  refine PySem.W.callWith_F0 ⟨_, _, _, _, gf⟩ ?_
  obtain ⟨⟨oc, vs, t, hoc, hdc, hvc⟩, _, _⟩ := I1.hok c' _ hco
  have run : codeAny (model X.prog X.w) (X.A.deeper (envOfC qg sg s'.heap.objs.size g cdg)) (.call (.ref f) ⟨[], []⟩) (CR (L2N.CX X.prog X.w) (envOfC qg sg s'.heap.objs.size g cdg :: X.stack) X.prog X.w H2 s1 Q E) s1 := by
    refine PySem.W.kla_callFunE hr.depth gf rfl L.co L.gen rfl ⟨c', oc, vs, t, rfl, hoc, hdc, hvc⟩ ?_
    rw [hbind]
    refine wpAny_pure (wpAny_newFunctionEnv (fun y hy => (L.own y hy).2) (fun y hy => absurd hy (by simp)) (fun h1 hns hsb => ⟨I1.nolimit.fresh _ hsb, ?_⟩) L.kind)
    show codeAny _ _ (.expr body (lamEnv X scope s1.heap.objs.size f c')) _ _
    have kp := fun (b : Addr) (u : Obj) (e : s1.heap.get? b = some u) => hsb.extBut b u (Nat.ne_of_lt (Heap.lt_size e)) (Heap.get?_push_of_some _ e)
    have J := lam_start2 (E := E) (f := f) (c' := c') (tk := s1.toks + ([] : List (Str × Value)).length) I L I1.env0 hr.hd I1.base hns kp
    have J2 : Inv (lamN X (X.A.deeper (envOfC qg sg s'.heap.objs.size g cdg)) (envOfC qg sg s'.heap.objs.size g cdg :: X.stack) s1 H2 E scope f c') [] σ H2 { s1 with heap := h1, toks := s1.toks + ([] : List (Str × Value)).length } := ⟨⟨J.ok.mod, J.ok.kind, J.ok.glob, J.ok.blt, J.ok.above, J.ok.inj, J.ok.has, J.ok.cab, J.ok.hd, J.ok.frames, J.ok.stk, J.ok.exf, J.ok.bs, J.ok.bsz, J.ok.noex, J.ok.exfs, J.ok.funs, J.ok.frf⟩, J.os, J.bare, J.base, J.loc, J.cell, J.free, J.freeC, J.pin, J.hok, J.len⟩
    have Bd := (hbody (X.A.deeper (envOfC qg sg s'.heap.objs.size g cdg)) (envOfC qg sg s'.heap.objs.size g cdg :: X.stack) s1 H2 E (hr.deeper _)).run B G H2 σ Ev ⟨fun cls d _ H' => E cls d H', L2N.takes_of rfl rfl rfl rfl, fun c σ' G' H' Γ' e z => hE c σ' G' H' Γ' e z⟩ Q hq
    refine PySem.W.kla_codeExpr (wpAny_mono (Bd [] _ J2) (fun v s' hq => ?_) fun e s' hq => hq)
    obtain ⟨w', H', J', rv, q⟩ := hq
    exact ⟨w', H', J'.os, J'.bare, J'.base, J'.hok, rv, q⟩
  refine wpAny_call (codeAny_mono run fun r s2 hq => ?_)
  cases r with
  | error e => exact L2N.passes_call tk hW pinsZ σZ H2 s1 e s2 I1 hq
  | ok fl =>
    cases fl with
    | ret u => exact I1.after hq
    | next => exact False.elim hq
    | brk => exact False.elim hq
    | cont => exact False.elim hq
theorem em_told {ex1 : Str → List Sl → Prop} {x a : Str} {g c Pt : Addr} {clf : Str → Str} {okn : Str → Prop} {k kz : Nat} {params : Arguments} {body : Expr} {scope : Scope} {p lpos : Pos} (TF : ToldF X x a g clf okn kz) (hm : X.mg x = some (.ref g)) (hg : Gl X x) (hbody : ∀ (A : Around) (outer : List PySem.Env) (s : Shared) (H : Hp) (E : XK) (f c' : Addr), Room k (A.deeper (lamEnv X scope s.heap.objs.size f c')) → EvM (lamN X A outer s H E scope f c') body Γ P ex1)
    (ho : ∀ n Γ', ex1 n Γ' → okn n ∧ ∃ Γ2, Bk Γ Γ' Γ2 ∧ P (.w (.d (.str (clf n)))) Γ2) (TB : TabB X.base X.mg c Pt) (hcode : X.env.code = .ref c) (hmT : (Pt, X.env.qual ++ "<lambda>") ∈ Wl.Tb.T) (hu : ∀ p ∈ Wl.Tb.T, p.1 = Pt → p.2 = X.env.qual ++ "<lambda>") (hr : Room (k + 2) X.A) (hkz : kz ≤ k) (L : LamS X.env.scope scope) (hdef : defaultsOf params X.env = ([], []))
    (hbind : ∀ (q : Str) (cl : List (Str × Addr)) (pm cv ctv : Value), bindArgs (PySem.W.kla_fn "<lambda>" q params body scope cl pm cv ctv) ⟨[], []⟩ = pure []) (hdb : (x == ("__debug__" : Str)) = false) : EvM X (.Call (.Name x p) [.Lambda params body scope lpos] [] pos) Γ P ex := ⟨fun B0 G H σ E00 xe Q q0 pins s I => by
  obtain ⟨O, E, back⟩ := EvM.bk_frame E00
  have q : ∀ v s G' H' Γ', Env X.K ⟨G, H, O, B0.W⟩ G' H' (some v :: σ) (s :: Γ') → Rs s → P s Γ' → Q v H' := fun v s G' H' Γ' e r z => q0 v s G' H' Γ' (back e).1 r z
  obtain ⟨pg, bg, sg, fdg, fdz, Ng, e, lerr, cl, xz, ie, CS, fz, p1, p2, p3, p4, p5, p6, p7, p8, p11, p12, F0, Sg, bd, hbg, h0, ha, hie, he, hlerr, hcl, n1, n2, n3, n4, n5, n6, mCS, mfz, kfz, bz, FZ, hex⟩ := TF.ex
  subst hbg
  have kp := F0.kp
  obtain ⟨oc, od, dV, kV, dd, pm, an, cdv, ct, osl, rfl, lk, hcd, _, _⟩ := F0.ex
  refine wpAny_Call_Name_kw (ld_glob I hg hm ?_ hdb)
  refine PySem.W.callWith_K (h₀ := X.base) I.ok.mod.kin kp ?_ rfl rfl
  show wpAny _ _ (spliced ((false, eval (.Lambda params body scope lpos) X.env) :: backTo pos (starEach [] X.env))) _ _ s
  refine Calls.spliced_cons (lam_make2 (T := Wl.Tb.T) I TB hcode hmT hu E.tab hdef (L.has I.ok) fun f c' pm' ctv H1 s' I1 eN T1 hf hfn hfr hco => ?_)
  refine Calls.spliced_nil ⟨I1.kIn, ?_⟩
  have st : Stp G H G H1 := ⟨Same.refl _, ⟨eN, fun _ => T1⟩, fun a o h => eN a o (E.gh a o h) (fun ps z => E.nt a ps (z ▸ h)), fun _ => .inl rfl, id⟩
  have E1 := E.step st
  have run : codeAny (model X.prog X.w) X.A (.call (.ref g) ⟨[.ref f], []⟩) (CR C8.CX0 X.stack X.prog X.w H1 s' Q C8.E0) s' := by
    refine run_ofS (N := Ng) (ps := [a]) (us := [.ref f]) (vs := [.ref f]) lk hcd Sg hr I1.env0 (bd s' [.ref f] I1.kIn rfl) (.cons rfl .nil) rfl fun hr2 => ?_
    let Z := cxOf C8.CX0 X.prog X.w X.K X.mg X.base Ng x sg g cdv X.A X.stack s' H1 C8.E0
    let ts : Addr → Value → Option Addr → TS := fun a cls d D σz Hz => d = none ∧ (∃ σ0 : L2.St, σz = σ0.set ie (some (.ref a))) ∧ ∃ n, okn n ∧ cls = .ref (Wl.clsAt Z.mg n) ∧ ∃ G' : Hp, Same G' Hz ∧ Tabs Wl.Tb.T Hz ∧ NoT G' ∧ ∀ v G2 H2, Stp G' Hz G2 H2 → Dt Z.K G2 v (.str (clf n)) → D.rt v H2
    let tb : WX → TS := fun W D σz Hz => ∃ Ech : XK, (∀ cls d σ' H', Ech cls d H' → W cls d σ' H') ∧ σz[0]? = some (some (.ref f)) ∧ Hz = H1 ∧ (∀ v s G' H' Γ', Env X.K ⟨G, H, O, B0.W⟩ G' H' (some v :: σ) (s :: Γ') → Rs s → P s Γ' → D.rt v H') ∧ (∀ (c : Str) (σ' : L2.St) (G' H' : Hp) (Γ' : List Sl), Env X.K ⟨G, H, O, B0.W⟩ G' H' σ' Γ' → ex1 c Γ' → Ech (.ref (Wl.clsAt X.mg c)) none H')
    refine ⟨_, (pss_one (L2N.ps_try_as (X := Z) (c := .ref CS) (i := ie) (tb := tb) (ts := ts) (Wout := fun _ _ _ _ => False) rfl rfl Sg.nd hie he ⟨hlerr, n5, .inl mCS⟩ takesN0 (fun W pn xe tk po => ⟨fun pinsZ sZ σZ HZ D IZ hh => ?_⟩)
      (fun a oe cls d pn hz hf => suite_ret (Z := Z) FZ hz hf ((roomH_of hr2).mono (by omega)) hie (.inl he) n3 n4 hcl n6 mfz kfz bz))), ?_⟩
    · obtain ⟨Ech, hW, h1, h2, h3, h4⟩ := hh
      have pe := act_E (p1 := p1) (p2 := p2) (E := Ech) (pn := pn) (xe := xe) I1 E1 L hf hfn hfr hco (hbind _ _ _ _ _) tk hW hr2 (fun A outer s H E hr3 => hbody A outer s H E f c' hr3) h4 h0 (.inl ha) n1 n2
      exact (pss_one (ps_ret (pos := p3) pe)).run pinsZ sZ σZ HZ D IZ ⟨h1, h2, h3⟩
    · have hs0 : (L2.start Ng [V.ref f])[0]? = some (some (V.ref f)) := rfl
      refine ⟨fun cls d H' => ∃ n, cls = .ref (Wl.clsAt X.mg n) ∧ d = none ∧ ∃ (σ' : L2.St) (G' : Hp) (Γ' : List Sl), Env X.K ⟨G, H, O, B0.W⟩ G' H' σ' Γ' ∧ ex1 n Γ', fun cls d σ2 H' ⟨n, e1, e2, σ', G', Γ', E2, hn⟩ => ?_, hs0, rfl, fun v s G' H' Γ' e r z => q v s G' H' Γ' e r z, fun c σ' G' H' Γ' e z => ⟨c, rfl, rfl, σ', G', Γ', e, z⟩⟩
      obtain ⟨hn1, Γ2, bk, hp⟩ := ho n Γ' hn
      have E3 := Env.bk E E2 E2.g0 bk
      exact ⟨true, by rw [e1]; exact hex n hn1, fun _ a hna => ⟨e2, ⟨σ2, rfl⟩, n, hn1, e1, G', E2.gh, E2.tab, E2.nt, fun v G4 H4 s2 d2 => q v _ G4 H4 Γ2 ((E3.step s2).push_d d2) (.d _) hp⟩, fun z => by cases z⟩
  refine wpAny_call (codeAny_mono run fun r s2 hq => ?_)
  cases r with
  | error u => exact (show False from hq).elim
  | ok fl =>
    cases fl with
    | ret u => exact I1.after hq
    | next => exact False.elim hq
    | brk => exact False.elim hq
    | cont => exact False.elim hq⟩
end
end Yl

end

section
/-! Y16: THE THEOREM of expressions that may change something. -/
namespace Yl
open PySem PySem.Spec PyProof.Rows L2
open Wl (wE wT wA wS wSs pe_w pt_w pa_w ps_w pss_w w_pe w_pt w_pa w_ps w_pss Dt DtAll Stp Keeps NoT Wk WkAll dt_mono dtAll_mono dt_dp dtAll_dp sqT_mono dp_lay Fre same_upd same_upd2 set_self)
variable [Wl.Tb] [Tc]
section
variable (N fr : List Str)
mutual
def chkF : Scope → Fx → Expr → Bool
  | sc, .x a, e => chk N fr sc a e
  | sc, .l ts, e => match e with
    | .List xs _ => chkFs sc ts xs
    | _ => false
  | sc, .k ks ts, e => match e with
    | .Dict [] [] _ => (match ks, ts with
      | [], .nil => true
      | _, _ => false)
    | _ => false
  | sc, .rng a, e => match e with
    | .Call (.Name n _) [.Call (.Name m _) [x] [] _] [] _ => decide (n = "list") && (glB fr sc "list" && (decide (m = "range") && (glB fr sc "range" && (plainE x && chk N fr sc a x))))
    | _ => false
  | sc, .lof a, e => match e with
    | .Call (.Name n _) [x] [] _ => decide (n = "list") && (glB fr sc "list" && (plainE x && chk N fr sc a x))
    | _ => false
  | sc, .add a b, e => match e with
    | .BinOp x .Add y _ => chk N fr sc a x && chk N fr sc b y
    | _ => false
  | sc, .lc tg s p el, e => chk N fr sc (.lc tg s p el) e
  | sc, .ite c a b, e => match e with
    | .IfExp t x y _ => chk N fr sc c t && (chkF sc a x && chkF sc b y)
    | _ => false
def chkFs : Scope → Fxs → List Expr → Bool
  | _, .nil, es => match es with
    | [] => true
    | _ => false
  | sc, .cons f fs, es => match es with
    | x :: xs => plainE x && (chkF sc f x && chkFs sc fs xs)
    | _ => false
end
end
mutual
def obF (g : Pg) : Fx → Prop
  | .x a => ob g a
  | .l ts => obFs g ts
  | .k _ ts => obFs g ts
  | .rng a => ob g a
  | .lof a => ob g a
  | .add a b => ob g a ∧ ob g b
  | .lc tg s p el => ob g (.lc tg s p el)
  | .ite c a b => ob g c ∧ obF g a ∧ obF g b
def obFs (g : Pg) : Fxs → Prop
  | .nil => True
  | .cons f fs => obF g f ∧ obFs g fs
end
section
variable {N fr : List Str} {g : Pg}
/-- the parts of a comprehension -/
theorem lc_parts {X : Cx} {sc : Scope} {tg : Tg} {s : Sr} {p el : Ex} {tg' iter elt : Expr} {ifs : List Expr} {scope : Scope} {pos : Pos} {Γ : List Sl} (cx : CtxOk N fr sc X) (ip : InPg g X) (hc : chk N fr sc (.lc tg s p el) (.ListComp elt [⟨tg', iter, ifs, 0⟩] scope pos) = true) (ho : ob g (.lc tg s p el)) (hk : ok (.lc tg s p el) Γ) :
    SrcT X false tg' iter Γ (items s Γ) ∧ BlkOk X.N X.env.scope scope (ownOf N tg) ∧ (items s Γ).length ≤ 100000 ∧ TurnT X Γ (ownOf N tg) scope tg' elt ifs (items s Γ) (fun t => (val p (bind tg t Γ)).b) (fun t => (val el (bind tg t Γ)).dat) ∧ (∀ t, t ∈ items s Γ → (val p (bind tg t Γ)).b = true → (val el (bind tg t Γ)).sd = true) ∧ (∀ x, foldedSetIterable iter X.env x = pure x) := by
  unfold chk at hc
  simp only [Bool.and_eq_true] at hc
  obtain ⟨h1, h2, h3, h4, h5, h6⟩ := hc
  obtain ⟨k1, k2, k3⟩ := hk
  obtain ⟨src, hns⟩ := sndr s X sc tg' iter Γ cx ip h4 ho.1 k1
  have os : ∀ i n, i ∈ tgI tg → N[i]? = some n → Wl.okS (relS scope sc) (scope.names.lookup n == some .cell) n = true := fun i n hi hn => by
    have := List.all_eq_true.mp h2 (N.getD i Str.empty, i) (by unfold ownOf; exact List.mem_map.mpr ⟨i, hi, rfl⟩)
    have en : N.getD i Str.empty = n := by rw [List.getD_eq_getElem?_getD, hn]; rfl
    rw [en] at this
    exact this
  refine ⟨src.w, by rw [cx.n, cx.sc]; exact blkOk_by h1, k2, fun t ht => ⟨bind tg t Γ, fun s0 H0 C cl fp => ?_⟩, fun t ht z => ((k3 t ht).2.2.2 z).2, no_fold hns _⟩
  obtain ⟨q1, q2, q3, q4⟩ := k3 t ht
  have cb := cx.blk (scope := scope) s0 H0 C cl fp
  have ib := ip.blk (scope := scope) s0 H0 C cl fp
  rw [own_snd]
  refine ⟨?_, ?_, fun z => ?_⟩
  · have h := tgt_ok (X := Blk X scope s0 H0 C cl fp) (Γ := wipeS Γ (tgI tg)) cx.n cx.nd cx.calm h3 q1 (fun i hi => hi) fun i n hi hn => by
      have := os i n hi hn
      rw [← cx.sc] at this
      exact this
    rw [bind_wipe h3 q1] at h
    exact h
  · cases ifs with
    | nil =>
      show (val p (bind tg t Γ)).b = true
      have h5 : isTru p = true := h5
      rw [isTru_val h5]; rfl
    | cons c cs =>
      cases cs with
      | nil => exact ((snd p _ _ c _ cb ib h5 ho.2.1 q2).2 q3).1
      | cons _ _ => exact absurd h5 (by simp)
  · have h := (snd el _ _ elt _ cb ib h6 ho.2.2 (q4 z).1).1
    rw [sd_eq (q4 z).2] at h
    exact h
mutual
theorem sndF : ∀ (c : Fx) (X : Cx) (sc : Scope) (e : Expr) (Γ : List Sl), CtxOk N fr sc X → InPg g X → chkF N fr sc c e = true → obF g c → fok c Γ → EvF X e Γ (fval c Γ) ∧ ∀ p, fval c Γ ≠ .h p
  | .x a, X, sc, e, Γ, cx, ip, hc, ho, hk => ⟨ef_d (snd a X sc e Γ cx ip hc ho hk.1).1 hk.2, fun p z => by
    have := hk.2
    rw [show val a Γ = .h p from z] at this
    cases this⟩
  | .l ts, X, sc, e, Γ, cx, ip, hc, ho, hk => by
    unfold chkF at hc; split at hc; case h_2 => cases hc
    exact ⟨ef_l (sndFs ts X sc _ Γ cx ip hc ho hk.1) hk.2, fun p z => by simp [fval] at z⟩
  | .k ks ts, X, sc, e, Γ, cx, ip, hc, ho, hk => by
    unfold chkF at hc; split at hc; case h_2 => cases hc
    split at hc; case h_2 => cases hc
    exact ⟨ef_dict0, fun p z => by simp [fval] at z⟩
  | .rng a, X, sc, e, Γ, cx, ip, hc, ho, hk => by
    unfold chkF at hc; split at hc; case h_2 => cases hc
    simp only [Bool.and_eq_true, decide_eq_true_eq] at hc
    obtain ⟨rfl, h2, rfl, h4, h5, h6⟩ := hc
    obtain ⟨g1, g2, g3, g4⟩ := gl_ok cx h2
    obtain ⟨g5, g6, g7, g8⟩ := gl_ok cx h4
    exact ⟨ef_rng cx.calm g1 g2 g5 g6 (snd a X sc _ Γ cx ip h6 ho hk.1).1 h5 hk.2.1 hk.2.2.1 hk.2.2.2, fun p z => by simp [fval] at z⟩
  | .lof a, X, sc, e, Γ, cx, ip, hc, ho, hk => by
    unfold chkF at hc; split at hc; case h_2 => cases hc
    simp only [Bool.and_eq_true, decide_eq_true_eq] at hc
    obtain ⟨rfl, h2, h3, h4⟩ := hc
    obtain ⟨g1, g2, g3, g4⟩ := gl_ok cx h2
    exact ⟨ef_lof g1 g2 (snd a X sc _ Γ cx ip h4 ho hk.1).1 h3 hk.2.1 hk.2.2, fun p z => by simp [fval] at z⟩
  | .add a b, X, sc, e, Γ, cx, ip, hc, ho, hk => by
    unfold chkF at hc; split at hc; case h_2 => cases hc
    simp only [Bool.and_eq_true] at hc
    obtain ⟨k1, k2, k3, k4, k5, k6, k7⟩ := hk
    exact ⟨ef_add (snd a X sc _ Γ cx ip hc.1 ho.1 k1).1 (snd b X sc _ Γ cx ip hc.2 ho.2 k2).1 k3 k4 k5 k6 k7, fun p z => by simp [fval] at z⟩
  | .lc tg s p el, X, sc, e, Γ, cx, ip, hc, ho, hk => by
    have hc0 := hc
    unfold chkF at hc
    unfold chk at hc; split at hc; case h_2 => cases hc
    obtain ⟨a1, a2, a3, a4, a5, a6⟩ := lc_parts cx ip (show chk N fr sc (.lc tg s p el) _ = true from hc0) ho hk
    exact ⟨ef_lc cx.calm (by rw [cx.n]; exact cx.nd) a1 a2 a3 a4 a5 a6, fun p z => by simp [fval] at z⟩
  | .ite c a b, X, sc, e, Γ, cx, ip, hc, ho, hk => by
    unfold chkF at hc; split at hc; case h_2 => cases hc
    simp only [Bool.and_eq_true] at hc
    obtain ⟨h1, h2, h3⟩ := hc
    obtain ⟨k1, k2, k3, k4⟩ := hk
    have hcnd := ((snd c X sc _ Γ cx ip h1 ho.1 k1).2 k2).1
    have ha := fun z => sndF a X sc _ Γ cx ip h2 ho.2.1 (k3 z)
    have hb := fun z => sndF b X sc _ Γ cx ip h3 ho.2.2 (k4 z)
    refine ⟨ef_ife hcnd (fun z => (ha z).1) (fun z => (hb z).1), fun p z => ?_⟩
    simp only [fval] at z
    cases q : (val c Γ).b with
    | true => rw [if_pos q] at z; exact (ha q).2 p z
    | false => rw [if_neg (by rw [q]; simp)] at z; exact (hb q).2 p z
theorem sndFs : ∀ (c : Fxs) (X : Cx) (sc : Scope) (es : List Expr) (Γ : List Sl), CtxOk N fr sc X → InPg g X → chkFs N fr sc c es = true → obFs g c → foks c Γ → EvFs X es Γ (fvals c Γ)
  | .nil, X, sc, es, Γ, cx, ip, hc, ho, hk => by
    unfold chkFs at hc; split at hc; case h_2 => cases hc
    exact efs_nil
  | .cons f fs, X, sc, es, Γ, cx, ip, hc, ho, hk => by
    unfold chkFs at hc; split at hc; case h_2 => cases hc
    simp only [Bool.and_eq_true] at hc
    obtain ⟨h1, h2, h3⟩ := hc
    exact efs_cons (sndF f X sc _ Γ cx ip h2 ho.1 hk.1).1 (sndFs fs X sc _ Γ cx ip h3 ho.2 hk.2) (star_plain h1 _ _)
end
end
/-! ### effects -/
def HasS (g : Pg) (f : Str) (ar : Nat) (F : Spc) : Prop := ∃ k, k ≤ g.j ∧ Wl.FG g.P g.w g.K g.mg g.base k f ar (spS g.K g.mg F)
def HasSM (g : Pg) (c m : Str) (ar : Nat) (F : Spc) : Prop := ∃ k, k ≤ g.j ∧ MG g.P g.w g.K g.mg g.base k c m ar (spS g.K g.mg F)
def HasMk (g : Pg) (c : Str) (F : Spc) : Prop := ∃ (k : Nat) (f : Addr) (fd : FuncData) (ps : List Str), k + 1 ≤ g.j ∧ Mk g.K (Tc.C c) f ∧ FnOk g.P g.w g.K g.mg g.base (L2N.CX g.P g.w) k f fd ps (spS g.K g.mg F) ∧ g.mg c = some (.ref (Tc.C c)) ∧ Binds g.K fd ps []
def chkE (N fr : List Str) : Scope → Ef → Expr → Bool
  | sc, .p a, e => chk N fr sc a e
  | sc, .fx f, e => chkF N fr sc f e
  | sc, .mv i, e => match e with
    | .Name n _ => decide (N[i]? = some n) && Wl.okN sc n
    | _ => false
  | sc, .call _ f as, e => match e with
    | .Call (.Name n _) xs [] _ => decide (n = f) && (Wl.okG sc f && (decide (0 < xs.length) && chkA N fr sc as xs))
    | _ => false
  | sc, .meth _ _ m r as, e => match e with
    | .Call (.Attribute x n ap) xs [] pos => decide (n = m) && (notCall x && ((ap.endLine == pos.line) && (decide (xs.length < 30) && (chk N fr sc r x && chkA N fr sc as xs))))
    | _ => false
  | sc, .make _ c as, e => match e with
    | .Call (.Name n _) xs [] _ => decide (n = c) && (Wl.okG sc c && chkA N fr sc as xs)
    | _ => false
  | sc, .cmp o a b, e => match e with
    | .Compare x [op] [y] _ => opC o op && (notSet y && (chkE N fr sc a x && chkE N fr sc b y))
    | _ => false
  | sc, .no a, e => match e with
    | .UnaryOp .Not x _ => chkE N fr sc a x
    | _ => false
  | sc, .ite c a b, e => match e with
    | .IfExp t x y _ => chk N fr sc c t && (chkE N fr sc a x && chkE N fr sc b y)
    | _ => false
  | sc, .pop r, e => match e with
    | .Call (.Attribute x n ap) [] [] pos => decide (n = "pop") && (notCall x && ((ap.endLine == pos.line) && chk N fr sc r x))
    | _ => false
  | sc, .popi r i, e => match e with
    | .Call (.Attribute x n ap) [y] [] pos => decide (n = "pop") && (notCall x && ((ap.endLine == pos.line) && (plainE y && (chk N fr sc r x && chk N fr sc i y))))
    | _ => false
  | _, .popd _ _ _, _ => false
  | sc, .callr _ f es, e => match e with
    | .Call (.Name n _) xs [] _ => decide (n = f) && (Wl.okG sc f && (decide (0 < xs.length) && chks N fr sc es xs))
    | _ => false
  | sc, .methr _ _ m a es, e => match e with
    | .Call (.Attribute x n ap) xs [] pos => decide (n = m) && (notCall x && ((ap.endLine == pos.line) && (decide (xs.length < 30) && (chk N fr sc a x && chks N fr sc es xs))))
    | _ => false
  | sc, .told d c, e => match e with
    | .Call (.Name n _) [.Lambda ⟨[], [], none, [], [], none, []⟩ body scope _] [] _ => decide (n = d.x) && (Wl.okG sc n && (LamX.lamSB sc scope && chkE N fr scope c body))
    | _ => false
def obE : (Td → Prop) → Pg → Ef → Prop
  | td, g, .p a => ob g a
  | td, g, .fx f => obF g f
  | td, g, .mv _ => True
  | td, g, .call F f as => HasS g f as.length F ∧ obA g as
  | td, g, .meth F c m r as => HasSM g c m (as.length + 1) F ∧ ob g r ∧ obA g as
  | td, g, .make F c as => HasMk g c F ∧ obA g as
  | td, g, .cmp _ a b => obE td g a ∧ obE td g b
  | td, g, .no a => obE td g a
  | td, g, .ite c a b => ob g c ∧ obE td g a ∧ obE td g b
  | td, g, .pop r => ob g r
  | td, g, .popi r i => ob g r ∧ ob g i
  | _, _, .popd _ _ _ => False
  | _, g, .callr F f es => HasF g f (exLen es) F ∧ obs g es
  | _, g, .methr F c m a es => HasM g c m (exLen es + 1) F ∧ ob g a ∧ obs g es
  | td, g, .told d c => td d ∧ 2 ≤ g.j ∧ obE (fun _ => False) { g with j := g.j - 2 } c
/-- the context, with what it has for told(lambda: ..) -/
structure InE (td : Td → Prop) (g : Pg) (X : Cx) : Prop where
  ip : InPg g X
  tl : ∀ d, td d → Wl.TL X d.x d.clf d.okn (g.j - 2)
section
variable {X : Cx} {Γ : List Sl} {e a b c : Expr} {P : Sl → List Sl → Prop} {ex : Str → List Sl → Prop} {pos : Pos}
theorem em_mv {n : Str} {i : Nat} {p : Addr} {κ : Kd} {cs : List T} (hN : X.N[i]? = some n) (hv : Vis X.env.scope n) (hd : (n == ("__debug__" : Str)) = false) (hcd : (n == ("__classdict__" : Str)) = false) (hi : Γ[i]? = some (.o p (.n κ cs))) (hp : ∀ q, P (.o q (.n κ cs)) (Γ.set i .un)) : EvM X (.Name n pos) Γ P ex := ⟨fun B G H σ E xe Q q => by
  obtain ⟨p1, e1, e2, E1⟩ := E.ext (π := []) hi rfl rfl
  obtain rfl : p = p1 := by
    have := Option.some.inj (show some (V.ref p) = some (V.ref p1) from e2)
    injection this
  refine w_pe (pe_var hN hv hd hcd) ⟨_, e1, q _ _ G H _ ?_ (.inr ⟨p, _, rfl, fun x z => by cases z⟩) (hp p)⟩
  have E2 := E1.forget (i + 1)
  rw [List.set_cons_succ, List.set_set] at E2
  exact E2⟩
/-- what is told is frozen -/
theorem Env.dat {K : Frg} {B : Bs} {G H : Hp} {σ : L2.St} {v : V} {s : Sl} {Q : D → Prop} (E : Env K B G H (some v :: σ) (s :: Γ)) (h : datW s Q) : ∃ x G', Q x ∧ Same G G' ∧ Env K B G' H (some v :: σ) (.w (.d x) :: Γ) := by
  cases s with
  | un => exact h.elim
  | w t =>
    cases t with
    | d x => exact ⟨x, G, h, Same.refl _, E⟩
    | h p => exact h.elim
    | n κ cs => exact h.elim
  | o p t =>
    cases t with
    | d x => exact h.elim
    | h p => exact h.elim
    | n κ cs =>
      cases κ with
      | l =>
        obtain ⟨h1, h2⟩ := h
        obtain ⟨G', g, E'⟩ := E.freeze (i := 0) rfl h1
        exact ⟨_, G', h2, g, E'⟩
      | _ => exact h.elim
theorem Env.headD {K : Frg} {B : Bs} {G H : Hp} {σ : L2.St} {v : V} {x : D} (E : Env K B G H (some v :: σ) (.w (.d x) :: Γ)) : Dt K G v x := by
  obtain ⟨fps, h1, _, _⟩ := E.sl
  obtain ⟨fp, o, _, e2, e3⟩ := h1.get (i := 0) rfl
  cases e2
  obtain ⟨_, w, fq, hw, hd⟩ := e3
  cases hw
  cases hd with | d hd => exact hd
theorem em_cmp {o : Cop} {op : CmpOp} {P1 : Sl → List Sl → Prop} (hu : X.A.units + 64 < cLine) (ho : opC o op = true) (hm : behindInMarks op b = false) (ha : EvM X a Γ P1 ex) (hb : ∀ s Γ1, P1 s Γ1 → datW s fun x => EvM X b Γ1 (fun s2 Γ2 => datW s2 fun y => cmpOk o (.d x) (.d y) ∧ P (.w (.d (.bool (cmpV o (.d x) (.d y))))) Γ2) ex) : EvM X (.Compare a [op] [b] pos) Γ P ex := ⟨fun B G H σ E xe Q q => by
  obtain ⟨r0, hr0⟩ := opr_ex (X := X) ho hu
  let r : R2 := fun v w H Q => ∃ x y, cmpOk o (.d x) (.d y) ∧ (∃ G, Same G H ∧ Dt X.K G v x ∧ Dt X.K G w y) ∧ Q (.bl (cmpV o (.d x) (.d y))) H
  have hr : OpR X (compareOp op) r := by
    intro pins s σ H x y v u Q I rx ry ⟨dx, dy, hk, ⟨G, g, d1, d2⟩, q⟩
    obtain ⟨r', h1, h2⟩ := (cmp_t (X := X) hu ho hk (fun ks cs z => by cases z)).ex
    exact h1 pins s σ H x y v u Q I rx ry (h2 G H x y [] [] Q g (.d d1) (.d d2) q)
  refine w_pe (pe_cmpR hr pe_w pe_w hm) (ha.run B G H σ E xe _ fun v s G1 H1 Γ1 E1 r1 p1 => ?_)
  obtain ⟨x, G1', hx, g1, E2⟩ := E1.dat (hb s Γ1 p1)
  refine (hx).under (τ := [some v]) (S := [.w (.d x)]) rfl E2 xe fun w s2 G2 H2 Γ2 E3 g2 r2 p2 => ?_
  obtain ⟨y, G3, ⟨hk, hp⟩, g3, E4⟩ := E3.dat p2
  refine ⟨x, y, hk, ⟨G3, E4.gh, ?_, E4.headD⟩, q _ _ G3 H2 Γ2 ((E4.pop.pop).push_d (.bl _)) (.d _) hp⟩
  exact E4.pop.headD⟩
theorem em_not {P1 : Sl → List Sl → Prop} (ha : EvM X a Γ P1 ex) (h : ∀ s Γ1, P1 s Γ1 → ∃ k, s = .w (.d (.bool k)) ∧ P (.w (.d (.bool (!k)))) Γ1) : EvM X (.UnaryOp .Not a pos) Γ P ex := ⟨fun B G H σ E xe Q q =>
  w_pe (pe_not pe_w) (ha.run B G H σ E xe _ fun v s G1 H1 Γ1 E1 r1 p1 => by
    obtain ⟨k, rfl, hp⟩ := h s Γ1 p1
    have d := E1.headD
    cases d
    exact ⟨k, rfl, q _ _ G1 H1 Γ1 (E1.pop.push_d (.bl _)) (.d _) hp⟩)⟩
theorem em_ite {k : Bool} (h : EvB X c Γ k) (h1 : k = true → EvM X a Γ P ex) (h2 : k = false → EvM X b Γ P ex) : EvM X (.IfExp c a b pos) Γ P ex := ⟨fun B G H σ E xe Q q =>
  w_pe (pe_ifExp pt_w pe_w pe_w) (h.run G H σ E.wenv _ fun G1 H1 s1 => by
    cases k with
    | true => exact iteT ((h1 rfl).run B G1 H1 σ (E.step s1) xe Q q)
    | false => exact iteF ((h2 rfl).run B G1 H1 σ (E.step s1) xe Q q))⟩
end
theorem resW_n {κ : Kd} {cs : List T} {P : Sl → Prop} (h : resW (.n κ cs) P) : ∀ q, P (.o q (.n κ cs)) := h
theorem atW_ex {r : Ex} {Γ : List Sl} {f : T → (T → Prop) → Prop} {P : List Sl → Prop} (h : atW r Γ f P) : ok r Γ ∧ ∃ j π p t t1, loc r Γ = some (j, π) ∧ Γ[j]? = some (.o p t) ∧ get π t = some t1 ∧ f t1 fun t1' => P (Γ.set j (.o p (put π t t1'))) := by
  obtain ⟨h0, h⟩ := h
  refine ⟨h0, ?_⟩
  split at h
  · rename_i j π el
    split at h
    · rename_i p t ej
      split at h
      · rename_i t1 eg
        exact ⟨j, π, p, t, t1, el, ej, eg, h⟩
      · exact h.elim
    · exact h.elim
  · exact h.elim
theorem loc_val {r : Ex} {Γ : List Sl} {j : Nat} {π : List Nat} {p : Addr} {t t1 : T} (h : ∃ t0, rdO Γ j = some t0 ∧ get π t0 = some (val r Γ)) (ej : Γ[j]? = some (.o p t)) (eg : get π t = some t1) : val r Γ = t1 := by
  obtain ⟨t0, h1, h2⟩ := h
  unfold rdO at h1
  rw [ej] at h1
  obtain rfl := Option.some.inj (show some t = some t0 from h1)
  rw [eg] at h2
  exact (Option.some.inj h2).symm
section
variable {N fr : List Str} {g : Pg}
theorem InPg.s {X : Cx} {f : Str} {ar : Nat} {F : Spc} (ip : InPg g X) (h : HasS g f ar F) : ∃ k, k ≤ g.j ∧ Wl.FG X.prog X.w X.K X.mg X.base k f ar (spS X.K X.mg F) := by
  rw [ip.P, ip.w, ip.K, ip.mg, ip.base]; exact h
theorem InPg.sm {X : Cx} {c f : Str} {ar : Nat} {F : Spc} (ip : InPg g X) (h : HasSM g c f ar F) : ∃ k, k ≤ g.j ∧ MG X.prog X.w X.K X.mg X.base k c f ar (spS X.K X.mg F) := by
  rw [ip.P, ip.w, ip.K, ip.mg, ip.base]; exact h
theorem InPg.mkk {X : Cx} {c : Str} {F : Spc} (ip : InPg g X) (h : HasMk g c F) : ∃ (k : Nat) (f : Addr) (fd : FuncData) (ps : List Str), k + 1 ≤ g.j ∧ Mk X.K (Tc.C c) f ∧ FnOk X.prog X.w X.K X.mg X.base (L2N.CX X.prog X.w) k f fd ps (spS X.K X.mg F) ∧ X.mg c = some (.ref (Tc.C c)) ∧ Binds X.K fd ps [] := by
  rw [ip.P, ip.w, ip.K, ip.mg, ip.base]; exact h
theorem hst_of {X : Cx} {es : List Expr} (h : es.all plainE = true) (pos : Pos) : es = [] ∨ ∃ e es', es = e :: es' ∧ starEach (e :: es') X.env = (false, eval e X.env) :: starEach es' X.env ∧ (backTo pos (starEach es' X.env)).any (·.1) = false := by
  cases es with
  | nil => exact .inl rfl
  | cons e es =>
    rw [List.all_cons, Bool.and_eq_true] at h
    exact .inr ⟨e, es, rfl, star_plain h.1 _ _, star_back h.2 _ _⟩
theorem sndM : ∀ (c : Ef) (td : Td → Prop) (g : Pg) (X : Cx) (sc : Scope) (e : Expr) (Γ : List Sl) (P : Sl → List Sl → Prop) (ex : Str → List Sl → Prop), CtxOk N fr sc X → InE td g X → chkE N fr sc c e = true → obE td g c → wpF c Γ P ex → EvM X e Γ P ex
  | .p a, td, g, X, sc, e, Γ, P, ex, cx, ie, hc, ho, hk => by
    have ip := ie.ip
    obtain ⟨k1, k2, k3⟩ := hk
    refine em_p (snd a X sc e Γ cx ip hc ho k1).1 k2 ?_
    rw [sd_eq k2]; exact k3
  | .fx f, td, g, X, sc, e, Γ, P, ex, cx, ie, hc, ho, hk => by
    have ip := ie.ip
    obtain ⟨h1, h2⟩ := sndF f X sc e Γ cx ip hc ho hk.1
    exact h1.m hk.2 h2
  | .mv i, td, g, X, sc, e, Γ, P, ex, cx, ie, hc, ho, hk => by
    have ip := ie.ip
    unfold chkE at hc; split at hc; case h_2 => cases hc
    rw [Bool.and_eq_true, decide_eq_true_eq] at hc
    obtain ⟨h1, h2⟩ := hc
    rw [← cx.sc] at h2
    obtain ⟨o1, o2, o3⟩ := Wl.okN_ok h2
    simp only [wpF] at hk
    split at hk
    · rename_i p κ cs ei
      exact em_mv (by rw [cx.n]; exact h1) o1 o2 o3 ei (resW_n hk)
    · exact hk.elim
  | .call F f as, td, g, X, sc, e, Γ, P, ex, cx, ie, hc, ho, hk => by
    have ip := ie.ip
    unfold chkE at hc; split at hc; case h_2 => cases hc
    rename_i n pn xs pos
    simp only [Bool.and_eq_true, decide_eq_true_eq] at hc
    obtain ⟨rfl, h2, h3, h4⟩ := hc
    obtain ⟨g1, g2, g3⟩ := g_ok cx h2
    obtain ⟨k, hkj, fg⟩ := ip.s ho.1
    obtain ⟨a1, a2, a3⟩ := ags_ev cx ip h4 ho.2 hk.1
    cases xs with
    | nil => simp at h3
    | cons x xs =>
      rw [List.all_cons, Bool.and_eq_true] at a2
      exact em_call fg ip.room hkj a1 hk.2 g1 g2 (star_plain a2.1 _ _) (star_back a2.2 _ _)
  | .meth F c m r as, td, g, X, sc, e, Γ, P, ex, cx, ie, hc, ho, hk => by
    have ip := ie.ip
    unfold chkE at hc; split at hc; case h_2 => cases hc
    rename_i x n ap xs pos
    simp only [Bool.and_eq_true, decide_eq_true_eq] at hc
    obtain ⟨rfl, h2, h3, h4, h5, h6⟩ := hc
    obtain ⟨k, hkj, mg⟩ := ip.sm ho.1
    obtain ⟨hi, ⟨⟨k1, k2⟩, k3⟩, hk⟩ := hk
    obtain ⟨a1, a2, a3⟩ := ags_ev cx ip h6 ho.2.2 k3
    cases el : loc r Γ with
    | none => rw [el] at k2; cases k2
    | some jp =>
      obtain ⟨j, π⟩ := jp
      obtain ⟨p1, t0, p2, p3⟩ := sndP r X sc _ Γ j π cx ip h5 ho.2.1 k1 el
      have ea : ag (.l r) Γ = .l j π := by simp only [ag]; rw [el]
      simp only [List.map_cons, ea] at hk
      refine em_meth mg ip.room hkj p1 p2 p3 hi a1 hk (fun z => ?_) (hst_of a2 _) (eval_meth h2 a2 h4 h3)
      subst z
      cases as with
      | nil => rfl
      | cons _ _ => simp at a3
  | .make F c as, td, g, X, sc, e, Γ, P, ex, cx, ie, hc, ho, hk => by
    have ip := ie.ip
    unfold chkE at hc; split at hc; case h_2 => cases hc
    rename_i n pn xs pos
    simp only [Bool.and_eq_true, decide_eq_true_eq] at hc
    obtain ⟨rfl, h2, h4⟩ := hc
    obtain ⟨g1, g2, g3⟩ := g_ok cx h2
    obtain ⟨k, f, fd, ps, hkj, M, hf, hm, hb⟩ := ip.mkk ho.1
    obtain ⟨a1, a2, a3⟩ := ags_ev cx ip h4 ho.2 hk.1
    refine em_make M hf ip.room hkj hm hb a1 hk.2 (fun z => ?_) g1 g2 (hst_of a2 _)
    subst z
    cases as with
    | nil => rfl
    | cons _ _ => simp at a3
  | .cmp o a b, td, g, X, sc, e, Γ, P, ex, cx, ie, hc, ho, hk => by
    have ip := ie.ip
    unfold chkE at hc; split at hc; case h_2 => cases hc
    simp only [Bool.and_eq_true] at hc
    obtain ⟨h1, h2, h3, h4⟩ := hc
    refine em_cmp cx.hu h1 (no_mark h2) (sndM a td g X sc _ Γ _ ex cx ie h3 ho.1 hk) fun s Γ1 h => ?_
    unfold datW at h ⊢
    split at h
    · exact sndM b td g X sc _ Γ1 _ ex cx ie h4 ho.2 h
    · exact ⟨h.1, sndM b td g X sc _ Γ1 _ ex cx ie h4 ho.2 h.2⟩
    · exact h.elim
  | .no a, td, g, X, sc, e, Γ, P, ex, cx, ie, hc, ho, hk => by
    have ip := ie.ip
    unfold chkE at hc; split at hc; case h_2 => cases hc
    refine em_not (sndM a td g X sc _ Γ _ ex cx ie hc ho hk) fun s Γ1 h => ?_
    split at h
    · rename_i k; exact ⟨k, rfl, h⟩
    · exact h.elim
  | .ite c a b, td, g, X, sc, e, Γ, P, ex, cx, ie, hc, ho, hk => by
    have ip := ie.ip
    unfold chkE at hc; split at hc; case h_2 => cases hc
    simp only [Bool.and_eq_true] at hc
    obtain ⟨h1, h2, h3⟩ := hc
    obtain ⟨k1, k2, k3, k4⟩ := hk
    exact em_ite ((snd c X sc _ Γ cx ip h1 ho.1 k1).2 k2).1 (fun z => sndM a td g X sc _ Γ P ex cx ie h2 ho.2.1 (k3 z)) (fun z => sndM b td g X sc _ Γ P ex cx ie h3 ho.2.2 (k4 z))
  | .pop r, td, g, X, sc, e, Γ, P, ex, cx, ie, hc, ho, hk => by
    have ip := ie.ip
    unfold chkE at hc; split at hc; case h_2 => cases hc
    simp only [Bool.and_eq_true, decide_eq_true_eq] at hc
    obtain ⟨rfl, h2, h3, h4⟩ := hc
    obtain ⟨k0, j, π, p, t, t1, el, ej, eg, hk⟩ := atW_ex hk
    obtain ⟨p1, p2⟩ := sndP r X sc _ Γ j π cx ip h4 ho k0 el
    have ev := loc_val p2 ej eg
    split at hk
    · split at hk
      · rename_i cs x ex'
        refine em_pop p1 ej eg ex' h2 h3 ?_
        rw [ev] at hk
        simp only [T.kids] at hk
        rw [ex'] at hk
        exact hk
      · exact hk.elim
    · exact hk.elim
  | .popi r i, td, g, X, sc, e, Γ, P, ex, cx, ie, hc, ho, hk => by
    have ip := ie.ip
    unfold chkE at hc; split at hc; case h_2 => cases hc
    simp only [Bool.and_eq_true, decide_eq_true_eq] at hc
    obtain ⟨rfl, h2, h3, h4, h5, h6⟩ := hc
    obtain ⟨i1, i2, hk⟩ := hk
    obtain ⟨k0, j, π, p, t, t1, el, ej, eg, hk⟩ := atW_ex hk
    obtain ⟨p1, p2⟩ := sndP r X sc _ Γ j π cx ip h5 ho.1 k0 el
    have ev := loc_val p2 ej eg
    split at hk
    · rename_i cs
      split at hk
      · rename_i k ek
        split at hk
        · rename_i x ex'
          refine em_popi p1 (snd i X sc _ Γ cx ip h6 ho.2 i1).1 i2 ej eg ek ex' h2 h4 h3 ?_ ?_
          · have := hk.1; exact by omega
          · have hk := hk.2
            rw [ev] at hk
            have : atI (T.kids (.n .l cs)) (val i Γ).i = some (.d x) := by
              simp only [T.kids]; unfold atI; rw [ek]; exact ex'
            rw [this] at hk
            exact hk
        · exact hk.elim
      · exact hk.elim
    · exact hk.elim
  | .popd _ _ _, td, g, X, sc, e, Γ, P, ex, cx, ie, hc, ho, hk => by simp [chkE] at hc
  | .callr F f es, td, g, X, sc, e, Γ, P, ex, cx, ie, hc, ho, hk => by
    have ip := ie.ip
    unfold chkE at hc; split at hc; case h_2 => cases hc
    rename_i n pn xs pos
    simp only [Bool.and_eq_true, decide_eq_true_eq] at hc
    obtain ⟨rfl, h2, h3, h4⟩ := hc
    obtain ⟨g1, g2, g3⟩ := g_ok cx h2
    obtain ⟨k, hkj, fg⟩ := ip.f ho.1
    obtain ⟨k1, k2, k3⟩ := hk
    obtain ⟨a1, a2, a3⟩ := snds es X sc xs Γ cx ip h4 ho.2 k1
    cases xs with
    | nil => simp at h3
    | cons x xs =>
      rw [List.all_cons, Bool.and_eq_true] at a2
      exact em_callr fg ip.room hkj k2 k3 a1 g1 g2 (star_plain a2.1 _ _) (star_back a2.2 _ _)
  | .methr F c m r es, td, g, X, sc, e, Γ, P, ex, cx, ie, hc, ho, hk => by
    have ip := ie.ip
    unfold chkE at hc; split at hc; case h_2 => cases hc
    rename_i x n ap xs pos
    simp only [Bool.and_eq_true, decide_eq_true_eq] at hc
    obtain ⟨rfl, h2, h3, h4, h5, h6⟩ := hc
    obtain ⟨k, hkj, mg⟩ := ip.m ho.1
    obtain ⟨k1, k2, k3, k4, k5⟩ := hk
    obtain ⟨a1, a2, a3⟩ := snds es X sc xs Γ cx ip h6 ho.2.2 k3
    refine em_methr mg ip.room hkj (snd r X sc _ Γ cx ip h5 ho.2.1 k1).1 k2 a1 k4 k5 (fun z => ?_) (hst_of a2 _) (eval_meth h2 a2 h4 h3)
    subst z
    cases es with
    | nil => rfl
    | cons _ _ => simp [exLen] at a3
  | .told d c, td, g, X, sc, e, Γ, P, ex, cx, ie, hc, ho, hk => by
    unfold chkE at hc; split at hc; case h_2 => cases hc
    rename_i n pn body scope lpos pos
    simp only [Bool.and_eq_true, decide_eq_true_eq] at hc
    obtain ⟨rfl, h2, h3, h4⟩ := hc
    obtain ⟨g1, g2, g3⟩ := g_ok cx h2
    obtain ⟨a, g0, c0, P0, kz, TF, hm, TB, hcode, hmT, hu, hr, hkz⟩ := (ie.tl d ho.1).ex
    rw [← cx.sc] at h3
    refine em_told TF hm g1 (fun A outer s H E f c' hr2 => ?_) (fun n Γ' z => z) TB hcode hmT hu hr hkz (LamX.lamS_by h3) rfl (fun _ _ _ _ _ => rfl) g2
    exact sndM c (fun _ => False) { g with j := g.j - 2 } _ scope body Γ P _ ⟨cx.n, cx.nd, rfl, rfl, by have := hr2.un; show (A.deeper _).units + 64 < cLine; omega, cx.fr⟩ ⟨⟨ie.ip.P, ie.ip.w, ie.ip.K, ie.ip.mg, ie.ip.base, hr2⟩, fun _ z => z.elim⟩ h4 ho.2.2 hk
end
end Yl

end

section
/-! Y17: statements. -/
namespace Yl
open PySem PySem.Spec PyProof.Rows L2
open Wl (wE wT wA wS wSs pe_w pt_w pa_w ps_w pss_w w_pe w_pt w_pa w_ps w_pss Dt DtAll Stp Keeps NoT Wk WkAll dt_mono dtAll_mono dt_dp dtAll_dp sqT_mono dp_lay Fre same_upd same_upd2 set_self wG pg_w w_pg wGs pgs_w w_pgs wSs_nil wSs_cons wSs_one wS_mono wSs_mono)
variable [Wl.Tb] [Tc]
def Kn.ends (K : Frg) (B : Bs) (k : Kn) : Ends where
  nx := fun σ H => ∃ G Γ, Env K B G H σ Γ ∧ k.nx Γ
  rt := fun v H => ∃ G σ s Γ, Env K B G H (some v :: σ) (s :: Γ) ∧ Rs s ∧ k.rt (slT s) Γ
  bk := fun σ H => ∃ G Γ, Env K B G H σ Γ ∧ k.bk Γ
  ct := fun σ H => ∃ G Γ, Env K B G H σ Γ ∧ k.ct Γ
/-- the context takes what may be raised, and lets go what a loop does not take -/
def XT (X : Cx) (B : Bs) (ex : Str → List Sl → Prop) : Prop := ∃ W : WX, L2N.Takes X W ∧ PassesOwn (model X.prog X.w) X.A X.env X.xe ∧ ∀ (c : Str) (σ : L2.St) (G H : Hp) (Γ : List Sl), Env X.K B G H σ Γ → ex c Γ → W (.ref (Wl.clsAt X.mg c)) none σ H
theorem XT.xe {X : Cx} {B : Bs} {ex : Str → List Sl → Prop} (h : XT X B ex) : XE X B ex := let ⟨W, tk, _, q⟩ := h; ⟨W, tk, q⟩
structure Ss (X : Cx) (sts : List Stmt) (k : Kn) (Γ : List Sl) : Prop where
  run : ∀ (B : Bs) (G H : Hp) (σ : L2.St), Env X.K B G H σ Γ → XT X B k.ex → wSs X sts (k.ends X.K B) σ H
structure S1 (X : Cx) (st : Stmt) (k : Kn) (Γ : List Sl) : Prop where
  run : ∀ (B : Bs) (G H : Hp) (σ : L2.St), Env X.K B G H σ Γ → XT X B k.ex → wS X st (k.ends X.K B) σ H
section
variable {X : Cx} {Γ : List Sl} {e a b c : Expr} {es : List Expr} {t : T} {pos p2 : Pos} {k : Kn} {st : Stmt} {sts : List Stmt}
theorem ss_nil (h : k.nx Γ) : Ss X [] k Γ := ⟨fun B G H σ E _ => wSs_nil ⟨G, Γ, E, h⟩⟩
theorem ss_cons (h : S1 X st { k with nx := Ss X sts k } Γ) : Ss X (st :: sts) k Γ := ⟨fun B G H σ E xt =>
  wSs_cons (wS_mono (h.run B G H σ E xt) (fun σ' H' ⟨G', Γ', E', q⟩ => q.run B G' H' σ' E' xt) (fun _ _ q => q) (fun _ _ q => q) (fun _ _ q => q))⟩
theorem s1_imp {n : List Sl → Prop} (h : S1 X st { k with nx := n } Γ) (i : ∀ Γ, n Γ → k.nx Γ) : S1 X st k Γ := ⟨fun B G H σ E xt =>
  wS_mono (h.run B G H σ E xt) (fun σ' H' ⟨G', Γ', E', q⟩ => ⟨G', Γ', E', i Γ' q⟩) (fun _ _ q => q) (fun _ _ q => q) (fun _ _ q => q)⟩
theorem s1_pass (h : k.nx Γ) : S1 X (.Pass pos) k Γ := ⟨fun B G H σ E _ => w_ps ps_pass ⟨G, Γ, E, h⟩⟩
theorem s1_brk (h : k.bk Γ) : S1 X (.Break pos) k Γ := ⟨fun B G H σ E _ => w_ps ps_break ⟨G, Γ, E, h⟩⟩
theorem s1_cnt (h : k.ct Γ) : S1 X (.Continue pos) k Γ := ⟨fun B G H σ E _ => w_ps ps_continue ⟨G, Γ, E, h⟩⟩
theorem s1_doc {w : Str} {j : Nat} (h : k.nx Γ) : S1 X (.Expr (.Constant (.str w) j pos) p2) k Γ := ⟨fun B G H σ E _ => w_ps ps_doc ⟨G, Γ, E, h⟩⟩
theorem s1_set {n : Str} {i : Nat} {p' : Pos} (he : EvM X e Γ (fun s Γ' => k.nx (Γ'.set i s)) k.ex) (hN : X.N.Nodup) (hi : X.N[i]? = some n) (hx : Loc X.env.scope n) (hf : X.fn n = true ∨ X.env.scope.names.lookup n = some .local) (hs : swapsWith e (some (.Name n p')) pos.line X.env = pure false) :
    S1 X (.Assign [.Name n p'] e pos) k Γ := ⟨fun B G H σ E xt => w_ps (ps_set hN hi hx pe_w hs hf) (he.run B G H σ E xt.xe _ fun v s G' H' Γ' E' r p => ⟨G', _, E'.take i, p⟩)⟩
theorem s1_ret (he : EvM X e Γ (fun s Γ' => k.rt (slT s) Γ') k.ex) : S1 X (.Return (some e) pos) k Γ := ⟨fun B G H σ E xt =>
  w_ps (ps_ret pe_w) (he.run B G H σ E xt.xe _ fun v s G' H' Γ' E' r p => ⟨G', σ, s, Γ', E', r, p⟩)⟩
theorem s1_retN (h : k.rt (.d .none) Γ) : S1 X (.Return none pos) k Γ := ⟨fun B G H σ E _ => w_ps ps_retN ⟨G, σ, .w (.d .none), Γ, E.push_d .non, .d _, h⟩⟩
theorem s1_expr (he : EvM X e Γ (fun _ Γ' => k.nx Γ') k.ex) (hs : swapsWith e none pos.line X.env = pure false) : S1 X (.Expr e pos) k Γ := ⟨fun B G H σ E xt =>
  w_ps (ps_expr pe_w hs) (he.run B G H σ E xt.xe _ fun v s G' H' Γ' E' r p => ⟨G', Γ', E'.pop, p⟩)⟩
/-- the condition is a truth value told by an expression that may change something -/
theorem s1_if {p q : List Stmt} {tc : L2.St → Hp → (Bool → Hp → Prop) → Prop} (hc : ∀ (B : Bs) (G H : Hp) (σ : L2.St), Env X.K B G H σ Γ → XT X B k.ex → ∀ Q : Bool → Hp → Prop, (∀ t G' H' Γ', Env X.K B G' H' σ Γ' → (t = true → Ss X p k Γ') → (t = false → Ss X q k Γ') → Q t H') → wT X c σ H Q) : S1 X (.If c p q pos) k Γ := ⟨fun B G H σ E xt =>
  w_ps (ps_if pt_w pss_w pss_w) (hc B G H σ E xt _ fun t G' H' Γ' E' h1 h2 => by
    cases t with
    | true => exact iteT ((h1 rfl).run B G' H' σ E' xt)
    | false => exact iteF ((h2 rfl).run B G' H' σ E' xt))⟩
/-! ### targets -/
structure TgE (X : Cx) (tg : Expr) (t : T) (Γ Γ' : List Sl) : Prop where
  run : ∀ (B : Bs) (G H : Hp) (σ : L2.St) (v : V) (fp : List Addr), Env X.K B G H σ Γ → TAt X.K G H v t fp → ∀ Q : L2.St → Hp → Prop, (∀ σ', Env X.K B G H σ' Γ' → Q σ' H) → wG X tg v σ H Q
structure TgsE (X : Cx) (tgs : List Expr) (ts : List T) (Γ Γ' : List Sl) : Prop where
  run : ∀ (B : Bs) (G H : Hp) (σ : L2.St) (vs : List V) (fp : List Addr), Env X.K B G H σ Γ → TAts X.K G H vs ts fp → ∀ Q : L2.St → Hp → Prop, (∀ σ', Env X.K B G H σ' Γ' → Q σ' H) → wGs X tgs vs σ H Q
theorem te_name {n : Str} {i : Nat} (hN : X.N.Nodup) (hi : X.N[i]? = some n) (hx : Loc X.env.scope n) (hf : X.fn n = true ∨ X.env.scope.names.lookup n = some .local) (q : t.sd = true) : TgE X (.Name n pos) t Γ (Γ.set i (.w t)) := ⟨fun B G H σ v fp E d Q k =>
  w_pg (pg_name hN hi hx hf) (k _ (by
    rw [sd_eq q] at d ⊢
    cases d with | d d => exact E.set_d d i))⟩
theorem tes_nil : TgsE X [] [] Γ Γ := ⟨fun B G H σ vs fp E d Q q => by
  cases d
  exact w_pgs pgs_nil ⟨rfl, q σ E⟩⟩
theorem tes_cons {tg : Expr} {tgs : List Expr} {ts : List T} {Γ1 Γ2 : List Sl} (h : TgE X tg t Γ Γ1) (k : TgsE X tgs ts Γ1 Γ2) (hs : (assignEach (tg :: tgs) X.env).map (·.2) = assign tg X.env :: (assignEach tgs X.env).map (·.2)) : TgsE X (tg :: tgs) (t :: ts) Γ Γ2 := ⟨fun B G H σ vs fp E d Q q => by
  cases d with
  | cons d1 d2 => exact w_pgs (pgs_cons pg_w pgs_w hs) ⟨_, _, rfl, h.run B G H σ _ _ E d1 _ fun σ1 E1 => k.run B G H σ1 _ _ E1 d2 _ fun σ2 E2 => q σ2 E2⟩⟩
theorem te_tup {tgs : List Expr} {Γ' : List Sl} {kk n : Nat} (hc : X.calm = true) (qt : t.isT = true) (h : TgsE X tgs t.kids Γ Γ') (hl : t.kids.length = n) (hn : (assignEach tgs X.env).length = n) (hst : (assignEach tgs X.env).findIdx? (·.1) = none) : TgE X (.Tuple tgs kk pos) t Γ Γ' := ⟨fun B G H σ v fp E d Q q => by
  obtain ⟨p, vs, fq, rfl, hp, hd⟩ := d.tup E.gh qt
  exact w_pg (pg_tup hc pgs_w hn hst) ⟨p, vs, rfl, hp, by rw [hd.len]; exact hl, h.run B G H σ vs fq E hd Q q⟩⟩
theorem names_te {N : List Str} (hN : X.N = N) (nd : N.Nodup) : ∀ {is : List Nat} {es : List Expr} {ts : List T} {Γ : List Sl}, chkNm N is es = true → ts.length = is.length → allSd ts = true → (∀ i n, i ∈ is → N[i]? = some n → Wl.okS X.env.scope (X.fn n) n = true) →
    TgsE X es ts Γ (binds is ts Γ) ∧ (assignEach es X.env).length = is.length ∧ (assignEach es X.env).findIdx? (·.1) = none
  | [], [], [], Γ, _, _, _, _ => ⟨tes_nil, rfl, rfl⟩
  | [], [], t :: ts, Γ, _, h, _, _ => by simp at h
  | [], e :: es, ts, Γ, h, _, _, _ => by simp [chkNm] at h
  | i :: is, [], ts, Γ, h, _, _, _ => by simp [chkNm] at h
  | i :: is, e :: es, [], Γ, _, h, _, _ => by simp at h
  | i :: is, e :: es, t :: ts, Γ, h, hl, hd, hs => by
    cases e <;> simp [chkNm] at h
    rename_i n p
    obtain ⟨h1, h2⟩ := h
    unfold allSd at hd
    rw [List.all_cons, Bool.and_eq_true] at hd
    obtain ⟨k1, k2, k3⟩ := names_te hN nd (ts := ts) (Γ := Γ.set i (.w t)) h2 (by simpa using hl) hd.2 fun j m hj => hs j m (List.mem_cons_of_mem _ hj)
    have o := Wl.okS_ok (hs i n List.mem_cons_self h1)
    refine ⟨tes_cons (te_name (by rw [hN]; exact nd) (by rw [hN]; exact h1) o.1 o.2 hd.1) k1 rfl, ?_, ?_⟩
    · show (_ :: assignEach es X.env).length = _
      rw [List.length_cons, List.length_cons, k2]
    · show List.findIdx? (·.1) ((false, _) :: assignEach es X.env) = none
      rw [List.findIdx?_cons]
      simp [k3]
theorem te_ok {N : List Str} {tg : Tg} {te : Expr} (hN : X.N = N) (nd : N.Nodup) (hc : X.calm = true) (hk : chkTg N tg te = true) (hb : bindOk tg t) (hd : bindD tg t) (hs : ∀ i n, i ∈ tgI tg → N[i]? = some n → Wl.okS X.env.scope (X.fn n) n = true) : TgE X te t Γ (bind tg t Γ) := by
  cases tg with
  | n i =>
    cases te <;> simp [chkTg] at hk
    have o := Wl.okS_ok (hs i _ (by simp [tgI]) hk)
    exact te_name (by rw [hN]; exact nd) (by rw [hN]; exact hk) o.1 o.2 hd
  | t is =>
    cases te <;> simp [chkTg] at hk
    obtain ⟨h1, h2⟩ := hk
    obtain ⟨k1, k2, k3⟩ := names_te (X := X) hN nd (Γ := Γ) (ts := t.kids) h2 hb.2 hd hs
    exact te_tup hc hb.1 k1 hb.2 k2 k3
theorem s1_asg {tg : Expr} {Γ' : List Sl} (he : EvT X e Γ t) (ht : TgE X tg t Γ Γ') (h : k.nx Γ') (hs : swapsWithSole [tg] e pos.line X.env = pure false) (hw : swappedStores [tg] e X.env = pure none) (h1 : (assignEach [tg] X.env).map (·.2) = [assign tg X.env]) :
    S1 X (.Assign [tg] e pos) k Γ := ⟨fun B G H σ E _ => w_ps (ps_asg pe_w pg_w hs hw h1) (he.run G H σ E.wenv _ fun v G' H' fp s d => ht.run B G' H' σ v fp (E.step s) d _ fun σ' E' => ⟨G', Γ', E', h⟩)⟩
/-- values from the left, as things ahead of the slots -/
structure EvMs (X : Cx) (es : List Expr) (Γ : List Sl) (P : List Sl → List Sl → Prop) (ex : Str → List Sl → Prop) : Prop where
  run : ∀ (B : Bs) (G H : Hp) (σ : L2.St), Env X.K B G H σ Γ → XE X B ex → ∀ Q : List V → Hp → Prop, (∀ vs ss G' H' Γ', Env X.K B G' H' (vs.map some ++ σ) (ss ++ Γ') → ss.length = vs.length → vs.length = es.length → P ss Γ' → Q vs H') → wA X es σ H Q
theorem ems_nil {P : List Sl → List Sl → Prop} {ex : Str → List Sl → Prop} (h : P [] Γ) : EvMs X [] Γ P ex := ⟨fun B G H σ E xe Q q => w_pa pa_nil (q [] [] G H Γ E rfl rfl h)⟩
theorem XE.drop {B : Bs} {ex : Str → List Sl → Prop} {v : V} {s : Sl} {G H : Hp} {O : List Addr} (x : XE X B ex) (back : ∀ {G' H' : Hp} {σ' : L2.St} {Γ' : List Sl}, Env X.K ⟨G, H, O, B.W⟩ G' H' σ' Γ' → Env X.K B G' H' ([some v] ++ σ') ([s] ++ Γ') ∧ Same G G') : XE X ⟨G, H, O, B.W⟩ ex := by
  obtain ⟨W, tk, hW⟩ := x
  exact ⟨W, tk, fun c σ' G' H' Γ' E' z => hW c σ' G' H' Γ' (Env.pop (back E').1) z⟩
theorem ems_cons {P : List Sl → List Sl → Prop} {ex : Str → List Sl → Prop} (h : EvM X e Γ (fun s Γ1 => EvMs X es Γ1 (fun ss Γ2 => P (s :: ss) Γ2) ex) ex) (hs : starEach (e :: es) X.env = (false, eval e X.env) :: starEach es X.env) : EvMs X (e :: es) Γ P ex := ⟨fun B G H σ E xe Q q => by
  refine w_pa (pa_cons pe_w pa_w hs) (h.run B G H σ E xe _ fun v s G1 H1 Γ1 E1 r1 p1 => ?_)
  obtain ⟨O, E2, back⟩ := Env.frame (τ := [some v]) (S := [s]) rfl E1
  refine p1.run _ G1 H1 σ E2 (xe.drop back) _ fun vs ss G2 H2 Γ2 E3 l3 l4 p3 => q (v :: vs) (s :: ss) G2 H2 Γ2 (back E3).1 (by simp [l3]) (by simp [l4]) p3⟩
/-- things ahead go into slots -/
theorem Env.takes {K : Frg} {B : Bs} {G H : Hp} : ∀ {vs : List V} {ss : List Sl} {is : List Nat} {σ : L2.St} {Γ : List Sl}, ss.length = vs.length → is.length = vs.length → Env K B G H (vs.map some ++ σ) (ss ++ Γ) → Env K B G H ((is.zip vs).foldl (fun σ q => σ.set q.1 (some q.2)) σ) (sets is ss Γ)
  | [], [], [], _, _, _, _, E => E
  | v :: vs, s :: ss, i :: is, σ, Γ, l1, l2, E => by
    have E1 : Env K B G H ((vs.map some ++ σ).set (vs.length + i) (some v)) ((ss ++ Γ).set (vs.length + i) s) := Env.take E (vs.length + i)
    have e1 : (vs.map some ++ σ).set (vs.length + i) (some v) = vs.map some ++ σ.set i (some v) := by
      have := app_set (vs.map some) σ i (some v)
      rwa [List.length_map] at this
    have l1' : ss.length = vs.length := by simpa using l1
    have e2 : (ss ++ Γ).set (vs.length + i) s = ss ++ Γ.set i s := by rw [← l1']; exact app_set ss Γ i s
    rw [e1, e2] at E1
    have r := Env.takes (vs := vs) (ss := ss) (is := is) l1' (by simpa using l2) E1
    exact r
  | [], _ :: _, _, _, _, l, _, _ => by simp at l
  | _ :: _, [], _, _, _, l, _, _ => by simp at l
  | [], [], _ :: _, _, _, _, l, _ => by simp at l
  | _ :: _, _ :: _, [], _, _, _, l, _ => by simp at l
theorem s1_par {i j : Nat} {n m : Str} {px py pt : Pos} {kt k2 : Nat} {pt2 : Pos} (he : EvMs X [a, b] Γ (fun ss Γ' => k.nx (sets [i, j] ss Γ')) k.ex) (hc : X.calm = true) (hN : X.N.Nodup) (hi : X.N[i]? = some n) (hj : X.N[j]? = some m) (hij : i ≠ j) (hx : X.env.scope.names.lookup n = some .local) (hy : X.env.scope.names.lookup m = some .local)
    (hw : swappedStores [.Tuple [.Name n px, .Name m py] kt pt] (.Tuple [a, b] k2 pt2) X.env = pure (some [n, m])) (hs : swapsWithSole [.Tuple [.Name n px, .Name m py] kt pt] (.Tuple [a, b] k2 pt2) pos.line X.env = pure false) :
    S1 X (.Assign [.Tuple [.Name n px, .Name m py] kt pt] (.Tuple [a, b] k2 pt2) pos) k Γ := ⟨fun B G H σ E xt => w_ps (ps_par hc hN hi hj hij hx hy pa_w hw hs) (he.run B G H σ E xt.xe _ fun vs ss G' H' Γ' E' l l2 p => by
    match vs, l2 with
    | [v, w], _ => exact ⟨v, w, rfl, G', _, Env.takes (is := [i, j]) l rfl E', p⟩)⟩
theorem s1_par3 {i j l : Nat} {n m o : Str} {px py pz pt : Pos} {kt k2 : Nat} {pt2 : Pos} (he : EvMs X [a, b, c] Γ (fun ss Γ' => k.nx (sets [i, j, l] ss Γ')) k.ex) (hc : X.calm = true) (hN : X.N.Nodup) (hi : X.N[i]? = some n) (hj : X.N[j]? = some m) (hl : X.N[l]? = some o) (hij : i ≠ j) (hil : i ≠ l) (hjl : j ≠ l)
    (hx : X.env.scope.names.lookup n = some .local) (hy : X.env.scope.names.lookup m = some .local) (hz : X.env.scope.names.lookup o = some .local)
    (hw : swappedStores [.Tuple [.Name n px, .Name m py, .Name o pz] kt pt] (.Tuple [a, b, c] k2 pt2) X.env = pure (some [n, m, o])) (hs : swapsWithSole [.Tuple [.Name n px, .Name m py, .Name o pz] kt pt] (.Tuple [a, b, c] k2 pt2) pos.line X.env = pure false) :
    S1 X (.Assign [.Tuple [.Name n px, .Name m py, .Name o pz] kt pt] (.Tuple [a, b, c] k2 pt2) pos) k Γ := ⟨fun B G H σ E xt => w_ps (ps_par3 hc hN hi hj hl hij hil hjl hx hy hz pa_w hw hs) (he.run B G H σ E xt.xe _ fun vs ss G' H' Γ' E' l0 l2 p => by
    match vs, l2 with
    | [u, v, w], _ => exact ⟨u, v, w, rfl, G', _, Env.takes (is := [i, j, l]) l0 rfl E', p⟩)⟩
/-! ### loops -/
/-- for over plain data -/
theorem s1_for {tg iter : Expr} {body : List Stmt} {its : List T} {bd : T → List Sl → List Sl} (I : List T → List Sl → Prop) (hc : X.calm = true) (src : SrcT X true tg iter Γ its) (h0 : I its Γ)
    (hs : ∀ (t : T) (ts : List T) (Γ1 : List Sl), t ∈ its → I (t :: ts) Γ1 → TgE X tg t Γ1 (bd t Γ1) ∧ Ss X body { k with nx := I ts, ct := I ts, bk := k.nx } (bd t Γ1)) (hd : ∀ Γ1, I [] Γ1 → k.nx Γ1)
    (hfs : ∀ x, foldedSetIterable iter X.env x = pure x) : S1 X (.For tg iter body [] pos) k Γ := ⟨fun B G H σ E xt => by
  obtain ⟨wi, hpi, hsrc⟩ := src.ex
  obtain ⟨W, tk, po, hW⟩ := id xt
  refine w_ps (ps_for po hc hpi pg_w pss_w hfs) (hsrc G H σ E.wenv _ fun J G1 H1 fs s1 hfsn k1 => ?_)
  obtain ⟨Gd, Y, wk, og, oy⟩ := k1.ex
  obtain rfl := hfsn rfl
  let Pv : Nat → L2.St → Hp → Prop := fun i σ' H' => ∃ (G' : Hp) (Γ' : List Sl), Env X.K B G' H' σ' Γ' ∧ Same G1 G' ∧ I (its.drop i) Γ'
  refine for_it wk Pv ⟨G1, Γ, E.step s1, Same.refl _, h0⟩ (fun i σ' H' hi ⟨G', Γ', E', g, _⟩ => og G' H' g E'.gh fun a z => by cases z) ?_ ?_
  · rintro i v σ2 H2 H3 hi ⟨G2, Γ2, E2, g2, i2⟩ y
    obtain ⟨G3, t, fp, ht, t3, dx⟩ := oy i G2 H2 v H3 hi g2 E2.gh (fun a z => by cases z) y
    have ed : its.drop i = t :: its.drop (i + 1) := by
      obtain ⟨h1, h2⟩ := List.getElem?_eq_some_iff.mp ht
      rw [List.drop_eq_getElem_cons h1, h2]
    rw [ed] at i2
    obtain ⟨hT, hB⟩ := hs t (its.drop (i + 1)) Γ2 (List.mem_of_getElem? ht) i2
    refine hT.run B G3 H3 σ2 v fp (E2.step t3) dx _ fun σ' E' => ?_
    obtain ⟨O, Eb, back⟩ := Env.frame (τ := []) (S := []) rfl E'
    refine wSs_mono (hB.run _ G3 H3 σ' Eb ⟨W, tk, po, fun c σ G H Γ E x => hW c σ G H Γ (back E).1 x⟩) (fun σ4 H4 ⟨G4, Γ4, E4, q⟩ => ?_) (fun v4 H4 ⟨G4, σ4, s4, Γ4, E4, r4, q⟩ => ?_) (fun σ4 H4 ⟨G4, Γ4, E4, q⟩ => ?_) (fun σ4 H4 ⟨G4, Γ4, E4, q⟩ => ?_)
    · exact ⟨G4, Γ4, (back E4).1, (g2.trans t3.g).trans (back E4).2, q⟩
    · exact ⟨G4, σ4, s4, Γ4, (back E4).1, r4, q⟩
    · exact ⟨G4, Γ4, (back E4).1, q⟩
    · exact ⟨G4, Γ4, (back E4).1, (g2.trans t3.g).trans (back E4).2, q⟩
  · rintro σ2 H2 ⟨G2, Γ2, E2, g2, i2⟩
    rw [List.drop_length] at i2
    exact ⟨G2, Γ2, E2, hd Γ2 i2⟩⟩
/-- while, by a word that falls -/
theorem s1_while {body : List Stmt} (I : Nat → List Sl → Prop) (m0 : Nat) (h0 : I m0 Γ)
    (hs : ∀ (m : Nat) (Γ1 : List Sl), I m Γ1 → ∃ t, EvB X c Γ1 t ∧ (t = true → Ss X body { k with nx := fun Γ2 => ∃ m', m' < m ∧ I m' Γ2, ct := fun Γ2 => ∃ m', m' < m ∧ I m' Γ2, bk := k.nx } Γ1) ∧ (t = false → k.nx Γ1)) : S1 X (.While c body [] pos) k Γ := ⟨fun B G H σ E xt => by
  obtain ⟨W, tk, po, hW⟩ := id xt
  refine w_ps (ps_while po pt_w pss_w) ⟨fun m σ H => ∃ G Γ, Env X.K B G H σ Γ ∧ I m Γ, ⟨m0, G, Γ, E, h0⟩, ?_⟩
  rintro m σ1 H1 ⟨G1, Γ1, E1, i1⟩
  obtain ⟨t, ht, h1, h2⟩ := hs m Γ1 i1
  refine ht.run G1 H1 σ1 E1.wenv _ fun G2 H2 s2 => ?_
  cases t with
  | true =>
    refine iteT ⟨fun σ H => ∃ G Γ, Env X.K B G H σ Γ ∧ ∃ m', m' < m ∧ I m' Γ, fun σ' H' ⟨G', Γ', E', m', hm, i'⟩ => ⟨m', hm, G', Γ', E', i'⟩, (h1 rfl).run B G2 H2 σ1 (E1.step s2) xt⟩
  | false => exact iteF ⟨G2, Γ1, E1.step s2, h2 rfl⟩⟩
theorem s1_raise {n m : Str} {j : Nat} {p q : Pos} (hc : X.calm = true) (C : Wl.XC X.K X.mg n) (h : k.ex n Γ) (hg : Gl X n) (hdb : (n == ("__debug__" : Str)) = false) :
    S1 X (.Raise (some (.Call (.Name n p) [.Constant (.str m) j q] [] p2)) none pos) k Γ := ⟨fun B G H σ E ⟨W, tk, po, hW⟩ =>
  w_ps (L2N.ps_raise hc tk (L2N.pmk_own PySem.F.excBase_ValueError C.xC C.gC C.kC (raises_own C.bC C.tC) hg hdb)) (hW n σ G H Γ E h)⟩
/-! ### what is frozen, what is no more looked at -/
theorem s1_un {i : Nat} (h : Ss X sts k (Γ.set i .un)) : Ss X sts k Γ := ⟨fun B G H σ E xt => h.run B G H σ (E.forget i) xt⟩
theorem ss_frz {i : Nat} {p : Addr} {cs : List T} (hi : Γ[i]? = some (.o p (.n .l cs))) (hs : allSd cs = true) (h : Ss X sts k (Γ.set i (.w (.d (.list (T.dats cs)))))) : Ss X sts k Γ := ⟨fun B G H σ E xt => by
  obtain ⟨G', g, E'⟩ := E.freeze hi hs
  exact h.run B G' H σ E' xt⟩
end
end Yl

end

section
/-! Y18: attributes, items of dicts, lists that take in what is made behind them. -/
namespace Yl
open PySem PySem.Spec PyProof.Rows L2
open Wl (wE wT wA wS wSs pe_w pt_w pa_w ps_w pss_w w_pe w_pt w_pa w_ps w_pss Dt DtAll Stp Keeps NoT Wk WkAll dt_mono dtAll_mono dt_dp dtAll_dp sqT_mono dp_lay Fre same_upd same_upd2 set_self wG pg_w w_pg wGs pgs_w w_pgs wSs_nil wSs_cons wSs_one wS_mono wSs_mono)
variable [Wl.Tb] [Tc]
section
variable {K : Frg} {B : Bs} {G H G' H' : Hp} {σ : L2.St} {Γ : List Sl} {o o1 o0 : Option V} {s s1 s0 : Sl}
theorem Env.swap2 (E : Env K B G H (o1 :: o0 :: σ) (s1 :: s0 :: Γ)) : Env K B G H (o0 :: o1 :: σ) (s0 :: s1 :: Γ) := by
  obtain ⟨fps, h1, h2, h3⟩ := E.sl
  match fps, h1, h2, h3 with
  | f0 :: f1 :: fps, h1, h2, h3 =>
    refine ⟨E.gh, E.g0, E.new, E.keep, E.tab, E.nt, E.wh, E.wn, f1 :: f0 :: fps, ⟨h1.2.1, h1.1, h1.2.2⟩, ?_, fun a ha => h3 a ?_⟩
    · have e : (f0 :: f1 :: fps).flatten.Perm (f1 :: f0 :: fps).flatten := by
        simp only [List.flatten_cons]
        rw [← List.append_assoc, ← List.append_assoc]
        exact (List.perm_append_comm).append_right _
      exact e.nodup_iff.mp h2
    · simp only [List.flatten_cons, List.mem_append] at ha ⊢
      rcases ha with q | q | q
      · exact .inr (.inl q)
      · exact .inl q
      · exact .inr (.inr q)
/-- a place comes ahead of what is told -/
theorem Env.at2 {w : Option V} (E : Env K B G H (w :: σ) (s :: Γ)) {j : Nat} {π : List Nat} {p : Addr} {t t1 : T} {v : V} (hj : Γ[j]? = some (.o p t)) (hg : get π t = some t1) (hn : isNode t1 = true) (ha : AgOk K G H σ v (.l j π)) : ∃ p1, v = .ref p1 ∧ Env K B G H (some (.ref p1) :: w :: σ) (.o p1 t1 :: s :: Γ.set j (.o p (put π t (.h p1)))) ∧
    ∀ {H' : Hp} {t1' : T}, Env K B G H' (some (.ref p1) :: σ) (.o p1 t1' :: Γ.set j (.o p (put π t (.h p1)))) → Env K B G H' σ (Γ.set j (.o p (put π t t1'))) := by
  obtain ⟨O, E3, back⟩ := Env.frame (τ := [w]) (S := [s]) rfl E
  obtain ⟨p1, q1, q2, E4⟩ := E3.ext hj hg hn
  obtain ⟨v0, g1, g2⟩ := ha
  rw [q1] at g1
  obtain rfl := Option.some.inj (Option.some.inj g1)
  rw [q2] at g2
  obtain rfl := Option.some.inj g2
  have E5 : Env K B G H (w :: some (.ref p1) :: σ) (s :: .o p1 t1 :: Γ.set j (.o p (put π t (.h p1)))) := (back E4).1
  refine ⟨p1, rfl, E5.swap2, ?_⟩
  intro H' t1' E7
  have gp : get π (put π t (.h p1)) = some (.h p1) := get_put hg
  have ij : j < Γ.length := (List.getElem?_eq_some_iff.mp hj).1
  have E8 := E7.ins (j := j) (π := π) (p := p) (t := put π t (.h p1)) (by rw [List.getElem?_set_self ij]) gp
  rw [List.set_set, put_put hg] at E8
  exact E8
theorem keyIx_none {k : Key} : ∀ {kvs : List (Key × V)}, keyIx (kvs.map fun q => keyD q.1) (keyD k) = none → ∀ q, q ∈ kvs → q.1 ≠ k
  | [], _, q, h => by cases h
  | a :: kvs, e, q, h => by
    simp only [List.map_cons, keyIx, keyD_eqv] at e
    by_cases z : a.1 = k
    · rw [decide_eq_true z, if_pos rfl] at e; cases e
    · rw [decide_eq_false z, if_neg (by simp)] at e
      cases y : keyIx (kvs.map fun q => keyD q.1) (keyD k) with
      | some n => rw [y] at e; cases e
      | none =>
        rcases List.mem_cons.mp h with w | w
        · rw [w]; exact z
        · exact keyIx_none y q w
theorem map_no {k : Key} {v : V} : ∀ {kvs : List (Key × V)}, (∀ q, q ∈ kvs → q.1 ≠ k) → kvs.map (fun kv => if kv.1 = k then (kv.1, v) else kv) = kvs
  | [], _ => rfl
  | a :: kvs, h => by
    rw [List.map_cons, if_neg (h a List.mem_cons_self), map_no fun q hq => h q (List.mem_cons_of_mem _ hq)]
theorem putK_ix {k : Key} {v : V} : ∀ (kvs : List (Key × V)), (match keyIx (kvs.map fun q => keyD q.1) (keyD k) with
    | some n => nodupK (kvs.map fun q => keyD q.1) = true → (putK kvs k v).map (fun q => keyD q.1) = kvs.map (fun q => keyD q.1) ∧ (putK kvs k v).map (·.2) = (kvs.map (·.2)).set n v ∧ n < kvs.length
    | none => (putK kvs k v).map (fun q => keyD q.1) = kvs.map (fun q => keyD q.1) ++ [keyD k] ∧ (putK kvs k v).map (·.2) = kvs.map (·.2) ++ [v]) := by
  have key : ∀ (kvs : List (Key × V)) (n : Nat), keyIx (kvs.map fun q => keyD q.1) (keyD k) = some n → nodupK (kvs.map fun q => keyD q.1) = true → (kvs.any fun kv => decide (kv.1 = k)) = true ∧ (kvs.map (fun kv => if kv.1 = k then (kv.1, v) else kv)).map (fun q => keyD q.1) = kvs.map (fun q => keyD q.1) ∧ (kvs.map (fun kv => if kv.1 = k then (kv.1, v) else kv)).map (·.2) = (kvs.map (·.2)).set n v ∧ n < kvs.length := by
    intro kvs
    induction kvs with
    | nil => intro n e; cases e
    | cons a kvs ih =>
      intro n e nd
      simp only [List.map_cons, keyIx, keyD_eqv] at e
      simp only [List.map_cons, nodupK, Bool.and_eq_true, Bool.not_eq_true'] at nd
      obtain ⟨nd1, nd2⟩ := nd
      by_cases z : a.1 = k
      · rw [decide_eq_true z, if_pos rfl] at e
        cases e
        have no : ∀ q, q ∈ kvs → q.1 ≠ k := fun q hq w => by
          rw [hasK_key, ← valV_any] at nd1
          have : (kvs.any fun kv => decide (kv.1 = a.1)) = true := List.any_eq_true.mpr ⟨q, hq, by simp [w, z]⟩
          rw [this] at nd1; cases nd1
        rw [List.map_cons, if_pos z, map_no no]
        refine ⟨by rw [List.any_cons, decide_eq_true z]; rfl, rfl, rfl, by simp⟩
      · rw [decide_eq_false z, if_neg (by simp)] at e
        cases y : keyIx (kvs.map fun q => keyD q.1) (keyD k) with
        | none => rw [y] at e; cases e
        | some m =>
          rw [y] at e
          obtain rfl := Option.some.inj (show some (m + 1) = some n from e)
          obtain ⟨i1, i2, i3, i4⟩ := ih m y nd2
          rw [List.map_cons, if_neg z]
          exact ⟨by rw [List.any_cons, i1]; simp, by rw [List.map_cons, List.map_cons, i2], by rw [List.map_cons, List.map_cons, i3]; rfl, by simpa using i4⟩
  intro kvs
  cases y : keyIx (kvs.map fun q => keyD q.1) (keyD k) with
  | some n =>
    intro nd
    obtain ⟨h1, h2, h3, h4⟩ := key kvs n y nd
    unfold putK
    rw [if_pos h1]
    exact ⟨h2, h3, h4⟩
  | none =>
    have h1 : (kvs.any fun kv => decide (kv.1 = k)) = false := by
      rw [Bool.eq_false_iff]
      intro z
      obtain ⟨q, hq, e⟩ := List.any_eq_true.mp z
      exact keyIx_none y q hq (by simpa using e)
    unfold putK
    rw [if_neg (by rw [h1]; simp)]
    exact ⟨by simp, by simp⟩
/-- a dict ahead gets an item -/
theorem Env.put2 {p : Addr} {ks : List D} {cs : List T} (E : Env K B G H (o1 :: o :: σ) (.o p (.n (.k ks) cs) :: s :: Γ)) (r : Rs s) (k : Key) (hl : cs.length = ks.length) (hnd : (keyIx ks (keyD k)).isSome = true → nodupK ks = true) : ∃ kvs v, o1 = some (.ref p) ∧ H p = some (.dK kvs) ∧ kvs.length = ks.length ∧ o = some v ∧
    Env K B G (upd H p (.dK (putK kvs k v))) (some (.ref p) :: σ) (.o p (match keyIx ks (keyD k) with
      | some n => .n (.k ks) (cs.set n (slT s))
      | none => .n (.k (ks ++ [keyD k])) (cs ++ [slT s])) :: Γ) := by
  obtain ⟨f1, f0, h10, h0, nd, gw, kk⟩ := E.front2
  obtain ⟨rfl, h1⟩ := (show o1 = some (.ref p) ∧ TAt K G H (.ref p) (.n (.k ks) cs) f1 from h10)
  obtain ⟨v, rfl, ht⟩ := r.tat E.wh h0
  cases h1 with
  | n n1 n2 =>
    rename_i vs own fq
    obtain ⟨rfl, kvs, hp, rfl, rfl⟩ := n1
    have gp : G p = none := (gw p (by simp)).1
    have hne : ∀ a, a ∈ fq ++ f0 → a ≠ p := fun a ha z => by
      rw [List.append_assoc] at nd
      exact (List.nodup_append.mp nd).2.2 p (by simp) a ha z.symm
    refine ⟨kvs, v, rfl, hp, by rw [List.length_map], rfl, ?_⟩
    have tm : TAt K G (upd H p (.dK (putK kvs k v))) v (slT s) f0 := tat_mono (Same.refl _) _ _ _ ht fun a ha => upd_ne (hne a (List.mem_append_right _ ha))
    have ts : TAts K G (upd H p (.dK (putK kvs k v))) (kvs.map (·.2)) cs fq := tats_mono (Same.refl _) _ _ _ n2 fun a ha => upd_ne (hne a (List.mem_append_left _ ha))
    obtain ⟨n3, n4, n5⟩ := List.nodup_append.mp nd
    obtain ⟨m3, m4, m5⟩ := List.nodup_append.mp n3
    have nq : (fq ++ f0).Nodup := List.nodup_append.mpr ⟨m4, n4, fun a ha b hb z => n5 a (List.mem_append_right _ ha) b hb z⟩
    have fin : ∀ {t' : T} {f' : List Addr}, TAt K G (upd H p (.dK (putK kvs k v))) (.ref p) t' ([p] ++ f') → (∀ a, a ∈ f' → a ∈ fq ∨ a ∈ f0) → f'.Nodup → Env K B G (upd H p (.dK (putK kvs k v))) (some (.ref p) :: σ) (.o p t' :: Γ) := by
      intro t' f' h' sub nf
      have sub2 : ∀ a, a ∈ [p] ++ f' → a ∈ ([p] ++ fq) ++ f0 := fun a ha => by
        simp only [List.mem_append] at ha ⊢
        rcases ha with q | q
        · exact .inl (.inl q)
        · rcases sub a q with z | z
          · exact .inl (.inr z)
          · exact .inr z
      refine kk (f' := [p] ++ f') E.nt (Same.refl _) (same_upd2 E.gh gp) (fun a hn hh => ⟨upd_ne fun z => hn (by simp [z]), rfl⟩) (fun _ => .inl rfl) ⟨rfl, h'⟩ (List.nodup_append.mpr ⟨m3, nf, fun a ha b hb z => ?_⟩) fun a ha => ⟨.inl (sub2 a ha), (gw a (sub2 a ha)).1⟩
      subst z
      rcases sub a hb with q | q
      · exact m5 a ha a q rfl
      · exact n5 a (List.mem_append_left _ ha) a q rfl
    have pfl := putK_ix (k := k) (v := v) kvs
    cases y : keyIx (kvs.map fun q => keyD q.1) (keyD k) with
    | some n =>
      rw [y] at pfl hnd
      obtain ⟨q1, q2, q3⟩ := pfl (hnd rfl)
      obtain ⟨fp', e1, e2, e3⟩ := TAts.set (k := n) ts tm (by rw [hl, List.length_map]; exact q3)
      exact fin (.n ⟨rfl, _, upd_same, q2, q1⟩ e1) e2 (e3 nq)
    | none =>
      rw [y] at pfl
      obtain ⟨q1, q2⟩ := pfl
      have e1 := TAts.app ts (TAts.cons tm .nil)
      rw [List.append_nil] at e1
      exact fin (.n ⟨rfl, _, upd_same, q2, q1⟩ e1) (fun a ha => List.mem_append.mp ha) nq
end
section
variable {X : Cx} {Γ : List Sl} {e o a b c : Expr} {t : T} {pos p2 apos : Pos} {k : Kn} {st : Stmt} {sts : List Stmt}
theorem AgOk.step' {K : Frg} {G H G' H' : Hp} {σ : L2.St} {v : V} {j : Nat} {π : List Nat} (h : AgOk K G H σ v (.l j π)) (s : Stp G H G' H') : AgOk K G' H' σ v (.l j π) := by
  obtain ⟨v0, g1, g2⟩ := h; exact ⟨v0, g1, wlk_keep s.h g2⟩
def fldPut (c : Str) (fs : List Str) (cs : List T) (f : Str) (t : T) : T := match fldIx fs f with
  | some k => .n (.i c fs) (cs.set k t)
  | none => .n (.i c (fs ++ [f])) (cs ++ [t])
theorem s1_fld {f cn : Str} {p' : Pos} (he : EvM X e Γ (fun s Γ' => ∃ j π p t fs cs, EvPa X o Γ' j π ∧ Γ'[j]? = some (.o p t) ∧ get π t = some (.n (.i cn fs) cs) ∧ cs.length = fs.length ∧ fs.length < 900 ∧ k.nx (Γ'.set j (.o p (put π t (fldPut cn fs cs f (slT s)))))) k.ex) (hC : Cls X.K (Tc.C cn)) (hA : NoAttr X.K (Tc.C cn) f) (hs : swapsWith e (some (.Attribute o f p')) pos.line X.env = pure false) :
    S1 X (.Assign [.Attribute o f p'] e pos) k Γ := ⟨fun B G H σ E xt => by
  refine w_ps (ps_fld pe_w pe_w hs) (he.run B G H σ E xt.xe _ fun v s G1 H1 Γ1 E1 r1 ⟨j, π, p, t, fs, cs, pa, hj, hg, hl, hn, q⟩ => pa.run G1 H1 σ E1.pop.wenv _ fun x G2 H2 s2 ag => ?_)
  obtain ⟨p1, rfl, E3, back⟩ := (E1.step s2).at2 hj hg rfl ag
  obtain ⟨dx, fl, v', e1, h1, rfl, e2, E4⟩ := E3.field2 (f := f) r1 hl
  cases e1
  cases e2
  exact ⟨p1, _, dx, fl, rfl, h1, hC, hA, by rw [List.length_map] at hn; omega, G2, _, back E4, q⟩⟩
def keyPut (ks : List D) (cs : List T) (x : D) (t : T) : T := match keyIx ks x with
  | some n => .n (.k ks) (cs.set n t)
  | none => .n (.k (ks ++ [x])) (cs ++ [t])
theorem s1_put {i : Expr} {p' : Pos} (hu : X.A.units + 64 < cLine) (he : EvM X e Γ (fun s Γ' => ∃ j π p t ks cs x, EvPa X o Γ' j π ∧ EvT X i Γ' (.d x) ∧ keyT x = true ∧ Γ'[j]? = some (.o p t) ∧ get π t = some (.n (.k ks) cs) ∧ cs.length = ks.length ∧ ks.length < 100000 ∧ ((keyIx ks x).isSome = true → nodupK ks = true) ∧ k.nx (Γ'.set j (.o p (put π t (keyPut ks cs x (slT s)))))) k.ex) (hs : swapsWith e (some (.Subscript o i p')) pos.line X.env = pure false) :
    S1 X (.Assign [.Subscript o i p'] e pos) k Γ := ⟨fun B G H σ E xt => by
  refine w_ps (ps_dput (by omega) pe_w pe_w pe_w hs) (he.run B G H σ E xt.xe _ fun v s G1 H1 Γ1 E1 r1 ⟨j, π, p, t, ks, cs, x, pa, hi, kt, hj, hg, hl, hn, hnd, q⟩ => pa.run G1 H1 σ E1.pop.wenv _ fun u G2 H2 s2 ag => hi.run G2 H2 σ (E1.pop.step s2).wenv _ fun y G3 H3 f3 s3 d3 => ?_)
  obtain ⟨p1, rfl, E3, back⟩ := ((E1.step s2).step s3).at2 hj hg rfl (ag.step' s3)
  obtain ⟨kk, rfl⟩ := keyT_ex kt
  obtain ⟨kvs, v', e1, h1, e3, e2, E4⟩ := E3.put2 r1 kk hl hnd
  cases e1
  cases e2
  have ey : y = kV kk := by cases d3 with | d d3 => cases kk <;> (simp only [keyD] at d3; cases d3; rfl)
  subst ey
  exact ⟨p1, _, rfl, .k h1 (by rw [e3]; exact Nat.lt_of_lt_of_le hn (by decide)), G3, _, back E4, q⟩⟩
/-- a list takes in what is made while it is lent -/
theorem em_appx {b : Expr} {j : Nat} {π : List Nat} {p : Addr} {t : T} {cs : List T} {P : Sl → List Sl → Prop} {ex : Str → List Sl → Prop} (ho : EvPa X o Γ j π) (hj : Γ[j]? = some (.o p t)) (hg : get π t = some (.n .l cs)) (hn : notCall o = true) (he : plainE b = true) (hl : (apos.endLine == pos.line) = true) (hsz : cs.length < 1000000)
    (hb : ∀ p1, EvM X b (Γ.set j (.o p (put π t (.h p1)))) (fun s Γ1 => ∃ p2 t2, Γ1[j]? = some (.o p2 t2) ∧ get π t2 = some (.h p1) ∧ P (.w (.d .none)) (Γ1.set j (.o p2 (put π t2 (.n .l (cs ++ [slT s])))))) ex) : EvM X (.Call (.Attribute o "append" apos) [b] [] pos) Γ P ex := ⟨fun B G H σ E xe Q q => by
  have st := star_plain he [] X.env
  refine w_pe (pe_bm PySem.F.plainAttrs_list PySem.F.slot_list_append PySem.F.type_list_append mt_append pe_w (pa_cons pe_w pa_nil st) (attr_base hn _ _ _) (few1 (by rw [List.all_cons, he]; rfl) (by show 1 < 30; decide) _ _) hl st rfl) (ho.run G H σ E.wenv _ fun v G1 H1 s1 k1 => ?_)
  have E1 := E.step s1
  obtain ⟨p1, q1, q2, E2⟩ := E1.ext hj hg rfl
  obtain ⟨v0, g1, g2⟩ := k1
  rw [q1] at g1
  obtain rfl := Option.some.inj (Option.some.inj g1)
  rw [q2] at g2
  obtain rfl := Option.some.inj g2
  refine ⟨?_, (hb p1).under (τ := [some (.ref p1)]) (S := [.o p1 (.n .l cs)]) rfl E2 xe fun w s G2 H2 Γ2 E3 g3 r3 ⟨p2, t2, hj2, hg2, hp⟩ => ?_⟩
  · obtain ⟨fp, h1, _⟩ := E2.sl
    cases fp with
    | nil => exact h1.elim
    | cons f fp =>
      obtain ⟨⟨_, h1⟩, _⟩ := h1
      cases h1 with | n h1 _ => exact ty_list h1.1
  · obtain ⟨xs, y, z1, z2, z3, z4, E7⟩ := Env.append2 (Env.swap2 E3) r3
    cases z4
    refine ⟨p1, xs, w, rfl, rfl, z2, by rw [z3]; exact Nat.lt_of_lt_of_le hsz (by decide), ?_⟩
    exact k_non (E7.ins hj2 hg2) hp q⟩
end
end Yl

end

section
/-! Y19: THE THEOREM of statements. -/
namespace Yl
open PySem PySem.Spec PyProof.Rows L2
open Wl (wE wT wA wS wSs pe_w pt_w pa_w ps_w pss_w w_pe w_pt w_pa w_ps w_pss Dt DtAll Stp Keeps NoT Wk WkAll dt_mono dtAll_mono dt_dp dtAll_dp sqT_mono dp_lay Fre same_upd same_upd2 set_self)
variable [Wl.Tb] [Tc]
/-! ### conditions -/
structure EvN (X : Cx) (e : Expr) (Γ : List Sl) (P : Bool → List Sl → Prop) (ex : Str → List Sl → Prop) : Prop where
  run : ∀ (B : Bs) (G H : Hp) (σ : L2.St), Env X.K B G H σ Γ → XE X B ex → ∀ Q : Bool → Hp → Prop, (∀ k G' H' Γ', Env X.K B G' H' σ Γ' → P k Γ' → Q k H') → wT X e σ H Q
def isBl (R : Bool → List Sl → Prop) (s : Sl) (Γ : List Sl) : Prop := match s with
  | .w (.d (.bool k)) => R k Γ
  | _ => False
theorem isBl_ex {R : Bool → List Sl → Prop} {s : Sl} {Γ : List Sl} (h : isBl R s Γ) : ∃ k, s = .w (.d (.bool k)) ∧ R k Γ := by
  unfold isBl at h
  split at h
  · exact ⟨_, rfl, h⟩
  · exact h.elim
section
variable {X : Cx} {Γ : List Sl} {e a b c : Expr} {R : Bool → List Sl → Prop} {ex : Str → List Sl → Prop} {pos : Pos}
theorem en_val (h : EvM X e Γ (isBl R) ex) (he : notTest e = true) : EvN X e Γ R ex := ⟨fun B G H σ E xe Q q => w_pt (pt_val pe_w (test_val he)) (h.run B G H σ E xe _ fun v s G1 H1 Γ1 E1 r1 p1 => by
  obtain ⟨k, rfl, hk⟩ := isBl_ex p1
  have d := E1.headD
  cases d
  exact ⟨k, rfl, q k G1 H1 Γ1 E1.pop hk⟩)⟩
theorem en_p {k : Bool} (h : EvB X e Γ k) (hk : R k Γ) : EvN X e Γ R ex := ⟨fun B G H σ E xe Q q => h.run G H σ E.wenv _ fun G1 H1 s1 => q k G1 H1 Γ (E.step s1) hk⟩
theorem en_not (h : EvN X a Γ (fun k Γ1 => R (!k) Γ1) ex) : EvN X (.UnaryOp .Not a pos) Γ R ex := ⟨fun B G H σ E xe Q q => w_pt (pt_not pt_w) (h.run B G H σ E xe _ fun k G1 H1 Γ1 E1 p => q (!k) G1 H1 Γ1 E1 p)⟩
theorem en_cmp {o : Cop} {op : CmpOp} {P1 : Sl → List Sl → Prop} (hu : X.A.units + 64 < cLine) (ho : opC o op = true) (hm : behindInMarks op b = false) (ha : EvM X a Γ P1 ex) (hb : ∀ s Γ1, P1 s Γ1 → datW s fun x => EvM X b Γ1 (fun s2 Γ2 => datW s2 fun y => cmpOk o (.d x) (.d y) ∧ R (cmpV o (.d x) (.d y)) Γ2) ex) : EvN X (.Compare a [op] [b] pos) Γ R ex := ⟨fun B G H σ E xe Q q => by
  obtain ⟨r0, hr0⟩ := opr_ex (X := X) ho hu
  let r : R2 := fun v w H Q => ∃ x y, cmpOk o (.d x) (.d y) ∧ (∃ G, Same G H ∧ Dt X.K G v x ∧ Dt X.K G w y) ∧ Q (.bl (cmpV o (.d x) (.d y))) H
  have hr : OpR X (compareOp op) r := by
    intro pins s σ H x y v u Q I rx ry ⟨dx, dy, hk, ⟨G, g, d1, d2⟩, q⟩
    obtain ⟨r', h1, h2⟩ := (cmp_t (X := X) hu ho hk (fun ks cs z => by cases z)).ex
    exact h1 pins s σ H x y v u Q I rx ry (h2 G H x y [] [] Q g (.d d1) (.d d2) q)
  refine w_pt (pt_cmpR hr pe_w pe_w hm) (ha.run B G H σ E xe _ fun v s G1 H1 Γ1 E1 r1 p1 => ?_)
  obtain ⟨x, G1', hx, g1, E2⟩ := E1.dat (hb s Γ1 p1)
  refine (hx).under (τ := [some v]) (S := [.w (.d x)]) rfl E2 xe fun w s2 G2 H2 Γ2 E3 g2 r2 p2 => ?_
  obtain ⟨y, G3, ⟨hk, hp⟩, g3, E4⟩ := E3.dat p2
  exact ⟨x, y, hk, ⟨G3, E4.gh, E4.pop.headD, E4.headD⟩, _, rfl, q _ G3 H2 Γ2 E4.pop.pop hp⟩⟩
theorem s1_ifN {p q : List Stmt} {k : Kn} (hc : EvN X c Γ (fun t Γ1 => (t = true → Ss X p k Γ1) ∧ (t = false → Ss X q k Γ1)) k.ex) : S1 X (.If c p q pos) k Γ := ⟨fun B G H σ E xt =>
  w_ps (ps_if pt_w pss_w pss_w) (hc.run B G H σ E xt.xe _ fun t G' H' Γ' E' h => by
    cases t with
    | true => exact iteT ((h.1 rfl).run B G' H' σ E' xt)
    | false => exact iteF ((h.2 rfl).run B G' H' σ E' xt))⟩
end
/-! ### what is looked at -/
def notComp : Expr → Bool
  | .ListComp _ _ _ _ => false
  | .SetComp _ _ _ _ => false
  | .DictComp _ _ _ _ _ => false
  | _ => true
theorem no_swap {e : Expr} (h : notComp e = true) (tg : Option Expr) (l : Nat) (env : PySem.Env) : swapsWith e tg l env = pure false := by
  cases e <;> first | rfl | simp [notComp] at h
def notTup : Expr → Bool
  | .Tuple _ _ _ => false
  | _ => true
theorem no_stores {tg e : Expr} (h : notTup e = true) (env : PySem.Env) : swappedStores [tg] e env = pure none := by
  cases tg <;> cases e <;> first | rfl | simp [notTup] at h
theorem each_one {es : List Expr} {k : Nat} {p : Pos} (env : PySem.Env) : (assignEach [.Tuple es k p] env).map (·.2) = [assign (.Tuple es k p) env] := rfl
theorem plain_no {a : Expr} : plainE a = true → (match a with | .Starred .. => true | _ => false) = false := fun h => by
  cases a <;> first | rfl | simp [plainE] at h
theorem sw2 {n m : Str} {px py pt : Pos} {kt k2 : Nat} {pt2 : Pos} {a b : Expr} {env : PySem.Env} (hk : env.scope.kind = .function) (hn : env.scope.names.lookup n = some .local) (hm : env.scope.names.lookup m = some .local) (hl : (py.line == px.line) = true) (hnm : n ≠ m) (pa : plainE a = true) (pb : plainE b = true) (h1 : ([a, b].all (foldedForSure 8)) = false) (h2 : ([a, b].all (constantsAlone 8)) = false) :
    swappedStores [.Tuple [.Name n px, .Name m py] kt pt] (.Tuple [a, b] k2 pt2) env = pure (some [n, m]) := by
  have kn : env.kindOf n = some .local := hn
  have km : env.kindOf m = some .local := hm
  have hb : env.blockKind = .function := by unfold Env.blockKind; rw [hk]; rfl
  have ed : ([n, m] : List Str).eraseDups.length = 2 := by
    have : (m == n) = false := by simpa using fun z => hnm z.symm
    simp [List.eraseDups_cons, this]
  unfold swappedStores
  simp only [hb, kn, km, hl, List.filterMap_cons, List.filterMap_nil, h1, h2, Expr.pos, List.head?_cons, Option.map_some, Option.getD_some, List.length_cons, List.length_nil]
  simp [ed]
  simp_all
  rintro (h | h)
  · exact absurd ((plain_no pa).symm.trans h) (by decide)
  · exact absurd ((plain_no pb).symm.trans h) (by decide)
theorem sw3 {n m o : Str} {px py pz pt : Pos} {kt k2 : Nat} {pt2 : Pos} {a b c : Expr} {env : PySem.Env} (hk : env.scope.kind = .function) (hn : env.scope.names.lookup n = some .local) (hm : env.scope.names.lookup m = some .local) (ho : env.scope.names.lookup o = some .local) (hl : (py.line == px.line) = true) (hl2 : (pz.line == px.line) = true) (hnm : n ≠ m) (hno : n ≠ o) (hmo : m ≠ o) (pa : plainE a = true) (pb : plainE b = true) (pc : plainE c = true) (h1 : ([a, b, c].all (foldedForSure 8)) = false) (h2 : ([a, b, c].all (constantsAlone 8)) = false) :
    swappedStores [.Tuple [.Name n px, .Name m py, .Name o pz] kt pt] (.Tuple [a, b, c] k2 pt2) env = pure (some [n, m, o]) := by
  have kn : env.kindOf n = some .local := hn
  have km : env.kindOf m = some .local := hm
  have ko : env.kindOf o = some .local := ho
  have hb : env.blockKind = .function := by unfold Env.blockKind; rw [hk]; rfl
  have ed : ([n, m, o] : List Str).eraseDups.length = 3 := by
    have e1 : (m == n) = false := by simpa using fun z => hnm z.symm
    have e2 : (o == n) = false := by simpa using fun z => hno z.symm
    have e3 : (o == m) = false := by simpa using fun z => hmo z.symm
    simp [List.eraseDups_cons, e1, e2, e3]
  unfold swappedStores
  simp only [hb, kn, km, ko, hl, hl2, List.filterMap_cons, List.filterMap_nil, h1, h2, Expr.pos, List.head?_cons, Option.map_some, Option.getD_some, List.length_cons, List.length_nil]
  simp [ed]
  simp_all
  rintro (h | h | h)
  · exact absurd ((plain_no pa).symm.trans h) (by decide)
  · exact absurd ((plain_no pb).symm.trans h) (by decide)
  · exact absurd ((plain_no pc).symm.trans h) (by decide)
end Yl

end

section
/-! Y20: THE THEOREM of statements. -/
namespace Yl
open PySem PySem.Spec PyProof.Rows L2
open Wl (wE wT wA wS wSs pe_w pt_w pa_w ps_w pss_w w_pe w_pt w_pa w_ps w_pss Dt DtAll Stp Keeps NoT Wk WkAll dt_mono dtAll_mono dt_dp dtAll_dp sqT_mono dp_lay Fre same_upd same_upd2 set_self)
variable [Wl.Tb] [Tc]
section
variable (N fr : List Str)
def chkC (sc : Scope) : Ef → Expr → Bool
  | .p a, e => chk N fr sc a e
  | .cmp o a b, e => chkE N fr sc (.cmp o a b) e
  | .no a, e => match e with
    | .UnaryOp .Not x _ => chkC sc a x
    | _ => false
  | c, e => chkE N fr sc c e && notTest e
def locB (sc : Scope) (n : Str) : Bool := decide (sc.names.lookup n = some .local)
def fnB (sc : Scope) : Bool := decide (sc.kind = .function)
def tgB (sc : Scope) (tg : Tg) : Bool := (tgI tg).all fun i => match N[i]? with
  | some n => Wl.okS sc true n
  | none => true
def lcB (sc : Scope) (n : Str) (scope : Scope) : Bool := !(scope.names.any fun (m, k) => m == n && (k == .local || k == .cell))
mutual
def chkS (sc : Scope) : St → Stmt → Bool
  | .set i e, st => match st with
    | .Assign [.Name n _] v _ => decide (N[i]? = some n) && (Wl.okS sc true n && (notComp v && chkE N fr sc e v))
    | _ => false
  | .setlc i _ tg s p e, st => match st with
    | .Assign [.Name n py] (.ListComp elt gs scope pos) _ => decide (N[i]? = some n) && (locB sc n && (fnB sc && ((py.line == pos.line) && (lcB sc n scope && chk N fr sc (.lc tg s p e) (.ListComp elt gs scope pos)))))
    | _ => false
  | .par is es, st => match st, is, es with
    | .Assign [.Tuple [.Name n px, .Name m py] _ _] (.Tuple [a, b] _ _) _, [i, j], [e1, e2] =>
      decide (N[i]? = some n) && (decide (N[j]? = some m) && (decide (n ≠ m) && (locB sc n && (locB sc m && (fnB sc && ((py.line == px.line) && (!([a, b].all (foldedForSure 8)) && (!([a, b].all (constantsAlone 8)) && (plainE a && (plainE b && (chkE N fr sc e1 a && chkE N fr sc e2 b)))))))))))
    | .Assign [.Tuple [.Name n px, .Name m py, .Name o pz] _ _] (.Tuple [a, b, c] _ _) _, [i, j, l], [e1, e2, e3] =>
      decide (N[i]? = some n) && (decide (N[j]? = some m) && (decide (N[l]? = some o) && (decide (n ≠ m) && (decide (n ≠ o) && (decide (m ≠ o) && (locB sc n && (locB sc m && (locB sc o && (fnB sc && ((py.line == px.line) && ((pz.line == px.line) && (!([a, b, c].all (foldedForSure 8)) && (!([a, b, c].all (constantsAlone 8)) && (plainE a && (plainE b && (plainE c && (chkE N fr sc e1 a && (chkE N fr sc e2 b && chkE N fr sc e3 c))))))))))))))))))
    | _, _, _ => false
  | .unp is e, st => match st with
    | .Assign [.Tuple es _ _] v _ => decide is.Nodup && (chkNm N is es && (tgB N sc (.t is) && (notTup v && (notComp v && chk N fr sc e v))))
    | _ => false
  | .fld r _ f e, st => match st with
    | .Assign [.Attribute o f' _] v _ => decide (f = f') && (notComp v && (chk N fr sc r o && chkE N fr sc e v))
    | _ => false
  | .put r k e, st => match st with
    | .Assign [.Subscript o i _] v _ => notComp v && (chk N fr sc r o && (chk N fr sc k i && chkE N fr sc e v))
    | _ => false
  | .app r f, st => match st with
    | .Expr (.Call (.Attribute o m ap) [b] [] pos) _ => decide (m = "append") && (notCall o && ((ap.endLine == pos.line) && (plainE b && (chk N fr sc r o && chkF N fr sc f b))))
    | _ => false
  | .appx r e, st => match st with
    | .Expr (.Call (.Attribute o m ap) [b] [] pos) _ => decide (m = "append") && (notCall o && ((ap.endLine == pos.line) && (plainE b && (chk N fr sc r o && chkE N fr sc e b))))
    | _ => false
  | .exte r f, st => match st with
    | .Expr (.Call (.Attribute o m ap) [b] [] pos) _ => decide (m = "extend") && (notCall o && ((ap.endLine == pos.line) && (plainE b && (chk N fr sc r o && chkF N fr sc f b))))
    | _ => false
  | .rem r e, st => match st with
    | .Expr (.Call (.Attribute o m ap) [b] [] pos) _ => decide (m = "remove") && (notCall o && ((ap.endLine == pos.line) && (plainE b && (chk N fr sc r o && chk N fr sc e b))))
    | _ => false
  | .ex e, st => match st with
    | .Expr v _ => notComp v && chkE N fr sc e v
    | _ => false
  | .ret e, st => match st with
    | .Return (some v) _ => chkE N fr sc e v
    | _ => false
  | .retN, st => match st with
    | .Return none _ => true
    | _ => false
  | .ite c a b, st => match st with
    | .If t p q _ => chkC N fr sc c t && (chkSs sc a p && chkSs sc b q)
    | _ => false
  | .for_ tg s b, st => match st with
    | .For tg' iter body [] _ => chkTg N tg tg' && (tgB N sc tg && (chkr N fr sc s tg' iter && chkSs sc b body))
    | _ => false
  | .whl c b, st => match st with
    | .While t body [] _ => chk N fr sc c t && chkSs sc b body
    | _ => false
  | .rais n, st => match st with
    | .Raise (some (.Call (.Name m _) [.Constant (.str _) _ _] [] _)) none _ => decide (m = n) && Wl.okG sc n
    | _ => false
  | .pass, st => match st with
    | .Pass _ => true
    | .Expr (.Constant (.str _) _ _) _ => true
    | _ => false
  | .brk, st => match st with
    | .Break _ => true
    | _ => false
  | .cnt, st => match st with
    | .Continue _ => true
    | _ => false
  | .frz _, _ => false
  | .dead _, _ => false
def chkSs (sc : Scope) : Sts → List Stmt → Bool
  | .nil, sts => match sts with
    | [] => true
    | _ => false
  | .cons s r, sts => match s with
    | .frz _ => chkSs sc r sts
    | .dead _ => chkSs sc r sts
    | s => match sts with
      | st :: sts => chkS sc s st && chkSs sc r sts
      | [] => false
end
end
mutual
def obS (td : Td → Prop) (g : Pg) : St → Prop
  | .set _ e => obE td g e
  | .setlc _ _ tg s p e => ob g (.lc tg s p e)
  | .par _ es => ∀ e, e ∈ es → obE td g e
  | .unp _ e => ob g e
  | .fld r c f e => HasA g c f ∧ ob g r ∧ obE td g e
  | .put r k e => ob g r ∧ ob g k ∧ obE td g e
  | .app r f => ob g r ∧ obF g f
  | .appx r e => ob g r ∧ obE td g e
  | .exte r f => ob g r ∧ obF g f
  | .rem r e => ob g r ∧ ob g e
  | .ex e => obE td g e
  | .ret e => obE td g e
  | .retN => True
  | .ite c a b => obE td g c ∧ obSs td g a ∧ obSs td g b
  | .for_ _ s b => obr g s ∧ obSs td g b
  | .whl c b => ob g c ∧ obSs td g b
  | .rais n => Wl.XC g.K g.mg n
  | _ => True
def obSs (td : Td → Prop) (g : Pg) : Sts → Prop
  | .nil => True
  | .cons s r => obS td g s ∧ obSs td g r
end
section
variable {N fr : List Str} {g : Pg}
theorem tgB_ok {X : Cx} {sc : Scope} {tg : Tg} (cx : CtxOk N fr sc X) (fn : ∀ n, X.fn n = true) (h : tgB N sc tg = true) : ∀ i n, i ∈ tgI tg → N[i]? = some n → Wl.okS X.env.scope (X.fn n) n = true := fun i n hi hn => by
  have := List.all_eq_true.mp h i hi
  rw [hn] at this
  rw [cx.sc, fn]; exact this
theorem sndN : ∀ (c : Ef) (td : Td → Prop) (g : Pg) (X : Cx) (sc : Scope) (e : Expr) (Γ : List Sl) (R : Bool → List Sl → Prop) (ex : Str → List Sl → Prop), CtxOk N fr sc X → InE td g X → chkC N fr sc c e = true → obE td g c → wpF c Γ (isBl R) ex → EvN X e Γ R ex := by
  intro c
  have gen : ∀ (c : Ef) (td : Td → Prop) (g : Pg) (X : Cx) (sc : Scope) (e : Expr) (Γ : List Sl) (R : Bool → List Sl → Prop) (ex : Str → List Sl → Prop), CtxOk N fr sc X → InE td g X → (chkE N fr sc c e && notTest e) = true → obE td g c → wpF c Γ (isBl R) ex → EvN X e Γ R ex := fun c td g X sc e Γ R ex cx ip hc ho hk => by
    rw [Bool.and_eq_true] at hc
    exact en_val (sndM c td g X sc e Γ _ ex cx ip hc.1 ho hk) hc.2
  induction c with
  | p a =>
    intro td g X sc e Γ R ex cx ip hc ho hk
    obtain ⟨k1, k2, k3⟩ := hk
    obtain ⟨k, e1, hr⟩ := isBl_ex k3
    have ev : val a Γ = .d (.bool k) := by
      rw [sd_eq k2]
      have : (val a Γ).dat = .bool k := by injection e1 with e1; injection e1
      rw [this]
    have h := (snd a X sc e Γ cx ip.ip hc ho k1).2 (by rw [ev]; rfl)
    rw [ev] at h
    exact en_p h.1 hr
  | cmp o a b _ _ =>
    intro td g X sc e Γ R ex cx ip hc ho hk
    unfold chkC at hc
    unfold chkE at hc; split at hc; case h_2 => cases hc
    simp only [Bool.and_eq_true] at hc
    obtain ⟨h1, h2, h3, h4⟩ := hc
    refine en_cmp cx.hu h1 (no_mark h2) (sndM a td g X sc _ Γ _ ex cx ip h3 ho.1 hk) fun s Γ1 h => ?_
    unfold datW at h ⊢
    split at h
    · exact sndM b td g X sc _ Γ1 _ ex cx ip h4 ho.2 h
    · exact ⟨h.1, sndM b td g X sc _ Γ1 _ ex cx ip h4 ho.2 h.2⟩
    · exact h.elim
  | no a ih =>
    intro td g X sc e Γ R ex cx ip hc ho hk
    unfold chkC at hc; split at hc; case h_2 => cases hc
    exact en_not (ih td g X sc _ Γ _ ex cx ip hc ho hk)
  | _ => exact gen _
end
end Yl

end

section
/-! Y21: THE THEOREM of statements. -/
namespace Yl
open PySem PySem.Spec PyProof.Rows L2
open Wl (wE wT wA wS wSs pe_w pt_w pa_w ps_w pss_w w_pe w_pt w_pa w_ps w_pss Dt DtAll Stp Keeps NoT Wk WkAll dt_mono dtAll_mono dt_dp dtAll_dp sqT_mono dp_lay Fre same_upd same_upd2 set_self)
variable [Wl.Tb] [Tc]
section
variable {N fr : List Str} {td : Td → Prop} {g : Pg} {X : Cx} {sc : Scope} {Γ : List Sl} {k : Kn} {st : Stmt}
theorem ss_dead {sts : List Stmt} : ∀ {is : List Nat} {Γ : List Sl}, Ss X sts k (deadS is Γ) → Ss X sts k Γ
  | [], _, h => h
  | _ :: is, _, h => s1_un (ss_dead (is := is) h)
theorem locB_ok (cx : CtxOk N fr sc X) {n : Str} (h : locB sc n = true) : X.env.scope.names.lookup n = some .local := by
  rw [cx.sc]; exact of_decide_eq_true h
theorem fnB_ok (cx : CtxOk N fr sc X) (h : fnB sc = true) : X.env.scope.kind = .function := by
  rw [cx.sc]; exact of_decide_eq_true h
theorem nd_ne (cx : CtxOk N fr sc X) {i j : Nat} {n m : Str} (hi : N[i]? = some n) (hj : N[j]? = some m) (h : n ≠ m) : i ≠ j := fun z => by
  subst z; rw [hi] at hj; exact h (Option.some.inj hj)
/-- expressions from the left -/
theorem sndMs (cx : CtxOk N fr sc X) (ip : InE td g X) : ∀ (es : List Ef) (xs : List Expr) (Γ : List Sl) (P : List Sl → List Sl → Prop) (ex : Str → List Sl → Prop), xs.length = es.length → (∀ (i : Nat) (e : Ef) (x : Expr), es[i]? = some e → xs[i]? = some x → plainE x = true ∧ chkE N fr sc e x = true) → (∀ e, e ∈ es → obE td g e) → wpFs es Γ P ex → EvMs X xs Γ P ex
  | [], [], Γ, P, ex, _, _, _, h => ems_nil h
  | [], _ :: _, _, _, _, l, _, _, _ => by simp at l
  | _ :: _, [], _, _, _, l, _, _, _ => by simp at l
  | e :: es, x :: xs, Γ, P, ex, l, hc, ho, h => by
    obtain ⟨p, c⟩ := hc 0 e x rfl rfl
    refine ems_cons ((sndM e td g X sc x Γ _ ex cx ip c (ho e List.mem_cons_self) h).mono (fun s Γ1 q => ?_) fun _ _ z => z) (star_plain p _ _)
    exact sndMs cx ip es xs Γ1 _ ex (by simpa using l) (fun i e x a b => hc (i + 1) e x (by simpa using a) (by simpa using b)) (fun e he => ho e (List.mem_cons_of_mem _ he)) q
theorem place {r : Ex} {o : Expr} {j : Nat} {π : List Nat} {p : Addr} {t t1 : T} (cx : CtxOk N fr sc X) (ip : InE td g X) (hc : chk N fr sc r o = true) (ho : ob g r) (k0 : ok r Γ) (el : loc r Γ = some (j, π)) (ej : Γ[j]? = some (.o p t)) (eg : get π t = some t1) : EvPa X o Γ j π ∧ val r Γ = t1 := by
  obtain ⟨p1, p2⟩ := sndP r X sc o Γ j π cx ip.ip hc ho k0 el
  exact ⟨p1, loc_val p2 ej eg⟩
theorem toW_rs {s : Sl} {P : Sl → Prop} (h : toW s P) : P s := by
  cases s with
  | un => exact h.elim
  | w t => exact h
  | o p t => exact h
theorem okS1 (cx : CtxOk N fr sc X) (fn : ∀ n, X.fn n = true) {n : Str} (h : Wl.okS sc true n = true) : Loc X.env.scope n ∧ (X.fn n = true ∨ X.env.scope.names.lookup n = some .local) := by
  apply Wl.okS_ok; rw [cx.sc, fn]; exact h
theorem sndSet {i : Nat} {e : Ef} (cx : CtxOk N fr sc X) (ip : InE td g X) (fn : ∀ n, X.fn n = true) (hc : chkS N fr sc (.set i e) st = true) (ho : obE td g e) (hk : wp (.set i e) Γ k) : S1 X st k Γ := by
  unfold chkS at hc; split at hc; case h_2 => cases hc
  simp only [Bool.and_eq_true, decide_eq_true_eq] at hc
  obtain ⟨h1, h2, h3, h4⟩ := hc
  obtain ⟨a, b⟩ := okS1 cx fn h2
  simp only [wp] at hk
  exact s1_set (sndM e td g X sc _ Γ _ _ cx ip h4 ho hk) (by rw [cx.n]; exact cx.nd) (by rw [cx.n]; exact h1) a b (no_swap h3 _ _ _)
theorem sndSetlc {i : Nat} {own : Bool} {tg : Tg} {s : Sr} {p e : Ex} (cx : CtxOk N fr sc X) (ip : InE td g X) (hc : chkS N fr sc (.setlc i own tg s p e) st = true) (ho : ob g (.lc tg s p e)) (hk : wp (.setlc i own tg s p e) Γ k) : S1 X st k Γ := by
  unfold chkS at hc; split at hc; case h_2 => cases hc
  rename_i n py elt gs scope pos spos
  simp only [Bool.and_eq_true, decide_eq_true_eq] at hc
  obtain ⟨h1, h2, h3, h4, h5, h6⟩ := hc
  have h60 := h6
  unfold chk at h6
  split at h6; case h_2 => cases h6
  rename_i elt' tg' iter ifs scope' pos' heq
  injection heq with q1 q2 q3 q4
  subst q1 q2 q3 q4
  obtain ⟨hk0, hk⟩ := hk
  obtain ⟨a1, a2, a3, a4, a5, a6⟩ := lc_parts cx ip.ip h60 ho hk0
  refine ⟨fun B G H σ E xt => ?_⟩
  obtain ⟨wi, hpi, hsrc⟩ := a1.ex
  have hN : X.N.Nodup := by rw [cx.n]; exact cx.nd
  have en : ((items s Γ).filter fun t => (val p (bind tg t Γ)).b).map (fun t => val e (bind tg t Γ)) = (((items s Γ).filter fun t => (val p (bind tg t Γ)).b).map fun t => (val e (bind tg t Γ)).dat).map .d := by
    rw [List.map_map]
    refine List.map_congr_left fun t ht => ?_
    have m := List.mem_filter.mp ht
    exact sd_eq (a5 t m.1 m.2)
  have h := lc_tell (hsrc G H σ E.wenv) a3 a4 E.wenv (Q := fun v H1 => gName i v σ H1 (k.ends X.K B).nx) fun d vs G' H' t hH hG hd da => by
    cases own with
    | false =>
      rw [if_neg Bool.false_ne_true] at hk
      exact ⟨_, _, (E.step (lay_new t hH hG hd)).set_d (.lst (.of upd_same) (dp_lay hG da)) i, hk⟩
    | true =>
      rw [if_pos rfl] at hk
      have E1 := E.push_o (p := d) (t := fval (.lc tg s p e) Γ) (fp := [d] ++ []) (by
        unfold fval
        rw [en]
        exact .n ⟨hd, rfl⟩ (.ofD da)) (by simp) (fun a ha => by
          have : a = d := by simpa using ha
          subst this; exact hH) (fun a ha => by
          have : a = d := by simpa using ha
          subst this; exact hG) t
      exact ⟨G', _, E1.take i, hk d⟩
  refine w_ps (ps_setLc cx.calm hN (by rw [cx.n]; exact h1) (locB_ok cx h2) (sw_true (fnB_ok cx h3) (locB_ok cx h2) h4 (by simpa [lcB] using h5)) hpi a2 (fun s H C cl fp => ⟨fun pins s' σ H' v u Q I r z => z s H C cl fp pins s' u I r⟩) (fun s H C cl fp => ⟨fun pins s' σ H' Q I z => z s H C cl fp pins s' I⟩) (fun s H C cl fp => ⟨fun pins s' σ H' Q I z => z s H C cl fp pins s' I⟩) a6) h
theorem sndPar {is : List Nat} {es : List Ef} (cx : CtxOk N fr sc X) (ip : InE td g X) (hc : chkS N fr sc (.par is es) st = true) (ho : ∀ e, e ∈ es → obE td g e) (hk : wp (.par is es) Γ k) : S1 X st k Γ := by
  have hN : X.N.Nodup := by rw [cx.n]; exact cx.nd
  unfold chkS at hc; split at hc; case h_3 => cases hc
  · rename_i n px m py kt pt a b k2 pt2 pos i j e1 e2
    simp only [Bool.and_eq_true, decide_eq_true_eq, Bool.not_eq_true'] at hc
    obtain ⟨h1, h2, h3, h4, h5, h6, h7, h8, h9, pa, pb, c1, c2⟩ := hc
    refine s1_par (sndMs cx ip [e1, e2] [a, b] Γ _ _ rfl (fun i e x he hx => ?_) ho hk) cx.calm hN (by rw [cx.n]; exact h1) (by rw [cx.n]; exact h2) (nd_ne cx h1 h2 h3) (locB_ok cx h4) (locB_ok cx h5) (sw2 (fnB_ok cx h6) (locB_ok cx h4) (locB_ok cx h5) h7 h3 pa pb h8 h9) rfl
    match i, he, hx with
    | 0, he, hx => cases he; cases hx; exact ⟨pa, c1⟩
    | 1, he, hx => cases he; cases hx; exact ⟨pb, c2⟩
  · rename_i n px m py o pz kt pt a b c k2 pt2 pos i j l e1 e2 e3
    simp only [Bool.and_eq_true, decide_eq_true_eq, Bool.not_eq_true'] at hc
    obtain ⟨h1, h2, h2b, h3, h3b, h3c, h4, h5, h5b, h6, h7, h7b, h8, h9, pa, pb, pc, c1, c2, c3⟩ := hc
    refine s1_par3 (sndMs cx ip [e1, e2, e3] [a, b, c] Γ _ _ rfl (fun i e x he hx => ?_) ho hk) cx.calm hN (by rw [cx.n]; exact h1) (by rw [cx.n]; exact h2) (by rw [cx.n]; exact h2b) (nd_ne cx h1 h2 h3) (nd_ne cx h1 h2b h3b) (nd_ne cx h2 h2b h3c) (locB_ok cx h4) (locB_ok cx h5) (locB_ok cx h5b) (sw3 (fnB_ok cx h6) (locB_ok cx h4) (locB_ok cx h5) (locB_ok cx h5b) h7 h7b h3 h3b h3c pa pb pc h8 h9) rfl
    match i, he, hx with
    | 0, he, hx => cases he; cases hx; exact ⟨pa, c1⟩
    | 1, he, hx => cases he; cases hx; exact ⟨pb, c2⟩
    | 2, he, hx => cases he; cases hx; exact ⟨pc, c3⟩
theorem sndUnp {is : List Nat} {e : Ex} (cx : CtxOk N fr sc X) (ip : InE td g X) (fn : ∀ n, X.fn n = true) (hc : chkS N fr sc (.unp is e) st = true) (ho : ob g e) (hk : wp (.unp is e) Γ k) : S1 X st k Γ := by
  unfold chkS at hc; split at hc; case h_2 => cases hc
  rename_i es kt pt v pos
  simp only [Bool.and_eq_true, decide_eq_true_eq] at hc
  obtain ⟨h1, h2, h3, h4, h5, h6⟩ := hc
  obtain ⟨k1, k2, k3, k4, k5⟩ := hk
  exact s1_asg (snd e X sc _ Γ cx ip.ip h6 ho k1).1 (te_ok (tg := .t is) cx.n cx.nd cx.calm (by simp [chkTg, h1, h2]) ⟨k2, k3⟩ k4 (tgB_ok cx fn h3)) k5 (by rw [swapsWithSole]; exact no_swap h5 _ _ _) (no_stores h4 _) rfl
theorem sndFld {r : Ex} {c f : Str} {e : Ef} (cx : CtxOk N fr sc X) (ip : InE td g X) (hc : chkS N fr sc (.fld r c f e) st = true) (hA : HasA g c f) (hr : ob g r) (ho : obE td g e) (hk : wp (.fld r c f e) Γ k) : S1 X st k Γ := by
  unfold chkS at hc; split at hc; case h_2 => cases hc
  rename_i o f' p' v pos
  simp only [Bool.and_eq_true, decide_eq_true_eq] at hc
  obtain ⟨rfl, h2, h3, h4⟩ := hc
  simp only [wp] at hk
  refine s1_fld (cn := c) ((sndM e td g X sc _ Γ _ _ cx ip h4 ho hk).mono (fun s Γ1 q => ?_) fun _ _ z => z) (by rw [ip.ip.K]; exact hA.1) (by rw [ip.ip.K]; exact hA.2) (no_swap h2 _ _ _)
  obtain ⟨k0, j, π, p, t, t1, el, ej, eg, q⟩ := atW_ex (toW_rs q)
  obtain ⟨p1, _⟩ := place cx ip h3 hr k0 el ej eg
  split at q
  · rename_i c' fs cs _
    obtain ⟨rfl, q1, q2, q3⟩ := q
    refine ⟨j, π, p, t, fs, cs, p1, ej, eg, q1, q2, ?_⟩
    unfold fldPut
    cases y : fldIx fs f with
    | none => rw [y] at q3; exact q3
    | some n => rw [y] at q3; exact q3
  · exact q.elim
theorem sndPut {r i : Ex} {e : Ef} (cx : CtxOk N fr sc X) (ip : InE td g X) (hc : chkS N fr sc (.put r i e) st = true) (hr : ob g r) (hi : ob g i) (ho : obE td g e) (hk : wp (.put r i e) Γ k) : S1 X st k Γ := by
  unfold chkS at hc; split at hc; case h_2 => cases hc
  rename_i o ii p' v pos
  simp only [Bool.and_eq_true] at hc
  obtain ⟨h2, h3, h4, h5⟩ := hc
  simp only [wp] at hk
  refine s1_put cx.hu ((sndM e td g X sc _ Γ _ _ cx ip h5 ho hk).mono (fun s Γ1 q => ?_) fun _ _ z => z) (no_swap h2 _ _ _)
  obtain ⟨k1, k2, k3, q⟩ := toW_rs q
  obtain ⟨k0, j, π, p, t, t1, el, ej, eg, q⟩ := atW_ex q
  obtain ⟨p1, _⟩ := place cx ip h3 hr k0 el ej eg
  have hx := (snd i X sc _ Γ1 cx ip.ip h4 hi k1).1
  rw [sd_eq k2] at hx
  split at q
  · rename_i ks cs _
    obtain ⟨q1, q2, q3⟩ := q
    refine ⟨j, π, p, t, ks, cs, _, p1, hx, k3, ej, eg, q1, q2, ?_, ?_⟩
    · intro z
      cases y : keyIx ks (val i Γ1).dat with
      | none => rw [y] at z; cases z
      | some n => rw [y] at q3; exact q3.1
    · unfold keyPut
      cases y : keyIx ks (val i Γ1).dat with
      | none => rw [y] at q3; exact q3
      | some n => rw [y] at q3; exact q3.2
  · exact q.elim
theorem sndApp {r : Ex} {f : Fx} (cx : CtxOk N fr sc X) (ip : InE td g X) (hc : chkS N fr sc (.app r f) st = true) (hr : ob g r) (ho : obF g f) (hk : wp (.app r f) Γ k) : S1 X st k Γ := by
  unfold chkS at hc; split at hc; case h_2 => cases hc
  rename_i o m ap b pos spos
  simp only [Bool.and_eq_true, decide_eq_true_eq] at hc
  obtain ⟨rfl, h2, h3, h4, h5, h6⟩ := hc
  obtain ⟨k1, hk⟩ := hk
  obtain ⟨k0, j, π, p, t, t1, el, ej, eg, q⟩ := atW_ex hk
  obtain ⟨p1, _⟩ := place cx ip h5 hr k0 el ej eg
  obtain ⟨f1, f2⟩ := sndF f X sc b Γ cx ip.ip h6 ho k1
  split at q
  · exact s1_expr (em_append (P := fun _ Γ' => k.nx Γ') p1 f1 f2 ej eg h2 h4 h3 q.1 q.2) rfl
  · exact q.elim
theorem sndExte {r : Ex} {f : Fx} (cx : CtxOk N fr sc X) (ip : InE td g X) (hc : chkS N fr sc (.exte r f) st = true) (hr : ob g r) (ho : obF g f) (hk : wp (.exte r f) Γ k) : S1 X st k Γ := by
  unfold chkS at hc; split at hc; case h_2 => cases hc
  rename_i o m ap b pos spos
  simp only [Bool.and_eq_true, decide_eq_true_eq] at hc
  obtain ⟨rfl, h2, h3, h4, h5, h6⟩ := hc
  obtain ⟨k1, k2, k3, hk⟩ := hk
  obtain ⟨k0, j, π, p, t, t1, el, ej, eg, q⟩ := atW_ex hk
  obtain ⟨p1, _⟩ := place cx ip h5 hr k0 el ej eg
  obtain ⟨f1, f2⟩ := sndF f X sc b Γ cx ip.ip h6 ho k1
  have e : fval f Γ = .n .l (fval f Γ).kids := by
    cases h : fval f Γ with
    | d x => rw [h] at k2; cases k2
    | h p => rw [h] at k2; cases k2
    | n κ cs => cases κ <;> first | rfl | (rw [h] at k2; cases k2)
  rw [e] at f1
  split at q
  · exact s1_expr (em_extend (P := fun _ Γ' => k.nx Γ') p1 f1 k3 ej eg h2 h4 h3 q.1 q.2) rfl
  · exact q.elim
theorem sndRem {r i : Ex} (cx : CtxOk N fr sc X) (ip : InE td g X) (hc : chkS N fr sc (.rem r i) st = true) (hr : ob g r) (ho : ob g i) (hk : wp (.rem r i) Γ k) : S1 X st k Γ := by
  unfold chkS at hc; split at hc; case h_2 => cases hc
  rename_i o m ap b pos spos
  simp only [Bool.and_eq_true, decide_eq_true_eq] at hc
  obtain ⟨rfl, h2, h3, h4, h5, h6⟩ := hc
  obtain ⟨k1, k2, hk⟩ := hk
  obtain ⟨k0, j, π, p, t, t1, el, ej, eg, q⟩ := atW_ex hk
  obtain ⟨p1, _⟩ := place cx ip h5 hr k0 el ej eg
  split at q
  · obtain ⟨ns, rfl, hm, q⟩ := q
    exact s1_expr (em_remove (P := fun _ Γ' => k.nx Γ') p1 (snd i X sc b Γ cx ip.ip h6 ho k1).1 k2 ej eg hm h2 h4 h3 q) rfl
  · exact q.elim
theorem sndAppx {r : Ex} {e : Ef} (cx : CtxOk N fr sc X) (ip : InE td g X) (hc : chkS N fr sc (.appx r e) st = true) (hr : ob g r) (ho : obE td g e) (hk : wp (.appx r e) Γ k) : S1 X st k Γ := by
  unfold chkS at hc; split at hc; case h_2 => cases hc
  rename_i o m ap b pos spos
  simp only [Bool.and_eq_true, decide_eq_true_eq] at hc
  obtain ⟨rfl, h2, h3, h4, h5, h6⟩ := hc
  obtain ⟨k0, hk⟩ := hk
  split at hk
  · rename_i j π el
    split at hk
    · rename_i p t ej
      split at hk
      · rename_i cs eg
        obtain ⟨hn, hk⟩ := hk
        obtain ⟨p1, _⟩ := place cx ip h5 hr k0 el ej eg
        refine s1_expr (em_appx (P := fun _ Γ' => k.nx Γ') p1 ej eg h2 h4 h3 hn fun q1 => (sndM e td g X sc b _ _ _ cx ip h6 ho (hk q1)).mono (fun s Γ1 z => ?_) fun _ _ z => z) rfl
        split at z
        · rename_i p2 t2 e2
          exact ⟨p2, t2, e2, z.1, z.2⟩
        · exact z.elim
      · exact hk.elim
    · exact hk.elim
  · exact hk.elim
mutual
theorem sndS : ∀ (s : St) (X : Cx) (st : Stmt) (Γ : List Sl) (k : Kn), CtxOk N fr sc X → InE td g X → (∀ n, X.fn n = true) → chkS N fr sc s st = true → obS td g s → wp s Γ k → S1 X st k Γ
  | .set i e, X, st, Γ, k, cx, ip, fn, hc, ho, hk => sndSet cx ip fn hc ho hk
  | .setlc i own tg s p e, X, st, Γ, k, cx, ip, fn, hc, ho, hk => sndSetlc cx ip hc ho hk
  | .par is es, X, st, Γ, k, cx, ip, fn, hc, ho, hk => sndPar cx ip hc ho hk
  | .unp is e, X, st, Γ, k, cx, ip, fn, hc, ho, hk => sndUnp cx ip fn hc ho hk
  | .fld r c f e, X, st, Γ, k, cx, ip, fn, hc, ho, hk => sndFld cx ip hc ho.1 ho.2.1 ho.2.2 hk
  | .put r i e, X, st, Γ, k, cx, ip, fn, hc, ho, hk => sndPut cx ip hc ho.1 ho.2.1 ho.2.2 hk
  | .app r f, X, st, Γ, k, cx, ip, fn, hc, ho, hk => sndApp cx ip hc ho.1 ho.2 hk
  | .appx r e, X, st, Γ, k, cx, ip, fn, hc, ho, hk => sndAppx cx ip hc ho.1 ho.2 hk
  | .exte r f, X, st, Γ, k, cx, ip, fn, hc, ho, hk => sndExte cx ip hc ho.1 ho.2 hk
  | .rem r i, X, st, Γ, k, cx, ip, fn, hc, ho, hk => sndRem cx ip hc ho.1 ho.2 hk
  | .ex e, X, st, Γ, k, cx, ip, fn, hc, ho, hk => by
    unfold chkS at hc; split at hc; case h_2 => cases hc
    rw [Bool.and_eq_true] at hc
    exact s1_expr (sndM e td g X sc _ Γ _ _ cx ip hc.2 ho hk) (no_swap hc.1 _ _ _)
  | .ret e, X, st, Γ, k, cx, ip, fn, hc, ho, hk => by
    unfold chkS at hc; split at hc; case h_2 => cases hc
    exact s1_ret (sndM e td g X sc _ Γ _ _ cx ip hc ho hk)
  | .retN, X, st, Γ, k, cx, ip, fn, hc, ho, hk => by
    unfold chkS at hc; split at hc; case h_2 => cases hc
    exact s1_retN hk
  | .ite c a b, X, st, Γ, k, cx, ip, fn, hc, ho, hk => by
    unfold chkS at hc; split at hc; case h_2 => cases hc
    simp only [Bool.and_eq_true] at hc
    obtain ⟨h1, h2, h3⟩ := hc
    refine s1_ifN ?_
    have h := sndN c td g X sc _ Γ (fun t Γ' => (t = true → wps a Γ' k) ∧ (t = false → wps b Γ' k)) k.ex cx ip h1 ho.1 hk
    exact ⟨fun B G H σ E xe Q q => h.run B G H σ E xe Q fun t G' H' Γ' E' z => q t G' H' Γ' E' ⟨fun e => sndSs a X _ Γ' k cx ip fn h2 ho.2.1 (z.1 e), fun e => sndSs b X _ Γ' k cx ip fn h3 ho.2.2 (z.2 e)⟩⟩
  | .for_ tg s b, X, st, Γ, k, cx, ip, fn, hc, ho, hk => by
    unfold chkS at hc; split at hc; case h_2 => cases hc
    simp only [Bool.and_eq_true] at hc
    obtain ⟨h1, h2, h3, h4⟩ := hc
    obtain ⟨k1, k2, k3, k4⟩ := hk
    obtain ⟨src, hns⟩ := sndr s X sc _ _ Γ cx ip.ip h3 ho.1 k1
    rw [k3] at src
    refine s1_for (bd := fun t Γ1 => bind tg t Γ1) (fun ts Γ1 => forW (fun t Γ' K' => wps b (bind tg t Γ') K') ts Γ1 k) cx.calm src k4 (fun t ts Γ1 ht i => ?_) (fun Γ1 i => i) (no_fold hns _)
    exact ⟨te_ok cx.n cx.nd cx.calm h1 (k2 t ht).1 (k2 t ht).2 (tgB_ok cx fn h2), sndSs b X _ _ _ cx ip fn h4 ho.2 i⟩
  | .whl c b, X, st, Γ, k, cx, ip, fn, hc, ho, hk => by
    unfold chkS at hc; split at hc; case h_2 => cases hc
    simp only [Bool.and_eq_true] at hc
    obtain ⟨h1, h2⟩ := hc
    obtain ⟨I, m0, i0, hs⟩ := hk
    refine s1_while I m0 i0 fun m Γ1 i1 => ?_
    obtain ⟨q1, q2, q3, q4⟩ := hs m Γ1 i1
    exact ⟨_, ((snd c X sc _ Γ1 cx ip.ip h1 ho.1 q1).2 q2).1, fun z => sndSs b X _ _ _ cx ip fn h2 ho.2 (q3 z), q4⟩
  | .rais n, X, st, Γ, k, cx, ip, fn, hc, ho, hk => by
    unfold chkS at hc; split at hc; case h_2 => cases hc
    simp only [Bool.and_eq_true, decide_eq_true_eq] at hc
    obtain ⟨rfl, h2⟩ := hc
    obtain ⟨g1, g2, g3⟩ := g_ok cx h2
    exact s1_raise cx.calm (by rw [ip.ip.K, ip.ip.mg]; exact ho) hk g1 g2
  | .pass, X, st, Γ, k, cx, ip, fn, hc, ho, hk => by
    unfold chkS at hc; split at hc
    · exact s1_pass hk
    · exact s1_doc hk
    · cases hc
  | .brk, X, st, Γ, k, cx, ip, fn, hc, ho, hk => by
    unfold chkS at hc; split at hc; case h_2 => cases hc
    exact s1_brk hk
  | .cnt, X, st, Γ, k, cx, ip, fn, hc, ho, hk => by
    unfold chkS at hc; split at hc; case h_2 => cases hc
    exact s1_cnt hk
  | .frz _, X, st, Γ, k, cx, ip, fn, hc, ho, hk => by simp [chkS] at hc
  | .dead _, X, st, Γ, k, cx, ip, fn, hc, ho, hk => by simp [chkS] at hc
theorem sndSs : ∀ (r : Sts) (X : Cx) (sts : List Stmt) (Γ : List Sl) (k : Kn), CtxOk N fr sc X → InE td g X → (∀ n, X.fn n = true) → chkSs N fr sc r sts = true → obSs td g r → wps r Γ k → Ss X sts k Γ
  | .nil, X, sts, Γ, k, cx, ip, fn, hc, ho, hk => by
    unfold chkSs at hc; split at hc; case h_2 => cases hc
    exact ss_nil hk
  | .cons s r, X, sts, Γ, k, cx, ip, fn, hc, ho, hk => by
    unfold chkSs at hc
    split at hc
    · simp only [wps, wp] at hk
      split at hk
      · exact sndSs r X sts Γ k cx ip fn hc ho.2 hk.2
      · rename_i p cs ei
        exact ss_frz ei hk.1 (sndSs r X sts _ k cx ip fn hc ho.2 hk.2)
      · exact hk.elim
    · exact ss_dead (sndSs r X sts _ k cx ip fn hc ho.2 hk)
    · split at hc
      · rename_i st sts
        rw [Bool.and_eq_true] at hc
        exact ss_cons (s1_imp (k := { k with nx := Ss X sts k }) (sndS s X st Γ { k with nx := fun Γ' => wps r Γ' k } cx ip fn hc.1 ho.1 hk) fun Γ' q => sndSs r X sts Γ' k cx ip fn hc.2 ho.2 q)
      · cases hc
end
end
end Yl

end

section
/-! Y22: defs. -/
namespace Yl
open PySem PySem.Spec PyProof.Rows L2
open Wl (wE wT wA wS wSs pe_w pt_w pa_w ps_w pss_w w_pe w_pt w_pa w_ps w_pss Dt DtAll Stp Keeps NoT Wk WkAll dt_mono dtAll_mono dt_dp dtAll_dp sqT_mono dp_lay Fre same_upd same_upd2 set_self wSs_mono)
variable [Wl.Tb] [Tc]
section
variable {K : Frg} {B : Bs} {G H G' H' W : Hp} {σ : L2.St} {Γ : List Sl}
mutual
theorem tat_dat (g : Same G G') : ∀ (t : T) (v : V) (fp : List Addr), TAt K G H v t fp → t.isDat = true → (∀ a, a ∈ fp → G' a = H a) → Dt K G' v t.dat
  | .d x, v, fp, h, q, e => by cases h with | d h => exact dt_mono g _ _ h
  | .h p, v, fp, h, q, e => by simp [T.isDat] at q
  | .n .l cs, v, fp, h, q, e => by
    cases h with
    | n h1 h2 =>
      obtain ⟨hp, rfl⟩ := h1
      exact .lst (.of (by rw [e _ (by simp)]; exact hp)) (tats_dat g cs _ _ h2 q fun a ha => e a (List.mem_append_right _ ha))
  | .n .t cs, v, fp, h, q, e => by
    cases h with
    | n h1 h2 =>
      obtain ⟨hp, rfl⟩ := h1
      exact .tup (.of (by rw [e _ (by simp)]; exact hp)) (tats_dat g cs _ _ h2 q fun a ha => e a (List.mem_append_right _ ha))
  | .n (.k _) cs, v, fp, h, q, e => by simp [T.isDat] at q
  | .n (.i _ _) cs, v, fp, h, q, e => by simp [T.isDat] at q
theorem tats_dat (g : Same G G') : ∀ (ts : List T) (vs : List V) (fp : List Addr), TAts K G H vs ts fp → T.areDat ts = true → (∀ a, a ∈ fp → G' a = H a) → DtAll K G' vs (T.dats ts)
  | [], vs, fp, h, q, e => by cases h; exact .nil
  | t :: ts, vs, fp, h, q, e => by
    cases h with
    | cons h1 h2 =>
      simp only [T.areDat, Bool.and_eq_true] at q
      exact .cons (tat_dat g t _ _ h1 q.1 fun a ha => e a (List.mem_append_left _ ha)) (tats_dat g ts _ _ h2 q.2 fun a ha => e a (List.mem_append_right _ ha))
end
/-- a tree of plain data is frozen -/
theorem Env.freezeD (E : Env K B G H σ Γ) {i : Nat} {p : Addr} {t : T} (h : Γ[i]? = some (.o p t)) (hs : t.isDat = true) : ∃ G', Same G G' ∧ Env K B G' H σ (Γ.set i (.w (.d t.dat))) := by
  obtain ⟨fp, o, h1, h20, nd, h4, k⟩ := E.focus h
  obtain ⟨rfl, h2⟩ := (show o = some (.ref p) ∧ TAt K G H (.ref p) t fp from h20)
  have lv := tat_live _ _ _ h2
  let G1 : Hp := fun a => if a ∈ fp then H a else G a
  have e1 : ∀ a, a ∈ fp → G1 a = H a := fun a ha => if_pos ha
  have e2 : ∀ a, a ∉ fp → G1 a = G a := fun a ha => if_neg ha
  have gg : Same G G1 := fun a o e => by
    by_cases q : a ∈ fp
    · rw [(h4 a q).1] at e; cases e
    · rw [e2 a q]; exact e
  refine ⟨G1, gg, ?_⟩
  have r := k (G' := G1) (H' := H) (fp' := []) (o' := some (.ref p)) (s' := .w (.d t.dat)) (fun a ps z => by
      by_cases q : a ∈ fp
      · rw [e1 a q] at z
        obtain ⟨o, e, pl⟩ := lv a q
        rw [e] at z
        exact pl_tbl pl ps (Option.some.inj z)
      · rw [e2 a q] at z; exact E.nt a ps z) gg (fun a u e => by
      by_cases q : a ∈ fp
      · rw [e1 a q] at e; exact e
      · rw [e2 a q] at e; exact E.gh _ _ e) (fun a n _ => ⟨rfl, e2 a n⟩) (fun a => by
      by_cases q : a ∈ fp
      · exact .inr (h4 a q).2.2
      · exact .inl (e2 a q)) ⟨rfl, _, [], rfl, .d (tat_dat gg t _ _ h2 hs e1)⟩ List.nodup_nil fun a ha => by cases ha
  rw [set_self h1] at r
  exact r
theorem sls_un : ∀ m : Nat, SlsAt K G W H (List.replicate m []) (List.replicate m none) (List.replicate m .un)
  | 0 => True.intro
  | m + 1 => ⟨rfl, sls_un m⟩
theorem Env.pad (E : Env K B G H σ Γ) (m : Nat) : Env K B G H (σ ++ List.replicate m none) (Γ ++ List.replicate m .un) := by
  obtain ⟨fps, h1, h2, h3⟩ := E.sl
  refine ⟨E.gh, E.g0, E.new, E.keep, E.tab, E.nt, E.wh, E.wn, fps ++ List.replicate m [], SlsAt.app h1 (sls_un m), ?_, fun a ha => ?_⟩
  · rw [List.flatten_append, Wl.flat_nil, List.append_nil]; exact h2
  · rw [List.flatten_append, Wl.flat_nil, List.append_nil] at ha; exact h3 a ha
theorem Env.stp {Γ' : List Sl} (E : Env K ⟨G, H, [], W⟩ G' H' σ Γ') : Stp G H G' H' := ⟨E.g0, ⟨fun a o h n => E.keep a o h (by simp) n, fun _ => E.tab⟩, E.gh, fun a => (E.new a).imp id fun h => h.elim id fun z => absurd z (by simp), fun _ => E.nt⟩
theorem sls_r {fp : List Addr} (gw : ∀ a, a ∈ fp → W a = H a) : ∀ {vs : List V} {ts : List T} {fq : List Addr}, TAts K G H vs ts fq → (∀ a, a ∈ fq → a ∈ fp) → SlsAt K G W H' (List.replicate ts.length []) (vs.map some) (ts.map .w)
  | [], [], _, _, _ => True.intro
  | v :: vs, t :: ts, _, .cons h k, sub => ⟨⟨rfl, v, _, rfl, tat_mono (Same.refl _) _ _ _ h fun a ha => gw a (sub a (List.mem_append_left _ ha))⟩, sls_r gw k fun a ha => sub a (List.mem_append_right _ ha)⟩
theorem env_r {vs : List V} {ts : List T} {fp : List Addr} (e : Same G H) (tb : LamX.Tabs Wl.Tb.T H) (nt : NoT G) (h : TAts K G H vs ts fp) : ∃ W, Env K ⟨G, H, [], W⟩ G H (vs.map some) (ts.map .w) := by
  have lv := tats_live _ _ _ h
  refine ⟨fun a => if a ∈ fp then H a else none, e, Same.refl _, fun _ => .inl rfl, fun a o h _ _ => h, tb, nt, fun a o z => ?_, fun a ps z => ?_, List.replicate ts.length [], sls_r (fun a ha => if_pos ha) h fun a ha => ha, ?_, fun a ha => ?_⟩
  · by_cases q : a ∈ fp
    · simp only [if_pos q] at z; exact z
    · simp only [if_neg q] at z; cases z
  · by_cases q : a ∈ fp
    · simp only [if_pos q] at z
      obtain ⟨o, e, pl⟩ := lv a q
      rw [e] at z
      exact pl_tbl pl ps (Option.some.inj z)
    · simp only [if_neg q] at z; cases z
  · rw [Wl.flat_nil]; exact List.nodup_nil
  · rw [Wl.flat_nil] at ha; cases ha
end
/-! ### THE RULES for defs -/
def padS (N : List Str) (Γ : List Sl) : List Sl := Γ ++ List.replicate (N.length - Γ.length) .un
theorem start_pad {K : Frg} {B : Bs} {G H : Hp} {N : List Str} {vs : List V} {Γ : List Sl} (E : Env K B G H (vs.map some) Γ) : Env K B G H (L2.start N vs) (padS N Γ) := by
  have l : vs.length = Γ.length := by have := E.len; rwa [List.length_map] at this
  have := E.pad (N.length - Γ.length)
  unfold padS L2.start
  rw [← l] at this ⊢
  exact this
/-- the end of a def that changes nothing -/
def knR (o : Ou) : Kn where
  nx := fun _ => o = .ret .none
  rt := fun t _ => t.isDat = true ∧ o = .ret t.dat
  ex := fun c _ => o = .exc c
section
variable {td : Td → Prop} {g : Pg} {N fr ps : List Str} {x qual : Str} {params : Arguments} {body : List Stmt} {scope : Scope} {f : Addr} {fd : FuncData} {r : Sts}
theorem fn_S {F : Spc} (F0 : FunD g.K x qual params body scope [] [] f fd) (S : FnScope N ps scope) (hfr : ∀ n ∈ fr, g.mg n = none) (hc : chkSs N fr scope r body = true) (ho : obSs (fun _ => False) g r) (hlen : ∀ Γ P, F Γ P → Γ.length = ps.length)
    (hw : ∀ Γ P, F Γ P → (∀ s, s ∈ Γ → s ≠ .un) → wps r (padS N Γ) (knS Γ P)) :
    FnOk g.P g.w g.K g.mg g.base (L2N.CX g.P g.w) (g.j + 1) f fd ps (spS g.K g.mg F) := by
  refine F0.ok S (fun vs H Q E ⟨B, G, Γ, P, e, _, hF, _⟩ => by have := e.len; rw [List.length_map] at this; rw [this]; exact hlen Γ P hF) (fun cdv A outer s H vs Q E hr ⟨B, G, Γ, P, E0, nu, hF, hret, hexc⟩ => ⟨wSs _ body, pss_w, ?_⟩)
  have En := start_pad (N := N) E0
  have cx : CtxOk N fr scope (cxOf (L2N.CX g.P g.w) g.P g.w g.K g.mg g.base N qual scope f cdv A outer s H E) := ⟨rfl, S.nd, rfl, rfl, by have := hr.un; show (A.deeper _).units + 64 < cLine; omega, hfr⟩
  have ip : InPg g (cxOf (L2N.CX g.P g.w) g.P g.w g.K g.mg g.base N qual scope f cdv A outer s H E) := ⟨rfl, rfl, rfl, rfl, rfl, hr⟩
  have sd := sndSs (td := fun _ => False) r _ body _ _ cx ⟨ip, fun _ z => z.elim⟩ (fun _ => rfl) hc ho (hw Γ P hF nu)
  -- the entry anew: what the def may change is what its slots own
  obtain ⟨O, E1, back⟩ := Env.frame (τ := []) (S := []) rfl En
  refine wSs_mono (sd.run _ G H _ E1 ⟨fun cls d _ H' => E cls d H', L2N.takes_of rfl rfl rfl rfl, passes_of rfl, fun c σ G' H' Γ' E' z => ?_⟩) (fun σ' H' ⟨G', Γ', E', z⟩ => ?_) (fun v' H' ⟨G', σ', s', Γ', E', rs, z⟩ => ?_) (fun _ _ ⟨_, _, _, z⟩ => z.elim) (fun _ _ ⟨_, _, _, z⟩ => z.elim)
  · obtain ⟨Γ2, bk, p⟩ := z
    obtain ⟨E2, g2⟩ := back E'
    exact hexc c G' H' Γ2 (Env.bk E0 E2 g2 bk) p
  · obtain ⟨Γ2, bk, p⟩ := z
    obtain ⟨E2, g2⟩ := back E'
    have E3 := Env.bk E0 E2 g2 bk
    exact hret .non _ G' H' Γ2 (E3.push_d .non) (.d .none) bk.len p
  · obtain ⟨Γ2, bk, p⟩ := z
    obtain ⟨E2, g2⟩ := back E'
    exact hret v' s' G' H' Γ2 (Env.bk1 (σ0 := vs.map some) E0 E2 g2 bk) rs bk.len p
/-- .. that changes nothing -/
theorem fn_R {F : PF} (F0 : FunD g.K x qual params body scope [] [] f fd) (S : FnScope N ps scope) (hfr : ∀ n ∈ fr, g.mg n = none) (hc : chkSs N fr scope r body = true) (ho : obSs (fun _ => False) g r) (hlen : ∀ ts, F.pre ts → ts.length = ps.length)
    (hw : ∀ ts, F.pre ts → wps r (padS N (ts.map .w)) (knR (F.out ts))) :
    FnOk g.P g.w g.K g.mg g.base (L2N.CX g.P g.w) (g.j + 1) f fd ps (spR g.K g.mg F) := by
  refine F0.ok S (fun vs H Q E ⟨G, ts, fp, _, _, _, d, hF, _⟩ => by rw [d.len]; exact hlen ts hF) (fun cdv A outer s H vs Q E hr ⟨G, ts, fp, e, tb, nt, d, hF, q⟩ => ⟨wSs _ body, pss_w, ?_⟩)
  obtain ⟨W, E0⟩ := env_r e tb nt d
  have En := start_pad (N := N) E0
  have cx : CtxOk N fr scope (cxOf (L2N.CX g.P g.w) g.P g.w g.K g.mg g.base N qual scope f cdv A outer s H E) := ⟨rfl, S.nd, rfl, rfl, by have := hr.un; show (A.deeper _).units + 64 < cLine; omega, hfr⟩
  have ip : InPg g (cxOf (L2N.CX g.P g.w) g.P g.w g.K g.mg g.base N qual scope f cdv A outer s H E) := ⟨rfl, rfl, rfl, rfl, rfl, hr⟩
  have sd := sndSs (td := fun _ => False) r _ body _ _ cx ⟨ip, fun _ z => z.elim⟩ (fun _ => rfl) hc ho (hw ts hF)
  refine wSs_mono (sd.run _ G H _ En ⟨fun cls d _ H' => E cls d H', L2N.takes_of rfl rfl rfl rfl, passes_of rfl, fun c σ G' H' Γ' E' z => ?_⟩) (fun σ' H' ⟨G', Γ', E', z⟩ => ?_) (fun v' H' ⟨G', σ', s', Γ', E', rs, z⟩ => ?_) (fun _ _ ⟨_, _, _, z⟩ => z.elim) (fun _ _ ⟨_, _, _, z⟩ => z.elim)
  · rw [show F.out ts = .exc c from z] at q
    exact q G' H' E'.stp
  · rw [show F.out ts = .ret .none from z] at q
    exact q .non G' H' E'.stp .non
  · obtain ⟨z1, z2⟩ := z
    rw [z2] at q
    rcases rs with ⟨x, rfl⟩ | ⟨p, t, rfl, _⟩
    · exact q v' G' H' E'.pop.stp E'.headD
    · obtain ⟨G2, g2, E2⟩ := E'.freezeD (i := 0) rfl z1
      exact q v' G2 H' E2.pop.stp (Env.headD E2)
end
end Yl

end

section
/-! Y23: plain lemmas for the texts' worth. -/
namespace Yl
open PySem L2
@[simp] theorem dats_d : ∀ xs : List D, T.dats (xs.map .d) = xs
  | [] => rfl
  | x :: xs => by rw [List.map_cons]; simp only [T.dats, T.dat]; rw [dats_d xs]
@[simp] theorem dats_f {α : Type} (f : α → D) : ∀ xs : List α, T.dats (xs.map fun x => .d (f x)) = xs.map f
  | [] => rfl
  | x :: xs => by rw [List.map_cons, List.map_cons]; simp only [T.dats, T.dat]; rw [dats_f f xs]
@[simp] theorem dats_app : ∀ ts us : List T, T.dats (ts ++ us) = T.dats ts ++ T.dats us
  | [], us => rfl
  | t :: ts, us => by simp only [List.cons_append, T.dats]; rw [dats_app ts us]
@[simp] theorem areDat_d : ∀ xs : List D, T.areDat (xs.map .d) = true
  | [] => rfl
  | x :: xs => by rw [List.map_cons]; simp only [T.areDat, T.isDat]; rw [areDat_d xs]; rfl
@[simp] theorem areDat_f {α : Type} (f : α → D) : ∀ xs : List α, T.areDat (xs.map fun x => .d (f x)) = true
  | [] => rfl
  | x :: xs => by rw [List.map_cons]; simp only [T.areDat, T.isDat]; rw [areDat_f f xs]; rfl
@[simp] theorem areDat_app : ∀ ts us : List T, T.areDat (ts ++ us) = (T.areDat ts && T.areDat us)
  | [], us => by simp [T.areDat]
  | t :: ts, us => by simp only [List.cons_append, T.areDat]; rw [areDat_app ts us, Bool.and_assoc]
@[simp] theorem bools_f {α : Type} (f : α → Bool) : ∀ xs : List α, boolsD (xs.map fun x => .bool (f x)) = some (xs.map f)
  | [] => rfl
  | x :: xs => by simp only [List.map_cons, boolsD]; rw [bools_f f xs]; rfl
@[simp] theorem ints_f {α : Type} (f : α → Int) : ∀ xs : List α, intsD (xs.map fun x => .int (f x)) = some (xs.map f)
  | [] => rfl
  | x :: xs => by simp only [List.map_cons, intsD]; rw [ints_f f xs]; rfl
@[simp] theorem ints_i : ∀ xs : List Int, intsD (xs.map .int) = some xs
  | [] => rfl
  | x :: xs => by simp only [List.map_cons, intsD]; rw [ints_i xs]; rfl
@[simp] theorem all_sd_d (xs : List D) : (xs.map T.d).all T.sd = true := by
  rw [List.all_map, List.all_eq_true]; exact fun _ _ => rfl
@[simp] theorem all_sd_f {α : Type} (f : α → D) (xs : List α) : (xs.map fun x => T.d (f x)).all T.sd = true := by
  rw [List.all_map, List.all_eq_true]; exact fun _ _ => rfl
@[simp] theorem filt_true {α : Type} (l : List α) : l.filter (fun _ => true) = l := List.filter_eq_self.mpr fun _ _ => rfl
@[simp] theorem eqv_nil (xs : List D) : PyData.eqv (.list xs) (.list []) = xs.isEmpty := by
  cases xs <;> rfl
theorem cdivs {i j : Int} (h : 0 < j) (h2 : j < 2 ^ 64) : CDivW i j := wide_div (b := 64) h (by omega) (by decide) (by decide)
theorem cmulr {i j : Int} (h : j.natAbs < 2 ^ 64) : CMul i j ∨ CMulW i j := .inl (.inr (by omega))
theorem forW_nil {step : T → List Sl → Kn → Prop} {Γ : List Sl} {K : Kn} (h : K.nx Γ) : forW step [] Γ K := h
theorem forW_cons {step : T → List Sl → Kn → Prop} {t : T} {ts : List T} {Γ : List Sl} {K : Kn} (h : step t Γ { K with nx := fun Γ' => forW step ts Γ' K, ct := fun Γ' => forW step ts Γ' K, bk := K.nx }) : forW step (t :: ts) Γ K := h
/-! lists of whole numbers -/
def iL (ns : List Int) : List D := ns.map .int
@[simp] theorem iL_len (ns : List Int) : (iL ns).length = ns.length := List.length_map _
@[simp] theorem iL_ints (ns : List Int) : intsD (iL ns) = some ns := ints_i ns
@[simp] theorem iL_nil : iL [] = [] := rfl
@[simp] theorem iL_isE (ns : List Int) : (iL ns).isEmpty = ns.isEmpty := by cases ns <;> rfl
@[simp] theorem atI_map {α β : Type} (f : α → β) (l : List α) (i : Int) : atI (l.map f) i = (atI l i).map f := by
  unfold atI
  rw [List.length_map]
  cases ixN l.length i with
  | none => rfl
  | some k => simp
@[simp] theorem atI_iL (l : List Int) (i : Int) : atI (iL l) i = (atI l i).map .int := atI_map _ _ _
theorem atI_nn {α : Type} (l : List α) (n : Nat) : atI l (n : Int) = l[n]? := by
  unfold atI ixN
  by_cases h : n < l.length
  · simp [h]
  · simp [h]
@[simp] theorem atI_00 {α : Type} (a : α) (l : List α) : atI (a :: l) 0 = some a := atI_nn (a :: l) 0
@[simp] theorem atI_11 {α : Type} (a b : α) (l : List α) : atI (a :: b :: l) 1 = some b := atI_nn (a :: b :: l) 1
theorem cutL_mapf {α β : Type} (f : α → β) (l : List α) (lo hi : Option Int) : Wl.cutL (l.map f) lo hi = (Wl.cutL l lo hi).map f := by
  unfold Wl.cutL
  rw [List.length_map, List.map_take, List.map_drop]
@[simp] theorem cutL_iL (l : List Int) (lo hi : Option Int) : Wl.cutL (iL l) lo hi = iL (Wl.cutL l lo hi) := cutL_mapf _ _ _ _
theorem cutL_nn {α : Type} (l : List α) (n : Nat) : Wl.cutL l (some (n : Int)) none = l.drop n := by
  have h0 : ¬ ((n : Int) < 0) := by omega
  unfold Wl.cutL HT.sIx
  simp only [Option.getD]
  by_cases h : n ≤ l.length
  · simp [h, h0, List.take_of_length_le]
  · simp [Nat.le_of_not_le h, h0, List.drop_eq_nil_of_le]
@[simp] theorem cutL_11 {α : Type} (l : List α) : Wl.cutL l (some 1) none = l.drop 1 := cutL_nn l 1
@[simp] theorem eqv_intI (i j : Int) : PyData.eqv (.int i) (.int j) = decide (i = j) := by
  by_cases h : i = j
  · subst h; simp [PyData.eqv]
  · simp [PyData.eqv, h]
@[simp] theorem eqv_iL (a b : List Int) : PyData.eqv (.list (iL a)) (.list (iL b)) = decide (a = b) := by
  show PyData.eqvAll (iL a) (iL b) = _
  induction a generalizing b with
  | nil => cases b <;> rfl
  | cons x a ih =>
    cases b with
    | nil => rfl
    | cons y b =>
      show (PyData.eqv (.int x) (.int y) && PyData.eqvAll (iL a) (iL b)) = _
      rw [ih b, eqv_intI]
      by_cases h : x = y
      · subst h; simp
      · simp [h]
@[simp] theorem inD_iL (o : Int) (ns : List Int) : Wl.inD (.int o) (iL ns) = decide (o ∈ ns) := by
  unfold Wl.inD iL
  rw [List.any_map]
  induction ns with
  | nil => rfl
  | cons n l ih =>
    rw [List.any_cons, ih]
    show (PyData.eqv (.int n) (.int o) || _) = _
    rw [eqv_intI]
    by_cases h : n = o
    · subst h; simp
    · simp [h, Ne.symm h]
@[simp] theorem inD_map (o : Int) (ns : List Int) : Wl.inD (.int o) (ns.map .int) = decide (o ∈ ns) := inD_iL o ns
@[simp] theorem iL_drop (a : Nat) (r : List Int) : (iL r).drop a = iL (r.drop a) := by unfold iL; rw [List.map_drop]
theorem iL_app (a b : List Int) : iL a ++ iL b = iL (a ++ b) := by unfold iL; rw [List.map_append]
theorem iL_snoc (a : List Int) (x : Int) : iL a ++ [PyData.int x] = iL (a ++ [x]) := by unfold iL; rw [List.map_append]; rfl
theorem iL_mapd (a : List Int) : (iL a).map T.d = a.map fun n => T.d (.int n) := by unfold iL; rw [List.map_map]; rfl
theorem atI_m1 {α : Type} (l : List α) : atI l (-1) = l.getLast? := by
  unfold atI ixN
  cases l with
  | nil => rfl
  | cons a l =>
    rw [if_neg (by omega), if_pos (by simp only [List.length_cons]; omega), List.getLast?_eq_getElem?]
    show (a :: l)[_]? = _
    congr 1
    simp only [List.length_cons]
    omega
/-! texts by their worth -/
/-- e asks nothing more and is worth the truth value k -/
def Bv (e : Ex) (Γ : List Sl) (k : Bool) : Prop := ok e Γ ∧ val e Γ = .d (.bool k)
theorem bv_no {a : Ex} {Γ : List Sl} {k : Bool} (h : Bv a Γ k) : Bv (.no a) Γ (!k) := ⟨⟨h.1, by rw [h.2]; rfl⟩, by show T.d (.bool (!(val a Γ).b)) = _; rw [h.2]; rfl⟩
theorem bv_on {a : Ex} {Γ : List Sl} {k : Bool} (h : Bv a Γ k) : Bv (.on a) Γ k := h
theorem bv_or {a b : Ex} {Γ : List Sl} {k l : Bool} (h : Bv a Γ k) (h2 : k = false → Bv b Γ l) : Bv (.or a b) Γ (k || l) := by
  cases k with
  | true => exact ⟨⟨h.1, by rw [h.2]; rfl, fun z => by rw [h.2] at z; cases z⟩, by show T.d (.bool ((val a Γ).b || (val b Γ).b)) = _; rw [h.2]; rfl⟩
  | false => exact ⟨⟨h.1, by rw [h.2]; rfl, fun _ => ⟨(h2 rfl).1, by rw [(h2 rfl).2]; rfl⟩⟩, by show T.d (.bool ((val a Γ).b || (val b Γ).b)) = _; rw [h.2, (h2 rfl).2]; rfl⟩
theorem bv_an {a b : Ex} {Γ : List Sl} {k l : Bool} (h : Bv a Γ k) (h2 : k = true → Bv b Γ l) : Bv (.an a b) Γ (k && l) := by
  cases k with
  | false => exact ⟨⟨h.1, by rw [h.2]; rfl, fun z => by rw [h.2] at z; cases z⟩, by show T.d (.bool ((val a Γ).b && (val b Γ).b)) = _; rw [h.2]; rfl⟩
  | true => exact ⟨⟨h.1, by rw [h.2]; rfl, fun _ => ⟨(h2 rfl).1, by rw [(h2 rfl).2]; rfl⟩⟩, by show T.d (.bool ((val a Γ).b && (val b Γ).b)) = _; rw [h.2, (h2 rfl).2]; rfl⟩
theorem bools_d (f : T → Bool) (ts : List T) : boolsD (ts.map fun t => PyData.bool (f t)) = some (ts.map f) := bools_f f ts
/-- all([..]) -/
theorem bv_all {tg : Tg} {s : Sr} {e : Ex} {Γ : List Sl} (f : T → Bool) (h0 : okr s Γ) (hl : (items s Γ).length ≤ 100000) (h : ∀ t, t ∈ items s Γ → bindOk tg t ∧ Bv e (Yl.bind tg t Γ) (f t)) : Bv (.bi .all (.cons (.lc tg s (.c (.bool true)) e) .nil)) Γ ((items s Γ).all f) := by
  have hv : val (.lc tg s (.c (.bool true)) e) Γ = .d (.list ((items s Γ).map fun t => .bool (f t))) := by
    show T.d (.list (((items s Γ).filter fun t => (val (.c (.bool true)) (Yl.bind tg t Γ)).b).map fun t => (val e (Yl.bind tg t Γ)).dat)) = _
    congr 2
    rw [show ((items s Γ).filter fun t => (val (.c (.bool true)) (Yl.bind tg t Γ)).b) = items s Γ from List.filter_eq_self.mpr fun _ _ => rfl]
    exact List.map_congr_left fun t ht => by rw [(h t ht).2.2]; rfl
  have hk : (val (.lc tg s (.c (.bool true)) e) Γ).kids = ((items s Γ).map fun t => PyData.bool (f t)).map .d := by rw [hv]; rfl
  refine ⟨⟨⟨⟨h0, hl, fun t ht => ⟨(h t ht).1, trivial, rfl, fun _ => ⟨(h t ht).2.1, by rw [(h t ht).2.2]; rfl⟩⟩⟩, trivial⟩, ?_⟩, ?_⟩
  · show biOk .all [val (.lc tg s (.c (.bool true)) e) Γ]
    refine ⟨by rw [hv]; rfl, by rw [hv]; rfl, _, by rw [hk, dats_d, bools_d]⟩
  · show T.d (.bool (((boolsD (T.dats (val (.lc tg s (.c (.bool true)) e) Γ).kids)).getD []).all id)) = _
    rw [hk, dats_d, bools_d]
    show T.d (.bool (((items s Γ).map f).all id)) = _
    rw [List.all_map]; rfl
theorem wps_if {c : Ex} {a b r : Sts} {Γ : List Sl} {K : Kn} {k : Bool} (hk : Bv c Γ k) (h1 : k = true → wps a Γ { K with nx := fun Γ' => wps r Γ' K }) (h2 : k = false → wps b Γ { K with nx := fun Γ' => wps r Γ' K }) : wps (.cons (.ite (.p c) a b) r) Γ K := by
  show ok c Γ ∧ (val c Γ).sd = true ∧ _
  rw [hk.2]
  exact ⟨hk.1, rfl, h1, h2⟩
/-- e asks nothing more and is worth t -/
def Vv (e : Ex) (Γ : List Sl) (t : T) : Prop := ok e Γ ∧ val e Γ = t
theorem vv_call {F : PF} {f : Str} {es : Exs} {Γ : List Sl} {ts : List T} {x : D} (h : oks es Γ ∧ vals es Γ = ts) (hp : F.pre ts) (ho : F.out ts = .ret x) : Vv (.call F f es) Γ (.d x) := by
  obtain ⟨h1, rfl⟩ := h
  exact ⟨⟨h1, hp, by rw [ho]; rfl⟩, by show T.d (F.out (vals es Γ)).x = _; rw [ho]; rfl⟩
theorem vv_lc {tg : Tg} {s : Sr} {p e : Ex} {Γ : List Sl} (f : T → Bool) (g : T → D) (h0 : okr s Γ) (hl : (items s Γ).length ≤ 100000) (h : ∀ t, t ∈ items s Γ → bindOk tg t ∧ Bv p (Yl.bind tg t Γ) (f t) ∧ (f t = true → Vv e (Yl.bind tg t Γ) (.d (g t)))) : Vv (.lc tg s p e) Γ (.d (.list (((items s Γ).filter f).map g))) := by
  refine ⟨⟨h0, hl, fun t ht => ⟨(h t ht).1, (h t ht).2.1.1, by rw [(h t ht).2.1.2]; rfl, fun z => ?_⟩⟩, ?_⟩
  · rw [(h t ht).2.1.2] at z
    have := (h t ht).2.2 z
    exact ⟨this.1, by rw [this.2]; rfl⟩
  · show T.d (.list (((items s Γ).filter fun t => (val p (Yl.bind tg t Γ)).b).map fun t => (val e (Yl.bind tg t Γ)).dat)) = _
    have e1 : ((items s Γ).filter fun t => (val p (Yl.bind tg t Γ)).b) = (items s Γ).filter f := List.filter_congr fun t ht => by rw [(h t ht).2.1.2]; rfl
    rw [e1]
    congr 2
    refine List.map_congr_left fun t ht => ?_
    have m := List.mem_filter.mp ht
    rw [((h t m.1).2.2 m.2).2]; rfl
theorem bv_ne {a b : Ex} {Γ : List Sl} {x y : D} (ha : Vv a Γ (.d x)) (hb : Vv b Γ (.d y)) (hd : min x.depth y.depth ≤ 60) : Bv (.cmp .ne a b) Γ (!eqD x y) := by
  refine ⟨⟨ha.1, hb.1, ?_⟩, ?_⟩
  · rw [ha.2, hb.2]; exact ⟨rfl, rfl, hd⟩
  · show T.d (.bool (!eqD (val a Γ).dat (val b Γ).dat)) = _
    rw [ha.2, hb.2]; rfl
theorem wps_dead {is : List Nat} {r : Sts} {Γ : List Sl} {K : Kn} (h : wps r (deadS is Γ) K) : wps (.cons (.dead is) r) Γ K := h
theorem wps_frz {i : Nat} {p : PySem.Addr} {cs : List T} {r : Sts} {Γ : List Sl} {K : Kn} (hi : Γ[i]? = some (.o p (.n .l cs))) (hs : allSd cs = true) (h : wps r (Γ.set i (.w (.d (.list (T.dats cs))))) K) : wps (.cons (.frz i) r) Γ K := by
  simp only [wps, wp, hi]
  exact ⟨hs, h⟩
theorem wps_set {i : Nat} {e : Ex} {x : D} {r : Sts} {Γ : List Sl} {K : Kn} (he : Vv e Γ (.d x)) (h : wps r (Γ.set i (.w (.d x))) K) : wps (.cons (.set i (.p e)) r) Γ K := by
  show ok e Γ ∧ (val e Γ).sd = true ∧ wps r (Γ.set i (.w (.d (val e Γ).dat))) K
  rw [he.2]
  exact ⟨he.1, rfl, h⟩
theorem wps_setlc {i : Nat} {tg : Tg} {s : Sr} {p e : Ex} {x : D} {r : Sts} {Γ : List Sl} {K : Kn} (he : Vv (.lc tg s p e) Γ (.d x)) (h : wps r (Γ.set i (.w (.d x))) K) : wps (.cons (.setlc i false tg s p e) r) Γ K := by
  show ok (.lc tg s p e) Γ ∧ wps r (Γ.set i (.w (val (.lc tg s p e) Γ))) K
  rw [he.2]
  exact ⟨he.1, h⟩
theorem wps_ifF {c : Ex} {a r : Sts} {Γ : List Sl} {K : Kn} (hk : Bv c Γ false) (h : wps r Γ K) : wps (.cons (.ite (.p c) a .nil) r) Γ K := wps_if hk (fun z => by cases z) fun _ => h
theorem bv_gt {a b : Ex} {Γ : List Sl} {x y : Int} (ha : Vv a Γ (.d (.int x))) (hb : Vv b Γ (.d (.int y))) (h : x ≤ y) : Bv (.cmp .gt a b) Γ false := by
  refine ⟨⟨ha.1, hb.1, ?_⟩, ?_⟩
  · rw [ha.2, hb.2]; exact ⟨rfl, rfl⟩
  · show T.d (.bool (decide ((val b Γ).i < (val a Γ).i))) = _
    rw [ha.2, hb.2]
    rw [decide_eq_false (show ¬ ((T.d (.int y)).i < (T.d (.int x)).i) from by show ¬ (y < x); omega)]
end Yl

end

section
/-! Y24: defs by their names; the law's own def. -/
namespace Yl
open PySem PySem.Spec PyProof.Rows L2
open Wl (wSs pss_w wSs_mono Dt DtAll)
variable [Wl.Tb] [Tc]
variable {td : Td → Prop} {g : Pg} {N fr ps : List Str} {x qual : Str} {params : Arguments} {body : List Stmt} {scope : Scope} {f : Addr} {fd : FuncData} {r : Sts}
theorem fg_R {F : PF} (F0 : FunD g.K x qual params body scope [] [] f fd) (S : FnScope N ps scope) (hfr : ∀ n ∈ fr, g.mg n = none) (hc : chkSs N fr scope r body = true) (gm : g.mg x = some (.ref f)) (bd : L2.Binds g.K fd ps []) (hlen : ∀ ts, F.pre ts → ts.length = ps.length) (hw : ∀ ts, F.pre ts → wps r (padS N (ts.map .w)) (knR (F.out ts))) (ho : obSs (fun _ => False) g r) : Wl.FG g.P g.w g.K g.mg g.base (g.j + 1) x ps.length (spR g.K g.mg F) :=
  ⟨f, fd, ps, rfl, gm, F0.kp, bd, fn_R F0 S hfr hc ho hlen hw⟩
theorem fn_RL {F : PF} (F0 : FunD g.K x x params body scope [] [] f fd) (S : FnScope N ps scope) (hfr : ∀ n ∈ fr, g.mg n = none) (hc : chkSs N fr scope r body = true) (ho : obSs td g r) (hlen : ∀ ts, F.pre ts → ts.length = ps.length)
    (hw : ∀ ts, F.pre ts → wps r (padS N (ts.map .w)) (knR (F.out ts)))
    (tl : ∀ X : Cx, X.prog = g.P → X.w = g.w → X.K = g.K → X.mg = g.mg → X.base = g.base → X.env.code = fd.code → X.env.qual = x ++ ".<locals>." → Room g.j X.A → ∀ d, td d → Wl.TL X d.x d.clf d.okn (g.j - 2)) :
    FnOk g.P g.w g.K g.mg g.base (L2N.CX g.P g.w) (g.j + 1) f fd ps (spR g.K g.mg F) := by
  obtain ⟨oc, od, dV, kV, doc, pm, an, cdv, ct, osl, rfl, lk, hcd, hD, hK⟩ := F0.ex
  refine fn_of lk hcd S (fun vs H Q E ⟨G, ts, fp, _, _, _, d, hF, _⟩ => by rw [d.len]; exact hlen ts hF) fun A outer s H vs Q E hr ⟨G, ts, fp, e, tb, nt, d, hF, q⟩ => ⟨wSs _ body, pss_w, ?_⟩
  obtain ⟨W, E0⟩ := env_r e tb nt d
  have En := start_pad (N := N) E0
  have cx : CtxOk N fr scope (cxOf (L2N.CX g.P g.w) g.P g.w g.K g.mg g.base N x scope f cdv A outer s H E) := ⟨rfl, S.nd, rfl, rfl, by have := hr.un; show (A.deeper _).units + 64 < cLine; omega, hfr⟩
  have ip : InE td g (cxOf (L2N.CX g.P g.w) g.P g.w g.K g.mg g.base N x scope f cdv A outer s H E) := ⟨⟨rfl, rfl, rfl, rfl, rfl, hr⟩, tl _ rfl rfl rfl rfl rfl rfl rfl hr⟩
  have sd := sndSs (td := td) r _ body _ _ cx ip (fun _ => rfl) hc ho (hw ts hF)
  refine wSs_mono (sd.run _ G H _ En ⟨fun cls d _ H' => E cls d H', L2N.takes_of rfl rfl rfl rfl, passes_of rfl, fun c σ G' H' Γ' E' z => ?_⟩) (fun σ' H' ⟨G', Γ', E', z⟩ => ?_) (fun v' H' ⟨G', σ', s', Γ', E', rs, z⟩ => ?_) (fun _ _ ⟨_, _, _, z⟩ => z.elim) (fun _ _ ⟨_, _, _, z⟩ => z.elim)
  · rw [show F.out ts = .exc c from z] at q
    exact q G' H' E'.stp
  · rw [show F.out ts = .ret .none from z] at q
    exact q .non G' H' E'.stp .non
  · obtain ⟨z1, z2⟩ := z
    rw [z2] at q
    rcases rs with ⟨x, rfl⟩ | ⟨p, t, rfl, _⟩
    · exact q v' G' H' E'.pop.stp E'.headD
    · obtain ⟨G2, g2, E2⟩ := E'.freezeD (i := 0) rfl z1
      exact q v' G2 H' E2.pop.stp (Env.headD E2)
/-- a promise over trees is one over data -/
theorem spR_spD {P : Program} {w : World} {K : Frg} {mg : Str → Option Value} {base : Heap} {k : Nat} {F : PF} {F' : List D → Wl.Oc → Prop} (h : FnOk P w K mg base (L2N.CX P w) k f fd ps (spR K mg F)) (i : ∀ xs o, F' xs o → F.pre (xs.map .d) ∧ ∃ y, o = .ret y ∧ F.out (xs.map .d) = .ret y) : FnOk P w K mg base (L2N.CX P w) k f fd ps (Wl.spD K mg F') :=
  h.imp fun vs H Q E ⟨G, xs, o, e, tb, nt, d, hF, q⟩ => by
    obtain ⟨h1, y, rfl, h2⟩ := i xs o hF
    refine ⟨G, xs.map .d, [], e, tb, nt, .ofD d, h1, ?_⟩
    rw [h2]
    exact q
end Yl

end

section
open PySem PySem.Spec PyProof.Rows L2 Wl
/-! the tactic words -/
local macro_rules | `(tactic| walk_at "wl lk") => `(tactic| ((with_reducible (repeat (first | exact Lk.here | exact Mm.here | exact LkI.here | exact Pt.here | refine Lk.there ?_ | refine Mm.there ?_ | refine LkI.there ?_ | refine Pt.there ?_))); done))
local macro_rules | `(tactic| walk_at "wl op") => `(tactic| with_reducible (first | exact bin_add | exact bin_sub | refine bin_mul ?_ | refine bin_div ?_ | refine bin_mod ?_ | refine bin_pow ?_ | refine bin_cats ?_ | exact cmp_lt | exact cmp_le | exact cmp_gt | exact cmp_ge | exact cmp_eqI (by assumption) | exact cmp_neI (by assumption) | exact cmp_is | exact cmp_isnot | refine cmp_eq (by assumption) ?_ | refine cmp_ne (by assumption) ?_ | refine cmp_inL (by assumption) ?_ | refine cmp_inT (by assumption) ?_ | refine cmp_notinL (by assumption) ?_ | refine cmp_notinT (by assumption) ?_))
local macro_rules | `(tactic| walk_at "wl cal") => `(tactic| with_reducible (first | exact cal_lenL | exact cal_lenT | refine cal_lenS ?_ | exact cal_abs | exact cal_max2 (by assumption) | exact cal_min2 (by assumption) | exact cal_intB | exact cal_listL | exact cal_listT | exact cal_tupL))
local macro_rules | `(tactic| walk_at "wl") => `(tactic| (first | with_reducible exact ev_int | with_reducible exact ev_str | with_reducible exact ev_bool | with_reducible exact ev_none | with_reducible refine u_nm (by assumption) (by walk_at "wl lk") | with_reducible refine u_gi (by assumption) (by walk_at "wl lk") (by assumption) (by walk_at "wl lk") | with_reducible refine u_nmL (by assumption) (by walk_at "wl lk") | (with_reducible refine ev_binA ?_ ?_ ?_; (all_goals (try walk_at "wl"))) | (with_reducible refine et_cmpA ?_ ?_ ?_ ?_; (all_goals (try walk_at "wl"))) | (with_reducible refine ev_cmpA ?_ ?_ ?_ ?_; (all_goals (try walk_at "wl"))) | (with_reducible refine et_chainA ?_ ?_ ?_ ?_ ?_ ?_; (all_goals (try walk_at "wl"))) | (with_reducible refine ev_chainA ?_ ?_ ?_ ?_ ?_ ?_; (all_goals (try walk_at "wl"))) | (with_reducible refine ev_one ?_; walk_at "wl") | (with_reducible refine ev_and ?_ (fun _ => ?_); (all_goals (try walk_at "wl"))) | (with_reducible refine ev_or ?_ (fun _ => ?_); (all_goals (try walk_at "wl"))) | (with_reducible refine et_not ?_; walk_at "wl") | (with_reducible refine ev_not ?_; walk_at "wl") | (with_reducible refine ev_neg ?_; walk_at "wl") | (with_reducible refine ev_ifexp ?_ (fun _ => ?_) (fun _ => ?_); (all_goals (try walk_at "wl"))) | (with_reducible refine ev_tup ?_ ?_; (all_goals (try walk_at "wl"))) | (with_reducible refine ev_lst ?_ ?_; (all_goals (try walk_at "wl"))) | with_reducible exact ea_nil | (with_reducible refine ea_cons ?_ ?_ ?_; (all_goals (try walk_at "wl"))) | with_reducible exact eb_nil | (with_reducible refine eb_cons ?_ ?_ ?_; (all_goals (try walk_at "wl"))) | (with_reducible refine u_isi boot_int kit_int (by assumption) (by walk_at "wl lk") (by walk_at "wl lk") (by assumption) (by walk_at "wl lk") (by walk_at "wl lk") ?_ ?_ (he := ?_) (hpl := ?_); (all_goals (try walk_at "wl"))) | (with_reducible refine u_isi boot_bool kit_bool (by assumption) (by walk_at "wl lk") (by walk_at "wl lk") (by assumption) (by walk_at "wl lk") (by walk_at "wl lk") ?_ ?_ (he := ?_) (hpl := ?_); (all_goals (try walk_at "wl"))) | (with_reducible refine u_isi boot_str kit_str (by assumption) (by walk_at "wl lk") (by walk_at "wl lk") (by assumption) (by walk_at "wl lk") (by walk_at "wl lk") ?_ ?_ (he := ?_) (hpl := ?_); (all_goals (try walk_at "wl"))) | (with_reducible refine u_isi boot_tuple kit_tup (by assumption) (by walk_at "wl lk") (by walk_at "wl lk") (by assumption) (by walk_at "wl lk") (by walk_at "wl lk") ?_ ?_ (he := ?_) (hpl := ?_); (all_goals (try walk_at "wl"))) | (with_reducible refine u_isi boot_list kit_lst (by assumption) (by walk_at "wl lk") (by walk_at "wl lk") (by assumption) (by walk_at "wl lk") (by walk_at "wl lk") ?_ ?_ (he := ?_) (hpl := ?_); (all_goals (try walk_at "wl"))) | (with_reducible refine u_isi boot_dict kit_dct (by assumption) (by walk_at "wl lk") (by walk_at "wl lk") (by assumption) (by walk_at "wl lk") (by walk_at "wl lk") ?_ ?_ (he := ?_) (hpl := ?_); (all_goals (try walk_at "wl"))) | (with_reducible refine u_callB boot_len (by assumption) (by walk_at "wl lk") (by assumption) (by walk_at "wl lk") ?_ ?_ (he := ?_) (hpl := ?_); (all_goals (try walk_at "wl"))) | (with_reducible refine u_callB boot_abs (by assumption) (by walk_at "wl lk") (by assumption) (by walk_at "wl lk") ?_ ?_ (he := ?_) (hpl := ?_); (all_goals (try walk_at "wl"))) | (with_reducible refine u_callB boot_max (by assumption) (by walk_at "wl lk") (by assumption) (by walk_at "wl lk") ?_ ?_ (he := ?_) (hpl := ?_); (all_goals (try walk_at "wl"))) | (with_reducible refine u_callB boot_min (by assumption) (by walk_at "wl lk") (by assumption) (by walk_at "wl lk") ?_ ?_ (he := ?_) (hpl := ?_); (all_goals (try walk_at "wl"))) | (with_reducible refine u_callT boot_int (by assumption) (by walk_at "wl lk") (by assumption) (by walk_at "wl lk") ?_ ?_ (he := ?_) (hpl := ?_); (all_goals (try walk_at "wl"))) | (with_reducible refine u_callT boot_list (by assumption) (by walk_at "wl lk") (by assumption) (by walk_at "wl lk") ?_ ?_ (he := ?_) (hpl := ?_); (all_goals (try walk_at "wl"))) | (with_reducible refine u_callT boot_tuple (by assumption) (by walk_at "wl lk") (by assumption) (by walk_at "wl lk") ?_ ?_ (he := ?_) (hpl := ?_); (all_goals (try walk_at "wl"))) | (with_reducible refine u_callT boot_str (by assumption) (by walk_at "wl lk") (by assumption) (by walk_at "wl lk") ?_ ?_ (he := ?_) (hpl := ?_); (all_goals (try walk_at "wl"))) | (with_reducible refine u_call (by assumption) (by assumption) ?_ (by assumption) (by walk_at "wl lk") ?_ ?_ (he := ?_) (hpl := ?_); (all_goals (try walk_at "wl"))) | (with_reducible refine u_callX (by assumption) (by assumption) ?_ (by assumption) (by walk_at "wl lk") ?_ ?_ (he := ?_) (hpl := ?_); (all_goals (try walk_at "wl"))) | walk_at "wl op" | walk_at "wl cal" | (with_reducible refine EvP.t' ?_; walk_at "wl p") | (with_reducible refine EvD.w ?_; walk_at "wl") | (with_reducible refine et_val ?_ ?_; (all_goals (try walk_at "wl"))) | (with_reducible show behindInMarks _ _ = false; first | rfl | exact nomark _) | (with_reducible show lastMarks _ _ = false; with_unfolding_all rfl) | (with_reducible show List.length _ ≤ 1000; decide) | (with_reducible show _ = _; rfl) | (intro _; rfl) | (with_reducible show (_ : Nat) ≤ _; omega)))
local macro_rules | `(tactic| walk_at "wl p") => `(tactic| (first | (with_reducible refine ep_and ?_ (fun _ => ?_); (all_goals (first | walk_at "wl p" | (try walk_at "wl")))) | (with_reducible refine ep_or ?_ (fun _ => ?_); (all_goals (first | walk_at "wl p" | (try walk_at "wl")))) | (with_reducible refine ep_and1 ?_; (try walk_at "wl")) | (with_reducible refine ep_or1 ?_; (try walk_at "wl"))))
namespace K50
open PySem PySem.Spec PyProof.Rows L2 Wl
variable [Tb]
def top (i : Nat) : Stmt := PySem.Challenge.pw_wirelamps_k50_whole_seeking.main.body.getD i (.Pass ⟨0, 0, 0, 0⟩)
abbrev FnP (K : PySem.W.Frag) (x : Str) (st : Stmt) (f : Addr) (fd : FuncData) : Prop := FunD K x x (defArgs st) (defBody st) (defScope st) [] [] f fd
/-! ### what the defs tell -/
def cnt (t : D) (lo hi : Int) : Bool := match t with
  | .int i => decide (lo ≤ i) && decide (i ≤ hi)
  | _ => false
def F_cnt : List D → Oc → Prop := fun xs o => ∃ t lo hi, xs = [t, .int lo, .int hi] ∧ o = .ret (.bool (cnt t lo hi))
abbrev free : List Str := ["isinstance", "int", "bool", "len", "list", "tuple", "all", "set", "min", "max", "sorted", "sum", "range", "ValueError"]
abbrev gints : List (Str × Int) := [("MOST_LONG", 65535)]
section
variable {P : Program} {w : World} {K : PySem.W.Frag} {mg : Str → Option Value} {base : Heap}
theorem sc_is_count : FnScope ["thing", "low", "high"] ["thing", "low", "high"] (defScope (top 10)) := ⟨rfl, rfl, rfl, by decide +kernel, rfl, by decide +kernel, by decide +kernel⟩
theorem fg_cnt {f : Addr} {fd : FuncData} (F : FnP K "is_count" (top 10) f fd) (gm : mg "is_count" = some (.ref f)) (fr : FreeL mg free) : FG P w K mg base 1 "is_count" 3 (spD K mg F_cnt) := by
  refine fn_D2 (VL := ["thing", "low", "high"]) (GL := ["isinstance", "int", "bool"]) (SL := []) F sc_is_count (by kernel_rfl) gm (F.bindsN fun _ _ _ _ _ _ us hl => match us, hl with | [_, _, _], _ => rfl) (fun xs o ⟨t, lo, hi, h, _⟩ => by rw [h]; rfl) fun X hP hw hK hm hb hsc hc hr hu nm xs o hF => ?_
  subst hP hw hK hm hb
  obtain ⟨t, lo, hi, rfl, rfl⟩ := hF
  show Ss _ _ _ [.d t, .d (.int lo), .d (.int hi)]
  refine q_ret (x := .bool (cnt t lo hi)) ?_ ⟨_, rfl, rfl⟩
  cases t with
  | int i => exact EvD.is (x := .bool (true && (!false && (decide (lo ≤ i) && decide (i ≤ hi))))) (by refine (ev_and (EvD.w (u_isi boot_int kit_int nm .here (.there .here) fr .here (.there .here) (EvD.w (u_nm nm .here .here)) ?_)) fun hk => (ev_and (EvD.w (ev_not (EvD.w (u_isi boot_bool kit_bool nm .here (.there (.there .here)) fr .here (.there (.there .here)) (EvD.w (u_nm nm .here .here)) ?_)))) fun hk => (ev_one (ev_chainA (EvD.w (u_nm nm (.there .here) (.there .here))) (EvD.w (u_nm nm .here .here)) (EvD.w (u_nm nm (.there (.there .here)) (.there (.there .here)))) cmp_le cmp_le (by with_unfolding_all rfl))))) <;> rfl) (by simp [cnt])
  | bool b => exact EvD.is (x := .bool (true && (!true && false))) (by refine ev_and (EvD.w (u_isi boot_int kit_int nm .here (.there .here) fr .here (.there .here) (EvD.w (u_nm nm .here .here)) ?_)) fun _ => ev_and (EvD.w (ev_not (EvD.w (u_isi boot_bool kit_bool nm .here (.there (.there .here)) fr .here (.there (.there .here)) (EvD.w (u_nm nm .here .here)) ?_)))) fun h => (by cases h) <;> rfl) rfl
  | _ => exact EvD.is (x := .bool (false && false)) (by refine ev_and (EvD.w (u_isi boot_int kit_int nm .here (.there .here) fr .here (.there .here) (EvD.w (u_nm nm .here .here)) ?_)) fun h => (by cases h); rfl) rfl
theorem cnt_int {x : D} {lo hi : Int} (h : cnt x lo hi = true) : ∃ i, x = .int i ∧ lo ≤ i ∧ i ≤ hi := by
  cases x <;> simp only [cnt] at h <;> first | cases h | skip
  simp only [Bool.and_eq_true, decide_eq_true_eq] at h
  exact ⟨_, rfl, h⟩
end
end K50

end

section
open PySem PySem.Spec PyProof.Rows L2 Wl
/-! the tactic words -/
local macro_rules | `(tactic| walk_at "wl lk") => `(tactic| ((with_reducible (repeat (first | exact Lk.here | exact Mm.here | exact LkI.here | exact Pt.here | refine Lk.there ?_ | refine Mm.there ?_ | refine LkI.there ?_ | refine Pt.there ?_))); done))
local macro_rules | `(tactic| walk_at "wl op") => `(tactic| with_reducible (first | exact bin_add | exact bin_sub | refine bin_mul ?_ | refine bin_div ?_ | refine bin_mod ?_ | refine bin_pow ?_ | refine bin_cats ?_ | exact cmp_lt | exact cmp_le | exact cmp_gt | exact cmp_ge | exact cmp_eqI (by assumption) | exact cmp_neI (by assumption) | exact cmp_is | exact cmp_isnot | refine cmp_eq (by assumption) ?_ | refine cmp_ne (by assumption) ?_ | refine cmp_inL (by assumption) ?_ | refine cmp_inT (by assumption) ?_ | refine cmp_notinL (by assumption) ?_ | refine cmp_notinT (by assumption) ?_))
local macro_rules | `(tactic| walk_at "wl cal") => `(tactic| with_reducible (first | exact cal_lenL | exact cal_lenT | refine cal_lenS ?_ | exact cal_abs | exact cal_max2 (by assumption) | exact cal_min2 (by assumption) | exact cal_intB | exact cal_listL | exact cal_listT | exact cal_tupL))
local macro_rules | `(tactic| walk_at "wl") => `(tactic| (first | with_reducible exact ev_int | with_reducible exact ev_str | with_reducible exact ev_bool | with_reducible exact ev_none | with_reducible refine u_nm (by assumption) (by walk_at "wl lk") | with_reducible refine u_gi (by assumption) (by walk_at "wl lk") (by assumption) (by walk_at "wl lk") | with_reducible refine u_nmL (by assumption) (by walk_at "wl lk") | (with_reducible refine ev_binA ?_ ?_ ?_; (all_goals (try walk_at "wl"))) | (with_reducible refine et_cmpA ?_ ?_ ?_ ?_; (all_goals (try walk_at "wl"))) | (with_reducible refine ev_cmpA ?_ ?_ ?_ ?_; (all_goals (try walk_at "wl"))) | (with_reducible refine et_chainA ?_ ?_ ?_ ?_ ?_ ?_; (all_goals (try walk_at "wl"))) | (with_reducible refine ev_chainA ?_ ?_ ?_ ?_ ?_ ?_; (all_goals (try walk_at "wl"))) | (with_reducible refine ev_one ?_; walk_at "wl") | (with_reducible refine ev_and ?_ (fun _ => ?_); (all_goals (try walk_at "wl"))) | (with_reducible refine ev_or ?_ (fun _ => ?_); (all_goals (try walk_at "wl"))) | (with_reducible refine et_not ?_; walk_at "wl") | (with_reducible refine ev_not ?_; walk_at "wl") | (with_reducible refine ev_neg ?_; walk_at "wl") | (with_reducible refine ev_ifexp ?_ (fun _ => ?_) (fun _ => ?_); (all_goals (try walk_at "wl"))) | (with_reducible refine ev_tup ?_ ?_; (all_goals (try walk_at "wl"))) | (with_reducible refine ev_lst ?_ ?_; (all_goals (try walk_at "wl"))) | with_reducible exact ea_nil | (with_reducible refine ea_cons ?_ ?_ ?_; (all_goals (try walk_at "wl"))) | with_reducible exact eb_nil | (with_reducible refine eb_cons ?_ ?_ ?_; (all_goals (try walk_at "wl"))) | (with_reducible refine u_isi boot_int kit_int (by assumption) (by walk_at "wl lk") (by walk_at "wl lk") (by assumption) (by walk_at "wl lk") (by walk_at "wl lk") ?_ ?_ (he := ?_) (hpl := ?_); (all_goals (try walk_at "wl"))) | (with_reducible refine u_isi boot_bool kit_bool (by assumption) (by walk_at "wl lk") (by walk_at "wl lk") (by assumption) (by walk_at "wl lk") (by walk_at "wl lk") ?_ ?_ (he := ?_) (hpl := ?_); (all_goals (try walk_at "wl"))) | (with_reducible refine u_isi boot_str kit_str (by assumption) (by walk_at "wl lk") (by walk_at "wl lk") (by assumption) (by walk_at "wl lk") (by walk_at "wl lk") ?_ ?_ (he := ?_) (hpl := ?_); (all_goals (try walk_at "wl"))) | (with_reducible refine u_isi boot_tuple kit_tup (by assumption) (by walk_at "wl lk") (by walk_at "wl lk") (by assumption) (by walk_at "wl lk") (by walk_at "wl lk") ?_ ?_ (he := ?_) (hpl := ?_); (all_goals (try walk_at "wl"))) | (with_reducible refine u_isi boot_list kit_lst (by assumption) (by walk_at "wl lk") (by walk_at "wl lk") (by assumption) (by walk_at "wl lk") (by walk_at "wl lk") ?_ ?_ (he := ?_) (hpl := ?_); (all_goals (try walk_at "wl"))) | (with_reducible refine u_isi boot_dict kit_dct (by assumption) (by walk_at "wl lk") (by walk_at "wl lk") (by assumption) (by walk_at "wl lk") (by walk_at "wl lk") ?_ ?_ (he := ?_) (hpl := ?_); (all_goals (try walk_at "wl"))) | (with_reducible refine u_callB boot_len (by assumption) (by walk_at "wl lk") (by assumption) (by walk_at "wl lk") ?_ ?_ (he := ?_) (hpl := ?_); (all_goals (try walk_at "wl"))) | (with_reducible refine u_callB boot_abs (by assumption) (by walk_at "wl lk") (by assumption) (by walk_at "wl lk") ?_ ?_ (he := ?_) (hpl := ?_); (all_goals (try walk_at "wl"))) | (with_reducible refine u_callB boot_max (by assumption) (by walk_at "wl lk") (by assumption) (by walk_at "wl lk") ?_ ?_ (he := ?_) (hpl := ?_); (all_goals (try walk_at "wl"))) | (with_reducible refine u_callB boot_min (by assumption) (by walk_at "wl lk") (by assumption) (by walk_at "wl lk") ?_ ?_ (he := ?_) (hpl := ?_); (all_goals (try walk_at "wl"))) | (with_reducible refine u_callT boot_int (by assumption) (by walk_at "wl lk") (by assumption) (by walk_at "wl lk") ?_ ?_ (he := ?_) (hpl := ?_); (all_goals (try walk_at "wl"))) | (with_reducible refine u_callT boot_list (by assumption) (by walk_at "wl lk") (by assumption) (by walk_at "wl lk") ?_ ?_ (he := ?_) (hpl := ?_); (all_goals (try walk_at "wl"))) | (with_reducible refine u_callT boot_tuple (by assumption) (by walk_at "wl lk") (by assumption) (by walk_at "wl lk") ?_ ?_ (he := ?_) (hpl := ?_); (all_goals (try walk_at "wl"))) | (with_reducible refine u_callT boot_str (by assumption) (by walk_at "wl lk") (by assumption) (by walk_at "wl lk") ?_ ?_ (he := ?_) (hpl := ?_); (all_goals (try walk_at "wl"))) | (with_reducible refine u_call (by assumption) (by assumption) ?_ (by assumption) (by walk_at "wl lk") ?_ ?_ (he := ?_) (hpl := ?_); (all_goals (try walk_at "wl"))) | (with_reducible refine u_callX (by assumption) (by assumption) ?_ (by assumption) (by walk_at "wl lk") ?_ ?_ (he := ?_) (hpl := ?_); (all_goals (try walk_at "wl"))) | walk_at "wl op" | walk_at "wl cal" | (with_reducible refine EvP.t' ?_; walk_at "wl p") | (with_reducible refine EvD.w ?_; walk_at "wl") | (with_reducible refine et_val ?_ ?_; (all_goals (try walk_at "wl"))) | (with_reducible show behindInMarks _ _ = false; first | rfl | exact nomark _) | (with_reducible show lastMarks _ _ = false; with_unfolding_all rfl) | (with_reducible show List.length _ ≤ 1000; decide) | (with_reducible show _ = _; rfl) | (intro _; rfl) | (with_reducible show (_ : Nat) ≤ _; omega)))
local macro_rules | `(tactic| walk_at "wl p") => `(tactic| (first | (with_reducible refine ep_and ?_ (fun _ => ?_); (all_goals (first | walk_at "wl p" | (try walk_at "wl")))) | (with_reducible refine ep_or ?_ (fun _ => ?_); (all_goals (first | walk_at "wl p" | (try walk_at "wl")))) | (with_reducible refine ep_and1 ?_; (try walk_at "wl")) | (with_reducible refine ep_or1 ?_; (try walk_at "wl"))))
namespace K50
open PySem PySem.Spec PyProof.Rows L2 Wl
variable [Tb]
section
variable {P : Program} {w : World} {K : PySem.W.Frag} {mg : Str → Option Value} {base : Heap}
/-! the law's cells -/
def cellv (ns : List Int) (k : Int) : Int := if ns = [] then k * 7919 else (ns[(k % (ns.length : Int)).toNat]?.getD 0) + k / (ns.length : Int) * 104729
def F_cell : List D → Oc → Prop := fun xs o => ∃ (ns : List Int) (k : Int), xs = [.list (iL ns), .int k] ∧ ns.length ≤ 63 ∧ (0 ≤ k ∧ k ≤ 63) ∧ o = .ret (.int (cellv ns k))
theorem sc__law_cell : FnScope ["_law_script", "_law_k"] ["_law_script", "_law_k"] (defScope (top 20)) := ⟨rfl, rfl, rfl, by decide +kernel, rfl, by decide +kernel, by decide +kernel⟩
theorem fg_cell {f : Addr} {fd : FuncData} (F : FnP K "_law_cell" (top 20) f fd) (gm : mg "_law_cell" = some (.ref f)) (fr : FreeL mg free) : FG P w K mg base 1 "_law_cell" 2 (spD K mg F_cell) := by
  refine fn_D2 (VL := ["_law_script", "_law_k"]) (GL := ["len"]) (SL := []) F sc__law_cell (by kernel_rfl) gm (F.bindsN fun _ _ _ _ _ _ us hl => match us, hl with | [_, _], _ => rfl) (fun xs o ⟨a, b, h, _⟩ => by rw [h]; rfl) fun X hP hw hK hm hb hsc hc hr hu nm xs o hF => ?_
  subst hP hw hK hm hb
  obtain ⟨ns, k, rfl, hl, hk, rfl⟩ := hF
  show Ss _ _ _ [.d (.list (iL ns)), .d (.int k)]
  refine q_if (t := decide (ns = [])) (EvT.is (et_cmpA (EvD.w (u_nm nm .here .here)) (EvD.w (ev_lst ea_nil)) (cmp_eqL (l := ns) (m := []) hu) (nomark _)) rfl) (fun h => ?_) fun h => ss_nil ?_
  · refine q_ret (ev_binA (EvD.w (u_nm nm (.there .here) (.there .here))) (EvD.w ev_int) (bin_mulA ?_)) ?_
    · exact cmul_r (by decide)
    · refine ⟨_, rfl, ?_⟩
      unfold cellv
      rw [if_pos (of_decide_eq_true h)]
  · have h := of_decide_eq_false h
    have l0 : 0 < (ns.length : Int) := by
      cases ns with
      | nil => exact absurd rfl h
      | cons a l => simp only [List.length_cons]; omega
    have z : ((k % (ns.length : Int)).toNat : Nat) < ns.length := by
      have h1 := Int.emod_nonneg k (Int.ne_of_gt l0)
      have h2 := Int.emod_lt_of_pos k l0
      omega
    have hz : atI (iL ns) (k % ((iL ns).length : Int)) = some (.int (ns[(k % (ns.length : Int)).toNat]?.getD 0)) := by
      obtain ⟨j, hj⟩ := Int.eq_ofNat_of_zero_le (Int.emod_nonneg k (Int.ne_of_gt l0))
      rw [show (iL ns).length = ns.length from List.length_map _, hj, Int.toNat_natCast, Wl.atI_nat, List.getElem?_map]
      rw [hj, Int.toNat_natCast] at z
      rw [List.getElem?_eq_getElem z]
      rfl
    refine q_ret (x := .int (cellv ns k)) (EvD.is (ev_binA (EvD.w (ev_ixL (EvD.w (u_nm nm .here .here)) (EvD.w (ev_binA (EvD.w (u_nm nm (.there .here) (.there .here))) (EvD.w (u_callB boot_len nm .here fr (.there (.there (.there .here))) (eb_cons (EvD.w (u_nm nm .here .here)) eb_nil) cal_lenL)) (bin_mod ?_))) hz)) (EvD.w (ev_binA (EvD.w (ev_binA (EvD.w (u_nm nm (.there .here) (.there .here))) (EvD.w (u_callB boot_len nm .here fr (.there (.there (.there .here))) (eb_cons (EvD.w (u_nm nm .here .here)) eb_nil) cal_lenL)) (bin_div ?_))) (EvD.w ev_int) (bin_mulA ?_))) bin_add) ?_) ⟨_, rfl, rfl⟩
    · rw [show (iL ns).length = ns.length from List.length_map _]; exact l0
    · rw [show (iL ns).length = ns.length from List.length_map _]; exact cdiv_s l0 (by omega)
    · exact cmul_r (by decide)
    · rw [show (iL ns).length = ns.length from List.length_map _]
      unfold cellv
      rw [if_neg h]
def drn (c k : Int) : Int :=
  let m1 := (c * 6364136223846793005 + (k + 1) * 1442695040888963407) % 340282366920938463463374607431768211507
  let m2 := m1 * m1 % 340282366920938463463374607431768211297
  let m3 := (m2 % 18446744073709551557 + 1) * (m2 / 18446744073709551557 + 1) * m2
  m3 % 340282366920938463463374607431768211507
theorem drn_pos (c k : Int) : 0 ≤ drn c k ∧ drn c k < 2 ^ 129 := by
  unfold drn
  exact ⟨Int.emod_nonneg _ (by decide), Int.lt_trans (Int.emod_lt_of_pos _ (by decide)) (by decide)⟩
def F_drn : List D → Oc → Prop := fun xs o => ∃ c k : Int, xs = [.int c, .int k] ∧ (0 ≤ k ∧ k ≤ 1000) ∧ o = .ret (.int (drn c k))
theorem sc__law_drawn : FnScope ["_law_cell_here", "_law_k", "_law_more"] ["_law_cell_here", "_law_k"] (defScope (top 21)) := ⟨rfl, rfl, rfl, by decide +kernel, rfl, by decide +kernel, by decide +kernel⟩
theorem fg_drn {f : Addr} {fd : FuncData} (F : FnP K "_law_drawn" (top 21) f fd) (gm : mg "_law_drawn" = some (.ref f)) : FG P w K mg base 1 "_law_drawn" 2 (spD K mg F_drn) := by
  refine fn_D2 (VL := ["_law_cell_here", "_law_k", "_law_more"]) (GL := []) (SL := ["_law_more"]) F sc__law_drawn (by kernel_rfl) gm (F.bindsN fun _ _ _ _ _ _ us hl => match us, hl with | [_, _], _ => rfl) (fun xs o ⟨a, b, h, _⟩ => by rw [h]; rfl) fun X hP hw hK hm hb hsc hc hr hu nm xs o hF => ?_
  subst hP hw hK hm hb
  obtain ⟨c, k, rfl, hk, rfl⟩ := hF
  show Ss _ _ _ [.d (.int c), .d (.int k), .un]
  refine q_set nm .here (ev_binA (EvD.w (ev_binA (EvD.w (ev_binA (EvD.w (u_nm nm .here .here)) (EvD.w ev_int) (bin_mulA ?_))) (EvD.w (ev_binA (EvD.w (ev_binA (EvD.w (u_nm nm (.there .here) (.there .here))) (EvD.w ev_int) bin_add)) (EvD.w ev_int) (bin_mulA ?_))) bin_add)) (EvD.w ev_int) (bin_mod ?_)) (.there (.there .here)) ?_
  · exact cmul_r (by decide)
  · exact cmul_r (by decide)
  · decide
  generalize hm1 : (c * 6364136223846793005 + (k + 1) * 1442695040888963407) % 340282366920938463463374607431768211507 = m1
  have b1 : 0 ≤ m1 ∧ m1 < 340282366920938463463374607431768211507 := by rw [← hm1]; exact ⟨Int.emod_nonneg _ (by decide), Int.emod_lt_of_pos _ (by decide)⟩
  refine q_set nm .here (ev_binA (EvD.w (ev_binA (EvD.w (u_nm nm (.there (.there .here)) (.there (.there .here)))) (EvD.w (u_nm nm (.there (.there .here)) (.there (.there .here)))) (bin_mulA ?_))) (EvD.w ev_int) (bin_mod ?_)) (.there (.there .here)) ?_
  · exact .inr (wide_mul (a := 129) (b := 129) (by omega) (by omega) (by decide) (by decide) (by decide))
  · decide
  generalize hm2 : m1 * m1 % 340282366920938463463374607431768211297 = m2
  have b2 : 0 ≤ m2 ∧ m2 < 340282366920938463463374607431768211297 := by rw [← hm2]; exact ⟨Int.emod_nonneg _ (by decide), Int.emod_lt_of_pos _ (by decide)⟩
  have b3 : 0 ≤ m2 % 18446744073709551557 ∧ m2 % 18446744073709551557 < 18446744073709551557 := ⟨Int.emod_nonneg _ (by decide), Int.emod_lt_of_pos _ (by decide)⟩
  have b4 : 0 ≤ m2 / 18446744073709551557 ∧ m2 / 18446744073709551557 < 2 ^ 70 := by omega
  refine q_set nm .here (ev_binA (EvD.w (ev_binA (EvD.w (ev_binA (EvD.w (ev_binA (EvD.w (u_nm nm (.there (.there .here)) (.there (.there .here)))) (EvD.w ev_int) (bin_mod ?_))) (EvD.w ev_int) bin_add)) (EvD.w (ev_binA (EvD.w (ev_binA (EvD.w (u_nm nm (.there (.there .here)) (.there (.there .here)))) (EvD.w ev_int) (bin_div ?_))) (EvD.w ev_int) bin_add)) (bin_mulA ?_))) (EvD.w (u_nm nm (.there (.there .here)) (.there (.there .here)))) (bin_mulA ?_)) (.there (.there .here)) ?_
  · decide
  · exact cdiv_s (by decide) (by decide)
  · exact .inr (wide_mul (a := 70) (b := 71) (by omega) (by omega) (by decide) (by decide) (by decide))
  · exact .inr (wide_mul (a := 141) (b := 129) (wide_lt (a := 70) (b := 71) (by omega) (by omega)) (by omega) (by decide) (by decide) (by decide))
  refine q_ret (ev_binA (EvD.w (u_nm nm (.there (.there .here)) (.there (.there .here)))) (EvD.w ev_int) (bin_mod ?_)) ?_
  · decide
  · refine ⟨_, rfl, ?_⟩
    unfold drn
    simp only [hm1, hm2]
/-! the class of a refusal -/
def six : List Str := ["BadHouse", "BadWord", "BadNumber", "BadWish", "NoWay", "BadText"]
structure XF (K : PySem.W.Frag) (mg : Str → Option Value) (n : Str) : Prop where
  e : ExcC K (clsAt mg n)
  k : ∀ m ∈ six, PySem.W.kitOne K (.ref (clsAt mg n)) (.ref (clsAt mg m)) = some (decide (n = m))
  v : PySem.W.kitOne K (.ref (clsAt mg n)) (.type "ValueError") = some true
def flg (n : Str) : List Bool := six.map fun m => decide (n = m)
theorem flg_sum {n : Str} (h : n ∈ six) : ((flg n).map fun b => if b = true then (1 : Int) else 0).sum = 1 := by
  simp only [six, List.mem_cons, List.not_mem_nil, or_false] at h
  rcases h with rfl | rfl | rfl | rfl | rfl | rfl <;> decide
theorem flg_at {n : Str} (h : n ∈ six) : ∃ j : Nat, (flg n)[j]? = some true ∧ (∀ m, m < j → (flg n)[m]? = some false) ∧ six[j]? = some n := by
  simp only [six, List.mem_cons, List.not_mem_nil, or_false] at h
  rcases h with rfl | rfl | rfl | rfl | rfl | rfl
  · exact ⟨0, by decide, by decide, rfl⟩
  · exact ⟨1, by decide, by decide, rfl⟩
  · exact ⟨2, by decide, by decide, rfl⟩
  · exact ⟨3, by decide, by decide, rfl⟩
  · exact ⟨4, by decide, by decide, rfl⟩
  · exact ⟨5, by decide, by decide, rfl⟩
theorem sc__law_class : FnScope ["_law_e", "_law_flags", "_law_flag"] ["_law_e"] (defScope (top 22)) := ⟨rfl, rfl, rfl, by decide +kernel, rfl, by decide +kernel, by decide +kernel⟩
theorem fz_class {f : Addr} {fd : FuncData} (F : FnP K "_law_class" (top 22) f fd) (fr : FreeL mg free) (cl : ∀ n ∈ six, mg n = some (.ref (clsAt mg n))) : FnZ P w K mg base 1 f fd "_law_e" id (fun n => n ∈ six ∧ XF K mg n) := by
  refine fn_Z2 (VL := ["_law_e", "_law_flags"]) (GL := ["isinstance", "BadHouse", "BadWord", "BadNumber", "BadWish", "NoWay", "BadText", "sum", "ValueError"]) (SL := ["_law_flags"]) F sc__law_class (by kernel_rfl) fun X p n hP hw hK hm hb hsc hp hot hf hr hu nm hn hz => ?_
  subst hP hw hK hm hb
  obtain ⟨hn, xf⟩ := hn
  show Ss _ _ _ [.r (xR p.1), .un, .un]
  obtain ⟨j, j1, j2, j3⟩ := flg_at hn
  refine q_set (x := .list ((flg n).take 4 |>.map .bool)) nm .here (ev_lst (ea_cons (u_isX hp xf.e hz hf nm .here .here .here fr .here (.there .here) (cl _ (by decide)) (xf.k _ (by decide))) (ea_cons (u_isX hp xf.e hz hf nm .here .here .here fr .here (.there (.there .here)) (cl _ (by decide)) (xf.k _ (by decide))) (ea_cons (u_isX hp xf.e hz hf nm .here .here .here fr .here (.there (.there (.there .here))) (cl _ (by decide)) (xf.k _ (by decide))) (ea_cons (u_isX hp xf.e hz hf nm .here .here .here fr .here (.there (.there (.there (.there .here)))) (cl _ (by decide)) (xf.k _ (by decide))) ea_nil))))) (.there .here) ?_
  refine q_set (x := .list ((flg n).map .bool)) nm .here (ev_catL (ys := (flg n).drop 4 |>.map .bool) (EvD.w (u_nm nm (.there .here) (.there .here))) (EvD.w (ev_lst (ea_cons (u_isX hp xf.e hz hf nm .here .here .here fr .here (.there (.there (.there (.there (.there .here))))) (cl _ (by decide)) (xf.k _ (by decide))) (ea_cons (u_isX hp xf.e hz hf nm .here .here .here fr .here (.there (.there (.there (.there (.there (.there .here)))))) (cl _ (by decide)) (xf.k _ (by decide))) ea_nil)))) (by simp only [List.length_map, List.length_take, List.length_drop, flg]; decide)) (.there .here) ?_
  refine q_ifF (t := !decide ((1 : Int) = 1) || !true) (EvP.t' (ep_or (et_cmpA (EvD.w (x := .int 1) (EvD.is (u_callB boot_sum nm (.there (.there (.there (.there (.there (.there (.there .here))))))) fr (.there (.there (.there (.there (.there (.there (.there (.there (.there (.there (.there .here))))))))))) (eb_cons (EvD.w (EvD.is (y := .list (((flg n).map fun b => if b = true then (1 : Int) else 0).map .int)) (u_lcH (α := Bool) (ys := flg n) (enc := .bool) (own := [("_law_flag", 2)]) (VB := ["_law_flag"]) (GB := ["int"]) (p := fun _ => true) (f := fun b => .int (if b = true then 1 else 0)) hot nm hsc (u_nm nm (.there .here) (.there .here)) (by kernel_rfl) ?_ fun b hb => ⟨[.r (xR p.1), .d (.list ((flg n).map .bool)), .d (.bool b)], fun s H0 C cl fp nb => ⟨?_, rfl, fun _ => ?_⟩⟩) ?_)) eb_nil) (cal_sumH hot)) ?_)) (EvD.w ev_int) (cmp_neI hu) (nomark _)) fun _ => ep_or1 (et_not (et_val (EvD.w (u_isXB hp xf.e hz hf nm .here .here .here fr .here (.there (.there (.there (.there (.there (.there (.there (.there .here)))))))) (.there (.there (.there (.there (.there (.there (.there (.there (.there (.there (.there (.there (.there .here))))))))))))) boot_ValueError xf.v)))))) (by decide) ?_
  · exact Nat.le_trans (show (flg n).length ≤ 6 from Nat.le_of_eq (List.length_map _)) (by decide)
  · refine (u_tg nb .here (.there (.there .here)) ?_)
    exact tgm (by decide)
  · exact (u_callT boot_int nb .here fr (.there .here) (eb_cons (EvD.w (u_nm nb .here (.there (.there .here)))) eb_nil) cal_intB)
  · rw [List.filter_eq_self.mpr fun _ _ => rfl, List.map_map]; rfl
  · rw [flg_sum hn]
  refine q_ret (x := .str n) (ev_ixL (EvD.w (ev_lst (ea_cons ev_str (ea_cons ev_str (ea_cons ev_str (ea_cons ev_str (ea_cons ev_str (ea_cons ev_str ea_nil)))))))) (EvD.w (ev_indexB (bs := flg n) (EvD.w (u_nm nm (.there .here) (.there .here))) ev_bool j1 j2)) ?_) ⟨_, rfl, rfl⟩
  rw [Wl.atI_nat]
  exact (List.getElem?_map (f := PyData.str) (l := six) (i := j)).trans (by rw [j3]; rfl)
end
end K50

end

section
namespace VK50
open PySem L2 Yl
/-! ### is_count -/
def cnt (t : D) (lo hi : Int) : Bool := match t with
  | .int i => decide (lo ≤ i) && decide (i ≤ hi)
  | _ => false
def F_cnt : PF := ⟨fun ts => ∃ x lo hi, ts = [.d x, .d (.int lo), .d (.int hi)], fun ts => .ret (.bool (cnt (ts.getD 0 (.h 0)).dat (ts.getD 1 (.h 0)).i (ts.getD 2 (.h 0)).i))⟩
abbrev N_is_count : List Str := ["thing", "low", "high"]
abbrev P_is_count : List Str := ["thing", "low", "high"]
def B_is_count : Sts := (.cons (.ret (.p (.an (.isi .int (.v 0)) (.an (.no (.isi .bool (.v 0))) (.on (.ch .le .le (.v 1) (.v 0) (.v 2))))))) .nil)
theorem w_is_count : ∀ ts, F_cnt.pre ts → wps B_is_count (padS N_is_count (ts.map .w)) (knR (F_cnt.out ts)) := by
  rintro _ ⟨x, lo, hi, rfl⟩
  cases x <;> simp [B_is_count, wps, wp, wpF, wpFs, sets, deadS, atW, loc, Yl.get, Yl.put, resW, toW, slT, datW, isBl, fok, foks, fval, fvals, val, vals, valo, items, ok, oks, oko, okr, rd, Yl.bind, binds, bindOk, bindD, T.dat, T.dats, T.isI, T.i, T.b, T.isB, T.sd, T.one, T.kids, T.isL, T.isT, T.isS, T.isN, T.isK, T.s, T.isDat, T.areDat, allSd, binV, binOk, cmpV, cmpOk, Yl.inV, inOk, eqD, ixOk, ixA, slOk, slV, isV, isOk, biV, biOk, srcSd, padS, Oc, isOwnL, tgI, PyData.depth, PyData.depthAll, Ou.isR, Ou.x, Function.comp_def, Wl.isInt, Wl.isBool, Wl.isStr, -List.mem_map, List.forall_mem_map, List.filter_map, F_cnt, cnt, knR]
/-! ### need_longs -/
def rng (n : Int) : Prop := 0 ≤ n ∧ n ≤ 65535
def goodL : D → Bool
  | .list l => l.all (fun y => cnt y 0 65535) && decide (Wl.dst ((intsD l).getD []) = l.length)
  | _ => false
theorem cnt_int {x : D} {lo hi : Int} (h : cnt x lo hi = true) : ∃ i, x = .int i ∧ lo ≤ i ∧ i ≤ hi := by
  cases x <;> simp only [cnt] at h <;> first | cases h | skip
  simp only [Bool.and_eq_true, decide_eq_true_eq] at h
  exact ⟨_, rfl, h⟩
theorem cnt_ints {lo hi : Int} : ∀ {l : List D}, (∀ x, x ∈ l → cnt x lo hi = true) → ∃ ns : List Int, l = ns.map .int ∧ ∀ n, n ∈ ns → lo ≤ n ∧ n ≤ hi
  | [], _ => ⟨[], rfl, fun _ h => by cases h⟩
  | x :: l, h => by
    obtain ⟨i, rfl, hi⟩ := cnt_int (h x List.mem_cons_self)
    obtain ⟨ns, rfl, hn⟩ := cnt_ints fun y hy => h y (List.mem_cons_of_mem _ hy)
    exact ⟨i :: ns, rfl, fun n hm => by rcases List.mem_cons.mp hm with rfl | q; exact hi; exact hn n q⟩
def F_need : PF := ⟨fun ts => ∃ x, ts = [.d x] ∧ ∀ l, x = .list l → l.length ≤ 60, fun ts => if goodL (ts.getD 0 (.h 0)).dat = true then .ret .none else .exc "BadHouse"⟩
abbrev N_need_longs : List Str := ["longs", "one"]
abbrev P_need_longs : List Str := ["longs"]
def B_need_longs : Sts := (.cons (.ite (.p (.or (.no (.isi .list (.v 0))) (.on (.no (.bi .all (.cons (.lc (.n 1) (.it (.v 0)) (.c (.bool true)) (.call F_cnt "is_count" (.cons (.v 1) (.cons (.c (.int 0)) (.cons (.g "MOST_LONG" (.int 65535)) .nil))))) .nil)))))) (.cons (.rais "BadHouse") .nil) .nil) (.cons (.ite (.p (.cmp .ne (.bi .lset (.cons (.v 0) .nil)) (.bi .len (.cons (.v 0) .nil)))) (.cons (.rais "BadHouse") .nil) .nil) .nil))
theorem w_need_longs : ∀ ts, F_need.pre ts → wps B_need_longs (padS N_need_longs (ts.map .w)) (knR (F_need.out ts)) := by
  rintro _ ⟨x, rfl, hl⟩
  cases x with
  | list l =>
    have hl := hl l rfl
    simp [B_need_longs, wps, wp, wpF, wpFs, sets, deadS, atW, loc, Yl.get, Yl.put, resW, toW, slT, datW, isBl, fok, foks, fval, fvals, val, vals, valo, items, ok, oks, oko, okr, rd, Yl.bind, binds, bindOk, bindD, T.dat, T.dats, T.isI, T.i, T.b, T.isB, T.sd, T.one, T.kids, T.isL, T.isT, T.isS, T.isN, T.isK, T.s, T.isDat, T.areDat, allSd, binV, binOk, cmpV, cmpOk, Yl.inV, inOk, eqD, ixOk, ixA, slOk, slV, isV, isOk, biV, biOk, srcSd, padS, Oc, isOwnL, tgI, PyData.depth, PyData.depthAll, Ou.isR, Ou.x, Function.comp_def, Wl.isInt, Wl.isBool, Wl.isStr, -List.mem_map, List.forall_mem_map, List.filter_map, F_cnt, F_need, goodL, knR]
    refine ⟨by omega, fun x hx hc h => absurd (h x hx) (by rw [hc]; simp), fun h => ⟨?_, fun z _ => by omega, fun z => ⟨h, by omega⟩⟩⟩
    obtain ⟨ns, rfl, _⟩ := cnt_ints h
    exact ⟨ns, ints_i ns, by rw [List.length_map] at hl; omega⟩
  | _ => simp [B_need_longs, wps, wp, wpF, wpFs, sets, deadS, atW, loc, Yl.get, Yl.put, resW, toW, slT, datW, isBl, fok, foks, fval, fvals, val, vals, valo, items, ok, oks, oko, okr, rd, Yl.bind, binds, bindOk, bindD, T.dat, T.dats, T.isI, T.i, T.b, T.isB, T.sd, T.one, T.kids, T.isL, T.isT, T.isS, T.isN, T.isK, T.s, T.isDat, T.areDat, allSd, binV, binOk, cmpV, cmpOk, Yl.inV, inOk, eqD, ixOk, ixA, slOk, slV, isV, isOk, biV, biOk, srcSd, padS, Oc, isOwnL, tgI, PyData.depth, PyData.depthAll, Ou.isR, Ou.x, Function.comp_def, Wl.isInt, Wl.isBool, Wl.isStr, -List.mem_map, List.forall_mem_map, List.filter_map, F_cnt, F_need, goodL, knR]
end VK50

end

section
namespace VK50
open PySem L2 Yl
variable [Wl.Tb]
def pr (q : Int × Bool) : D := .tuple [.int q.1, .bool q.2]
def rowD (r : List (Int × Bool)) : D := .list (r.map pr)
def rowsD (rs : List (List (Int × Bool))) : D := .list (rs.map rowD)
/-! ### halved -/
def hv (ns : List Int) : Nat → Int → Int → List (Int × Bool)
  | 0, _, _ => []
  | f + 1, lo, hi => if ns ≠ [] ∧ lo < hi then ((lo + hi) / 2, decide (Wl.minL ns ≤ (lo + hi) / 2)) :: (if Wl.minL ns ≤ (lo + hi) / 2 then hv ns f lo ((lo + hi) / 2) else hv ns f ((lo + hi) / 2 + 1) hi) else []
def hvd (ns : List Int) (lo : Int) : List (Int × Bool) := (65535, !decide (ns = [])) :: hv ns 17 lo 65535
theorem hv_len (ns : List Int) : ∀ (f : Nat) (lo hi : Int), (hv ns f lo hi).length ≤ f
  | 0, _, _ => Nat.le_refl _
  | f + 1, lo, hi => by
    unfold hv
    split
    · split
      · rw [List.length_cons]; have := hv_len ns f lo ((lo + hi) / 2); omega
      · rw [List.length_cons]; have := hv_len ns f ((lo + hi) / 2 + 1) hi; omega
    · exact Nat.zero_le _
theorem hv_end {ns : List Int} {lo hi : Int} (h : ¬ (ns ≠ [] ∧ lo < hi)) : ∀ f, hv ns f lo hi = []
  | 0 => rfl
  | f + 1 => by unfold hv; rw [if_neg h]
theorem hv_step {ns : List Int} {g : Nat} {lo hi : Int} (h : ns ≠ [] ∧ lo < hi) : hv ns (g + 1) lo hi = ((lo + hi) / 2, decide (Wl.minL ns ≤ (lo + hi) / 2)) :: (if Wl.minL ns ≤ (lo + hi) / 2 then hv ns g lo ((lo + hi) / 2) else hv ns g ((lo + hi) / 2 + 1) hi) := if_pos h
theorem half_a {lo hi : Int} {f : Nat} (h : lo < hi) (hf : (hi - lo).toNat < 2 ^ f) : ∃ g, f = g + 1 ∧ ((lo + hi) / 2 - lo).toNat < 2 ^ g ∧ (hi - ((lo + hi) / 2 + 1)).toNat < 2 ^ g := by
  cases f with
  | zero => exfalso; rw [Nat.pow_zero] at hf; omega
  | succ g =>
    rw [Nat.pow_succ] at hf
    exact ⟨g, rfl, by omega, by omega⟩
/-- the whole numbers that a list tells -/
def nsT (t : T) : List Int := (intsD (T.dats t.kids)).getD []
def F_halved : PF := ⟨fun ts => ∃ (ns : List Int) (lo : Int), ts = [.d (.list (iL ns)), .d (.int lo)] ∧ ns.length ≤ 60 ∧ 0 ≤ lo ∧ lo ≤ 65536, fun ts => .ret (rowD (hvd (nsT (ts.getD 0 (.h 0))) (ts.getD 1 (.h 0)).i))⟩
abbrev N_halved : List Str := ["longs", "low", "found", "high", "middle", "is_there"]
abbrev P_halved : List Str := ["longs", "low"]
def B_halved_0 : Sts := (.cons (.set 4 (.p (.bin .div (.bin .add (.v 1) (.v 3)) (.c (.int 2))))) (.cons (.set 5 (.p (.cmp .le (.bi .min1 (.cons (.v 0) .nil)) (.v 4)))) (.cons (.app (.v 2) (.x (.tup (.cons (.v 4) (.cons (.v 5) .nil))))) (.cons (.ite (.p (.v 5)) (.cons (.set 3 (.p (.v 4))) .nil) (.cons (.set 1 (.p (.bin .add (.v 4) (.c (.int 1))))) .nil)) (.cons (.dead [4, 5]) .nil)))))
def T_halved_0 : Sts := (.cons (.dead [4, 5]) (.cons (.ret (.mv 2)) .nil))
def R_halved_0 : Sts := (.cons (.whl (.an (.cmp .ne (.v 0) (.lst .nil)) (.on (.cmp .lt (.v 1) (.v 3)))) B_halved_0) T_halved_0)
def B_halved : Sts := (.cons (.set 2 (.fx (.l (.cons (.x (.tup (.cons (.g "MOST_LONG" (.int 65535)) (.cons (.cmp .ne (.v 0) (.lst .nil)) .nil)))) .nil)))) (.cons (.set 3 (.p (.g "MOST_LONG" (.int 65535)))) R_halved_0))
theorem nsT_d (ns : List Int) : nsT (.d (.list (iL ns))) = ns := by
  unfold nsT
  rw [show T.kids (.d (.list (iL ns))) = (iL ns).map .d from rfl, dats_d, iL_ints]; rfl
theorem o_halved (ns : List Int) (lo : Int) : F_halved.out [.d (.list (iL ns)), .d (.int lo)] = .ret (rowD (hvd ns lo)) := by
  show Ou.ret (rowD (hvd (nsT (.d (.list (iL ns)))) lo)) = _
  rw [nsT_d]
def I_halved (ns : List Int) (lo0 : Int) (p : PySem.Addr) (m : Nat) (Γ : List Sl) : Prop := ∃ (lo hi : Int) (acc : List (Int × Bool)) (f : Nat), Γ = [.d (.list (iL ns)), .d (.int lo), .o p (.n .l (acc.map fun q => .d (pr q))), .d (.int hi), .un, .un] ∧ acc ++ hv ns f lo hi = hvd ns lo0 ∧ (hi - lo).toNat < 2 ^ f ∧ m = (hi - lo).toNat ∧ 0 ≤ lo ∧ lo ≤ 65536 ∧ 0 ≤ hi ∧ hi ≤ 65535
theorem w_halved : ∀ ts, F_halved.pre ts → wps B_halved (padS N_halved (ts.map .w)) (knR (F_halved.out ts)) := by
  rintro _ ⟨ns, lo0, rfl, hl, h0, h1⟩
  rw [o_halved]
  simp [B_halved, wps, wp, wpF, wpFs, sets, deadS, atW, loc, Yl.get, Yl.put, resW, toW, slT, datW, isBl, fok, foks, fval, fvals, val, vals, valo, items, ok, oks, oko, okr, rd, Yl.bind, binds, bindOk, bindD, T.dat, T.dats, T.isI, T.i, T.b, T.isB, T.sd, T.one, T.kids, T.isL, T.isT, T.isS, T.isN, T.isK, T.s, T.isDat, T.areDat, allSd, binV, binOk, cmpV, cmpOk, Yl.inV, inOk, eqD, ixOk, ixA, slOk, slV, isV, isOk, biV, biOk, srcSd, padS, Oc, isOwnL, tgI, PyData.depth, PyData.depthAll, Ou.isR, Ou.x, Function.comp_def, Wl.isInt, Wl.isBool, Wl.isStr, -List.mem_map, List.forall_mem_map, List.filter_map]
  intro p
  refine ⟨I_halved ns lo0 p, (65535 - lo0).toNat, ⟨lo0, 65535, [(65535, !decide (ns = []))], 17, ?_, rfl, by show _ < 131072; omega, rfl, h0, h1, by omega, by omega⟩, ?_⟩
  · cases ns <;> rfl
  · rintro m Γ1 ⟨lo, hi, acc, f, rfl, he, hf, rfl, l1, l2, h1, h2⟩
    have hacc : acc.length < 1000000 := by
      have e := congrArg List.length he
      rw [List.length_append] at e
      have := hv_len ns 17 lo0 65535
      unfold hvd at e
      rw [List.length_cons] at e
      omega
    simp [B_halved_0, wps, wp, wpF, wpFs, sets, deadS, atW, loc, Yl.get, Yl.put, resW, toW, slT, datW, isBl, fok, foks, fval, fvals, val, vals, valo, items, ok, oks, oko, okr, rd, Yl.bind, binds, bindOk, bindD, T.dat, T.dats, T.isI, T.i, T.b, T.isB, T.sd, T.one, T.kids, T.isL, T.isT, T.isS, T.isN, T.isK, T.s, T.isDat, T.areDat, allSd, binV, binOk, cmpV, cmpOk, Yl.inV, inOk, eqD, ixOk, ixA, slOk, slV, isV, isOk, biV, biOk, srcSd, padS, Oc, isOwnL, tgI, PyData.depth, PyData.depthAll, Ou.isR, Ou.x, Function.comp_def, Wl.isInt, Wl.isBool, Wl.isStr, -List.mem_map, List.forall_mem_map, List.filter_map]
    refine ⟨fun t1 t2 => ?_, fun t => ?_⟩
    · obtain ⟨g, rfl, f1, f2⟩ := half_a t2 hf
      rw [hv_step ⟨t1, t2⟩] at he
      refine ⟨cdivs (by decide) (by decide), List.length_pos_iff.mpr t1, hacc, fun hk => ?_, fun hk => ?_⟩
      · rw [if_pos hk] at he
        exact ⟨_, by omega, lo, (lo + hi) / 2, acc ++ [((lo + hi) / 2, decide (Wl.minL ns ≤ (lo + hi) / 2))], g, by rw [List.map_append]; rfl, by rw [← he, List.append_assoc]; rfl, f1, rfl, l1, l2, by omega, by omega⟩
      · rw [if_neg (by omega)] at he
        exact ⟨_, by omega, (lo + hi) / 2 + 1, hi, acc ++ [((lo + hi) / 2, decide (Wl.minL ns ≤ (lo + hi) / 2))], g, by rw [List.map_append]; rfl, by rw [← he, List.append_assoc]; rfl, f2, rfl, by omega, by omega, h1, h2⟩
    · have hn : ¬ (ns ≠ [] ∧ lo < hi) := fun ⟨t1, t2⟩ => by have := t t1; omega
      rw [hv_end hn, List.append_nil] at he
      subst he
      simp [T_halved_0, wps, wp, wpF, wpFs, sets, deadS, atW, loc, Yl.get, Yl.put, resW, toW, slT, datW, isBl, fok, foks, fval, fvals, val, vals, valo, items, ok, oks, oko, okr, rd, Yl.bind, binds, bindOk, bindD, T.dat, T.dats, T.isI, T.i, T.b, T.isB, T.sd, T.one, T.kids, T.isL, T.isT, T.isS, T.isN, T.isK, T.s, T.isDat, T.areDat, allSd, binV, binOk, cmpV, cmpOk, Yl.inV, inOk, eqD, ixOk, ixA, slOk, slV, isV, isOk, biV, biOk, srcSd, padS, Oc, isOwnL, tgI, PyData.depth, PyData.depthAll, Ou.isR, Ou.x, Function.comp_def, Wl.isInt, Wl.isBool, Wl.isStr, -List.mem_map, List.forall_mem_map, List.filter_map, knR, rowD]
/-! ### asked -/
def lgs (ns : List Int) : Prop := ns.length ≤ 60 ∧ ∀ n ∈ ns, rng n
def ask (kept : Bool) : List Int → Int → List (List (Int × Bool))
  | [], lo => [hvd [] lo]
  | n :: r, lo => hvd (n :: r) lo :: ask kept r (if kept = true then n + 1 else lo)
theorem sort_lgs {ns : List Int} (h : lgs ns) : lgs (Wl.sortI ns) := ⟨by rw [(Wl.sortI_perm ns).length_eq]; exact h.1, fun n hn => h.2 n ((Wl.sortI_perm ns).mem_iff.mp hn)⟩
theorem ask_len (kept : Bool) : ∀ (r : List Int) (lo : Int), (ask kept r lo).length = r.length + 1
  | [], _ => rfl
  | n :: r, lo => by unfold ask; rw [List.length_cons, ask_len kept r, List.length_cons]
def F_asked : PF := ⟨fun ts => ∃ (ns : List Int) (kept : Bool), ts = [.d (.list (iL ns)), .d (.bool kept)] ∧ lgs ns, fun ts => .ret (rowsD (ask (ts.getD 1 (.h 0)).b (Wl.sortI (nsT (ts.getD 0 (.h 0)))) 0))⟩
theorem o_asked (ns : List Int) (kept : Bool) : F_asked.out [.d (.list (iL ns)), .d (.bool kept)] = .ret (rowsD (ask kept (Wl.sortI ns) 0)) := by
  show Ou.ret (rowsD (ask kept (Wl.sortI (nsT (.d (.list (iL ns))))) 0)) = _
  rw [nsT_d]
abbrev N_asked : List Str := ["longs", "is_kept", "left", "low", "found"]
abbrev P_asked : List Str := ["longs", "is_kept"]
def B_asked_0 : Sts := (.cons (.app (.v 4) (.x (.call F_halved "halved" (.cons (.v 2) (.cons (.v 3) .nil))))) (.cons (.ite (.p (.cmp .eq (.v 2) (.lst .nil))) (.cons (.ret (.mv 4)) .nil) .nil) (.cons (.ite (.p (.v 1)) (.cons (.set 3 (.p (.bin .add (.ix (.v 2) (.c (.int 0))) (.c (.int 1))))) .nil) .nil) (.cons (.set 2 (.p (.sl (.v 2) (.so (.c (.int 1))) .no))) .nil))))
def T_asked_0 : Sts := .nil
def R_asked_0 : Sts := (.cons (.whl (.c (.bool true)) B_asked_0) T_asked_0)
def B_asked : Sts := (.cons (.par [2, 3, 4] [(.p (.bi .sorted (.cons (.v 0) .nil))), (.p (.c (.int 0))), (.fx (.l .nil))]) R_asked_0)
def I_asked (ns : List Int) (kept : Bool) (p : PySem.Addr) (m : Nat) (Γ : List Sl) : Prop := ∃ (r : List Int) (lo : Int) (acc : List (List (Int × Bool))), Γ = [.d (.list (iL ns)), .d (.bool kept), .d (.list (iL r)), .d (.int lo), .o p (.n .l (acc.map fun q => .d (rowD q)))] ∧ acc ++ ask kept r lo = ask kept (Wl.sortI ns) 0 ∧ lgs r ∧ m = r.length ∧ 0 ≤ lo ∧ lo ≤ 65536
theorem w_asked : ∀ ts, F_asked.pre ts → wps B_asked (padS N_asked (ts.map .w)) (knR (F_asked.out ts)) := by
  rintro _ ⟨ns, kept, rfl, hns⟩
  rw [o_asked]
  simp [B_asked, wps, wp, wpF, wpFs, sets, deadS, atW, loc, Yl.get, Yl.put, resW, toW, slT, datW, isBl, fok, foks, fval, fvals, val, vals, valo, items, ok, oks, oko, okr, rd, Yl.bind, binds, bindOk, bindD, T.dat, T.dats, T.isI, T.i, T.b, T.isB, T.sd, T.one, T.kids, T.isL, T.isT, T.isS, T.isN, T.isK, T.s, T.isDat, T.areDat, allSd, binV, binOk, cmpV, cmpOk, Yl.inV, inOk, eqD, ixOk, ixA, slOk, slV, isV, isOk, biV, biOk, srcSd, padS, Oc, isOwnL, tgI, PyData.depth, PyData.depthAll, Ou.isR, Ou.x, Function.comp_def, Wl.isInt, Wl.isBool, Wl.isStr, -List.mem_map, List.forall_mem_map, List.filter_map]
  intro p
  have hs := sort_lgs hns
  refine ⟨I_asked ns kept p, _, ⟨Wl.sortI ns, 0, [], rfl, rfl, hs, rfl, by decide, by decide⟩, ?_⟩
  rintro m Γ1 ⟨r, lo, acc, rfl, he, hr', rfl, l1, l2⟩
  have hacc : acc.length < 1000000 := by
    have e := congrArg List.length he
    rw [List.length_append, ask_len, ask_len] at e
    have := hs.1
    omega
  have hpre : F_halved.pre [T.d (PyData.list (iL r)), T.d (PyData.int lo)] := ⟨r, lo, rfl, hr'.1, l1, l2⟩
  have e1 : acc.map (fun q => T.d (rowD q)) ++ [T.d (rowD (hvd r lo))] = (acc ++ [hvd r lo]).map fun q => T.d (rowD q) := by rw [List.map_append]; rfl
  simp [B_asked_0, wps, wp, wpF, wpFs, sets, deadS, atW, loc, Yl.get, Yl.put, resW, toW, slT, datW, isBl, fok, foks, fval, fvals, val, vals, valo, items, ok, oks, oko, okr, rd, Yl.bind, binds, bindOk, bindD, T.dat, T.dats, T.isI, T.i, T.b, T.isB, T.sd, T.one, T.kids, T.isL, T.isT, T.isS, T.isN, T.isK, T.s, T.isDat, T.areDat, allSd, binV, binOk, cmpV, cmpOk, Yl.inV, inOk, eqD, ixOk, ixA, slOk, slV, isV, isOk, biV, biOk, srcSd, padS, Oc, isOwnL, tgI, PyData.depth, PyData.depthAll, Ou.isR, Ou.x, Function.comp_def, Wl.isInt, Wl.isBool, Wl.isStr, -List.mem_map, List.forall_mem_map, List.filter_map, o_halved, hpre, hacc]
  rw [e1]
  refine ⟨fun hr => ?_, fun hr => ?_⟩
  · subst hr
    rw [← he]
    simp [knR, wps, wp, wpF, wpFs, sets, deadS, atW, loc, Yl.get, Yl.put, resW, toW, slT, datW, isBl, fok, foks, fval, fvals, val, vals, valo, items, ok, oks, oko, okr, rd, Yl.bind, binds, bindOk, bindD, T.dat, T.dats, T.isI, T.i, T.b, T.isB, T.sd, T.one, T.kids, T.isL, T.isT, T.isS, T.isN, T.isK, T.s, T.isDat, T.areDat, allSd, binV, binOk, cmpV, cmpOk, Yl.inV, inOk, eqD, ixOk, ixA, slOk, slV, isV, isOk, biV, biOk, srcSd, padS, Oc, isOwnL, tgI, PyData.depth, PyData.depthAll, Ou.isR, Ou.x, Function.comp_def, Wl.isInt, Wl.isBool, Wl.isStr, -List.mem_map, List.forall_mem_map, List.filter_map, ask, rowsD]
  · cases r with
    | nil => exact absurd rfl hr
    | cons n r =>
      have hn := hr'.2 n List.mem_cons_self
      have tl : lgs r := ⟨by have := hr'.1; rw [List.length_cons] at this; omega, fun x hx => hr'.2 x (List.mem_cons_of_mem _ hx)⟩
      simp [wps, wp, wpF, wpFs, sets, deadS, atW, loc, Yl.get, Yl.put, resW, toW, slT, datW, isBl, fok, foks, fval, fvals, val, vals, valo, items, ok, oks, oko, okr, rd, Yl.bind, binds, bindOk, bindD, T.dat, T.dats, T.isI, T.i, T.b, T.isB, T.sd, T.one, T.kids, T.isL, T.isT, T.isS, T.isN, T.isK, T.s, T.isDat, T.areDat, allSd, binV, binOk, cmpV, cmpOk, Yl.inV, inOk, eqD, ixOk, ixA, slOk, slV, isV, isOk, biV, biOk, srcSd, padS, Oc, isOwnL, tgI, PyData.depth, PyData.depthAll, Ou.isR, Ou.x, Function.comp_def, Wl.isInt, Wl.isBool, Wl.isStr, -List.mem_map, List.forall_mem_map, List.filter_map]
      refine ⟨fun hk => ?_, fun hk => ?_⟩
      · exact ⟨r.length, by omega, r, n + 1, acc ++ [hvd (n :: r) lo], by rw [← e1]; rfl, by rw [← he, List.append_assoc]; simp [ask, hk], tl, rfl, by have := hn.1; omega, by have := hn.2; omega⟩
      · exact ⟨r.length, by omega, r, lo, acc ++ [hvd (n :: r) lo], by rw [← e1]; rfl, by rw [← he, List.append_assoc]; simp [ask, hk], tl, rfl, l1, l2⟩
end VK50

end

section
namespace VK50
open PySem L2 Yl
variable [Wl.Tb]
/-! ### plain, quick -/
def F_ask (kept : Bool) : PF := ⟨F_need.pre, fun ts => if goodL (ts.getD 0 (.h 0)).dat = true then .ret (rowsD (ask kept (Wl.sortI (nsT (ts.getD 0 (.h 0)))) 0)) else .exc "BadHouse"⟩
theorem o_need {x : D} : F_need.out [.d x] = if goodL x = true then .ret .none else .exc "BadHouse" := rfl
theorem o_ask {x : D} {kept : Bool} : (F_ask kept).out [.d x] = if goodL x = true then .ret (rowsD (ask kept (Wl.sortI (nsT (.d x))) 0)) else .exc "BadHouse" := rfl
theorem goodL_ex {x : D} (h : goodL x = true) (hl : ∀ l, x = .list l → l.length ≤ 60) : ∃ ns, x = .list (iL ns) ∧ lgs ns ∧ Wl.dst ns = ns.length := by
  cases x <;> simp [goodL] at h
  rename_i l
  obtain ⟨ns, rfl, hn⟩ := cnt_ints h.1
  have := hl _ rfl
  rw [ints_i, List.length_map] at h
  rw [List.length_map] at this
  exact ⟨ns, rfl, ⟨this, hn⟩, h.2⟩
abbrev N_plain : List Str := ["longs"]
abbrev P_plain : List Str := ["longs"]
def B_plain : Sts := (.cons (.ex (.callr F_need "need_longs" (.cons (.v 0) .nil))) (.cons (.ret (.p (.call F_asked "asked" (.cons (.v 0) (.cons (.c (.bool false)) .nil))))) .nil))
abbrev N_quick : List Str := ["longs"]
abbrev P_quick : List Str := ["longs"]
def B_quick : Sts := (.cons (.ex (.callr F_need "need_longs" (.cons (.v 0) .nil))) (.cons (.ret (.p (.call F_asked "asked" (.cons (.v 0) (.cons (.c (.bool true)) .nil))))) .nil))
theorem w_plain : ∀ ts, (F_ask false).pre ts → wps B_plain (padS N_plain (ts.map .w)) (knR ((F_ask false).out ts)) := by
  rintro _ ⟨x, rfl, hl⟩
  have hp : F_need.pre [.d x] := ⟨x, rfl, hl⟩
  rw [o_ask]
  cases hg : goodL x with
  | true =>
    obtain ⟨ns, rfl, h1, h2⟩ := goodL_ex hg hl
    have hq : F_asked.pre [T.d (PyData.list (iL ns)), T.d (PyData.bool false)] := ⟨ns, false, rfl, h1⟩
    simp [B_plain, wps, wp, wpF, wpFs, sets, deadS, atW, loc, Yl.get, Yl.put, resW, toW, slT, datW, isBl, fok, foks, fval, fvals, val, vals, valo, items, ok, oks, oko, okr, rd, Yl.bind, binds, bindOk, bindD, T.dat, T.dats, T.isI, T.i, T.b, T.isB, T.sd, T.one, T.kids, T.isL, T.isT, T.isS, T.isN, T.isK, T.s, T.isDat, T.areDat, allSd, binV, binOk, cmpV, cmpOk, Yl.inV, inOk, eqD, ixOk, ixA, slOk, slV, isV, isOk, biV, biOk, srcSd, padS, Oc, isOwnL, tgI, PyData.depth, PyData.depthAll, Ou.isR, Ou.x, Function.comp_def, Wl.isInt, Wl.isBool, Wl.isStr, -List.mem_map, List.forall_mem_map, List.filter_map, hp, o_need, hg, o_asked, hq, nsT_d, knR]
  | false => simp [B_plain, wps, wp, wpF, wpFs, sets, deadS, atW, loc, Yl.get, Yl.put, resW, toW, slT, datW, isBl, fok, foks, fval, fvals, val, vals, valo, items, ok, oks, oko, okr, rd, Yl.bind, binds, bindOk, bindD, T.dat, T.dats, T.isI, T.i, T.b, T.isB, T.sd, T.one, T.kids, T.isL, T.isT, T.isS, T.isN, T.isK, T.s, T.isDat, T.areDat, allSd, binV, binOk, cmpV, cmpOk, Yl.inV, inOk, eqD, ixOk, ixA, slOk, slV, isV, isOk, biV, biOk, srcSd, padS, Oc, isOwnL, tgI, PyData.depth, PyData.depthAll, Ou.isR, Ou.x, Function.comp_def, Wl.isInt, Wl.isBool, Wl.isStr, -List.mem_map, List.forall_mem_map, List.filter_map, hp, o_need, hg, knR]
theorem w_quick : ∀ ts, (F_ask true).pre ts → wps B_quick (padS N_quick (ts.map .w)) (knR ((F_ask true).out ts)) := by
  rintro _ ⟨x, rfl, hl⟩
  have hp : F_need.pre [.d x] := ⟨x, rfl, hl⟩
  rw [o_ask]
  cases hg : goodL x with
  | true =>
    obtain ⟨ns, rfl, h1, h2⟩ := goodL_ex hg hl
    have hq : F_asked.pre [T.d (PyData.list (iL ns)), T.d (PyData.bool true)] := ⟨ns, true, rfl, h1⟩
    simp [B_quick, wps, wp, wpF, wpFs, sets, deadS, atW, loc, Yl.get, Yl.put, resW, toW, slT, datW, isBl, fok, foks, fval, fvals, val, vals, valo, items, ok, oks, oko, okr, rd, Yl.bind, binds, bindOk, bindD, T.dat, T.dats, T.isI, T.i, T.b, T.isB, T.sd, T.one, T.kids, T.isL, T.isT, T.isS, T.isN, T.isK, T.s, T.isDat, T.areDat, allSd, binV, binOk, cmpV, cmpOk, Yl.inV, inOk, eqD, ixOk, ixA, slOk, slV, isV, isOk, biV, biOk, srcSd, padS, Oc, isOwnL, tgI, PyData.depth, PyData.depthAll, Ou.isR, Ou.x, Function.comp_def, Wl.isInt, Wl.isBool, Wl.isStr, -List.mem_map, List.forall_mem_map, List.filter_map, hp, o_need, hg, o_asked, hq, nsT_d, knR]
  | false => simp [B_quick, wps, wp, wpF, wpFs, sets, deadS, atW, loc, Yl.get, Yl.put, resW, toW, slT, datW, isBl, fok, foks, fval, fvals, val, vals, valo, items, ok, oks, oko, okr, rd, Yl.bind, binds, bindOk, bindD, T.dat, T.dats, T.isI, T.i, T.b, T.isB, T.sd, T.one, T.kids, T.isL, T.isT, T.isS, T.isN, T.isK, T.s, T.isDat, T.areDat, allSd, binV, binOk, cmpV, cmpOk, Yl.inV, inOk, eqD, ixOk, ixA, slOk, slV, isV, isOk, biV, biOk, srcSd, padS, Oc, isOwnL, tgI, PyData.depth, PyData.depthAll, Ou.isR, Ou.x, Function.comp_def, Wl.isInt, Wl.isBool, Wl.isStr, -List.mem_map, List.forall_mem_map, List.filter_map, hp, o_need, hg, knR]
/-! ### heard_of -/
def least (r : List (Int × Bool)) : List Int := (r.filter fun q => q.2).map (·.1)
def heard (rs : List (List (Int × Bool))) : List Int := rs.filterMap fun r => (least r).getLast?
def prs (x : D) : List (Int × Bool) := match x with
  | .list l => l.filterMap fun y => match y with
    | .tuple [.int a, .bool b] => some (a, b)
    | _ => none
  | _ => []
def rss (t : T) : List (List (Int × Bool)) := (T.dats t.kids).map prs
theorem prs_row (r : List (Int × Bool)) : prs (rowD r) = r := by
  show List.filterMap _ (r.map pr) = r
  induction r with
  | nil => rfl
  | cons q r ih => rw [List.map_cons, List.filterMap_cons]; show q :: _ = _; rw [ih]
theorem rss_rows (rs : List (List (Int × Bool))) : rss (.d (rowsD rs)) = rs := by
  unfold rss
  rw [show T.kids (.d (rowsD rs)) = (rs.map rowD).map .d from rfl, dats_d, List.map_map]
  exact List.map_id'' (fun r => prs_row r) rs
def F_heard : PF := ⟨fun ts => ∃ rs : List (List (Int × Bool)), ts = [.d (rowsD rs)] ∧ rs.length ≤ 100 ∧ ∀ r ∈ rs, r.length ≤ 100, fun ts => .ret (.list (iL (heard (rss (ts.getD 0 (.h 0))))))⟩
theorem o_heard (rs : List (List (Int × Bool))) : F_heard.out [.d (rowsD rs)] = .ret (.list (iL (heard rs))) := by
  show Ou.ret (.list (iL (heard (rss (.d (rowsD rs)))))) = _
  rw [rss_rows]
abbrev N_heard_of : List Str := ["rows", "found", "row", "ask", "is_there", "least"]
abbrev P_heard_of : List Str := ["rows"]
def B_heard_of_0 : Sts := (.cons (.setlc 5 false (.t [3, 4]) (.it (.v 2)) (.v 4) (.v 3)) (.cons (.ite (.p (.cmp .ne (.v 5) (.lst .nil))) (.cons (.app (.v 1) (.x (.ix (.v 5) (.neg (.c (.int 1)))))) .nil) .nil) (.cons (.dead [2, 5]) .nil)))
def L_heard_of_0 : T → List Sl → Kn → Prop := fun t Γ K => wps B_heard_of_0 (Yl.bind (.n 2) t Γ) K
def T_heard_of_0 : Sts := (.cons (.dead [2, 5]) (.cons (.ret (.mv 1)) .nil))
def R_heard_of_0 : Sts := (.cons (.for_ (.n 2) (.it (.v 0)) B_heard_of_0) T_heard_of_0)
def B_heard_of : Sts := (.cons (.set 1 (.fx (.l .nil))) R_heard_of_0)
theorem heard_loop (rs0 : D) (p : PySem.Addr) (K : Kn) : ∀ (rs : List (List (Int × Bool))) (acc : List Int), (∀ r ∈ rs, r.length ≤ 100) → acc.length + rs.length ≤ 100 →
    K.nx [.d rs0, .o p (.n .l ((acc ++ heard rs).map fun n => .d (.int n))), .un, .un, .un, .un] →
    forW L_heard_of_0 (rs.map fun r => .d (rowD r)) [.d rs0, .o p (.n .l (acc.map fun n => .d (.int n))), .un, .un, .un, .un] K
  | [], acc, _, _, hk => by
    rw [show heard [] = [] from rfl, List.append_nil] at hk
    exact hk
  | r :: rs, acc, hr, hl, hk => by
    have ih := heard_loop rs0 p K rs
    have hr1 := hr r List.mem_cons_self
    refine forW_cons (?_ : wps B_heard_of_0 (Yl.bind (.n 2) (.d (rowD r)) _) _)
    have er : rowD r = .list (r.map pr) := rfl
    have hr2 : ∀ r ∈ rs, r.length ≤ 100 := fun x hx => hr x (List.mem_cons_of_mem _ hx)
    rw [List.length_cons] at hl
    have nn : ∀ a : Int, (r.filter fun q => q.2).getLast? = none → ¬ (a, true) ∈ r := fun a h hm => by
      have : (a, true) ∈ r.filter fun q => q.2 := List.mem_filter.mpr ⟨hm, rfl⟩
      rw [List.getLast?_eq_none_iff.mp h] at this; cases this
    have nm : ∀ q, (r.filter fun q => q.2).getLast? = some q → (q.1, true) ∈ r := fun q h => by
      have m := List.mem_filter.mp (List.mem_of_getLast? h)
      obtain ⟨a, b⟩ := q
      simp only at m
      rw [show (a, true) = (a, b) by rw [m.2]]; exact m.1
    simp [B_heard_of_0, wps, wp, wpF, wpFs, sets, deadS, atW, loc, Yl.get, Yl.put, resW, toW, slT, datW, isBl, fok, foks, fval, fvals, val, vals, valo, items, ok, oks, oko, okr, rd, Yl.bind, binds, bindOk, bindD, T.dat, T.dats, T.isI, T.i, T.b, T.isB, T.sd, T.one, T.kids, T.isL, T.isT, T.isS, T.isN, T.isK, T.s, T.isDat, T.areDat, allSd, binV, binOk, cmpV, cmpOk, Yl.inV, inOk, eqD, ixOk, ixA, slOk, slV, isV, isOk, biV, biOk, srcSd, padS, Oc, isOwnL, tgI, PyData.depth, PyData.depthAll, Ou.isR, Ou.x, Function.comp_def, Wl.isInt, Wl.isBool, Wl.isStr, -List.mem_map, List.forall_mem_map, List.filter_map, er, pr]
    refine ⟨by omega, fun x hx => ?_, fun h => ?_⟩
    · cases h : (r.filter fun q => q.2).getLast? with
      | none => exact absurd hx (nn x h)
      | some q =>
        have hz : atI (r.filter fun q => q.2) (-1) = some q := by rw [atI_m1]; exact h
        rw [hz]
        refine ⟨⟨rfl, rfl⟩, by omega, ?_⟩
        have := ih (acc ++ [q.1]) hr2 (by rw [List.length_append]; simp only [List.length_cons, List.length_nil]; omega) (by
          have e : heard (r :: rs) = q.1 :: heard rs := by unfold heard least; rw [List.filterMap_cons, List.getLast?_map, h]; rfl
          rw [e] at hk
          rw [List.append_assoc]; exact hk)
        rw [List.map_append] at this
        exact this
    · refine ih acc hr2 (by omega) ?_
      have e : heard (r :: rs) = heard rs := by
        unfold heard least
        rw [List.filterMap_cons, List.getLast?_map]
        cases z : (r.filter fun q => q.2).getLast? with
        | none => rfl
        | some q => exact absurd (nm q z) (h q.1)
      rw [e] at hk; exact hk
theorem w_heard_of : ∀ ts, F_heard.pre ts → wps B_heard_of (padS N_heard_of (ts.map .w)) (knR (F_heard.out ts)) := by
  rintro _ ⟨rs, rfl, hl, hr⟩
  rw [o_heard]
  simp [B_heard_of, wps, wp, wpF, wpFs, sets, deadS, atW, loc, Yl.get, Yl.put, resW, toW, slT, datW, isBl, fok, foks, fval, fvals, val, vals, valo, items, ok, oks, oko, okr, rd, Yl.bind, binds, bindOk, bindD, T.dat, T.dats, T.isI, T.i, T.b, T.isB, T.sd, T.one, T.kids, T.isL, T.isT, T.isS, T.isN, T.isK, T.s, T.isDat, T.areDat, allSd, binV, binOk, cmpV, cmpOk, Yl.inV, inOk, eqD, ixOk, ixA, slOk, slV, isV, isOk, biV, biOk, srcSd, padS, Oc, isOwnL, tgI, PyData.depth, PyData.depthAll, Ou.isR, Ou.x, Function.comp_def, Wl.isInt, Wl.isBool, Wl.isStr, -List.mem_map, List.forall_mem_map, List.filter_map]
  intro p
  have er : rowsD rs = .list (rs.map rowD) := rfl
  have h := heard_loop (rowsD rs) p { knR (.ret (.list (iL (heard rs)))) with nx := fun Γ' => wps T_heard_of_0 Γ' (knR (.ret (.list (iL (heard rs))))) } rs [] hr (by simpa using hl) (by
    simp [T_heard_of_0, wps, wp, wpF, wpFs, sets, deadS, atW, loc, Yl.get, Yl.put, resW, toW, slT, datW, isBl, fok, foks, fval, fvals, val, vals, valo, items, ok, oks, oko, okr, rd, Yl.bind, binds, bindOk, bindD, T.dat, T.dats, T.isI, T.i, T.b, T.isB, T.sd, T.one, T.kids, T.isL, T.isT, T.isS, T.isN, T.isK, T.s, T.isDat, T.areDat, allSd, binV, binOk, cmpV, cmpOk, Yl.inV, inOk, eqD, ixOk, ixA, slOk, slV, isV, isOk, biV, biOk, srcSd, padS, Oc, isOwnL, tgI, PyData.depth, PyData.depthAll, Ou.isR, Ou.x, Function.comp_def, Wl.isInt, Wl.isBool, Wl.isStr, -List.mem_map, List.forall_mem_map, List.filter_map, knR, iL])
  simp [R_heard_of_0, wps, wp, wpF, wpFs, sets, deadS, atW, loc, Yl.get, Yl.put, resW, toW, slT, datW, isBl, fok, foks, fval, fvals, val, vals, valo, items, ok, oks, oko, okr, rd, Yl.bind, binds, bindOk, bindD, T.dat, T.dats, T.isI, T.i, T.b, T.isB, T.sd, T.one, T.kids, T.isL, T.isT, T.isS, T.isN, T.isK, T.s, T.isDat, T.areDat, allSd, binV, binOk, cmpV, cmpOk, Yl.inV, inOk, eqD, ixOk, ixA, slOk, slV, isV, isOk, biV, biOk, srcSd, padS, Oc, isOwnL, tgI, PyData.depth, PyData.depthAll, Ou.isR, Ou.x, Function.comp_def, Wl.isInt, Wl.isBool, Wl.isStr, -List.mem_map, List.forall_mem_map, List.filter_map, er]
  rw [er] at h
  exact h
end VK50

end

section
namespace VK50
open PySem L2 Yl
variable [Wl.Tb]
/-! ### told_by -/
def t1 : D → Bool
  | .tuple [_, b] => Wl.isBool b
  | _ => false
def t2 : D → Bool
  | .tuple (a :: _) => cnt a 0 65535
  | _ => false
def goodR : D → Bool
  | .list ps => ps.all t1 && ps.all t2
  | _ => false
def isLst : D → Bool
  | .list _ => true
  | _ => false
def goodT : D → Bool
  | .list l => l.all goodR
  | _ => false
def F_told_by : PF := ⟨fun ts => ∃ x, ts = [.d x] ∧ ∀ l, x = .list l → l.length ≤ 100 ∧ ∀ r ∈ l, ∀ ps, r = .list ps → ps.length ≤ 100, fun ts => if goodT (ts.getD 0 (.h 0)).dat = true then .ret (.list (iL (heard (rss (ts.getD 0 (.h 0)))))) else .exc "BadHouse"⟩
theorem o_told_by (x : D) : F_told_by.out [.d x] = if goodT x = true then .ret (.list (iL (heard (rss (.d x))))) else .exc "BadHouse" := rfl
theorem goodR_ex : ∀ {ps : List D}, ps.all t1 = true → ps.all t2 = true → ∃ r : List (Int × Bool), ps = r.map pr ∧ ∀ q ∈ r, rng q.1
  | [], _, _ => ⟨[], rfl, fun _ h => by cases h⟩
  | y :: ps, h1, h2 => by
    rw [List.all_cons, Bool.and_eq_true] at h1 h2
    obtain ⟨r, rfl, hr⟩ := goodR_ex h1.2 h2.2
    obtain ⟨a, b, e, ha⟩ : ∃ (a : Int) (b : Bool), y = .tuple [.int a, .bool b] ∧ rng a := by
      have k1 := h1.1
      have k2 := h2.1
      unfold t1 at k1
      split at k1
      · rename_i a b
        obtain ⟨i, rfl, hi⟩ := cnt_int (show cnt a 0 65535 = true from k2)
        cases b <;> simp [Wl.isBool] at k1
        exact ⟨_, _, rfl, hi⟩
      · cases k1
    subst e
    exact ⟨(a, b) :: r, rfl, fun q hq => by rcases List.mem_cons.mp hq with rfl | z; exact ha; exact hr q z⟩
theorem goodT_ex : ∀ {l : List D}, l.all goodR = true → ∃ rs : List (List (Int × Bool)), l = rs.map rowD ∧ ∀ r ∈ rs, ∀ q ∈ r, rng q.1
  | [], _ => ⟨[], rfl, fun _ h => by cases h⟩
  | y :: l, h => by
    rw [List.all_cons, Bool.and_eq_true] at h
    obtain ⟨rs, rfl, hr⟩ := goodT_ex h.2
    have k := h.1
    cases y <;> simp [goodR] at k
    obtain ⟨r, rfl, hq⟩ := goodR_ex (List.all_eq_true.mpr k.1) (List.all_eq_true.mpr k.2)
    exact ⟨r :: rs, rfl, fun x hx => by rcases List.mem_cons.mp hx with rfl | z; exact hq; exact hr x z⟩
abbrev N_told_by : List Str := ["rows", "row", "pair"]
abbrev P_told_by : List Str := ["rows"]
def B_told_by_0 : Sts := (.cons (.ite (.p (.no (.bi .all (.cons (.lc (.n 2) (.it (.v 1)) (.c (.bool true)) (.an (.isi .tuple (.v 2)) (.an (.cmp .eq (.bi .len (.cons (.v 2) .nil)) (.c (.int 2))) (.on (.isi .bool (.ix (.v 2) (.c (.int 1)))))))) .nil)))) (.cons (.rais "BadHouse") .nil) .nil) (.cons (.ite (.p (.no (.bi .all (.cons (.lc (.n 2) (.it (.v 1)) (.c (.bool true)) (.call F_cnt "is_count" (.cons (.ix (.v 2) (.c (.int 0))) (.cons (.c (.int 0)) (.cons (.g "MOST_LONG" (.int 65535)) .nil))))) .nil)))) (.cons (.rais "BadHouse") .nil) .nil) (.cons (.dead [1]) .nil)))
def L_told_by_0 : T → List Sl → Kn → Prop := fun t Γ K => wps B_told_by_0 (Yl.bind (.n 1) t Γ) K
def T_told_by_0 : Sts := (.cons (.dead [1]) (.cons (.ret (.p (.call F_heard "heard_of" (.cons (.v 0) .nil)))) .nil))
def R_told_by_0 : Sts := (.cons (.for_ (.n 1) (.it (.v 0)) B_told_by_0) T_told_by_0)
def B_told_by : Sts := (.cons (.ite (.p (.or (.no (.isi .list (.v 0))) (.on (.no (.bi .all (.cons (.lc (.n 1) (.it (.v 0)) (.c (.bool true)) (.isi .list (.v 1))) .nil)))))) (.cons (.rais "BadHouse") .nil) .nil) R_told_by_0)
theorem told_t1 (x y : D) (Γ2 : Sl) : Bv (.an (.isi .tuple (.v 2)) (.an (.cmp .eq (.bi .len (.cons (.v 2) .nil)) (.c (.int 2))) (.on (.isi .bool (.ix (.v 2) (.c (.int 1))))))) [.d x, Γ2, .d y] (t1 y) := by
  cases y with
  | tuple qs =>
    match qs with
    | [] => simp [Bv, wps, wp, wpF, wpFs, sets, deadS, atW, loc, Yl.get, Yl.put, resW, toW, slT, datW, isBl, fok, foks, fval, fvals, val, vals, valo, items, ok, oks, oko, okr, rd, Yl.bind, binds, bindOk, bindD, T.dat, T.dats, T.isI, T.i, T.b, T.isB, T.sd, T.one, T.kids, T.isL, T.isT, T.isS, T.isN, T.isK, T.s, T.isDat, T.areDat, allSd, binV, binOk, cmpV, cmpOk, Yl.inV, inOk, eqD, ixOk, ixA, slOk, slV, isV, isOk, biV, biOk, srcSd, padS, Oc, isOwnL, tgI, PyData.depth, PyData.depthAll, Ou.isR, Ou.x, Function.comp_def, Wl.isInt, Wl.isBool, Wl.isStr, -List.mem_map, List.forall_mem_map, List.filter_map, t1]
    | [a] => simp [Bv, wps, wp, wpF, wpFs, sets, deadS, atW, loc, Yl.get, Yl.put, resW, toW, slT, datW, isBl, fok, foks, fval, fvals, val, vals, valo, items, ok, oks, oko, okr, rd, Yl.bind, binds, bindOk, bindD, T.dat, T.dats, T.isI, T.i, T.b, T.isB, T.sd, T.one, T.kids, T.isL, T.isT, T.isS, T.isN, T.isK, T.s, T.isDat, T.areDat, allSd, binV, binOk, cmpV, cmpOk, Yl.inV, inOk, eqD, ixOk, ixA, slOk, slV, isV, isOk, biV, biOk, srcSd, padS, Oc, isOwnL, tgI, PyData.depth, PyData.depthAll, Ou.isR, Ou.x, Function.comp_def, Wl.isInt, Wl.isBool, Wl.isStr, -List.mem_map, List.forall_mem_map, List.filter_map, t1]
    | [a, b] => simp [Bv, wps, wp, wpF, wpFs, sets, deadS, atW, loc, Yl.get, Yl.put, resW, toW, slT, datW, isBl, fok, foks, fval, fvals, val, vals, valo, items, ok, oks, oko, okr, rd, Yl.bind, binds, bindOk, bindD, T.dat, T.dats, T.isI, T.i, T.b, T.isB, T.sd, T.one, T.kids, T.isL, T.isT, T.isS, T.isN, T.isK, T.s, T.isDat, T.areDat, allSd, binV, binOk, cmpV, cmpOk, Yl.inV, inOk, eqD, ixOk, ixA, slOk, slV, isV, isOk, biV, biOk, srcSd, padS, Oc, isOwnL, tgI, PyData.depth, PyData.depthAll, Ou.isR, Ou.x, Function.comp_def, Wl.isInt, Wl.isBool, Wl.isStr, -List.mem_map, List.forall_mem_map, List.filter_map, t1]
    | a :: b :: c :: l =>
      simp [Bv, wps, wp, wpF, wpFs, sets, deadS, atW, loc, Yl.get, Yl.put, resW, toW, slT, datW, isBl, fok, foks, fval, fvals, val, vals, valo, items, ok, oks, oko, okr, rd, Yl.bind, binds, bindOk, bindD, T.dat, T.dats, T.isI, T.i, T.b, T.isB, T.sd, T.one, T.kids, T.isL, T.isT, T.isS, T.isN, T.isK, T.s, T.isDat, T.areDat, allSd, binV, binOk, cmpV, cmpOk, Yl.inV, inOk, eqD, ixOk, ixA, slOk, slV, isV, isOk, biV, biOk, srcSd, padS, Oc, isOwnL, tgI, PyData.depth, PyData.depthAll, Ou.isR, Ou.x, Function.comp_def, Wl.isInt, Wl.isBool, Wl.isStr, -List.mem_map, List.forall_mem_map, List.filter_map, t1]
      omega
  | _ => simp [Bv, wps, wp, wpF, wpFs, sets, deadS, atW, loc, Yl.get, Yl.put, resW, toW, slT, datW, isBl, fok, foks, fval, fvals, val, vals, valo, items, ok, oks, oko, okr, rd, Yl.bind, binds, bindOk, bindD, T.dat, T.dats, T.isI, T.i, T.b, T.isB, T.sd, T.one, T.kids, T.isL, T.isT, T.isS, T.isN, T.isK, T.s, T.isDat, T.areDat, allSd, binV, binOk, cmpV, cmpOk, Yl.inV, inOk, eqD, ixOk, ixA, slOk, slV, isV, isOk, biV, biOk, srcSd, padS, Oc, isOwnL, tgI, PyData.depth, PyData.depthAll, Ou.isR, Ou.x, Function.comp_def, Wl.isInt, Wl.isBool, Wl.isStr, -List.mem_map, List.forall_mem_map, List.filter_map, t1]
theorem told_t2 (x y : D) (Γ2 : Sl) (h : t1 y = true) : Bv (.call F_cnt "is_count" (.cons (.ix (.v 2) (.c (.int 0))) (.cons (.c (.int 0)) (.cons (.g "MOST_LONG" (.int 65535)) .nil)))) [.d x, Γ2, .d y] (t2 y) := by
  unfold t1 at h
  split at h
  · simp [Bv, wps, wp, wpF, wpFs, sets, deadS, atW, loc, Yl.get, Yl.put, resW, toW, slT, datW, isBl, fok, foks, fval, fvals, val, vals, valo, items, ok, oks, oko, okr, rd, Yl.bind, binds, bindOk, bindD, T.dat, T.dats, T.isI, T.i, T.b, T.isB, T.sd, T.one, T.kids, T.isL, T.isT, T.isS, T.isN, T.isK, T.s, T.isDat, T.areDat, allSd, binV, binOk, cmpV, cmpOk, Yl.inV, inOk, eqD, ixOk, ixA, slOk, slV, isV, isOk, biV, biOk, srcSd, padS, Oc, isOwnL, tgI, PyData.depth, PyData.depthAll, Ou.isR, Ou.x, Function.comp_def, Wl.isInt, Wl.isBool, Wl.isStr, -List.mem_map, List.forall_mem_map, List.filter_map, t2, F_cnt]
  · cases h
theorem told_row (x : D) (K : Kn) (ps : List D) (hl : ps.length ≤ 100) (h1 : goodR (.list ps) = true → K.nx [.d x, .un, .un]) (h2 : goodR (.list ps) = false → ∀ Γ, K.ex "BadHouse" Γ) : wps B_told_by_0 (Yl.bind (.n 1) (.d (.list ps)) [.d x, .un, .un]) K := by
  have it : ∀ Γ2 : Sl, items (.it (.v 1)) [.d x, .d (.list ps), Γ2] = ps.map .d := fun _ => rfl
  have okI : ∀ Γ2 : Sl, okr (.it (.v 1)) [.d x, .d (.list ps), Γ2] := fun _ => ⟨trivial, .inl rfl⟩
  unfold B_told_by_0
  refine wps_if (Γ := [.d x, .d (.list ps), .un]) (bv_no (bv_all (fun t => t1 t.dat) (okI _) (by rw [it, List.length_map]; omega) fun t ht => ?_)) (fun h => h2 ?_ _) fun h => ?_
  · obtain ⟨y, hy, rfl⟩ := List.mem_map.mp ht
    exact ⟨trivial, told_t1 x y _⟩
  · rw [it, List.all_map] at h
    simp only [Bool.not_eq_true'] at h
    show (ps.all t1 && ps.all t2) = false
    rw [show ps.all t1 = false from h]; rfl
  · rw [it, List.all_map] at h
    simp only [Bool.not_eq_false'] at h
    have h : ps.all t1 = true := h
    refine wps_if (Γ := [.d x, .d (.list ps), .un]) (bv_no (bv_all (fun t => t2 t.dat) (okI _) (by rw [it, List.length_map]; omega) fun t ht => ?_)) (fun h3 => h2 ?_ _) fun h3 => ?_
    · obtain ⟨y, hy, rfl⟩ := List.mem_map.mp ht
      exact ⟨trivial, told_t2 x y _ (List.all_eq_true.mp h y hy)⟩
    · rw [it, List.all_map] at h3
      simp only [Bool.not_eq_true'] at h3
      show (ps.all t1 && ps.all t2) = false
      rw [h, show ps.all t2 = false from h3]; rfl
    · rw [it, List.all_map] at h3
      simp only [Bool.not_eq_false'] at h3
      refine h1 ?_
      show (ps.all t1 && ps.all t2) = true
      rw [h, show ps.all t2 = true from h3]; rfl
theorem told_loop (x : D) (K : Kn) : ∀ (l : List D), (∀ r ∈ l, isLst r = true ∧ ∀ ps, r = .list ps → ps.length ≤ 100) → (l.all goodR = true → K.nx [.d x, .un, .un]) → (l.all goodR = false → ∀ Γ, K.ex "BadHouse" Γ) → forW L_told_by_0 (l.map .d) [.d x, .un, .un] K
  | [], _, h1, _ => h1 rfl
  | r :: l, hl, h1, h2 => by
    obtain ⟨k1, k2⟩ := hl r List.mem_cons_self
    cases r <;> simp [isLst] at k1
    rename_i ps
    refine forW_cons (told_row x _ ps (k2 ps rfl) (fun h => told_loop x K l (fun y hy => hl y (List.mem_cons_of_mem _ hy)) (fun z => h1 ?_) fun z => h2 ?_) fun h => h2 ?_)
    · rw [List.all_cons, h, z]; rfl
    · rw [List.all_cons, h, z]; rfl
    · rw [List.all_cons, h]; rfl
theorem w_told_by : ∀ ts, F_told_by.pre ts → wps B_told_by (padS N_told_by (ts.map .w)) (knR (F_told_by.out ts)) := by
  rintro _ ⟨x, rfl, hl⟩
  rw [o_told_by]
  have i1 : Bv (.isi .list (.v 0)) [.d x, .un, .un] (isLst x) := by cases x <;> simp [Bv, wps, wp, wpF, wpFs, sets, deadS, atW, loc, Yl.get, Yl.put, resW, toW, slT, datW, isBl, fok, foks, fval, fvals, val, vals, valo, items, ok, oks, oko, okr, rd, Yl.bind, binds, bindOk, bindD, T.dat, T.dats, T.isI, T.i, T.b, T.isB, T.sd, T.one, T.kids, T.isL, T.isT, T.isS, T.isN, T.isK, T.s, T.isDat, T.areDat, allSd, binV, binOk, cmpV, cmpOk, Yl.inV, inOk, eqD, ixOk, ixA, slOk, slV, isV, isOk, biV, biOk, srcSd, padS, Oc, isOwnL, tgI, PyData.depth, PyData.depthAll, Ou.isR, Ou.x, Function.comp_def, Wl.isInt, Wl.isBool, Wl.isStr, -List.mem_map, List.forall_mem_map, List.filter_map, isLst]
  unfold B_told_by
  by_cases hx : isLst x = true
  · cases x <;> simp [isLst] at hx
    rename_i l
    obtain ⟨hl1, hl2⟩ := hl l rfl
    have it : items (.it (.v 0)) [.d (.list l), .un, .un] = l.map .d := rfl
    have i2 := bv_all (tg := .n 1) (s := .it (.v 0)) (e := .isi .list (.v 1)) (Γ := [.d (.list l), .un, .un]) (fun t => isLst t.dat) ⟨trivial, .inl rfl⟩ (by rw [it, List.length_map]; omega) fun t ht => by
      obtain ⟨y, hy, rfl⟩ := List.mem_map.mp ht
      exact ⟨trivial, by cases y <;> simp [Bv, wps, wp, wpF, wpFs, sets, deadS, atW, loc, Yl.get, Yl.put, resW, toW, slT, datW, isBl, fok, foks, fval, fvals, val, vals, valo, items, ok, oks, oko, okr, rd, Yl.bind, binds, bindOk, bindD, T.dat, T.dats, T.isI, T.i, T.b, T.isB, T.sd, T.one, T.kids, T.isL, T.isT, T.isS, T.isN, T.isK, T.s, T.isDat, T.areDat, allSd, binV, binOk, cmpV, cmpOk, Yl.inV, inOk, eqD, ixOk, ixA, slOk, slV, isV, isOk, biV, biOk, srcSd, padS, Oc, isOwnL, tgI, PyData.depth, PyData.depthAll, Ou.isR, Ou.x, Function.comp_def, Wl.isInt, Wl.isBool, Wl.isStr, -List.mem_map, List.forall_mem_map, List.filter_map, isLst]⟩
    rw [it, List.all_map] at i2
    refine wps_if (bv_or (bv_no i1) fun _ => bv_on (bv_no i2)) (fun h => ?_) fun h => ?_
    · have ha : l.all isLst = false := by simpa [isLst, Function.comp_def, T.dat] using h
      have hb : goodT (.list l) = false := by
        obtain ⟨y, hy, e⟩ := List.all_eq_false.mp ha
        refine List.all_eq_false.mpr ⟨y, hy, ?_⟩
        cases y <;> first | (simp [isLst] at e; done) | simp [goodR]
      rw [hb]; rfl
    · have ha : l.all isLst = true := by
        have : (l.all isLst = true) := by simpa [isLst, Function.comp_def, T.dat] using h
        exact this
      show wps R_told_by_0 _ _
      refine ⟨⟨trivial, .inl rfl⟩, fun t ht => ⟨trivial, ?_⟩, rfl, told_loop (.list l) _ l (fun r hr => ⟨List.all_eq_true.mp ha r hr, hl2 r hr⟩) (fun hg => ?_) fun hg Γ => ?_⟩
      · obtain ⟨y, hy, rfl⟩ := List.mem_map.mp (show t ∈ l.map T.d from ht); rfl
      · obtain ⟨rs, rfl, hr⟩ := goodT_ex hg
        have hp : F_heard.pre [.d (rowsD rs)] := ⟨rs, rfl, by rw [List.length_map] at hl1; omega, fun r hr => by have := hl2 (rowD r) (List.mem_map_of_mem hr) _ rfl; rwa [List.length_map] at this⟩
        rw [if_pos (show goodT (.list (rs.map rowD)) = true from hg)]
        show wps T_told_by_0 [.d (rowsD rs), .un, .un] (knR (.ret (.list (iL (heard (rss (.d (rowsD rs))))))))
        rw [rss_rows]
        simp [T_told_by_0, wps, wp, wpF, wpFs, sets, deadS, atW, loc, Yl.get, Yl.put, resW, toW, slT, datW, isBl, fok, foks, fval, fvals, val, vals, valo, items, ok, oks, oko, okr, rd, Yl.bind, binds, bindOk, bindD, T.dat, T.dats, T.isI, T.i, T.b, T.isB, T.sd, T.one, T.kids, T.isL, T.isT, T.isS, T.isN, T.isK, T.s, T.isDat, T.areDat, allSd, binV, binOk, cmpV, cmpOk, Yl.inV, inOk, eqD, ixOk, ixA, slOk, slV, isV, isOk, biV, biOk, srcSd, padS, Oc, isOwnL, tgI, PyData.depth, PyData.depthAll, Ou.isR, Ou.x, Function.comp_def, Wl.isInt, Wl.isBool, Wl.isStr, -List.mem_map, List.forall_mem_map, List.filter_map, hp, o_heard, knR]
      · rw [if_neg (by show ¬ (l.all goodR = true); rw [hg]; simp)]
        rfl
  · have hx : isLst x = false := by simpa using hx
    have hb : goodT x = false := by cases x <;> first | rfl | simp [isLst] at hx
    refine wps_if (bv_or (l := false) (bv_no i1) fun z => by rw [hx] at z; cases z) (fun h => ?_) fun h => by rw [hx] at h; cases h
    rw [hb]; rfl
end VK50

end

section
namespace VK50
open PySem L2 Yl
variable [Wl.Tb]
/-! ### the law's cells -/
def cellv (ns : List Int) (k : Int) : Int := if ns = [] then k * 7919 else (ns[(k % (ns.length : Int)).toNat]?.getD 0) + k / (ns.length : Int) * 104729
def F_cell : PF := ⟨fun ts => ∃ (ns : List Int) (k : Int), ts = [.d (.list (iL ns)), .d (.int k)] ∧ ns.length ≤ 63 ∧ 0 ≤ k ∧ k ≤ 63, fun ts => .ret (.int (cellv (nsT (ts.getD 0 (.h 0))) (ts.getD 1 (.h 0)).i))⟩
theorem o_cell (ns : List Int) (k : Int) : F_cell.out [.d (.list (iL ns)), .d (.int k)] = .ret (.int (cellv ns k)) := by
  show Ou.ret (.int (cellv (nsT (.d (.list (iL ns)))) k)) = _
  rw [nsT_d]
abbrev N__law_cell : List Str := ["_law_script", "_law_k"]
abbrev P__law_cell : List Str := ["_law_script", "_law_k"]
def B__law_cell : Sts := (.cons (.ite (.p (.cmp .eq (.v 0) (.lst .nil))) (.cons (.ret (.p (.bin .mul (.v 1) (.c (.int 7919))))) .nil) .nil) (.cons (.ret (.p (.bin .add (.ix (.v 0) (.bin .mod (.v 1) (.bi .len (.cons (.v 0) .nil)))) (.bin .mul (.bin .div (.v 1) (.bi .len (.cons (.v 0) .nil))) (.c (.int 104729)))))) .nil))
abbrev N__law_drawn : List Str := ["_law_cell_here", "_law_k", "_law_more"]
abbrev P__law_drawn : List Str := ["_law_cell_here", "_law_k"]
def B__law_drawn : Sts := (.cons (.set 2 (.p (.bin .mod (.bin .add (.bin .mul (.v 0) (.c (.int 6364136223846793005))) (.bin .mul (.bin .add (.v 1) (.c (.int 1))) (.c (.int 1442695040888963407)))) (.c (.int 340282366920938463463374607431768211507))))) (.cons (.set 2 (.p (.bin .mod (.bin .mul (.v 2) (.v 2)) (.c (.int 340282366920938463463374607431768211297))))) (.cons (.set 2 (.p (.bin .mul (.bin .mul (.bin .add (.bin .mod (.v 2) (.c (.int 18446744073709551557))) (.c (.int 1))) (.bin .add (.bin .div (.v 2) (.c (.int 18446744073709551557))) (.c (.int 1)))) (.v 2)))) (.cons (.ret (.p (.bin .mod (.v 2) (.c (.int 340282366920938463463374607431768211507))))) .nil))))
theorem w_cell : ∀ ts, F_cell.pre ts → wps B__law_cell (padS N__law_cell (ts.map .w)) (knR (F_cell.out ts)) := by
  rintro _ ⟨ns, k, rfl, hl, h0, h1⟩
  rw [o_cell]
  simp [B__law_cell, wps, wp, wpF, wpFs, sets, deadS, atW, loc, Yl.get, Yl.put, resW, toW, slT, datW, isBl, fok, foks, fval, fvals, val, vals, valo, items, ok, oks, oko, okr, rd, Yl.bind, binds, bindOk, bindD, T.dat, T.dats, T.isI, T.i, T.b, T.isB, T.sd, T.one, T.kids, T.isL, T.isT, T.isS, T.isN, T.isK, T.s, T.isDat, T.areDat, allSd, binV, binOk, cmpV, cmpOk, Yl.inV, inOk, eqD, ixOk, ixA, slOk, slV, isV, isOk, biV, biOk, srcSd, padS, Oc, isOwnL, tgI, PyData.depth, PyData.depthAll, Ou.isR, Ou.x, Function.comp_def, Wl.isInt, Wl.isBool, Wl.isStr, -List.mem_map, List.forall_mem_map, List.filter_map]
  refine ⟨fun h => ⟨cmulr (by decide), by simp [knR, wps, wp, wpF, wpFs, sets, deadS, atW, loc, Yl.get, Yl.put, resW, toW, slT, datW, isBl, fok, foks, fval, fvals, val, vals, valo, items, ok, oks, oko, okr, rd, Yl.bind, binds, bindOk, bindD, T.dat, T.dats, T.isI, T.i, T.b, T.isB, T.sd, T.one, T.kids, T.isL, T.isT, T.isS, T.isN, T.isK, T.s, T.isDat, T.areDat, allSd, binV, binOk, cmpV, cmpOk, Yl.inV, inOk, eqD, ixOk, ixA, slOk, slV, isV, isOk, biV, biOk, srcSd, padS, Oc, isOwnL, tgI, PyData.depth, PyData.depthAll, Ou.isR, Ou.x, Function.comp_def, Wl.isInt, Wl.isBool, Wl.isStr, -List.mem_map, List.forall_mem_map, List.filter_map, cellv, h]⟩, fun h => ?_⟩
  have l0 : 0 < (ns.length : Int) := by have := List.length_pos_iff.mpr h; omega
  have z : (k % (ns.length : Int)).toNat < ns.length := by
    have h1 := Int.emod_nonneg k (Int.ne_of_gt l0)
    have h2 := Int.emod_lt_of_pos k l0
    omega
  have hz : atI ns (k % (ns.length : Int)) = some (ns[(k % (ns.length : Int)).toNat]?.getD 0) := by
    obtain ⟨j, hj⟩ := Int.eq_ofNat_of_zero_le (Int.emod_nonneg k (Int.ne_of_gt l0))
    rw [hj, Int.toNat_natCast, atI_nn]
    rw [hj, Int.toNat_natCast] at z
    rw [List.getElem?_eq_getElem z]
    rfl
  rw [hz]
  simp [wps, wp, wpF, wpFs, sets, deadS, atW, loc, Yl.get, Yl.put, resW, toW, slT, datW, isBl, fok, foks, fval, fvals, val, vals, valo, items, ok, oks, oko, okr, rd, Yl.bind, binds, bindOk, bindD, T.dat, T.dats, T.isI, T.i, T.b, T.isB, T.sd, T.one, T.kids, T.isL, T.isT, T.isS, T.isN, T.isK, T.s, T.isDat, T.areDat, allSd, binV, binOk, cmpV, cmpOk, Yl.inV, inOk, eqD, ixOk, ixA, slOk, slV, isV, isOk, biV, biOk, srcSd, padS, Oc, isOwnL, tgI, PyData.depth, PyData.depthAll, Ou.isR, Ou.x, Function.comp_def, Wl.isInt, Wl.isBool, Wl.isStr, -List.mem_map, List.forall_mem_map, List.filter_map, knR, cellv, h]
  exact ⟨by omega, cdivs l0 (by omega), cmulr (by decide)⟩
def drn (c k : Int) : Int :=
  let m1 := (c * 6364136223846793005 + (k + 1) * 1442695040888963407) % 340282366920938463463374607431768211507
  let m2 := m1 * m1 % 340282366920938463463374607431768211297
  let m3 := (m2 % 18446744073709551557 + 1) * (m2 / 18446744073709551557 + 1) * m2
  m3 % 340282366920938463463374607431768211507
theorem drn_pos (c k : Int) : 0 ≤ drn c k ∧ drn c k < 2 ^ 129 := by
  unfold drn
  exact ⟨Int.emod_nonneg _ (by decide), Int.lt_trans (Int.emod_lt_of_pos _ (by decide)) (by decide)⟩
def F_drn : PF := ⟨fun ts => ∃ c k : Int, ts = [.d (.int c), .d (.int k)] ∧ 0 ≤ k ∧ k ≤ 1000, fun ts => .ret (.int (drn (ts.getD 0 (.h 0)).i (ts.getD 1 (.h 0)).i))⟩
theorem o_drn (c k : Int) : F_drn.out [.d (.int c), .d (.int k)] = .ret (.int (drn c k)) := rfl
theorem w_drn : ∀ ts, F_drn.pre ts → wps B__law_drawn (padS N__law_drawn (ts.map .w)) (knR (F_drn.out ts)) := by
  rintro _ ⟨c, k, rfl, h0, h1⟩
  rw [o_drn]
  unfold drn
  simp only []
  generalize hm1 : (c * 6364136223846793005 + (k + 1) * 1442695040888963407) % 340282366920938463463374607431768211507 = m1
  generalize hm2 : m1 * m1 % 340282366920938463463374607431768211297 = m2
  have b1 : 0 ≤ m1 ∧ m1 < 340282366920938463463374607431768211507 := by rw [← hm1]; exact ⟨Int.emod_nonneg _ (by decide), Int.emod_lt_of_pos _ (by decide)⟩
  have b2 : 0 ≤ m2 ∧ m2 < 340282366920938463463374607431768211297 := by rw [← hm2]; exact ⟨Int.emod_nonneg _ (by decide), Int.emod_lt_of_pos _ (by decide)⟩
  have b3 : 0 ≤ m2 % 18446744073709551557 ∧ m2 % 18446744073709551557 < 18446744073709551557 := ⟨Int.emod_nonneg _ (by decide), Int.emod_lt_of_pos _ (by decide)⟩
  have b4 : 0 ≤ m2 / 18446744073709551557 ∧ m2 / 18446744073709551557 < 2 ^ 70 := by omega
  simp [B__law_drawn, wps, wp, wpF, wpFs, sets, deadS, atW, loc, Yl.get, Yl.put, resW, toW, slT, datW, isBl, fok, foks, fval, fvals, val, vals, valo, items, ok, oks, oko, okr, rd, Yl.bind, binds, bindOk, bindD, T.dat, T.dats, T.isI, T.i, T.b, T.isB, T.sd, T.one, T.kids, T.isL, T.isT, T.isS, T.isN, T.isK, T.s, T.isDat, T.areDat, allSd, binV, binOk, cmpV, cmpOk, Yl.inV, inOk, eqD, ixOk, ixA, slOk, slV, isV, isOk, biV, biOk, srcSd, padS, Oc, isOwnL, tgI, PyData.depth, PyData.depthAll, Ou.isR, Ou.x, Function.comp_def, Wl.isInt, Wl.isBool, Wl.isStr, -List.mem_map, List.forall_mem_map, List.filter_map, hm1, hm2, knR]
  refine ⟨⟨cmulr (by decide), cmulr (by decide)⟩, ?_, ⟨cdivs (by decide) (by decide), ?_⟩, ?_⟩
  · exact .inr (wide_mul (a := 129) (b := 129) (by omega) (by omega) (by decide) (by decide) (by decide))
  · exact .inr (wide_mul (a := 70) (b := 71) (by omega) (by omega) (by decide) (by decide) (by decide))
  · exact .inr (wide_mul (a := 141) (b := 129) (wide_lt (a := 70) (b := 71) (by omega) (by omega)) (by omega) (by decide) (by decide) (by decide))
/-! ### the law's asks -/
def F_asks : PF := ⟨fun ts => ∃ (ns : List Int) (lo : Int), ts = [.d (.list (iL ns)), .d (.int lo)] ∧ ns.length ≤ 60 ∧ ns.Pairwise (· ≤ ·) ∧ 0 ≤ lo ∧ lo ≤ 65536, fun ts => .ret (rowD (hvd (nsT (ts.getD 0 (.h 0))) (ts.getD 1 (.h 0)).i))⟩
theorem o_asks (ns : List Int) (lo : Int) : F_asks.out [.d (.list (iL ns)), .d (.int lo)] = .ret (rowD (hvd ns lo)) := o_halved ns lo
theorem min_head {n : Int} {r : List Int} (h : (n :: r).Pairwise (· ≤ ·)) : Wl.minL (n :: r) = n := by
  have m := Wl.minL_mem (ns := n :: r) (by simp)
  have h1 := m.2 n List.mem_cons_self
  rcases List.mem_cons.mp m.1 with e | e
  · exact e
  · have := (List.pairwise_cons.mp h).1 _ e
    omega
abbrev N__law_asks : List Str := ["_law_left", "_law_low", "_law_found", "_law_high", "_law_turn", "_law_middle"]
abbrev P__law_asks : List Str := ["_law_left", "_law_low"]
def B__law_asks_0 : Sts := (.cons (.ite (.p (.an (.cmp .ne (.v 0) (.lst .nil)) (.on (.cmp .lt (.v 1) (.v 3))))) (.cons (.set 5 (.p (.bin .add (.v 1) (.bin .div (.bin .sub (.v 3) (.v 1)) (.c (.int 2)))))) (.cons (.app (.v 2) (.x (.tup (.cons (.v 5) (.cons (.cmp .le (.ix (.v 0) (.c (.int 0))) (.v 5)) .nil))))) (.cons (.unp [1, 3] (.ite (.cmp .le (.ix (.v 0) (.c (.int 0))) (.v 5)) (.tup (.cons (.v 1) (.cons (.v 5) .nil))) (.tup (.cons (.bin .add (.v 5) (.c (.int 1))) (.cons (.v 3) .nil))))) .nil))) .nil) (.cons (.dead [4, 5]) .nil))
def L__law_asks_0 : T → List Sl → Kn → Prop := fun t Γ K => wps B__law_asks_0 (Yl.bind (.n 4) t Γ) K
def T__law_asks_0 : Sts := (.cons (.dead [4, 5]) (.cons (.ret (.mv 2)) .nil))
def R__law_asks_0 : Sts := (.cons (.for_ (.n 4) (.r1 (.c (.int 17))) B__law_asks_0) T__law_asks_0)
def B__law_asks : Sts := (.cons (.par [2, 3] [(.fx (.l (.cons (.x (.tup (.cons (.c (.int 65535)) (.cons (.cmp .ne (.v 0) (.lst .nil)) .nil)))) .nil))), (.p (.c (.int 65535)))]) R__law_asks_0)
theorem asks_loop {ns : List Int} (hl : ns.length ≤ 60) (hp : ns.Pairwise (· ≤ ·)) (p : PySem.Addr) (K : Kn) (lo0 : Int) (hk : ∀ lo hi : Int, K.nx [.d (.list (iL ns)), .d (.int lo), .o p (.n .l ((hvd ns lo0).map fun q => .d (pr q))), .d (.int hi), .un, .un]) : ∀ (ts : List T) (lo hi : Int) (acc : List (Int × Bool)), acc ++ hv ns ts.length lo hi = hvd ns lo0 → 0 ≤ lo → lo ≤ 65536 → 0 ≤ hi → hi ≤ 65535 → acc.length ≤ 100 →
    forW L__law_asks_0 ts [.d (.list (iL ns)), .d (.int lo), .o p (.n .l (acc.map fun q => .d (pr q))), .d (.int hi), .un, .un] K
  | [], lo, hi, acc, he, _, _, _, _, _ => by
    have e : acc = hvd ns lo0 := by rw [← he]; exact (List.append_nil acc).symm
    rw [e]
    exact hk lo hi
  | t :: ts, lo, hi, acc, he, l1, l2, h1, h2, ha => by
    have hacc : acc.length ≤ 18 := by
      have e := congrArg List.length he
      rw [List.length_append] at e
      have := hv_len ns 17 lo0 65535
      unfold hvd at e
      simp only [List.length_cons] at e
      omega
    have ih := asks_loop hl hp p K lo0 hk ts
    refine forW_cons (?_ : wps B__law_asks_0 (Yl.bind (.n 4) t _) _)
    rw [List.length_cons] at he
    simp [B__law_asks_0, wps, wp, wpF, wpFs, sets, deadS, atW, loc, Yl.get, Yl.put, resW, toW, slT, datW, isBl, fok, foks, fval, fvals, val, vals, valo, items, ok, oks, oko, okr, rd, Yl.bind, binds, bindOk, bindD, T.dat, T.dats, T.isI, T.i, T.b, T.isB, T.sd, T.one, T.kids, T.isL, T.isT, T.isS, T.isN, T.isK, T.s, T.isDat, T.areDat, allSd, binV, binOk, cmpV, cmpOk, Yl.inV, inOk, eqD, ixOk, ixA, slOk, slV, isV, isOk, biV, biOk, srcSd, padS, Oc, isOwnL, tgI, PyData.depth, PyData.depthAll, Ou.isR, Ou.x, Function.comp_def, Wl.isInt, Wl.isBool, Wl.isStr, -List.mem_map, List.forall_mem_map, List.filter_map]
    refine ⟨fun t1 t2 => ?_, fun h => ?_⟩
    · obtain ⟨n, r, rfl⟩ := List.exists_cons_of_ne_nil t1
      have em := min_head hp
      rw [hv_step ⟨t1, t2⟩, em] at he
      have e2 : lo + (hi - lo) / 2 = (lo + hi) / 2 := by omega
      have hm : acc.map (fun q => T.d (pr q)) ++ [T.d (PyData.tuple [PyData.int ((lo + hi) / 2), PyData.bool (decide (n ≤ (lo + hi) / 2))])] = (acc ++ [((lo + hi) / 2, decide (n ≤ (lo + hi) / 2))]).map fun q => T.d (pr q) := by rw [List.map_append]; rfl
      by_cases hk2 : n ≤ (lo + hi) / 2
      · rw [if_pos hk2] at he
        have := ih lo ((lo + hi) / 2) (acc ++ [((lo + hi) / 2, decide (n ≤ (lo + hi) / 2))]) (by rw [← he, List.append_assoc]; rfl) l1 l2 (by omega) (by omega) (by rw [List.length_append]; simp only [List.length_cons, List.length_nil]; omega)
        rw [← hm] at this
        simp [e2, hk2, wps, wp, wpF, wpFs, sets, deadS, atW, loc, Yl.get, Yl.put, resW, toW, slT, datW, isBl, fok, foks, fval, fvals, val, vals, valo, items, ok, oks, oko, okr, rd, Yl.bind, binds, bindOk, bindD, T.dat, T.dats, T.isI, T.i, T.b, T.isB, T.sd, T.one, T.kids, T.isL, T.isT, T.isS, T.isN, T.isK, T.s, T.isDat, T.areDat, allSd, binV, binOk, cmpV, cmpOk, Yl.inV, inOk, eqD, ixOk, ixA, slOk, slV, isV, isOk, biV, biOk, srcSd, padS, Oc, isOwnL, tgI, PyData.depth, PyData.depthAll, Ou.isR, Ou.x, Function.comp_def, Wl.isInt, Wl.isBool, Wl.isStr, -List.mem_map, List.forall_mem_map, List.filter_map] at this ⊢
        exact ⟨cdivs (by decide) (by decide), by omega, this⟩
      · rw [if_neg hk2] at he
        have := ih ((lo + hi) / 2 + 1) hi (acc ++ [((lo + hi) / 2, decide (n ≤ (lo + hi) / 2))]) (by rw [← he, List.append_assoc]; rfl) (by omega) (by omega) h1 h2 (by rw [List.length_append]; simp only [List.length_cons, List.length_nil]; omega)
        rw [← hm] at this
        simp [e2, hk2, wps, wp, wpF, wpFs, sets, deadS, atW, loc, Yl.get, Yl.put, resW, toW, slT, datW, isBl, fok, foks, fval, fvals, val, vals, valo, items, ok, oks, oko, okr, rd, Yl.bind, binds, bindOk, bindD, T.dat, T.dats, T.isI, T.i, T.b, T.isB, T.sd, T.one, T.kids, T.isL, T.isT, T.isS, T.isN, T.isK, T.s, T.isDat, T.areDat, allSd, binV, binOk, cmpV, cmpOk, Yl.inV, inOk, eqD, ixOk, ixA, slOk, slV, isV, isOk, biV, biOk, srcSd, padS, Oc, isOwnL, tgI, PyData.depth, PyData.depthAll, Ou.isR, Ou.x, Function.comp_def, Wl.isInt, Wl.isBool, Wl.isStr, -List.mem_map, List.forall_mem_map, List.filter_map] at this ⊢
        exact ⟨cdivs (by decide) (by decide), by omega, this⟩
    · have hn : ¬ (ns ≠ [] ∧ lo < hi) := fun ⟨t1, t2⟩ => by have := h t1; omega
      refine ih lo hi acc ?_ l1 l2 h1 h2 ha
      rw [hv_end hn] at he ⊢
      exact he
theorem w_asks : ∀ ts, F_asks.pre ts → wps B__law_asks (padS N__law_asks (ts.map .w)) (knR (F_asks.out ts)) := by
  rintro _ ⟨ns, lo, rfl, hl, hp, h0, h1⟩
  rw [o_asks]
  simp [B__law_asks, wps, wp, wpF, wpFs, sets, deadS, atW, loc, Yl.get, Yl.put, resW, toW, slT, datW, isBl, fok, foks, fval, fvals, val, vals, valo, items, ok, oks, oko, okr, rd, Yl.bind, binds, bindOk, bindD, T.dat, T.dats, T.isI, T.i, T.b, T.isB, T.sd, T.one, T.kids, T.isL, T.isT, T.isS, T.isN, T.isK, T.s, T.isDat, T.areDat, allSd, binV, binOk, cmpV, cmpOk, Yl.inV, inOk, eqD, ixOk, ixA, slOk, slV, isV, isOk, biV, biOk, srcSd, padS, Oc, isOwnL, tgI, PyData.depth, PyData.depthAll, Ou.isR, Ou.x, Function.comp_def, Wl.isInt, Wl.isBool, Wl.isStr, -List.mem_map, List.forall_mem_map, List.filter_map]
  intro p
  have h := asks_loop hl hp p { knR (.ret (rowD (hvd ns lo))) with nx := fun Γ' => wps T__law_asks_0 Γ' (knR (.ret (rowD (hvd ns lo)))) } lo (fun lo' hi => by
    simp [T__law_asks_0, wps, wp, wpF, wpFs, sets, deadS, atW, loc, Yl.get, Yl.put, resW, toW, slT, datW, isBl, fok, foks, fval, fvals, val, vals, valo, items, ok, oks, oko, okr, rd, Yl.bind, binds, bindOk, bindD, T.dat, T.dats, T.isI, T.i, T.b, T.isB, T.sd, T.one, T.kids, T.isL, T.isT, T.isS, T.isN, T.isK, T.s, T.isDat, T.areDat, allSd, binV, binOk, cmpV, cmpOk, Yl.inV, inOk, eqD, ixOk, ixA, slOk, slV, isV, isOk, biV, biOk, srcSd, padS, Oc, isOwnL, tgI, PyData.depth, PyData.depthAll, Ou.isR, Ou.x, Function.comp_def, Wl.isInt, Wl.isBool, Wl.isStr, -List.mem_map, List.forall_mem_map, List.filter_map, knR, rowD]) ((List.range 17).map fun k => .d (.int (k : Nat))) lo 65535 [(65535, !decide (ns = []))] (by simp [hvd]) h0 h1 (by decide) (by decide) (by simp)
  simp [R__law_asks_0, wps, wp, wpF, wpFs, sets, deadS, atW, loc, Yl.get, Yl.put, resW, toW, slT, datW, isBl, fok, foks, fval, fvals, val, vals, valo, items, ok, oks, oko, okr, rd, Yl.bind, binds, bindOk, bindD, T.dat, T.dats, T.isI, T.i, T.b, T.isB, T.sd, T.one, T.kids, T.isL, T.isT, T.isS, T.isN, T.isK, T.s, T.isDat, T.areDat, allSd, binV, binOk, cmpV, cmpOk, Yl.inV, inOk, eqD, ixOk, ixA, slOk, slV, isV, isOk, biV, biOk, srcSd, padS, Oc, isOwnL, tgI, PyData.depth, PyData.depthAll, Ou.isR, Ou.x, Function.comp_def, Wl.isInt, Wl.isBool, Wl.isStr, -List.mem_map, List.forall_mem_map, List.filter_map]
  have e : (!ns.isEmpty) = !decide (ns = []) := by cases ns <;> rfl
  simp [e] at h ⊢
  exact h
end VK50

end

section
namespace VK50
open PySem L2 Yl
open Wl (sortI sortI_pw sortI_perm minL minL_mem eqv_self dst)
variable [Wl.Tb]
/-! the plain facts of seeking -/
theorem ask_f : ∀ (r : List Int), ask false r 0 = (List.range (r.length + 1)).map fun at_ => hvd (r.drop at_) 0
  | [] => rfl
  | n :: r => by
    unfold ask
    rw [if_neg (by decide), ask_f r, List.length_cons, List.range_succ_eq_map (n := r.length + 1), List.map_cons, List.map_map]
    rfl
/-- the least asked, place by place -/
def lows (r : List Int) : List Int := 0 :: r.map fun n => n + 1
theorem ask_t : ∀ (r : List Int) (lo : Int), ask true r lo = (List.range (r.length + 1)).map fun at_ => hvd (r.drop at_) ((lo :: r.map fun n => n + 1)[at_]?.getD 0)
  | [], lo => rfl
  | n :: r, lo => by
    unfold ask
    rw [if_pos rfl, ask_t r (n + 1), List.length_cons, List.range_succ_eq_map (n := r.length + 1), List.map_cons, List.map_map]
    rfl
theorem least_cons (q : Int × Bool) (r : List (Int × Bool)) : least (q :: r) = (if q.2 = true then [q.1] else []) ++ least r := by
  unfold least
  rw [List.filter_cons]
  cases q.2 <;> rfl
theorem hv_found {ns : List Int} (hne : ns ≠ []) : ∀ (f : Nat) (lo hi : Int), lo ≤ minL ns → minL ns ≤ hi → (hi - lo).toNat < 2 ^ f → (least ((hi, true) :: hv ns f lo hi)).getLast? = some (minL ns)
  | 0, lo, hi, h1, h2, h3 => by
    have : lo = hi := by rw [Nat.pow_zero] at h3; omega
    have e : hi = minL ns := by omega
    rw [show hv ns 0 lo hi = [] from rfl, least_cons, if_pos rfl]
    show some hi = _
    rw [e]
  | f + 1, lo, hi, h1, h2, h3 => by
    by_cases h : lo < hi
    · rw [hv_step ⟨hne, h⟩]
      rw [Nat.pow_succ] at h3
      by_cases hk : minL ns ≤ (lo + hi) / 2
      · rw [if_pos hk, decide_eq_true hk, least_cons, if_pos rfl]
        have ih := hv_found hne f lo ((lo + hi) / 2) h1 hk (by omega)
        rw [List.getLast?_append, ih]
        rfl
      · rw [if_neg hk, decide_eq_false hk, least_cons, if_pos rfl, least_cons, if_neg (show ¬ (false = true) from Bool.false_ne_true), List.nil_append]
        have ih := hv_found hne f ((lo + hi) / 2 + 1) hi (by omega) h2 (by omega)
        rw [least_cons, if_pos rfl] at ih
        exact ih
    · rw [hv_end (fun z => h z.2), least_cons, if_pos rfl]
      show some hi = _
      rw [show hi = minL ns by omega]
theorem heard_hvd {n lo : Int} {r : List Int} (hp : (n :: r).Pairwise (· ≤ ·)) (h1 : lo ≤ n) (h2 : n ≤ 65535) (h3 : 0 ≤ lo) : (least (hvd (n :: r) lo)).getLast? = some n := by
  have e := hv_found (ns := n :: r) (by simp) 17 lo 65535 (by rw [min_head hp]; exact h1) (by rw [min_head hp]; exact h2) (by show _ < 131072; omega)
  rw [min_head hp] at e
  unfold hvd
  rw [show (!decide (n :: r = [])) = true by simp]
  exact e
theorem heard_nil (lo : Int) : (least (hvd [] lo)).getLast? = none := by
  unfold hvd
  rw [hv_end (fun z => z.1 rfl)]
  rfl
theorem heard_ask {kept : Bool} : ∀ (r : List Int) (lo : Int), r.Pairwise (· < ·) → (∀ n ∈ r, lo ≤ n ∧ n ≤ 65535) → 0 ≤ lo → heard (ask kept r lo) = r
  | [], lo, _, _, _ => by
    unfold ask heard
    rw [List.filterMap_cons, heard_nil]
    rfl
  | n :: r, lo, hp, hb, h0 => by
    have hn := hb n List.mem_cons_self
    have hp' := List.pairwise_cons.mp hp
    unfold ask
    show heard (hvd (n :: r) lo :: _) = _
    unfold heard
    rw [List.filterMap_cons, heard_hvd (hp.imp fun h => Int.le_of_lt h) hn.1 hn.2 h0]
    show n :: heard _ = _
    have g1 : ∀ m ∈ r, (if kept = true then n + 1 else lo) ≤ m ∧ m ≤ 65535 := fun m hm => by
      have := hp'.1 m hm
      have := hb m (List.mem_cons_of_mem _ hm)
      split <;> omega
    have g2 : 0 ≤ (if kept = true then n + 1 else lo) := by
      have := hn.1
      split <;> omega
    rw [heard_ask r _ hp'.2 g1 g2]
/-- how many are asked -/
theorem hv_most (ns : List Int) : ∀ (f : Nat) (g : Nat) (lo hi : Int), (hi - lo).toNat < 2 ^ g → (hv ns f lo hi).length ≤ g
  | 0, g, _, _, _ => Nat.zero_le _
  | f + 1, g, lo, hi, h => by
    by_cases hc : ns ≠ [] ∧ lo < hi
    · obtain ⟨g', rfl, f1, f2⟩ := half_a hc.2 h
      rw [hv_step hc]
      split
      · rw [List.length_cons]; have := hv_most ns f g' lo ((lo + hi) / 2) f1; omega
      · rw [List.length_cons]; have := hv_most ns f g' ((lo + hi) / 2 + 1) hi f2; omega
    · rw [hv_end hc]; exact Nat.zero_le _
theorem hv_all {ns : List Int} (hne : ns ≠ []) : ∀ (g f : Nat) (lo hi : Int), g ≤ f → hi - lo = 2 ^ g - 1 → (hv ns f lo hi).length = g
  | 0, f, lo, hi, _, h => by
    rw [hv_end (fun z => by have := z.2; omega)]
    rfl
  | g + 1, f, lo, hi, hf, h => by
    obtain ⟨f', rfl⟩ : ∃ f', f = f' + 1 := ⟨f - 1, by omega⟩
    have hp : (0 : Int) < 2 ^ g := Int.pow_pos (by decide)
    rw [Int.pow_succ] at h
    rw [hv_step ⟨hne, by omega⟩]
    split
    · rw [List.length_cons, hv_all hne g f' lo ((lo + hi) / 2) (by omega) (by omega)]
    · rw [List.length_cons, hv_all hne g f' ((lo + hi) / 2 + 1) hi (by omega) (by omega)]
theorem hvd_le {ns : List Int} {lo : Int} (h : 0 ≤ lo) : (hvd ns lo).length ≤ (hvd ns 0).length := by
  unfold hvd
  rw [List.length_cons, List.length_cons]
  by_cases hne : ns = []
  · subst hne
    rw [hv_end (fun z => z.1 rfl), hv_end (fun z => z.1 rfl)]
    exact Nat.le_refl _
  · rw [hv_all hne 16 17 0 65535 (by decide) (by decide)]
    have := hv_most ns 17 16 lo 65535 (by show _ < 65536; omega)
    omega
theorem ask_sum : ∀ (r : List Int) (lo : Int), 0 ≤ lo → (∀ n ∈ r, 0 ≤ n) → ((ask true r lo).map fun x => ((x.length : Nat) : Int)).sum ≤ ((ask false r 0).map fun x => ((x.length : Nat) : Int)).sum
  | [], lo, h, _ => by
    have := hvd_le (ns := []) h
    unfold ask
    simp only [List.map_cons, List.map_nil, List.sum_cons, List.sum_nil]
    omega
  | n :: r, lo, h, hb => by
    have h1 := hvd_le (ns := n :: r) h
    have h2 := ask_sum r (n + 1) (by have := hb n List.mem_cons_self; omega) fun m hm => hb m (List.mem_cons_of_mem _ hm)
    unfold ask
    rw [if_pos rfl, if_neg (by decide), List.map_cons, List.map_cons, List.sum_cons, List.sum_cons]
    omega
theorem sort_lt {ns : List Int} (h : ns.Nodup) : (sortI ns).Pairwise (· < ·) := by
  have h1 := sortI_pw ns
  have h2 : (sortI ns).Nodup := (sortI_perm ns).nodup_iff.mpr h
  exact (List.pairwise_and_iff.mpr ⟨h1, h2⟩).imp fun ⟨a, b⟩ => by omega
theorem rows_plain (rs : List (List (Int × Bool))) : (rowsD rs).plain = true := by
  have h2 : ∀ r : List (Int × Bool), PyData.plainAll (r.map pr) = true := fun r => by
    induction r with
    | nil => rfl
    | cons q r ih =>
      show (PyData.plain (pr q) && PyData.plainAll (r.map pr)) = true
      rw [ih]; rfl
  have h1 : PyData.plainAll (rs.map rowD) = true := by
    induction rs with
    | nil => rfl
    | cons r rs ih =>
      show (PyData.plain (rowD r) && PyData.plainAll (rs.map rowD)) = true
      rw [ih, show PyData.plain (rowD r) = true from h2 r]; rfl
  exact h1
theorem rows_eqv (rs : List (List (Int × Bool))) : PyData.eqv (rowsD rs) (rowsD rs) = true := eqv_self (rows_plain rs)
theorem rows_depth (rs : List (List (Int × Bool))) : PyData.depth (rowsD rs) ≤ 5 := by
  have h2 : ∀ r : List (Int × Bool), PyData.depthAll (r.map pr) ≤ 1 := fun r => by
    induction r with
    | nil => decide
    | cons q r ih =>
      show max (PyData.depth (pr q)) (PyData.depthAll (r.map pr)) ≤ 1
      have : PyData.depth (pr q) = 1 := rfl
      omega
  have h1 : PyData.depthAll (rs.map rowD) ≤ 3 := by
    induction rs with
    | nil => decide
    | cons r rs ih =>
      show max (PyData.depth (rowD r)) (PyData.depthAll (rs.map rowD)) ≤ 3
      have : PyData.depth (rowD r) = PyData.depthAll (r.map pr) + 1 := rfl
      have := h2 r
      omega
  show PyData.depthAll (rs.map rowD) + 1 ≤ 5
  omega
theorem ask_mem {kept : Bool} : ∀ {l : List Int} {lo : Int} {r : List (Int × Bool)}, r ∈ ask kept l lo → ∃ l' lo', r = hvd l' lo'
  | [], lo, r, h => ⟨[], lo, List.mem_singleton.mp h⟩
  | n :: l, lo, r, h => by
    unfold ask at h
    rcases List.mem_cons.mp h with h | h
    · exact ⟨_, _, h⟩
    · exact ask_mem h
theorem hv_rng {ns : List Int} : ∀ (f : Nat) (lo hi : Int) (q : Int × Bool), 0 ≤ lo → hi ≤ 65535 → q ∈ hv ns f lo hi → rng q.1
  | 0, _, _, _, _, _, h => by cases h
  | f + 1, lo, hi, q, h1, h2, h => by
    by_cases hc : ns ≠ [] ∧ lo < hi
    · rw [hv_step hc] at h
      rcases List.mem_cons.mp h with h | h
      · rw [h]; exact ⟨show 0 ≤ (lo + hi) / 2 by omega, show (lo + hi) / 2 ≤ 65535 by omega⟩
      · split at h
        · exact hv_rng f lo ((lo + hi) / 2) q h1 (by omega) h
        · exact hv_rng f ((lo + hi) / 2 + 1) hi q (by omega) h2 h
    · rw [hv_end hc] at h; cases h
theorem ask_rng {kept : Bool} : ∀ {l : List Int} {lo : Int} {r : List (Int × Bool)} {q : Int × Bool}, 0 ≤ lo → lo ≤ 65536 → (∀ n ∈ l, rng n) → r ∈ ask kept l lo → q ∈ r → rng q.1
  | [], lo, r, q, h1, h2, h3, h, hq => by
    rw [List.mem_singleton.mp h] at hq
    rcases List.mem_cons.mp hq with e | e
    · rw [e]; exact ⟨show (0 : Int) ≤ 65535 by decide, show (65535 : Int) ≤ 65535 by decide⟩
    · exact hv_rng _ _ _ _ h1 (by decide) e
  | n :: l, lo, r, q, h1, h2, h3, h, hq => by
    unfold ask at h
    rcases List.mem_cons.mp h with h | h
    · rw [h] at hq
      rcases List.mem_cons.mp hq with e | e
      · rw [e]; exact ⟨show (0 : Int) ≤ 65535 by decide, show (65535 : Int) ≤ 65535 by decide⟩
      · exact hv_rng _ _ _ _ h1 (by decide) e
    · have hn := h3 n List.mem_cons_self
      unfold rng at hn
      exact ask_rng (by split <;> omega) (by split <;> omega) (fun m hm => h3 m (List.mem_cons_of_mem _ hm)) h hq
def own (h d : Int) : Int := ([d / 8 % 65536, h / 64 % 65000 + d / 8 % 30, 65535 - d / 8 % 3, d / 8 % 3] : List Int)[(d % 4).toNat]?.getD 0
theorem own_at (h d : Int) : atI ([PyData.int (d / 8 % 65536), PyData.int (h / 64 % 65000 + d / 8 % 30)] ++ [PyData.int (65535 - d / 8 % 3), PyData.int (d / 8 % 3)]) (d % 4) = some (.int (own h d)) ∧ rng (own h d) := by
  have h1 := Int.emod_nonneg d (show (4 : Int) ≠ 0 by decide)
  have h2 := Int.emod_lt_of_pos d (show (0 : Int) < 4 by decide)
  unfold own rng
  rcases (show d % 4 = 0 ∨ d % 4 = 1 ∨ d % 4 = 2 ∨ d % 4 = 3 by omega) with e | e | e | e <;> rw [e]
  · exact ⟨rfl, show 0 ≤ d / 8 % 65536 by omega, show d / 8 % 65536 ≤ 65535 by omega⟩
  · exact ⟨rfl, show 0 ≤ h / 64 % 65000 + d / 8 % 30 by omega, show h / 64 % 65000 + d / 8 % 30 ≤ 65535 by omega⟩
  · exact ⟨rfl, show 0 ≤ 65535 - d / 8 % 3 by omega, show 65535 - d / 8 % 3 ≤ 65535 by omega⟩
  · exact ⟨rfl, show 0 ≤ d / 8 % 3 by omega, show d / 8 % 3 ≤ 65535 by omega⟩
end VK50

end

section
namespace VK50
open PySem L2 Yl
variable [Wl.Tb]
/-- told(lambda: ..): the six classes -/
def six : List Str := ["BadHouse", "BadWord", "BadNumber", "BadWish", "NoWay", "BadText"]
def td0 : Td := ⟨"_law_told", id, fun n => n ∈ six⟩
abbrev N_law : List Str := ["_law_script", "_law_k", "_law_more", "_law_j", "_law_here", "_law_longs", "_law_n", "_law_deep", "_law_some", "_law_own", "_law_row", "_law_at", "_law_due", "_law_one", "_law_lows", "_law_due_kept", "_law_bad"]
abbrev P_law : List Str := ["_law_script"]
def B_law_2 : Sts := (.cons (.set 7 (.p (.call F_drn "_law_drawn" (.cons (.v 4) (.cons (.v 6) .nil))))) (.cons (.set 8 (.p (.lst (.cons (.bin .mod (.bin .div (.v 7) (.c (.int 8))) (.c (.int 65536))) (.cons (.bin .add (.bin .mod (.bin .div (.v 4) (.c (.int 64))) (.c (.int 65000))) (.bin .mod (.bin .div (.v 7) (.c (.int 8))) (.c (.int 30)))) .nil))))) (.cons (.set 9 (.p (.ix (.bin .add (.v 8) (.lst (.cons (.bin .sub (.c (.int 65535)) (.bin .mod (.bin .div (.v 7) (.c (.int 8))) (.c (.int 3)))) (.cons (.bin .mod (.bin .div (.v 7) (.c (.int 8))) (.c (.int 3))) .nil)))) (.bin .mod (.v 7) (.c (.int 4)))))) (.cons (.ite (.p (.cmp .nin (.v 9) (.v 5))) (.cons (.app (.v 5) (.x (.v 9))) .nil) .nil) (.cons (.dead [6, 7, 8, 9]) .nil)))))
def L_law_2 : T → List Sl → Kn → Prop := fun t Γ K => wps B_law_2 (Yl.bind (.n 6) t Γ) K
def T_law_2 : Sts := (.cons (.dead [6, 7, 8, 9]) (.cons (.frz 5) (.cons (.set 10 (.p (.bi .sorted (.cons (.v 5) .nil)))) (.cons (.setlc 12 false (.n 11) (.r1 (.bin .add (.bi .len (.cons (.v 10) .nil)) (.c (.int 1)))) (.c (.bool true)) (.call F_asks "_law_asks" (.cons (.sl (.v 10) (.so (.v 11)) .no) (.cons (.c (.int 0)) .nil)))) (.cons (.set 14 (.p (.bin .add (.lst (.cons (.c (.int 0)) .nil)) (.lc (.n 13) (.it (.v 10)) (.c (.bool true)) (.bin .add (.v 13) (.c (.int 1))))))) (.cons (.setlc 15 false (.n 11) (.r1 (.bin .add (.bi .len (.cons (.v 10) .nil)) (.c (.int 1)))) (.c (.bool true)) (.call F_asks "_law_asks" (.cons (.sl (.v 10) (.so (.v 11)) .no) (.cons (.ix (.v 14) (.v 11)) .nil)))) (.cons (.ite (.p (.or (.cmp .ne (.call (F_ask false) "plain" (.cons (.v 5) .nil)) (.v 12)) (.on (.cmp .ne (.call (F_ask true) "quick" (.cons (.v 5) .nil)) (.v 15))))) (.cons (.ret (.p (.c (.bool false)))) .nil) .nil) (.cons (.ite (.p (.or (.cmp .ne (.call F_told_by "told_by" (.cons (.v 12) .nil)) (.v 10)) (.or (.cmp .ne (.call F_told_by "told_by" (.cons (.v 15) .nil)) (.v 10)) (.on (.cmp .ne (.call F_told_by "told_by" (.cons (.lst .nil) .nil)) (.lst .nil)))))) (.cons (.ret (.p (.c (.bool false)))) .nil) .nil) (.cons (.ite (.p (.cmp .gt (.bi .sum (.cons (.lc (.n 13) (.it (.v 15)) (.c (.bool true)) (.bi .len (.cons (.v 13) .nil))) .nil)) (.bi .sum (.cons (.lc (.n 13) (.it (.v 12)) (.c (.bool true)) (.bi .len (.cons (.v 13) .nil))) .nil)))) (.cons (.ret (.p (.c (.bool false)))) .nil) .nil) (.cons (.dead [3, 4, 5, 6, 7, 8, 9, 10, 12, 14, 15]) .nil))))))))))
def R_law_2 : Sts := (.cons (.for_ (.n 6) (.r1 (.bin .mod (.v 4) (.c (.int 12)))) B_law_2) T_law_2)
def B_law_1 : Sts := (.cons (.set 4 (.p (.call F_drn "_law_drawn" (.cons (.v 2) (.cons (.bin .add (.c (.int 10)) (.v 3)) .nil))))) (.cons (.set 5 (.fx (.l .nil))) R_law_2))
def L_law_1 : T → List Sl → Kn → Prop := fun t Γ K => wps B_law_1 (Yl.bind (.n 3) t Γ) K
def B_law_3 : Sts := (.cons (.ite (.cmp .ne (.told td0 (.callr (F_ask false) "plain" (.cons (.v 16) .nil))) (.p (.c (.str "BadHouse")))) (.cons (.ret (.p (.c (.bool false)))) .nil) .nil) (.cons (.ite (.cmp .ne (.told td0 (.callr (F_ask true) "quick" (.cons (.v 16) .nil))) (.p (.c (.str "BadHouse")))) (.cons (.ret (.p (.c (.bool false)))) .nil) .nil) (.cons (.dead [16]) .nil)))
def L_law_3 : T → List Sl → Kn → Prop := fun t Γ K => wps B_law_3 (Yl.bind (.n 16) t Γ) K
def B_law_4 : Sts := (.cons (.ite (.cmp .ne (.told td0 (.callr F_told_by "told_by" (.cons (.v 16) .nil))) (.p (.c (.str "BadHouse")))) (.cons (.ret (.p (.c (.bool false)))) .nil) .nil) (.cons (.dead [16]) .nil))
def L_law_4 : T → List Sl → Kn → Prop := fun t Γ K => wps B_law_4 (Yl.bind (.n 16) t Γ) K
def T_law_4 : Sts := (.cons (.dead [16]) (.cons (.dead [1, 2, 3, 4, 5, 6, 7, 8, 9, 10, 12, 14, 15, 16]) .nil))
def R_law_4 : Sts := (.cons (.for_ (.n 16) (.it (.lst (.cons (.c .none) (.cons (.tup .nil) (.cons (.lst (.cons (.c .none) .nil)) (.cons (.lst (.cons (.lst (.cons (.c (.int 1)) .nil)) .nil)) (.cons (.lst (.cons (.lst (.cons (.tup (.cons (.c (.int 1)) .nil)) .nil)) .nil)) (.cons (.lst (.cons (.lst (.cons (.tup (.cons (.c (.int 1)) (.cons (.c (.int 1)) .nil))) .nil)) .nil)) (.cons (.lst (.cons (.lst (.cons (.tup (.cons (.c (.int 65536)) (.cons (.c (.bool true)) .nil))) .nil)) .nil)) (.cons (.lst (.cons (.lst (.cons (.lst (.cons (.c (.int 1)) (.cons (.c (.bool true)) .nil))) .nil)) .nil)) (.cons (.lst (.cons (.tup (.cons (.c (.int 1)) (.cons (.c (.bool true)) .nil))) .nil)) .nil))))))))))) B_law_4) T_law_4)
def T_law_3 : Sts := (.cons (.dead [16]) R_law_4)
def R_law_3 : Sts := (.cons (.for_ (.n 16) (.it (.lst (.cons (.c .none) (.cons (.tup (.cons (.c (.int 1)) .nil)) (.cons (.lst (.cons (.neg (.c (.int 1))) .nil)) (.cons (.lst (.cons (.c (.int 65536)) .nil)) (.cons (.lst (.cons (.c (.int 1)) (.cons (.c (.int 1)) .nil))) (.cons (.lst (.cons (.c (.str "1")) .nil)) (.cons (.lst (.cons (.c (.bool true)) .nil)) .nil))))))))) B_law_3) T_law_3)
def T_law_1 : Sts := (.cons (.dead [3, 4, 5, 6, 7, 8, 9, 10, 12, 14, 15]) R_law_3)
def R_law_1 : Sts := (.cons (.for_ (.n 3) (.r1 (.c (.int 4))) B_law_1) T_law_1)
def B_law_0 : Sts := (.cons (.set 2 (.p (.call F_drn "_law_drawn" (.cons (.call F_cell "_law_cell" (.cons (.v 0) (.cons (.v 1) .nil))) (.cons (.v 1) .nil))))) R_law_1)
def L_law_0 : T → List Sl → Kn → Prop := fun t Γ K => wps B_law_0 (Yl.bind (.n 1) t Γ) K
def T_law_0 : Sts := (.cons (.dead [1, 2, 3, 4, 5, 6, 7, 8, 9, 10, 12, 14, 15, 16]) (.cons (.ret (.p (.c (.bool true)))) .nil))
def R_law_0 : Sts := (.cons (.for_ (.n 1) (.r1 (.bi .max2 (.cons (.c (.int 1)) (.cons (.bi .min2 (.cons (.c (.int 3)) (.cons (.bi .len (.cons (.v 0) .nil)) .nil))) .nil)))) B_law_0) T_law_0)
def B_law : Sts := R_law_0
theorem longs_loop {cs : List Int} {k mo h j : Int} {p : PySem.Addr} {K : Kn} (hk : ∀ ns : List Int, lgs ns → ns.Nodup → K.nx [.d (.list (iL cs)), .d (.int k), .d (.int mo), .d (.int j), .d (.int h), .o p (.n .l (ns.map fun n => .d (.int n))), .un, .un, .un, .un, .un, .un, .un, .un, .un, .un, .un]) : ∀ (l : List Nat) (ns : List Int), (∀ i ∈ l, i < 12) → ns.Nodup → ns.length + l.length ≤ 12 → (∀ n ∈ ns, rng n) →
    forW L_law_2 (l.map fun i => .d (.int (i : Nat))) [.d (.list (iL cs)), .d (.int k), .d (.int mo), .d (.int j), .d (.int h), .o p (.n .l (ns.map fun n => .d (.int n))), .un, .un, .un, .un, .un, .un, .un, .un, .un, .un, .un] K
  | [], ns, _, hd, hl, hr => hk ns ⟨by rw [List.length_nil] at hl; omega, hr⟩ hd
  | i :: l, ns, hi, hd, hl, hr => by
    have ih := longs_loop hk l
    refine forW_cons (?_ : wps B_law_2 (Yl.bind (.n 6) _ _) _)
    rw [List.length_cons] at hl
    have h12 := hi i List.mem_cons_self
    have hp : F_drn.pre [.d (.int h), .d (.int (i : Nat))] := ⟨h, i, rfl, by omega, by omega⟩
    obtain ⟨oz, og⟩ := own_at h (drn h i)
    simp only [List.cons_append, List.nil_append] at oz
    have ozT := (atI_map T.d _ _).trans (congrArg (Option.map T.d) oz)
    simp only [List.map_cons, List.map_nil, Option.map_some] at ozT
    have d8 : ∀ a : Int, CDivW a 8 := fun a => cdivs (by decide) (by decide)
    have d64 : ∀ a : Int, CDivW a 64 := fun a => cdivs (by decide) (by decide)
    have s4 : 4 ≤ sizeLine := by decide
    simp [B_law_2, wps, wp, wpF, wpFs, sets, deadS, atW, loc, Yl.get, Yl.put, resW, toW, slT, datW, isBl, fok, foks, fval, fvals, val, vals, valo, items, ok, oks, oko, okr, rd, Yl.bind, binds, bindOk, bindD, T.dat, T.dats, T.isI, T.i, T.b, T.isB, T.sd, T.one, T.kids, T.isL, T.isT, T.isS, T.isN, T.isK, T.s, T.isDat, T.areDat, allSd, binV, binOk, cmpV, cmpOk, Yl.inV, inOk, eqD, ixOk, ixA, slOk, slV, isV, isOk, biV, biOk, srcSd, padS, Oc, isOwnL, tgI, PyData.depth, PyData.depthAll, Ou.isR, Ou.x, Function.comp_def, Wl.isInt, Wl.isBool, Wl.isStr, -List.mem_map, List.forall_mem_map, List.filter_map, hp, o_drn, ozT, d8, d64, s4]
    refine ⟨fun hm => ⟨by omega, ?_⟩, fun hm => ih ns (fun x hx => hi x (List.mem_cons_of_mem _ hx)) hd (by omega) hr⟩
    have := ih (ns ++ [own h (drn h i)]) (fun x hx => hi x (List.mem_cons_of_mem _ hx)) (List.nodup_append.mpr ⟨hd, by simp, fun a ha b hb z => hm (by rw [← List.mem_singleton.mp hb, ← z]; exact ha)⟩) (by rw [List.length_append]; simp only [List.length_cons, List.length_nil]; omega) (fun n hn => by
      rcases List.mem_append.mp hn with hn | hn
      · exact hr n hn
      · rw [List.mem_singleton.mp hn]; exact og)
    rw [List.map_append] at this
    exact this
/-- the rows asked, told, summed -/
theorem rows_ok {cs ns : List Int} {k mo h j : Int} {K : Kn} (hns : lgs ns) (hnd : ns.Nodup) {p : PySem.Addr} (hk : K.nx [.d (.list (iL cs)), .d (.int k), .d (.int mo), .un, .un, .un, .un, .un, .un, .un, .un, .un, .un, .un, .un, .un, .un]) :
    wps T_law_2 [.d (.list (iL cs)), .d (.int k), .d (.int mo), .d (.int j), .d (.int h), .o p (.n .l (ns.map fun n => .d (.int n))), .un, .un, .un, .un, .un, .un, .un, .un, .un, .un, .un] K := by
  have hs := sort_lgs hns
  have hlt := sort_lt hnd
  have hle : (Wl.sortI ns).Pairwise (· ≤ ·) := hlt.imp fun h => Int.le_of_lt h
  have hperm := (Wl.sortI_perm ns).length_eq
  have dd : Wl.dst ns = ns.length := Wl.dst_nodup hnd
  have gl : goodL (.list (iL ns)) = true := by
    simp only [goodL, iL_ints, Option.getD_some, dd, iL_len, decide_true, Bool.and_true, List.all_eq_true]
    intro y hy
    obtain ⟨n, hn, rfl⟩ := List.mem_map.mp hy
    have := hns.2 n hn
    simp [cnt, this.1, this.2]
  generalize hr : Wl.sortI ns = r at *
  have ed : T.dats (ns.map fun n => T.d (.int n)) = iL ns := dats_f _ _
  have okA : ∀ kept, (F_ask kept).pre [.d (.list (iL ns))] := fun kept => ⟨_, rfl, fun l e => by cases e; rw [iL_len]; exact hns.1⟩
  have oA : ∀ kept, (F_ask kept).out [.d (.list (iL ns))] = .ret (rowsD (ask kept r 0)) := fun kept => by rw [o_ask, if_pos gl, nsT_d, hr]
  unfold T_law_2
  refine wps_dead (wps_frz (p := p) rfl (all_sd_f _ _) ?_)
  rw [ed]
  refine wps_set (x := .list (iL r)) (by simp [Vv, wps, wp, wpF, wpFs, sets, deadS, atW, loc, Yl.get, Yl.put, resW, toW, slT, datW, isBl, fok, foks, fval, fvals, val, vals, valo, items, ok, oks, oko, okr, rd, Yl.bind, binds, bindOk, bindD, T.dat, T.dats, T.isI, T.i, T.b, T.isB, T.sd, T.one, T.kids, T.isL, T.isT, T.isS, T.isN, T.isK, T.s, T.isDat, T.areDat, allSd, binV, binOk, cmpV, cmpOk, Yl.inV, inOk, eqD, ixOk, ixA, slOk, slV, isV, isOk, biV, biOk, srcSd, padS, Oc, isOwnL, tgI, PyData.depth, PyData.depthAll, Ou.isR, Ou.x, Function.comp_def, Wl.isInt, Wl.isBool, Wl.isStr, -List.mem_map, List.forall_mem_map, List.filter_map, hr]; rfl) ?_
  refine wps_setlc (x := rowsD (ask false r 0)) ?_ ?_
  · have := vv_lc (tg := .n 11) (s := .r1 (.bin .add (.bi .len (.cons (.v 10) .nil)) (.c (.int 1)))) (p := .c (.bool true)) (e := .call F_asks "_law_asks" (.cons (.sl (.v 10) (.so (.v 11)) .no) (.cons (.c (.int 0)) .nil))) (Γ := [.d (.list (iL cs)), .d (.int k), .d (.int mo), .d (.int j), .d (.int h), .d (.list (iL ns)), .un, .un, .un, .un, .d (.list (iL r)), .un, .un, .un, .un, .un, .un]) (fun _ => true) (fun t => rowD (hvd (r.drop t.i.toNat) 0)) (by simp [wps, wp, wpF, wpFs, sets, deadS, atW, loc, Yl.get, Yl.put, resW, toW, slT, datW, isBl, fok, foks, fval, fvals, val, vals, valo, items, ok, oks, oko, okr, rd, Yl.bind, binds, bindOk, bindD, T.dat, T.dats, T.isI, T.i, T.b, T.isB, T.sd, T.one, T.kids, T.isL, T.isT, T.isS, T.isN, T.isK, T.s, T.isDat, T.areDat, allSd, binV, binOk, cmpV, cmpOk, Yl.inV, inOk, eqD, ixOk, ixA, slOk, slV, isV, isOk, biV, biOk, srcSd, padS, Oc, isOwnL, tgI, PyData.depth, PyData.depthAll, Ou.isR, Ou.x, Function.comp_def, Wl.isInt, Wl.isBool, Wl.isStr, -List.mem_map, List.forall_mem_map, List.filter_map]; have := hs.1; omega) (by simp [wps, wp, wpF, wpFs, sets, deadS, atW, loc, Yl.get, Yl.put, resW, toW, slT, datW, isBl, fok, foks, fval, fvals, val, vals, valo, items, ok, oks, oko, okr, rd, Yl.bind, binds, bindOk, bindD, T.dat, T.dats, T.isI, T.i, T.b, T.isB, T.sd, T.one, T.kids, T.isL, T.isT, T.isS, T.isN, T.isK, T.s, T.isDat, T.areDat, allSd, binV, binOk, cmpV, cmpOk, Yl.inV, inOk, eqD, ixOk, ixA, slOk, slV, isV, isOk, biV, biOk, srcSd, padS, Oc, isOwnL, tgI, PyData.depth, PyData.depthAll, Ou.isR, Ou.x, Function.comp_def, Wl.isInt, Wl.isBool, Wl.isStr, -List.mem_map, List.forall_mem_map, List.filter_map]; have := hs.1; omega) fun t ht => by
      obtain ⟨a, ha, rfl⟩ := List.mem_map.mp ht
      refine ⟨trivial, ⟨trivial, rfl⟩, fun _ => ?_⟩
      refine vv_call (ts := [.d (.list (iL (r.drop a))), .d (.int 0)]) (by simp [wps, wp, wpF, wpFs, sets, deadS, atW, loc, Yl.get, Yl.put, resW, toW, slT, datW, isBl, fok, foks, fval, fvals, val, vals, valo, items, ok, oks, oko, okr, rd, Yl.bind, binds, bindOk, bindD, T.dat, T.dats, T.isI, T.i, T.b, T.isB, T.sd, T.one, T.kids, T.isL, T.isT, T.isS, T.isN, T.isK, T.s, T.isDat, T.areDat, allSd, binV, binOk, cmpV, cmpOk, Yl.inV, inOk, eqD, ixOk, ixA, slOk, slV, isV, isOk, biV, biOk, srcSd, padS, Oc, isOwnL, tgI, PyData.depth, PyData.depthAll, Ou.isR, Ou.x, Function.comp_def, Wl.isInt, Wl.isBool, Wl.isStr, -List.mem_map, List.forall_mem_map, List.filter_map, cutL_nn]) ⟨_, _, rfl, by rw [List.length_drop]; have := hs.1; omega, hle.drop, by decide, by decide⟩ (by rw [o_asks]; rfl)
    have e2 : (((items (.r1 (.bin .add (.bi .len (.cons (.v 10) .nil)) (.c (.int 1)))) [.d (.list (iL cs)), .d (.int k), .d (.int mo), .d (.int j), .d (.int h), .d (.list (iL ns)), .un, .un, .un, .un, .d (.list (iL r)), .un, .un, .un, .un, .un, .un]).filter fun _ => true).map fun t => rowD (hvd (r.drop t.i.toNat) 0)) = (ask false r 0).map rowD := by
      rw [ask_f]
      simp [wps, wp, wpF, wpFs, sets, deadS, atW, loc, Yl.get, Yl.put, resW, toW, slT, datW, isBl, fok, foks, fval, fvals, val, vals, valo, items, ok, oks, oko, okr, rd, Yl.bind, binds, bindOk, bindD, T.dat, T.dats, T.isI, T.i, T.b, T.isB, T.sd, T.one, T.kids, T.isL, T.isT, T.isS, T.isN, T.isK, T.s, T.isDat, T.areDat, allSd, binV, binOk, cmpV, cmpOk, Yl.inV, inOk, eqD, ixOk, ixA, slOk, slV, isV, isOk, biV, biOk, srcSd, padS, Oc, isOwnL, tgI, PyData.depth, PyData.depthAll, Ou.isR, Ou.x, Function.comp_def, Wl.isInt, Wl.isBool, Wl.isStr, -List.mem_map, List.forall_mem_map, List.filter_map]
    rw [e2] at this
    exact this
  refine wps_set (x := .list (iL (lows r))) ?_ ?_
  · have hl : r.length ≤ 60 := hs.1
    have e3 : (PyData.int 0 :: r.map fun n => PyData.int (n + 1)) = iL (lows r) := by simp [iL, lows]
    have s1 : r.length + 1 ≤ sizeLine := Nat.le_trans (show _ ≤ 61 by omega) (by decide)
    simp [Vv, wps, wp, wpF, wpFs, sets, deadS, atW, loc, Yl.get, Yl.put, resW, toW, slT, datW, isBl, fok, foks, fval, fvals, val, vals, valo, items, ok, oks, oko, okr, rd, Yl.bind, binds, bindOk, bindD, T.dat, T.dats, T.isI, T.i, T.b, T.isB, T.sd, T.one, T.kids, T.isL, T.isT, T.isS, T.isN, T.isK, T.s, T.isDat, T.areDat, allSd, binV, binOk, cmpV, cmpOk, Yl.inV, inOk, eqD, ixOk, ixA, slOk, slV, isV, isOk, biV, biOk, srcSd, padS, Oc, isOwnL, tgI, PyData.depth, PyData.depthAll, Ou.isR, Ou.x, Function.comp_def, Wl.isInt, Wl.isBool, Wl.isStr, -List.mem_map, List.forall_mem_map, List.filter_map, iL, lows]
    omega
  refine wps_setlc (x := rowsD (ask true r 0)) ?_ ?_
  · have := vv_lc (tg := .n 11) (s := .r1 (.bin .add (.bi .len (.cons (.v 10) .nil)) (.c (.int 1)))) (p := .c (.bool true)) (e := .call F_asks "_law_asks" (.cons (.sl (.v 10) (.so (.v 11)) .no) (.cons (.ix (.v 14) (.v 11)) .nil))) (Γ := [.d (.list (iL cs)), .d (.int k), .d (.int mo), .d (.int j), .d (.int h), .d (.list (iL ns)), .un, .un, .un, .un, .d (.list (iL r)), .un, .d (rowsD (ask false r 0)), .un, .d (.list (iL (lows r))), .un, .un]) (fun _ => true) (fun t => rowD (hvd (r.drop t.i.toNat) ((lows r)[t.i.toNat]?.getD 0))) (by simp [wps, wp, wpF, wpFs, sets, deadS, atW, loc, Yl.get, Yl.put, resW, toW, slT, datW, isBl, fok, foks, fval, fvals, val, vals, valo, items, ok, oks, oko, okr, rd, Yl.bind, binds, bindOk, bindD, T.dat, T.dats, T.isI, T.i, T.b, T.isB, T.sd, T.one, T.kids, T.isL, T.isT, T.isS, T.isN, T.isK, T.s, T.isDat, T.areDat, allSd, binV, binOk, cmpV, cmpOk, Yl.inV, inOk, eqD, ixOk, ixA, slOk, slV, isV, isOk, biV, biOk, srcSd, padS, Oc, isOwnL, tgI, PyData.depth, PyData.depthAll, Ou.isR, Ou.x, Function.comp_def, Wl.isInt, Wl.isBool, Wl.isStr, -List.mem_map, List.forall_mem_map, List.filter_map]; have := hs.1; omega) (by simp [wps, wp, wpF, wpFs, sets, deadS, atW, loc, Yl.get, Yl.put, resW, toW, slT, datW, isBl, fok, foks, fval, fvals, val, vals, valo, items, ok, oks, oko, okr, rd, Yl.bind, binds, bindOk, bindD, T.dat, T.dats, T.isI, T.i, T.b, T.isB, T.sd, T.one, T.kids, T.isL, T.isT, T.isS, T.isN, T.isK, T.s, T.isDat, T.areDat, allSd, binV, binOk, cmpV, cmpOk, Yl.inV, inOk, eqD, ixOk, ixA, slOk, slV, isV, isOk, biV, biOk, srcSd, padS, Oc, isOwnL, tgI, PyData.depth, PyData.depthAll, Ou.isR, Ou.x, Function.comp_def, Wl.isInt, Wl.isBool, Wl.isStr, -List.mem_map, List.forall_mem_map, List.filter_map]; have := hs.1; omega) fun t ht => by
      obtain ⟨a, ha, rfl⟩ := List.mem_map.mp ht
      have ha : a < r.length + 1 := by simpa [wps, wp, wpF, wpFs, sets, deadS, atW, loc, Yl.get, Yl.put, resW, toW, slT, datW, isBl, fok, foks, fval, fvals, val, vals, valo, items, ok, oks, oko, okr, rd, Yl.bind, binds, bindOk, bindD, T.dat, T.dats, T.isI, T.i, T.b, T.isB, T.sd, T.one, T.kids, T.isL, T.isT, T.isS, T.isN, T.isK, T.s, T.isDat, T.areDat, allSd, binV, binOk, cmpV, cmpOk, Yl.inV, inOk, eqD, ixOk, ixA, slOk, slV, isV, isOk, biV, biOk, srcSd, padS, Oc, isOwnL, tgI, PyData.depth, PyData.depthAll, Ou.isR, Ou.x, Function.comp_def, Wl.isInt, Wl.isBool, Wl.isStr, -List.mem_map, List.forall_mem_map, List.filter_map] using ha
      have la : a < (lows r).length := by simp [lows]; omega
      have e4 : (lows r)[a]? = some (lows r)[a] := List.getElem?_eq_getElem la
      have b4 : 0 ≤ (lows r)[a] ∧ (lows r)[a] ≤ 65536 := by
        have := List.getElem_mem la
        rcases List.mem_cons.mp this with e | e
        · rw [e]; decide
        · obtain ⟨n, hn, e⟩ := List.mem_map.mp e
          have := hs.2 n hn
          unfold rng at this
          omega
      refine ⟨trivial, ⟨trivial, rfl⟩, fun _ => ?_⟩
      refine vv_call (ts := [.d (.list (iL (r.drop a))), .d (.int (lows r)[a])]) (by simp [wps, wp, wpF, wpFs, sets, deadS, atW, loc, Yl.get, Yl.put, resW, toW, slT, datW, isBl, fok, foks, fval, fvals, val, vals, valo, items, ok, oks, oko, okr, rd, Yl.bind, binds, bindOk, bindD, T.dat, T.dats, T.isI, T.i, T.b, T.isB, T.sd, T.one, T.kids, T.isL, T.isT, T.isS, T.isN, T.isK, T.s, T.isDat, T.areDat, allSd, binV, binOk, cmpV, cmpOk, Yl.inV, inOk, eqD, ixOk, ixA, slOk, slV, isV, isOk, biV, biOk, srcSd, padS, Oc, isOwnL, tgI, PyData.depth, PyData.depthAll, Ou.isR, Ou.x, Function.comp_def, Wl.isInt, Wl.isBool, Wl.isStr, -List.mem_map, List.forall_mem_map, List.filter_map, cutL_nn, atI_nn, e4, iL]) ⟨_, _, rfl, by rw [List.length_drop]; have := hs.1; omega, hle.drop, b4.1, b4.2⟩ (by rw [o_asks]; simp [T.i, e4])
    have e2 : (((items (.r1 (.bin .add (.bi .len (.cons (.v 10) .nil)) (.c (.int 1)))) [.d (.list (iL cs)), .d (.int k), .d (.int mo), .d (.int j), .d (.int h), .d (.list (iL ns)), .un, .un, .un, .un, .d (.list (iL r)), .un, .d (rowsD (ask false r 0)), .un, .d (.list (iL (lows r))), .un, .un]).filter fun _ => true).map fun t => rowD (hvd (r.drop t.i.toNat) ((lows r)[t.i.toNat]?.getD 0))) = (ask true r 0).map rowD := by
      rw [ask_t]
      simp [wps, wp, wpF, wpFs, sets, deadS, atW, loc, Yl.get, Yl.put, resW, toW, slT, datW, isBl, fok, foks, fval, fvals, val, vals, valo, items, ok, oks, oko, okr, rd, Yl.bind, binds, bindOk, bindD, T.dat, T.dats, T.isI, T.i, T.b, T.isB, T.sd, T.one, T.kids, T.isL, T.isT, T.isS, T.isN, T.isK, T.s, T.isDat, T.areDat, allSd, binV, binOk, cmpV, cmpOk, Yl.inV, inOk, eqD, ixOk, ixA, slOk, slV, isV, isOk, biV, biOk, srcSd, padS, Oc, isOwnL, tgI, PyData.depth, PyData.depthAll, Ou.isR, Ou.x, Function.comp_def, Wl.isInt, Wl.isBool, Wl.isStr, -List.mem_map, List.forall_mem_map, List.filter_map, lows]
    rw [e2] at this
    exact this
  -- the comparisons
  have hb : ∀ n ∈ r, 0 ≤ n ∧ n ≤ 65535 := fun n hn => hs.2 n hn
  have tp : ∀ kept, F_told_by.pre [.d (rowsD (ask kept r 0))] := fun kept => ⟨_, rfl, fun l e => by
    cases e
    refine ⟨by rw [List.length_map, ask_len]; have := hs.1; omega, fun y hy ps e => ?_⟩
    obtain ⟨q, hq, rfl⟩ := List.mem_map.mp hy
    cases e
    obtain ⟨l', lo', rfl⟩ := ask_mem hq
    rw [List.length_map]
    have := hv_len l' 17 lo' 65535
    unfold hvd
    rw [List.length_cons]
    omega⟩
  have gt : ∀ kept, goodT (rowsD (ask kept r 0)) = true := fun kept => List.all_eq_true.mpr fun y hy => by
    obtain ⟨q, hq, rfl⟩ := List.mem_map.mp hy
    refine Bool.and_eq_true_iff.mpr ⟨List.all_eq_true.mpr fun z hz => ?_, List.all_eq_true.mpr fun z hz => ?_⟩
    · obtain ⟨x, hx, rfl⟩ := List.mem_map.mp hz; rfl
    · obtain ⟨x, hx, rfl⟩ := List.mem_map.mp hz
      have := ask_rng (by decide) (by decide) hs.2 hq hx
      exact Bool.and_eq_true_iff.mpr ⟨decide_eq_true this.1, decide_eq_true this.2⟩
  have to : ∀ kept, F_told_by.out [.d (rowsD (ask kept r 0))] = .ret (.list (iL r)) := fun kept => by
    rw [o_told_by, if_pos (gt kept), rss_rows, heard_ask r 0 hlt hb (by decide)]
  have dl : PyData.depth (.list (iL r)) ≤ 60 := by
    have : ∀ l : List Int, PyData.depthAll (iL l) = 0 := fun l => by
      induction l with
      | nil => rfl
      | cons n l ih => show max 0 (PyData.depthAll (iL l)) = 0; rw [ih]; rfl
    show PyData.depthAll (iL r) + 1 ≤ 60
    rw [this]; decide
  have er : ∀ kept, eqD (rowsD (ask kept r 0)) (rowsD (ask kept r 0)) = true := fun kept => rows_eqv _
  have el : eqD (.list (iL r)) (.list (iL r)) = true := by show PyData.eqv _ _ = true; rw [eqv_iL]; simp
  have dr : ∀ kept, min (PyData.depth (rowsD (ask kept r 0))) (PyData.depth (rowsD (ask kept r 0))) ≤ 60 := fun kept => by have := rows_depth (ask kept r 0); omega
  have c1 : ∀ (kept : Bool) (i : Nat) (f : PySem.Str) (Γ : List Sl), Γ[5]? = some (.d (.list (iL ns))) → Γ[i]? = some (.d (rowsD (ask kept r 0))) → Bv (.cmp .ne (.call (F_ask kept) f (.cons (.v 5) .nil)) (.v i)) Γ false := fun kept i f Γ h5 hi => by
    have := bv_ne (vv_call (F := F_ask kept) (f := f) (es := .cons (.v 5) .nil) (Γ := Γ) (ts := [.d (.list (iL ns))]) (by simp [wps, wp, wpF, wpFs, sets, deadS, atW, loc, Yl.get, Yl.put, resW, toW, slT, datW, isBl, fok, foks, fval, fvals, val, vals, valo, items, ok, oks, oko, okr, rd, Yl.bind, binds, bindOk, bindD, T.dat, T.dats, T.isI, T.i, T.b, T.isB, T.sd, T.one, T.kids, T.isL, T.isT, T.isS, T.isN, T.isK, T.s, T.isDat, T.areDat, allSd, binV, binOk, cmpV, cmpOk, Yl.inV, inOk, eqD, ixOk, ixA, slOk, slV, isV, isOk, biV, biOk, srcSd, padS, Oc, isOwnL, tgI, PyData.depth, PyData.depthAll, Ou.isR, Ou.x, Function.comp_def, Wl.isInt, Wl.isBool, Wl.isStr, -List.mem_map, List.forall_mem_map, List.filter_map, h5]) (okA kept) (oA kept)) (b := .v i) (y := rowsD (ask kept r 0)) (by simp [Vv, wps, wp, wpF, wpFs, sets, deadS, atW, loc, Yl.get, Yl.put, resW, toW, slT, datW, isBl, fok, foks, fval, fvals, val, vals, valo, items, ok, oks, oko, okr, rd, Yl.bind, binds, bindOk, bindD, T.dat, T.dats, T.isI, T.i, T.b, T.isB, T.sd, T.one, T.kids, T.isL, T.isT, T.isS, T.isN, T.isK, T.s, T.isDat, T.areDat, allSd, binV, binOk, cmpV, cmpOk, Yl.inV, inOk, eqD, ixOk, ixA, slOk, slV, isV, isOk, biV, biOk, srcSd, padS, Oc, isOwnL, tgI, PyData.depth, PyData.depthAll, Ou.isR, Ou.x, Function.comp_def, Wl.isInt, Wl.isBool, Wl.isStr, -List.mem_map, List.forall_mem_map, List.filter_map, hi]) (dr kept)
    rw [er] at this; exact this
  have c2 : ∀ (kept : Bool) (i : Nat) (Γ : List Sl), Γ[10]? = some (.d (.list (iL r))) → Γ[i]? = some (.d (rowsD (ask kept r 0))) → Bv (.cmp .ne (.call F_told_by "told_by" (.cons (.v i) .nil)) (.v 10)) Γ false := fun kept i Γ h10 hi => by
    have := bv_ne (vv_call (F := F_told_by) (f := "told_by") (es := .cons (.v i) .nil) (Γ := Γ) (ts := [.d (rowsD (ask kept r 0))]) (by simp [wps, wp, wpF, wpFs, sets, deadS, atW, loc, Yl.get, Yl.put, resW, toW, slT, datW, isBl, fok, foks, fval, fvals, val, vals, valo, items, ok, oks, oko, okr, rd, Yl.bind, binds, bindOk, bindD, T.dat, T.dats, T.isI, T.i, T.b, T.isB, T.sd, T.one, T.kids, T.isL, T.isT, T.isS, T.isN, T.isK, T.s, T.isDat, T.areDat, allSd, binV, binOk, cmpV, cmpOk, Yl.inV, inOk, eqD, ixOk, ixA, slOk, slV, isV, isOk, biV, biOk, srcSd, padS, Oc, isOwnL, tgI, PyData.depth, PyData.depthAll, Ou.isR, Ou.x, Function.comp_def, Wl.isInt, Wl.isBool, Wl.isStr, -List.mem_map, List.forall_mem_map, List.filter_map, hi]) (tp kept) (to kept)) (b := .v 10) (y := .list (iL r)) (by simp [Vv, wps, wp, wpF, wpFs, sets, deadS, atW, loc, Yl.get, Yl.put, resW, toW, slT, datW, isBl, fok, foks, fval, fvals, val, vals, valo, items, ok, oks, oko, okr, rd, Yl.bind, binds, bindOk, bindD, T.dat, T.dats, T.isI, T.i, T.b, T.isB, T.sd, T.one, T.kids, T.isL, T.isT, T.isS, T.isN, T.isK, T.s, T.isDat, T.areDat, allSd, binV, binOk, cmpV, cmpOk, Yl.inV, inOk, eqD, ixOk, ixA, slOk, slV, isV, isOk, biV, biOk, srcSd, padS, Oc, isOwnL, tgI, PyData.depth, PyData.depthAll, Ou.isR, Ou.x, Function.comp_def, Wl.isInt, Wl.isBool, Wl.isStr, -List.mem_map, List.forall_mem_map, List.filter_map, h10]) (by omega)
    rw [el] at this; exact this
  refine wps_ifF (bv_or (k := false) (l := false) (c1 false 12 _ _ rfl rfl) fun _ => bv_on (c1 true 15 _ _ rfl rfl)) ?_
  refine wps_ifF (bv_or (k := false) (l := false) (c2 false 12 _ rfl rfl) fun _ => bv_or (k := false) (l := false) (c2 true 15 _ rfl rfl) fun _ => bv_on ?_) ?_
  · have t0 : F_told_by.pre [.d (.list [])] := ⟨_, rfl, fun l e => by cases e; exact ⟨by decide, fun _ h => by cases h⟩⟩
    have := bv_ne (Γ := [.d (.list (iL cs)), .d (.int k), .d (.int mo), .d (.int j), .d (.int h), .d (.list (iL ns)), .un, .un, .un, .un, .d (.list (iL r)), .un, .d (rowsD (ask false r 0)), .un, .d (.list (iL (lows r))), .d (rowsD (ask true r 0)), .un]) (vv_call (F := F_told_by) (f := "told_by") (es := .cons (.lst .nil) .nil) (ts := [.d (.list [])]) (x := .list []) (by simp [wps, wp, wpF, wpFs, sets, deadS, atW, loc, Yl.get, Yl.put, resW, toW, slT, datW, isBl, fok, foks, fval, fvals, val, vals, valo, items, ok, oks, oko, okr, rd, Yl.bind, binds, bindOk, bindD, T.dat, T.dats, T.isI, T.i, T.b, T.isB, T.sd, T.one, T.kids, T.isL, T.isT, T.isS, T.isN, T.isK, T.s, T.isDat, T.areDat, allSd, binV, binOk, cmpV, cmpOk, Yl.inV, inOk, eqD, ixOk, ixA, slOk, slV, isV, isOk, biV, biOk, srcSd, padS, Oc, isOwnL, tgI, PyData.depth, PyData.depthAll, Ou.isR, Ou.x, Function.comp_def, Wl.isInt, Wl.isBool, Wl.isStr, -List.mem_map, List.forall_mem_map, List.filter_map]) t0 rfl) (b := .lst .nil) (y := .list []) (by simp [Vv, wps, wp, wpF, wpFs, sets, deadS, atW, loc, Yl.get, Yl.put, resW, toW, slT, datW, isBl, fok, foks, fval, fvals, val, vals, valo, items, ok, oks, oko, okr, rd, Yl.bind, binds, bindOk, bindD, T.dat, T.dats, T.isI, T.i, T.b, T.isB, T.sd, T.one, T.kids, T.isL, T.isT, T.isS, T.isN, T.isK, T.s, T.isDat, T.areDat, allSd, binV, binOk, cmpV, cmpOk, Yl.inV, inOk, eqD, ixOk, ixA, slOk, slV, isV, isOk, biV, biOk, srcSd, padS, Oc, isOwnL, tgI, PyData.depth, PyData.depthAll, Ou.isR, Ou.x, Function.comp_def, Wl.isInt, Wl.isBool, Wl.isStr, -List.mem_map, List.forall_mem_map, List.filter_map]) (by decide)
    exact this
  · have sm : ∀ (kept : Bool) (i : Nat) (Γ : List Sl), Γ.length = 17 → Γ[i]? = some (.d (rowsD (ask kept r 0))) → Vv (.bi .sum (.cons (.lc (.n 13) (.it (.v i)) (.c (.bool true)) (.bi .len (.cons (.v 13) .nil))) .nil)) Γ (.d (.int ((ask kept r 0).map fun x => ((x.length : Nat) : Int)).sum)) := fun kept i Γ hl hi => by
      have it : items (.it (.v i)) Γ = (ask kept r 0).map fun q => .d (rowD q) := by
        show (rd Γ i).kids = _
        unfold rd
        rw [hi]
        show ((ask kept r 0).map rowD).map T.d = _
        rw [List.map_map]; rfl
      have h13 : ∀ t, (Γ.set 13 (.w t))[13]? = some (.w t) := fun t => List.getElem?_set_self (by omega)
      have := vv_lc (tg := .n 13) (s := .it (.v i)) (p := .c (.bool true)) (e := .bi .len (.cons (.v 13) .nil)) (Γ := Γ) (fun _ => true) (fun t => .int (t.kids.length : Nat)) (by simp [wps, wp, wpF, wpFs, sets, deadS, atW, loc, Yl.get, Yl.put, resW, toW, slT, datW, isBl, fok, foks, fval, fvals, val, vals, valo, items, ok, oks, oko, okr, rd, Yl.bind, binds, bindOk, bindD, T.dat, T.dats, T.isI, T.i, T.b, T.isB, T.sd, T.one, T.kids, T.isL, T.isT, T.isS, T.isN, T.isK, T.s, T.isDat, T.areDat, allSd, binV, binOk, cmpV, cmpOk, Yl.inV, inOk, eqD, ixOk, ixA, slOk, slV, isV, isOk, biV, biOk, srcSd, padS, Oc, isOwnL, tgI, PyData.depth, PyData.depthAll, Ou.isR, Ou.x, Function.comp_def, Wl.isInt, Wl.isBool, Wl.isStr, -List.mem_map, List.forall_mem_map, List.filter_map, hi, rowsD]) (by rw [it, List.length_map, ask_len]; have := hs.1; omega) fun t ht => by
        rw [it] at ht
        obtain ⟨q, hq, rfl⟩ := List.mem_map.mp ht
        refine ⟨trivial, ⟨trivial, rfl⟩, fun _ => ?_⟩
        simp [Vv, wps, wp, wpF, wpFs, sets, deadS, atW, loc, Yl.get, Yl.put, resW, toW, slT, datW, isBl, fok, foks, fval, fvals, val, vals, valo, items, ok, oks, oko, okr, rd, Yl.bind, binds, bindOk, bindD, T.dat, T.dats, T.isI, T.i, T.b, T.isB, T.sd, T.one, T.kids, T.isL, T.isT, T.isS, T.isN, T.isK, T.s, T.isDat, T.areDat, allSd, binV, binOk, cmpV, cmpOk, Yl.inV, inOk, eqD, ixOk, ixA, slOk, slV, isV, isOk, biV, biOk, srcSd, padS, Oc, isOwnL, tgI, PyData.depth, PyData.depthAll, Ou.isR, Ou.x, Function.comp_def, Wl.isInt, Wl.isBool, Wl.isStr, -List.mem_map, List.forall_mem_map, List.filter_map, h13, rowD]
      rw [it] at this
      have e : ((((ask kept r 0).map fun q => T.d (rowD q)).filter fun _ => true).map fun t => PyData.int (t.kids.length : Nat)) = (ask kept r 0).map fun q => PyData.int ((q.length : Nat) : Int) := by
        simp [wps, wp, wpF, wpFs, sets, deadS, atW, loc, Yl.get, Yl.put, resW, toW, slT, datW, isBl, fok, foks, fval, fvals, val, vals, valo, items, ok, oks, oko, okr, rd, Yl.bind, binds, bindOk, bindD, T.dat, T.dats, T.isI, T.i, T.b, T.isB, T.sd, T.one, T.kids, T.isL, T.isT, T.isS, T.isN, T.isK, T.s, T.isDat, T.areDat, allSd, binV, binOk, cmpV, cmpOk, Yl.inV, inOk, eqD, ixOk, ixA, slOk, slV, isV, isOk, biV, biOk, srcSd, padS, Oc, isOwnL, tgI, PyData.depth, PyData.depthAll, Ou.isR, Ou.x, Function.comp_def, Wl.isInt, Wl.isBool, Wl.isStr, -List.mem_map, List.forall_mem_map, List.filter_map, rowD]
      rw [e] at this
      obtain ⟨v1, v2⟩ := this
      refine ⟨⟨⟨v1, trivial⟩, ?_⟩, ?_⟩
      · show biOk .sum [val _ Γ]
        rw [v2]
        exact ⟨rfl, by simp [T.one], _, (congrArg intsD (dats_d _)).trans (ints_f _ _)⟩
      · show T.d (biV .sum [val _ Γ]) = _
        rw [v2]
        show T.d (.int ((intsD (T.dats (((ask kept r 0).map fun q => PyData.int ((q.length : Nat) : Int)).map T.d))).getD []).sum) = _
        rw [dats_d, ints_f]; rfl
    refine wps_ifF (bv_gt (sm true 15 _ rfl rfl) (sm false 12 _ rfl rfl) ?_) ?_
    · exact ask_sum r 0 (by decide) fun n hn => (hs.2 n hn).1
    · refine wps_dead ?_
      show K.nx _
      simp only [deadS, List.set_cons_succ, List.set_cons_zero]
      exact hk
end VK50

end

section
namespace VK50
open PySem L2 Yl
variable [Wl.Tb]
theorem bk_refl : ∀ Γ : List Sl, Bk Γ Γ Γ
  | [] => .nil
  | .un :: Γ => .un (bk_refl Γ)
  | .w _ :: Γ => .w (bk_refl Γ)
  | .o _ _ :: Γ => .o (bk_refl Γ)
theorem told_bad {F : PF} {f : PySem.Str} {Γ : List Sl} {x : D} {a r : Sts} {K : Kn} (hi : Γ[16]? = some (.d x)) (hp : F.pre [.d x]) (ho : F.out [.d x] = .exc "BadHouse") (h : wps r Γ K) :
    wps (.cons (.ite (.cmp .ne (.told td0 (.callr F f (.cons (.v 16) .nil))) (.p (.c (.str "BadHouse")))) a .nil) r) Γ K := by
  have hv : vals (.cons (.v 16) .nil) Γ = [.d x] := by simp [wps, wp, wpF, wpFs, sets, deadS, atW, loc, Yl.get, Yl.put, resW, toW, slT, datW, isBl, fok, foks, fval, fvals, val, vals, valo, items, ok, oks, oko, okr, rd, Yl.bind, binds, bindOk, bindD, T.dat, T.dats, T.isI, T.i, T.b, T.isB, T.sd, T.one, T.kids, T.isL, T.isT, T.isS, T.isN, T.isK, T.s, T.isDat, T.areDat, allSd, binV, binOk, cmpV, cmpOk, Yl.inV, inOk, eqD, ixOk, ixA, slOk, slV, isV, isOk, biV, biOk, srcSd, padS, Oc, isOwnL, tgI, PyData.depth, PyData.depthAll, Ou.isR, Ou.x, Function.comp_def, Wl.isInt, Wl.isBool, Wl.isStr, -List.mem_map, List.forall_mem_map, List.filter_map, hi]
  have hk : oks (.cons (.v 16) .nil) Γ := by simp [wps, wp, wpF, wpFs, sets, deadS, atW, loc, Yl.get, Yl.put, resW, toW, slT, datW, isBl, fok, foks, fval, fvals, val, vals, valo, items, ok, oks, oko, okr, rd, Yl.bind, binds, bindOk, bindD, T.dat, T.dats, T.isI, T.i, T.b, T.isB, T.sd, T.one, T.kids, T.isL, T.isT, T.isS, T.isN, T.isK, T.s, T.isDat, T.areDat, allSd, binV, binOk, cmpV, cmpOk, Yl.inV, inOk, eqD, ixOk, ixA, slOk, slV, isV, isOk, biV, biOk, srcSd, padS, Oc, isOwnL, tgI, PyData.depth, PyData.depthAll, Ou.isR, Ou.x, Function.comp_def, Wl.isInt, Wl.isBool, Wl.isStr, -List.mem_map, List.forall_mem_map, List.filter_map, hi]
  simp only [wps, wp, wpF]
  rw [hv, ho]
  refine ⟨hk, hp, (by decide : ("BadHouse" : PySem.Str) ∈ six), Γ, bk_refl Γ, trivial, rfl, ⟨rfl, rfl, (show min (PyData.depth (.str "BadHouse")) (PyData.depth (.str "BadHouse")) ≤ 60 from by decide)⟩, fun z => absurd (show cmpV .ne (.d (.str "BadHouse")) (.d (.str "BadHouse")) = true from z) (by decide), fun _ => h⟩
def cells (cs : List Int) (k mo : Int) : List Sl := [.d (.list (iL cs)), .d (.int k), .d (.int mo), .un, .un, .un, .un, .un, .un, .un, .un, .un, .un, .un, .un, .un, .un]
theorem bads3 {cs : List Int} {k mo : Int} {K : Kn} (hk : K.nx (cells cs k mo)) : ∀ l : List D, (∀ x ∈ l, goodL x = false ∧ ∀ y, x = .list y → y.length ≤ 60) → forW L_law_3 (l.map .d) (cells cs k mo) K
  | [], _ => hk
  | x :: l, h => by
    obtain ⟨h1, h2⟩ := h x List.mem_cons_self
    refine forW_cons (?_ : wps B_law_3 (Yl.bind (.n 16) (.d x) _) _)
    unfold B_law_3
    refine told_bad (x := x) rfl ⟨x, rfl, h2⟩ (by rw [o_ask, h1]; rfl) (told_bad (x := x) rfl ⟨x, rfl, h2⟩ (by rw [o_ask, h1]; rfl) (wps_dead ?_))
    exact bads3 hk l fun y hy => h y (List.mem_cons_of_mem _ hy)
theorem bads4 {cs : List Int} {k mo : Int} {K : Kn} (hk : K.nx (cells cs k mo)) : ∀ l : List D, (∀ x ∈ l, goodT x = false ∧ ∀ y, x = .list y → y.length ≤ 100 ∧ ∀ r ∈ y, ∀ ps, r = .list ps → ps.length ≤ 100) → forW L_law_4 (l.map .d) (cells cs k mo) K
  | [], _ => hk
  | x :: l, h => by
    obtain ⟨h1, h2⟩ := h x List.mem_cons_self
    refine forW_cons (?_ : wps B_law_4 (Yl.bind (.n 16) (.d x) _) _)
    unfold B_law_4
    refine told_bad (x := x) rfl ⟨x, rfl, h2⟩ (by rw [o_told_by, h1]; rfl) (wps_dead ?_)
    exact bads4 hk l fun y hy => h y (List.mem_cons_of_mem _ hy)
def bad3 : List D := [.none, .tuple [.int 1], .list [.int (-1)], .list [.int 65536], .list [.int 1, .int 1], .list [.str "1"], .list [.bool true]]
def bad4 : List D := [.none, .tuple [], .list [.none], .list [.list [.int 1]], .list [.list [.tuple [.int 1]]], .list [.list [.tuple [.int 1, .int 1]]], .list [.list [.tuple [.int 65536, .bool true]]], .list [.list [.list [.int 1, .bool true]]], .list [.tuple [.int 1, .bool true]]]
theorem bad3_ok : ∀ x ∈ bad3, goodL x = false ∧ ∀ y, x = .list y → y.length ≤ 60 := by
  intro x hx
  simp only [bad3, List.mem_cons, List.not_mem_nil, or_false] at hx
  rcases hx with rfl | rfl | rfl | rfl | rfl | rfl | rfl <;> refine ⟨by decide +kernel, fun y e => ?_⟩ <;> cases e <;> decide
theorem bad4_ok : ∀ x ∈ bad4, goodT x = false ∧ ∀ y, x = .list y → y.length ≤ 100 ∧ ∀ r ∈ y, ∀ ps, r = .list ps → ps.length ≤ 100 := by
  intro x hx
  simp only [bad4, List.mem_cons, List.not_mem_nil, or_false] at hx
  rcases hx with rfl | rfl | rfl | rfl | rfl | rfl | rfl | rfl | rfl <;> refine ⟨by decide +kernel, fun y e => ?_⟩ <;> cases e <;> refine ⟨by decide, fun r hr ps e => ?_⟩ <;> simp only [List.mem_cons, List.not_mem_nil, or_false] at hr <;> subst e <;> first | (cases hr; done) | (cases hr; decide)
theorem loop1 {cs : List Int} {k mo : Int} {K : Kn} (hk : K.nx (cells cs k mo)) : ∀ l : List Nat, (∀ j ∈ l, j < 4) → forW L_law_1 (l.map fun j => .d (.int (j : Nat))) (cells cs k mo) K
  | [], _ => hk
  | j :: l, h => by
    have ih := loop1 hk l fun y hy => h y (List.mem_cons_of_mem _ hy)
    have hj := h j List.mem_cons_self
    refine forW_cons (?_ : wps B_law_1 (Yl.bind (.n 3) _ _) _)
    have hp : F_drn.pre [.d (.int mo), .d (.int (10 + (j : Nat)))] := ⟨mo, _, rfl, by omega, by omega⟩
    simp [B_law_1, wps, wp, wpF, wpFs, sets, deadS, atW, loc, Yl.get, Yl.put, resW, toW, slT, datW, isBl, fok, foks, fval, fvals, val, vals, valo, items, ok, oks, oko, okr, rd, Yl.bind, binds, bindOk, bindD, T.dat, T.dats, T.isI, T.i, T.b, T.isB, T.sd, T.one, T.kids, T.isL, T.isT, T.isS, T.isN, T.isK, T.s, T.isDat, T.areDat, allSd, binV, binOk, cmpV, cmpOk, Yl.inV, inOk, eqD, ixOk, ixA, slOk, slV, isV, isOk, biV, biOk, srcSd, padS, Oc, isOwnL, tgI, PyData.depth, PyData.depthAll, Ou.isR, Ou.x, Function.comp_def, Wl.isInt, Wl.isBool, Wl.isStr, -List.mem_map, List.forall_mem_map, List.filter_map, hp, o_drn, cells]
    intro p
    have e12 := Int.emod_nonneg (drn mo (10 + j)) (show (12 : Int) ≠ 0 by decide)
    have l12 := Int.emod_lt_of_pos (drn mo (10 + j)) (show (0 : Int) < 12 by decide)
    have := longs_loop (cs := cs) (k := k) (mo := mo) (j := j) (h := drn mo (10 + j)) (p := p) (K := { K with nx := fun Γ' => wps T_law_2 Γ' { K with nx := fun Γ' => forW L_law_1 (l.map fun j => .d (.int (j : Nat))) Γ' K, ct := fun Γ' => forW L_law_1 (l.map fun j => .d (.int (j : Nat))) Γ' K, bk := K.nx }, ct := fun Γ' => forW L_law_1 (l.map fun j => .d (.int (j : Nat))) Γ' K, bk := K.nx }) (fun ns h1 h2 => rows_ok h1 h2 ih) (List.range (drn mo (10 + j) % 12).toNat) [] (fun i hi => by have := List.mem_range.mp hi; omega) List.nodup_nil (by rw [List.length_range]; simp only [List.length_nil]; omega) (fun n hn => by cases hn)
    simp [R_law_2, wps, wp, wpF, wpFs, sets, deadS, atW, loc, Yl.get, Yl.put, resW, toW, slT, datW, isBl, fok, foks, fval, fvals, val, vals, valo, items, ok, oks, oko, okr, rd, Yl.bind, binds, bindOk, bindD, T.dat, T.dats, T.isI, T.i, T.b, T.isB, T.sd, T.one, T.kids, T.isL, T.isT, T.isS, T.isN, T.isK, T.s, T.isDat, T.areDat, allSd, binV, binOk, cmpV, cmpOk, Yl.inV, inOk, eqD, ixOk, ixA, slOk, slV, isV, isOk, biV, biOk, srcSd, padS, Oc, isOwnL, tgI, PyData.depth, PyData.depthAll, Ou.isR, Ou.x, Function.comp_def, Wl.isInt, Wl.isBool, Wl.isStr, -List.mem_map, List.forall_mem_map, List.filter_map]
    refine ⟨by omega, this⟩
theorem law_turn {cs : List Int} {k : Int} {K : Kn} (hl : cs.length ≤ 63) (h0 : 0 ≤ k) (h3 : k ≤ 63) (hk : K.nx ([.d (.list (iL cs))] ++ List.replicate 16 .un)) : wps B_law_0 [.d (.list (iL cs)), .d (.int k), .un, .un, .un, .un, .un, .un, .un, .un, .un, .un, .un, .un, .un, .un, .un] K := by
  have hc : F_cell.pre [.d (.list (iL cs)), .d (.int k)] := ⟨cs, k, rfl, hl, h0, h3⟩
  have hp : F_drn.pre [.d (.int (cellv cs k)), .d (.int k)] := ⟨_, _, rfl, h0, by omega⟩
  simp [B_law_0, wps, wp, wpF, wpFs, sets, deadS, atW, loc, Yl.get, Yl.put, resW, toW, slT, datW, isBl, fok, foks, fval, fvals, val, vals, valo, items, ok, oks, oko, okr, rd, Yl.bind, binds, bindOk, bindD, T.dat, T.dats, T.isI, T.i, T.b, T.isB, T.sd, T.one, T.kids, T.isL, T.isT, T.isS, T.isN, T.isK, T.s, T.isDat, T.areDat, allSd, binV, binOk, cmpV, cmpOk, Yl.inV, inOk, eqD, ixOk, ixA, slOk, slV, isV, isOk, biV, biOk, srcSd, padS, Oc, isOwnL, tgI, PyData.depth, PyData.depthAll, Ou.isR, Ou.x, Function.comp_def, Wl.isInt, Wl.isBool, Wl.isStr, -List.mem_map, List.forall_mem_map, List.filter_map, hc, o_cell, hp, o_drn]
  have b4 := bads4 (cs := cs) (k := k) (mo := drn (cellv cs k) k) (K := { K with nx := fun Γ' => wps T_law_4 Γ' K }) (by simp [T_law_4, wps, wp, wpF, wpFs, sets, deadS, atW, loc, Yl.get, Yl.put, resW, toW, slT, datW, isBl, fok, foks, fval, fvals, val, vals, valo, items, ok, oks, oko, okr, rd, Yl.bind, binds, bindOk, bindD, T.dat, T.dats, T.isI, T.i, T.b, T.isB, T.sd, T.one, T.kids, T.isL, T.isT, T.isS, T.isN, T.isK, T.s, T.isDat, T.areDat, allSd, binV, binOk, cmpV, cmpOk, Yl.inV, inOk, eqD, ixOk, ixA, slOk, slV, isV, isOk, biV, biOk, srcSd, padS, Oc, isOwnL, tgI, PyData.depth, PyData.depthAll, Ou.isR, Ou.x, Function.comp_def, Wl.isInt, Wl.isBool, Wl.isStr, -List.mem_map, List.forall_mem_map, List.filter_map, cells]; exact hk) bad4 bad4_ok
  have b3 := bads3 (cs := cs) (k := k) (mo := drn (cellv cs k) k) (K := { K with nx := fun Γ' => wps T_law_3 Γ' K }) (by
    simp [T_law_3, R_law_4, wps, wp, wpF, wpFs, sets, deadS, atW, loc, Yl.get, Yl.put, resW, toW, slT, datW, isBl, fok, foks, fval, fvals, val, vals, valo, items, ok, oks, oko, okr, rd, Yl.bind, binds, bindOk, bindD, T.dat, T.dats, T.isI, T.i, T.b, T.isB, T.sd, T.one, T.kids, T.isL, T.isT, T.isS, T.isN, T.isK, T.s, T.isDat, T.areDat, allSd, binV, binOk, cmpV, cmpOk, Yl.inV, inOk, eqD, ixOk, ixA, slOk, slV, isV, isOk, biV, biOk, srcSd, padS, Oc, isOwnL, tgI, PyData.depth, PyData.depthAll, Ou.isR, Ou.x, Function.comp_def, Wl.isInt, Wl.isBool, Wl.isStr, -List.mem_map, List.forall_mem_map, List.filter_map, cells]
    exact b4) bad3 bad3_ok
  have l1 := loop1 (cs := cs) (k := k) (mo := drn (cellv cs k) k) (K := { K with nx := fun Γ' => wps T_law_1 Γ' K }) (by
    simp [T_law_1, R_law_3, wps, wp, wpF, wpFs, sets, deadS, atW, loc, Yl.get, Yl.put, resW, toW, slT, datW, isBl, fok, foks, fval, fvals, val, vals, valo, items, ok, oks, oko, okr, rd, Yl.bind, binds, bindOk, bindD, T.dat, T.dats, T.isI, T.i, T.b, T.isB, T.sd, T.one, T.kids, T.isL, T.isT, T.isS, T.isN, T.isK, T.s, T.isDat, T.areDat, allSd, binV, binOk, cmpV, cmpOk, Yl.inV, inOk, eqD, ixOk, ixA, slOk, slV, isV, isOk, biV, biOk, srcSd, padS, Oc, isOwnL, tgI, PyData.depth, PyData.depthAll, Ou.isR, Ou.x, Function.comp_def, Wl.isInt, Wl.isBool, Wl.isStr, -List.mem_map, List.forall_mem_map, List.filter_map, cells]
    exact b3) (List.range 4) (fun j hj => List.mem_range.mp hj)
  simp [R_law_1, wps, wp, wpF, wpFs, sets, deadS, atW, loc, Yl.get, Yl.put, resW, toW, slT, datW, isBl, fok, foks, fval, fvals, val, vals, valo, items, ok, oks, oko, okr, rd, Yl.bind, binds, bindOk, bindD, T.dat, T.dats, T.isI, T.i, T.b, T.isB, T.sd, T.one, T.kids, T.isL, T.isT, T.isS, T.isN, T.isK, T.s, T.isDat, T.areDat, allSd, binV, binOk, cmpV, cmpOk, Yl.inV, inOk, eqD, ixOk, ixA, slOk, slV, isV, isOk, biV, biOk, srcSd, padS, Oc, isOwnL, tgI, PyData.depth, PyData.depthAll, Ou.isR, Ou.x, Function.comp_def, Wl.isInt, Wl.isBool, Wl.isStr, -List.mem_map, List.forall_mem_map, List.filter_map]
  exact l1
theorem law_loop {cs : List Int} {K : Kn} (hl : cs.length ≤ 63) (hk : K.nx ([.d (.list (iL cs))] ++ List.replicate 16 .un)) : ∀ l : List Nat, (∀ j ∈ l, j ≤ 63) → forW L_law_0 (l.map fun j => .d (.int (j : Nat))) ([.d (.list (iL cs))] ++ List.replicate 16 .un) K
  | [], _ => hk
  | j :: l, h => by
    have hj := h j List.mem_cons_self
    refine forW_cons (?_ : wps B_law_0 (Yl.bind (.n 1) _ _) _)
    exact law_turn hl (by omega) (by omega) (law_loop hl hk l fun y hy => h y (List.mem_cons_of_mem _ hy))
def F_law : PF := ⟨fun ts => ∃ ns : List Int, ts = [.d (.list (iL ns))] ∧ ns.length ≤ 63, fun _ => .ret (.bool true)⟩
theorem w_law : ∀ ts, F_law.pre ts → wps B_law (padS N_law (ts.map .w)) (knR (F_law.out ts)) := by
  rintro _ ⟨cs, rfl, hl⟩
  have h := law_loop (cs := cs) (K := { knR (.ret (.bool true)) with nx := fun Γ' => wps T_law_0 Γ' (knR (.ret (.bool true))) }) hl (by simp [T_law_0, wps, wp, wpF, wpFs, sets, deadS, atW, loc, Yl.get, Yl.put, resW, toW, slT, datW, isBl, fok, foks, fval, fvals, val, vals, valo, items, ok, oks, oko, okr, rd, Yl.bind, binds, bindOk, bindD, T.dat, T.dats, T.isI, T.i, T.b, T.isB, T.sd, T.one, T.kids, T.isL, T.isT, T.isS, T.isN, T.isK, T.s, T.isDat, T.areDat, allSd, binV, binOk, cmpV, cmpOk, Yl.inV, inOk, eqD, ixOk, ixA, slOk, slV, isV, isOk, biV, biOk, srcSd, padS, Oc, isOwnL, tgI, PyData.depth, PyData.depthAll, Ou.isR, Ou.x, Function.comp_def, Wl.isInt, Wl.isBool, Wl.isStr, -List.mem_map, List.forall_mem_map, List.filter_map, knR]) (List.range (max 1 (min 3 (cs.length : Int))).toNat) (fun j hj => by have := List.mem_range.mp hj; omega)
  show wps R_law_0 _ (knR (.ret (.bool true)))
  simp [R_law_0, wps, wp, wpF, wpFs, sets, deadS, atW, loc, Yl.get, Yl.put, resW, toW, slT, datW, isBl, fok, foks, fval, fvals, val, vals, valo, items, ok, oks, oko, okr, rd, Yl.bind, binds, bindOk, bindD, T.dat, T.dats, T.isI, T.i, T.b, T.isB, T.sd, T.one, T.kids, T.isL, T.isT, T.isS, T.isN, T.isK, T.s, T.isDat, T.areDat, allSd, binV, binOk, cmpV, cmpOk, Yl.inV, inOk, eqD, ixOk, ixA, slOk, slV, isV, isOk, biV, biOk, srcSd, padS, Oc, isOwnL, tgI, PyData.depth, PyData.depthAll, Ou.isR, Ou.x, Function.comp_def, Wl.isInt, Wl.isBool, Wl.isStr, -List.mem_map, List.forall_mem_map, List.filter_map]
  refine ⟨by omega, h⟩
end VK50

end

section
namespace VK50
open PySem PySem.Spec PyProof.Rows L2 LamX
open Wl (Tb clsAt XC ToldF FnZ TL FG NoT)
open K50 (top FnP XF)
open Yl
def free : List Str := ["isinstance", "int", "bool", "len", "list", "tuple", "all", "set", "min", "max", "sorted", "sum", "range", "ValueError"]
section
variable [Tb] {P : Program} {w : World} {K : PySem.W.Frag} {mg : Str → Option Value} {base : Heap}
theorem told_F {X : Cx} {g fz : Addr} {fdg fdz : FuncData} {clf : Str → Str} {ok : Str → Prop} {CS : Addr} (F : FnP X.K "_law_told" (top 23) g fdg) (FC : FnP X.K "_law_class" (top 22) fz fdz) (mCS : X.mg "LampError" = some (.ref CS)) (mfz : X.mg "_law_class" = some (.ref fz)) (FZ : FnZ X.prog X.w X.K X.mg X.base 1 fz fdz "_law_e" clf ok) (hex : ∀ n, ok n → PySem.W.exmOne X.K (.ref (clsAt X.mg n)) (.ref CS) = some true) :
    ToldF X "_law_told" "_law_deed" g clf ok 1 := by
  refine ⟨_, _, _, fdg, fdz, ["_law_deed", "_law_e"], "_law_e", "LampError", "_law_class", "_law_e", 1, CS, fz, _, _, _, _, _, _, _, _, _, _, F, ⟨rfl, rfl, rfl, by decide +kernel, rfl, by decide +kernel, by decide +kernel⟩, F.bindsN fun _ _ _ _ _ _ us hl => match us, hl with | [_], _ => rfl, by rfl, rfl, by kernel_rfl, rfl, by kernel_rfl, by kernel_rfl, by kernel_rfl, by decide, by decide, by decide, by decide, by decide, by decide, mCS, mfz, FC.kp, FC.bindsN fun _ _ _ _ _ _ us hl => match us, hl with | [_], _ => rfl, FZ, hex⟩
theorem tl_mk {g fz CS : Addr} {fdg fdz fd_law : FuncData} {c Pt : Addr} (F8 : FnP K "_law_told" (top 23) g fdg) (F7 : FnP K "_law_class" (top 22) fz fdz) (mCS : mg "LampError" = some (.ref CS)) (mfz : mg "_law_class" = some (.ref fz)) (mt : mg "_law_told" = some (.ref g)) (FZ : FnZ P w K mg base 1 fz fdz "_law_e" id (fun n => n ∈ six)) (hex : ∀ n, n ∈ six → PySem.W.exmOne K (.ref (clsAt mg n)) (.ref CS) = some true)
    (TBc : TabB base mg c Pt) (hc0 : fd_law.code = .ref c) (h1 : (Pt, ("law" : Str) ++ ".<locals>." ++ "<lambda>") ∈ Tb.T) (h2 : ∀ p ∈ Tb.T, p.2 = ("law" : Str) ++ ".<locals>." ++ "<lambda>") :
    ∀ X : Cx, X.prog = P → X.w = w → X.K = K → X.mg = mg → X.base = base → X.env.code = fd_law.code → X.env.qual = ("law" : Str) ++ ".<locals>." → Room 7 X.A → TL X "_law_told" id (fun n => n ∈ six) 5 := fun X hP hw hK hm hb hcode hqual hr => by
  subst hP hw hK hm hb
  exact ⟨"_law_deed", g, c, Pt, 1, told_F F8 F7 mCS mfz FZ hex, mt, TBc, hcode.trans hc0, by rw [hqual]; exact h1, fun p hp _ => by rw [hqual]; exact h2 p hp, hr, by decide⟩
end

def dd (x : Str) (i : Nat) : He.DefD := ⟨(x, none), x, x, defArgs (top i), defBody (top i), defScope (top i), [], []⟩
def fn : List He.DefD := [dd "is_count" 10, dd "need_longs" 12, dd "halved" 13, dd "asked" 14, dd "plain" 15, dd "quick" 16, dd "heard_of" 17, dd "told_by" 18, dd "_law_cell" 20, dd "_law_drawn" 21, dd "_law_class" 22, dd "_law_told" 23, dd "_law_asks" 24, dd "law" 25]
def defNames : List Str := ["is_count", "need_longs", "halved", "asked", "plain", "quick", "heard_of", "told_by", "_law_cell", "_law_drawn", "_law_class", "_law_told", "_law_asks", "law"]
def fa : List He.Fa := defNames.map .glo ++ (free.map .free ++ ([.int "MOST_LONG" 65535, .glo "LampError"] ++ (six.map .glo ++ (six.map .exc ++ six.map fun n => .exm n "LampError" true))))
/-- what isinstance asks of a class of refusals -/
def exc1 (K : PySem.W.Frag) (C : Addr) : Bool :=
  He.eqO (PySem.W.findIn K (.ref C) "__getattribute__") (some (some (.builtin "BaseException.__getattribute__"))) && (He.eqO (PySem.W.findIn K (.ref C) "__getattr__") (some none) && (decide (PySem.W.subIn K (.ref C) (.type "BaseException") = some true) && (PySem.W.hasDictIn K C &&
  (He.eqO (PySem.W.findIn K (.ref C) "__class__") (some (some (.builtin "object.__class__"))) && (He.eqO (PySem.W.specialIn K (.builtin "object.__class__") "__get__") (some (some (.builtin "getset_descriptor.__get__"))) && (decide (PySem.W.takesIn K (.builtin "object.__class__") = some true) && decide (PySem.W.mroIn K C (.type "object") = some true)))))))
theorem exc1_ok {K : PySem.W.Frag} {C : Addr} (h : exc1 K C = true) : ExcC K C := by
  unfold exc1 at h
  simp only [Bool.and_eq_true, decide_eq_true_eq] at h
  obtain ⟨h1, h2, h3, h4, h5, h6, h7, h8⟩ := h
  exact ⟨He.eqO_ok h1, He.eqO_ok h2, h3, h4, He.eqO_ok h5, He.eqO_ok h6, h7, h8⟩
def exB (K : PySem.W.Frag) : Bool := six.all fun n => exc1 K (He.ga K n) && (decide (PySem.W.kitOne K (.ref (He.ga K n)) (.type "ValueError") = some true) && six.all fun m => decide (PySem.W.kitOne K (.ref (He.ga K n)) (.ref (He.ga K m)) = some (decide (n = m))))
abbrev R : PySem.W.OpenRow := PySem.W.OpenLaw.row PySem.Challenge.rw_wirelamps_k50_whole_seeking
abbrev tf : List He.Defn := [("law", none)]
abbrev hk : PySem.W.Hook := He.hookX 6 fa fn [] tf exB
def ob (s : PySem.W.SharedT) : He.AlX := He.obsX 6 fa fn [] tf exB (HandSHeadRun.getT s)
theorem ob_eq (s : PySem.W.SharedT) : ob s = hk.obs s.abs := He.obsX_eq (HandSHeadRun.getT_eq s)
def loose : List Str := ["LampError", "BadHouse", "BadWord", "BadNumber", "BadWish", "NoWay", "BadText", "MOST_LONG", "is_count", "need_longs", "halved", "asked", "plain", "quick", "heard_of", "told_by", "_law_cell", "_law_drawn", "_law_class", "_law_told", "_law_asks"]
theorem run (w : World) : HandSHeadRun.RunEq R (PySem.W.view R.prog [25]) hk ob 6000 loose w := by
  intro os
  kernel_rfl
theorem cls_ga {K : PySem.W.Frag} {mg : Str → Option Value} {n : Str} (h : mg n = some (.ref (He.ga K n))) : clsAt mg n = He.ga K n := by
  unfold clsAt
  rw [h]
theorem facts {w : World} {K : PySem.W.Frag} {h : Heap} {mg : Str → Option Value} {f : Addr} (KX : K.In h) (G : h.Ns mainGlobals mg) (hfa : mg ("law" : Str) = some (.ref f)) (c : He.SaysX fa fn [] tf exB w h K) :
    LawAtS PySem.Challenge.rw_wirelamps_k50_whole_seeking w K (L2N.CX PySem.Challenge.rw_wirelamps_k50_whole_seeking.prog w) 8 63 "_law_script" mg f h := by
  let cP := He.cT K ("law", none)
  letI tc : Tc := ⟨fun _ => 0⟩
  letI tb : Tb := ⟨[(cP.2, ("law" : Str) ++ ".<locals>." ++ "<lambda>")]⟩
  have cD : He.SaysD fa fn K := congrArg (fun z : He.AlT => z.1) c.t
  have glo : ∀ n, n ∈ defNames ++ six ++ [("LampError" : Str)] → mg n = some (.ref (He.ga K n)) := fun n hn => by
    refine He.glo_ok KX G (cD.facts (f := .glo n) ?_)
    simp only [fa, List.mem_append, List.mem_map, List.mem_cons] at hn ⊢
    rcases hn with (hn | hn) | hn
    · exact .inl ⟨n, hn, rfl⟩
    · exact .inr (.inr (.inr (.inl ⟨n, hn, rfl⟩)))
    · refine .inr (.inr (.inl ?_))
      rcases hn with rfl | hn
      · exact .inr (.inl rfl)
      · cases hn
  have fr : ∀ n ∈ free, mg n = none := fun n hn => He.free_ok KX G (cD.facts (f := .free n) (by
    simp only [fa, List.mem_append, List.mem_map]
    exact .inr (.inl ⟨n, hn, rfl⟩)))
  obtain ⟨tk, gML⟩ : ∃ tk, mg "MOST_LONG" = some (.int 65535 tk) := He.int_ok KX G (cD.facts (f := .int "MOST_LONG" 65535) (by
    simp only [fa, List.mem_append, List.mem_map]
    exact .inr (.inr (.inl (by simp)))))
  have six_c : ∀ n ∈ six, clsAt mg n = He.ga K n := fun n hn => cls_ga (glo n (by simp [hn]))
  have xc : ∀ n ∈ six, XC K mg n := fun n hn => by
    obtain ⟨e1, e2, e3, e4⟩ := He.exc_ok (cD.facts (f := .exc n) (by
      simp only [fa, List.mem_append, List.mem_map]
      exact .inr (.inr (.inr (.inr (.inl ⟨n, hn, rfl⟩))))))
    have e := six_c n hn
    exact ⟨by rw [e]; exact glo n (by simp [hn]), by rw [e]; exact e1, by rw [e]; exact e2, by rw [e]; exact e3, by rw [e]; exact e4⟩
  have xf : ∀ n ∈ six, XF K mg n := fun n hn => by
    have m := List.all_eq_true.mp c.more n hn
    simp only [Bool.and_eq_true, decide_eq_true_eq] at m
    obtain ⟨m1, m2, m3⟩ := m
    refine ⟨by rw [six_c n hn]; exact exc1_ok m1, fun k hk => ?_, by rw [six_c n hn]; exact m2⟩
    rw [six_c n hn, six_c k hk]
    exact of_decide_eq_true (List.all_eq_true.mp m3 k hk)
  have hexm : ∀ n, n ∈ six → PySem.W.exmOne K (.ref (clsAt mg n)) (.ref (He.ga K "LampError")) = some true := fun n hn => by
    rw [six_c n hn]
    exact He.exm_ok (cD.facts (f := .exm n "LampError" true) (by
      simp only [fa, List.mem_append, List.mem_map]
      exact .inr (.inr (.inr (.inr (.inr ⟨n, hn, rfl⟩))))))
  obtain ⟨fd_is_count, F_is_count_⟩ := cD.defs (d := dd "is_count" 10) (by simp [fn])
  obtain ⟨fd_need_longs, F_need_longs_⟩ := cD.defs (d := dd "need_longs" 12) (by simp [fn])
  obtain ⟨fd_halved, F_halved_⟩ := cD.defs (d := dd "halved" 13) (by simp [fn])
  obtain ⟨fd_asked, F_asked_⟩ := cD.defs (d := dd "asked" 14) (by simp [fn])
  obtain ⟨fd_plain, F_plain_⟩ := cD.defs (d := dd "plain" 15) (by simp [fn])
  obtain ⟨fd_quick, F_quick_⟩ := cD.defs (d := dd "quick" 16) (by simp [fn])
  obtain ⟨fd_heard_of, F_heard_of_⟩ := cD.defs (d := dd "heard_of" 17) (by simp [fn])
  obtain ⟨fd_told_by, F_told_by_⟩ := cD.defs (d := dd "told_by" 18) (by simp [fn])
  obtain ⟨fd__law_cell, F__law_cell_⟩ := cD.defs (d := dd "_law_cell" 20) (by simp [fn])
  obtain ⟨fd__law_drawn, F__law_drawn_⟩ := cD.defs (d := dd "_law_drawn" 21) (by simp [fn])
  obtain ⟨fd__law_class, F__law_class_⟩ := cD.defs (d := dd "_law_class" 22) (by simp [fn])
  obtain ⟨fd__law_told, F__law_told_⟩ := cD.defs (d := dd "_law_told" 23) (by simp [fn])
  obtain ⟨fd__law_asks, F__law_asks_⟩ := cD.defs (d := dd "_law_asks" 24) (by simp [fn])
  obtain ⟨fd_law, F_law_⟩ := cD.defs (d := dd "law" 25) (by simp [fn])
  have F0 := F_law_
  have e := hfa.symm.trans (glo "law" (by decide))
  cases e
  have hc0 : fd_law.code = .ref cP.1 := by
    obtain ⟨oc, od, dV, kV, doc, pm, an, cdv, ct, osl, ef, lk, hcd, _, _⟩ := F0.ex
    obtain ⟨c0, ec⟩ := He.codeIn_ref hcd
    have e2 : fd_law.code = .ref c0 := by rw [ef]; exact ec
    rw [e2]
    exact congrArg Value.ref (He.codeOf_eq lk e2).symm
  have b0 := FunD.bindsA (ps := ["_law_script"]) F0 fun _ _ _ _ _ _ us hl => match us, hl with | [_], _ => rfl
  refine ⟨fd_law, [cP], spR K mg F_law, fun p hp => ?_, fun p hp => ?_, fun p hp => ?_, fun s v => b0 s [v] rfl, fun H a ns hl _ hH hS => ?_, fun base KB GB hTB => ?_⟩
  · rw [show p = cP by simpa using hp]; exact c.empty _ (by simp)
  · rw [show p = cP by simpa using hp]; exact c.out _ (by simp)
  · rw [show p = cP by simpa using hp]; exact PySem.W.codeHd_of_K KX (c.hd _ (by simp))
  · have hT := hH cP (by simp)
    have htab : LamX.Tabs Tb.T H := fun p hp => by
      rw [List.mem_singleton.mp (show p ∈ [(cP.2, ("law" : Str) ++ ".<locals>." ++ "<lambda>")] from hp)]
      exact TabS.nil hT
    have fin : ∀ G : Hp, Same G H → NoT G → SqL K G a (ns.map V.int) → spR K mg F_law [.ref a] H (fun v _ => v = .bl true) fun _ _ _ => False := fun G e nt s =>
      ⟨G, [.d (.list (iL ns))], [], e, htab, nt, .ofD (xs := [.list (iL ns)]) (.cons (.lst s (Wl.DtAll.ofInts ns)) .nil), ⟨ns, rfl, hl⟩, fun v G' H' st d => by cases d; rfl⟩
    rcases hS with (hS | ⟨o, hS⟩) | hS
    · refine fin (upd (fun _ => none) a (.lst (ns.map V.int))) (fun b u hb => ?_) (fun b ps hb => ?_) (.of upd_same)
      · by_cases z : b = a
        · rw [z, upd_same] at hb; rw [z, hS]; exact hb
        · rw [upd_ne z] at hb; cases hb
      · by_cases z : b = a
        · rw [z, upd_same] at hb; cases hb
        · rw [upd_ne z] at hb; cases hb
    · refine fin (upd (fun _ => none) a (.frz o (.lst (ns.map V.int)))) (fun b u hb => ?_) (fun b ps hb => ?_) (.inl (.inr ⟨o, upd_same⟩))
      · by_cases z : b = a
        · rw [z, upd_same] at hb; rw [z, hS]; exact hb
        · rw [upd_ne z] at hb; cases hb
      · by_cases z : b = a
        · rw [z, upd_same] at hb; cases hb
        · rw [upd_ne z] at hb; cases hb
    · exact fin (fun _ => none) (fun b u hb => by cases hb) (fun b ps hb => by cases hb) (.inr hS)
  · have TBc := hTB cP (by simp)
    let pg (j : Nat) : Pg := ⟨PySem.Challenge.rw_wirelamps_k50_whole_seeking.prog, w, K, mg, base, j⟩
    have hML : ∀ j, HasG (pg j) "MOST_LONG" (.int 65535) := fun j => ⟨.int 65535, _, gML, ⟨tk, rfl⟩, fun _ => .int _⟩
    have hX : ∀ j, Wl.XC (pg j).K (pg j).mg "BadHouse" := fun j => xc _ (by decide)
    have g_is_count := fg_R (g := pg 0) (F := F_cnt) (r := B_is_count) (N := N_is_count) (ps := P_is_count) (fr := free) F_is_count_ ⟨rfl, rfl, rfl, by decide +kernel, rfl, by decide +kernel, by decide +kernel⟩ fr (by kernel_rfl) (glo "is_count" (by decide)) (F_is_count_.bindsN fun _ _ _ _ _ _ us hl => match us, hl with | [_, _, _], _ => rfl) (fun ts ⟨x, lo, hi, h⟩ => by rw [h]; rfl) w_is_count (by simp [B_is_count, obSs, obS, obE, obF, obFs, Yl.ob, obs, obo, obr, obA, exLen])
    have h_is_count : ∀ j, 1 ≤ j → HasF (pg j) "is_count" 3 F_cnt := fun j h => ⟨1, h, g_is_count⟩
    have g_need := fg_R (g := pg 1) (F := F_need) (r := B_need_longs) (N := N_need_longs) (ps := P_need_longs) (fr := free) F_need_longs_ ⟨rfl, rfl, rfl, by decide +kernel, rfl, by decide +kernel, by decide +kernel⟩ fr (by kernel_rfl) (glo "need_longs" (by decide)) (F_need_longs_.bindsN fun _ _ _ _ _ _ us hl => match us, hl with | [_], _ => rfl) (fun ts ⟨x, h, _⟩ => by rw [h]; rfl) w_need_longs (by simp [B_need_longs, obSs, obS, obE, obF, obFs, Yl.ob, obs, obo, obr, obA, exLen, h_is_count 1 (by decide), hML 1, hX 1])
    have h_need : ∀ j, 2 ≤ j → HasF (pg j) "need_longs" 1 F_need := fun j h => ⟨2, h, g_need⟩
    have g_halved := fg_R (g := pg 0) (F := F_halved) (r := B_halved) (N := N_halved) (ps := P_halved) (fr := free) F_halved_ ⟨rfl, rfl, rfl, by decide +kernel, rfl, by decide +kernel, by decide +kernel⟩ fr (by kernel_rfl) (glo "halved" (by decide)) (F_halved_.bindsN fun _ _ _ _ _ _ us hl => match us, hl with | [_, _], _ => rfl) (fun ts ⟨ns, lo, h, _⟩ => by rw [h]; rfl) w_halved (by simp [B_halved, B_halved_0, R_halved_0, T_halved_0, obSs, obS, obE, obF, obFs, Yl.ob, obs, obo, obr, obA, exLen, hML 0])
    have h_halved : ∀ j, 1 ≤ j → HasF (pg j) "halved" 2 F_halved := fun j h => ⟨1, h, g_halved⟩
    have g_asked := fg_R (g := pg 1) (F := F_asked) (r := B_asked) (N := N_asked) (ps := P_asked) (fr := free) F_asked_ ⟨rfl, rfl, rfl, by decide +kernel, rfl, by decide +kernel, by decide +kernel⟩ fr (by kernel_rfl) (glo "asked" (by decide)) (F_asked_.bindsN fun _ _ _ _ _ _ us hl => match us, hl with | [_, _], _ => rfl) (fun ts ⟨ns, lo, h, _⟩ => by rw [h]; rfl) w_asked (by simp [B_asked, B_asked_0, R_asked_0, T_asked_0, obSs, obS, obE, obF, obFs, Yl.ob, obs, obo, obr, obA, exLen, h_halved 1 (by decide)])
    have h_asked : ∀ j, 2 ≤ j → HasF (pg j) "asked" 2 F_asked := fun j h => ⟨2, h, g_asked⟩
    have g_plain := fg_R (g := pg 2) (F := F_ask false) (r := B_plain) (N := N_plain) (ps := P_plain) (fr := free) F_plain_ ⟨rfl, rfl, rfl, by decide +kernel, rfl, by decide +kernel, by decide +kernel⟩ fr (by kernel_rfl) (glo "plain" (by decide)) (F_plain_.bindsN fun _ _ _ _ _ _ us hl => match us, hl with | [_], _ => rfl) (fun ts ⟨x, h, _⟩ => by rw [h]; rfl) w_plain (by simp [B_plain, obSs, obS, obE, obF, obFs, Yl.ob, obs, obo, obr, obA, exLen, h_need 2 (by decide), h_asked 2 (by decide)])
    have g_quick := fg_R (g := pg 2) (F := F_ask true) (r := B_quick) (N := N_quick) (ps := P_quick) (fr := free) F_quick_ ⟨rfl, rfl, rfl, by decide +kernel, rfl, by decide +kernel, by decide +kernel⟩ fr (by kernel_rfl) (glo "quick" (by decide)) (F_quick_.bindsN fun _ _ _ _ _ _ us hl => match us, hl with | [_], _ => rfl) (fun ts ⟨x, h, _⟩ => by rw [h]; rfl) w_quick (by simp [B_quick, obSs, obS, obE, obF, obFs, Yl.ob, obs, obo, obr, obA, exLen, h_need 2 (by decide), h_asked 2 (by decide)])
    have h_plain : ∀ j, 3 ≤ j → HasF (pg j) "plain" 1 (F_ask false) := fun j h => ⟨3, h, g_plain⟩
    have h_quick : ∀ j, 3 ≤ j → HasF (pg j) "quick" 1 (F_ask true) := fun j h => ⟨3, h, g_quick⟩
    have g_heard := fg_R (g := pg 0) (F := F_heard) (r := B_heard_of) (N := N_heard_of) (ps := P_heard_of) (fr := free) F_heard_of_ ⟨rfl, rfl, rfl, by decide +kernel, rfl, by decide +kernel, by decide +kernel⟩ fr (by kernel_rfl) (glo "heard_of" (by decide)) (F_heard_of_.bindsN fun _ _ _ _ _ _ us hl => match us, hl with | [_], _ => rfl) (fun ts ⟨x, h, _⟩ => by rw [h]; rfl) w_heard_of (by simp [B_heard_of, B_heard_of_0, R_heard_of_0, T_heard_of_0, obSs, obS, obE, obF, obFs, Yl.ob, obs, obo, obr, obA, exLen])
    have h_heard : ∀ j, 1 ≤ j → HasF (pg j) "heard_of" 1 F_heard := fun j h => ⟨1, h, g_heard⟩
    have g_told := fg_R (g := pg 1) (F := F_told_by) (r := B_told_by) (N := N_told_by) (ps := P_told_by) (fr := free) F_told_by_ ⟨rfl, rfl, rfl, by decide +kernel, rfl, by decide +kernel, by decide +kernel⟩ fr (by kernel_rfl) (glo "told_by" (by decide)) (F_told_by_.bindsN fun _ _ _ _ _ _ us hl => match us, hl with | [_], _ => rfl) (fun ts ⟨x, h, _⟩ => by rw [h]; rfl) w_told_by (by simp [B_told_by, B_told_by_0, R_told_by_0, T_told_by_0, obSs, obS, obE, obF, obFs, Yl.ob, obs, obo, obr, obA, exLen, h_is_count 1 (by decide), hML 1, hX 1, h_heard 1 (by decide)])
    have h_told : ∀ j, 2 ≤ j → HasF (pg j) "told_by" 1 F_told_by := fun j h => ⟨2, h, g_told⟩
    have g_cell := fg_R (g := pg 0) (F := F_cell) (r := B__law_cell) (N := N__law_cell) (ps := P__law_cell) (fr := free) F__law_cell_ ⟨rfl, rfl, rfl, by decide +kernel, rfl, by decide +kernel, by decide +kernel⟩ fr (by kernel_rfl) (glo "_law_cell" (by decide)) (F__law_cell_.bindsN fun _ _ _ _ _ _ us hl => match us, hl with | [_, _], _ => rfl) (fun ts ⟨ns, lo, h, _⟩ => by rw [h]; rfl) w_cell (by simp [B__law_cell, obSs, obS, obE, obF, obFs, Yl.ob, obs, obo, obr, obA, exLen])
    have g_drn := fg_R (g := pg 0) (F := F_drn) (r := B__law_drawn) (N := N__law_drawn) (ps := P__law_drawn) (fr := free) F__law_drawn_ ⟨rfl, rfl, rfl, by decide +kernel, rfl, by decide +kernel, by decide +kernel⟩ fr (by kernel_rfl) (glo "_law_drawn" (by decide)) (F__law_drawn_.bindsN fun _ _ _ _ _ _ us hl => match us, hl with | [_, _], _ => rfl) (fun ts ⟨ns, lo, h, _⟩ => by rw [h]; rfl) w_drn (by simp [B__law_drawn, obSs, obS, obE, obF, obFs, Yl.ob, obs, obo, obr, obA, exLen])
    have g_asks := fg_R (g := pg 0) (F := F_asks) (r := B__law_asks) (N := N__law_asks) (ps := P__law_asks) (fr := free) F__law_asks_ ⟨rfl, rfl, rfl, by decide +kernel, rfl, by decide +kernel, by decide +kernel⟩ fr (by kernel_rfl) (glo "_law_asks" (by decide)) (F__law_asks_.bindsN fun _ _ _ _ _ _ us hl => match us, hl with | [_, _], _ => rfl) (fun ts ⟨ns, lo, h, _⟩ => by rw [h]; rfl) w_asks (by simp [B__law_asks, B__law_asks_0, R__law_asks_0, T__law_asks_0, obSs, obS, obE, obF, obFs, Yl.ob, obs, obo, obr, obA, exLen])
    have h_cell : ∀ j, 1 ≤ j → HasF (pg j) "_law_cell" 2 F_cell := fun j h => ⟨1, h, g_cell⟩
    have h_drn : ∀ j, 1 ≤ j → HasF (pg j) "_law_drawn" 2 F_drn := fun j h => ⟨1, h, g_drn⟩
    have h_asks : ∀ j, 1 ≤ j → HasF (pg j) "_law_asks" 2 F_asks := fun j h => ⟨1, h, g_asks⟩
    have zc0 := K50.fz_class (P := PySem.Challenge.rw_wirelamps_k50_whole_seeking.prog) (w := w) (base := base) F__law_class_ (fun n hn => fr n hn.mem) fun n hn => (xc n hn).gC
    have zc : FnZ PySem.Challenge.rw_wirelamps_k50_whole_seeking.prog w K mg base 1 _ fd__law_class "_law_e" id (fun n => n ∈ six) := ⟨fun A outer s H G p n Q E a1 a2 a3 a4 a5 hn => zc0.run A outer s H G p n Q E a1 a2 a3 a4 a5 ⟨hn, xf n hn⟩⟩
    have tl := tl_mk F__law_told_ F__law_class_ (glo "LampError" (by decide)) (glo "_law_class" (by decide)) (glo "_law_told" (by decide)) zc hexm TBc hc0 List.mem_cons_self fun p hp => by rw [List.mem_singleton.mp (show p ∈ [(cP.2, ("law" : Str) ++ ".<locals>." ++ "<lambda>")] from hp)]
    exact fn_RL (g := pg 7) (td := fun d => d = td0) (F := F_law) (r := B_law) (N := N_law) (ps := P_law) (fr := free) F_law_ ⟨rfl, rfl, rfl, by decide +kernel, rfl, by decide +kernel, by decide +kernel⟩ fr (by kernel_rfl) (by simp [B_law, B_law_0, B_law_1, B_law_2, B_law_3, B_law_4, R_law_0, R_law_1, R_law_2, R_law_3, R_law_4, T_law_0, T_law_1, T_law_2, T_law_3, T_law_4, obSs, obS, obE, obF, obFs, Yl.ob, obs, obo, obr, obA, exLen, h_cell 7 (by decide), h_drn 7 (by decide), h_asks 7 (by decide), h_plain 7 (by decide), h_quick 7 (by decide), h_told 7 (by decide)]; exact ⟨⟨⟨(show 2 ≤ 7 by decide), h_plain 5 (by decide)⟩, (show 2 ≤ 7 by decide), h_quick 5 (by decide)⟩, (show 2 ≤ 7 by decide), h_told 5 (by decide)⟩) (fun ts ⟨ns, h, _⟩ => by rw [h]; rfl) w_law (fun X a b c d e f1 f2 hr q hq => by subst hq; exact tl X a b c d e f1 f2 hr)
end VK50
open PySem PySem.W PySem.Calls PyProof.Rows
theorem PySem.Challenge.cw_wirelamps_k50_whole_seeking_holds : PySem.Challenge.rw_wirelamps_k50_whole_seeking.Holds := by
  w_on; o_law
  refine HandSHeadRun.head_any (r := OpenLaw.row PySem.Challenge.rw_wirelamps_k50_whole_seeking) (q := view (OpenLaw.row PySem.Challenge.rw_wirelamps_k50_whole_seeking).prog [25]) (H := VK50.hk) (ob := VK50.ob) (M := 6000) (loose := VK50.loose) (d := HandSHeadRun.topDef (OpenLaw.row PySem.Challenge.rw_wirelamps_k50_whole_seeking).prog 25) (kwd := []) VK50.ob_eq
    (by kernel_rfl) (fun s => by kernel_rfl) VK50.run (by kernel_rfl) (by kernel_rfl) (by kernel_rfl) (by rfl) (by first | assumption | decide +kernel) (by decide +kernel) ⟨rfl, rfl, rfl, rfl, rfl, by decide +kernel⟩ ?hw ?hc
  case hw => w_witness2
  case hc =>
    refine LamX.walk_ofTsE (l := PySem.Challenge.rw_wirelamps_k50_whole_seeking) (n := 63) (k := 8) (x := "_law_script") (CX := fun w => L2N.CX PySem.Challenge.rw_wirelamps_k50_whole_seeking.prog w) rfl (by decide) (by kernel_rfl) ⟨rfl, by decide, by decide⟩ ?F (fun w H s e s' z => ?G)
    case G =>
      obtain ⟨_, _, _, _, _, _, _, _, _, _, _, _, y⟩ := z
      exact y
    intro w mg f h Y G hmg0
    obtain ⟨K, KX, c⟩ := Y
    have e : (HandSHeadRun.topDef (OpenLaw.row PySem.Challenge.rw_wirelamps_k50_whole_seeking).prog 25).name = ("law" : PySem.Str) := by kernel_rfl
    rw [e] at hmg0
    exact ⟨K, KX, VK50.facts KX G hmg0 c⟩

end
