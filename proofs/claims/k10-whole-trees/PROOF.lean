import PyProof.Rows.All
import HandS.ForMost
import HandS.IsInst
import HandS.TupAny
import HandS.TupMul
import HandS.Style
import HandS.Walk
import KE.GoesEnum
import KE.KRevSl
import PyProof.ListRange
import HandS.Sort
import HandS.SortRule
import PySem.Challenge.RW_changestold_k10_whole_trees_of_followers
import HandS.Wide
set_option Elab.async false
set_option linter.all false
set_option maxRecDepth 100000
set_option maxHeartbeats 4000000
/-! DLa: plain data over the abstract heap: data D, frozen part G, mutable part M; judgements of expressions, tests, statements over data. -/
namespace DL
open PySem L2

/-- no star ahead of it -/
def nst : Expr → Bool
  | .Starred _ _ => false
  | _ => true
theorem star1 {e : Expr} {es : List Expr} {env : Env} (h : nst e = true) : starEach (e :: es) env = (false, eval e env) :: starEach es env := by
  cases e <;> first | rfl | exact absurd (show false = true from h) Bool.false_ne_true
theorem star1n {e : Expr} {env : Env} (h : nst e = true) : starEach [e] env = [(false, eval e env)] := star1 h
theorem star2n {a b : Expr} {env : Env} (h : nst a = true) (h2 : nst b = true) : starEach [a, b] env = [(false, eval a env), (false, eval b env)] := by rw [star1 h, star1n h2]
theorem starN {env : Env} {pos : Pos} : ∀ {es : List Expr}, es.all nst = true → (backTo pos (starEach es env)).any (·.1) = false
  | [], _ => rfl
  | e :: es, h => by
    have q := Bool.and_eq_true_iff.mp h
    rw [star1 q.1]
    show (false || (backTo pos (starEach es env)).any (·.1)) = false
    rw [Bool.false_or]
    exact starN q.2
/-- plain data; ptr: a mutable object by its address; scr: the script -/
inductive D where
  | non | bl (b : Bool) | int (i : Int) | str (x : Str) | tup (ds : List D) | lst (ds : List D) | ptr (a : Addr) | scr (ns : List Int)

mutual
/-- the value v is the datum d, its tuples and lists standing in G -/
inductive Rp (K : PySem.W.Frag) (G : Hp) : V → D → Prop
  | non : Rp K G .non .non
  | bl (b : Bool) : Rp K G (.bl b) (.bl b)
  | int (i : Int) : Rp K G (.int i) (.int i)
  | str (x : Str) : Rp K G (.str x) (.str x)
  | tup {a : Addr} {xs : List V} {ds : List D} : SqT K G a xs → RpA K G xs ds → Rp K G (.ref a) (.tup ds)
  | lst {a : Addr} {xs : List V} {ds : List D} : G a = some (.lst xs) → RpA K G xs ds → Rp K G (.ref a) (.lst ds)
  | ptr (a : Addr) : Rp K G (.ref a) (.ptr a)
  | scr {a : Addr} {ns : List Int} : SqL K G a (ns.map V.int) → Rp K G (.ref a) (.scr ns)
inductive RpA (K : PySem.W.Frag) (G : Hp) : List V → List D → Prop
  | nil : RpA K G [] []
  | cons {v : V} {d : D} {vs : List V} {ds : List D} : Rp K G v d → RpA K G vs ds → RpA K G (v :: vs) (d :: ds)
end

/-- G' knows all that G knows -/
def Gx (G G' : Hp) : Prop := ∀ a o, G a = some o → G' a = some o
theorem Gx.refl (G : Hp) : Gx G G := fun _ _ h => h
theorem Gx.trans {G G1 G2 : Hp} (a : Gx G G1) (b : Gx G1 G2) : Gx G G2 := fun x o h => b x o (a x o h)
section
variable {K : PySem.W.Frag} {G G' : Hp} {a : Addr} {xs : List V}
theorem Gx.rd {u : HO} (e : Gx G G') (h : Rd G a u) : Rd G' a u := by
  rcases h with h | ⟨o, h⟩
  · exact .inl (e _ _ h)
  · exact .inr ⟨o, e _ _ h⟩
theorem Gx.sl (e : Gx G G') (h : SqL K G a xs) : SqL K G' a xs := by
  rcases h with h | h
  · exact .inl (e.rd h)
  · exact .inr h
theorem Gx.st (e : Gx G G') (h : SqT K G a xs) : SqT K G' a xs := by
  rcases h with h | h
  · exact .inl (e.rd h)
  · exact .inr h
mutual
theorem Rp.mono (e : Gx G G') : ∀ {v : V} {d : D}, Rp K G v d → Rp K G' v d
  | _, _, .non => .non
  | _, _, .bl b => .bl b
  | _, _, .int i => .int i
  | _, _, .str x => .str x
  | _, _, .tup h r => .tup (e.st h) (RpA.mono e r)
  | _, _, .lst h r => .lst (e _ _ h) (RpA.mono e r)
  | _, _, .ptr a => .ptr a
  | _, _, .scr h => .scr (e.sl h)
theorem RpA.mono (e : Gx G G') : ∀ {vs : List V} {ds : List D}, RpA K G vs ds → RpA K G' vs ds
  | _, _, .nil => .nil
  | _, _, .cons h r => .cons (Rp.mono e h) (RpA.mono e r)
end
theorem RpA.length : ∀ {vs : List V} {ds : List D}, RpA K G vs ds → vs.length = ds.length
  | _, _, .nil => rfl
  | _, _, .cons _ r => congrArg (· + 1) r.length
theorem RpA.get : ∀ {vs : List V} {ds : List D} {i : Nat} {d : D}, RpA K G vs ds → ds[i]? = some d → ∃ v, vs[i]? = some v ∧ Rp K G v d
  | _, _, i, _, .nil, h => by simp at h
  | _, _, 0, _, .cons h _, e => by
    simp at e
    subst e
    exact ⟨_, rfl, h⟩
  | _, _, i + 1, d, .cons _ r, e => by
    obtain ⟨v, h1, h2⟩ := RpA.get (i := i) (d := d) r (by simpa using e)
    exact ⟨v, by simpa using h1, h2⟩
theorem RpA.getV : ∀ {vs : List V} {ds : List D} {i : Nat} {v : V}, RpA K G vs ds → vs[i]? = some v → ∃ d, ds[i]? = some d ∧ Rp K G v d
  | _, _, i, _, .nil, h => by simp at h
  | _, _, 0, _, .cons h _, e => by
    simp at e
    subst e
    exact ⟨_, rfl, h⟩
  | _, _, i + 1, d, .cons _ r, e => by
    obtain ⟨v, h1, h2⟩ := RpA.getV (i := i) (v := d) r (by simpa using e)
    exact ⟨v, by simpa using h1, h2⟩
theorem RpA.append : ∀ {vs ws : List V} {ds es : List D}, RpA K G vs ds → RpA K G ws es → RpA K G (vs ++ ws) (ds ++ es)
  | _, _, _, _, .nil, s => s
  | _, _, _, _, .cons h r, s => .cons h (RpA.append r s)
theorem RpA.take : ∀ {vs : List V} {ds : List D} (n : Nat), RpA K G vs ds → RpA K G (vs.take n) (ds.take n)
  | _, _, 0, _ => .nil
  | _, _, _ + 1, .nil => .nil
  | _, _, n + 1, .cons h r => .cons h (RpA.take n r)
theorem RpA.drop : ∀ {vs : List V} {ds : List D} (n : Nat), RpA K G vs ds → RpA K G (vs.drop n) (ds.drop n)
  | _, _, 0, r => r
  | _, _, _ + 1, .nil => .nil
  | _, _, n + 1, .cons _ r => RpA.drop n r
theorem RpA.set {v : V} {d : D} (h : Rp K G v d) : ∀ {vs : List V} {ds : List D} (i : Nat), RpA K G vs ds → RpA K G (vs.set i v) (ds.set i d)
  | _, _, _, .nil => .nil
  | _, _, 0, .cons _ r => .cons h r
  | _, _, i + 1, .cons q r => .cons q (RpA.set h i r)
theorem RpA.reverse : ∀ {vs : List V} {ds : List D}, RpA K G vs ds → RpA K G vs.reverse ds.reverse
  | _, _, .nil => .nil
  | _, _, .cons h r => by
    rw [List.reverse_cons, List.reverse_cons]
    exact (RpA.reverse r).append (.cons h .nil)
theorem RpA.erase : ∀ {vs : List V} {ds : List D} (i : Nat), RpA K G vs ds → RpA K G (vs.eraseIdx i) (ds.eraseIdx i)
  | _, _, _, .nil => .nil
  | _, _, 0, .cons _ r => r
  | _, _, i + 1, .cons q r => .cons q (RpA.erase i r)
theorem RpA.rep {vs : List V} {ds : List D} (h : RpA K G vs ds) : ∀ k : Nat, RpA K G (List.replicate k vs).flatten (List.replicate k ds).flatten
  | 0 => .nil
  | k + 1 => by
    rw [List.replicate_succ, List.replicate_succ, List.flatten_cons, List.flatten_cons]
    exact h.append (RpA.rep h k)
theorem RpA.ints : ∀ {vs : List V} {ns : List Int}, RpA K G vs (ns.map D.int) → vs = ns.map V.int
  | _, [], .nil => rfl
  | _, n :: ns, .cons h r => by
    cases h
    rw [RpA.ints r]
    rfl
theorem rpa_ints : ∀ ns : List Int, RpA K G (ns.map V.int) (ns.map D.int)
  | [] => .nil
  | n :: ns => .cons (.int n) (rpa_ints ns)
theorem RpA.bls : ∀ {vs : List V} {bs : List Bool}, RpA K G vs (bs.map D.bl) → vs = bs.map V.bl
  | _, [], .nil => rfl
  | _, n :: ns, .cons h r => by
    cases h
    rw [RpA.bls r]
    rfl
end

/-! ### what may change -/
inductive MO where
  | lst (ds : List D)
  | ins (C : Addr) (fs : List (Str × D))
  | dic (kvs : List (Key × D))
abbrev Mem := Addr → Option MO
def updM (M : Mem) (a : Addr) (o : Option MO) : Mem := fun b => if b = a then o else M b
theorem updM_same {M : Mem} {a : Addr} {o : Option MO} : updM M a o a = o := if_pos rfl
theorem updM_ne {M : Mem} {a b : Addr} {o : Option MO} (h : b ≠ a) : updM M a o b = M b := if_neg h
def KVd {κ : Type} (K : PySem.W.Frag) (G : Hp) (vs : List (κ × V)) (ds : List (κ × D)) : Prop := vs.map (·.1) = ds.map (·.1) ∧ RpA K G (vs.map (·.2)) (ds.map (·.2))
def MRp (K : PySem.W.Frag) (G H : Hp) (a : Addr) : MO → Prop
  | .lst ds => ∃ xs, H a = some (.lst xs) ∧ RpA K G xs ds
  | .ins C fs => ∃ dx vs, H a = some (.ins C dx vs) ∧ KVd K G vs fs
  | .dic kvs => ∃ vs, H a = some (.dK vs) ∧ KVd K G vs kvs
structure Wd (K : PySem.W.Frag) (G : Hp) (M : Mem) (H : Hp) : Prop where
  sub : Gx G H
  mem : ∀ a mo, M a = some mo → G a = none ∧ MRp K G H a mo
structure Stp (G : Hp) (M : Mem) (H : Hp) (G' : Hp) (M' : Mem) (H' : Hp) : Prop where
  keep : ∀ a o, H a = some o → M a = none → H' a = some o ∧ G' a = G a ∧ M' a = none
section
variable {K : PySem.W.Frag} {G G' G1 G2 H H' H1 H2 : Hp} {M M' M1 M2 : Mem} {a p : Addr}
theorem MRp.there {mo : MO} (h : MRp K G H a mo) : ∃ o, H a = some o := by
  cases mo with
  | lst ds => obtain ⟨xs, e, _⟩ := h; exact ⟨_, e⟩
  | ins C fs => obtain ⟨_, _, e, _⟩ := h; exact ⟨_, e⟩
  | dic kvs => obtain ⟨_, e, _⟩ := h; exact ⟨_, e⟩
theorem MRp.carry {mo : MO} (h : MRp K G H a mo) (e : Gx G G') (hh : H' a = H a) : MRp K G' H' a mo := by
  cases mo with
  | lst ds => obtain ⟨xs, q, r⟩ := h; exact ⟨xs, by rw [hh]; exact q, r.mono e⟩
  | ins C fs => obtain ⟨dx, vs, q, k, r⟩ := h; exact ⟨dx, vs, by rw [hh]; exact q, k, r.mono e⟩
  | dic kvs => obtain ⟨vs, q, k, r⟩ := h; exact ⟨vs, by rw [hh]; exact q, k, r.mono e⟩
theorem Wd.free (w : Wd K G M H) (h : H p = none) : G p = none ∧ M p = none := by
  refine ⟨?_, ?_⟩
  · cases e : G p with
    | none => rfl
    | some o => rw [w.sub _ _ e] at h; cases h
  · cases e : M p with
    | none => rfl
    | some o =>
      obtain ⟨u, q⟩ := (w.mem _ _ e).2.there
      rw [q] at h; cases h
theorem Stp.refl : Stp G M H G M H := ⟨fun _ _ h m => ⟨h, rfl, m⟩⟩
theorem Stp.trans (a : Stp G M H G1 M1 H1) (b : Stp G1 M1 H1 G2 M2 H2) : Stp G M H G2 M2 H2 := ⟨fun x o h m => by
  obtain ⟨h1, g1, m1⟩ := a.keep x o h m
  obtain ⟨h2, g2, m2⟩ := b.keep x o h1 m1
  exact ⟨h2, g2.trans g1, m2⟩⟩
theorem Stp.gx (s : Stp G M H G' M' H') (w : Wd K G M H) : Gx G G' := fun x o h => by
  have m : M x = none := by
    cases e : M x with
    | none => rfl
    | some mo => rw [(w.mem _ _ e).1] at h; cases h
  rw [(s.keep x o (w.sub _ _ h) m).2.1, h]
theorem gx_new (w : Wd K G M H) (h : H p = none) {o : HO} : Gx G (upd G p o) := fun x u e => by
  rw [upd_ne (ne_of_none e (w.free h).1)]
  exact e
/-- a new frozen object -/
theorem Wd.new (w : Wd K G M H) (h : H p = none) {o : HO} : Wd K (upd G p o) M (upd H p o) ∧ Stp G M H (upd G p o) M (upd H p o) := by
  have g := w.free h
  refine ⟨⟨fun x u e => ?_, fun x mo e => ?_⟩, ⟨fun x u e m => ?_⟩⟩
  · by_cases hx : x = p
    · subst hx; rw [upd_same] at e ⊢; exact e
    · rw [upd_ne hx] at e ⊢; exact w.sub _ _ e
  · have hx : x ≠ p := fun z => by subst z; rw [g.2] at e; cases e
    obtain ⟨h1, h2⟩ := w.mem _ _ e
    exact ⟨by rw [upd_ne hx]; exact h1, h2.carry (gx_new w h) (upd_ne hx)⟩
  · have hx : x ≠ p := ne_of_none e h
    exact ⟨by rw [upd_ne hx]; exact e, upd_ne hx, m⟩
/-- a new mutable object -/
theorem Wd.newM (w : Wd K G M H) (h : H p = none) {o : HO} {mo : MO} (r : MRp K G (upd H p o) p mo) : Wd K G (updM M p (some mo)) (upd H p o) ∧ Stp G M H G (updM M p (some mo)) (upd H p o) := by
  have g := w.free h
  refine ⟨⟨fun x u e => ?_, fun x m e => ?_⟩, ⟨fun x u e m => ?_⟩⟩
  · rw [upd_ne (ne_of_none (w.sub _ _ e) h)]; exact w.sub _ _ e
  · by_cases hx : x = p
    · subst hx; rw [updM_same] at e; cases e; exact ⟨g.1, r⟩
    · rw [updM_ne hx] at e
      obtain ⟨h1, h2⟩ := w.mem _ _ e
      exact ⟨h1, h2.carry (Gx.refl G) (upd_ne hx)⟩
  · have hx : x ≠ p := ne_of_none e h
    exact ⟨by rw [upd_ne hx]; exact e, rfl, by rw [updM_ne hx]; exact m⟩
/-- a mutable object written -/
theorem Wd.write (w : Wd K G M H) {m0 mo : MO} (hm : M p = some m0) {o : HO} (r : MRp K G (upd H p o) p mo) : Wd K G (updM M p (some mo)) (upd H p o) ∧ Stp G M H G (updM M p (some mo)) (upd H p o) := by
  have g := (w.mem _ _ hm).1
  refine ⟨⟨fun x u e => ?_, fun x m e => ?_⟩, ⟨fun x u e m => ?_⟩⟩
  · rw [upd_ne (ne_of_none e g)]; exact w.sub _ _ e
  · by_cases hx : x = p
    · subst hx; rw [updM_same] at e; cases e; exact ⟨g, r⟩
    · rw [updM_ne hx] at e
      obtain ⟨h1, h2⟩ := w.mem _ _ e
      exact ⟨h1, h2.carry (Gx.refl G) (upd_ne hx)⟩
  · have hx : x ≠ p := fun z => by subst z; rw [hm] at m; cases m
    exact ⟨by rw [upd_ne hx]; exact e, rfl, by rw [updM_ne hx]; exact m⟩
/-- a mutable list that nobody writes any more -/
theorem Wd.freeze (w : Wd K G M H) {ds : List D} (hm : M p = some (.lst ds)) : ∃ xs, H p = some (.lst xs) ∧ RpA K G xs ds ∧ Wd K (upd G p (.lst xs)) (updM M p none) H ∧ Stp G M H (upd G p (.lst xs)) (updM M p none) H ∧ Gx G (upd G p (.lst xs)) := by
  obtain ⟨g, xs, e, r⟩ := w.mem _ _ hm
  have gx : Gx G (upd G p (.lst xs)) := fun x u q => by rw [upd_ne (ne_of_none q g)]; exact q
  refine ⟨xs, e, r, ⟨fun x u q => ?_, fun x m q => ?_⟩, ⟨fun x u q m => ?_⟩, gx⟩
  · by_cases hx : x = p
    · subst hx; rw [upd_same] at q; cases q; exact e
    · rw [upd_ne hx] at q; exact w.sub _ _ q
  · have hx : x ≠ p := fun z => by subst z; rw [updM_same] at q; cases q
    rw [updM_ne hx] at q
    obtain ⟨h1, h2⟩ := w.mem _ _ q
    exact ⟨by rw [upd_ne hx]; exact h1, h2.carry gx rfl⟩
  · have hx : x ≠ p := fun z => by subst z; rw [hm] at m; cases m
    exact ⟨q, upd_ne hx, by rw [updM_ne hx]; exact m⟩
end

/-! ### the judgements -/
abbrev Sg := List (Option D)
structure SRp (K : PySem.W.Frag) (G : Hp) (sg : Sg) (σ : L2.St) : Prop where
  len : σ.length = sg.length
  at_ : ∀ (i : Nat) (d : D), sg[i]? = some (some d) → ∃ v, σ[i]? = some (some v) ∧ Rp K G v d
theorem SRp.mono {K : PySem.W.Frag} {G G' : Hp} {sg : Sg} {σ : L2.St} (e : Gx G G') (r : SRp K G sg σ) : SRp K G' sg σ := ⟨r.len, fun i d h => let ⟨v, a, b⟩ := r.at_ i d h; ⟨v, a, b.mono e⟩⟩
theorem SRp.set {K : PySem.W.Frag} {G : Hp} {sg : Sg} {σ : L2.St} {v : V} {d : D} (r : SRp K G sg σ) (i : Nat) (h : Rp K G v d) : SRp K G (sg.set i (some d)) (σ.set i (some v)) := by
  refine ⟨by simp [r.len], fun j e q => ?_⟩
  by_cases hj : i = j
  · subst hj
    by_cases hl : i < sg.length
    · rw [List.getElem?_set_self hl] at q
      cases q
      exact ⟨v, List.getElem?_set_self (by rw [r.len]; exact hl), h⟩
    · rw [List.getElem?_eq_none (by simpa using hl)] at q; cases q
  · rw [List.getElem?_set_ne hj] at q ⊢
    exact r.at_ j e q
/-- the end of an evaluation -/
def PV (K : PySem.W.Frag) (G : Hp) (M : Mem) (H : Hp) (Q : D → Mem → Prop) : VK := fun v H' => ∃ d G' M', Stp G M H G' M' H' ∧ Wd K G' M' H' ∧ Rp K G' v d ∧ Q d M'
def PB (K : PySem.W.Frag) (G : Hp) (M : Mem) (H : Hp) (Q : Bool → Mem → Prop) : Bool → Hp → Prop := fun b H' => ∃ G' M', Stp G M H G' M' H' ∧ Wd K G' M' H' ∧ Q b M'
def PL (K : PySem.W.Frag) (G : Hp) (M : Mem) (H : Hp) (Q : List D → Mem → Prop) : List V → Hp → Prop := fun vs H' => ∃ ds G' M', Stp G M H G' M' H' ∧ Wd K G' M' H' ∧ RpA K G' vs ds ∧ Q ds M'
def PN (K : PySem.W.Frag) (G : Hp) (M : Mem) (H : Hp) (Q : Sg → Mem → Prop) : L2.St → Hp → Prop := fun σ' H' => ∃ sg' G' M', Stp G M H G' M' H' ∧ Wd K G' M' H' ∧ SRp K G' sg' σ' ∧ Q sg' M'
structure EndsD where
  nx : Sg → Mem → Prop
  rt : D → Mem → Prop
  bk : Sg → Mem → Prop := fun _ _ => False
  ct : Sg → Mem → Prop := fun _ _ => False
def toE (K : PySem.W.Frag) (G : Hp) (M : Mem) (H : Hp) (E : EndsD) : Ends := { nx := PN K G M H E.nx, rt := PV K G M H E.rt, bk := PN K G M H E.bk, ct := PN K G M H E.ct }

/-- the weakest readings -/
structure tW (X : Cx) (e : Expr) (σ : L2.St) (H : Hp) (R : VK) : Prop where
  run : ∀ pins s, Inv X pins σ H s → wpAny (model X.prog X.w) X.A (eval e X.env) (EP X pins σ R) X.xe s
structure tWT (X : Cx) (e : Expr) (σ : L2.St) (H : Hp) (R : Bool → Hp → Prop) : Prop where
  run : ∀ pins s, Inv X pins σ H s → wpAny (model X.prog X.w) X.A (isTrue e X.env (eval e X.env)) (TP X pins σ R) X.xe s
structure tWW (X : Cx) (e : Expr) (σ : L2.St) (H : Hp) (R : Bool → Hp → Prop) : Prop where
  run : ∀ whole pins s, Inv X pins σ H s → wpAny (model X.prog X.w) X.A (isTrue e X.env whole) (TP X pins σ R) X.xe s
structure tWA (X : Cx) (es : List Expr) (σ : L2.St) (H : Hp) (R : List V → Hp → Prop) : Prop where
  run : ∀ pos pins s, Inv X pins σ H s → wpAny (model X.prog X.w) X.A (spliced (backTo pos (starEach es X.env))) (AP X pins σ R) X.xe s
structure tWS (X : Cx) (st : Stmt) (D : Ends) (σ : L2.St) (H : Hp) : Prop where
  run : ∀ pins s, Inv X pins σ H s → wpAny (model X.prog X.w) X.A (exec st X.env) (SP X pins D) X.xe s
structure tWSs (X : Cx) (st : List Stmt) (D : Ends) (σ : L2.St) (H : Hp) : Prop where
  run : ∀ pins s, Inv X pins σ H s → wpAny (model X.prog X.w) X.A (execs st X.env) (SP X pins D) X.xe s
structure gW (X : Cx) (tg : Expr) (v : V) (σ : L2.St) (H : Hp) (R : L2.St → Hp → Prop) : Prop where
  run : ∀ pins s u, Inv X pins σ H s → RelV v u → wpAny (model X.prog X.w) X.A (assign tg X.env u) (fun _ s' => ∃ σ' H', Inv X pins σ' H' s' ∧ R σ' H') X.xe s
section
variable {X : Cx}
theorem pe_w {e : Expr} : PE X e (tW X e) := ⟨fun pins s σ H Q I h => h.run pins s I⟩
theorem pt_w {e : Expr} : PT X e (tWT X e) := ⟨fun pins s σ H Q I h => h.run pins s I⟩
theorem pw_w {e : Expr} : PW X e (tWW X e) := ⟨fun wh pins s σ H Q I h => h.run wh pins s I⟩
theorem pa_w {es : List Expr} : PA X es (tWA X es) := ⟨fun pos pins s σ H Q I h => h.run pos pins s I⟩
theorem ps_w {st : Stmt} : PS X st (tWS X st) := ⟨fun pins s σ H Q I h => h.run pins s I⟩
theorem pss_w {st : List Stmt} : PSs X st (tWSs X st) := ⟨fun pins s σ H Q I h => h.run pins s I⟩
theorem pg_w {tg : Expr} : PG X tg (gW X tg) := ⟨fun pins s σ H v u Q I r h => h.run pins s u I r⟩

/-- e evaluates so that Q holds of its datum and the mutable part -/
def WE (X : Cx) (e : Expr) (sg : Sg) (M : Mem) (Q : D → Mem → Prop) : Prop := ∀ σ H G, Wd X.K G M H → SRp X.K G sg σ → tW X e σ H (PV X.K G M H Q)
def WT (X : Cx) (e : Expr) (sg : Sg) (M : Mem) (Q : Bool → Mem → Prop) : Prop := ∀ σ H G, Wd X.K G M H → SRp X.K G sg σ → tWT X e σ H (PB X.K G M H Q)
def WW (X : Cx) (e : Expr) (sg : Sg) (M : Mem) (Q : Bool → Mem → Prop) : Prop := ∀ σ H G, Wd X.K G M H → SRp X.K G sg σ → tWW X e σ H (PB X.K G M H Q)
def WA (X : Cx) (es : List Expr) (sg : Sg) (M : Mem) (Q : List D → Mem → Prop) : Prop := ∀ σ H G, Wd X.K G M H → SRp X.K G sg σ → tWA X es σ H (PL X.K G M H Q)
def WS (X : Cx) (st : Stmt) (sg : Sg) (M : Mem) (E : EndsD) : Prop := ∀ σ H G, Wd X.K G M H → SRp X.K G sg σ → tWS X st (toE X.K G M H E) σ H
def WSs (X : Cx) (st : List Stmt) (sg : Sg) (M : Mem) (E : EndsD) : Prop := ∀ σ H G, Wd X.K G M H → SRp X.K G sg σ → tWSs X st (toE X.K G M H E) σ H
/-- .. to one datum, nothing changing -/
abbrev EE (X : Cx) (e : Expr) (sg : Sg) (M : Mem) (d : D) : Prop := WE X e sg M fun x M' => x = d ∧ M' = M
abbrev ET (X : Cx) (e : Expr) (sg : Sg) (M : Mem) (b : Bool) : Prop := WT X e sg M fun x M' => x = b ∧ M' = M
abbrev EA (X : Cx) (es : List Expr) (sg : Sg) (M : Mem) (ds : List D) : Prop := WA X es sg M fun x M' => x = ds ∧ M' = M

theorem tW.imp {e : Expr} {σ : L2.St} {H : Hp} {R R' : VK} (h : tW X e σ H R) (k : ∀ v H', R v H' → R' v H') : tW X e σ H R' := ⟨fun pins s I => thn (h.run pins s I) fun u s' ⟨v, H', J, r, q⟩ => ⟨v, H', J, r, k v H' q⟩⟩
theorem tWT.imp {e : Expr} {σ : L2.St} {H : Hp} {R R' : Bool → Hp → Prop} (h : tWT X e σ H R) (k : ∀ v H', R v H' → R' v H') : tWT X e σ H R' := ⟨fun pins s I => thn (h.run pins s I) fun u s' ⟨H', J, q⟩ => ⟨H', J, k u H' q⟩⟩
theorem tWW.imp {e : Expr} {σ : L2.St} {H : Hp} {R R' : Bool → Hp → Prop} (h : tWW X e σ H R) (k : ∀ v H', R v H' → R' v H') : tWW X e σ H R' := ⟨fun wh pins s I => thn (h.run wh pins s I) fun u s' ⟨H', J, q⟩ => ⟨H', J, k u H' q⟩⟩
theorem tWA.imp {es : List Expr} {σ : L2.St} {H : Hp} {R R' : List V → Hp → Prop} (h : tWA X es σ H R) (k : ∀ v H', R v H' → R' v H') : tWA X es σ H R' := ⟨fun pos pins s I => thn (h.run pos pins s I) fun u s' ⟨v, H', J, r, q⟩ => ⟨v, H', J, r, k v H' q⟩⟩
theorem SP.imp {pins : List (Addr × Obj)} {D D' : Ends} {f : Flow} {s : Shared} (h : SP X pins D f s) (k1 : ∀ σ H, D.nx σ H → D'.nx σ H) (k2 : ∀ v H, D.rt v H → D'.rt v H) (k3 : ∀ σ H, D.bk σ H → D'.bk σ H) (k4 : ∀ σ H, D.ct σ H → D'.ct σ H) : SP X pins D' f s := by
  cases f with
  | next => obtain ⟨σ, H, I, q⟩ := h; exact ⟨σ, H, I, k1 _ _ q⟩
  | brk => obtain ⟨σ, H, I, q⟩ := h; exact ⟨σ, H, I, k3 _ _ q⟩
  | cont => obtain ⟨σ, H, I, q⟩ := h; exact ⟨σ, H, I, k4 _ _ q⟩
  | ret u => obtain ⟨v, σ, H, I, r, q⟩ := h; exact ⟨v, σ, H, I, r, k2 _ _ q⟩
theorem tWS.imp {st : Stmt} {σ : L2.St} {H : Hp} {D D' : Ends} (h : tWS X st D σ H) (k1 : ∀ σ H, D.nx σ H → D'.nx σ H) (k2 : ∀ v H, D.rt v H → D'.rt v H) (k3 : ∀ σ H, D.bk σ H → D'.bk σ H) (k4 : ∀ σ H, D.ct σ H → D'.ct σ H) : tWS X st D' σ H := ⟨fun pins s I => thn (h.run pins s I) fun f s' q => SP.imp q k1 k2 k3 k4⟩
theorem tWSs.imp {st : List Stmt} {σ : L2.St} {H : Hp} {D D' : Ends} (h : tWSs X st D σ H) (k1 : ∀ σ H, D.nx σ H → D'.nx σ H) (k2 : ∀ v H, D.rt v H → D'.rt v H) (k3 : ∀ σ H, D.bk σ H → D'.bk σ H) (k4 : ∀ σ H, D.ct σ H → D'.ct σ H) : tWSs X st D' σ H := ⟨fun pins s I => thn (h.run pins s I) fun f s' q => SP.imp q k1 k2 k3 k4⟩

section
variable {K : PySem.W.Frag} {G H H' : Hp} {M : Mem}
theorem PV.imp {Q Q' : D → Mem → Prop} {v : V} (h : PV K G M H Q v H') (k : ∀ d M', Q d M' → Q' d M') : PV K G M H Q' v H' := let ⟨d, G', M', s, w, r, q⟩ := h; ⟨d, G', M', s, w, r, k _ _ q⟩
theorem PV.base {Q : D → Mem → Prop} {v : V} {G1 H1 : Hp} {M1 : Mem} (s : Stp G M H G1 M1 H1) (h : PV K G1 M1 H1 Q v H') : PV K G M H Q v H' := let ⟨d, G', M', s', w, r, q⟩ := h; ⟨d, G', M', s.trans s', w, r, q⟩
theorem PB.base {Q : Bool → Mem → Prop} {v : Bool} {G1 H1 : Hp} {M1 : Mem} (s : Stp G M H G1 M1 H1) (h : PB K G1 M1 H1 Q v H') : PB K G M H Q v H' := let ⟨G', M', s', w, q⟩ := h; ⟨G', M', s.trans s', w, q⟩
theorem PL.base {Q : List D → Mem → Prop} {v : List V} {G1 H1 : Hp} {M1 : Mem} (s : Stp G M H G1 M1 H1) (h : PL K G1 M1 H1 Q v H') : PL K G M H Q v H' := let ⟨d, G', M', s', w, r, q⟩ := h; ⟨d, G', M', s.trans s', w, r, q⟩
theorem PN.base {Q : Sg → Mem → Prop} {σ : L2.St} {G1 H1 : Hp} {M1 : Mem} (s : Stp G M H G1 M1 H1) (h : PN K G1 M1 H1 Q σ H') : PN K G M H Q σ H' := let ⟨d, G', M', s', w, r, q⟩ := h; ⟨d, G', M', s.trans s', w, r, q⟩
theorem PV.here {Q : D → Mem → Prop} {v : V} {d : D} (w : Wd K G M H) (r : Rp K G v d) (q : Q d M) : PV K G M H Q v H := ⟨d, G, M, Stp.refl, w, r, q⟩
theorem PB.here {Q : Bool → Mem → Prop} {b : Bool} (w : Wd K G M H) (q : Q b M) : PB K G M H Q b H := ⟨G, M, Stp.refl, w, q⟩
end
theorem WE.imp {e : Expr} {sg : Sg} {M : Mem} {Q Q' : D → Mem → Prop} (h : WE X e sg M Q) (k : ∀ d M', Q d M' → Q' d M') : WE X e sg M Q' := fun σ H G w r => (h σ H G w r).imp fun v H' p => p.imp k
theorem WT.imp {e : Expr} {sg : Sg} {M : Mem} {Q Q' : Bool → Mem → Prop} (h : WT X e sg M Q) (k : ∀ d M', Q d M' → Q' d M') : WT X e sg M Q' := fun σ H G w r => (h σ H G w r).imp fun v H' ⟨G', M', a, b, q⟩ => ⟨G', M', a, b, k _ _ q⟩
theorem WW.imp {e : Expr} {sg : Sg} {M : Mem} {Q Q' : Bool → Mem → Prop} (h : WW X e sg M Q) (k : ∀ d M', Q d M' → Q' d M') : WW X e sg M Q' := fun σ H G w r => (h σ H G w r).imp fun v H' ⟨G', M', a, b, q⟩ => ⟨G', M', a, b, k _ _ q⟩
theorem WA.imp {es : List Expr} {sg : Sg} {M : Mem} {Q Q' : List D → Mem → Prop} (h : WA X es sg M Q) (k : ∀ d M', Q d M' → Q' d M') : WA X es sg M Q' := fun σ H G w r => (h σ H G w r).imp fun v H' ⟨d, G', M', a, b, c, q⟩ => ⟨d, G', M', a, b, c, k _ _ q⟩
structure EndsD.Le (E E' : EndsD) : Prop where
  nx : ∀ sg M, E.nx sg M → E'.nx sg M
  rt : ∀ d M, E.rt d M → E'.rt d M
  bk : ∀ sg M, E.bk sg M → E'.bk sg M
  ct : ∀ sg M, E.ct sg M → E'.ct sg M
theorem PN.imp {K : PySem.W.Frag} {G H H' : Hp} {M : Mem} {Q Q' : Sg → Mem → Prop} {σ : L2.St} (h : PN K G M H Q σ H') (k : ∀ d M', Q d M' → Q' d M') : PN K G M H Q' σ H' := let ⟨d, G', M', s, w, r, q⟩ := h; ⟨d, G', M', s, w, r, k _ _ q⟩
theorem WS.imp {st : Stmt} {sg : Sg} {M : Mem} {E E' : EndsD} (h : WS X st sg M E) (k : E.Le E') : WS X st sg M E' := fun σ H G w r => (h σ H G w r).imp (fun _ _ q => PN.imp q k.nx) (fun _ _ q => PV.imp q k.rt) (fun _ _ q => PN.imp q k.bk) (fun _ _ q => PN.imp q k.ct)
theorem WSs.imp {st : List Stmt} {sg : Sg} {M : Mem} {E E' : EndsD} (h : WSs X st sg M E) (k : E.Le E') : WSs X st sg M E' := fun σ H G w r => (h σ H G w r).imp (fun _ _ q => PN.imp q k.nx) (fun _ _ q => PV.imp q k.rt) (fun _ _ q => PN.imp q k.bk) (fun _ _ q => PN.imp q k.ct)
/-- a rule of the layer below, by its reading -/
theorem WE.of {e : Expr} {t : TE} {sg : Sg} {M : Mem} {Q : D → Mem → Prop} (h : PE X e t) (k : ∀ σ H G, Wd X.K G M H → SRp X.K G sg σ → t σ H (PV X.K G M H Q)) : WE X e sg M Q := fun σ H G w r => ⟨fun pins s I => h.run pins s σ H _ I (k σ H G w r)⟩
theorem WT.of {e : Expr} {t : TT} {sg : Sg} {M : Mem} {Q : Bool → Mem → Prop} (h : PT X e t) (k : ∀ σ H G, Wd X.K G M H → SRp X.K G sg σ → t σ H (PB X.K G M H Q)) : WT X e sg M Q := fun σ H G w r => ⟨fun pins s I => h.run pins s σ H _ I (k σ H G w r)⟩
theorem WW.of {e : Expr} {t : TT} {sg : Sg} {M : Mem} {Q : Bool → Mem → Prop} (h : PW X e t) (k : ∀ σ H G, Wd X.K G M H → SRp X.K G sg σ → t σ H (PB X.K G M H Q)) : WW X e sg M Q := fun σ H G w r => ⟨fun wh pins s I => h.run wh pins s σ H _ I (k σ H G w r)⟩
theorem WA.of {es : List Expr} {t : TA} {sg : Sg} {M : Mem} {Q : List D → Mem → Prop} (h : PA X es t) (k : ∀ σ H G, Wd X.K G M H → SRp X.K G sg σ → t σ H (PL X.K G M H Q)) : WA X es sg M Q := fun σ H G w r => ⟨fun pos pins s I => h.run pos pins s σ H _ I (k σ H G w r)⟩
theorem WS.of {st : Stmt} {t : TS} {sg : Sg} {M : Mem} {E : EndsD} (h : PS X st t) (k : ∀ σ H G, Wd X.K G M H → SRp X.K G sg σ → t (toE X.K G M H E) σ H) : WS X st sg M E := fun σ H G w r => ⟨fun pins s I => h.run pins s σ H _ I (k σ H G w r)⟩
theorem WSs.of {st : List Stmt} {t : TS} {sg : Sg} {M : Mem} {E : EndsD} (h : PSs X st t) (k : ∀ σ H G, Wd X.K G M H → SRp X.K G sg σ → t (toE X.K G M H E) σ H) : WSs X st sg M E := fun σ H G w r => ⟨fun pins s I => h.run pins s σ H _ I (k σ H G w r)⟩
theorem toE_base {K : PySem.W.Frag} {G H G1 H1 : Hp} {M M1 : Mem} {E : EndsD} {st : List Stmt} {σ : L2.St} {H0 : Hp} (s : Stp G M H G1 M1 H1) (h : tWSs X st (toE K G1 M1 H1 E) σ H0) : tWSs X st (toE K G M H E) σ H0 := h.imp (fun _ _ q => PN.base s q) (fun _ _ q => PV.base s q) (fun _ _ q => PN.base s q) (fun _ _ q => PN.base s q)
end
end DL
set_option Elab.async false
set_option linter.all false
set_option maxRecDepth 100000
set_option maxHeartbeats 4000000
/-! DLb: rules for expressions over data. -/
namespace DL
open PySem L2
section
variable {X : Cx} {sg : Sg} {M : Mem} {Q : D → Mem → Prop} {Qb : Bool → Mem → Prop} {pos : Pos} {K : PySem.W.Frag}

/-! ### names, constants -/
theorem we_v (i : Nat) {x : Str} {d : D} (hs : sg[i]? = some (some d)) (q : Q d M) (hN : X.N[i]? = some x := by rfl) (hv : Vis X.env.scope x := by first | exact Or.inl rfl | exact Or.inr (Or.inl rfl) | exact Or.inr (Or.inr rfl))
    (hd : (x == ("__debug__" : Str)) = false := by decide) (hcd : (x == ("__classdict__" : Str)) = false := by decide) : WE X (.Name x pos) sg M Q :=
  WE.of (pe_var hN hv hd hcd) fun σ H G w r => by
    obtain ⟨v, e, rp⟩ := r.at_ i d hs
    exact ⟨v, e, PV.here w rp q⟩
theorem we_int {i : Int} {j : Nat} (q : Q (.int i) M) : WE X (.Constant (.int i) j pos) sg M Q := WE.of pe_int fun σ H G w r => PV.here w (.int i) q
theorem we_bl {b : Bool} {j : Nat} (q : Q (.bl b) M) : WE X (.Constant (.bool b) j pos) sg M Q := WE.of pe_bl fun σ H G w r => PV.here w (.bl b) q
theorem we_non {j : Nat} (q : Q .non M) : WE X (.Constant .none j pos) sg M Q := WE.of pe_non fun σ H G w r => PV.here w .non q
theorem we_str {x : Str} {j : Nat} (q : Q (.str x) M) : WE X (.Constant (.str x) j pos) sg M Q := WE.of pe_str fun σ H G w r => PV.here w (.str x) q
/-- a module's constant int -/
theorem we_gi {x : Str} {i : Int} {t : Tok} (hm : X.mg x = some (.int i t)) (q : Q (.int i) M) (hg : Gl X x := by rfl) (hd : (x == ("__debug__" : Str)) = false := by decide) : WE X (.Name x pos) sg M Q := WE.of (pe_glob (v := .int i) hg hm (show ∃ t', Value.int i t = Value.int i t' from ⟨t, rfl⟩) hd) fun σ H G w r => PV.here w (.int i) q
theorem we_gs {x y : Str} {t : Tok} (hm : X.mg x = some (.str y t)) (q : Q (.str y) M) (hg : Gl X x := by rfl) (hd : (x == ("__debug__" : Str)) = false := by decide) : WE X (.Name x pos) sg M Q := WE.of (pe_glob (v := .str y) hg hm (show ∃ t', Value.str y t = Value.str y t' from ⟨t, rfl⟩) hd) fun σ H G w r => PV.here w (.str y) q

/-! ### two-place operators -/
def OpD (K : PySem.W.Frag) (r : R2) (x y : D) (M : Mem) (Q : D → Mem → Prop) : Prop := ∀ (G H : Hp) (v u : V) (R : VK), Wd K G M H → Rp K G v x → Rp K G u y → (∀ z H', PV K G M H Q z H' → R z H') → r v u H R
theorem two {a b : Expr} {r : R2} {Qa : D → Mem → Prop} (ha : WE X a sg M Qa) (hb : ∀ x M1, Qa x M1 → WE X b sg M1 fun y M2 => OpD X.K r x y M2 Q) {σ : L2.St} {H G : Hp} (w : Wd X.K G M H) (s : SRp X.K G sg σ) : tOp r (tW X a) (tW X b) σ H (PV X.K G M H Q) :=
  (ha σ H G w s).imp fun v H1 ⟨x, G1, M1, st, w1, r1, q1⟩ => (hb x M1 q1 σ H1 G1 w1 (s.mono (st.gx w))).imp fun u H2 ⟨y, G2, M2, st2, w2, r2, q2⟩ => q2 G2 H2 v u _ w2 (r1.mono (st2.gx w1)) r2 fun z H' h => h.base (st.trans st2)
theorem we_op {op : Operator} {a b : Expr} {r : R2} {Qa : D → Mem → Prop} (ho : OpR X (binaryOp op) r) (ha : WE X a sg M Qa) (hb : ∀ x M1, Qa x M1 → WE X b sg M1 fun y M2 => OpD X.K r x y M2 Q) : WE X (.BinOp a op b pos) sg M Q := WE.of (pe_op ho pe_w pe_w) fun σ H G w s => two ha hb w s
theorem ee_op {op : Operator} {a b : Expr} {r : R2} {x y : D} (ho : OpR X (binaryOp op) r) (ha : EE X a sg M x) (hb : EE X b sg M y) (hr : OpD X.K r x y M Q) : WE X (.BinOp a op b pos) sg M Q := we_op ho ha fun x' M1 ⟨e1, e2⟩ => by
  subst e1; subst e2
  exact hb.imp fun y' M2 ⟨e1, e2⟩ => by subst e1; subst e2; exact hr
theorem we_cmp {op : CmpOp} {a b : Expr} {r : R2} {Qa : D → Mem → Prop} (ho : OpR X (compareOp op) r) (ha : WE X a sg M Qa) (hb : ∀ x M1, Qa x M1 → WE X b sg M1 fun y M2 => OpD X.K r x y M2 Q) (hm : behindInMarks op b = false := by first | exact nomark _ | rfl) : WE X (.Compare a [op] [b] pos) sg M Q := WE.of (pe_cmpR ho pe_w pe_w hm) fun σ H G w s => two ha hb w s
theorem ee_cmp {op : CmpOp} {a b : Expr} {r : R2} {x y : D} (ho : OpR X (compareOp op) r) (ha : EE X a sg M x) (hb : EE X b sg M y) (hr : OpD X.K r x y M Q) (hm : behindInMarks op b = false := by first | exact nomark _ | rfl) : WE X (.Compare a [op] [b] pos) sg M Q := we_cmp ho ha (fun x' M1 ⟨e1, e2⟩ => by
  subst e1; subst e2
  exact hb.imp fun y' M2 ⟨e1, e2⟩ => by subst e1; subst e2; exact hr) hm
/-- a comparison as a test -/
theorem wt_cmp {op : CmpOp} {a b : Expr} {r : R2} {Qa : D → Mem → Prop} (ho : OpR X (compareOp op) r) (ha : WE X a sg M Qa) (hb : ∀ x M1, Qa x M1 → WE X b sg M1 fun y M2 => OpD X.K r x y M2 fun z M3 => ∃ k, z = .bl k ∧ Qb k M3) (hm : behindInMarks op b = false := by first | exact nomark _ | rfl) : WT X (.Compare a [op] [b] pos) sg M Qb :=
  WT.of (pt_cmpR ho pe_w pe_w hm) fun σ H G w s => by
    refine (ha σ H G w s).imp fun v H1 ⟨x, G1, M1, st, w1, r1, q1⟩ => (hb x M1 q1 σ H1 G1 w1 (s.mono (st.gx w))).imp fun u H2 ⟨y, G2, M2, st2, w2, r2, q2⟩ => q2 G2 H2 v u _ w2 (r1.mono (st2.gx w1)) r2 fun z H' h => ?_
    obtain ⟨d, G', M', s', w', r', k, rfl, q⟩ := h
    cases r'
    exact ⟨k, rfl, G', M', (st.trans st2).trans s', w', q⟩
theorem et_cmp {op : CmpOp} {a b : Expr} {r : R2} {x y : D} (ho : OpR X (compareOp op) r) (ha : EE X a sg M x) (hb : EE X b sg M y) (hr : OpD X.K r x y M fun z M3 => ∃ k, z = .bl k ∧ Qb k M3) (hm : behindInMarks op b = false := by first | exact nomark _ | rfl) : WT X (.Compare a [op] [b] pos) sg M Qb := wt_cmp ho ha (fun x' M1 ⟨e1, e2⟩ => by
  subst e1; subst e2
  exact hb.imp fun y' M2 ⟨e1, e2⟩ => by subst e1; subst e2; exact hr) hm
/-- a < b < c -/
def tri (X : Cx) (a b c : Expr) (r r' : R2) (sg : Sg) (M : Mem) (Q : Bool → Mem → Prop) : Prop := WE X a sg M fun x M1 => WE X b sg M1 fun y M2 => OpD X.K r x y M2 fun z M3 => ∃ k, z = .bl k ∧ (k = false → Q false M3) ∧ (k = true → WE X c sg M3 fun u M4 => OpD X.K r' y u M4 fun z M5 => ∃ k, z = .bl k ∧ Q k M5)
theorem tri_run {a b c : Expr} {r r' : R2} (h : tri X a b c r r' sg M Qb) {σ : L2.St} {H G : Hp} {R : VK} (w : Wd X.K G M H) (s : SRp X.K G sg σ) (hR : ∀ k H', PB X.K G M H Qb k H' → R (.bl k) H') : tChain r r' (tW X a) (tW X b) (tW X c) σ H R := by
  refine (h σ H G w s).imp fun v H1 ⟨x, G1, M1, st, w1, r1, q1⟩ => (q1 σ H1 G1 w1 (s.mono (st.gx w))).imp fun u H2 ⟨y, G2, M2, st2, w2, r2, q2⟩ => q2 G2 H2 v u _ w2 (r1.mono (st2.gx w1)) r2 fun z H' h => ?_
  obtain ⟨d, G3, M3, st3, w3, r3, k, rfl, q0, q1'⟩ := h
  cases r3
  refine ⟨k, rfl, ?_⟩
  cases k with
  | false => exact hR false H' ⟨G3, M3, (st.trans st2).trans st3, w3, q0 rfl⟩
  | true =>
    refine (q1' rfl σ H' G3 w3 (s.mono (((st.trans st2).trans st3).gx w))).imp fun t H4 ⟨z, G4, M4, st4, w4, r4, q4⟩ => q4 G4 H4 u t _ w4 (r2.mono ((st3.trans st4).gx w2)) r4 fun z' H5 h5 => ?_
    obtain ⟨d, G5, M5, st5, w5, r5, k, rfl, q5⟩ := h5
    cases r5
    exact hR k H5 ⟨G5, M5, (((st.trans st2).trans st3).trans st4).trans st5, w5, q5⟩
theorem we_chain {op op' : CmpOp} {a b c : Expr} {r r' : R2} (ho : OpR X (compareOp op) r) (ho' : OpR X (compareOp op') r') (h : tri X a b c r r' sg M fun k M1 => Q (.bl k) M1) (hm : lastMarks [op, op'] [b, c] = false := by with_unfolding_all rfl) : WE X (.Compare a [op, op'] [b, c] pos) sg M Q :=
  WE.of (pe_chain ho ho' pe_w pe_w pe_w hm) fun σ H G w s => tri_run h w s fun k H' ⟨G', M', st, w', q⟩ => ⟨.bl k, G', M', st, w', .bl k, q⟩
theorem wt_chain {op op' : CmpOp} {a b c : Expr} {r r' : R2} (ho : OpR X (compareOp op) r) (ho' : OpR X (compareOp op') r') (h : tri X a b c r r' sg M Qb) (hm : lastMarks [op, op'] [b, c] = false := by with_unfolding_all rfl) : WT X (.Compare a [op, op'] [b, c] pos) sg M Qb :=
  WT.of (pt_chain ho ho' pe_w pe_w pe_w hm) fun σ H G w s => tri_run h w s fun k H' q => ⟨k, rfl, q⟩
/-- three ints -/
theorem tri_I {a b c : Expr} {p p' : Int → Int → Bool} {i j l : Int} (ha : EE X a sg M (.int i)) (hb : EE X b sg M (.int j)) (hc : EE X c sg M (.int l)) (q : Qb (p i j && p' j l) M) : tri X a b c (rI0 fun i j => .bl (p i j)) (rI0 fun i j => .bl (p' i j)) sg M Qb :=
  ha.imp fun x M1 ⟨e1, e2⟩ => by
    subst e1; subst e2
    exact hb.imp fun y M2 ⟨e1, e2⟩ => by
      subst e1; subst e2
      intro G H v u R w rx ry k
      cases rx; cases ry
      refine ⟨i, j, rfl, rfl, k _ _ (PV.here w (.bl _) ⟨p i j, rfl, fun e => ?_, fun e => hc.imp fun z M3 ⟨e1, e2⟩ => ?_⟩)⟩
      · rw [e] at q; exact q
      · subst e1; subst e2
        intro G H v u R w rx ry k
        cases rx; cases ry
        refine ⟨j, l, rfl, rfl, k _ _ (PV.here w (.bl _) ⟨p' j l, rfl, ?_⟩)⟩
        rw [e, Bool.true_and] at q; exact q
/-! the operators by data -/
theorem od_I0 {f : Int → Int → Int} {i j : Int} (q : Q (.int (f i j)) M) : OpD K (rI0 fun i j => .int (f i j)) (.int i) (.int j) M Q := fun G H v u R w rx ry k => by
  cases rx; cases ry
  exact ⟨i, j, rfl, rfl, k _ _ (PV.here w (.int _) q)⟩
theorem od_I {C : Int → Int → Prop} {f : Int → Int → Int} {i j : Int} (c : C i j) (q : Q (.int (f i j)) M) : OpD K (rI C fun i j => .int (f i j)) (.int i) (.int j) M Q := fun G H v u R w rx ry k => by
  cases rx; cases ry
  exact ⟨i, j, rfl, rfl, c, k _ _ (PV.here w (.int _) q)⟩
theorem od_B0 {f : Int → Int → Bool} {i j : Int} (q : Q (.bl (f i j)) M) : OpD K (rI0 fun i j => .bl (f i j)) (.int i) (.int j) M Q := fun G H v u R w rx ry k => by
  cases rx; cases ry
  exact ⟨i, j, rfl, rfl, k _ _ (PV.here w (.bl _) q)⟩
theorem od_catS {x y : Str} (h : x.length + y.length ≤ sizeLine) (q : Q (.str (x ++ y)) M) : OpD K (fun x y H Q => ∃ i j, x = .str i ∧ y = .str j ∧ i.length + j.length ≤ sizeLine ∧ Q (.str (i ++ j)) H) (.str x) (.str y) M Q := fun G H v u R w rx ry k => by
  cases rx; cases ry
  exact ⟨x, y, rfl, rfl, h, k _ _ (PV.here w (.str _) q)⟩
theorem new_tup {G H : Hp} {p : Addr} {xs : List V} {ds : List D} (w : Wd K G M H) (hp : H p = none) (r : RpA K G xs ds) (q : Q (.tup ds) M) : PV K G M H Q (.ref p) (upd H p (.tup xs)) := by
  obtain ⟨w', st⟩ := w.new hp (o := .tup xs)
  exact ⟨_, _, _, st, w', .tup (SqT.of upd_same) (r.mono (gx_new w hp)), q⟩
theorem new_lst {G H : Hp} {p : Addr} {xs : List V} {ds : List D} (w : Wd K G M H) (hp : H p = none) (r : RpA K G xs ds) (q : Q (.lst ds) M) : PV K G M H Q (.ref p) (upd H p (.lst xs)) := by
  obtain ⟨w', st⟩ := w.new hp (o := .lst xs)
  exact ⟨_, _, _, st, w', .lst upd_same (r.mono (gx_new w hp)), q⟩
/-- .. that may change -/
theorem new_lstM {G H : Hp} {p : Addr} {xs : List V} {ds : List D} (w : Wd K G M H) (hp : H p = none) (r : RpA K G xs ds) (q : ∀ p, M p = none → Q (.ptr p) (updM M p (some (.lst ds)))) : PV K G M H Q (.ref p) (upd H p (.lst xs)) := by
  obtain ⟨w', st⟩ := w.newM hp (o := .lst xs) (mo := .lst ds) ⟨xs, upd_same, r⟩
  exact ⟨_, _, _, st, w', .ptr p, q p (w.free hp).2⟩
theorem od_catT {ds es : List D} (h : ds.length + es.length ≤ sizeLine) (q : Q (.tup (ds ++ es)) M) : OpD K (rCatA K) (.tup ds) (.tup es) M Q := fun G H v u R w rx ry k => by
  cases rx with
  | tup h1 r1 =>
    cases ry with
    | tup h2 r2 =>
      refine ⟨_, _, _, _, rfl, rfl, w.sub.st h1, w.sub.st h2, by rw [r1.length, r2.length]; exact h, fun e => ?_, fun e e2 => ?_, fun e e2 p hp => ?_⟩
      · subst e
        cases r1
        exact k _ _ (PV.here w (.tup h2 r2) q)
      · subst e2
        cases r2
        rw [List.append_nil] at q
        exact k _ _ (PV.here w (.tup h1 r1) q)
      · exact k _ _ (new_tup w hp (r1.append r2) q)
/-- a list as it stands: frozen, or one that may change -/
def LsD (M : Mem) (x : D) (ds : List D) : Prop := x = .lst ds ∨ ∃ p, x = .ptr p ∧ M p = some (.lst ds)
theorem LsD.at {x : D} {ds : List D} {v : V} {G H : Hp} (h : LsD M x ds) (w : Wd K G M H) (r : Rp K G v x) : ∃ a xs, v = .ref a ∧ H a = some (.lst xs) ∧ RpA K G xs ds := by
  rcases h with rfl | ⟨p, rfl, e⟩
  · cases r with
    | lst h1 r1 => exact ⟨_, _, rfl, w.sub _ _ h1, r1⟩
  · cases r
    obtain ⟨_, xs, h1, r1⟩ := w.mem _ _ e
    exact ⟨_, _, rfl, h1, r1⟩
theorem od_cat {x y : D} {ds es : List D} (hx : LsD M x ds) (hy : LsD M y es) (h : ds.length + es.length ≤ sizeLine) (q : Q (.lst (ds ++ es)) M) : OpD K rCat x y M Q := fun G H v u R w rx ry k => by
  obtain ⟨a, xs, rfl, h1, r1⟩ := hx.at w rx
  obtain ⟨b, ys, rfl, h2, r2⟩ := hy.at w ry
  exact ⟨a, b, xs, ys, rfl, rfl, h1, h2, by rw [r1.length, r2.length]; exact h, fun p hp => k _ _ (new_lst w hp (r1.append r2) q)⟩
theorem od_repT {ds : List D} {i : Int} (h0 : ds ≠ []) (h1 : 2 ≤ i) (h2 : i ≤ 1000) (h3 : ds.length ≤ 1000) (q : Q (.tup (List.replicate i.toNat ds).flatten) M) : OpD K (rRepT K) (.tup ds) (.int i) M Q := fun G H v u R w rx ry k => by
  cases ry
  cases rx with
  | tup e1 r1 => exact ⟨_, _, _, rfl, rfl, w.sub.st e1, fun e => h0 (by subst e; cases r1; rfl), h1, h2, by rw [r1.length]; exact h3, fun p hp => k _ _ (new_tup w hp (r1.rep _) q)⟩
theorem od_rep {x : D} {ds : List D} {i : Int} (hx : LsD M x ds) (h1 : -(2 ^ 63) ≤ i) (h2 : i < 2 ^ 63) (h3 : ds.length * i.toNat ≤ sizeLine) (q : Q (.lst (List.replicate i.toNat ds).flatten) M) : OpD K rRep x (.int i) M Q := fun G H v u R w rx ry k => by
  cases ry
  obtain ⟨a, xs, rfl, e1, r1⟩ := hx.at w rx
  exact ⟨a, i, xs, rfl, rfl, e1, h1, h2, by rw [r1.length]; exact h3, fun p hp => k _ _ (new_lst w hp (r1.rep _) q)⟩
/-- is None, is not None -/
def isNon : D → Bool
  | .non => true
  | _ => false
theorem Rp.non_iff {G : Hp} {v : V} {d : D} (r : Rp K G v d) : decide (v = .non) = isNon d := by cases r <;> rfl
theorem od_isN {x : D} (q : Q (.bl (isNon x)) M) : OpD K (fun x y H Q => y = .non ∧ Q (.bl (decide (x = .non))) H) x .non M Q := fun G H v u R w rx ry k => by
  cases ry
  refine ⟨rfl, k _ _ ?_⟩
  rw [rx.non_iff]
  exact PV.here w (.bl _) q
theorem od_notN {x : D} (q : Q (.bl (!isNon x)) M) : OpD K (fun x y H Q => y = .non ∧ Q (.bl (!decide (x = .non))) H) x .non M Q := fun G H v u R w rx ry k => by
  cases ry
  refine ⟨rfl, k _ _ ?_⟩
  rw [rx.non_iff]
  exact PV.here w (.bl _) q
/-- is, is not of two bools -/
theorem od_isB {a b : Bool} (q : Q (.bl (decide (a = b))) M) : OpD K rIsB (.bl a) (.bl b) M Q := fun G H v u R w rx ry k => by
  cases rx; cases ry
  exact ⟨a, b, rfl, rfl, k _ _ (PV.here w (.bl _) q)⟩
theorem od_notB {a b : Bool} (q : Q (.bl (!decide (a = b))) M) : OpD K rNotB (.bl a) (.bl b) M Q := fun G H v u R w rx ry k => by
  cases rx; cases ry
  exact ⟨a, b, rfl, rfl, k _ _ (PV.here w (.bl _) q)⟩
/-- == of ints, of texts -/
theorem od_eqI {i j : Int} (q : Q (.bl (decide (i = j))) M) : OpD K rEq (.int i) (.int j) M Q := fun G H v u R w rx ry k => by
  cases rx; cases ry
  have e : decide (V.int i = V.int j) = decide (i = j) := decide_eq_decide.mpr ⟨V.int.inj, congrArg _⟩
  refine ⟨rfl, k _ _ ?_⟩
  rw [e]
  exact PV.here w (.bl _) q
theorem od_neI {i j : Int} (q : Q (.bl (!decide (i = j))) M) : OpD K rNe (.int i) (.int j) M Q := fun G H v u R w rx ry k => by
  cases rx; cases ry
  have e : decide (V.int i = V.int j) = decide (i = j) := decide_eq_decide.mpr ⟨V.int.inj, congrArg _⟩
  refine ⟨rfl, k _ _ ?_⟩
  rw [e]
  exact PV.here w (.bl _) q
theorem od_eqS {i j : Str} (q : Q (.bl (decide (i = j))) M) : OpD K rEq (.str i) (.str j) M Q := fun G H v u R w rx ry k => by
  cases rx; cases ry
  have e : decide (V.str i = V.str j) = decide (i = j) := decide_eq_decide.mpr ⟨V.str.inj, congrArg _⟩
  refine ⟨rfl, k _ _ ?_⟩
  rw [e]
  exact PV.here w (.bl _) q
theorem od_neS {i j : Str} (q : Q (.bl (!decide (i = j))) M) : OpD K rNe (.str i) (.str j) M Q := fun G H v u R w rx ry k => by
  cases rx; cases ry
  have e : decide (V.str i = V.str j) = decide (i = j) := decide_eq_decide.mpr ⟨V.str.inj, congrArg _⟩
  refine ⟨rfl, k _ _ ?_⟩
  rw [e]
  exact PV.here w (.bl _) q
theorem od_eqB {i j : Bool} (q : Q (.bl (decide (i = j))) M) : OpD K rEq (.bl i) (.bl j) M Q := fun G H v u R w rx ry k => by
  cases rx; cases ry
  have e : decide (V.bl i = V.bl j) = decide (i = j) := decide_eq_decide.mpr ⟨V.bl.inj, congrArg _⟩
  refine ⟨rfl, k _ _ ?_⟩
  rw [e]
  exact PV.here w (.bl _) q

/-! ### == of data at any depth -/
mutual
def toPy : D → PyData
  | .non => .none
  | .bl b => .bool b
  | .int i => .int i
  | .str x => .str x
  | .tup ds => .tuple (toPyA ds)
  | .lst ds => .list (toPyA ds)
  | .ptr _ => .none
  | .scr ns => .list (ns.map .int)
def toPyA : List D → List PyData
  | [] => []
  | d :: ds => toPy d :: toPyA ds
end
mutual
/-- no mutable object within -/
def pl : D → Bool
  | .tup ds => plA ds
  | .lst ds => plA ds
  | .ptr _ => false
  | .scr _ => false
  | _ => true
def plA : List D → Bool
  | [] => true
  | d :: ds => pl d && plA ds
end
theorem dp_ints {H : Hp} : ∀ ns : List Int, DpAll K H (ns.map V.int) (ns.map PyData.int)
  | [] => .nil
  | n :: ns => .cons (.int n) (dp_ints ns)
mutual
theorem dp_of {G H : Hp} (e : Gx G H) : ∀ {v : V} {d : D}, Rp K G v d → pl d = true → Dp K H v (toPy d)
  | _, _, .non, _ => .non
  | _, _, .bl b, _ => .bl b
  | _, _, .int i, _ => .int i
  | _, _, .str x, _ => .str x
  | _, _, .tup h r, p => .tup (e.st h) (dp_all e r p)
  | _, _, .lst h r, p => .lst (SqL.of (e _ _ h)) (dp_all e r p)
  | _, _, .ptr _, p => Bool.noConfusion (show false = true from p)
  | _, _, .scr _, p => Bool.noConfusion (show false = true from p)
theorem dp_all {G H : Hp} (e : Gx G H) : ∀ {vs : List V} {ds : List D}, RpA K G vs ds → plA ds = true → DpAll K H vs (toPyA ds)
  | _, _, .nil, _ => .nil
  | _, _, .cons h r, p => by
    have q := Bool.and_eq_true_iff.mp p
    exact .cons (dp_of e h q.1) (dp_all e r q.2)
end
/-- what a datum is told by, lists that may change at the top included -/
def PyD (M : Mem) (x : D) (d : PyData) : Prop := (pl x = true ∧ d = toPy x) ∨ ∃ ds, LsD M x ds ∧ plA ds = true ∧ d = .list (toPyA ds)
theorem PyD.dp {x : D} {d : PyData} {v : V} {G H : Hp} (h : PyD M x d) (w : Wd K G M H) (r : Rp K G v x) : Dp K H v d := by
  rcases h with ⟨p, rfl⟩ | ⟨ds, l, p, rfl⟩
  · exact dp_of w.sub r p
  · obtain ⟨a, xs, rfl, h1, r1⟩ := l.at w r
    exact .lst (SqL.of h1) (dp_all w.sub r1 p)
theorem od_eqD {x y : D} {d e : PyData} (hx : PyD M x d) (hy : PyD M y e) (sd : SeqAt.shaped d = true) (se : SeqAt.shaped e = true) (q : Q (.bl (PyData.eqv d e)) M) : OpD K (rEqD K) x y M Q := fun G H v u R w rx ry k =>
  ⟨d, e, hx.dp w rx, hy.dp w ry, sd, se, k _ _ (PV.here w (.bl _) q)⟩
theorem od_neD {x y : D} {d e : PyData} (hx : PyD M x d) (hy : PyD M y e) (sd : SeqAt.shaped d = true) (se : SeqAt.shaped e = true) (q : Q (.bl (!PyData.eqv d e)) M) : OpD K (rNeD K) x y M Q := fun G H v u R w rx ry k =>
  ⟨d, e, hx.dp w rx, hy.dp w ry, sd, se, k _ _ (PV.here w (.bl _) q)⟩

/-! ### truth, and, or, not, if -/
theorem wt_val {e : Expr} (h : WE X e sg M fun x M1 => ∃ k, x = .bl k ∧ Qb k M1) (he : ∀ whole, isTrue e X.env whole = (do let v ← whole; standAt e.pos; holding [v] (truthy v)) := by intro _; rfl) : WT X e sg M Qb := WT.of (pt_val pe_w he) fun σ H G w s =>
  (h σ H G w s).imp fun v H1 ⟨d, G', M', st, w', r, k, e, q⟩ => by
    subst e
    cases r
    exact ⟨k, rfl, G', M', st, w', q⟩
theorem wt_not {e : Expr} (h : WT X e sg M fun b M1 => Qb (!b) M1) : WT X (.UnaryOp .Not e pos) sg M Qb := WT.of (pt_not pt_w) fun σ H G w s => (h σ H G w s).imp fun v H1 ⟨G', M', st, w', q⟩ => ⟨G', M', st, w', q⟩
theorem ww_pt {e : Expr} (h : WW X e sg M Qb) : WT X e sg M Qb := fun σ H G w s => ⟨fun pins t I => (h σ H G w s).run _ pins t I⟩
theorem ww_and1 {e : Expr} (h : WT X e sg M Qb) : WW X (.BoolOp .And [e] pos) sg M Qb := WW.of (pw_and1 pt_w) fun σ H G w s => h σ H G w s
theorem ww_or1 {e : Expr} (h : WT X e sg M Qb) : WW X (.BoolOp .Or [e] pos) sg M Qb := WW.of (pw_or1 pt_w) fun σ H G w s => h σ H G w s
theorem ww_and {a b : Expr} {rest : List Expr} (h : WT X a sg M fun k M1 => (k = false → Qb false M1) ∧ (k = true → WW X (.BoolOp .And (b :: rest) pos) sg M1 Qb)) : WW X (.BoolOp .And (a :: b :: rest) pos) sg M Qb := WW.of (pw_and pt_w pw_w) fun σ H G w s => by
  refine (h σ H G w s).imp fun k H1 ⟨G1, M1, st, w1, q0, q1⟩ => ?_
  cases k with
  | true => exact (q1 rfl σ H1 G1 w1 (s.mono (st.gx w))).imp fun _ _ p => p.base st
  | false => exact ⟨G1, M1, st, w1, q0 rfl⟩
theorem ww_or {a b : Expr} {rest : List Expr} (h : WT X a sg M fun k M1 => (k = true → Qb true M1) ∧ (k = false → WW X (.BoolOp .Or (b :: rest) pos) sg M1 Qb)) : WW X (.BoolOp .Or (a :: b :: rest) pos) sg M Qb := WW.of (pw_or pt_w pw_w) fun σ H G w s => by
  refine (h σ H G w s).imp fun k H1 ⟨G1, M1, st, w1, q0, q1⟩ => ?_
  cases k with
  | false => exact (q1 rfl σ H1 G1 w1 (s.mono (st.gx w))).imp fun _ _ p => p.base st
  | true => exact ⟨G1, M1, st, w1, q0 rfl⟩
/-- as values: all but the last True or False -/
theorem we_one {op : BoolOp} {e : Expr} (h : WE X e sg M Q) : WE X (.BoolOp op [e] pos) sg M Q := WE.of (pe_one pe_w) fun σ H G w s => h σ H G w s
theorem we_and {a b : Expr} {rest : List Expr} (h : WE X a sg M fun x M1 => ∃ k, x = .bl k ∧ (k = false → Q (.bl false) M1) ∧ (k = true → WE X (.BoolOp .And (b :: rest) pos) sg M1 Q)) : WE X (.BoolOp .And (a :: b :: rest) pos) sg M Q := WE.of (pe_and pe_w pe_w) fun σ H G w s => by
  refine (h σ H G w s).imp fun v H1 ⟨d, G1, M1, st, w1, r1, k, e, q0, q1⟩ => ?_
  subst e
  cases r1
  refine ⟨k, rfl, ?_⟩
  cases k with
  | true => exact (q1 rfl σ H1 G1 w1 (s.mono (st.gx w))).imp fun _ _ p => p.base st
  | false => exact ⟨_, G1, M1, st, w1, .bl false, q0 rfl⟩
theorem we_or {a b : Expr} {rest : List Expr} (h : WE X a sg M fun x M1 => ∃ k, x = .bl k ∧ (k = true → Q (.bl true) M1) ∧ (k = false → WE X (.BoolOp .Or (b :: rest) pos) sg M1 Q)) : WE X (.BoolOp .Or (a :: b :: rest) pos) sg M Q := WE.of (pe_or pe_w pe_w) fun σ H G w s => by
  refine (h σ H G w s).imp fun v H1 ⟨d, G1, M1, st, w1, r1, k, e, q0, q1⟩ => ?_
  subst e
  cases r1
  refine ⟨k, rfl, ?_⟩
  cases k with
  | false => exact (q1 rfl σ H1 G1 w1 (s.mono (st.gx w))).imp fun _ _ p => p.base st
  | true => exact ⟨_, G1, M1, st, w1, .bl true, q0 rfl⟩
theorem we_not {e : Expr} (h : WE X e sg M fun x M1 => ∃ k, x = .bl k ∧ Q (.bl (!k)) M1) : WE X (.UnaryOp .Not e pos) sg M Q := WE.of (pe_not pe_w) fun σ H G w s => (h σ H G w s).imp fun v H1 ⟨d, G1, M1, st, w1, r1, k, e, q⟩ => by
  subst e
  cases r1
  exact ⟨k, rfl, _, G1, M1, st, w1, .bl _, q⟩
theorem we_if {c a b : Expr} (h : WT X c sg M fun k M1 => (k = true → WE X a sg M1 Q) ∧ (k = false → WE X b sg M1 Q)) : WE X (.IfExp c a b pos) sg M Q := WE.of (pe_ifExp pt_w pe_w pe_w) fun σ H G w s => by
  refine (h σ H G w s).imp fun k H1 ⟨G1, M1, st, w1, q1, q0⟩ => ?_
  cases k with
  | true => exact (q1 rfl σ H1 G1 w1 (s.mono (st.gx w))).imp fun _ _ p => p.base st
  | false => exact (q0 rfl σ H1 G1 w1 (s.mono (st.gx w))).imp fun _ _ p => p.base st
/-! .. where nothing changes -/
theorem ee_and {a b : Expr} {rest : List Expr} {p q : Bool} (ha : EE X a sg M (.bl p)) (hb : p = true → EE X (.BoolOp .And (b :: rest) pos) sg M (.bl q)) : EE X (.BoolOp .And (a :: b :: rest) pos) sg M (.bl (p && q)) := we_and (ha.imp fun x M1 ⟨e1, e2⟩ => by
  subst e1; subst e2
  refine ⟨p, rfl, fun e => by rw [e]; exact ⟨rfl, rfl⟩, fun e => ?_⟩
  rw [e, Bool.true_and]
  exact hb e)
theorem ee_or {a b : Expr} {rest : List Expr} {p q : Bool} (ha : EE X a sg M (.bl p)) (hb : p = false → EE X (.BoolOp .Or (b :: rest) pos) sg M (.bl q)) : EE X (.BoolOp .Or (a :: b :: rest) pos) sg M (.bl (p || q)) := we_or (ha.imp fun x M1 ⟨e1, e2⟩ => by
  subst e1; subst e2
  refine ⟨p, rfl, fun e => by rw [e]; exact ⟨rfl, rfl⟩, fun e => ?_⟩
  rw [e, Bool.false_or]
  exact hb e)
theorem ee_not {a : Expr} {p : Bool} (ha : EE X a sg M (.bl p)) : EE X (.UnaryOp .Not a pos) sg M (.bl (!p)) := we_not (ha.imp fun x M1 ⟨e1, e2⟩ => by
  subst e1; subst e2
  exact ⟨p, rfl, rfl, rfl⟩)
theorem ee_if {c a b : Expr} {k : Bool} {x : D} (hc : ET X c sg M k) (ha : k = true → EE X a sg M x) (hb : k = false → EE X b sg M x) : EE X (.IfExp c a b pos) sg M x := we_if (hc.imp fun b M1 ⟨e1, e2⟩ => by
  subst e1; subst e2
  exact ⟨ha, hb⟩)
theorem et_val {e : Expr} {k : Bool} (h : EE X e sg M (.bl k)) (he : ∀ whole, isTrue e X.env whole = (do let v ← whole; standAt e.pos; holding [v] (truthy v)) := by intro _; rfl) : ET X e sg M k := wt_val (h.imp fun x M1 ⟨e1, e2⟩ => ⟨k, e1, rfl, e2⟩) he
theorem et_not {e : Expr} {k : Bool} (h : ET X e sg M k) : ET X (.UnaryOp .Not e pos) sg M (!k) := wt_not (h.imp fun x M1 ⟨e1, e2⟩ => ⟨by rw [e1], e2⟩)
abbrev EW (X : Cx) (e : Expr) (sg : Sg) (M : Mem) (b : Bool) : Prop := WW X e sg M fun x M' => x = b ∧ M' = M
theorem ew_and {a b : Expr} {rest : List Expr} {p q : Bool} (ha : ET X a sg M p) (hb : p = true → EW X (.BoolOp .And (b :: rest) pos) sg M q) : EW X (.BoolOp .And (a :: b :: rest) pos) sg M (p && q) := ww_and (ha.imp fun x M1 ⟨e1, e2⟩ => by
  subst e1; subst e2
  refine ⟨fun e => by rw [e]; exact ⟨rfl, rfl⟩, fun e => ?_⟩
  rw [e, Bool.true_and]
  exact hb e)
theorem ew_or {a b : Expr} {rest : List Expr} {p q : Bool} (ha : ET X a sg M p) (hb : p = false → EW X (.BoolOp .Or (b :: rest) pos) sg M q) : EW X (.BoolOp .Or (a :: b :: rest) pos) sg M (p || q) := ww_or (ha.imp fun x M1 ⟨e1, e2⟩ => by
  subst e1; subst e2
  refine ⟨fun e => by rw [e]; exact ⟨rfl, rfl⟩, fun e => ?_⟩
  rw [e, Bool.false_or]
  exact hb e)
end
end DL
set_option Elab.async false
set_option linter.all false
set_option maxRecDepth 100000
set_option maxHeartbeats 4000000
/-! DLc: displays, subscripts, calls, statements, loops, comprehensions over data. -/
namespace DL
open PySem L2
section
variable {X : Cx} {sg : Sg} {M : Mem} {Q : D → Mem → Prop} {Qb : Bool → Mem → Prop} {Ql : List D → Mem → Prop} {pos : Pos} {K : PySem.W.Frag}

/-! ### arguments, displays -/
theorem wa_nil (q : Ql [] M) : WA X [] sg M Ql := WA.of pa_nil fun σ H G w s => ⟨[], G, M, Stp.refl, w, .nil, q⟩
theorem wa_cons {e : Expr} {es : List Expr} (h : WE X e sg M fun x M1 => WA X es sg M1 fun xs M2 => Ql (x :: xs) M2) (hs : starEach (e :: es) X.env = (false, eval e X.env) :: starEach es X.env := by exact star1 rfl) : WA X (e :: es) sg M Ql := WA.of (pa_cons pe_w pa_w hs) fun σ H G w s =>
  (h σ H G w s).imp fun v H1 ⟨x, G1, M1, st, w1, r1, q1⟩ => (q1 σ H1 G1 w1 (s.mono (st.gx w))).imp fun vs H2 ⟨xs, G2, M2, st2, w2, r2, q2⟩ => ⟨x :: xs, G2, M2, st.trans st2, w2, .cons (r1.mono (st2.gx w1)) r2, q2⟩
theorem ea_cons {e : Expr} {es : List Expr} {x : D} {xs : List D} (h : EE X e sg M x) (hr : EA X es sg M xs) (hs : starEach (e :: es) X.env = (false, eval e X.env) :: starEach es X.env := by exact star1 rfl) : EA X (e :: es) sg M (x :: xs) := wa_cons (h.imp fun y M1 ⟨e1, e2⟩ => by
  subst e1; subst e2
  exact hr.imp fun ys M2 ⟨e1, e2⟩ => by subst e1; subst e2; exact ⟨rfl, rfl⟩) hs
theorem ea_nil : EA X [] sg M [] := wa_nil ⟨rfl, rfl⟩
theorem we_tup {es : List Expr} {k : Nat} (h : WA X es sg M fun ds M1 => ds.length ≤ sizeLine ∧ Q (.tup ds) M1) : WE X (.Tuple es k pos) sg M Q := WE.of (pe_tup pa_w) fun σ H G w s =>
  (h σ H G w s).imp fun vs H1 ⟨ds, G1, M1, st, w1, r1, z, q1⟩ => ⟨by rw [r1.length]; exact z, fun p hp => (new_tup w1 hp r1 q1).base st⟩
theorem we_lst {es : List Expr} (h : WA X es sg M fun ds M1 => ds.length ≤ sizeLine ∧ Q (.lst ds) M1) : WE X (.List es pos) sg M Q := WE.of (pe_lst pa_w) fun σ H G w s =>
  (h σ H G w s).imp fun vs H1 ⟨ds, G1, M1, st, w1, r1, z, q1⟩ => ⟨by rw [r1.length]; exact z, fun p hp => (new_lst w1 hp r1 q1).base st⟩
theorem we_lstM {es : List Expr} (h : WA X es sg M fun ds M1 => ds.length ≤ sizeLine ∧ ∀ p, M1 p = none → Q (.ptr p) (updM M1 p (some (.lst ds)))) : WE X (.List es pos) sg M Q := WE.of (pe_lst pa_w) fun σ H G w s =>
  (h σ H G w s).imp fun vs H1 ⟨ds, G1, M1, st, w1, r1, z, q1⟩ => ⟨by rw [r1.length]; exact z, fun p hp => (new_lstM w1 hp r1 q1).base st⟩
theorem small30 {n : Nat} (h : n ≤ 1000 := by exact Nat.le_of_ble_eq_true rfl) : n ≤ sizeLine := Nat.le_trans h (by decide)
theorem ee_tup {es : List Expr} {k : Nat} {ds : List D} (h : EA X es sg M ds) (hz : ds.length ≤ sizeLine := by exact small30) : EE X (.Tuple es k pos) sg M (.tup ds) := we_tup (h.imp fun x M1 ⟨e1, e2⟩ => ⟨by rw [e1]; exact hz, by rw [e1], e2⟩)
theorem ee_lst {es : List Expr} {ds : List D} (h : EA X es sg M ds) (hz : ds.length ≤ sizeLine := by exact small30) : EE X (.List es pos) sg M (.lst ds) := we_lst (h.imp fun x M1 ⟨e1, e2⟩ => ⟨by rw [e1]; exact hz, by rw [e1], e2⟩)

/-! ### subscripts -/
theorem we_ix {a b : Expr} {r : R2} {Qa : D → Mem → Prop} (hr : IxR X r) (ha : WE X a sg M Qa) (hb : ∀ x M1, Qa x M1 → WE X b sg M1 fun y M2 => OpD X.K r x y M2 Q) (hp : PlainIx b := by exact fun _ _ => rfl) : WE X (.Subscript a b pos) sg M Q := WE.of (pe_ix hr pe_w pe_w hp) fun σ H G w s => two ha hb w s
theorem ee_ix {a b : Expr} {r : R2} {x y : D} (hr : IxR X r) (ha : EE X a sg M x) (hb : EE X b sg M y) (ho : OpD X.K r x y M Q) (hp : PlainIx b := by exact fun _ _ => rfl) : WE X (.Subscript a b pos) sg M Q := we_ix hr ha (fun x' M1 ⟨e1, e2⟩ => by
  subst e1; subst e2
  exact hb.imp fun y' M2 ⟨e1, e2⟩ => by subst e1; subst e2; exact ho) hp
theorem at_rp {G : Hp} {vs : List V} {ds : List D} {i : Int} {d : D} (r : RpA K G vs ds) (h : atI ds i = some d) : ∃ v, atI vs i = some v ∧ Rp K G v d := by
  unfold atI at h ⊢
  rw [r.length]
  cases e : ixN ds.length i with
  | none => rw [e] at h; cases h
  | some j =>
    rw [e] at h
    exact r.get h
theorem od_ixT {ds : List D} {i : Int} {d : D} (h : atI ds i = some d) (q : Q d M) : OpD K (rIxT K) (.tup ds) (.int i) M Q := fun G H v u R w rx ry k => by
  cases ry
  cases rx with
  | tup h1 r1 =>
    obtain ⟨z, h2, h3⟩ := at_rp r1 h
    exact ⟨_, _, _, _, rfl, rfl, w.sub.st h1, h2, k _ _ (PV.here w h3 q)⟩
theorem od_ixL {x : D} {ds : List D} {i : Int} {d : D} (hx : LsD M x ds) (h : atI ds i = some d) (q : Q d M) : OpD K (rIxL K) x (.int i) M Q := fun G H v u R w rx ry k => by
  cases ry
  obtain ⟨a, xs, rfl, h1, r1⟩ := hx.at w rx
  obtain ⟨z, h2, h3⟩ := at_rp r1 h
  exact ⟨_, _, _, _, rfl, rfl, SqL.of h1, h2, k _ _ (PV.here w h3 q)⟩
theorem od_ixS {z : Str} {i : Int} {c : Nat} (hz : z.length ≤ sizeLine) (h : atI z.cps.toList i = some c) (q : Q (.str ⟨#[c]⟩) M) : OpD K rIxS (.str z) (.int i) M Q := fun G H v u R w rx ry k => by
  cases rx; cases ry
  exact ⟨_, _, _, rfl, rfl, hz, h, k _ _ (PV.here w (.str _) q)⟩
/-- a slice's bounds -/
def tWO (X : Cx) (e : Option Expr) : TO := fun σ H R => ∀ (t : TO), PO X e t → True → R none H
def WO (X : Cx) (e : Option Expr) (sg : Sg) (M : Mem) (Qo : Option Int → Mem → Prop) : Prop := match e with
  | none => Qo none M
  | some e => WE X e sg M fun x M1 => ∃ i, x = .int i ∧ Qo (some i) M1
def tO (X : Cx) : Option Expr → TO
  | none => tNoPart
  | some e => tPart (tW X e)
theorem po_w {e : Option Expr} : PO X e (tO X e) := by
  cases e with
  | none => exact po_none
  | some e => exact po_some pe_w
theorem WO.run {e : Option Expr} {Qo : Option Int → Mem → Prop} (h : WO X e sg M Qo) {σ : L2.St} {H G : Hp} {R : Option Int → Hp → Prop} (w : Wd X.K G M H) (s : SRp X.K G sg σ) (k : ∀ o G1 M1 H1, Stp G M H G1 M1 H1 → Wd X.K G1 M1 H1 → Qo o M1 → R o H1) : tO X e σ H R := by
  cases e with
  | none => exact k none G M H Stp.refl w h
  | some e =>
    refine (h σ H G w s).imp fun v H1 ⟨x, G1, M1, st, w1, r1, i, e1, q⟩ => ?_
    subst e1
    cases r1
    exact ⟨i, rfl, k _ _ _ _ st w1 q⟩
def SlD (K : PySem.W.Frag) (r : V → Option Int → Option Int → Hp → VK → Prop) (x : D) (lo hi : Option Int) (M : Mem) (Q : D → Mem → Prop) : Prop := ∀ (G H : Hp) (v : V) (R : VK), Wd K G M H → Rp K G v x → (∀ z H', PV K G M H Q z H' → R z H') → r v lo hi H R
theorem we_sl {a : Expr} {lo hi : Option Expr} {p2 : Pos} {r : V → Option Int → Option Int → Hp → VK → Prop} (hr : SlR X r) (h : WE X a sg M fun x M1 => WO X lo sg M1 fun l M2 => WO X hi sg M2 fun u M3 => SlD X.K r x l u M3 Q) : WE X (.Subscript a (.Slice lo hi none p2) pos) sg M Q := WE.of (pe_slice hr pe_w po_w po_w) fun σ H G w s =>
  (h σ H G w s).imp fun v H1 ⟨x, G1, M1, st, w1, r1, q1⟩ => q1.run w1 (s.mono (st.gx w)) fun l G2 M2 H2 st2 w2 q2 => q2.run w2 (s.mono ((st.trans st2).gx w)) fun u G3 M3 H3 st3 w3 q3 => q3 G3 H3 v _ w3 (r1.mono ((st2.trans st3).gx w1)) fun z H' p => p.base ((st.trans st2).trans st3)
abbrev EO (X : Cx) (e : Option Expr) (sg : Sg) (M : Mem) (o : Option Int) : Prop := WO X e sg M fun x M' => x = o ∧ M' = M
theorem eo_none : EO X none sg M none := ⟨rfl, rfl⟩
theorem eo_some {e : Expr} {i : Int} (h : EE X e sg M (.int i)) : EO X (some e) sg M (some i) := h.imp fun x M1 ⟨e1, e2⟩ => ⟨i, e1, rfl, e2⟩
theorem WO.imp {e : Option Expr} {Qo Qo' : Option Int → Mem → Prop} (h : WO X e sg M Qo) (k : ∀ o M', Qo o M' → Qo' o M') : WO X e sg M Qo' := by
  cases e with
  | none => exact k _ _ h
  | some e => exact WE.imp h fun x M1 ⟨i, e1, q⟩ => ⟨i, e1, k _ _ q⟩
theorem ee_sl {a : Expr} {lo hi : Option Expr} {p2 : Pos} {r : V → Option Int → Option Int → Hp → VK → Prop} {x : D} {l u : Option Int} (hr : SlR X r) (h : EE X a sg M x) (h1 : EO X lo sg M l) (h2 : EO X hi sg M u) (k : SlD X.K r x l u M Q) : WE X (.Subscript a (.Slice lo hi none p2) pos) sg M Q := we_sl hr (h.imp fun y M1 ⟨e1, e2⟩ => by
  subst e1; subst e2
  exact WO.imp h1 fun o M2 ⟨e1, e2⟩ => by
    subst e1; subst e2
    exact WO.imp h2 fun o M3 ⟨e1, e2⟩ => by subst e1; subst e2; exact k)
def cutD {α : Type} (xs : List α) (lo hi : Option Int) : List α := (xs.drop (HT.sIx xs.length 0 lo)).take (HT.sIx xs.length xs.length hi - HT.sIx xs.length 0 lo)
theorem cut_rp {G : Hp} {vs : List V} {ds : List D} (r : RpA K G vs ds) (lo hi : Option Int) : RpA K G (cutV vs lo hi) (cutD ds lo hi) := by
  unfold cutV cutD
  rw [r.length]
  exact (r.drop _).take _
theorem sd_tup {ds : List D} {lo hi : Option Int} (q : Q (.tup (cutD ds lo hi)) M) : SlD K (rSlA K) (.tup ds) lo hi M Q := fun G H v R w rx k => by
  cases rx with
  | @tup a xs _ h1 r1 =>
    refine ⟨a, xs, rfl, w.sub.st h1, fun e => ?_, fun _ p hp => k _ _ (new_tup w hp (cut_rp r1 lo hi) q)⟩
    have e2 : cutD ds lo hi = ds := by
      unfold cutD
      rw [← r1.length, e.1, e.2, List.drop_zero, Nat.sub_zero, r1.length, List.take_length]
    rw [e2] at q
    exact k _ _ (PV.here w (.tup h1 r1) q)
theorem sd_lst {x : D} {ds : List D} {lo hi : Option Int} (hx : LsD M x ds) (q : Q (.lst (cutD ds lo hi)) M) : SlD K (rSlL K) x lo hi M Q := fun G H v R w rx k => by
  obtain ⟨a, xs, rfl, h1, r1⟩ := hx.at w rx
  exact ⟨a, xs, rfl, SqL.of h1, fun p hp => k _ _ (new_lst w hp (cut_rp r1 lo hi) q)⟩
theorem cut_map (f : Int → V) (ns : List Int) (lo hi : Option Int) : cutV (ns.map f) lo hi = (cutD ns lo hi).map f := by
  unfold cutV cutD
  rw [List.length_map, List.map_take, List.map_drop]
theorem sd_scr {ns : List Int} {lo hi : Option Int} (q : Q (.lst ((cutD ns lo hi).map .int)) M) : SlD K (rSlL K) (.scr ns) lo hi M Q := fun G H v R w rx k => by
  cases rx with
  | @scr a _ h1 =>
    refine ⟨a, _, rfl, w.sub.sl h1, fun p hp => ?_⟩
    rw [cut_map]
    exact k _ _ (new_lst w hp (rpa_ints _) q)

/-! ### calls of built-ins -/
def ClD (K : PySem.W.Frag) (r : List V → Hp → VK → Prop) (xs : List D) (M : Mem) (Q : D → Mem → Prop) : Prop := ∀ (G H : Hp) (vs : List V) (R : VK), Wd K G M H → RpA K G vs xs → (∀ z H', PV K G M H Q z H' → R z H') → r vs H R
theorem we_cb {id : String} {r : List V → Hp → VK → Prop} {x : Str} {p : Pos} {e : Expr} {es : List Expr} (hc : CallR X (.builtin id) r) (hm : X.mg x = none) (hv : bootBuiltins x = some (.builtin id)) (h : WA X (e :: es) sg M fun ds M1 => ClD X.K r ds M1 Q) (hg : Gl X x := by rfl) (hn : x ≠ "__name__" := by decide) (hdb : (x == ("__debug__" : Str)) = false := by decide)
    (he : starEach (e :: es) X.env = (false, eval e X.env) :: starEach es X.env := by exact star1 rfl) (hpl : (backTo pos (starEach es X.env)).any (·.1) = false := by exact starN rfl) : WE X (.Call (.Name x p) (e :: es) [] pos) sg M Q := WE.of (pe_callB hc hg hm hv pa_w hn hdb he hpl) fun σ H G w s =>
  (h σ H G w s).imp fun vs H1 ⟨xs, G1, M1, st, w1, r1, q1⟩ => q1 G1 H1 vs _ w1 r1 fun z H' p => p.base st
theorem we_ct {T : String} {r : List V → Hp → VK → Prop} {x : Str} {p : Pos} {e : Expr} {es : List Expr} (hc : CallR X (.type T) r) (hm : X.mg x = none) (hv : bootBuiltins x = some (.type T)) (h : WA X (e :: es) sg M fun ds M1 => ClD X.K r ds M1 Q) (hg : Gl X x := by rfl) (hn : x ≠ "__name__" := by decide) (hdb : (x == ("__debug__" : Str)) = false := by decide)
    (he : starEach (e :: es) X.env = (false, eval e X.env) :: starEach es X.env := by exact star1 rfl) (hpl : (backTo pos (starEach es X.env)).any (·.1) = false := by exact starN rfl) : WE X (.Call (.Name x p) (e :: es) [] pos) sg M Q := WE.of (pe_callTy hc hg hm hv pa_w hn hdb he hpl) fun σ H G w s =>
  (h σ H G w s).imp fun vs H1 ⟨xs, G1, M1, st, w1, r1, q1⟩ => q1 G1 H1 vs _ w1 r1 fun z H' p => p.base st
theorem RpA.one {G : Hp} {vs : List V} {d : D} (r : RpA K G vs [d]) : ∃ v, vs = [v] ∧ Rp K G v d := by
  cases r with
  | cons h t => cases t; exact ⟨_, rfl, h⟩
theorem RpA.two {G : Hp} {vs : List V} {d e : D} (r : RpA K G vs [d, e]) : ∃ v u, vs = [v, u] ∧ Rp K G v d ∧ Rp K G u e := by
  cases r with
  | cons h t => obtain ⟨u, rfl, h2⟩ := t.one; exact ⟨_, _, rfl, h, h2⟩
theorem cd_len {x : D} {n : Nat} {ds' : List D} (h : x = .tup ds' ∧ ds'.length = n ∨ LsD M x ds' ∧ ds'.length = n) (q : Q (.int n) M) : ClD K (fun xs H Q => ∃ x n, xs = [x] ∧ LenV K x H n ∧ Q (.int n) H) [x] M Q := fun G H vs R w r k => by
  obtain ⟨v, rfl, rv⟩ := r.one
  rcases h with ⟨rfl, rfl⟩ | ⟨l, rfl⟩
  · cases rv with
    | tup h1 r1 =>
      rw [← r1.length] at q
      exact ⟨_, _, rfl, .inr ⟨_, w.sub.st h1, rfl⟩, k _ _ (PV.here w (.int _) q)⟩
  · obtain ⟨a, xs, rfl, h1, r1⟩ := l.at w rv
    rw [← r1.length] at q
    exact ⟨_, _, rfl, .inl ⟨_, SqL.of h1, rfl⟩, k _ _ (PV.here w (.int _) q)⟩
theorem cd_lenT {ds : List D} (q : Q (.int ds.length) M) : ClD K (fun xs H Q => ∃ x n, xs = [x] ∧ LenV K x H n ∧ Q (.int n) H) [.tup ds] M Q := cd_len (.inl ⟨rfl, rfl⟩) q
theorem cd_lenL {x : D} {ds : List D} (h : LsD M x ds) (q : Q (.int ds.length) M) : ClD K (fun xs H Q => ∃ x n, xs = [x] ∧ LenV K x H n ∧ Q (.int n) H) [x] M Q := cd_len (.inr ⟨h, rfl⟩) q
theorem cd_lenC {ns : List Int} (q : Q (.int ns.length) M) : ClD K (fun xs H Q => ∃ x n, xs = [x] ∧ LenV K x H n ∧ Q (.int n) H) [.scr ns] M Q := fun G H vs R w r k => by
  obtain ⟨v, rfl, rv⟩ := r.one
  cases rv with
  | scr h1 => exact ⟨_, _, rfl, .inl ⟨_, w.sub.sl h1, by rw [List.length_map]⟩, k _ _ (PV.here w (.int _) q)⟩
theorem cd_lenS {z : Str} (hz : z.length ≤ sizeLine) (q : Q (.int z.length) M) : ClD K (fun xs H Q => ∃ x n, xs = [x] ∧ LenV K x H n ∧ Q (.int n) H) [.str z] M Q := fun G H vs R w r k => by
  obtain ⟨v, rfl, rv⟩ := r.one
  cases rv
  exact ⟨_, _, rfl, ⟨hz, rfl⟩, k _ _ (PV.here w (.int _) q)⟩
theorem LsD.bls {x : D} {bs : List Bool} {v : V} {G H : Hp} (h : LsD M x (bs.map .bl)) (w : Wd K G M H) (r : Rp K G v x) : ∃ a, v = .ref a ∧ SqL K H a (bs.map V.bl) := by
  obtain ⟨a, xs, rfl, h1, r1⟩ := h.at w r
  rw [r1.bls] at h1
  exact ⟨a, rfl, SqL.of h1⟩
theorem LsD.ints {x : D} {ns : List Int} {v : V} {G H : Hp} (h : LsD M x (ns.map .int)) (w : Wd K G M H) (r : Rp K G v x) : ∃ a, v = .ref a ∧ SqL K H a (ns.map V.int) := by
  obtain ⟨a, xs, rfl, h1, r1⟩ := h.at w r
  rw [r1.ints] at h1
  exact ⟨a, rfl, SqL.of h1⟩
theorem cd_all {x : D} {bs : List Bool} (h : LsD M x (bs.map .bl)) (q : Q (.bl (bs.all id)) M) : ClD K (rAll K) [x] M Q := fun G H vs R w r k => by
  obtain ⟨v, rfl, rv⟩ := r.one
  obtain ⟨a, rfl, e⟩ := h.bls w rv
  exact ⟨a, bs, rfl, e, k _ _ (PV.here w (.bl _) q)⟩
theorem cd_any {x : D} {bs : List Bool} (h : LsD M x (bs.map .bl)) (q : Q (.bl (bs.any id)) M) : ClD K (rAny K) [x] M Q := fun G H vs R w r k => by
  obtain ⟨v, rfl, rv⟩ := r.one
  obtain ⟨a, rfl, e⟩ := h.bls w rv
  exact ⟨a, bs, rfl, e, k _ _ (PV.here w (.bl _) q)⟩
theorem cd_sum {x : D} {ns : List Int} (h : LsD M x (ns.map .int)) (q : Q (.int ns.sum) M) : ClD K (rSum K) [x] M Q := fun G H vs R w r k => by
  obtain ⟨v, rfl, rv⟩ := r.one
  obtain ⟨a, rfl, e⟩ := h.ints w rv
  exact ⟨a, ns, rfl, e, k _ _ (PV.here w (.int _) q)⟩
theorem cd_max {x : D} {ns : List Int} (h : LsD M x (ns.map .int)) (hl : 0 < ns.length) (q : ∀ m, m ∈ ns → (∀ y, y ∈ ns → y ≤ m) → Q (.int m) M) : ClD K (rMax K) [x] M Q := fun G H vs R w r k => by
  obtain ⟨v, rfl, rv⟩ := r.one
  obtain ⟨a, rfl, e⟩ := h.ints w rv
  exact ⟨a, ns, rfl, e, hl, fun m h1 h2 => k _ _ (PV.here w (.int _) (q m h1 h2))⟩
theorem cd_min {x : D} {ns : List Int} (h : LsD M x (ns.map .int)) (hl : 0 < ns.length) (q : ∀ m, m ∈ ns → (∀ y, y ∈ ns → m ≤ y) → Q (.int m) M) : ClD K (rMin K) [x] M Q := fun G H vs R w r k => by
  obtain ⟨v, rfl, rv⟩ := r.one
  obtain ⟨a, rfl, e⟩ := h.ints w rv
  exact ⟨a, ns, rfl, e, hl, fun m h1 h2 => k _ _ (PV.here w (.int _) (q m h1 h2))⟩
theorem cd_max2 {i j : Int} (q : Q (.int (if j > i then j else i)) M) : ClD K (fun xs H Q => ∃ i j, xs = [.int i, .int j] ∧ Q (.int (if j > i then j else i)) H) [.int i, .int j] M Q := fun G H vs R w r k => by
  obtain ⟨v, u, rfl, rv, ru⟩ := r.two
  cases rv; cases ru
  exact ⟨i, j, rfl, k _ _ (PV.here w (.int _) q)⟩
theorem cd_min2 {i j : Int} (q : Q (.int (if j < i then j else i)) M) : ClD K (fun xs H Q => ∃ i j, xs = [.int i, .int j] ∧ Q (.int (if j < i then j else i)) H) [.int i, .int j] M Q := fun G H vs R w r k => by
  obtain ⟨v, u, rfl, rv, ru⟩ := r.two
  cases rv; cases ru
  exact ⟨i, j, rfl, k _ _ (PV.here w (.int _) q)⟩
theorem cd_int {i : Int} (q : Q (.int i) M) : ClD K (fun xs H Q => (∃ i, xs = [.int i] ∧ Q (.int i) H) ∨ ∃ k, xs = [.bl k] ∧ Q (.int (if k then 1 else 0)) H) [.int i] M Q := fun G H vs R w r k => by
  obtain ⟨v, rfl, rv⟩ := r.one
  cases rv
  exact .inl ⟨i, rfl, k _ _ (PV.here w (.int _) q)⟩
theorem cd_tupT {ds : List D} (q : Q (.tup ds) M) : ClD K (fun xs H Q => ∃ p ys, xs = [.ref p] ∧ ((SqL K H p ys ∧ ∀ l, H l = none → Q (.ref l) (upd H l (.tup ys))) ∨ (SqT K H p ys ∧ Q (.ref p) H))) [.tup ds] M Q := fun G H vs R w r k => by
  obtain ⟨v, rfl, rv⟩ := r.one
  cases rv with
  | tup h1 r1 => exact ⟨_, _, rfl, .inr ⟨w.sub.st h1, k _ _ (PV.here w (.tup h1 r1) q)⟩⟩
theorem cd_tupL {x : D} {ds : List D} (h : LsD M x ds) (q : Q (.tup ds) M) : ClD K (fun xs H Q => ∃ p ys, xs = [.ref p] ∧ ((SqL K H p ys ∧ ∀ l, H l = none → Q (.ref l) (upd H l (.tup ys))) ∨ (SqT K H p ys ∧ Q (.ref p) H))) [x] M Q := fun G H vs R w r k => by
  obtain ⟨v, rfl, rv⟩ := r.one
  obtain ⟨a, xs, rfl, h1, r1⟩ := h.at w rv
  exact ⟨_, _, rfl, .inl ⟨SqL.of h1, fun p hp => k _ _ (new_tup w hp r1 q)⟩⟩
def rList (K : PySem.W.Frag) : List V → Hp → VK → Prop := fun xs H Q => ∃ p ys, xs = [.ref p] ∧ (SqL K H p ys ∨ SqT K H p ys) ∧ ∀ l, H l = none → Q (.ref l) (upd H l (.lst ys))
theorem seq_of {x : D} {ds : List D} {v : V} {G H : Hp} (h : x = .tup ds ∨ LsD M x ds) (w : Wd K G M H) (r : Rp K G v x) : ∃ p ys, v = .ref p ∧ (SqL K H p ys ∨ SqT K H p ys) ∧ RpA K G ys ds := by
  rcases h with rfl | h
  · cases r with
    | tup h1 r1 => exact ⟨_, _, rfl, .inr (w.sub.st h1), r1⟩
  · obtain ⟨a, xs, rfl, h1, r1⟩ := h.at w r
    exact ⟨_, _, rfl, .inl (SqL.of h1), r1⟩
theorem cd_lst {x : D} {ds : List D} (h : x = .tup ds ∨ LsD M x ds) (q : Q (.lst ds) M) : ClD K (rList K) [x] M Q := fun G H vs R w r k => by
  obtain ⟨v, rfl, rv⟩ := r.one
  obtain ⟨p, ys, rfl, e, r1⟩ := seq_of h w rv
  exact ⟨p, ys, rfl, e, fun l hl => k _ _ (new_lst w hl r1 q)⟩
theorem cd_lstM {x : D} {ds : List D} (h : x = .tup ds ∨ LsD M x ds) (q : ∀ p, M p = none → Q (.ptr p) (updM M p (some (.lst ds)))) : ClD K (rList K) [x] M Q := fun G H vs R w r k => by
  obtain ⟨v, rfl, rv⟩ := r.one
  obtain ⟨p, ys, rfl, e, r1⟩ := seq_of h w rv
  exact ⟨p, ys, rfl, e, fun l hl => k _ _ (new_lstM w hl r1 q)⟩

/-! ### isinstance -/
def tyD : D → String
  | .non => "NoneType"
  | .bl _ => "bool"
  | .int _ => "int"
  | .str _ => "str"
  | .tup _ => "tuple"
  | .lst _ => "list"
  | .ptr _ => "list"
  | .scr _ => "list"
/-- not an object of an own class -/
def LkD (M : Mem) : D → Prop
  | .ptr p => ∃ ds, M p = some (.lst ds)
  | _ => True
theorem ty_of {x : D} {v : V} {G H : Hp} (h : LkD M x) (w : Wd K G M H) (r : Rp K G v x) : TyX K H v (.type (tyD x)) := by
  cases r with
  | non => exact .base .non
  | bl b => exact .base (.bl b)
  | int i => exact .base (.int i)
  | str x => exact .base (.str x)
  | tup h1 r1 =>
    rcases w.sub.st h1 with (h2 | ⟨o, h2⟩) | ⟨o, its, n, h2, h3, _⟩
    · exact .base (.tup h2)
    · exact .fTuple h2
    · exact .kTuple h2 h3
  | lst h1 r1 => exact .base (.lst (w.sub _ _ h1))
  | ptr a =>
    obtain ⟨ds, e⟩ := h
    obtain ⟨_, xs, h1, _⟩ := w.mem _ _ e
    exact .base (.lst h1)
  | scr h1 =>
    rcases w.sub.sl h1 with (h2 | ⟨o, h2⟩) | ⟨o, its, n, h2, h3, _⟩
    · exact .base (.lst h2)
    · exact .base (.frz h2)
    · exact .kList h2 h3
/-- isinstance(e, T), T a built-in type -/
theorem we_isi {e : Expr} {T : String} {y : Str} {p p2 : Pos} (hm : X.mg "isinstance" = none) (hmT : X.mg y = none) (hv : bootBuiltins y = some (.type T)) (h : WE X e sg M fun x M1 => LkD M1 x ∧ ∃ b, kitB (tyD x) T = some b ∧ Q (.bl b) M1) (hg : Gl X "isinstance" := by rfl) (hgT : Gl X y := by rfl) (hn : y ≠ "__name__" := by decide) (hdb : (y == ("__debug__" : Str)) = false := by decide)
    (hs : starEach [e, .Name y p2] X.env = (false, eval e X.env) :: starEach [.Name y p2] X.env := by exact star1 rfl) (hs2 : starEach [.Name y p2] X.env = (false, eval (.Name y p2) X.env) :: starEach [] X.env := by exact star1 rfl) (hpl : (backTo pos (starEach [.Name y p2] X.env)).any (·.1) = false := by exact starN rfl) : WE X (.Call (.Name "isinstance" p) [e, .Name y p2] [] pos) sg M Q :=
  WE.of (pe_callB call_isi hg hm (by decide +kernel) (pa_cons pe_w (pa_cons (pe_bltn (v := .ty T) hgT hmT hv rfl hn hdb) pa_nil hs2) hs) (by decide) (by decide) hs hpl) fun σ H G w s =>
    (h σ H G w s).imp fun v H1 ⟨x, G1, M1, st, w1, r1, lk, b, e1, q1⟩ => ⟨v, .ty T, .type (tyD x), .type T, b, rfl, .ty T, ty_of lk w1 r1, kit_ty e1, (PV.here w1 (.bl b) q1).base st⟩
end
end DL
set_option Elab.async false
set_option linter.all false
set_option maxRecDepth 100000
set_option maxHeartbeats 4000000
/-! DLd: statements, loops, comprehensions, defs over data. -/
namespace DL
open PySem L2
section
variable {X : Cx} {sg : Sg} {M : Mem} {E : EndsD} {Q : D → Mem → Prop} {pos : Pos} {K : PySem.W.Frag}
/-! ### blocks and small statements -/
theorem wss_nil (q : E.nx sg M) : WSs X [] sg M E := WSs.of pss_nil fun σ H G w s => ⟨sg, G, M, Stp.refl, w, s, q⟩
theorem wss_cons {st : Stmt} {rest : List Stmt} (h : WS X st sg M { E with nx := fun sg' M' => WSs X rest sg' M' E }) : WSs X (st :: rest) sg M E := WSs.of (pss_cons ps_w pss_w) fun σ H G w s =>
  (h σ H G w s).imp (fun σ' H' ⟨sg', G1, M1, st1, w1, s1, q⟩ => toE_base st1 (q σ' H' G1 w1 s1)) (fun _ _ q => q) (fun _ _ q => q) (fun _ _ q => q)
theorem wss_one {st : Stmt} (h : WS X st sg M E) : WSs X [st] sg M E := WSs.of (pss_one ps_w) fun σ H G w s => h σ H G w s
theorem ws_pass (q : E.nx sg M) : WS X (.Pass pos) sg M E := WS.of ps_pass fun σ H G w s => ⟨sg, G, M, Stp.refl, w, s, q⟩
theorem ws_break (q : E.bk sg M) : WS X (.Break pos) sg M E := WS.of ps_break fun σ H G w s => ⟨sg, G, M, Stp.refl, w, s, q⟩
theorem ws_cont (q : E.ct sg M) : WS X (.Continue pos) sg M E := WS.of ps_continue fun σ H G w s => ⟨sg, G, M, Stp.refl, w, s, q⟩
theorem ws_expr {e : Expr} (h : WE X e sg M fun _ M1 => E.nx sg M1) (hs : swapsWith e none pos.line X.env = pure false := by rfl) : WS X (.Expr e pos) sg M E := WS.of (ps_expr pe_w hs) fun σ H G w s =>
  (h σ H G w s).imp fun v H1 ⟨d, G1, M1, st, w1, r1, q⟩ => ⟨sg, G1, M1, st, w1, s.mono (st.gx w), q⟩
theorem ws_doc {x : Str} {j : Nat} {pos' : Pos} (q : E.nx sg M) : WS X (.Expr (.Constant (.str x) j pos) pos') sg M E := WS.of ps_doc fun σ H G w s => ⟨sg, G, M, Stp.refl, w, s, q⟩
theorem ws_ret {e : Expr} (h : WE X e sg M E.rt) : WS X (.Return (some e) pos) sg M E := WS.of (ps_ret pe_w) fun σ H G w s => h σ H G w s
theorem ws_retN (q : E.rt .non M) : WS X (.Return none pos) sg M E := WS.of ps_retN fun σ H G w s => PV.here w .non q
theorem ws_if {c : Expr} {a b : List Stmt} (h : WT X c sg M fun k M1 => (k = true → WSs X a sg M1 E) ∧ (k = false → WSs X b sg M1 E)) : WS X (.If c a b pos) sg M E := WS.of (ps_if pt_w pss_w pss_w) fun σ H G w s => by
  refine (h σ H G w s).imp fun k H1 ⟨G1, M1, st, w1, q1, q0⟩ => ?_
  cases k with
  | true => exact toE_base st (q1 rfl σ H1 G1 w1 (s.mono (st.gx w)))
  | false => exact toE_base st (q0 rfl σ H1 G1 w1 (s.mono (st.gx w)))
theorem ws_ifE {c : Expr} {a b : List Stmt} {k : Bool} (h : ET X c sg M k) (h1 : k = true → WSs X a sg M E) (h0 : k = false → WSs X b sg M E) : WS X (.If c a b pos) sg M E := ws_if (h.imp fun k' M1 ⟨e1, e2⟩ => by
  subst e1; subst e2
  exact ⟨h1, h0⟩)
theorem ws_set (i : Nat) {x : Str} {e : Expr} {pos' : Pos} (hN : X.N.Nodup) (h : WE X e sg M fun d M1 => E.nx (sg.set i (some d)) M1) (hi : X.N[i]? = some x := by rfl) (hx : Loc X.env.scope x := by first | exact Or.inl rfl | exact Or.inr rfl) (hs : swapsWith e (some (.Name x pos')) pos.line X.env = pure false := by rfl) (hf : X.fn x = true ∨ X.env.scope.names.lookup x = some .local := by first | exact .inl rfl | exact .inr rfl) : WS X (.Assign [.Name x pos'] e pos) sg M E :=
  WS.of (ps_set hN hi hx pe_w hs hf) fun σ H G w s => (h σ H G w s).imp fun v H1 ⟨d, G1, M1, st, w1, r1, q⟩ => ⟨_, G1, M1, st, w1, (s.mono (st.gx w)).set i r1, q⟩
theorem ws_par (i j : Nat) {x y : Str} {a b : Expr} {px py pt : Pos} {kt k2 : Nat} {pt2 : Pos} (hc : X.calm = true) (hN : X.N.Nodup) (h : WA X [a, b] sg M fun ds M1 => ∃ c d, ds = [c, d] ∧ E.nx ((sg.set i (some c)).set j (some d)) M1) (hi : X.N[i]? = some x := by rfl) (hj : X.N[j]? = some y := by rfl) (hij : i ≠ j := by decide)
    (hx : X.env.scope.names.lookup x = some .local := by rfl) (hy : X.env.scope.names.lookup y = some .local := by rfl) (hw : swappedStores [.Tuple [.Name x px, .Name y py] kt pt] (.Tuple [a, b] k2 pt2) X.env = pure (some [x, y]) := by rfl) (hs : swapsWithSole [.Tuple [.Name x px, .Name y py] kt pt] (.Tuple [a, b] k2 pt2) pos.line X.env = pure false := by rfl) : WS X (.Assign [.Tuple [.Name x px, .Name y py] kt pt] (.Tuple [a, b] k2 pt2) pos) sg M E :=
  WS.of (ps_par hc hN hi hj hij hx hy pa_w hw hs) fun σ H G w s => (h σ H G w s).imp fun vs H1 ⟨ds, G1, M1, st, w1, r1, c, d, e, q⟩ => by
    subst e
    obtain ⟨v, u, rfl, rv, ru⟩ := r1.two
    exact ⟨v, u, rfl, _, G1, M1, st, w1, ((s.mono (st.gx w)).set i rv).set j ru, q⟩
theorem ws_aug (i : Nat) {x : Str} {e : Expr} {op : Operator} {f : Int → Int → Int} {pos' : Pos} {a : Int} (hN : X.N.Nodup) (ho : PIp X op (ipI f)) (hv : sg[i]? = some (some (.int a))) (h : WE X e sg M fun d M1 => ∃ b, d = .int b ∧ E.nx (sg.set i (some (.int (f a b)))) M1) (hi : X.N[i]? = some x := by rfl) (hx : Loc X.env.scope x := by first | exact Or.inl rfl | exact Or.inr rfl) (hf : X.fn x = true ∨ X.env.scope.names.lookup x = some .local := by first | exact .inl rfl | exact .inr rfl) : WS X (.AugAssign (.Name x pos') op e pos) sg M E :=
  WS.of (ps_aug hN hi hx pe_w ho hf) fun σ H G w s => by
    obtain ⟨v, e1, rv⟩ := s.at_ i _ hv
    cases rv
    refine ⟨_, e1, (h σ H G w s).imp fun u H1 ⟨d, G1, M1, st, w1, r1, b, e, q⟩ => ?_⟩
    subst e
    cases r1
    exact ⟨a, b, rfl, rfl, _, G1, M1, st, w1, (s.mono (st.gx w)).set i (.int _), q⟩
/-- a list that may change is taken as it stands from now on -/
theorem wss_freeze {i : Nat} {p : Addr} {ds : List D} {sts : List Stmt} (hm : M p = some (.lst ds)) (hi : sg[i]? = some (some (.ptr p))) (h : WSs X sts (sg.set i (some (.lst ds))) (updM M p none) E) : WSs X sts sg M E := fun σ H G w s => by
  obtain ⟨xs, e, r, w1, st, gx⟩ := w.freeze hm
  obtain ⟨v, e1, rv⟩ := s.at_ i _ hi
  cases rv
  have e2 : σ.set i (some (.ref p)) = σ := by
    obtain ⟨h1, h2⟩ := List.getElem?_eq_some_iff.mp e1
    rw [← h2]
    exact List.set_getElem_self h1
  have s1 := (s.mono gx).set i (Rp.lst (K := X.K) (a := p) upd_same (r.mono gx))
  rw [e2] at s1
  exact toE_base st (h σ H _ w1 s1)
/-- names that nobody asks for any more -/
theorem SRp.forget {G : Hp} {sg sg' : Sg} {σ : L2.St} (s : SRp K G sg σ) (hl : sg'.length = sg.length) (h : ∀ (i : Nat) (d : D), sg'[i]? = some (some d) → sg[i]? = some (some d)) : SRp K G sg' σ := ⟨s.len.trans hl.symm, fun i d e => s.at_ i d (h i d e)⟩

/-! ### targets -/
def WG (X : Cx) (tg : Expr) (is : List Nat) (d : D) (sg sg' : Sg) : Prop := ∀ (σ : L2.St) (H G : Hp) (M : Mem) (v : V) (R : L2.St → Hp → Prop), Wd X.K G M H → SRp X.K G sg σ → Rp X.K G v d → (∀ σ', SRp X.K G sg' σ' → σ'.length = σ.length → (∀ j, j ∉ is → σ'[j]? = σ[j]?) → R σ' H) → gW X tg v σ H R
theorem wg_name (i : Nat) {x : Str} {d : D} (hN : X.N.Nodup) (hi : X.N[i]? = some x := by rfl) (hx : Loc X.env.scope x := by first | exact Or.inl rfl | exact Or.inr rfl) (hf : X.fn x = true ∨ X.env.scope.names.lookup x = some .local := by first | exact .inl rfl | exact .inr rfl) : WG X (.Name x pos) [i] d sg (sg.set i (some d)) := fun σ H G M v R w s r k => ⟨fun pins t u I ru =>
  (pg_name hN hi hx hf).run pins t σ H v u _ I ru (k _ (s.set i r) (by simp) fun j hj => List.getElem?_set_ne fun e => hj (by simp [e]))⟩
def WGs (X : Cx) (tgs : List Expr) (is : List Nat) (ds : List D) (sg sg' : Sg) : Prop := ∃ g, PGs X tgs g ∧ ∀ (σ : L2.St) (H G : Hp) (M : Mem) (vs : List V) (R : L2.St → Hp → Prop), Wd X.K G M H → SRp X.K G sg σ → RpA X.K G vs ds → (∀ σ', SRp X.K G sg' σ' → σ'.length = σ.length → (∀ j, j ∉ is → σ'[j]? = σ[j]?) → R σ' H) → g vs σ H R
theorem wgs_nil : WGs X [] [] [] sg sg := ⟨_, pgs_nil, fun σ H G M vs R w s r k => by
  cases r
  exact ⟨rfl, k σ s rfl fun _ _ => rfl⟩⟩
theorem wgs_cons {tg : Expr} {tgs : List Expr} {is js : List Nat} {d : D} {ds : List D} {sg1 sg2 : Sg} (h : WG X tg is d sg sg1) (hr : WGs X tgs js ds sg1 sg2) (hs : (assignEach (tg :: tgs) X.env).map (·.2) = assign tg X.env :: (assignEach tgs X.env).map (·.2) := by rfl) : WGs X (tg :: tgs) (is ++ js) (d :: ds) sg sg2 := by
  obtain ⟨g, pg, hg⟩ := hr
  refine ⟨_, pgs_cons pg_w pg hs, fun σ H G M vs R w s r k => ?_⟩
  cases r with
  | cons r1 r2 =>
    refine ⟨_, _, rfl, h σ H G M _ _ w s r1 fun σ1 s1 l1 o1 => hg σ1 H G M _ _ w s1 r2 fun σ2 s2 l2 o2 => k σ2 s2 (l2.trans l1) fun j hj => ?_⟩
    rw [List.mem_append, not_or] at hj
    exact (o2 j hj.2).trans (o1 j hj.1)
theorem wg_tup {tgs : List Expr} {n : Nat} {is : List Nat} {ds : List D} {sg1 : Sg} (hc : X.calm = true) (h : WGs X tgs is ds sg sg1) (hn : (assignEach tgs X.env).length = ds.length := by rfl) (hst : (assignEach tgs X.env).findIdx? (·.1) = none := by rfl) : WG X (.Tuple tgs n pos) is (.tup ds) sg sg1 := by
  obtain ⟨g, pg, hg⟩ := h
  intro σ H G M v R w s r k
  refine ⟨fun pins t u I ru => (pg_tup hc pg hn hst).run pins t σ H v u _ I ru ?_⟩
  cases r with
  | tup h1 r1 => exact ⟨_, _, rfl, w.sub.st h1, r1.length, hg σ H G M _ R w s r1 k⟩
/-- target = e -/
theorem ws_asg {tg e : Expr} (h : WE X e sg M fun d M1 => ∃ is sg1, WG X tg is d sg sg1 ∧ E.nx sg1 M1) (hs : swapsWithSole [tg] e pos.line X.env = pure false := by rfl) (hw : swappedStores [tg] e X.env = pure none := by rfl) (h1 : (assignEach [tg] X.env).map (·.2) = [assign tg X.env] := by rfl) : WS X (.Assign [tg] e pos) sg M E :=
  WS.of (ps_asg pe_w pg_w hs hw h1) fun σ H G w s => (h σ H G w s).imp fun v H1 ⟨d, G1, M1, st, w1, r1, is, sg1, hg, q⟩ => hg σ H1 G1 M1 v _ w1 (s.mono (st.gx w)) r1 fun σ' s' _ _ => ⟨sg1, G1, M1, st, w1, s', q⟩

/-! ### what a loop walks -/
def ItD (K : PySem.W.Frag) (G : Hp) (J : It) (ds : List D) (C : Mem → Prop) : Prop := ∀ (G1 : Hp) (M1 : Mem) (H1 : Hp), Gx G G1 → Wd K G1 M1 H1 → C M1 → ∀ i : Nat, (i = ds.length → J.stop i H1) ∧ ∀ d, ds[i]? = some d → J.go i H1 ∧ ∀ x H', J.yld i H1 x H' → ∃ G', Stp G1 M1 H1 G' M1 H' ∧ Wd K G' M1 H' ∧ Rp K G' x d
def WI (X : Cx) (tg iter : Expr) (sg : Sg) (M : Mem) (Qi : List D → (Mem → Prop) → Mem → Prop) : Prop := ∃ wi, PI X tg iter wi ∧ ∀ (σ : L2.St) (H G : Hp) (R : It → Hp → Prop), Wd X.K G M H → SRp X.K G sg σ → (∀ J H' ds C G' M', Stp G M H G' M' H' → Wd X.K G' M' H' → ItD X.K G' J ds C → Qi ds C M' → R J H') → wi σ H R
section
variable {tg : Expr} {Qi : List D → (Mem → Prop) → Mem → Prop}
theorem wi_lst {l : Expr} (h : WE X l sg M fun x M1 => ∃ ds, LsD M1 x ds ∧ Qi ds (fun M => LsD M x ds) M1) : WI X tg l sg M Qi := ⟨_, pi_list pe_w, fun σ H G R w s k => (h σ H G w s).imp fun v H1 ⟨x, G1, M1, st, w1, r1, ds, l1, q⟩ => by
  obtain ⟨a, xs, rfl, h1, rx⟩ := l1.at w1 r1
  refine ⟨a, rfl, ⟨xs, SqL.of h1⟩, k _ _ ds _ G1 M1 st w1 (fun G2 M2 H2 gx w2 l2 i => ?_) q⟩
  obtain ⟨b, ys, e, h2, ry⟩ := l2.at w2 (r1.mono gx)
  cases e
  refine ⟨fun hi => ⟨ys, SqL.of h2, by rw [ry.length, hi]; exact Nat.le_refl _⟩, fun d hd => ?_⟩
  obtain ⟨y, hy, rd⟩ := ry.get hd
  refine ⟨⟨ys, y, SqL.of h2, hy⟩, fun z H' ⟨e, hz⟩ => ?_⟩
  subst e
  have e := (hz ys (SqL.of h2)).symm.trans hy
  cases e
  exact ⟨G2, Stp.refl, w2, rd⟩⟩
theorem wi_tup {l : Expr} (h : WE X l sg M fun x M1 => ∃ ds, x = .tup ds ∧ Qi ds (fun _ => True) M1) : WI X tg l sg M Qi := ⟨_, pi_tup pe_w, fun σ H G R w s k => (h σ H G w s).imp fun v H1 ⟨x, G1, M1, st, w1, r1, ds, l1, q⟩ => by
  subst l1
  cases r1 with
  | @tup a xs _ h1 rx =>
    refine ⟨a, rfl, ⟨xs, w1.sub.st h1⟩, k _ _ ds _ G1 M1 st w1 (fun G2 M2 H2 gx w2 _ i => ?_) q⟩
    have h2 : SqT X.K H2 a xs := w2.sub.st (gx.st h1)
    have ry := rx.mono gx
    refine ⟨fun hi => ⟨xs, h2, by rw [ry.length, hi]; exact Nat.le_refl _⟩, fun d hd => ?_⟩
    obtain ⟨y, hy, rd⟩ := ry.get hd
    refine ⟨⟨xs, y, h2, hy⟩, fun z H' ⟨e, hz⟩ => ?_⟩
    subst e
    have e := (hz xs h2).symm.trans hy
    cases e
    exact ⟨G2, Stp.refl, w2, rd⟩⟩
def rngD (lo : Int) (n : Nat) : List D := (List.range n).map fun (i : Nat) => D.int (lo + (i : Int))
theorem itd_rng {G : Hp} {lo : Int} {n : Nat} : ItD K G (Itr lo n) (rngD lo n) fun _ => True := fun G1 M1 H1 gx w _ i => by
  have hl : (rngD lo n).length = n := by unfold rngD; rw [List.length_map, List.length_range]
  refine ⟨fun h => by rw [hl] at h; exact Nat.le_of_eq h.symm, fun d hd => ?_⟩
  have hi : i < n := by
    have := (List.getElem?_eq_some_iff.mp hd).1
    rw [hl] at this; exact this
  have e : d = .int (lo + (i : Int)) := by
    unfold rngD at hd
    rw [List.getElem?_map, List.getElem?_range hi] at hd
    exact (Option.some.inj hd).symm
  subst e
  refine ⟨hi, fun x H' ⟨e1, e2⟩ => ?_⟩
  subst e1; subst e2
  exact ⟨G1, Stp.refl, w, .int _⟩
theorem wi_rng1 {a : Expr} {p : Pos} (hm : X.mg "range" = none) (h : WA X [a] sg M fun ds M1 => ∃ j : Int, ds = [.int j] ∧ -(2 ^ 62) ≤ j ∧ j < 2 ^ 62 ∧ Qi (rngD 0 j.toNat) (fun _ => True) M1) (hg : Gl X "range" := by rfl) (hs : starEach [a] X.env = [(false, eval a X.env)] := by exact star1n rfl) : WI X tg (.Call (.Name "range" p) [a] [] pos) sg M Qi := ⟨_, pi_range1 hg hm pa_w hs, fun σ H G R w s k => (h σ H G w s).imp fun vs H1 ⟨ds, G1, M1, st, w1, r1, j, e, b1, b2, q⟩ => by
  subst e
  obtain ⟨v, rfl, rv⟩ := r1.one
  cases rv
  exact ⟨j, rfl, b1, b2, k _ _ _ _ G1 M1 st w1 itd_rng q⟩⟩
theorem wi_rng2 {a b : Expr} {p : Pos} (hm : X.mg "range" = none) (h : WA X [a, b] sg M fun ds M1 => ∃ i j : Int, ds = [.int i, .int j] ∧ (-(2 ^ 62) ≤ i ∧ i < 2 ^ 62 ∧ -(2 ^ 62) ≤ j ∧ j < 2 ^ 62) ∧ Qi (rngD i (j - i).toNat) (fun _ => True) M1) (hg : Gl X "range" := by rfl) (hs : starEach [a, b] X.env = [(false, eval a X.env), (false, eval b X.env)] := by exact star2n rfl rfl) (hs2 : starEach [b] X.env = [(false, eval b X.env)] := by exact star1n rfl) : WI X tg (.Call (.Name "range" p) [a, b] [] pos) sg M Qi := ⟨_, pi_range2 hg hm pa_w hs hs2, fun σ H G R w s k => (h σ H G w s).imp fun vs H1 ⟨ds, G1, M1, st, w1, r1, i, j, e, b1, q⟩ => by
  subst e
  obtain ⟨v, u, rfl, rv, ru⟩ := r1.two
  cases rv; cases ru
  exact ⟨i, j, rfl, b1, k _ _ _ _ G1 M1 st w1 itd_rng q⟩⟩
def enumD (ds : List D) : List D := ds.mapIdx fun i d => .tup [.int (i : Int), d]
theorem new_pair {G1 H1 : Hp} {M1 : Mem} {T : Addr} {x y : V} {d e : D} (w : Wd K G1 M1 H1) (hT : H1 T = none) (rx : Rp K G1 x d) (ry : Rp K G1 y e) : ∃ G', Stp G1 M1 H1 G' M1 (upd H1 T (.tup [x, y])) ∧ Wd K G' M1 (upd H1 T (.tup [x, y])) ∧ Rp K G' (.ref T) (.tup [d, e]) := by
  obtain ⟨w', st⟩ := w.new hT (o := .tup [x, y])
  exact ⟨_, st, w', .tup (SqT.of upd_same) (RpA.mono (gx_new w hT) (.cons rx (.cons ry .nil)))⟩
theorem wi_enum {e : Expr} {p tpos : Pos} {elts : List Expr} {kk : Nat} (hm : X.mg "enumerate" = none) (h : WA X [e] sg M fun xs M1 => ∃ x ds, xs = [x] ∧ LsD M1 x ds ∧ Qi (enumD ds) (fun M => LsD M x ds) M1) (hg : Gl X "enumerate" := by rfl) (hs : starEach [e] X.env = [(false, eval e X.env)] := by exact star1n rfl) : WI X (.Tuple elts kk tpos) (.Call (.Name "enumerate" p) [e] [] pos) sg M Qi := ⟨_, pi_enum hg hm pa_w hs, fun σ H G R w s k => (h σ H G w s).imp fun vs H1 ⟨xs, G1, M1, st, w1, r1, x, ds, e, l1, q⟩ => by
  subst e
  obtain ⟨v, rfl, rv⟩ := r1.one
  obtain ⟨a, ys, rfl, h1, rx⟩ := l1.at w1 rv
  refine ⟨a, ys, rfl, SqL.of h1, k _ _ _ _ G1 M1 st w1 (fun G2 M2 H2 gx w2 l2 i => ?_) q⟩
  obtain ⟨b, zs, e, h2, rz⟩ := l2.at w2 (rv.mono gx)
  cases e
  have hl : (enumD ds).length = ds.length := by unfold enumD; rw [List.length_mapIdx]
  refine ⟨fun hi => ⟨zs, SqL.of h2, by rw [rz.length]; rw [hl] at hi; exact Nat.le_of_eq hi.symm⟩, fun d hd => ?_⟩
  obtain ⟨c, hc, ec⟩ : ∃ c, ds[i]? = some c ∧ d = .tup [.int (i : Int), c] := by
    unfold enumD at hd
    rw [List.getElem?_mapIdx] at hd
    cases e : ds[i]? with
    | none => rw [e] at hd; cases hd
    | some c => rw [e] at hd; exact ⟨c, rfl, (Option.some.inj hd).symm⟩
  subst ec
  obtain ⟨z, hz, rd⟩ := rz.get hc
  refine ⟨⟨zs, z, SqL.of h2, hz⟩, fun t H' ⟨T, y, e1, e2, e3, e4⟩ => ?_⟩
  subst e1; subst e3
  have e := (e4 zs (SqL.of h2)).symm.trans hz
  cases e
  exact new_pair w2 e2 (.int _) rd⟩
theorem wi_zip {e e2 : Expr} {p tpos : Pos} {elts : List Expr} {kk : Nat} (hm : X.mg "zip" = none) (h : WA X [e, e2] sg M fun xs M1 => ∃ x y ds es, xs = [x, y] ∧ LsD M1 x ds ∧ LsD M1 y es ∧ Qi (List.zipWith (fun a b => .tup [a, b]) ds es) (fun M => LsD M x ds ∧ LsD M y es) M1) (hg : Gl X "zip" := by rfl) (hs : starEach [e, e2] X.env = (false, eval e X.env) :: starEach [e2] X.env := by exact star1 rfl) (hpl : (backTo pos (starEach [e2] X.env)).any (·.1) = false := by exact starN rfl) : WI X (.Tuple elts kk tpos) (.Call (.Name "zip" p) [e, e2] [] pos) sg M Qi := ⟨_, pi_zip hg hm pa_w hs hpl, fun σ H G R w s k => (h σ H G w s).imp fun vs H1 ⟨xs, G1, M1, st, w1, r1, x, y, ds, es, e, l1, m1, q⟩ => by
  subst e
  obtain ⟨v, u, rfl, rv, ru⟩ := r1.two
  obtain ⟨a, ys, rfl, h1, rx⟩ := l1.at w1 rv
  obtain ⟨b, zs, rfl, h1', ry⟩ := m1.at w1 ru
  refine ⟨a, b, ys, zs, rfl, SqL.of h1, SqL.of h1', k _ _ _ _ G1 M1 st w1 (fun G2 M2 H2 gx w2 ⟨l2, m2⟩ i => ?_) q⟩
  obtain ⟨a', ys', e, h2, rx2⟩ := l2.at w2 (rv.mono gx)
  cases e
  obtain ⟨b', zs', e, h3, ry2⟩ := m2.at w2 (ru.mono gx)
  cases e
  refine ⟨fun hi => ⟨ys', zs', SqL.of h2, SqL.of h3, ?_⟩, fun d hd => ?_⟩
  · rw [List.length_zipWith] at hi
    rw [rx2.length, ry2.length]
    omega
  · rw [List.getElem?_zipWith] at hd
    cases ea : ds[i]? with
    | none => rw [ea] at hd; cases hd
    | some c =>
      cases eb : es[i]? with
      | none => rw [ea, eb] at hd; cases hd
      | some c' =>
        rw [ea, eb] at hd
        have ed := (Option.some.inj hd).symm
        subst ed
        obtain ⟨z, hz, rd⟩ := rx2.get ea
        obtain ⟨z', hz', rd'⟩ := ry2.get eb
        refine ⟨⟨ys', zs', z, z', SqL.of h2, SqL.of h3, hz, hz'⟩, fun t H' ⟨T, y1, y2, e1, e2, e3, e4, e5⟩ => ?_⟩
        subst e1; subst e3
        have q1 := (e4 ys' (SqL.of h2)).symm.trans hz
        have q2 := (e5 zs' (SqL.of h3)).symm.trans hz'
        cases q1; cases q2
        exact new_pair w2 e2 rd rd'⟩

/-! ### for -/
theorem ws_for {iter : Expr} {body : List Stmt} (hp : PassesOwn (model X.prog X.w) X.A X.env X.xe) (hc : X.calm = true) (hi : WI X tg iter sg M Qi)
    (h : ∀ ds C M0, Qi ds C M0 → ∃ Pv : Nat → Sg → Mem → Prop, Pv 0 sg M0 ∧ (∀ i sg1 M1, Pv i sg1 M1 → C M1) ∧ (∀ i d sg1 M1, ds[i]? = some d → Pv i sg1 M1 → ∃ is sg2, WG X tg is d sg1 sg2 ∧ WSs X body sg2 M1 { E with nx := Pv (i + 1), ct := Pv (i + 1), bk := E.nx }) ∧ ∀ sg1 M1, Pv ds.length sg1 M1 → E.nx sg1 M1)
    (hs : ∀ x, foldedSetIterable iter X.env x = pure x := by intro _; rfl) : WS X (.For tg iter body [] pos) sg M E := by
  obtain ⟨wi, pi, hw⟩ := hi
  refine WS.of (ps_for hp hc pi pg_w pss_w hs) fun σ H G w s => hw σ H G _ w s fun J H0 ds C G0 M0 st0 w0 it q => ?_
  obtain ⟨Pv, p0, pC, turn, fin⟩ := h ds C M0 q
  refine ⟨fun i m σ1 H1 => m = ds.length - i ∧ i ≤ ds.length ∧ ∃ sg1 G1 M1, Stp G M H G1 M1 H1 ∧ Gx G0 G1 ∧ Wd X.K G1 M1 H1 ∧ SRp X.K G1 sg1 σ1 ∧ Pv i sg1 M1, ⟨ds.length, rfl, Nat.zero_le _, sg, G0, M0, st0, Gx.refl _, w0, s.mono (st0.gx w), p0⟩, ?_⟩
  rintro i m σ1 H1 ⟨rfl, hle, sg1, G1, M1, st1, gx1, w1, s1, p1⟩
  obtain ⟨stop, go⟩ := it G1 M1 H1 gx1 w1 (pC _ _ _ p1) i
  by_cases hlt : i < ds.length
  · obtain ⟨g1, yld⟩ := go ds[i] (List.getElem?_eq_getElem hlt)
    refine .inr ⟨g1, fun σ2 H2 => ∃ sg2 G2 M2, Stp G M H G2 M2 H2 ∧ Gx G0 G2 ∧ Wd X.K G2 M2 H2 ∧ SRp X.K G2 sg2 σ2 ∧ Pv (i + 1) sg2 M2, fun σ2 H2 n => ⟨ds.length - (i + 1), by omega, rfl, hlt, n⟩, fun x H' hy => ?_⟩
    obtain ⟨G2, st2, w2, rx⟩ := yld x H' hy
    obtain ⟨is, sg2, hg, hb⟩ := turn i ds[i] sg1 M1 (List.getElem?_eq_getElem hlt) p1
    have gx2 : Gx G0 G2 := gx1.trans (st2.gx w1)
    refine hg σ1 H' G2 M1 x _ w2 (s1.mono (st2.gx w1)) rx fun σ3 s3 _ _ => ?_
    have again : ∀ {σ4 : L2.St} {H4 : Hp}, PN X.K G2 M1 H' (Pv (i + 1)) σ4 H4 → ∃ sg2 G2 M2, Stp G M H G2 M2 H4 ∧ Gx G0 G2 ∧ Wd X.K G2 M2 H4 ∧ SRp X.K G2 sg2 σ4 ∧ Pv (i + 1) sg2 M2 := fun {σ4 H4} ⟨sg4, G4, M4, st4, w4, s4, p4⟩ => ⟨sg4, G4, M4, (st1.trans st2).trans st4, gx2.trans (st4.gx w2), w4, s4, p4⟩
    exact (hb σ3 H' G2 w2 s3).imp (fun _ _ q => again q) (fun _ _ q => PV.base (st1.trans st2) q) (fun _ _ q => PN.base (st1.trans st2) q) (fun _ _ q => again q)
  · have e : i = ds.length := by omega
    subst e
    exact .inl ⟨stop rfl, sg1, G1, M1, st1, w1, s1, fin sg1 M1 p1⟩
/-- while: by a word and a measure -/
theorem ws_while {c : Expr} {body : List Stmt} (hp : PassesOwn (model X.prog X.w) X.A X.env X.xe) (Pv : Nat → Sg → Mem → Prop) (h0 : ∃ m, Pv m sg M) (h : ∀ m sg1 M1, Pv m sg1 M1 → WT X c sg1 M1 fun k M2 => (k = true → WSs X body sg1 M2 { E with nx := fun sg2 M3 => ∃ m', m' < m ∧ Pv m' sg2 M3, ct := fun sg2 M3 => ∃ m', m' < m ∧ Pv m' sg2 M3, bk := E.nx }) ∧ (k = false → E.nx sg1 M2)) : WS X (.While c body [] pos) sg M E := by
  obtain ⟨m0, p0⟩ := h0
  refine WS.of (ps_while hp pt_w pss_w) fun σ H G w s => ⟨fun m σ1 H1 => ∃ sg1 G1 M1, Stp G M H G1 M1 H1 ∧ Wd X.K G1 M1 H1 ∧ SRp X.K G1 sg1 σ1 ∧ Pv m sg1 M1, ⟨m0, sg, G, M, Stp.refl, w, s, p0⟩, ?_⟩
  rintro m σ1 H1 ⟨sg1, G1, M1, st1, w1, s1, p1⟩
  refine (h m sg1 M1 p1 σ1 H1 G1 w1 s1).imp fun k H2 ⟨G2, M2, st2, w2, q1, q0⟩ => ?_
  have s2 := s1.mono (st2.gx w1)
  cases k with
  | true =>
    rw [if_pos rfl]
    refine ⟨fun σ3 H3 => ∃ m', m' < m ∧ ∃ sg1 G1 M1, Stp G M H G1 M1 H3 ∧ Wd X.K G1 M1 H3 ∧ SRp X.K G1 sg1 σ3 ∧ Pv m' sg1 M1, fun σ3 H3 n => n, ?_⟩
    have again : ∀ {σ4 : L2.St} {H4 : Hp}, PN X.K G2 M2 H2 (fun sg2 M3 => ∃ m', m' < m ∧ Pv m' sg2 M3) σ4 H4 → ∃ m', m' < m ∧ ∃ sg1 G1 M1, Stp G M H G1 M1 H4 ∧ Wd X.K G1 M1 H4 ∧ SRp X.K G1 sg1 σ4 ∧ Pv m' sg1 M1 := fun {σ4 H4} ⟨sg4, G4, M4, st4, w4, s4, m', hm, p4⟩ => ⟨m', hm, sg4, G4, M4, (st1.trans st2).trans st4, w4, s4, p4⟩
    exact (q1 rfl σ1 H2 G2 w2 s2).imp (fun _ _ q => again q) (fun _ _ q => PV.base (st1.trans st2) q) (fun _ _ q => PN.base (st1.trans st2) q) (fun _ _ q => again q)
  | false =>
    rw [if_neg Bool.false_ne_true]
    exact ⟨sg1, G2, M2, st1.trans st2, w2, s2, q0 rfl⟩
end
end
end DL
set_option Elab.async false
set_option linter.all false
set_option maxRecDepth 100000
set_option maxHeartbeats 4000000
/-! DLe: comprehensions, methods of lists, defs over data. -/
namespace DL
open PySem L2 PyProof.Rows
section
variable {X : Cx} {sg : Sg} {M : Mem} {E : EndsD} {Q : D → Mem → Prop} {pos : Pos} {K : PySem.W.Frag}
def wipeD (sg : Sg) : List Nat → Sg
  | [] => sg
  | v :: vs => (wipeD sg vs).set v none
theorem wipe_rp {G : Hp} {σ : L2.St} (s : SRp K G sg σ) : ∀ vs : List Nat, SRp K G (wipeD sg vs) (wipe σ vs)
  | [] => s
  | v :: vs => by
    have ih := wipe_rp s vs
    refine ⟨by show ((wipe σ vs).set v none).length = ((wipeD sg vs).set v none).length; rw [List.length_set, List.length_set, ih.len], fun i d e => ?_⟩
    have e' : ((wipeD sg vs).set v none)[i]? = some (some d) := e
    show ∃ x, ((wipe σ vs).set v none)[i]? = some (some x) ∧ Rp K G x d
    by_cases hv : v = i
    · subst hv
      by_cases hl : v < (wipeD sg vs).length
      · rw [List.getElem?_set_self hl] at e'; cases e'
      · rw [List.getElem?_eq_none (by simpa using hl)] at e'; cases e'
    · rw [List.getElem?_set_ne hv] at e' ⊢
      exact ih.at_ i d e'
theorem wipe_in {σ : L2.St} {i : Nat} : ∀ {vs : List Nat}, i ∈ vs → i < σ.length → (wipe σ vs)[i]? = some none
  | v :: vs, h, hl => by
    show ((wipe σ vs).set v none)[i]? = some none
    by_cases hv : v = i
    · subst hv
      exact List.getElem?_set_self (by rw [wipe_length]; exact hl)
    · rw [List.getElem?_set_ne hv]
      exact wipe_in ((List.mem_cons.mp h).resolve_left fun e => hv e.symm) hl
/-- a state that differs at the block's own names alone -/
theorem wipe_same {σ σ' : L2.St} {is vs : List Nat} (hv : ∀ j, j ∈ is → j ∈ vs) (hl : σ'.length = (wipe σ vs).length) (h : ∀ j, j ∉ is → σ'[j]? = (wipe σ vs)[j]?) : wipe σ' vs = wipe σ vs := by
  apply List.ext_getElem?
  intro j
  rw [wipe_length] at hl
  by_cases hj : j ∈ vs
  · by_cases hjl : j < σ.length
    · rw [wipe_in hj hjl, wipe_in hj (by rw [hl]; exact hjl)]
    · rw [List.getElem?_eq_none (by rw [wipe_length, hl]; omega), List.getElem?_eq_none (by rw [wipe_length]; omega)]
  · rw [wipe_out hj, h j fun e => hj (hv j e)]
theorem Wd.other {G H : Hp} {p : Addr} {o : HO} (w : Wd K G M H) (g : G p = none) (m : M p = none) : Wd K G M (upd H p o) := ⟨fun x u e => by rw [upd_ne (ne_of_none e g)]; exact w.sub _ _ e, fun x mo e => by
  obtain ⟨h1, h2⟩ := w.mem _ _ e
  exact ⟨h1, h2.carry (Gx.refl G) (upd_ne fun z => by subst z; rw [m] at e; cases e)⟩⟩
theorem Wd.adopt {G H : Hp} {p : Addr} {o : HO} (w : Wd K G M H) (h : H p = some o) (g : G p = none) (m : M p = none) : Wd K (upd G p o) M H ∧ Gx G (upd G p o) := by
  have gx : Gx G (upd G p o) := fun x u e => by rw [upd_ne (ne_of_none e g)]; exact e
  refine ⟨⟨fun x u e => ?_, fun x mo e => ?_⟩, gx⟩
  · by_cases hx : x = p
    · subst hx; rw [upd_same] at e; cases e; exact h
    · rw [upd_ne hx] at e; exact w.sub _ _ e
  · obtain ⟨h1, h2⟩ := w.mem _ _ e
    have hx : x ≠ p := fun z => by subst z; rw [m] at e; cases e
    exact ⟨by rw [upd_ne hx]; exact h1, h2.carry gx rfl⟩

/-- the blocks of a comprehension in X -/
abbrev Blk (X : Cx) (scope : Scope) (P : Cx → Prop) : Prop := ∀ (s : Shared) (H : Hp) (C : Addr) (cl : List (Str × Addr)) (fp : List Addr), P (X.blk s H scope (compEnvC scope cl C X.env) fp)
def teB (X : Cx) (scope : Scope) (e : Expr) : TE := fun σ H R => Blk X scope fun Y => tW Y e σ H R
def ttB (X : Cx) (scope : Scope) (e : Expr) : TT := fun σ H R => Blk X scope fun Y => tWT Y e σ H R
def gB (X : Cx) (scope : Scope) (tg : Expr) : TG := fun v σ H R => Blk X scope fun Y => gW Y tg v σ H R
/-- none or one test -/
def testsB (X : Cx) (scope : Scope) : List Expr → TT
  | [c] => ttB X scope c
  | _ => tYes
def WTs (Y : Cx) (ifs : List Expr) (sg : Sg) (M : Mem) (Q : Bool → Mem → Prop) : Prop := match ifs with
  | [] => Q true M
  | [c] => WT Y c sg M Q
  | _ => False
variable {tg : Expr} {Qi : List D → (Mem → Prop) → Mem → Prop}
/-- a turn of a comprehension -/
def LcTurn (X : Cx) (scope : Scope) (vs : List Nat) (tg elt : Expr) (ifs : List Expr) (sg : Sg) (d : D) (M1 : Mem) (QT : D → Mem → Prop) (QF : Mem → Prop) : Prop :=
  ∃ is sg2, (∀ j, j ∈ is → j ∈ vs) ∧ (Blk X scope fun Y => WG Y tg is d (wipeD sg vs) sg2) ∧ ∃ QB : Bool → Mem → Prop, (Blk X scope fun Y => WTs Y ifs sg2 M1 QB) ∧ (∀ M2, QB true M2 → Blk X scope fun Y => WE Y elt sg2 M2 QT) ∧ ∀ M2, QB false M2 → QF M2
theorem lc_run {elt : Expr} {ifs : List Expr} {scope : Scope} {vs : List Nat} {wi : TI} (hw : ∀ (σ : L2.St) (H G : Hp) (R : It → Hp → Prop), Wd X.K G M H → SRp X.K G sg σ → (∀ J H' ds C G' M', Stp G M H G' M' H' → Wd X.K G' M' H' → ItD X.K G' J ds C → Qi ds C M' → R J H') → wi σ H R)
    (hif : ifs.length ≤ 1) (h : ∀ ds C M0, Qi ds C M0 → ∃ Pv : Nat → List D → Mem → Prop, Pv 0 [] M0 ∧ (∀ i acc M1, Pv i acc M1 → C M1 ∧ acc.length < sizeLine) ∧ (∀ i d acc M1, ds[i]? = some d → Pv i acc M1 → LcTurn X scope vs tg elt ifs sg d M1 (fun y M3 => Pv (i + 1) (acc ++ [y]) M3) (fun M3 => Pv (i + 1) acc M3)) ∧ ∀ acc M1, Pv ds.length acc M1 → Q (.lst acc) M1)
    {σ : L2.St} {H G : Hp} {R : VK} (w : Wd X.K G M H) (s : SRp X.K G sg σ) (k : ∀ v H', PV X.K G M H Q v H' → R v H') : tLc wi (gB X scope tg) (testsB X scope ifs) (teB X scope elt) vs σ H R := by
  refine hw σ H G _ w s fun J H0 ds C G0 M0 st0 w0 it q => fun p hp => ?_
  obtain ⟨Pv, p0, pC, turn, fin⟩ := h ds C M0 q
  obtain ⟨g0, m0⟩ := w0.free hp
  have s0 := s.mono (st0.gx w)
  have st1 : Stp G0 M0 H0 G0 M0 (upd H0 p (.lst [])) := ⟨fun x o e m => ⟨by rw [upd_ne (ne_of_none e hp)]; exact e, rfl, m⟩⟩
  refine ⟨fun i m H1 => m = ds.length - i ∧ i ≤ ds.length ∧ ∃ G1 M1 acc xs, Stp G0 M0 H0 G1 M1 H1 ∧ Gx G0 G1 ∧ Wd X.K G1 M1 H1 ∧ H1 p = some (.lst xs) ∧ G1 p = none ∧ M1 p = none ∧ RpA X.K G1 xs acc ∧ Pv i acc M1, ⟨ds.length, rfl, Nat.zero_le _, G0, M0, [], [], st1, Gx.refl _, w0.other g0 m0, upd_same, g0, m0, .nil, p0⟩, ?_⟩
  rintro i m H1 ⟨rfl, hle, G1, M1, acc, xs, st1, gx1, w1, h1, g1, m1, ra, p1⟩
  obtain ⟨stop, go⟩ := it G1 M1 H1 gx1 w1 (pC _ _ _ p1).1 i
  by_cases hlt : i < ds.length
  · obtain ⟨go1, yld⟩ := go ds[i] (List.getElem?_eq_getElem hlt)
    refine .inr ⟨go1, fun H2 => ∃ G2 M2 acc2 xs2, Stp G0 M0 H0 G2 M2 H2 ∧ Gx G0 G2 ∧ Wd X.K G2 M2 H2 ∧ H2 p = some (.lst xs2) ∧ G2 p = none ∧ M2 p = none ∧ RpA X.K G2 xs2 acc2 ∧ Pv (i + 1) acc2 M2, fun H2 n => ⟨ds.length - (i + 1), by omega, rfl, hlt, n⟩, fun x H' hy => ?_⟩
    obtain ⟨G2, st2, w2, rx⟩ := yld x H' hy
    obtain ⟨h2, g2, _⟩ := st2.keep p _ h1 m1
    obtain ⟨is, sg2, hv, hg, QB, ht, he, hf⟩ := turn i ds[i] acc M1 (List.getElem?_eq_getElem hlt) p1
    have gx2 : Gx G1 G2 := st2.gx w1
    have sw : SRp X.K G2 (wipeD sg vs) (wipe σ vs) := wipe_rp (s0.mono (gx1.trans gx2)) vs
    have body : ∀ σ2 : L2.St, SRp X.K G2 sg2 σ2 → ∀ b H3, PB X.K G2 M1 H' QB b H3 → if b = true then teB X scope elt σ2 H3 (fun y H4 => ∃ acc, H4 p = some (.lst acc) ∧ acc.length < sizeLine ∧ ∃ G2 M2 acc2 xs2, Stp G0 M0 H0 G2 M2 (upd H4 p (.lst (acc ++ [y]))) ∧ Gx G0 G2 ∧ Wd X.K G2 M2 (upd H4 p (.lst (acc ++ [y]))) ∧ (upd H4 p (.lst (acc ++ [y]))) p = some (.lst xs2) ∧ G2 p = none ∧ M2 p = none ∧ RpA X.K G2 xs2 acc2 ∧ Pv (i + 1) acc2 M2)
        else ∃ G2 M2 acc2 xs2, Stp G0 M0 H0 G2 M2 H3 ∧ Gx G0 G2 ∧ Wd X.K G2 M2 H3 ∧ H3 p = some (.lst xs2) ∧ G2 p = none ∧ M2 p = none ∧ RpA X.K G2 xs2 acc2 ∧ Pv (i + 1) acc2 M2 := fun σ2 s2 b H3 ⟨G3, M3, st3, w3, q3⟩ => by
      obtain ⟨h3, g3, m3⟩ := st3.keep p _ h2 m1
      have gx3 : Gx G2 G3 := st3.gx w2
      cases b with
      | true =>
        rw [if_pos rfl]
        intro t H5 C5 cl fp
        refine (he M3 q3 t H5 C5 cl fp σ2 H3 G3 w3 (s2.mono gx3)).imp fun y H4 ⟨d, G4, M4, st4, w4, r4, q4⟩ => ?_
        obtain ⟨h4, g4, m4⟩ := st4.keep p _ h3 m3
        have gx4 : Gx G3 G4 := st4.gx w3
        have g4' : G4 p = none := by rw [g4, g3, g2, g1]
        have stA := ((st1.trans st2).trans st3).trans st4
        refine ⟨xs, h4, by rw [ra.length]; exact (pC _ _ _ p1).2, G4, M4, acc ++ [d], xs ++ [y], ⟨fun z o e m => ?_⟩, gx1.trans (gx2.trans (gx3.trans gx4)), w4.other g4' m4, upd_same, g4', m4, (ra.mono (gx2.trans (gx3.trans gx4))).append (.cons r4 .nil), q4⟩
        obtain ⟨a1, a2, a3⟩ := stA.keep z o e m
        exact ⟨by rw [upd_ne (ne_of_none e hp)]; exact a1, a2, a3⟩
      | false =>
        rw [if_neg Bool.false_ne_true]
        exact ⟨G3, M3, acc, xs, (st1.trans st2).trans st3, gx1.trans (gx2.trans gx3), w3, h3, by rw [g3, g2, g1], m3, ra.mono (gx2.trans gx3), hf M3 q3⟩
    intro t H5 C5 cl fp
    refine hg t H5 C5 cl fp (wipe σ vs) H' G2 M1 x _ w2 sw rx fun σ2 s2 l2 o2 => ⟨wipe_same hv l2 o2, ?_⟩
    match ifs, hif, ht with
    | [], _, ht => exact body σ2 s2 true H' ⟨G2, M1, Stp.refl, w2, ht t H5 C5 cl fp⟩
    | [c], _, ht => exact fun t H5 C5 cl fp => (ht t H5 C5 cl fp σ2 H' G2 w2 s2).imp fun b H3 q => body σ2 s2 b H3 q
    | _ :: _ :: _, hif, _ => exact absurd hif (by simp)
  · have e : i = ds.length := by omega
    subst e
    obtain ⟨w2, gx2⟩ := w1.adopt h1 g1 m1
    refine .inl ⟨stop rfl, k _ _ (PV.base st0 ⟨.lst acc, _, M1, ⟨fun z o e m => ?_⟩, w2, .lst upd_same (ra.mono gx2), fin acc M1 p1⟩)⟩
    obtain ⟨a1, a2, a3⟩ := st1.keep z o e m
    exact ⟨a1, by rw [upd_ne (ne_of_none e hp)]; exact a2, a3⟩
theorem blk_pg {scope : Scope} {tg : Expr} : ∀ (s : Shared) (H : Hp) (C : Addr) (cl : List (Str × Addr)) (fp : List Addr), PG (X.blk s H scope (compEnvC scope cl C X.env) fp) tg (gB X scope tg) := fun s H C cl fp => ⟨fun pins t σ H1 v u R I r h => (h s H C cl fp).run pins t u I r⟩
theorem blk_pe {scope : Scope} {e : Expr} : ∀ (s : Shared) (H : Hp) (C : Addr) (cl : List (Str × Addr)) (fp : List Addr), PE (X.blk s H scope (compEnvC scope cl C X.env) fp) e (teB X scope e) := fun s H C cl fp => ⟨fun pins t σ H1 R I h => (h s H C cl fp).run pins t I⟩
theorem blk_pts {scope : Scope} {ifs : List Expr} (hif : ifs.length ≤ 1) : ∀ (s : Shared) (H : Hp) (C : Addr) (cl : List (Str × Addr)) (fp : List Addr), PTs (X.blk s H scope (compEnvC scope cl C X.env) fp) ifs (testsB X scope ifs) := fun s H C cl fp => by
  match ifs, hif with
  | [], _ => exact pts_nil
  | [c], _ => exact pts_one ⟨fun pins t σ H1 R I h => (h s H C cl fp).run pins t I⟩
  | _ :: _ :: _, hif => exact absurd hif (by simp)
abbrev LcOk (X : Cx) (scope : Scope) (vs : List Nat) (tg elt : Expr) (ifs : List Expr) (sg : Sg) (Qi : List D → (Mem → Prop) → Mem → Prop) (Q : D → Mem → Prop) : Prop :=
  ∀ ds C M0, Qi ds C M0 → ∃ Pv : Nat → List D → Mem → Prop, Pv 0 [] M0 ∧ (∀ i acc M1, Pv i acc M1 → C M1 ∧ acc.length < sizeLine) ∧ (∀ i d acc M1, ds[i]? = some d → Pv i acc M1 → LcTurn X scope vs tg elt ifs sg d M1 (fun y M3 => Pv (i + 1) (acc ++ [y]) M3) (fun M3 => Pv (i + 1) acc M3)) ∧ ∀ acc M1, Pv ds.length acc M1 → Q (.lst acc) M1
theorem we_lc {iter elt : Expr} {ifs : List Expr} {scope : Scope} (own : List (Str × Nat)) (hc : X.calm = true) (hN : X.N.Nodup) (ok : BlkOk X.N X.env.scope scope own) (hi : WI X tg iter sg M Qi) (h : LcOk X scope (own.map (·.2)) tg elt ifs sg Qi Q) (hif : ifs.length ≤ 1 := by decide) (hs : ∀ x, foldedSetIterable iter X.env x = pure x := by intro _; rfl) : WE X (.ListComp elt [⟨tg, iter, ifs, 0⟩] scope pos) sg M Q := by
  obtain ⟨wi, pi, hw⟩ := hi
  exact WE.of (pe_lc hc hN pi ok blk_pg (blk_pts hif) blk_pe hs) fun σ H G w s => lc_run hw hif h w s fun v H' q => q
theorem ws_setLc (i : Nat) {y : Str} {py : Pos} {iter elt : Expr} {ifs : List Expr} {scope : Scope} {spos : Pos} (own : List (Str × Nat)) (hc : X.calm = true) (hN : X.N.Nodup) (ok : BlkOk X.N X.env.scope scope own) (hi : WI X tg iter sg M Qi) (h : LcOk X scope (own.map (·.2)) tg elt ifs sg Qi fun d M1 => E.nx (sg.set i (some d)) M1) (hif : ifs.length ≤ 1 := by decide)
    (hy : X.N[i]? = some y := by rfl) (hyl : X.env.scope.names.lookup y = some .local := by rfl) (hsw : swapsWith (.ListComp elt [⟨tg, iter, ifs, 0⟩] scope pos) (some (.Name y py)) spos.line X.env = pure true := by exact sw_true rfl rfl rfl (by decide +kernel)) (hs : ∀ x, foldedSetIterable iter X.env x = pure x := by intro _; rfl) : WS X (.Assign [.Name y py] (.ListComp elt [⟨tg, iter, ifs, 0⟩] scope pos) spos) sg M E := by
  obtain ⟨wi, pi, hw⟩ := hi
  refine WS.of (ps_setLc hc hN hy hyl hsw pi ok blk_pg (blk_pts hif) blk_pe hs) fun σ H G w s => lc_run (Q := fun d M1 => E.nx (sg.set i (some d)) M1) hw hif h w s fun v H' q => ?_
  obtain ⟨d, G1, M1, st, w1, r1, q⟩ := q
  exact ⟨_, G1, M1, st, w1, (s.mono (st.gx w)).set i r1, q⟩
/-- a comprehension that changes nothing, over ds: the items that pass, their images -/
theorem lc_pure {elt : Expr} {ifs : List Expr} {scope : Scope} {vs : List Nat} {ds : List D} {C : Mem → Prop} {M0 : Mem} (p : D → Bool) (f : D → D) (hC : C M0) (hz : ds.length < sizeLine)
    (h : ∀ (i : Nat) (d : D), ds[i]? = some d → ∃ is sg2, (∀ j, j ∈ is → j ∈ vs) ∧ (Blk X scope fun Y => WG Y tg is d (wipeD sg vs) sg2) ∧ (Blk X scope fun Y => WTs Y ifs sg2 M0 fun b M2 => b = p d ∧ M2 = M0) ∧ (p d = true → Blk X scope fun Y => EE Y elt sg2 M0 (f d))) :
    ∃ Pv : Nat → List D → Mem → Prop, Pv 0 [] M0 ∧ (∀ i acc M1, Pv i acc M1 → C M1 ∧ acc.length < sizeLine) ∧ (∀ i d acc M1, ds[i]? = some d → Pv i acc M1 → LcTurn X scope vs tg elt ifs sg d M1 (fun y M3 => Pv (i + 1) (acc ++ [y]) M3) (fun M3 => Pv (i + 1) acc M3)) ∧ ∀ acc M1, Pv ds.length acc M1 → acc = (ds.filter p).map f ∧ M1 = M0 := by
  refine ⟨fun i acc M1 => i ≤ ds.length ∧ acc = ((ds.take i).filter p).map f ∧ M1 = M0, ⟨Nat.zero_le _, rfl, rfl⟩, fun i acc M1 ⟨hi, e1, e2⟩ => ?_, fun i d acc M1 hd ⟨hi, e1, e2⟩ => ?_, fun acc M1 ⟨_, e1, e2⟩ => ?_⟩
  · subst e1; subst e2
    refine ⟨hC, ?_⟩
    rw [List.length_map]
    have a1 := List.length_filter_le p (ds.take i)
    rw [List.length_take] at a1
    omega
  · subst e1; subst e2
    obtain ⟨is, sg2, hv, hg, ht, he⟩ := h i d hd
    have hlt := (List.getElem?_eq_some_iff.mp hd).1
    have tk : ds.take (i + 1) = ds.take i ++ [d] := by rw [List.take_add_one, hd]; rfl
    refine ⟨is, sg2, hv, hg, fun b M2 => b = p d ∧ M2 = M1, ht, fun M2 ⟨e1, e2⟩ => ?_, fun M2 ⟨e1, e2⟩ => ?_⟩
    · subst e2
      intro s H C' cl fp
      refine (he e1.symm s H C' cl fp).imp fun y M3 ⟨e3, e4⟩ => ⟨hlt, ?_, e4⟩
      rw [e3, tk, List.filter_append, List.map_append, List.filter_cons_of_pos e1.symm]
      rfl
    · subst e2
      refine ⟨hlt, ?_, rfl⟩
      rw [tk, List.filter_append, List.filter_cons_of_neg (by rw [← e1]; decide), List.filter_nil, List.append_nil]
  · subst e1; subst e2
    rw [List.take_length]
    exact ⟨rfl, rfl⟩

/-! ### methods of lists that may change -/
def MtD (K : PySem.W.Frag) (r : V → List V → Hp → VK → Prop) (x : D) (xs : List D) (M : Mem) (Q : D → Mem → Prop) : Prop := ∀ (G H : Hp) (v : V) (vs : List V) (R : VK), Wd K G M H → Rp K G v x → RpA K G vs xs → (∀ z H', PV K G M H Q z H' → R z H') → r v vs H R
theorem we_bm {o e : Expr} {es : List Expr} {name : Str} {apos cpos : Pos} {T id : String} {r : V → List V → Hp → VK → Prop} (pa : PlainAttrs T) (slot : Slot T name id) (hty : typeOf (.builtin id) = pure (.type "method_descriptor")) (hm : MtR X id r)
    (h : WE X o sg M fun x M1 => (∀ G H v, Wd X.K G M1 H → Rp X.K G v x → tyV X.K T v H) ∧ WA X (e :: es) sg M1 fun xs M2 => MtD X.K r x xs M2 Q) (hbase : attributeBase o name X.env (eval o X.env) = eval o X.env := by rfl)
    (hfew : ((backTo cpos (starEach (e :: es) X.env)).all (fun x => !x.1) && (backToKw cpos (keywordEach [] X.env)).all (fun x => x.1.isSome) && decide ((e :: es).length + ([] : List Keyword).length + (if ([] : List Keyword).isEmpty then 0 else 1) < 30)) = true := by rfl)
    (hline : (apos.endLine == cpos.line) = true := by rfl) (hs : starEach (e :: es) X.env = (false, eval e X.env) :: starEach es X.env := by exact star1 rfl) (hplain : (backTo cpos (starEach es X.env)).any (·.1) = false := by exact starN rfl) : WE X (.Call (.Attribute o name apos) (e :: es) [] cpos) sg M Q :=
  WE.of (pe_bm pa slot hty hm pe_w pa_w hbase hfew hline hs hplain) fun σ H G w s => (h σ H G w s).imp fun v H1 ⟨x, G1, M1, st, w1, r1, ty, q1⟩ => ⟨ty G1 H1 v w1 r1, (q1 σ H1 G1 w1 (s.mono (st.gx w))).imp fun vs H2 ⟨xs, G2, M2, st2, w2, r2, q2⟩ => q2 G2 H2 v vs _ w2 (r1.mono (st2.gx w1)) r2 fun z H' p => p.base (st.trans st2)⟩
theorem we_bm0 {o : Expr} {name : Str} {apos cpos : Pos} {T id : String} {r : V → List V → Hp → VK → Prop} (pa : PlainAttrs T) (slot : Slot T name id) (hty : typeOf (.builtin id) = pure (.type "method_descriptor")) (hm : MtR X id r)
    (h : WE X o sg M fun x M1 => (∀ G H v, Wd X.K G M1 H → Rp X.K G v x → tyV X.K T v H) ∧ MtD X.K r x [] M1 Q) (hbase : attributeBase o name X.env (eval o X.env) = eval o X.env := by rfl) (hline : (apos.endLine == cpos.line) = true := by rfl) : WE X (.Call (.Attribute o name apos) [] [] cpos) sg M Q :=
  WE.of (pe_bm0 pa slot hty hm pe_w hbase hline) fun σ H G w s => (h σ H G w s).imp fun v H1 ⟨x, G1, M1, st, w1, r1, ty, q1⟩ => ⟨ty G1 H1 v w1 r1, q1 G1 H1 v [] _ w1 r1 .nil fun z H' p => p.base st⟩
theorem ty_lst {x : D} {ds : List D} (l : LsD M x ds) : ∀ G H v, Wd K G M H → Rp K G v x → tyV K "list" v H := fun G H v w r => by
  obtain ⟨a, xs, rfl, h1, _⟩ := l.at w r
  exact .inl ⟨rfl, xs, SqL.of h1⟩
theorem md_append {p : Addr} {ds : List D} {d : D} (hm : M p = some (.lst ds)) (hz : ds.length < sizeLine) (q : Q .non (updM M p (some (.lst (ds ++ [d]))))) : MtD K rAppend (.ptr p) [d] M Q := fun G H v vs R w rv rs k => by
  cases rv
  obtain ⟨u, rfl, ru⟩ := rs.one
  obtain ⟨g, xs, h1, r1⟩ := w.mem _ _ hm
  refine ⟨p, xs, u, rfl, rfl, h1, by rw [r1.length]; exact hz, k _ _ ?_⟩
  obtain ⟨w', st⟩ := w.write hm (o := .lst (xs ++ [u])) (mo := .lst (ds ++ [d])) ⟨_, upd_same, r1.append (.cons ru .nil)⟩
  exact ⟨_, _, _, st, w', .non, q⟩
theorem md_extend {p : Addr} {ds es : List D} {y : D} (hm : M p = some (.lst ds)) (hy : LsD M y es) (hz : ds.length + es.length ≤ sizeLine) (q : Q .non (updM M p (some (.lst (ds ++ es))))) : MtD K rExtend (.ptr p) [y] M Q := fun G H v vs R w rv rs k => by
  cases rv
  obtain ⟨u, rfl, ru⟩ := rs.one
  obtain ⟨b, ys, rfl, h2, r2⟩ := hy.at w ru
  obtain ⟨g, xs, h1, r1⟩ := w.mem _ _ hm
  refine ⟨p, b, xs, ys, rfl, rfl, h1, h2, by rw [r1.length, r2.length]; exact hz, k _ _ ?_⟩
  obtain ⟨w', st⟩ := w.write hm (o := .lst (xs ++ ys)) (mo := .lst (ds ++ es)) ⟨_, upd_same, r1.append r2⟩
  exact ⟨_, _, _, st, w', .non, q⟩
/-- xs[i] = e -/
def StD (K : PySem.W.Frag) (t : TSet) (o i v : D) (M : Mem) (Q : Mem → Prop) : Prop := ∀ (G H : Hp) (ov iv vv : V) (R : Hp → Prop), Wd K G M H → Rp K G ov o → Rp K G iv i → Rp K G vv v → (∀ G' M' H', Stp G M H G' M' H' → Wd K G' M' H' → Q M' → R H') → t ov iv vv H R
theorem ws_sub {o i e : Expr} {t : TSet} {tpos : Pos} (hp : PSet X t) (h : WE X e sg M fun z M1 => WE X o sg M1 fun x M2 => WE X i sg M2 fun y M3 => StD X.K t x y z M3 fun M4 => E.nx sg M4)
    (ha : ∀ v, assign (.Subscript o i tpos) X.env v = (do
      let ov ← holding [v] (eval o X.env)
      let iv ← holding [v, ov] (eval i X.env)
      standAt tpos
      holding [v, ov, iv] (setItem ov iv v)
      release [v, ov, iv] []) := by intro _; rfl) (hs : swapsWithSole [.Subscript o i tpos] e pos.line X.env = pure false := by rfl) (hw : swappedStores [.Subscript o i tpos] e X.env = pure none := by rfl) (h1 : (assignEach [.Subscript o i tpos] X.env).map (·.2) = [assign (.Subscript o i tpos) X.env] := by rfl) : WS X (.Assign [.Subscript o i tpos] e pos) sg M E :=
  WS.of (ps_asg pe_w (pg_sub pe_w pe_w hp ha) hs hw h1) fun σ H G w s => (h σ H G w s).imp fun z H1 ⟨dz, G1, M1, st1, w1, r1, q1⟩ => (q1 σ H1 G1 w1 (s.mono (st1.gx w))).imp fun x H2 ⟨dx, G2, M2, st2, w2, r2, q2⟩ => (q2 σ H2 G2 w2 (s.mono ((st1.trans st2).gx w))).imp fun y H3 ⟨dy, G3, M3, st3, w3, r3, q3⟩ =>
    q3 G3 H3 x y z _ w3 (r2.mono (st3.gx w2)) r3 (r1.mono ((st2.trans st3).gx w1)) fun G4 M4 H4 st4 w4 q4 => ⟨sg, G4, M4, ((st1.trans st2).trans st3).trans st4, w4, s.mono ((((st1.trans st2).trans st3).trans st4).gx w), q4⟩
theorem sd_setL {p : Addr} {ds : List D} {i : Int} {j : Nat} {d : D} {Qm : Mem → Prop} (hm : M p = some (.lst ds)) (hj : ixN ds.length i = some j) (q : Qm (updM M p (some (.lst (ds.set j d))))) : StD K rSetL (.ptr p) (.int i) d M Qm := fun G H ov iv vv R w ro ri rv k => by
  cases ro; cases ri
  obtain ⟨g, xs, h1, r1⟩ := w.mem _ _ hm
  refine ⟨p, xs, i, j, rfl, rfl, h1, by rw [r1.length]; exact hj, ?_⟩
  obtain ⟨w', st⟩ := w.write hm (o := .lst (xs.set j vv)) (mo := .lst (ds.set j d)) ⟨_, upd_same, r1.set rv j⟩
  exact k _ _ _ st w' q

/-! ### defs -/
abbrev SpD := List D → Mem → (D → Mem → Prop) → Prop
def spD (K : PySem.W.Frag) (n : Nat) (S : SpD) : Sp := fun vs H R _ => ∃ (G : Hp) (M : Mem) (ds : List D) (Q : D → Mem → Prop), Wd K G M H ∧ RpA K G vs ds ∧ ds.length = n ∧ S ds M Q ∧ ∀ v H', PV K G M H Q v H' → R v H'
/-- the name x calls a def that keeps S, by at most level k -/
def Cal (P : Program) (w : World) (K : PySem.W.Frag) (mg : Str → Option Value) (base : Heap) (k : Nat) (x : Str) (n : Nat) (S : SpD) : Prop :=
  ∃ f fd ps, FnOk P w K mg base CX0 k f fd ps (spD K n S) ∧ mg x = some (.ref f) ∧ PySem.W.keepIn K (.ref f) = true ∧ Binds K fd ps []
theorem Cal.mono {P : Program} {w : World} {mg : Str → Option Value} {base : Heap} {j k n : Nat} {x : Str} {S : SpD} (h : Cal P w K mg base j x n S) (hj : j ≤ k) : Cal P w K mg base k x n S := let ⟨f, fd, ps, F, a, b, c⟩ := h; ⟨f, fd, ps, F.mono hj, a, b, c⟩
theorem Cal.imp {P : Program} {w : World} {mg : Str → Option Value} {base : Heap} {k n : Nat} {x : Str} {S S' : SpD} (h : Cal P w K mg base k x n S) (hs : ∀ ds M Q, S' ds M Q → S ds M Q) : Cal P w K mg base k x n S' :=
  let ⟨f, fd, ps, F, a, b, c⟩ := h; ⟨f, fd, ps, F.imp fun _ _ _ _ ⟨G, M, ds, Q, w, r, l, s, q⟩ => ⟨G, M, ds, Q, w, r, l, hs _ _ _ s, q⟩, a, b, c⟩
theorem we_call {k n : Nat} {x : Str} {S : SpD} {p : Pos} {e : Expr} {es : List Expr} (C : Cal X.prog X.w X.K X.mg X.base k x n S) (hr : Room k X.A) (h : WA X (e :: es) sg M fun ds M1 => ds.length = n ∧ S ds M1 Q) (hg : Gl X x := by rfl) (hd : (x == ("__debug__" : Str)) = false := by decide)
    (he : starEach (e :: es) X.env = (false, eval e X.env) :: starEach es X.env := by exact star1 rfl) (hpl : (backTo pos (starEach es X.env)).any (·.1) = false := by exact starN rfl) : WE X (.Call (.Name x p) (e :: es) [] pos) sg M Q := by
  obtain ⟨f, fd, ps, F, hm, kp, b⟩ := C
  refine WE.of (pe_call F hr hg hm kp b .nil pass0 pa_w hd he hpl) fun σ H G w s => (h σ H G w s).imp fun vs H1 ⟨ds, G1, M1, st, w1, r1, l, q⟩ => ?_
  show spD _ _ _ (vs ++ []) _ _ _
  rw [List.append_nil]
  exact ⟨G1, M1, ds, Q, w1, r1, l, q, fun v H' p => p.base st⟩
def startD (N : List Str) (ds : List D) : Sg := ds.map some ++ List.replicate (N.length - ds.length) none
theorem start_rp {G : Hp} {N : List Str} {vs : List V} {ds : List D} (r : RpA K G vs ds) : SRp K G (startD N ds) (L2.start N vs) := by
  have hl := r.length
  refine ⟨by unfold L2.start startD; simp [hl], fun i d e => ?_⟩
  unfold startD at e
  unfold L2.start
  by_cases hi : i < ds.length
  · rw [List.getElem?_append_left (by simpa using hi), List.getElem?_map] at e
    rw [List.getElem?_append_left (by simpa [hl] using hi), List.getElem?_map]
    cases ed : ds[i]? with
    | none => rw [ed] at e; cases e
    | some c =>
      rw [ed] at e
      cases e
      obtain ⟨v, hv, rv⟩ := r.get ed
      exact ⟨v, by rw [hv]; rfl, rv⟩
  · rw [List.getElem?_append_right (by simpa using hi), List.getElem?_replicate] at e
    split at e <;> cases e
section
variable {P : Program} {w : World} {mg : Str → Option Value} {base : Heap}
/-- a def of the text keeps S -/
theorem dfn {x qual : Str} {st : Stmt} {f : Addr} {fd : FuncData} {N ps : List Str} {k n : Nat} {S : SpD} (F : Fun K x qual st f fd) (sc : FnScope N ps (defScope st)) (hn : ps.length = n) (hm : mg x = some (.ref f)) (hb : Binds K fd ps [])
    (body : ∀ (cdv : Value) (A : Around) (outer : List Env) (s : Shared) (H : Hp) (E : XK) (ds : List D) (M : Mem) (Q : D → Mem → Prop), Room k (A.deeper (envOfC qual (defScope st) s.heap.objs.size f cdv)) → ds.length = n → S ds M Q →
      WSs (cxOf CX0 P w K mg base N qual (defScope st) f cdv A outer s H E).nox (defBody st) (startD N ds) M { nx := fun _ M' => Q .non M', rt := Q }) : Cal P w K mg base (k + 1) x n S := by
  refine ⟨f, fd, ps, F.ok sc (fun vs H R E h => ?_) (fun cdv A outer s H vs R E hr h => ?_), hm, F.kp, hb⟩
  · obtain ⟨G, M, ds, Q, _, r, l, _⟩ := h
    rw [r.length, l, hn]
  · obtain ⟨G, M, ds, Q, wd, r, l, hs, q⟩ := h
    refine ⟨tWSs _ (defBody st), pss_w, (body cdv A outer s H E ds M Q hr l hs _ H G wd (start_rp r)).imp (fun σ' H' ⟨sg', G', M', st', w', s', q'⟩ => q _ _ ⟨.non, G', M', st', w', .non, q'⟩) (fun v H' p => q v H' p) (fun _ _ p => ?_) (fun _ _ p => ?_)⟩
    · obtain ⟨_, _, _, _, _, _, z⟩ := p; exact z
    · obtain ⟨_, _, _, _, _, _, z⟩ := p; exact z
end
end
end DL
set_option Elab.async false
set_option linter.all false
set_option maxRecDepth 100000
set_option maxHeartbeats 4000000
/-! DLf: what the layer below lacks: enumerate over a tuple, a tuple back to front, list(range(n)). -/
namespace DL
open PySem L2 PyProof.Rows HT
section
variable {prog : Program} {w : World} {A : Around} {E : Value → Shared → Prop} {s : Shared}
/-! ### t[::-1] -/
theorem rev_applied {sl : Addr} {vl vu vs : Value} {n : Nat} {Q : Int × Int × Nat → Shared → Prop} (hs : s.heap.IsSliceOf sl vl vu vs) (a : IsPart vl none) (b : IsPart vu none) (c : IsPart vs (some (-1)))
    (h : Q ((n : Int) - 1, -1, n) s) : wpAny (model prog w) A (Builtin.Slice.sliceApplied (.ref sl) (pure (n : Int))) Q E s := by
  obtain ⟨o, ho, _, hd⟩ := id hs
  unfold Builtin.Slice.sliceApplied Builtin.Slice.sliceFields
  refine wpAny_bind (wpAny_bind (wpAny_field ho hd (x := vl) rfl (wpAny_bind (wpAny_field ho hd (x := vu) rfl (wpAny_bind (wpAny_field ho hd (x := vs) rfl (wpAny_pure ?_)))))))
  refine wpAny_bind (slicePart_ c ?_)
  show wpAny _ _ (if ((-1 : Int) == 0) = true then _ else _) _ _ s
  rw [if_neg (by decide)]
  refine wpAny_bind (slicePart_ a (wpAny_bind (slicePart_ b (wpAny_bind (wpAny_pure ?_)))))
  show wpAny _ _ (pure ((n : Int) - 1, (-1 : Int), Builtin.Slice.slicePlaces ((n : Int) - 1) (-1) (-1))) _ _ s
  have e : Builtin.Slice.slicePlaces ((n : Int) - 1) (-1) (-1) = n := by
    unfold Builtin.Slice.slicePlaces
    have h1 : ¬ ((-1 : Int) > 0) := by decide
    simp only [h1, if_false]
    by_cases h2 : (n : Int) - 1 > -1
    · rw [if_pos h2, show (- -1 : Int) = 1 by decide, Int.ediv_one]
      omega
    · rw [if_neg h2]
      omega
  rw [e]
  exact wpAny_pure h
theorem rev_pick (xs : Array Value) : ((List.range xs.size).filterMap fun (m : Nat) => xs[(((xs.size : Nat) : Int) - 1 + (m : Int) * -1).toNat]?).toArray = xs.toList.reverse.toArray := by
  have f : (fun (m : Nat) => xs[(((xs.size : Nat) : Int) - 1 + (m : Int) * -1).toNat]?) = (fun i => xs[i]?) ∘ fun m => xs.size - 1 - m := by
    funext m
    show xs[(((xs.size : Nat) : Int) - 1 + (m : Int) * -1).toNat]? = xs[xs.size - 1 - m]?
    rw [show (((xs.size : Nat) : Int) - 1 + (m : Int) * -1).toNat = xs.size - 1 - m by omega]
  rw [f, ← List.filterMap_map, PySem.W.krv_range, List.filterMap_reverse, PySem.W.krv_all]
theorem getItem_rev {t sl : Addr} {items : Array Value} {vl vu vs : Value} {Q : Value → Shared → Prop} (ht : IsTup s.heap t items) (hs : s.heap.IsSliceOf sl vl vu vs) (a : IsPart vl none) (b : IsPart vu none) (c : IsPart vs (some (-1))) (hz : items.size ≤ sizeLine)
    (h : Q (.ref s.heap.objs.size) { s with heap := s.heap.push { cls := .type "tuple", data := .seq items.toList.reverse.toArray } }) : wpAny (model prog w) A (getItem (.ref t) (.ref sl)) Q E s := by
  have hok : sizeOk (.seq items.toList.reverse.toArray) := by
    show items.toList.reverse.toArray.size ≤ sizeLine
    rw [List.size_toArray, List.length_reverse, Array.length_toList]
    exact hz
  obtain ⟨o, ho, hc, hd⟩ := id hs
  have hT : s.TypeIs (.ref sl) "slice" := ⟨o, ho, hc⟩
  unfold getItem
  try with_reducible refine wpAny_holding ?_
  first | refine wpAny_bind (wpAny_pure ?_) | skip
  refine wpAny_bind (wpAny_sequenceKey ht.typeIs (by decide) ?_)
  refine wpAny_bind (wpAny_callSpecial?_slot (name := Str.ofString "__getitem__") ht.typeIs slot_tuple_getitem (wpAny_call_entry slot_tuple_getitem ht.typeIs entry_tuple_getitem ?_ (args_tuple_getitem _ _)))
  show wpAny _ _ (Builtin.Tuple.tupleItemsOf (.ref t) >>= _) _ _ s
  refine wpAny_bind (tupleItemsOf_ ht (wpAny_bind (wpAny_typeOf hT ?_)))
  rw [if_pos (by decide)]
  refine wpAny_bind (rev_applied hs a b c ?_)
  have hno : ¬ ((((items.size : Nat) : Int) - 1 == 0 && (-1 : Int) == 1 && items.size == items.size) = true) := by
    rw [show ((-1 : Int) == 1) = false by decide, Bool.and_false, Bool.false_and]
    exact Bool.false_ne_true
  show wpAny _ _ (if ((((items.size : Nat) : Int) - 1 == 0 && (-1 : Int) == 1 && items.size == items.size) = true) then _ else _) _ _ s
  rw [if_neg hno, rev_pick]
  first
    | exact wpAny_bind (m := Builtin.Tuple.tupleExact _) (wpAny_newObj_type (wpAny_pure ⟨_, rfl, wpAny_pure h⟩) hok)
    | exact wpAny_bind (m := Builtin.Tuple.tupleExact _) (wpAny_newObj_type (wpAny_bind (wpAny_pure (wpAny_pure ⟨_, rfl, wpAny_pure h⟩))) hok)
    | exact wpAny_bind (wpAny_bind (m := Builtin.Tuple.tupleExact _) (wpAny_newObj_type (wpAny_pure (wpAny_pure ⟨_, rfl, wpAny_pure h⟩)) hok))
    | exact wpAny_bind (wpAny_bind (m := Builtin.Tuple.tupleExact _) (wpAny_newObj_type (wpAny_pure ⟨_, rfl, wpAny_pure h⟩) hok))
end
section
variable {X : Cx} {sg : Sg} {M : Mem} {E : EndsD} {Q : D → Mem → Prop} {pos : Pos} {K : PySem.W.Frag}
def tRevT (K : PySem.W.Frag) (te : TE) : TE := fun σ H R => te σ H fun x H1 => ∃ a xs, x = .ref a ∧ SqT K H1 a xs ∧ ∀ p, H1 p = none → R (.ref p) (upd H1 p (.tup xs.reverse))
theorem pe_revT {e : Expr} {te : TE} {k : Nat} {p1 p2 p3 : Pos} (he : PE X e te) : PE X (.Subscript e (.Slice none none (some (.UnaryOp .USub (.Constant (.int 1) k p1) p2)) p3) pos) (tRevT X.K te) := by
  refine ⟨fun pins s σ H R I h => ?_⟩
  refine Subscript_ (thn (he.run pins s σ H _ I h) fun v s1 ⟨x, H1, I1, r1, a, xs, ex, hx, q⟩ => ?_)
  subst ex
  cases r1
  have hst : PO X (some (.UnaryOp .USub (.Constant (.int 1) k p1) p2)) (tPart (tUn (rU fun i => .int (-i)) (tC (.int 1)))) := po_some (pe_un un_neg pe_int)
  refine wpAny_Slice (thn (po_none.run pins s1 σ H1 (fun o H2 => o = none ∧ H2 = H1) I1 ⟨rfl, rfl⟩) fun vl s2 ⟨l, H2, I2, pl, el, e2⟩ => ?_)
  subst el e2
  refine thn (po_none.run pins s2 σ H2 (fun o H3 => o = none ∧ H3 = H2) I2 ⟨rfl, rfl⟩) fun vu s3 ⟨u, H3, I3, pu, eu, e3⟩ => ?_
  subst eu e3
  refine thn (hst.run pins s3 σ H3 (fun o H4 => o = some (-1) ∧ H4 = H3) I3 ⟨1, rfl, -1, rfl, rfl, rfl⟩) fun vs s4 ⟨o, H4, I4, ps, eo, e4⟩ => ?_
  subst eo e4
  have I5 : Inv X pins σ H4 { s4 with heap := s4.heap.push { cls := .type "slice", data := .fields #[vl, vu, vs] } } := I4.kept (t' := s4.toks) fun b ob z => Heap.get?_push_of_some _ z
  obtain ⟨its, r, ht, hz⟩ := I5.tuple hx
  have hlen := r.length
  show wpAny _ X.A (subscriptTail e (.Slice none none (some (.UnaryOp .USub (.Constant (.int 1) k p1) p2)) p3) (.ref a) (.ref s4.heap.objs.size)) _ X.xe { s4 with heap := s4.heap.push { cls := .type "slice", data := .fields #[vl, vu, vs] } }
  refine tail_any (ops := [.ref a, .ref s4.heap.objs.size]) ht.typeIs slot_tuple_getitem.lookup ?_ (by with_unfolding_all rfl)
  refine getItem_rev ht (Heap.IsSliceOf.new _ vl vu vs) pl pu ps (by rw [List.size_toArray]; omega) ?_
  refine ⟨.ref _, _, I5.laid (t' := s4.toks) (o := .tup xs.reverse) (fun b ob z => Heap.get?_push_of_some _ z) (Nat.le_refl _) ?_, rfl, q _ (I5.hok.fresh (Nat.le_refl _))⟩
  exact ⟨by rw [List.length_reverse]; exact hz, _, r.reverse, ⟨_, Heap.get?_push_size _ rfl, rfl, _, rfl⟩⟩
theorem we_revT {e : Expr} {k : Nat} {p1 p2 p3 : Pos} (h : WE X e sg M fun x M1 => ∃ ds, x = .tup ds ∧ Q (.tup ds.reverse) M1) : WE X (.Subscript e (.Slice none none (some (.UnaryOp .USub (.Constant (.int 1) k p1) p2)) p3) pos) sg M Q := WE.of (pe_revT pe_w) fun σ H G w s => (h σ H G w s).imp fun v H1 ⟨x, G1, M1, st, w1, r1, ds, e1, q⟩ => by
  subst e1
  cases r1 with
  | tup h1 rx => exact ⟨_, _, rfl, w1.sub.st h1, fun p hp => (new_tup w1 hp rx.reverse q).base st⟩

/-! ### enumerate(t): its beginning -/
abbrev tupIt (t : Addr) : Obj := { cls := .type "tuple_iterator", data := .fields #[.ref t, .int 0 0] }
abbrev enumO (i : Addr) : Obj := { cls := .type "enumerate", data := .fields #[.none, .bool false, .ref i, rawInt 0, .none, .none] }
set_option maxHeartbeats 1000000 in
theorem meets_enumT (t : Addr) (items : Array Value) :
    Meets (Builtin.«enumerate.__new__» ⟨[.type "enumerate", .ref t], []⟩) (fun _ R s => s.heap.IsTuple t items ∧ R (.ok (.ret (.ref (s.heap.push (tupIt t)).objs.size))) { s with heap := (s.heap.push (tupIt t)).push (enumO s.heap.objs.size) }) :=
  .of_wp fun prog w A R s h => by
    obtain ⟨hp, g, d, tk, os⟩ := s
    obtain ⟨hL, h⟩ := h
    have hsub := sub_enumerate
    replace hL : Heap.IsTuple (Shared.heap ⟨hp, g, d, tk, os⟩) t items := hL
    have q1 : ∀ {A' : Around} {E : Value → Shared → Prop} {Q : Value → Shared → Prop}, Q (.ref hp.objs.size) ⟨hp.push (tupIt t), g, d, tk, os⟩ → wpAny (model prog w) A' (pyIter (.ref t)) Q E ⟨hp, g, d, tk, os⟩ := fun q => wpAny_pyIter_tuple hL q
    wp_walk using q1
    refine wpAny_stack_any fun st => wpAny_pure ?_
    split
    · rename_i c _ _ _ _ _
      cases (c == Value.type "enumerate")
      · wp_walk using q1
        exact ⟨_, rfl, h⟩
      · wp_walk using q1
        exact ⟨_, rfl, h⟩
    · wp_walk using q1
      exact ⟨_, rfl, h⟩
theorem call_enumT {prog : Program} {w : World} {A : Around} {E : Value → Shared → Prop} {s : Shared} {t : Addr} {items : Array Value} {Q : Value → Shared → Prop} (hL : s.heap.IsTuple t items)
    (h : ∀ h', IsEnum h' (s.heap.objs.size + 1) s.heap.objs.size 0 .none → h'.IsTupleIter s.heap.objs.size t 0 → (∀ b o, s.heap.get? b = some o → h'.get? b = some o) → Q (.ref (s.heap.objs.size + 1)) { s with heap := h' }) :
    wpAny (model prog w) A (call (.type "enumerate") [.ref t]) Q E s := by
  refine callType_new F.called_enumerate (by decide) (F.typeCall_enumerate_1 _) (F.newCall_enumerate_1 _) (fun obj => F.args_object_init_2 obj _) F.entry_enumerate_new (meets_enumT t items) ⟨hL, ?_⟩
  have hz : (s.heap.push (tupIt t)).objs.size = s.heap.objs.size + 1 := Heap.size_push ..
  show _ ∧ _
  rw [hz]
  have he : IsEnum ((s.heap.push (tupIt t)).push (enumO s.heap.objs.size)) (s.heap.objs.size + 1) s.heap.objs.size 0 .none := by
    have q := Heap.get?_push_size (s.heap.push (tupIt t)) (o := enumO s.heap.objs.size) rfl
    rw [hz] at q
    exact q
  exact ⟨⟨_, he, rfl⟩, h _ he ⟨_, Heap.get?_push_of_some _ (Heap.get?_push_size _ rfl), rfl, rfl⟩ fun b o x => Heap.get?_push_of_some _ (Heap.get?_push_of_some _ x)⟩
/-! ### enumerate(t) -/
def Itf (K : PySem.W.Frag) (a : Addr) : It :=
  ⟨fun i H => ∃ (xs : List V) (x : V), SqT K H a xs ∧ xs[i]? = some x, fun i H v H' => ∃ T x, v = .ref T ∧ H T = none ∧ H' = upd H T (.tup [.int (i : Nat), x]) ∧ ∀ xs, SqT K H a xs → xs[i]? = some x, fun i H => ∃ xs : List V, SqT K H a xs ∧ xs.length = i⟩
theorem turn_enumT {P : Program} {w : World} {elts : List Expr} {kk : Nat} {tpos : Pos} (a e it : Addr) :
    Turn P w K (.Tuple elts kk tpos) (Itf K a) [e, it] e (fun i h => (∃ old, IsEnum h e it ((i : Nat) : Int) old) ∧ h.IsTupleIter it a i ∧ e ≠ it) where
  mem := by simp
  obj := fun i h ⟨⟨old, he⟩, ⟨o, ho, hc, hd⟩, _⟩ b hb => by
    rcases (by simpa using hb : b = e ∨ b = it) with z | z
    · rw [z]; exact ⟨_, he, fun v q => nomatch q⟩
    · rw [z]; exact ⟨o, ho, fun v q => by rw [hd] at q; cases q⟩
  keep := fun i h h' ⟨⟨old, he⟩, hi, hne⟩ k => ⟨⟨old, k e (by simp) _ he⟩, hi.at fun o q => k it (by simp) o q, hne⟩
  item := by
    intro X hP hw hK hc i pins s σ H E I hf st hg
    subst hP hw hK
    obtain ⟨⟨old, he⟩, hit, hne⟩ := st
    obtain ⟨xs, x, hq, hx⟩ := hg
    obtain ⟨its, rv, p, hz⟩ := I.tuple hq
    obtain ⟨u, hu, ru⟩ := rv.get hx
    have hil : i < xs.length := (List.getElem?_eq_some_iff.mp hx).1
    have hsz : its.toArray.size = xs.length := by rw [List.size_toArray]; exact rv.length.symm
    have hel : e < s.heap.objs.size := Heap.lt_size he
    have hilt : it < s.heap.objs.size := by obtain ⟨_, q, _⟩ := hit; exact Heap.lt_size q
    have ane : a ≠ it := fun z => by
      obtain ⟨o, q, c, _⟩ := hit
      obtain ⟨o2, q2, c2, _⟩ := p
      rw [z, q] at q2
      cases q2
      rw [c] at c2
      injection c2 with c3
      exact absurd c3 (by decide)
    have eae : e ≠ a := fun z => by
      obtain ⟨o2, q2, c2, _⟩ := p
      have he' := he
      unfold IsEnum at he'
      rw [z, q2] at he'
      cases he'
      injection c2 with c3
      exact absurd c3 (by decide)
    have D := Draws.tuple (prog := X.prog) (w := X.w) (A := X.A.in1) (I.ok.hd hc) it a ane its.toArray
    refine wpAny_pyNext_enum_itemC D he (i := i) ⟨hit, p⟩ (by rw [hsz]; exact hil) hne (by simp [hne, eae]) fun y h' tk hy ho st' hT hsz' hk => ?_
    have ey : y = u := by
      have hy' : its.toArray[i]? = some y := hy
      rw [List.getElem?_toArray, hu] at hy'
      exact (Option.some.inj hy').symm
    subst ey
    refine ⟨_, rfl, wpAny_letOwnedTupleGo_enum (s := { s with heap := h', toks := tk + 1 }) ho fun h'' he' sb => ?_⟩
    have hT2 : h''.get? s.heap.objs.size = some { cls := .type "tuple", data := .seq #[.int i tk, y] } := (sb.2 _ (Nat.ne_of_gt hel)).trans hT
    have new : ObjOk X.prog X.w (upd H s.heap.objs.size (.tup [.int (i : Nat), x])) h'' s.heap.objs.size (.tup [.int (i : Nat), x]) :=
      ⟨by show 2 ≤ sizeLine; decide, [.int i tk, y], .cons ⟨_, rfl⟩ (.cons ru .nil), ⟨_, hT2, rfl, _, rfl⟩⟩
    have I1 : Inv X pins σ (upd H s.heap.objs.size (.tup [.int (i : Nat), x])) { s with heap := h'', toks := tk + 1 } :=
      I.turnedNew (ch := [e, it]) (fun b ob hb q => (sb.2 b (fun z => hb (by simp [z]))).trans (hk b ob (fun z => hb (by simp [z])) (fun z => hb (by simp [z])) q)) hf (Nat.le_refl _) new
    refine ⟨.ref s.heap.objs.size, _, I1, rfl, ⟨_, x, rfl, I.hok.fresh (Nat.le_refl _), rfl, fun ys hy => by rw [I.tuple_inj hy hq]; exact hx⟩, ⟨⟨y, ?_⟩, st'.1.at fun o q => (sb.2 it (Ne.symm hne)).trans q, hne⟩, fun b hb => ?_⟩
    · have e1 : ((i + 1 : Nat) : Int) = (i : Int) + 1 := by omega
      rw [e1]; exact he'
    · have hb' : b < s.heap.objs.size := by
        rcases (by simpa using hb : b = e ∨ b = it) with z | z
        · rw [z]; exact hel
        · rw [z]; exact hilt
      rw [upd_ne (Nat.ne_of_lt hb')]
      exact (hf b hb).1
  done := by
    intro X hP hw hK hc i pins s σ H E I hf st hg
    subst hP hw hK
    obtain ⟨⟨old, he⟩, hit, hne⟩ := st
    obtain ⟨xs, hq, hx⟩ := hg
    obtain ⟨its, rv, p, hz⟩ := I.tuple hq
    obtain ⟨f0, f1, f2, f3, f4, f5⟩ := hf it (by simp)
    have ane : a ≠ it := fun z => by
      obtain ⟨o, q, c, _⟩ := hit
      obtain ⟨o2, q2, c2, _⟩ := p
      rw [z, q] at q2
      cases q2
      rw [c] at c2
      injection c2 with c3
      exact absurd c3 (by decide)
    have D := Draws.tuple (prog := X.prog) (w := X.w) (A := X.A.in1) (I.ok.hd hc) it a ane its.toArray
    have hn : its.toArray.size = i := by rw [List.size_toArray, ← rv.length]; exact hx
    refine wpAny_pyNext_enum_endD D he ⟨by rw [hn]; exact hit, p⟩ fun h' eb => ⟨rfl, I.turned (t' := s.toks) (fun b o hb q => eb b o hb q) f0 f1 f3 f4 f5⟩
  self := fun A i s Q E ⟨⟨_, he⟩, _⟩ h => wpAny_pyIter_enum he h
def iEnumT (K : PySem.W.Frag) (ta : TA) : TI := fun σ H R => ta σ H fun vs H1 => ∃ a xs, vs = [.ref a] ∧ SqT K H1 a xs ∧ R (Itf K a) H1
theorem pi_enumT {e : Expr} {ta : TA} {p tpos : Pos} {elts : List Expr} {kk : Nat} (hg : Gl X "enumerate") (hm : X.mg "enumerate" = none) (ha : PA X [e] ta) (hs : starEach [e] X.env = [(false, eval e X.env)] := by exact star1n rfl) : PI X (.Tuple elts kk tpos) (.Call (.Name "enumerate" p) [e] [] pos) (iEnumT X.K ta) := by
  refine ⟨fun pins s σ H R I h => ?_⟩
  refine Call_ (ld_blt I hg hm boot_enumerate (callWith_type1 (thn (ha.run pos pins s σ H _ I h) fun us s1 ⟨vs, H1, I1, r1, a, xs, ex, hq, q⟩ => ?_) hs rfl))
  subst ex
  cases r1 with
  | cons r rr =>
    cases rr
    cases r
    obtain ⟨its, rv, p', hz⟩ := I1.tuple hq
    refine call_enumT (items := its.toArray) p' fun h' he hit hk => wpAny_pyIter_enum he ?_
    have I2 : Inv X pins σ H1 { s1 with heap := h' } := I1.kept (t' := s1.toks) hk
    refine ⟨s1.heap.objs.size + 1, [s1.heap.objs.size + 1, s1.heap.objs.size], _, _, H1, rfl, I2, turn_enumT a (s1.heap.objs.size + 1) s1.heap.objs.size, ⟨⟨.none, he⟩, hit, Nat.succ_ne_self _⟩, fun b hb => ?_, q⟩
    have hle : s1.heap.objs.size ≤ b := by
      rcases (by simpa using hb : b = s1.heap.objs.size + 1 ∨ b = s1.heap.objs.size) with z | z
      · rw [z]; exact Nat.le_add_right _ _
      · rw [z]; exact Nat.le_refl _
    exact I1.fpOk hle (I1.hok.fresh hle)
theorem wi_enumT {Qi : List D → (Mem → Prop) → Mem → Prop} {e : Expr} {p tpos : Pos} {elts : List Expr} {kk : Nat} (hm : X.mg "enumerate" = none) (h : WA X [e] sg M fun xs M1 => ∃ ds, xs = [.tup ds] ∧ Qi (enumD ds) (fun _ => True) M1) (hg : Gl X "enumerate" := by rfl) (hs : starEach [e] X.env = [(false, eval e X.env)] := by exact star1n rfl) : WI X (.Tuple elts kk tpos) (.Call (.Name "enumerate" p) [e] [] pos) sg M Qi := ⟨_, pi_enumT hg hm pa_w hs, fun σ H G R w s k => (h σ H G w s).imp fun vs H1 ⟨xs, G1, M1, st, w1, r1, ds, e, q⟩ => by
  subst e
  obtain ⟨v, rfl, rv⟩ := r1.one
  cases rv with
  | @tup a ys _ h1 rx =>
    refine ⟨a, ys, rfl, w1.sub.st h1, k _ _ _ _ G1 M1 st w1 (fun G2 M2 H2 gx w2 _ i => ?_) q⟩
    have h2 : SqT X.K H2 a ys := w2.sub.st (gx.st h1)
    have rz := rx.mono gx
    have hl : (enumD ds).length = ds.length := by unfold enumD; rw [List.length_mapIdx]
    refine ⟨fun hi => ⟨ys, h2, by rw [rz.length, hi, hl]⟩, fun d hd => ?_⟩
    obtain ⟨c, hc, ec⟩ : ∃ c, ds[i]? = some c ∧ d = .tup [.int (i : Int), c] := by
      unfold enumD at hd
      rw [List.getElem?_mapIdx] at hd
      cases e : ds[i]? with
      | none => rw [e] at hd; cases hd
      | some c => rw [e] at hd; exact ⟨c, rfl, (Option.some.inj hd).symm⟩
    subst ec
    obtain ⟨z, hz, rd⟩ := rz.get hc
    refine ⟨⟨ys, z, h2, hz⟩, fun t H' ⟨T, y, e1, e2, e3, e4⟩ => ?_⟩
    subst e1; subst e3
    have e := (e4 ys h2).symm.trans hz
    cases e
    exact new_pair w2 e2 (.int _) rd⟩
/-! ### list(range(n)) -/
def rRngE (ta : TA) : TE := fun σ H R => ta σ H fun vs H1 => ∃ j : Int, vs = [.int j] ∧ -(2 ^ 62) ≤ j ∧ j ≤ 1000000 ∧ ∀ p, H1 p = none → R (.ref p) (upd H1 p (.lst ((List.range j.toNat).map fun (i : Nat) => V.int (i : Int))))
end
end DL
set_option Elab.async false
set_option linter.all false
set_option maxRecDepth 100000
set_option maxHeartbeats 4000000
/-! DLg: list(range(n)); sorted of pairs of ints. -/
namespace DL
open PySem L2 PyProof.Rows HT
section
variable {X : Cx} {sg : Sg} {M : Mem} {E : EndsD} {Q : D → Mem → Prop} {pos : Pos} {K : PySem.W.Frag}
theorem cr_rng1 : CallR X (.type "range") (fun vs H Q => ∃ j, vs = [V.int j] ∧ ∀ p, H p = none → Q (.ref p) (upd H p (.rng 0 j))) := by
  intro pins s σ H vs us R I r h
  obtain ⟨j, rfl, q⟩ := h
  obtain ⟨u, rfl, t, rfl⟩ := vals1 r
  refine call_range_1 ⟨.ref s.heap.objs.size, upd H s.heap.objs.size (.rng 0 j), I.laid (t' := s.toks + 1 + 1) (fun b o e => Heap.get?_push_of_some _ e) (Nat.le_refl _) ?_, rfl, q _ (I.hok.fresh (Nat.le_refl _))⟩
  exact ⟨_, _, _, Heap.get?_push_size _ rfl⟩
theorem vals_rng {n : Nat} {acc : Array Value} (h : ItemsOf (fun i v => ∃ t, v = Value.int (0 + (i : Int) * 1) t) acc n) : Vals ((List.range n).map fun (i : Nat) => V.int (i : Int)) acc.toList := by
  obtain ⟨hl, hi⟩ := h
  have key : ∀ (l : List Value) (k : Nat), (∀ (j : Nat) v, l[j]? = some v → ∃ t, v = Value.int (((k + j : Nat) : Int)) t) → Vals ((List.range' k l.length).map fun (i : Nat) => V.int (i : Int)) l := by
    intro l
    induction l with
    | nil => intro k _; exact .nil
    | cons v l ih =>
      intro k h
      refine .cons (h 0 v rfl) (ih (k + 1) fun j u e => ?_)
      obtain ⟨t, e'⟩ := h (j + 1) u (by simpa using e)
      exact ⟨t, by rw [e', show k + (j + 1) = k + 1 + j by omega]⟩
  have q := key acc.toList 0 fun j v e => by
    obtain ⟨t, e'⟩ := hi j v (by rw [← Array.getElem?_toList]; exact e)
    exact ⟨t, by rw [e', show (0 : Int) + (j : Int) * 1 = ((0 + j : Nat) : Int) by omega]⟩
  rw [Array.length_toList, hl, ← List.range_eq_range'] at q
  exact q
theorem cr_listR (hc : X.calm = true) : CallR X (.type "list") (fun vs H Q => ∃ p j, vs = [V.ref p] ∧ H p = some (.rng 0 j) ∧ -(2 ^ 62) ≤ j ∧ j ≤ 1000000 ∧ ∀ l, H l = none → Q (.ref l) (upd H l (.lst ((List.range j.toNat).map fun (i : Nat) => V.int (i : Int))))) := by
  intro pins s σ H vs us R I r h
  obtain ⟨p, j, rfl, hp, b1, b2, q⟩ := h
  obtain ⟨u, rfl, ru⟩ := vals1 r
  obtain rfl : u = Value.ref p := ru
  obtain ⟨t, t2, t3, ho⟩ := (show ObjOk X.prog X.w H s.heap p (.rng 0 j) from I.hok p _ hp)
  have hz : Builtin.Range.rangeSize 0 j 1 = j.toNat := by
    rw [rangeSize_one]
    split <;> omega
  have hs : j.toNat ≤ sizeLine := by rw [sizeLine_eq]; omega
  refine call_list_range (I.ok.hd hc) ho (small_one (by decide) (by decide) b1 (by omega)) hz (by omega) fun h' tk acc c' hk hS hi => ?_
  refine ⟨.ref s.heap.objs.size, _, I.laid (t' := tk) (o := .lst ((List.range j.toNat).map fun (i : Nat) => V.int (i : Int))) hk (Nat.le_refl _) ⟨?_, acc.toList, c', vals_rng hi, by simpa using hS⟩, rfl, q _ (I.hok.fresh (Nat.le_refl _))⟩
  rw [List.length_map, List.length_range]
  exact hs
theorem rpa_rng {G : Hp} : ∀ n : Nat, RpA K G ((List.range n).map fun (i : Nat) => V.int (i : Int)) (rngD 0 n) := fun n => by
  have q := rpa_ints (K := K) (G := G) ((List.range n).map fun (i : Nat) => (i : Int))
  rw [List.map_map, List.map_map] at q
  unfold rngD
  have e : (D.int ∘ fun (i : Nat) => (i : Int)) = fun (i : Nat) => D.int (0 + (i : Int)) := by
    funext i
    show D.int (i : Int) = D.int (0 + (i : Int))
    rw [Int.zero_add]
  rw [e] at q
  exact q
/-- list(range(e)) -/
theorem we_lrng {e : Expr} {p1 p2 pos2 : Pos} (hc : X.calm = true) (hl : X.mg "list" = none) (hr : X.mg "range" = none) (h : WE X e sg M fun x M1 => ∃ j, x = .int j ∧ -(2 ^ 62) ≤ j ∧ j ≤ 1000000 ∧ Q (.lst (rngD 0 j.toNat)) M1) (g1 : Gl X "list" := by rfl) (g2 : Gl X "range" := by rfl)
    (s1 : starEach [.Call (.Name "range" p2) [e] [] pos2] X.env = (false, eval (.Call (.Name "range" p2) [e] [] pos2) X.env) :: starEach [] X.env := by exact star1 rfl) (s2 : starEach [e] X.env = (false, eval e X.env) :: starEach [] X.env := by exact star1 rfl) (t1 : (backTo pos (starEach [] X.env)).any (·.1) = false := by exact starN rfl) (t2 : (backTo pos2 (starEach [] X.env)).any (·.1) = false := by exact starN rfl) :
    WE X (.Call (.Name "list" p1) [.Call (.Name "range" p2) [e] [] pos2] [] pos) sg M Q :=
  WE.of (pe_callTy (cr_listR hc) g1 hl (by decide +kernel) (pa_cons (pe_callTy cr_rng1 g2 hr (by decide +kernel) (pa_cons pe_w pa_nil s2) (by decide) (by decide) s2 t2) pa_nil s1) (by decide) (by decide) s1 t1) fun σ H G w s =>
    (h σ H G w s).imp fun v H1 ⟨x, G1, M1, st, w1, r1, j, e1, b1, b2, q⟩ => by
      subst e1
      cases r1
      refine ⟨j, rfl, fun p hp => ⟨p, j, rfl, upd_same, b1, b2, fun l hl => ?_⟩⟩
      have w2 : Wd X.K G1 M1 (upd H1 p (.rng 0 j)) := w1.other (w1.free hp).1 (w1.free hp).2
      have st2 : Stp G1 M1 H1 G1 M1 (upd H1 p (.rng 0 j)) := ⟨fun z o e m => ⟨by rw [upd_ne (ne_of_none e hp)]; exact e, rfl, m⟩⟩
      exact (new_lst w2 hl (rpa_rng _) q).base (st.trans st2)

/-! ### sorted(xs), xs a list of pairs of ints -/
def PairAt (K : PySem.W.Frag) (H : Hp) (x : V) (p : Int × Int) : Prop := ∃ t, x = V.ref t ∧ SqT K H t [.int p.1, .int p.2]
abbrev SrtP (ps : List (Int × Int)) : Prop := ps.Pairwise fun x y => SrtO.lexB y x = false
def rSrt (K : PySem.W.Frag) : List V → Hp → VK → Prop := fun vs H Q => ∃ (a : Addr) (xs : List V) (ps : List (Int × Int)) (F : V → Int × Int → Prop), vs = [V.ref a] ∧ SqL K H a xs ∧ (∀ x p, F x p → PairAt K H x p) ∧ Paired F xs ps ∧
  ∀ ys ps' p, ps'.Perm ps → SrtP ps' → Paired F ys ps' → H p = none → Q (.ref p) (upd H p (.lst ys))
theorem paired_mem {α β : Type} {F : α → β → Prop} : ∀ {xs : List α} {ys : List β}, Paired F xs ys → ∀ x ∈ xs, ∃ y, F x y
  | _, _, .nil, x, h => by cases h
  | _, _, .cons r t, x, h => by
    rcases List.mem_cons.mp h with e | h
    · subst e; exact ⟨_, r⟩
    · exact paired_mem t x h
theorem paired_map {α β : Type} {F : α → β → Prop} {k : α → β} (u : ∀ x y, F x y → k x = y) : ∀ {xs : List α} {ys : List β}, Paired F xs ys → ys = xs.map k
  | _, _, .nil => rfl
  | _, _, .cons r t => by rw [List.map_cons, ← paired_map u t, u _ _ r]
theorem paired_of {α β : Type} {F : α → β → Prop} {k : α → β} : ∀ {xs : List α}, (∀ x ∈ xs, F x (k x)) → Paired F xs (xs.map k)
  | [], _ => .nil
  | x :: xs, h => .cons (h x List.mem_cons_self) (paired_of fun y hy => h y (List.mem_cons_of_mem _ hy))
open Classical in
theorem cr_srt : CallR X (.builtin "sorted") (rSrt X.K) := by
  intro pins s σ H vs us R I r h
  obtain ⟨a, xs, ps, F, rfl, hs, hF, hp, q⟩ := h
  obtain ⟨its, rv, hl, hz⟩ := I.list hs
  obtain ⟨u, rfl, ru⟩ := vals1 r
  obtain rfl : u = Value.ref a := ru
  let k : V → Int × Int := fun x => if c : ∃ p, F x p then c.choose else (0, 0)
  have kk : ∀ x p, F x p → F x (k x) := fun x p hx => by
    have c : ∃ p, F x p := ⟨p, hx⟩
    show F x (if c : ∃ p, F x p then c.choose else (0, 0))
    rw [dif_pos c]
    exact c.choose_spec
  have ku : ∀ x p, F x p → k x = p := fun x p hx => by
    obtain ⟨t, e, h1⟩ := hF _ _ (kk x p hx)
    obtain ⟨t', e', h2⟩ := hF _ _ hx
    subst e
    cases e'
    have z := I.tuple_inj h1 h2
    injection z with z1 z2
    injection z2 with z3 z4
    injection z1 with z1
    injection z3 with z3
    exact Prod.ext z1 z3
  have hf : ∀ x ∈ xs, F x (k x) := fun x m => by
    obtain ⟨p, hp'⟩ := paired_mem hp x m
    exact kk x p hp'
  have hx : ∀ x ∈ xs, PairAt X.K H x (k x) := fun x m => hF _ _ (hf x m)
  obtain ⟨e1, e2⟩ := refs_back rv fun x m => by
    obtain ⟨t, e, _⟩ := hx x m
    exact ⟨t, e⟩
  refine SrtO.sorted_pairsO (k := fun u => k (backV u)) hl.isList (by rw [← rv.length]; exact hz) (fun v hv => ?_) fun h' d out h1 h2 kp hd hn => ?_
  · obtain ⟨t, rfl⟩ := e2 v hv
    obtain ⟨t', e, ht⟩ := hx (V.ref t) (by rw [e1]; exact List.mem_map.mpr ⟨_, hv, rfl⟩)
    cases e
    obtain ⟨its2, r2, ⟨o, ho, hc, n, hd⟩, _⟩ := I.tuple ht
    obtain ⟨u1, u2, rfl, ri, rj⟩ := vals2 r2
    obtain ⟨t1, rfl⟩ := ri
    obtain ⟨t2, rfl⟩ := rj
    exact ⟨t, o, t1, t2, n, rfl, ho, hc, hd⟩
  · obtain ⟨n, hn⟩ := hn
    have hb : SrtO.Stb (ltP k) (out.map backV) xs := by
      rw [e1]
      exact SrtO.Stb.map (ltP_swo k) backV h2
    have h3 := SrtO.srtd_map (f := backV) (lt := ltP k) h1
    refine ⟨.ref d, upd H d (.lst (out.map backV)), I.laid (t' := s.toks) kp hd ⟨by rw [hb.len]; exact hz, out, n, vals_back fun u hu => e2 u (h2.perm.mem_iff.mp hu), hn⟩, rfl, q _ ((out.map backV).map k) d ?_ ?_ ?_ (I.hok.fresh hd)⟩
    · rw [paired_map ku hp]
      exact hb.perm.map k
    · exact List.pairwise_map.mpr h3
    · exact paired_of fun x m => hf x (hb.perm.mem_iff.mp m)
def pairD (p : Int × Int) : D := .tup [.int p.1, .int p.2]
theorem pairs_of {G : Hp} : ∀ {vs : List V} {ps : List (Int × Int)}, RpA K G vs (ps.map pairD) → Paired (fun v p => Rp K G v (pairD p)) vs ps
  | _, [], .nil => .nil
  | _, _ :: _, .cons h r => .cons h (pairs_of r)
theorem of_pairs {G : Hp} : ∀ {vs : List V} {ps : List (Int × Int)}, Paired (fun v p => Rp K G v (pairD p)) vs ps → RpA K G vs (ps.map pairD)
  | _, _, .nil => .nil
  | _, _, .cons h r => .cons h (of_pairs r)
theorem cd_srt {x : D} {ps : List (Int × Int)} (h : LsD M x (ps.map pairD)) (q : ∀ ps' : List (Int × Int), ps'.Perm ps → SrtP ps' → Q (.lst (ps'.map pairD)) M) : ClD K (rSrt K) [x] M Q := fun G H vs R w r k => by
  obtain ⟨v, rfl, rv⟩ := r.one
  obtain ⟨a, xs, rfl, h1, r1⟩ := h.at w rv
  refine ⟨a, xs, ps, fun v p => Rp K G v (pairD p), rfl, SqL.of h1, fun x p hx => ?_, pairs_of r1, fun ys ps' p hp hs hy hn => k _ _ (new_lst w hn (of_pairs hy) (q ps' hp hs))⟩
  cases hx with
  | tup h1 r1 =>
    obtain ⟨v, u, rfl, rv, ru⟩ := r1.two
    cases rv; cases ru
    exact ⟨_, rfl, w.sub.st h1⟩
end
end DL
set_option Elab.async false
set_option linter.all false
set_option maxRecDepth 100000
set_option maxHeartbeats 4000000
/-! DLh: short forms, for expressions that change nothing. -/
namespace DL
open PySem L2 PyProof.Rows HT
theorem bi_int : bootBuiltins "int" = some (.type "int") := by decide +kernel
theorem bi_bool : bootBuiltins "bool" = some (.type "bool") := by decide +kernel
theorem bi_str : bootBuiltins "str" = some (.type "str") := by decide +kernel
theorem bi_tuple : bootBuiltins "tuple" = some (.type "tuple") := by decide +kernel
theorem bi_list : bootBuiltins "list" = some (.type "list") := by decide +kernel
theorem bi_len : bootBuiltins "len" = some (.builtin "len") := by decide +kernel
theorem bi_all : bootBuiltins "all" = some (.builtin "all") := by decide +kernel
theorem bi_any : bootBuiltins "any" = some (.builtin "any") := by decide +kernel
theorem bi_sum : bootBuiltins "sum" = some (.builtin "sum") := by decide +kernel
theorem bi_max : bootBuiltins "max" = some (.builtin "max") := by decide +kernel
theorem bi_min : bootBuiltins "min" = some (.builtin "min") := by decide +kernel
theorem bi_sorted : bootBuiltins "sorted" = some (.builtin "sorted") := by decide +kernel
section
variable {X : Cx} {sg : Sg} {M : Mem} {E : EndsD} {Q : D → Mem → Prop} {Qb : Bool → Mem → Prop} {pos : Pos} {K : PySem.W.Frag}
theorem EE.to {e : Expr} {d : D} (h : EE X e sg M d) (q : Q d M) : WE X e sg M Q := h.imp fun x M1 ⟨e1, e2⟩ => by subst e1; subst e2; exact q
theorem ET.to {e : Expr} {b : Bool} (h : ET X e sg M b) (q : Qb b M) : WT X e sg M Qb := h.imp fun x M1 ⟨e1, e2⟩ => by subst e1; subst e2; exact q
theorem EA.to {es : List Expr} {ds : List D} {Ql : List D → Mem → Prop} (h : EA X es sg M ds) (q : Ql ds M) : WA X es sg M Ql := h.imp fun x M1 ⟨e1, e2⟩ => by subst e1; subst e2; exact q
theorem EE.is {e : Expr} {d d' : D} (h : EE X e sg M d) (q : d = d') : EE X e sg M d' := by rw [← q]; exact h
theorem ET.is {e : Expr} {d d' : Bool} (h : ET X e sg M d) (q : d = d') : ET X e sg M d' := by rw [← q]; exact h
theorem ee_v (i : Nat) {x : Str} {d : D} (hs : sg[i]? = some (some d)) (hN : X.N[i]? = some x := by rfl) (hv : Vis X.env.scope x := by first | exact Or.inl rfl | exact Or.inr (Or.inl rfl) | exact Or.inr (Or.inr rfl)) (hd : (x == ("__debug__" : Str)) = false := by decide) (hcd : (x == ("__classdict__" : Str)) = false := by decide) : EE X (.Name x pos) sg M d := we_v i hs ⟨rfl, rfl⟩ hN hv hd hcd
theorem ee_int {i : Int} {j : Nat} : EE X (.Constant (.int i) j pos) sg M (.int i) := we_int ⟨rfl, rfl⟩
theorem ee_bl {i : Bool} {j : Nat} : EE X (.Constant (.bool i) j pos) sg M (.bl i) := we_bl ⟨rfl, rfl⟩
theorem ee_non {j : Nat} : EE X (.Constant .none j pos) sg M .non := we_non ⟨rfl, rfl⟩
theorem ee_str {i : Str} {j : Nat} : EE X (.Constant (.str i) j pos) sg M (.str i) := we_str ⟨rfl, rfl⟩
theorem ee_gi {x : Str} {i : Int} {t : Tok} (hm : X.mg x = some (.int i t)) (hg : Gl X x := by rfl) (hd : (x == ("__debug__" : Str)) = false := by decide) : EE X (.Name x pos) sg M (.int i) := we_gi hm ⟨rfl, rfl⟩ hg hd
section
variable {a b : Expr} {i j : Int}
theorem ee_add (ha : EE X a sg M (.int i)) (hb : EE X b sg M (.int j)) : EE X (.BinOp a .Add b pos) sg M (.int (i + j)) := ee_op op_add ha hb (od_I0 ⟨rfl, rfl⟩)
theorem ee_sub (ha : EE X a sg M (.int i)) (hb : EE X b sg M (.int j)) : EE X (.BinOp a .Sub b pos) sg M (.int (i - j)) := ee_op op_sub ha hb (od_I0 ⟨rfl, rfl⟩)
theorem ee_mul (ha : EE X a sg M (.int i)) (hb : EE X b sg M (.int j)) (h : CMul i j) : EE X (.BinOp a .Mult b pos) sg M (.int (i * j)) := ee_op op_mul ha hb (od_I h ⟨rfl, rfl⟩)
theorem ee_fdiv (ha : EE X a sg M (.int i)) (hb : EE X b sg M (.int j)) (h : CDiv i j) : EE X (.BinOp a .FloorDiv b pos) sg M (.int (i / j)) := ee_op op_fdiv ha hb (od_I h ⟨rfl, rfl⟩)
theorem ee_mod (ha : EE X a sg M (.int i)) (hb : EE X b sg M (.int j)) (h : 0 < j) : EE X (.BinOp a .Mod b pos) sg M (.int (i % j)) := ee_op op_mod ha hb (od_I h ⟨rfl, rfl⟩)
theorem ee_neg (ha : EE X a sg M (.int i)) : EE X (.UnaryOp .USub a pos) sg M (.int (-i)) := WE.of (pe_un un_neg pe_w) fun σ H G w s => (ha σ H G w s).imp fun v H1 ⟨d, G1, M1, st, w1, r1, e, e2⟩ => by
  subst e; subst e2
  cases r1
  exact ⟨i, rfl, _, G1, M1, st, w1, .int _, rfl, rfl⟩
theorem ee_lt (ha : EE X a sg M (.int i)) (hb : EE X b sg M (.int j)) : EE X (.Compare a [.Lt] [b] pos) sg M (.bl (decide (i < j))) := ee_cmp op_lt ha hb (od_B0 ⟨rfl, rfl⟩)
theorem ee_le (ha : EE X a sg M (.int i)) (hb : EE X b sg M (.int j)) : EE X (.Compare a [.LtE] [b] pos) sg M (.bl (decide (i ≤ j))) := ee_cmp op_le ha hb (od_B0 ⟨rfl, rfl⟩)
theorem ee_gt (ha : EE X a sg M (.int i)) (hb : EE X b sg M (.int j)) : EE X (.Compare a [.Gt] [b] pos) sg M (.bl (decide (j < i))) := ee_cmp op_gt ha hb (od_B0 ⟨rfl, rfl⟩)
theorem ee_ge (ha : EE X a sg M (.int i)) (hb : EE X b sg M (.int j)) : EE X (.Compare a [.GtE] [b] pos) sg M (.bl (decide (j ≤ i))) := ee_cmp op_ge ha hb (od_B0 ⟨rfl, rfl⟩)
theorem ee_eqI (ha : EE X a sg M (.int i)) (hb : EE X b sg M (.int j)) : EE X (.Compare a [.Eq] [b] pos) sg M (.bl (decide (i = j))) := ee_cmp op_eq ha hb (od_eqI ⟨rfl, rfl⟩)
theorem ee_neI (ha : EE X a sg M (.int i)) (hb : EE X b sg M (.int j)) : EE X (.Compare a [.NotEq] [b] pos) sg M (.bl (!decide (i = j))) := ee_cmp op_ne ha hb (od_neI ⟨rfl, rfl⟩)
theorem et_lt (ha : EE X a sg M (.int i)) (hb : EE X b sg M (.int j)) : ET X (.Compare a [.Lt] [b] pos) sg M (decide (i < j)) := et_cmp op_lt ha hb (od_B0 ⟨_, rfl, rfl, rfl⟩)
theorem et_le (ha : EE X a sg M (.int i)) (hb : EE X b sg M (.int j)) : ET X (.Compare a [.LtE] [b] pos) sg M (decide (i ≤ j)) := et_cmp op_le ha hb (od_B0 ⟨_, rfl, rfl, rfl⟩)
theorem et_gt (ha : EE X a sg M (.int i)) (hb : EE X b sg M (.int j)) : ET X (.Compare a [.Gt] [b] pos) sg M (decide (j < i)) := et_cmp op_gt ha hb (od_B0 ⟨_, rfl, rfl, rfl⟩)
theorem et_ge (ha : EE X a sg M (.int i)) (hb : EE X b sg M (.int j)) : ET X (.Compare a [.GtE] [b] pos) sg M (decide (j ≤ i)) := et_cmp op_ge ha hb (od_B0 ⟨_, rfl, rfl, rfl⟩)
theorem et_eqI (ha : EE X a sg M (.int i)) (hb : EE X b sg M (.int j)) : ET X (.Compare a [.Eq] [b] pos) sg M (decide (i = j)) := et_cmp op_eq ha hb (od_eqI ⟨_, rfl, rfl, rfl⟩)
theorem et_neI (ha : EE X a sg M (.int i)) (hb : EE X b sg M (.int j)) : ET X (.Compare a [.NotEq] [b] pos) sg M (!decide (i = j)) := et_cmp op_ne ha hb (od_neI ⟨_, rfl, rfl, rfl⟩)
theorem ee_le_le {c : Expr} {l : Int} (ha : EE X a sg M (.int i)) (hb : EE X b sg M (.int j)) (hc : EE X c sg M (.int l)) (hm : lastMarks [.LtE, .LtE] [b, c] = false := by with_unfolding_all rfl) : EE X (.Compare a [.LtE, .LtE] [b, c] pos) sg M (.bl (decide (i ≤ j) && decide (j ≤ l))) := we_chain op_le op_le (tri_I (p := fun i j => decide (i ≤ j)) (p' := fun i j => decide (i ≤ j)) ha hb hc ⟨rfl, rfl⟩) hm
theorem et_le_le {c : Expr} {l : Int} (ha : EE X a sg M (.int i)) (hb : EE X b sg M (.int j)) (hc : EE X c sg M (.int l)) (hm : lastMarks [.LtE, .LtE] [b, c] = false := by with_unfolding_all rfl) : ET X (.Compare a [.LtE, .LtE] [b, c] pos) sg M (decide (i ≤ j) && decide (j ≤ l)) := wt_chain op_le op_le (tri_I (p := fun i j => decide (i ≤ j)) (p' := fun i j => decide (i ≤ j)) ha hb hc ⟨rfl, rfl⟩) hm
/-- isinstance of plain data -/
def isIns (T : String) (d : D) : Bool := (kitB (tyD d) T).getD false
theorem isIns_some {T : String} (h : ([("NoneType"), "bool", "int", "str", "tuple", "list"].all fun a => (kitB a T).isSome) = true) (d : D) : kitB (tyD d) T = some (isIns T d) := by
  unfold isIns
  have q : (kitB (tyD d) T).isSome = true := by
    have h' := List.all_eq_true.mp h
    cases d <;> exact h' _ (by simp [tyD])
  obtain ⟨b, e⟩ := Option.isSome_iff_exists.mp q
  rw [e]
  rfl
theorem k_int : ([("NoneType"), "bool", "int", "str", "tuple", "list"].all fun a => (kitB a "int").isSome) = true := by decide +kernel
theorem k_bool : ([("NoneType"), "bool", "int", "str", "tuple", "list"].all fun a => (kitB a "bool").isSome) = true := by decide +kernel
theorem k_str : ([("NoneType"), "bool", "int", "str", "tuple", "list"].all fun a => (kitB a "str").isSome) = true := by decide +kernel
theorem k_tuple : ([("NoneType"), "bool", "int", "str", "tuple", "list"].all fun a => (kitB a "tuple").isSome) = true := by decide +kernel
theorem k_list : ([("NoneType"), "bool", "int", "str", "tuple", "list"].all fun a => (kitB a "list").isSome) = true := by decide +kernel
def isI : D → Bool
  | .int _ => true
  | .bl _ => true
  | _ => false
def isB : D → Bool
  | .bl _ => true
  | _ => false
def isS : D → Bool
  | .str _ => true
  | _ => false
def isT : D → Bool
  | .tup _ => true
  | _ => false
def isL : D → Bool
  | .lst _ => true
  | .ptr _ => true
  | .scr _ => true
  | _ => false
theorem ins_int (d : D) : isIns "int" d = isI d := by cases d <;> rfl
theorem ins_bool (d : D) : isIns "bool" d = isB d := by cases d <;> rfl
theorem ins_str (d : D) : isIns "str" d = isS d := by cases d <;> rfl
theorem ins_tuple (d : D) : isIns "tuple" d = isT d := by cases d <;> rfl
theorem ins_list (d : D) : isIns "list" d = isL d := by cases d <;> rfl
theorem isI_of {d : D} (h : (isI d && !isB d) = true) : ∃ i, d = .int i := by cases d <;> first | exact ⟨_, rfl⟩ | cases h
theorem isB_of {d : D} (h : isB d = true) : ∃ i, d = .bl i := by cases d <;> first | exact ⟨_, rfl⟩ | cases h
theorem isS_of {d : D} (h : isS d = true) : ∃ i, d = .str i := by cases d <;> first | exact ⟨_, rfl⟩ | cases h
theorem isT_of {d : D} (h : isT d = true) : ∃ ds, d = .tup ds := by cases d <;> first | exact ⟨_, rfl⟩ | cases h
section
variable {e : Expr} {d : D} {p p2 : Pos}
theorem ee_isi {y : Str} {T : String} (hm : X.mg "isinstance" = none) (hmT : X.mg y = none) (hv : bootBuiltins y = some (.type T)) (hk : ([("NoneType"), "bool", "int", "str", "tuple", "list"].all fun a => (kitB a T).isSome) = true) (h : EE X e sg M d) (lk : LkD M d) (hg : Gl X "isinstance" := by rfl) (hgT : Gl X y := by rfl) (hn : y ≠ "__name__" := by decide) (hdb : (y == ("__debug__" : Str)) = false := by decide)
    (hs : starEach [e, .Name y p2] X.env = (false, eval e X.env) :: starEach [.Name y p2] X.env := by exact star1 rfl) (hs2 : starEach [.Name y p2] X.env = (false, eval (.Name y p2) X.env) :: starEach [] X.env := by exact star1 rfl) (hpl : (backTo pos (starEach [.Name y p2] X.env)).any (·.1) = false := by exact starN rfl) : EE X (.Call (.Name "isinstance" p) [e, .Name y p2] [] pos) sg M (.bl (isIns T d)) :=
  we_isi hm hmT hv (h.to ⟨lk, _, isIns_some hk d, rfl, rfl⟩) hg hgT hn hdb hs hs2 hpl
theorem ee_isI (hm : X.mg "isinstance" = none) (hmT : X.mg "int" = none) (h : EE X e sg M d) (lk : LkD M d) (hg : Gl X "isinstance" := by rfl) (hgT : Gl X "int" := by rfl)
    (hs : starEach [e, .Name "int" p2] X.env = (false, eval e X.env) :: starEach [.Name "int" p2] X.env := by exact star1 rfl) (hs2 : starEach [.Name "int" p2] X.env = (false, eval (.Name "int" p2) X.env) :: starEach [] X.env := by exact star1 rfl) (hpl : (backTo pos (starEach [.Name "int" p2] X.env)).any (·.1) = false := by exact starN rfl) : EE X (.Call (.Name "isinstance" p) [e, .Name "int" p2] [] pos) sg M (.bl (isI d)) := by
  rw [← ins_int]
  exact ee_isi hm hmT bi_int k_int h lk hg hgT (by decide) (by decide) hs hs2 hpl
theorem ee_isB (hm : X.mg "isinstance" = none) (hmT : X.mg "bool" = none) (h : EE X e sg M d) (lk : LkD M d) (hg : Gl X "isinstance" := by rfl) (hgT : Gl X "bool" := by rfl)
    (hs : starEach [e, .Name "bool" p2] X.env = (false, eval e X.env) :: starEach [.Name "bool" p2] X.env := by exact star1 rfl) (hs2 : starEach [.Name "bool" p2] X.env = (false, eval (.Name "bool" p2) X.env) :: starEach [] X.env := by exact star1 rfl) (hpl : (backTo pos (starEach [.Name "bool" p2] X.env)).any (·.1) = false := by exact starN rfl) : EE X (.Call (.Name "isinstance" p) [e, .Name "bool" p2] [] pos) sg M (.bl (isB d)) := by
  rw [← ins_bool]
  exact ee_isi hm hmT bi_bool k_bool h lk hg hgT (by decide) (by decide) hs hs2 hpl
theorem ee_isS (hm : X.mg "isinstance" = none) (hmT : X.mg "str" = none) (h : EE X e sg M d) (lk : LkD M d) (hg : Gl X "isinstance" := by rfl) (hgT : Gl X "str" := by rfl)
    (hs : starEach [e, .Name "str" p2] X.env = (false, eval e X.env) :: starEach [.Name "str" p2] X.env := by exact star1 rfl) (hs2 : starEach [.Name "str" p2] X.env = (false, eval (.Name "str" p2) X.env) :: starEach [] X.env := by exact star1 rfl) (hpl : (backTo pos (starEach [.Name "str" p2] X.env)).any (·.1) = false := by exact starN rfl) : EE X (.Call (.Name "isinstance" p) [e, .Name "str" p2] [] pos) sg M (.bl (isS d)) := by
  rw [← ins_str]
  exact ee_isi hm hmT bi_str k_str h lk hg hgT (by decide) (by decide) hs hs2 hpl
theorem ee_isT (hm : X.mg "isinstance" = none) (hmT : X.mg "tuple" = none) (h : EE X e sg M d) (lk : LkD M d) (hg : Gl X "isinstance" := by rfl) (hgT : Gl X "tuple" := by rfl)
    (hs : starEach [e, .Name "tuple" p2] X.env = (false, eval e X.env) :: starEach [.Name "tuple" p2] X.env := by exact star1 rfl) (hs2 : starEach [.Name "tuple" p2] X.env = (false, eval (.Name "tuple" p2) X.env) :: starEach [] X.env := by exact star1 rfl) (hpl : (backTo pos (starEach [.Name "tuple" p2] X.env)).any (·.1) = false := by exact starN rfl) : EE X (.Call (.Name "isinstance" p) [e, .Name "tuple" p2] [] pos) sg M (.bl (isT d)) := by
  rw [← ins_tuple]
  exact ee_isi hm hmT bi_tuple k_tuple h lk hg hgT (by decide) (by decide) hs hs2 hpl
theorem ee_isL (hm : X.mg "isinstance" = none) (hmT : X.mg "list" = none) (h : EE X e sg M d) (lk : LkD M d) (hg : Gl X "isinstance" := by rfl) (hgT : Gl X "list" := by rfl)
    (hs : starEach [e, .Name "list" p2] X.env = (false, eval e X.env) :: starEach [.Name "list" p2] X.env := by exact star1 rfl) (hs2 : starEach [.Name "list" p2] X.env = (false, eval (.Name "list" p2) X.env) :: starEach [] X.env := by exact star1 rfl) (hpl : (backTo pos (starEach [.Name "list" p2] X.env)).any (·.1) = false := by exact starN rfl) : EE X (.Call (.Name "isinstance" p) [e, .Name "list" p2] [] pos) sg M (.bl (isL d)) := by
  rw [← ins_list]
  exact ee_isi hm hmT bi_list k_list h lk hg hgT (by decide) (by decide) hs hs2 hpl
end
/-! calls of built-ins on one datum -/
section
variable {e : Expr} {d : D} {p : Pos} {ds : List D}
theorem ee_cb {id : String} {r : List V → Hp → VK → Prop} {x : Str} {es : List Expr} (hc : CallR X (.builtin id) r) (hm : X.mg x = none) (hv : bootBuiltins x = some (.builtin id)) (h : EA X (e :: es) sg M ds) (hcl : ClD X.K r ds M Q) (hg : Gl X x := by rfl) (hn : x ≠ "__name__" := by decide) (hdb : (x == ("__debug__" : Str)) = false := by decide)
    (he : starEach (e :: es) X.env = (false, eval e X.env) :: starEach es X.env := by exact star1 rfl) (hpl : (backTo pos (starEach es X.env)).any (·.1) = false := by exact starN rfl) : WE X (.Call (.Name x p) (e :: es) [] pos) sg M Q := we_cb hc hm hv (h.to hcl) hg hn hdb he hpl
theorem ee_ct {T : String} {r : List V → Hp → VK → Prop} {x : Str} {es : List Expr} (hc : CallR X (.type T) r) (hm : X.mg x = none) (hv : bootBuiltins x = some (.type T)) (h : EA X (e :: es) sg M ds) (hcl : ClD X.K r ds M Q) (hg : Gl X x := by rfl) (hn : x ≠ "__name__" := by decide) (hdb : (x == ("__debug__" : Str)) = false := by decide)
    (he : starEach (e :: es) X.env = (false, eval e X.env) :: starEach es X.env := by exact star1 rfl) (hpl : (backTo pos (starEach es X.env)).any (·.1) = false := by exact starN rfl) : WE X (.Call (.Name x p) (e :: es) [] pos) sg M Q := we_ct hc hm hv (h.to hcl) hg hn hdb he hpl
end
end
end
/-- the names of built-ins that the top leaves alone -/
structure Blt (mg : Str → Option Value) : Prop where
  isinstance : mg "isinstance" = none
  int : mg "int" = none
  bool : mg "bool" = none
  str : mg "str" = none
  tuple : mg "tuple" = none
  list : mg "list" = none
  len : mg "len" = none
  all : mg "all" = none
  any : mg "any" = none
  sum : mg "sum" = none
  max : mg "max" = none
  min : mg "min" = none
  sorted : mg "sorted" = none
  range : mg "range" = none
  enumerate : mg "enumerate" = none
  zip : mg "zip" = none
end DL
namespace DL
open PySem L2 PyProof.Rows HT
/-- the def x of the text stands behind the top -/
def Df (K : PySem.W.Frag) (mg : Str → Option Value) (x : Str) (st : Stmt) (ps : List Str) : Prop := ∃ f fd, Fun K x x st f fd ∧ mg x = some (.ref f) ∧ Binds K fd ps []
theorem dfn' {P : Program} {w : World} {K : PySem.W.Frag} {mg : Str → Option Value} {base : Heap} {x : Str} {st : Stmt} {N ps : List Str} {k n : Nat} {S : SpD} (F : Df K mg x st ps) (sc : FnScope N ps (defScope st)) (hn : ps.length = n)
    (body : ∀ (f : Addr) (cdv : Value) (A : Around) (outer : List Env) (s : Shared) (H : Hp) (E : XK) (ds : List D) (M : Mem) (Q : D → Mem → Prop), Room k (A.deeper (envOfC x (defScope st) s.heap.objs.size f cdv)) → ds.length = n → S ds M Q →
      WSs (cxOf CX0 P w K mg base N x (defScope st) f cdv A outer s H E).nox (defBody st) (startD N ds) M { nx := fun _ M' => Q .non M', rt := Q }) : Cal P w K mg base (k + 1) x n S := by
  obtain ⟨f, fd, F, hm, hb⟩ := F
  exact dfn F sc hn hm hb (body f)
end DL
set_option Elab.async false
set_option linter.all false
set_option maxRecDepth 100000
set_option maxHeartbeats 4000000
/-! DLi: comprehensions in short. -/
namespace DL
open PySem L2 PyProof.Rows HT
section
variable {X : Cx} {sg : Sg} {M : Mem} {E : EndsD} {Q : D → Mem → Prop} {pos : Pos} {K : PySem.W.Frag}
abbrev ItQ (ds : List D) (M : Mem) : List D → (Mem → Prop) → Mem → Prop := fun ds' C M0 => ds' = ds ∧ M0 = M ∧ C M
section
variable {elt iter : Expr} {scope : Scope} {x y : Str} {px py pt : Pos} {kt : Nat} {ds : List D}
theorem blk_kind {C : Addr} {cl : List (Str × Addr)} {k : NameKind} {x : Str} {scope : Scope} (hk : k ≠ .free) (h : scope.names.lookup x = some k) : (compEnvC scope cl C X.env).scope.names.lookup x = some k := lookup_relS_keep (sc := X.env.scope) hk h
theorem blk_name (i : Nat) {vs : List Nat} {sg1 : Sg} {d : D} (hN : X.N.Nodup) (hx : scope.names.lookup x = some .local ∨ scope.names.lookup x = some .cell) (hi : X.N[i]? = some x) : Blk X scope fun Y => WG Y (.Name x px) [i] d sg1 (sg1.set i (some d)) := fun s H C cl fp => by
  rcases hx with h | h
  · exact wg_name i hN hi (.inl (blk_kind (by decide) h)) (.inr (blk_kind (by decide) h))
  · refine wg_name i hN hi (.inr (blk_kind (by decide) h)) (.inl ?_)
    show (scope.names.lookup x == some .cell) = true
    rw [h]
    rfl
/-- a turn whose target is one name -/
theorem turn1 (i : Nat) {ifs : List Expr} {vs : List Nat} {d : D} {M1 : Mem} {QT : D → Mem → Prop} {QF : Mem → Prop} (hv : i ∈ vs) (hN : X.N.Nodup) (hx : scope.names.lookup x = some .local ∨ scope.names.lookup x = some .cell) (hi : X.N[i]? = some x)
    (QB : Bool → Mem → Prop) (ht : Blk X scope fun Y => WTs Y ifs ((wipeD sg vs).set i (some d)) M1 QB) (he : ∀ M2, QB true M2 → Blk X scope fun Y => WE Y elt ((wipeD sg vs).set i (some d)) M2 QT) (hf : ∀ M2, QB false M2 → QF M2) : LcTurn X scope vs (.Name x px) elt ifs sg d M1 QT QF :=
  ⟨[i], _, fun j hj => by rw [List.mem_singleton.mp hj]; exact hv, blk_name (vs := vs) i hN hx hi, QB, ht, he, hf⟩
/-- .. two names -/
theorem turn2 (i j : Nat) {ifs : List Expr} {vs : List Nat} {a b : D} {M1 : Mem} {QT : D → Mem → Prop} {QF : Mem → Prop} (hv : i ∈ vs) (hw : j ∈ vs) (hc : X.calm = true) (hN : X.N.Nodup) (hx : scope.names.lookup x = some .local ∨ scope.names.lookup x = some .cell) (hi : X.N[i]? = some x) (hy : scope.names.lookup y = some .local ∨ scope.names.lookup y = some .cell) (hj : X.N[j]? = some y)
    (QB : Bool → Mem → Prop) (ht : Blk X scope fun Y => WTs Y ifs (((wipeD sg vs).set i (some a)).set j (some b)) M1 QB) (he : ∀ M2, QB true M2 → Blk X scope fun Y => WE Y elt (((wipeD sg vs).set i (some a)).set j (some b)) M2 QT) (hf : ∀ M2, QB false M2 → QF M2) : LcTurn X scope vs (.Tuple [.Name x px, .Name y py] kt pt) elt ifs sg (.tup [a, b]) M1 QT QF := by
  refine ⟨[i] ++ ([j] ++ []), ((wipeD sg vs).set i (some a)).set j (some b), fun l hl => ?_, fun s H C cl fp => wg_tup hc (wgs_cons (blk_name (vs := vs) i hN hx hi s H C cl fp) (wgs_cons (blk_name (vs := vs) j hN hy hj s H C cl fp) wgs_nil)), QB, ht, he, hf⟩
  rcases List.mem_append.mp hl with h | h
  · rw [List.mem_singleton.mp h]; exact hv
  · rcases List.mem_append.mp h with h | h
    · rw [List.mem_singleton.mp h]; exact hw
    · cases h
/-- [elt for x in iter], nothing changing -/
theorem ok_lc1 (i : Nat) (f : D → D) (hc : X.calm = true) (hN : X.N.Nodup) (hz : ds.length < sizeLine) (h : ∀ (j : Nat) (d : D), ds[j]? = some d → Blk X scope fun Y => EE Y elt ((wipeD sg [i]).set i (some d)) M (f d))
    (ok : BlkOk X.N X.env.scope scope [(x, i)] := by exact blkOk_by (by with_unfolding_all rfl)) (hx : scope.names.lookup x = some .local ∨ scope.names.lookup x = some .cell := by first | exact Or.inl rfl | exact Or.inr rfl) : LcOk X scope [i] (.Name x px) elt [] sg (ItQ ds M) fun x M' => x = (.lst (ds.map f)) ∧ M' = M :=
  fun ds' C M0 ⟨e1, e2, hC⟩ => by
    subst e1; subst e2
    refine ⟨fun j acc M1 => j ≤ ds'.length ∧ acc = (ds'.take j).map f ∧ M1 = M0, ⟨Nat.zero_le _, rfl, rfl⟩, fun j acc M1 ⟨hj, e1, e2⟩ => ?_, fun j d acc M1 hd ⟨hj, e1, e2⟩ => ?_, fun acc M1 ⟨_, e1, e2⟩ => ?_⟩
    · subst e1; subst e2
      refine ⟨hC, ?_⟩
      rw [List.length_map, List.length_take]
      omega
    · subst e1; subst e2
      refine turn1 i (List.mem_singleton.mpr rfl) hN hx (ok.ix _ (List.mem_singleton.mpr rfl)) (fun b M2 => b = true ∧ M2 = M1) (fun _ _ _ _ _ => ⟨rfl, rfl⟩) (fun M2 ⟨_, e⟩ => ?_) (fun M2 ⟨e, _⟩ => Bool.noConfusion e)
      subst e
      exact fun s H C cl fp => (h j d hd s H C cl fp).imp fun z M3 ⟨e3, e4⟩ => ⟨(List.getElem?_eq_some_iff.mp hd).1, by rw [e3, List.take_add_one, hd, List.map_append]; rfl, e4⟩
    · rw [List.take_length] at e1
      subst e1
      exact ⟨rfl, e2⟩
theorem ee_lc1 (i : Nat) (f : D → D) (hc : X.calm = true) (hN : X.N.Nodup) (hi : WI X (.Name x px) iter sg M (ItQ ds M)) (hz : ds.length < sizeLine) (h : ∀ (j : Nat) (d : D), ds[j]? = some d → Blk X scope fun Y => EE Y elt ((wipeD sg [i]).set i (some d)) M (f d))
    (ok : BlkOk X.N X.env.scope scope [(x, i)] := by exact blkOk_by (by with_unfolding_all rfl)) (hx : scope.names.lookup x = some .local ∨ scope.names.lookup x = some .cell := by first | exact Or.inl rfl | exact Or.inr rfl) (hs : ∀ x, foldedSetIterable iter X.env x = pure x := by intro _; rfl) : EE X (.ListComp elt [⟨.Name x px, iter, [], 0⟩] scope pos) sg M (.lst (ds.map f)) :=
  we_lc [(x, i)] hc hN ok hi (ok_lc1 i f hc hN hz h ok hx) (Nat.zero_le _) hs
/-- [elt for x in iter if c] -/
theorem ok_lc1if {c : Expr} (i : Nat) (p : D → Bool) (f : D → D) (hc : X.calm = true) (hN : X.N.Nodup) (hz : ds.length < sizeLine) (ht : ∀ (j : Nat) (d : D), ds[j]? = some d → Blk X scope fun Y => ET Y c ((wipeD sg [i]).set i (some d)) M (p d)) (h : ∀ (j : Nat) (d : D), ds[j]? = some d → p d = true → Blk X scope fun Y => EE Y elt ((wipeD sg [i]).set i (some d)) M (f d))
    (ok : BlkOk X.N X.env.scope scope [(x, i)] := by exact blkOk_by (by with_unfolding_all rfl)) (hx : scope.names.lookup x = some .local ∨ scope.names.lookup x = some .cell := by first | exact Or.inl rfl | exact Or.inr rfl) : LcOk X scope [i] (.Name x px) elt [c] sg (ItQ ds M) fun x M' => x = (.lst ((ds.filter p).map f)) ∧ M' = M :=
  fun ds' C M0 ⟨e1, e2, hC⟩ => by
    subst e1; subst e2
    refine ⟨fun j acc M1 => j ≤ ds'.length ∧ acc = ((ds'.take j).filter p).map f ∧ M1 = M0, ⟨Nat.zero_le _, rfl, rfl⟩, fun j acc M1 ⟨hj, e1, e2⟩ => ?_, fun j d acc M1 hd ⟨hj, e1, e2⟩ => ?_, fun acc M1 ⟨_, e1, e2⟩ => ?_⟩
    · subst e1; subst e2
      refine ⟨hC, ?_⟩
      rw [List.length_map]
      have a1 := List.length_filter_le p (ds'.take j)
      rw [List.length_take] at a1
      omega
    · subst e1; subst e2
      have hlt := (List.getElem?_eq_some_iff.mp hd).1
      have tk : ds'.take (j + 1) = ds'.take j ++ [d] := by rw [List.take_add_one, hd]; rfl
      refine turn1 i (List.mem_singleton.mpr rfl) hN hx (ok.ix _ (List.mem_singleton.mpr rfl)) (fun b M2 => b = p d ∧ M2 = M1) (ht j d hd) (fun M2 ⟨e3, e⟩ => ?_) (fun M2 ⟨e3, e⟩ => ⟨hlt, ?_, e⟩)
      · subst e
        refine fun s H C cl fp => (h j d hd e3.symm s H C cl fp).imp fun z M3 ⟨e5, e4⟩ => ⟨hlt, ?_, e4⟩
        rw [e5, tk, List.filter_append, List.map_append, List.filter_cons_of_pos e3.symm]
        rfl
      · rw [tk, List.filter_append, List.filter_cons_of_neg (by rw [← e3]; exact Bool.false_ne_true), List.filter_nil, List.append_nil]
    · rw [List.take_length] at e1
      subst e1
      exact ⟨rfl, e2⟩
theorem ee_lc1if {c : Expr} (i : Nat) (p : D → Bool) (f : D → D) (hc : X.calm = true) (hN : X.N.Nodup) (hi : WI X (.Name x px) iter sg M (ItQ ds M)) (hz : ds.length < sizeLine) (ht : ∀ (j : Nat) (d : D), ds[j]? = some d → Blk X scope fun Y => ET Y c ((wipeD sg [i]).set i (some d)) M (p d)) (h : ∀ (j : Nat) (d : D), ds[j]? = some d → p d = true → Blk X scope fun Y => EE Y elt ((wipeD sg [i]).set i (some d)) M (f d))
    (ok : BlkOk X.N X.env.scope scope [(x, i)] := by exact blkOk_by (by with_unfolding_all rfl)) (hx : scope.names.lookup x = some .local ∨ scope.names.lookup x = some .cell := by first | exact Or.inl rfl | exact Or.inr rfl) (hs : ∀ x, foldedSetIterable iter X.env x = pure x := by intro _; rfl) : EE X (.ListComp elt [⟨.Name x px, iter, [c], 0⟩] scope pos) sg M (.lst ((ds.filter p).map f)) :=
  we_lc [(x, i)] hc hN ok hi (ok_lc1if i p f hc hN hz ht h ok hx) (Nat.le_refl _) hs
def fstD : D → D
  | .tup (a :: _) => a
  | _ => .non
def sndD : D → D
  | .tup (_ :: b :: _) => b
  | _ => .non
/-- [elt for x, y in iter] -/
theorem ok_lc2 (i j : Nat) (f : D → D → D) (hc : X.calm = true) (hN : X.N.Nodup) (hz : ds.length < sizeLine) (h : ∀ (l : Nat) (d : D), ds[l]? = some d → ∃ a b, d = .tup [a, b] ∧ Blk X scope fun Y => EE Y elt (((wipeD sg [i, j]).set i (some a)).set j (some b)) M (f a b))
    (ok : BlkOk X.N X.env.scope scope [(x, i), (y, j)] := by exact blkOk_by (by with_unfolding_all rfl)) (hx : scope.names.lookup x = some .local ∨ scope.names.lookup x = some .cell := by first | exact Or.inl rfl | exact Or.inr rfl) (hy : scope.names.lookup y = some .local ∨ scope.names.lookup y = some .cell := by first | exact Or.inl rfl | exact Or.inr rfl) : LcOk X scope [i, j] (.Tuple [.Name x px, .Name y py] kt pt) elt [] sg (ItQ ds M) fun x M' => x = (.lst (ds.map fun d => f (fstD d) (sndD d))) ∧ M' = M :=
  fun ds' C M0 ⟨e1, e2, hC⟩ => by
    subst e1; subst e2
    refine ⟨fun l acc M1 => l ≤ ds'.length ∧ acc = (ds'.take l).map (fun d => f (fstD d) (sndD d)) ∧ M1 = M0, ⟨Nat.zero_le _, rfl, rfl⟩, fun l acc M1 ⟨hj, e1, e2⟩ => ?_, fun l d acc M1 hd ⟨hj, e1, e2⟩ => ?_, fun acc M1 ⟨_, e1, e2⟩ => ?_⟩
    · subst e1; subst e2
      refine ⟨hC, ?_⟩
      rw [List.length_map, List.length_take]
      omega
    · subst e1; subst e2
      obtain ⟨a, b, ed, hb⟩ := h l d hd
      subst ed
      refine turn2 i j (by simp) (by simp) hc hN hx (ok.ix (x, i) (by simp)) hy (ok.ix (y, j) (by simp)) (fun b M2 => b = true ∧ M2 = M1) (fun _ _ _ _ _ => ⟨rfl, rfl⟩) (fun M2 ⟨_, e⟩ => ?_) (fun M2 ⟨e, _⟩ => Bool.noConfusion e)
      subst e
      exact fun s H C cl fp => (hb s H C cl fp).imp fun z M3 ⟨e3, e4⟩ => ⟨(List.getElem?_eq_some_iff.mp hd).1, by rw [e3, List.take_add_one, hd, List.map_append]; rfl, e4⟩
    · rw [List.take_length] at e1
      subst e1
      exact ⟨rfl, e2⟩
theorem ee_lc2 (i j : Nat) (f : D → D → D) (hc : X.calm = true) (hN : X.N.Nodup) (hi : WI X (.Tuple [.Name x px, .Name y py] kt pt) iter sg M (ItQ ds M)) (hz : ds.length < sizeLine) (h : ∀ (l : Nat) (d : D), ds[l]? = some d → ∃ a b, d = .tup [a, b] ∧ Blk X scope fun Y => EE Y elt (((wipeD sg [i, j]).set i (some a)).set j (some b)) M (f a b))
    (ok : BlkOk X.N X.env.scope scope [(x, i), (y, j)] := by exact blkOk_by (by with_unfolding_all rfl)) (hx : scope.names.lookup x = some .local ∨ scope.names.lookup x = some .cell := by first | exact Or.inl rfl | exact Or.inr rfl) (hy : scope.names.lookup y = some .local ∨ scope.names.lookup y = some .cell := by first | exact Or.inl rfl | exact Or.inr rfl) (hs : ∀ x, foldedSetIterable iter X.env x = pure x := by intro _; rfl) : EE X (.ListComp elt [⟨.Tuple [.Name x px, .Name y py] kt pt, iter, [], 0⟩] scope pos) sg M (.lst (ds.map fun d => f (fstD d) (sndD d))) :=
  we_lc [(x, i), (y, j)] hc hN ok hi (ok_lc2 i j f hc hN hz h ok hx hy) (Nat.zero_le _) hs
/-- [elt for x, y in iter if c] -/
theorem ok_lc2if {c : Expr} (i j : Nat) (p : D → D → Bool) (f : D → D → D) (hc : X.calm = true) (hN : X.N.Nodup) (hz : ds.length < sizeLine) (h : ∀ (l : Nat) (d : D), ds[l]? = some d → ∃ a b, d = .tup [a, b] ∧ (Blk X scope fun Y => ET Y c (((wipeD sg [i, j]).set i (some a)).set j (some b)) M (p a b)) ∧ (p a b = true → Blk X scope fun Y => EE Y elt (((wipeD sg [i, j]).set i (some a)).set j (some b)) M (f a b)))
    (ok : BlkOk X.N X.env.scope scope [(x, i), (y, j)] := by exact blkOk_by (by with_unfolding_all rfl)) (hx : scope.names.lookup x = some .local ∨ scope.names.lookup x = some .cell := by first | exact Or.inl rfl | exact Or.inr rfl) (hy : scope.names.lookup y = some .local ∨ scope.names.lookup y = some .cell := by first | exact Or.inl rfl | exact Or.inr rfl) : LcOk X scope [i, j] (.Tuple [.Name x px, .Name y py] kt pt) elt [c] sg (ItQ ds M) fun x M' => x = (.lst ((ds.filter fun d => p (fstD d) (sndD d)).map fun d => f (fstD d) (sndD d))) ∧ M' = M :=
  fun ds' C M0 ⟨e1, e2, hC⟩ => by
    subst e1; subst e2
    refine ⟨fun l acc M1 => l ≤ ds'.length ∧ acc = ((ds'.take l).filter fun d => p (fstD d) (sndD d)).map (fun d => f (fstD d) (sndD d)) ∧ M1 = M0, ⟨Nat.zero_le _, rfl, rfl⟩, fun l acc M1 ⟨hj, e1, e2⟩ => ?_, fun l d acc M1 hd ⟨hj, e1, e2⟩ => ?_, fun acc M1 ⟨_, e1, e2⟩ => ?_⟩
    · subst e1; subst e2
      refine ⟨hC, ?_⟩
      rw [List.length_map]
      have a1 := List.length_filter_le (fun d => p (fstD d) (sndD d)) (ds'.take l)
      rw [List.length_take] at a1
      omega
    · subst e1; subst e2
      obtain ⟨a, b, ed, ht, hb⟩ := h l d hd
      subst ed
      have hlt := (List.getElem?_eq_some_iff.mp hd).1
      have tk : ds'.take (l + 1) = ds'.take l ++ [D.tup [a, b]] := by rw [List.take_add_one, hd]; rfl
      refine turn2 i j (by simp) (by simp) hc hN hx (ok.ix (x, i) (by simp)) hy (ok.ix (y, j) (by simp)) (fun k M2 => k = p a b ∧ M2 = M1) ht (fun M2 ⟨e3, e⟩ => ?_) (fun M2 ⟨e3, e⟩ => ⟨hlt, ?_, e⟩)
      · subst e
        refine fun s H C cl fp => (hb e3.symm s H C cl fp).imp fun z M3 ⟨e5, e4⟩ => ⟨hlt, ?_, e4⟩
        have e6 : (fun d => p (fstD d) (sndD d)) (.tup [a, b]) = true := e3.symm
        rw [e5, tk, List.filter_append, List.map_append, List.filter_cons_of_pos (p := fun d => p (fstD d) (sndD d)) e6]
        rfl
      · have e6 : ¬ (fun d => p (fstD d) (sndD d)) (.tup [a, b]) = true := by
          show ¬ p a b = true
          rw [← e3]
          exact Bool.false_ne_true
        rw [tk, List.filter_append, List.filter_cons_of_neg (p := fun d => p (fstD d) (sndD d)) e6, List.filter_nil, List.append_nil]
    · rw [List.take_length] at e1
      subst e1
      exact ⟨rfl, e2⟩
theorem ee_lc2if {c : Expr} (i j : Nat) (p : D → D → Bool) (f : D → D → D) (hc : X.calm = true) (hN : X.N.Nodup) (hi : WI X (.Tuple [.Name x px, .Name y py] kt pt) iter sg M (ItQ ds M)) (hz : ds.length < sizeLine) (h : ∀ (l : Nat) (d : D), ds[l]? = some d → ∃ a b, d = .tup [a, b] ∧ (Blk X scope fun Y => ET Y c (((wipeD sg [i, j]).set i (some a)).set j (some b)) M (p a b)) ∧ (p a b = true → Blk X scope fun Y => EE Y elt (((wipeD sg [i, j]).set i (some a)).set j (some b)) M (f a b)))
    (ok : BlkOk X.N X.env.scope scope [(x, i), (y, j)] := by exact blkOk_by (by with_unfolding_all rfl)) (hx : scope.names.lookup x = some .local ∨ scope.names.lookup x = some .cell := by first | exact Or.inl rfl | exact Or.inr rfl) (hy : scope.names.lookup y = some .local ∨ scope.names.lookup y = some .cell := by first | exact Or.inl rfl | exact Or.inr rfl) (hs : ∀ x, foldedSetIterable iter X.env x = pure x := by intro _; rfl) : EE X (.ListComp elt [⟨.Tuple [.Name x px, .Name y py] kt pt, iter, [c], 0⟩] scope pos) sg M (.lst ((ds.filter fun d => p (fstD d) (sndD d)).map fun d => f (fstD d) (sndD d))) :=
  we_lc [(x, i), (y, j)] hc hN ok hi (ok_lc2if i j p f hc hN hz h ok hx hy) (Nat.le_refl _) hs
end
theorem LcOk.imp {scope : Scope} {vs : List Nat} {tg elt : Expr} {ifs : List Expr} {Qi : List D → (Mem → Prop) → Mem → Prop} {Q' : D → Mem → Prop} (h : LcOk X scope vs tg elt ifs sg Qi Q) (k : ∀ d M', Q d M' → Q' d M') : LcOk X scope vs tg elt ifs sg Qi Q' := fun ds C M0 q => let ⟨Pv, a, b, c, d⟩ := h ds C M0 q; ⟨Pv, a, b, c, fun acc M1 z => k _ _ (d acc M1 z)⟩
theorem LcOk.to {scope : Scope} {vs : List Nat} {tg elt : Expr} {ifs : List Expr} {Qi : List D → (Mem → Prop) → Mem → Prop} {d : D} (h : LcOk X scope vs tg elt ifs sg Qi fun x M' => x = d ∧ M' = M) (q : Q d M) : LcOk X scope vs tg elt ifs sg Qi Q := h.imp fun x M' ⟨e1, e2⟩ => by subst e1; subst e2; exact q
/-- an expression assigned to a name by a comprehension on one line: the rule for the plain one serves, where it changes nothing -/
theorem ws_setLcE (i : Nat) {y : Str} {py : Pos} {iter elt tg : Expr} {ifs : List Expr} {scope : Scope} {spos : Pos} (own : List (Str × Nat)) {Qi : List D → (Mem → Prop) → Mem → Prop} (hc : X.calm = true) (hN : X.N.Nodup) (hi : WI X tg iter sg M Qi) (h : LcOk X scope (own.map (·.2)) tg elt ifs sg Qi fun d M1 => E.nx (sg.set i (some d)) M1)
    (ok : BlkOk X.N X.env.scope scope own := by exact blkOk_by (by with_unfolding_all rfl)) (hif : ifs.length ≤ 1 := by decide) (hy : X.N[i]? = some y := by rfl) (hyl : X.env.scope.names.lookup y = some .local := by rfl) (hsw : swapsWith (.ListComp elt [⟨tg, iter, ifs, 0⟩] scope pos) (some (.Name y py)) spos.line X.env = pure true := by exact sw_true rfl rfl rfl (by decide +kernel)) (hs : ∀ x, foldedSetIterable iter X.env x = pure x := by intro _; rfl) : WS X (.Assign [.Name y py] (.ListComp elt [⟨tg, iter, ifs, 0⟩] scope pos) spos) sg M E := ws_setLc i own hc hN ok hi h hif hy hyl hsw hs
end
end DL
set_option Elab.async false
set_option linter.all false
set_option maxRecDepth 100000
set_option maxHeartbeats 4000000
namespace K10
open PySem L2 PyProof.Rows DL
def topS (i : Nat) : Stmt := PySem.Challenge.pw_changestold_k10_whole_trees_of_followers.main.body.getD i (.Pass ⟨0, 0, 0, 0⟩)
abbrev s_is_whole : Stmt := topS 1
theorem sc_is_whole : FnScope ["value"] ["value"] (defScope s_is_whole) := ⟨rfl, rfl, rfl, by decide +kernel, rfl, by decide +kernel, by decide +kernel⟩
-- is_whole: value 0
abbrev s_are_parents : Stmt := topS 4
theorem sc_are_parents : FnScope ["value", "parent", "k"] ["value"] (defScope s_are_parents) := ⟨rfl, rfl, rfl, by decide +kernel, rfl, by decide +kernel, by decide +kernel⟩
-- are_parents: value 0, parent 1, k 2
abbrev s_depth_in : Stmt := topS 5
theorem sc_depth_in : FnScope ["parents", "k", "found"] ["parents", "k"] (defScope s_depth_in) := ⟨rfl, rfl, rfl, by decide +kernel, rfl, by decide +kernel, by decide +kernel⟩
-- depth_in: parents 0, k 1, found 2
abbrev s_children_in : Stmt := topS 6
theorem sc_children_in : FnScope ["parents", "k", "child", "parent"] ["parents", "k"] (defScope s_children_in) := ⟨rfl, rfl, rfl, by decide +kernel, rfl, by decide +kernel, by decide +kernel⟩
-- children_in: parents 0, k 1, child 2, parent 3
abbrev s_can_tell : Stmt := topS 7
theorem sc_can_tell : FnScope ["moment", "keep", "other"] ["moment", "keep", "other"] (defScope s_can_tell) := ⟨rfl, rfl, rfl, by decide +kernel, rfl, by decide +kernel, by decide +kernel⟩
-- can_tell: moment 0, keep 1, other 2
abbrev s_can_drop : Stmt := topS 8
theorem sc_can_drop : FnScope ["parents", "moments", "keep", "k", "moment", "child"] ["parents", "moments", "keep", "k"] (defScope s_can_drop) := ⟨rfl, rfl, rfl, by decide +kernel, rfl, by decide +kernel, by decide +kernel⟩
-- can_drop: parents 0, moments 1, keep 2, k 3, moment 4, child 5
abbrev s_dropped : Stmt := topS 9
theorem sc_dropped : FnScope ["parents", "k", "above", "found", "child", "parent"] ["parents", "k"] (defScope s_dropped) := ⟨rfl, rfl, rfl, by decide +kernel, rfl, by decide +kernel, by decide +kernel⟩
-- dropped: parents 0, k 1, above 2, found 3, child 4, parent 5
abbrev s_put_in : Stmt := topS 10
theorem sc_put_in : FnScope ["parents", "k", "found", "parent"] ["parents", "k"] (defScope s_put_in) := ⟨rfl, rfl, rfl, by decide +kernel, rfl, by decide +kernel, by decide +kernel⟩
-- put_in: parents 0, k 1, found 2, parent 3
abbrev s_even_moment : Stmt := topS 11
theorem sc_even_moment : FnScope ["tick", "depth", "d", "size"] ["tick", "depth", "d", "size"] (defScope s_even_moment) := ⟨rfl, rfl, rfl, by decide +kernel, rfl, by decide +kernel, by decide +kernel⟩
-- even_moment: tick 0, depth 1, d 2, size 3
abbrev s_law_mix : Stmt := topS 13
theorem sc_law_mix : FnScope ["number"] ["number"] (defScope s_law_mix) := ⟨rfl, rfl, rfl, by decide +kernel, rfl, by decide +kernel, by decide +kernel⟩
-- _law_mix: number 0
abbrev s_law_tape : Stmt := topS 14
theorem sc_law_tape : FnScope ["script"] ["script"] (defScope s_law_tape) := ⟨rfl, rfl, rfl, by decide +kernel, rfl, by decide +kernel, by decide +kernel⟩
-- _law_tape: script 0
abbrev s_law_take : Stmt := topS 15
theorem sc_law_take : FnScope ["tape", "many", "cell", "digit"] ["tape", "many"] (defScope s_law_take) := ⟨rfl, rfl, rfl, by decide +kernel, rfl, by decide +kernel, by decide +kernel⟩
-- _law_take: tape 0, many 1, cell 2, digit 3
abbrev s_law_same : Stmt := topS 16
theorem sc_law_same : FnScope ["a", "b", "k"] ["a", "b"] (defScope s_law_same) := ⟨rfl, rfl, rfl, by decide +kernel, rfl, by decide +kernel, by decide +kernel⟩
-- _law_same: a 0, b 1, k 2
abbrev s_law_whole : Stmt := topS 17
theorem sc_law_whole : FnScope ["value", "low", "high"] ["value", "low", "high"] (defScope s_law_whole) := ⟨rfl, rfl, rfl, by decide +kernel, rfl, by decide +kernel, by decide +kernel⟩
-- _law_whole: value 0, low 1, high 2
abbrev s_law_spoilt : Stmt := topS 18
theorem sc_law_spoilt : FnScope ["tape", "value", "at", "rows"] ["tape", "value"] (defScope s_law_spoilt) := ⟨rfl, rfl, rfl, by decide +kernel, rfl, by decide +kernel, by decide +kernel⟩
-- _law_spoilt: tape 0, value 1, at 2, rows 3
abbrev s_law_parents : Stmt := topS 19
theorem sc_law_parents : FnScope ["tape", "many", "k"] ["tape", "many"] (defScope s_law_parents) := ⟨rfl, rfl, rfl, by decide +kernel, rfl, by decide +kernel, by decide +kernel⟩
-- _law_parents: tape 0, many 1, k 2
abbrev s_law_named : Stmt := topS 20
theorem sc_law_named : FnScope ["parents", "names", "k"] ["parents", "names"] (defScope s_law_named) := ⟨rfl, rfl, rfl, by decide +kernel, rfl, by decide +kernel, by decide +kernel⟩
-- _law_named: parents 0, names 1, k 2
abbrev s_law : Stmt := topS 21
theorem sc_law : FnScope ["script", "tape", "turn", "parents", "values", "value", "k", "fine", "moments", "keep", "parent", "depth", "here", "step", "children", "j", "other", "above", "child", "names", "mine", "who", "whom", "told", "name"] ["script"] (defScope s_law) := ⟨rfl, rfl, rfl, by decide +kernel, rfl, by decide +kernel, by decide +kernel⟩
-- law: script 0, tape 1, turn 2, parents 3, values 4, value 5, k 6, fine 7, moments 8, keep 9, parent 10, depth 11, here 12, step 13, children 14, j 15, other 16, above 17, child 18, names 19, mine 20, who 21, whom 22, told 23, name 24
section
variable {P : Program} {w : World} {K : PySem.W.Frag} {mg : Str → Option Value} {base : Heap}
/-! ### is_whole -/
def isW (d : D) : Bool := isI d && !isB d
def S_is_whole : SpD := fun ds M Q => ∃ x, ds = [x] ∧ LkD M x ∧ Q (.bl (isW x)) M
theorem d_is_whole (F : Df K mg "is_whole" s_is_whole ["value"]) (B : Blt mg) : Cal P w K mg base 1 "is_whole" 1 S_is_whole := by
  refine dfn' F sc_is_whole rfl fun f cdv A outer s H E ds M Q hr hl hs => ?_
  obtain ⟨x, rfl, lk, q⟩ := hs
  exact wss_one (ws_ret (EE.to (ee_and (ee_isI B.isinstance B.int (ee_v 0 rfl) lk) fun _ => we_one (ee_not (ee_isB B.isinstance B.bool (ee_v 0 rfl) lk))) q))
theorem pl_lk {x : D} (M : Mem) (h : pl x = true) : LkD M x := by cases x <;> first | exact trivial | cases h
theorem plA_at : ∀ {ds : List D} {i : Nat} {d : D}, plA ds = true → ds[i]? = some d → pl d = true
  | [], i, _, _, h => by simp at h
  | d :: ds, 0, _, h, e => by
    simp at e
    subst e
    exact (Bool.and_eq_true_iff.mp h).1
  | d :: ds, i + 1, _, h, e => plA_at (Bool.and_eq_true_iff.mp h).2 (by simpa using e)
def itemsD : D → List D
  | .tup ds => ds
  | _ => []
def intOf : D → Int
  | .int i => i
  | _ => 0
/-- plain, and not too long at its top -/
def Ok (x : D) : Prop := pl x = true ∧ (itemsD x).length < 1000
theorem enumD_at {ds : List D} {i : Nat} {d : D} (hd : (enumD ds)[i]? = some d) : ∃ c, ds[i]? = some c ∧ d = .tup [.int (i : Int), c] := by
  unfold enumD at hd
  rw [List.getElem?_mapIdx] at hd
  cases e : ds[i]? with
  | none => rw [e] at hd; cases hd
  | some c => rw [e] at hd; exact ⟨c, rfl, (Option.some.inj hd).symm⟩
theorem mapIdx_map {α β γ : Type} (f : Nat → α → β) (g : β → γ) (l : List α) : (l.mapIdx f).map g = l.mapIdx fun i a => g (f i a) := by
  apply List.ext_getElem?
  intro i
  rw [List.getElem?_map, List.getElem?_mapIdx, List.getElem?_mapIdx, Option.map_map]
  rfl
theorem lt1000 {n : Nat} (h : n < 1000) : n < sizeLine := Nat.lt_of_lt_of_le h (by decide)
/-! ### are_parents -/
def areP (x : D) : Bool := isT x && decide ((itemsD x).length ≤ 12) && (itemsD x).all isW && ((itemsD x).mapIdx fun k d => decide (0 ≤ intOf d) && decide (intOf d ≤ (k : Int))).all id
def S_are_parents : SpD := fun ds M Q => ∃ x, ds = [x] ∧ Ok x ∧ Q (.bl (areP x)) M
theorem d_are_parents {t : Tok} (F : Df K mg "are_parents" s_are_parents ["value"]) (B : Blt mg) (mMF : mg "MOST_FOLLOWERS" = some (.int 12 t)) (C1 : Cal P w K mg base 1 "is_whole" 1 S_is_whole) : Cal P w K mg base 2 "are_parents" 1 S_are_parents := by
  refine dfn' F sc_are_parents rfl fun f cdv A outer s H E ds M Q hr hl hs => ?_
  obtain ⟨x, rfl, ⟨hp, hz⟩, q⟩ := hs
  have nd := sc_are_parents.nd
  refine wss_cons (ws_ifE (ww_pt (ew_or (q := decide (12 < ((itemsD x).length : Int)) || !(itemsD x).all isW) (et_not (et_val (ee_isT B.isinstance B.tuple (ee_v 0 rfl) (pl_lk M hp)))) fun h => ?_)) (fun h => ?_) fun h => ?_)
  · obtain ⟨ds, rfl⟩ := isT_of (by simpa using h)
    refine ew_or (et_gt (ee_cb call_len B.len bi_len (ea_cons (ee_v 0 rfl) ea_nil) (cd_lenT ⟨rfl, rfl⟩)) (ee_gi mMF)) fun _ => ww_or1 (et_not (et_val ?_))
    refine ee_cb (cr_all rfl) B.all bi_all (ea_cons (ee_lc1 1 (ds := ds) (fun d => .bl (isW d)) rfl nd (wi_tup (EE.to (ee_v 0 rfl) ⟨ds, rfl, rfl, rfl, trivial⟩)) (lt1000 hz) fun j d hd => fun s H C cl fp => ?_) ea_nil) (cd_all (bs := ds.map isW) (.inl (by rw [List.map_map]; rfl)) ⟨by rw [List.all_map]; rfl, rfl⟩)
    exact we_call C1 hr (EA.to (ea_cons (ee_v 1 rfl) ea_nil) ⟨rfl, d, rfl, pl_lk M (plA_at hp hd), rfl, rfl⟩)
  · refine wss_one (ws_ret (we_bl ?_))
    have e : areP x = false := by
      unfold areP
      cases h1 : isT x with
      | false => rfl
      | true =>
        rw [h1] at h
        simp only [Bool.not_true, Bool.false_or, Bool.or_eq_true, decide_eq_true_eq, Bool.not_eq_true'] at h
        rcases h with h | h
        · have : ¬ (itemsD x).length ≤ 12 := by omega
          rw [decide_eq_false this]
          rfl
        · rw [h, Bool.and_false, Bool.false_and]
    rw [e] at q
    exact q
  · simp only [Bool.or_eq_false_iff, Bool.not_eq_false', decide_eq_false_iff_not] at h
    obtain ⟨h1, h2, h3⟩ := h
    obtain ⟨ds, rfl⟩ := isT_of h1
    have e : areP (.tup ds) = (ds.mapIdx fun k d => decide (0 ≤ intOf d) && decide (intOf d ≤ (k : Int))).all id := by
      unfold areP
      have : (itemsD (.tup ds)).length ≤ 12 := by omega
      rw [h3, decide_eq_true this]
      rfl
    rw [e] at q
    refine wss_nil (wss_one (ws_ret ?_))
    refine ee_cb (cr_all rfl) B.all bi_all (ea_cons (ee_lc2 2 1 (ds := enumD ds) (fun k d => .bl (decide (0 ≤ intOf d) && decide (intOf d ≤ intOf k))) rfl nd (wi_enumT B.enumerate (EA.to (ea_cons (ee_v 0 rfl) ea_nil) ⟨ds, rfl, rfl, rfl, trivial⟩)) ?_ fun l d hd => ?_) ea_nil) (cd_all (bs := ds.mapIdx fun k d => decide (0 ≤ intOf d) && decide (intOf d ≤ (k : Int))) (.inl ?_) q)
    · unfold enumD
      rw [List.length_mapIdx]
      exact lt1000 hz
    · obtain ⟨c, hc, rfl⟩ := enumD_at hd
      have hall : isW c = true := List.all_eq_true.mp h3 c (List.mem_of_getElem? hc)
      obtain ⟨i, rfl⟩ := isI_of hall
      exact ⟨_, _, rfl, fun s H C cl fp => ee_le_le ee_int (ee_v 1 rfl) (ee_v 2 rfl)⟩
    · unfold enumD
      rw [mapIdx_map, mapIdx_map]
      rfl
end
end K10
set_option Elab.async false
set_option linter.all false
set_option maxRecDepth 100000
set_option maxHeartbeats 4000000
namespace K10
open PySem L2 PyProof.Rows DL
/-! ### lists of ints -/
theorem getD_at {α : Type} {l : List α} {i : Nat} {d : α} (h : i < l.length) : l.getD i d = l[i] := by simp [List.getD, h]
abbrev tI (ps : List Int) : D := .tup (ps.map .int)
theorem enumD_ints (ps : List Int) : enumD (ps.map D.int) = ps.zipIdx.map fun q => .tup [.int (q.2 : Int), .int q.1] := by
  unfold enumD
  apply List.ext_getElem?
  intro i
  rw [List.getElem?_mapIdx, List.getElem?_map, List.getElem?_map, List.getElem?_zipIdx, Option.map_map, Option.map_map]
  simp only [Nat.zero_add]
  rfl
theorem atI_ints {ps : List Int} {i : Int} (h0 : 0 ≤ i) (h1 : i < ps.length) : atI (ps.map D.int) i = some (.int (ps.getD i.toNat 0)) := by
  have e : i = ((i.toNat : Nat) : Int) := by omega
  have hl : i.toNat < ps.length := by omega
  rw [e]
  refine atI_nat ?_
  rw [List.getElem?_map, List.getElem?_eq_getElem hl, getD_at (by omega)]
  rfl
theorem cut_to {α : Type} {xs : List α} {k : Int} (h0 : 0 ≤ k) (h1 : k ≤ xs.length) : DL.cutD xs none (some k) = xs.take k.toNat := by
  unfold DL.cutD
  have e : k = ((k.toNat : Nat) : Int) := by omega
  rw [e, HT.sIx_nat, HT.sIx_none, List.drop_zero, Nat.sub_zero, ← e, Nat.min_eq_left (by omega)]
theorem cut_from {α : Type} {xs : List α} {k : Int} (h0 : 0 ≤ k) (h1 : k ≤ xs.length) : DL.cutD xs (some k) none = xs.drop k.toNat := by
  unfold DL.cutD
  have e : k = ((k.toNat : Nat) : Int) := by omega
  rw [e, HT.sIx_nat, HT.sIx_none, ← e, Nat.min_eq_left (by omega), ← List.length_drop, List.take_length]
/-- valid parents -/
def Par (ps : List Int) : Prop := ∀ (i : Nat) (p : Int), ps[i]? = some p → 0 ≤ p ∧ p ≤ (i : Int)
theorem Par.at {ps : List Int} (h : Par ps) {k : Nat} (hk : k < ps.length) : 0 ≤ ps.getD k 0 ∧ ps.getD k 0 ≤ (k : Int) := by
  have e : ps[k]? = some ps[k] := List.getElem?_eq_getElem hk
  rw [getD_at hk]
  exact h _ _ e
/-! ### the mirrors -/
def depthN (ps : List Int) : Nat → Nat → Int
  | 0, _ => 0
  | n + 1, k => if k = 0 then 0 else 1 + depthN ps n (ps.getD (k - 1) 0).toNat
def childrenL (ps : List Int) (k : Int) : List Int := (ps.zipIdx.filter fun q => decide (q.1 = k)).map fun q => (q.2 : Int) + 1
def droppedL (ps : List Int) (k : Int) : List Int := ((ps.zipIdx.filter fun q => !decide ((q.2 : Int) + 1 = k)).map fun q => if q.1 = k then ps.getD (k - 1).toNat 0 else q.1).map fun p => if k < p then p - 1 else p
def upL (ps : List Int) (k : Int) : List Int := ps.map fun p => if k ≤ p then p + 1 else p
def putL (ps : List Int) (k : Int) : List Int := (upL ps k).take (k - 1).toNat ++ [ps.getD (k - 1).toNat 0, k] ++ (upL ps k).drop k.toNat
theorem depthN_more {ps : List Int} (hp : Par ps) : ∀ (n m k : Nat), k ≤ n → k ≤ m → k ≤ ps.length → depthN ps n k = depthN ps m k
  | 0, 0, k, _, _, _ => rfl
  | 0, m + 1, k, h, _, _ => by
    have e : k = 0 := by omega
    subst e
    rfl
  | n + 1, 0, k, _, h, _ => by
    have e : k = 0 := by omega
    subst e
    rfl
  | n + 1, m + 1, k, h1, h2, h3 => by
    show (if k = 0 then 0 else 1 + depthN ps n (ps.getD (k - 1) 0).toNat) = if k = 0 then 0 else 1 + depthN ps m (ps.getD (k - 1) 0).toNat
    by_cases e : k = 0
    · rw [if_pos e, if_pos e]
    · have a := hp.at (k := k - 1) (by omega)
      rw [if_neg e, if_neg e, depthN_more hp n m _ (by omega) (by omega) (by omega)]
section
variable {P : Program} {w : World} {K : PySem.W.Frag} {mg : Str → Option Value} {base : Heap}
/-! ### depth_in -/
def S_depth_in : SpD := fun ds M Q => ∃ (ps : List Int) (k : Int), ds = [tI ps, .int k] ∧ Par ps ∧ 0 ≤ k ∧ k ≤ ps.length ∧ Q (.int (depthN ps k.toNat k.toNat)) M
theorem d_depth_in (F : Df K mg "depth_in" s_depth_in ["parents", "k"]) : Cal P w K mg base 1 "depth_in" 2 S_depth_in := by
  refine dfn' F sc_depth_in rfl fun f cdv A outer s H E ds M Q hr hl hs => ?_
  obtain ⟨ps, k, rfl, hp, h0, h1, q⟩ := hs
  have nd := sc_depth_in.nd
  refine wss_cons (ws_set 2 nd (EE.to ee_int ?_))
  refine wss_cons (ws_while PassesOwn.never (fun m sg1 M1 => ∃ j c : Int, m = j.toNat ∧ 0 ≤ j ∧ j ≤ ps.length ∧ sg1 = [some (tI ps), some (.int j), some (.int c)] ∧ M1 = M ∧ c + depthN ps j.toNat j.toNat = depthN ps k.toNat k.toNat) ⟨_, k, 0, rfl, h0, h1, rfl, rfl, by omega⟩ fun m sg1 M1 ⟨j, c, e1, j0, j1, e2, e3, e4⟩ => ?_)
  subst e1; subst e2; subst e3
  refine ET.to (et_gt (ee_v 1 rfl) ee_int) ⟨fun h => ?_, fun h => ?_⟩
  · have hj : 0 < j := of_decide_eq_true h
    have a := hp.at (k := (j - 1).toNat) (by omega)
    refine wss_one (ws_par 1 2 rfl nd (EA.to (ea_cons (ee_ix ix_tup (ee_v 0 rfl) (ee_sub (ee_v 1 rfl) ee_int) (od_ixT (atI_ints (by omega) (by omega)) ⟨rfl, rfl⟩)) (ea_cons (ee_add (ee_v 2 rfl) ee_int) ea_nil)) ⟨_, _, rfl, _, ?_, _, _, rfl, a.1, by omega, rfl, rfl, ?_⟩))
    · omega
    · rw [← e4]
      have e5 : j.toNat = (j.toNat - 1) + 1 := by omega
      have e6 : depthN ps j.toNat j.toNat = 1 + depthN ps (j.toNat - 1) (ps.getD (j.toNat - 1) 0).toNat := by
        rw [e5]
        show (if (j.toNat - 1) + 1 = 0 then (0 : Int) else _) = _
        rw [if_neg (by omega)]
        rfl
      have e7 : (j - 1).toNat = j.toNat - 1 := by omega
      rw [e6, e7, depthN_more hp (j.toNat - 1) (ps.getD (j.toNat - 1) 0).toNat _ (by rw [e7] at a; omega) (Nat.le_refl _) (by rw [e7] at a; omega)]
      omega
  · have hj : ¬ 0 < j := of_decide_eq_false h
    have ej : j = 0 := by omega
    subst ej
    refine wss_one (ws_ret (EE.to (ee_v 2 rfl) ?_))
    have e : c = depthN ps k.toNat k.toNat := by rw [← e4]; show c = c + 0; omega
    rw [e]
    exact q
/-! ### children_in -/
def S_children_in : SpD := fun ds M Q => ∃ (ps : List Int) (k : Int), ds = [tI ps, .int k] ∧ ps.length < 1000 ∧ Q (tI (childrenL ps k)) M
theorem d_children_in (F : Df K mg "children_in" s_children_in ["parents", "k"]) (B : Blt mg) : Cal P w K mg base 1 "children_in" 2 S_children_in := by
  refine dfn' F sc_children_in rfl fun f cdv A outer s H E ds M Q hr hl hs => ?_
  obtain ⟨ps, k, rfl, hz, q⟩ := hs
  have nd := sc_children_in.nd
  refine wss_one (ws_ret (ee_ct call_tuple_of B.tuple bi_tuple (ea_cons (ee_lc2if 2 3 (ds := enumD (ps.map .int)) (fun a b => decide (intOf b = k)) (fun a b => .int (intOf a + 1)) rfl nd (wi_enumT B.enumerate (EA.to (ea_cons (ee_v 0 rfl) ea_nil) ⟨_, rfl, rfl, rfl, trivial⟩)) ?_ fun l d hd => ?_) ea_nil) (cd_tupL (.inl rfl) ?_)))
  · unfold enumD
    rw [List.length_mapIdx, List.length_map]
    exact lt1000 hz
  · obtain ⟨c, hc, rfl⟩ := enumD_at hd
    rw [List.getElem?_map] at hc
    cases e : ps[l]? with
    | none => rw [e] at hc; cases hc
    | some p =>
      rw [e] at hc
      cases hc
      exact ⟨_, _, rfl, fun s H C cl fp => et_eqI (ee_v 3 rfl) (ee_v 1 rfl), fun _ s H C cl fp => ee_add (ee_v 2 rfl) ee_int⟩
  · have e : ((enumD (ps.map .int)).filter fun d => (fun a b => decide (intOf b = k)) (fstD d) (sndD d)).map (fun d => (fun a b => D.int (intOf a + 1)) (fstD d) (sndD d)) = (childrenL ps k).map .int := by
      rw [enumD_ints, List.filter_map, List.map_map]
      unfold childrenL
      rw [List.map_map]
      rfl
    rw [e]
    exact q
/-! ### can_tell, can_drop -/
def S_can_tell : SpD := fun ds M Q => ∃ a b c : Int, ds = [.int a, .int b, .int c] ∧ Q (.bl (decide (a - b ≤ c) && decide (c ≤ a))) M
theorem d_can_tell (F : Df K mg "can_tell" s_can_tell ["moment", "keep", "other"]) : Cal P w K mg base 1 "can_tell" 3 S_can_tell := by
  refine dfn' F sc_can_tell rfl fun f cdv A outer s H E ds M Q hr hl hs => ?_
  obtain ⟨a, b, c, rfl, q⟩ := hs
  exact wss_one (ws_ret (EE.to (ee_le_le (ee_sub (ee_v 0 rfl) (ee_v 1 rfl)) (ee_v 2 rfl) (ee_v 0 rfl)) q))
def canDrop (ps ms : List Int) (keep k : Int) : Bool := (childrenL ps k).all fun c => decide (ms.getD (ps.getD (k - 1).toNat 0).toNat 0 - keep ≤ ms.getD c.toNat 0) && decide (ms.getD c.toNat 0 ≤ ms.getD (ps.getD (k - 1).toNat 0).toNat 0)
theorem children_le {ps : List Int} {k c : Int} (h : c ∈ childrenL ps k) : 1 ≤ c ∧ c ≤ ps.length := by
  unfold childrenL at h
  obtain ⟨q, hq, rfl⟩ := List.mem_map.mp h
  have h2 := (List.mem_filter.mp hq).1
  have h3 := List.mem_zipIdx h2
  omega
theorem children_len (ps : List Int) (k : Int) : (childrenL ps k).length ≤ ps.length := by
  unfold childrenL
  rw [List.length_map]
  have := List.length_filter_le (fun q : Int × Nat => decide (q.1 = k)) ps.zipIdx
  rw [List.length_zipIdx] at this
  exact this
def S_can_drop : SpD := fun ds M Q => ∃ (ps ms : List Int) (keep k : Int), ds = [tI ps, tI ms, .int keep, .int k] ∧ Par ps ∧ ps.length < 1000 ∧ ms.length = ps.length + 1 ∧ 1 ≤ k ∧ k ≤ ps.length ∧ Q (.bl (canDrop ps ms keep k)) M
theorem d_can_drop (F : Df K mg "can_drop" s_can_drop ["parents", "moments", "keep", "k"]) (B : Blt mg) (C1 : Cal P w K mg base 1 "can_tell" 3 S_can_tell) (C2 : Cal P w K mg base 1 "children_in" 2 S_children_in) : Cal P w K mg base 2 "can_drop" 4 S_can_drop := by
  refine dfn' F sc_can_drop rfl fun f cdv A outer s H E ds M Q hr hl hs => ?_
  obtain ⟨ps, ms, keep, k, rfl, hp, hz, hm, h1, h2, q⟩ := hs
  have nd := sc_can_drop.nd
  have a := hp.at (k := (k - 1).toNat) (by omega)
  refine wss_cons (ws_set 4 nd (ee_ix ix_tup (ee_v 1 rfl) (ee_ix ix_tup (ee_v 0 rfl) (ee_sub (ee_v 3 rfl) ee_int) (od_ixT (atI_ints (by omega) (by omega)) ⟨rfl, rfl⟩)) (od_ixT (atI_ints a.1 (by omega)) ?_)))
  refine wss_one (ws_ret (ee_cb (cr_all rfl) B.all bi_all (ea_cons (ee_lc1 5 (ds := (childrenL ps k).map .int) (fun d => .bl (decide (ms.getD (ps.getD (k - 1).toNat 0).toNat 0 - keep ≤ ms.getD (intOf d).toNat 0) && decide (ms.getD (intOf d).toNat 0 ≤ ms.getD (ps.getD (k - 1).toNat 0).toNat 0))) rfl nd (wi_tup (we_call C2 hr (EA.to (ea_cons (ee_v 0 rfl) (ea_cons (ee_v 3 rfl) ea_nil)) ⟨rfl, ps, k, rfl, hz, _, rfl, rfl, rfl, trivial⟩))) ?_ fun j d hd s H C cl fp => ?_) ea_nil) (cd_all (bs := (childrenL ps k).map fun c => decide (ms.getD (ps.getD (k - 1).toNat 0).toNat 0 - keep ≤ ms.getD c.toNat 0) && decide (ms.getD c.toNat 0 ≤ ms.getD (ps.getD (k - 1).toNat 0).toNat 0)) (.inl ?_) ?_)))
  · rw [List.length_map]
    have := children_len ps k
    exact lt1000 (by omega)
  · rw [List.getElem?_map] at hd
    cases e : (childrenL ps k)[j]? with
    | none => rw [e] at hd; cases hd
    | some c =>
      rw [e] at hd
      cases hd
      have hc := children_le (List.mem_of_getElem? e)
      exact we_call C1 hr (EA.to (ea_cons (ee_v 4 rfl) (ea_cons (ee_v 2 rfl) (ea_cons (ee_ix ix_tup (ee_v 1 rfl) (ee_v 5 rfl) (od_ixT (atI_ints (by omega) (by omega)) ⟨rfl, rfl⟩)) ea_nil))) ⟨rfl, _, _, _, rfl, rfl, rfl⟩)
  · rw [List.map_map, List.map_map]
    rfl
  · rw [List.all_map]
    exact q
end
end K10
set_option Elab.async false
set_option linter.all false
set_option maxRecDepth 100000
set_option maxHeartbeats 4000000
namespace K10
open PySem L2 PyProof.Rows DL
theorem at_map {α β : Type} {f : α → β} {l : List α} {i : Nat} {d : β} (h : (l.map f)[i]? = some d) : ∃ a, l[i]? = some a ∧ d = f a := by
  rw [List.getElem?_map] at h
  cases e : l[i]? with
  | none => rw [e] at h; cases h
  | some a => rw [e] at h; exact ⟨a, rfl, (Option.some.inj h).symm⟩
theorem dec_not (p : Prop) [Decidable p] : (!decide p) = decide (¬ p) := by by_cases h : p <;> simp [h]
section
variable {P : Program} {w : World} {K : PySem.W.Frag} {mg : Str → Option Value} {base : Heap}
/-! ### dropped -/
theorem dropped_len (ps : List Int) (k : Int) : (droppedL ps k).length ≤ ps.length := by
  unfold droppedL
  rw [List.length_map, List.length_map]
  have := List.length_filter_le (fun q : Int × Nat => !decide ((q.2 : Int) + 1 = k)) ps.zipIdx
  rw [List.length_zipIdx] at this
  exact this
def S_dropped : SpD := fun ds M Q => ∃ (ps : List Int) (k : Int), ds = [tI ps, .int k] ∧ ps.length < 1000 ∧ 1 ≤ k ∧ k ≤ ps.length ∧ Q (tI (droppedL ps k)) M
theorem d_dropped (F : Df K mg "dropped" s_dropped ["parents", "k"]) (B : Blt mg) : Cal P w K mg base 1 "dropped" 2 S_dropped := by
  refine dfn' F sc_dropped rfl fun f cdv A outer s H E ds M Q hr hl hs => ?_
  obtain ⟨ps, k, rfl, hz, h1, h2, q⟩ := hs
  have nd := sc_dropped.nd
  refine wss_cons (ws_set 2 nd (ee_ix ix_tup (ee_v 0 rfl) (ee_sub (ee_v 1 rfl) ee_int) (od_ixT (atI_ints (by omega) (by omega)) ?_)))
  refine wss_cons (ws_setLcE 3 [("child", 4), ("parent", 5)] rfl nd (wi_enumT B.enumerate (EA.to (ea_cons (ee_v 0 rfl) ea_nil) ⟨_, rfl, rfl, rfl, trivial⟩)) (LcOk.to (ok_lc2if 4 5 (ds := enumD (ps.map .int)) (fun a b => !decide (intOf a + 1 = k)) (fun a b => .int (if intOf b = k then ps.getD (k - 1).toNat 0 else intOf b)) rfl nd ?_ fun l d hd => ?_) ?_))
  · unfold enumD
    rw [List.length_mapIdx, List.length_map]
    exact lt1000 hz
  · obtain ⟨c, hc, rfl⟩ := enumD_at hd
    obtain ⟨p, hp, rfl⟩ := at_map hc
    refine ⟨_, _, rfl, fun s H C cl fp => et_neI (ee_add (ee_v 4 rfl) ee_int) (ee_v 1 rfl), fun _ s H C cl fp => ee_if (et_eqI (ee_v 5 rfl) (ee_v 1 rfl)) (fun h => (ee_v 2 rfl).is ?_) (fun h => (ee_v 5 rfl).is ?_)⟩
    · rw [if_pos (show intOf (.int p) = k from of_decide_eq_true h)]
    · rw [if_neg (show ¬ intOf (.int p) = k from of_decide_eq_false h)]
      rfl
  · have e : ((enumD (ps.map .int)).filter fun d => (fun a b => !decide (intOf a + 1 = k)) (fstD d) (sndD d)).map (fun d => (fun a b => D.int (if intOf b = k then ps.getD (k - 1).toNat 0 else intOf b)) (fstD d) (sndD d)) = ((ps.zipIdx.filter fun q => !decide ((q.2 : Int) + 1 = k)).map fun q => if q.1 = k then ps.getD (k - 1).toNat 0 else q.1).map .int := by
      rw [enumD_ints, List.filter_map, List.map_map, List.map_map]
      rfl
    rw [e]
    generalize hL : ((ps.zipIdx.filter fun q => !decide ((q.2 : Int) + 1 = k)).map fun q => if q.1 = k then ps.getD (k - 1).toNat 0 else q.1) = L
    have hz2 : L.length < 1000 := by
      have := dropped_len ps k
      unfold droppedL at this
      rw [List.length_map, hL] at this
      omega
    refine wss_one (ws_ret (ee_ct call_tuple_of B.tuple bi_tuple (ea_cons (ee_lc1 5 (ds := L.map .int) (fun d => .int (if k < intOf d then intOf d - 1 else intOf d)) rfl nd (wi_lst (EE.to (ee_v 3 rfl) ⟨_, .inl rfl, rfl, rfl, .inl rfl⟩)) (by rw [List.length_map]; exact lt1000 hz2) fun j d hd s H C cl fp => ?_) ea_nil) (cd_tupL (.inl rfl) ?_)))
    · obtain ⟨p, hp, rfl⟩ := at_map hd
      refine ee_if (et_gt (ee_v 5 rfl) (ee_v 1 rfl)) (fun h => (ee_sub (ee_v 5 rfl) ee_int).is ?_) (fun h => (ee_v 5 rfl).is ?_)
      · rw [if_pos (show k < intOf (.int p) from of_decide_eq_true h)]
        rfl
      · rw [if_neg (show ¬ k < intOf (.int p) from of_decide_eq_false h)]
        rfl
    · have e : (L.map D.int).map (fun d => D.int (if k < intOf d then intOf d - 1 else intOf d)) = (droppedL ps k).map .int := by
        unfold droppedL
        rw [hL, List.map_map, List.map_map]
        rfl
      rw [e]
      exact q
/-! ### put_in -/
theorem put_len {ps : List Int} {k : Int} (h1 : 1 ≤ k) (h2 : k ≤ ps.length) : (putL ps k).length = ps.length + 1 := by
  unfold putL upL
  rw [List.length_append, List.length_append, List.length_take, List.length_drop, List.length_map]
  show min (k - 1).toNat ps.length + 2 + (ps.length - k.toNat) = ps.length + 1
  omega
def S_put_in : SpD := fun ds M Q => ∃ (ps : List Int) (k : Int), ds = [tI ps, .int k] ∧ ps.length < 1000 ∧ 1 ≤ k ∧ k ≤ ps.length ∧ Q (tI (putL ps k)) M
theorem d_put_in (F : Df K mg "put_in" s_put_in ["parents", "k"]) (B : Blt mg) : Cal P w K mg base 1 "put_in" 2 S_put_in := by
  refine dfn' F sc_put_in rfl fun f cdv A outer s H E ds M Q hr hl hs => ?_
  obtain ⟨ps, k, rfl, hz, h1, h2, q⟩ := hs
  have nd := sc_put_in.nd
  refine wss_cons (ws_setLcE 2 [("parent", 3)] rfl nd (wi_tup (EE.to (ee_v 0 rfl) ⟨_, rfl, rfl, rfl, trivial⟩)) (LcOk.to (ok_lc1 3 (ds := ps.map .int) (fun d => .int (if k ≤ intOf d then intOf d + 1 else intOf d)) rfl nd (by rw [List.length_map]; exact lt1000 hz) fun j d hd s H C cl fp => ?_) ?_))
  · obtain ⟨p, hp, rfl⟩ := at_map hd
    refine ee_if (et_ge (ee_v 3 rfl) (ee_v 1 rfl)) (fun h => (ee_add (ee_v 3 rfl) ee_int).is ?_) (fun h => (ee_v 3 rfl).is ?_)
    · rw [if_pos (show k ≤ intOf (.int p) from of_decide_eq_true h)]
      rfl
    · rw [if_neg (show ¬ k ≤ intOf (.int p) from of_decide_eq_false h)]
      rfl
  · have e : (ps.map D.int).map (fun d => D.int (if k ≤ intOf d then intOf d + 1 else intOf d)) = (upL ps k).map .int := by
      unfold upL
      rw [List.map_map, List.map_map]
      rfl
    rw [e]
    have lu : (upL ps k).length = ps.length := by unfold upL; rw [List.length_map]
    have lm : ((upL ps k).map D.int).length = ps.length := by rw [List.length_map, lu]
    refine wss_one (ws_ret (ee_ct call_tuple_of B.tuple bi_tuple (ea_cons (ee_op op_cat (ee_op op_cat (ee_sl sl_list (ee_v 2 rfl) eo_none (eo_some (ee_sub (ee_v 1 rfl) ee_int)) (sd_lst (.inl rfl) ⟨rfl, rfl⟩)) (ee_lst (ea_cons (ee_ix ix_tup (ee_v 0 rfl) (ee_sub (ee_v 1 rfl) ee_int) (od_ixT (atI_ints (by omega) (by omega)) ⟨rfl, rfl⟩)) (ea_cons (ee_v 1 rfl) ea_nil))) (od_cat (.inl rfl) (.inl rfl) ?_ ⟨rfl, rfl⟩)) (ee_sl sl_list (ee_v 2 rfl) (eo_some (ee_v 1 rfl)) eo_none (sd_lst (.inl rfl) ⟨rfl, rfl⟩)) (od_cat (.inl rfl) (.inl rfl) ?_ ⟨rfl, rfl⟩)) ea_nil) (cd_tupL (.inl rfl) ?_)))
    · rw [cut_to (by omega) (by omega), List.length_take, lm]
      exact small30 (by show min _ _ + 2 ≤ 1000; omega)
    · rw [cut_to (by omega) (by omega), cut_from (by omega) (by omega), List.length_append, List.length_take, List.length_drop, lm]
      exact Nat.le_trans (show _ ≤ 3000 by show min _ _ + 2 + _ ≤ 3000; omega) (by decide)
    · have e2 : DL.cutD ((upL ps k).map D.int) none (some (k - 1)) ++ [D.int (ps.getD (k - 1).toNat 0), D.int k] ++ DL.cutD ((upL ps k).map D.int) (some k) none = (putL ps k).map .int := by
        rw [cut_to (by omega) (by omega), cut_from (by omega) (by omega)]
        unfold putL
        rw [List.map_append, List.map_append, List.map_take, List.map_drop]
        rfl
      rw [e2]
      exact q
/-! ### even_moment -/
def evenM (t d l s : Int) : Int := max 0 (min s (t + 1 - d * l))
def S_even_moment : SpD := fun ds M Q => ∃ t d l s : Int, ds = [.int t, .int d, .int l, .int s] ∧ (0 ≤ d ∧ d < 1000) ∧ Q (.int (evenM t d l s)) M
theorem d_even_moment (F : Df K mg "even_moment" s_even_moment ["tick", "depth", "d", "size"]) (B : Blt mg) : Cal P w K mg base 1 "even_moment" 4 S_even_moment := by
  refine dfn' F sc_even_moment rfl fun f cdv A outer s H E ds M Q hr hl hs => ?_
  obtain ⟨t, d, l, s, rfl, hd, q⟩ := hs
  refine wss_one (ws_ret (ee_cb (call_max2 rfl) B.max bi_max (ea_cons ee_int (ea_cons (ee_cb (call_min2 rfl) B.min bi_min (ea_cons (ee_v 3 rfl) (ea_cons (ee_sub (ee_add (ee_v 0 rfl) ee_int) (ee_mul (ee_v 1 rfl) (ee_v 2 rfl) (.inl ⟨by omega, by omega⟩))) ea_nil)) (cd_min2 ⟨rfl, rfl⟩)) ea_nil)) (cd_max2 ?_)))
  have e : (if (if t + 1 - d * l < s then t + 1 - d * l else s) > 0 then (if t + 1 - d * l < s then t + 1 - d * l else s) else 0) = evenM t d l s := by
    unfold evenM
    generalize t + 1 - d * l = z
    split <;> split <;> omega
  rw [e]
  exact q
end
end K10
set_option Elab.async false
set_option linter.all false
set_option maxRecDepth 100000
set_option maxHeartbeats 4000000
namespace K10
open PySem L2 PyProof.Rows DL
theorem updM_upd {M : Mem} {p : Addr} {a b : Option MO} : updM (updM M p a) p b = updM M p b := by
  funext q
  unfold updM
  split <;> rfl
theorem updM_id {M : Mem} {p : Addr} {a : Option MO} (h : M p = a) : updM M p a = M := by
  funext q
  unfold updM
  split
  · rename_i e; rw [e, h]
  · rfl
/-- the tape's list -/
def TpO (o : MO) : Prop := ∃ (cs : List Int) (i a b : Int), o = .lst [.lst (cs.map .int), .int i, .int a, .int b] ∧ 0 ≤ i
def Tp (M : Mem) (p : Addr) : Prop := ∃ o, M p = some o ∧ TpO o
section
variable {P : Program} {w : World} {K : PySem.W.Frag} {mg : Str → Option Value} {base : Heap}
/-! ### _law_mix -/
def S_mix : SpD := fun ds M Q => ∃ n, ds = [.int n] ∧ ∀ r, Q (.int r) M
theorem d_mix (F : Df K mg "_law_mix" s_law_mix ["number"]) (B : Blt mg) : Cal P w K mg base 1 "_law_mix" 1 S_mix := by
  refine dfn' F sc_law_mix rfl fun f cdv A outer s H E ds M Q hr hl hs => ?_
  obtain ⟨n, rfl, q⟩ := hs
  have nd := sc_law_mix.nd
  refine wss_cons (ws_set 0 nd (EE.to (ee_mod (ee_ct call_int1 B.int bi_int (ea_cons (ee_add (ee_mul (ee_v 0 rfl) ee_int (.inr ⟨by decide, by decide⟩)) ee_int) ea_nil) (cd_int ⟨rfl, rfl⟩)) ee_int (by decide)) ?_))
  generalize hm : (n * 6364136223846793005 + 1442695040888963407) % 18446744073709551616 = m
  have m0 : 0 ≤ m := by rw [← hm]; exact Int.emod_nonneg _ (by decide)
  have m1 : m < 18446744073709551616 := by rw [← hm]; exact Int.emod_lt_of_pos _ (by decide)
  exact wss_one (ws_ret (EE.to (ee_mod (ee_ct call_int1 B.int bi_int (ea_cons (ee_add (ee_op op_fdivW (ee_mul (ee_v 0 rfl) (ee_v 0 rfl) (.inl ⟨by omega, by omega⟩)) ee_int (od_I (wide_div (b := 40) (by decide) (by decide) (by decide) (by decide)) ⟨rfl, rfl⟩)) (ee_mul (ee_v 0 rfl) ee_int (.inl ⟨by omega, by omega⟩))) ea_nil) (cd_int ⟨rfl, rfl⟩)) ee_int (by decide)) (q _)))
/-! ### _law_tape -/
def S_tape : SpD := fun ds M Q => ∃ ns : List Int, ds = [.scr ns] ∧ ns.length ≤ 63 ∧ ∀ p o, M p = none → TpO o → Q (.ptr p) (updM M p (some o))
theorem d_tape (F : Df K mg "_law_tape" s_law_tape ["script"]) (B : Blt mg) : Cal P w K mg base 1 "_law_tape" 1 S_tape := by
  refine dfn' F sc_law_tape rfl fun f cdv A outer s H E ds M Q hr hl hs => ?_
  obtain ⟨ns, rfl, hn, q⟩ := hs
  refine wss_one (ws_ret (we_lstM (EA.to (ea_cons (ee_ct call_list_of B.list bi_list (ea_cons (ee_sl sl_list (ee_v 0 rfl) eo_none (eo_some ee_int) (sd_scr ⟨rfl, rfl⟩)) ea_nil) (cd_lst (.inr (.inl rfl)) ⟨rfl, rfl⟩)) (ea_cons ee_int (ea_cons ee_int (ea_cons (ee_add ee_int (ee_cb call_len B.len bi_len (ea_cons (ee_v 0 rfl) ea_nil) (cd_lenC ⟨rfl, rfl⟩))) ea_nil)))) ⟨by exact small30, fun p hp => q p _ hp ⟨_, _, _, _, rfl, Int.le_refl 0⟩⟩)))
/-! ### _law_take -/
def S_take : SpD := fun ds M Q => ∃ (p : Addr) (m : Int), ds = [.ptr p, .int m] ∧ Tp M p ∧ 0 < m ∧ m < 1000000 ∧ ∀ r o, 0 ≤ r → r < m → TpO o → Q (.int r) (updM M p (some o))
theorem d_take (F : Df K mg "_law_take" s_law_take ["tape", "many"]) (B : Blt mg) (C1 : Cal P w K mg base 1 "_law_mix" 1 S_mix) : Cal P w K mg base 2 "_law_take" 2 S_take := by
  refine dfn' F sc_law_take rfl fun f cdv A outer s H E ds M Q hr hl hs => ?_
  obtain ⟨p, m, rfl, ⟨o, hM, ho⟩, m0, m1, q⟩ := hs
  have nd := sc_law_take.nd
  -- behind the if
  have rest : ∀ (c : Option D) (o1 : MO), TpO o1 → WSs (cxOf CX0 P w K mg base ["tape", "many", "cell", "digit"] "_law_take" (defScope s_law_take) f cdv A outer s H E).nox ((defBody s_law_take).drop 1) [some (.ptr p), some (.int m), c, none] (updM M p (some o1)) { nx := fun _ M' => Q .non M', rt := Q } := fun c o1 h1 => by
    obtain ⟨cs, i, a, b, rfl, hi⟩ := h1
    have h2 : updM M p (some (.lst [.lst (cs.map .int), .int i, .int a, .int b])) p = some (.lst [.lst (cs.map .int), .int i, .int a, .int b]) := updM_same
    refine wss_cons (ws_set 3 nd (EE.to (ee_mod (ee_ct call_int1 B.int bi_int (ea_cons (ee_ix ix_list (ee_v 0 rfl) ee_int (od_ixL (.inr ⟨p, rfl, h2⟩) rfl ⟨rfl, rfl⟩)) ea_nil) (cd_int ⟨rfl, rfl⟩)) (ee_v 1 rfl) m0) ?_))
    refine wss_cons (ws_sub set_list (EE.to (ee_fdiv (ee_ix ix_list (ee_v 0 rfl) ee_int (od_ixL (.inr ⟨p, rfl, h2⟩) rfl ⟨rfl, rfl⟩)) (ee_v 1 rfl) ⟨m0, by omega⟩) (EE.to (ee_v 0 rfl) (EE.to ee_int (sd_setL h2 rfl ?_)))))
    rw [updM_upd]
    refine wss_one (ws_ret (EE.to (ee_v 3 rfl) (q _ _ (Int.emod_nonneg _ (by omega)) (Int.emod_lt_of_pos _ m0) ⟨cs, i, a / m, b, rfl, hi⟩)))
  obtain ⟨cs, i, a, b, rfl, hi⟩ := id ho
  refine wss_cons (ws_ifE (et_lt (ee_ix ix_list (ee_v 0 rfl) ee_int (od_ixL (.inr ⟨p, rfl, hM⟩) rfl ⟨rfl, rfl⟩)) (ee_v 1 rfl)) (fun _ => ?_) fun _ => ?_)
  · refine wss_one (ws_ifE (et_lt (ee_ix ix_list (ee_v 0 rfl) ee_int (od_ixL (.inr ⟨p, rfl, hM⟩) rfl ⟨rfl, rfl⟩)) (ee_cb call_len B.len bi_len (ea_cons (ee_ix ix_list (ee_v 0 rfl) ee_int (od_ixL (.inr ⟨p, rfl, hM⟩) rfl ⟨rfl, rfl⟩)) ea_nil) (cd_lenL (.inl rfl) ⟨rfl, rfl⟩))) (fun h => ?_) fun _ => ?_)
    · have hlt : i < cs.length := by
        have := of_decide_eq_true h
        rw [List.length_map] at this
        exact this
      refine wss_cons (ws_set 2 nd (EE.to (ee_ix ix_list (ee_ix ix_list (ee_v 0 rfl) ee_int (od_ixL (.inr ⟨p, rfl, hM⟩) rfl ⟨rfl, rfl⟩)) (ee_ix ix_list (ee_v 0 rfl) ee_int (od_ixL (.inr ⟨p, rfl, hM⟩) rfl ⟨rfl, rfl⟩)) (od_ixL (.inl rfl) (atI_ints hi hlt) ⟨rfl, rfl⟩)) ?_))
      generalize cs.getD i.toNat 0 = c0
      refine wss_cons (ws_set 2 nd (WE.imp (Q := fun d M1 => (∃ c, d = .int c) ∧ M1 = M) (we_if (ET.to (et_ge (ee_v 2 rfl) ee_int) ⟨fun _ => EE.to (ee_mul ee_int (ee_v 2 rfl) (.inl ⟨by decide, by decide⟩)) ⟨⟨_, rfl⟩, rfl⟩, fun _ => EE.to (ee_sub (ee_mul (ee_neg ee_int) (ee_v 2 rfl) (.inl ⟨by decide, by decide⟩)) ee_int) ⟨⟨_, rfl⟩, rfl⟩⟩)) fun d M1 ⟨⟨c, e1⟩, e2⟩ => ?_))
      subst e1; subst e2
      refine wss_cons (ws_sub set_list (EE.to (ee_add (ee_ix ix_list (ee_v 0 rfl) ee_int (od_ixL (.inr ⟨p, rfl, hM⟩) rfl ⟨rfl, rfl⟩)) ee_int) (EE.to (ee_v 0 rfl) (EE.to ee_int (sd_setL hM rfl ?_)))))
      have h2 : updM M1 p (some (.lst [.lst (cs.map .int), .int (i + 1), .int a, .int b])) p = some (.lst [.lst (cs.map .int), .int (i + 1), .int a, .int b]) := updM_same
      refine wss_cons (ws_sub set_list (we_call C1 hr (EA.to (ea_cons (ee_add (ee_ix ix_list (ee_v 0 rfl) ee_int (od_ixL (.inr ⟨p, rfl, h2⟩) rfl ⟨rfl, rfl⟩)) (ee_v 2 rfl)) ea_nil) ⟨rfl, _, rfl, fun r => EE.to (ee_v 0 rfl) (EE.to ee_int (sd_setL h2 rfl ?_))⟩)))
      rw [updM_upd]
      have h3 : updM M1 p (some (.lst [.lst (cs.map .int), .int (i + 1), .int a, .int r])) p = some (.lst [.lst (cs.map .int), .int (i + 1), .int a, .int r]) := updM_same
      refine wss_one (ws_sub set_list (WE.imp (Q := fun d M2 => (∃ c, d = .int c) ∧ M2 = updM M1 p (some (.lst [.lst (cs.map .int), .int (i + 1), .int a, .int r]))) (we_if (ET.to (et_ge (ee_v 2 rfl) (ee_op op_pow ee_int ee_int (od_I ⟨by decide, by decide, by decide⟩ ⟨rfl, rfl⟩))) ⟨fun _ => EE.to (ee_v 2 rfl) ⟨⟨_, rfl⟩, rfl⟩, fun _ => ?_⟩)) fun d M2 ⟨⟨c2, e1⟩, e2⟩ => ?_))
      · refine we_call C1 hr (wa_cons (we_op op_add (Qa := fun d M2 => (∃ c, d = .int c) ∧ M2 = _) (we_call C1 hr (EA.to (ea_cons (ee_v 2 rfl) ea_nil) ⟨rfl, _, rfl, fun r => ⟨⟨r, rfl⟩, rfl⟩⟩)) fun x M3 ⟨⟨c3, e1⟩, e2⟩ => ?_))
        subst e1; subst e2
        exact EE.to (ee_ix ix_list (ee_v 0 rfl) ee_int (od_ixL (.inr ⟨p, rfl, h3⟩) rfl ⟨rfl, rfl⟩)) (od_I0 (wa_nil ⟨rfl, _, rfl, fun r2 => ⟨⟨r2, rfl⟩, rfl⟩⟩))
      · subst e1; subst e2
        refine EE.to (ee_v 0 rfl) (EE.to ee_int (sd_setL h3 rfl ?_))
        rw [updM_upd]
        exact rest _ _ ⟨cs, i + 1, c2, r, rfl, by omega⟩
    · refine wss_cons (ws_sub set_list (we_call C1 hr (EA.to (ea_cons (ee_add (ee_ix ix_list (ee_v 0 rfl) ee_int (od_ixL (.inr ⟨p, rfl, hM⟩) rfl ⟨rfl, rfl⟩)) ee_int) ea_nil) ⟨rfl, _, rfl, fun r => EE.to (ee_v 0 rfl) (EE.to ee_int (sd_setL hM rfl ?_))⟩)))
      have h2 : updM M p (some (.lst [.lst (cs.map .int), .int i, .int a, .int r])) p = some (.lst [.lst (cs.map .int), .int i, .int a, .int r]) := updM_same
      refine wss_one (ws_sub set_list (EE.to (ee_ix ix_list (ee_v 0 rfl) ee_int (od_ixL (.inr ⟨p, rfl, h2⟩) rfl ⟨rfl, rfl⟩)) (EE.to (ee_v 0 rfl) (EE.to ee_int (sd_setL h2 rfl ?_)))))
      rw [updM_upd]
      exact rest _ _ ⟨cs, i, r, r, rfl, hi⟩
  · refine wss_nil ?_
    have e : M = updM M p (some (.lst [.lst (cs.map .int), .int i, .int a, .int b])) := (updM_id hM).symm
    have z := rest none _ ho
    rw [← e] at z
    exact z
end
end K10
set_option Elab.async false
set_option linter.all false
set_option maxRecDepth 100000
set_option maxHeartbeats 4000000
namespace K10
open PySem L2 PyProof.Rows DL
/-! ### plain data of a bounded depth and breadth -/
def wf (L : Nat) : Nat → D → Bool
  | 0, _ => false
  | n + 1, .tup ds => decide (ds.length ≤ L) && ds.all (wf L n)
  | n + 1, .lst ds => decide (ds.length ≤ L) && ds.all (wf L n)
  | _ + 1, .ptr _ => false
  | _ + 1, .scr _ => false
  | _ + 1, _ => true
theorem plA_all : ∀ {ds : List D}, (∀ d ∈ ds, pl d = true) → plA ds = true
  | [], _ => rfl
  | d :: ds, h => Bool.and_eq_true_iff.mpr ⟨h d List.mem_cons_self, plA_all fun x hx => h x (List.mem_cons_of_mem _ hx)⟩
theorem wf_pl {L : Nat} : ∀ {n : Nat} {d : D}, wf L n d = true → pl d = true
  | 0, _, h => by cases h
  | n + 1, .tup ds, h => plA_all fun d hd => wf_pl (List.all_eq_true.mp (Bool.and_eq_true_iff.mp h).2 d hd)
  | n + 1, .lst ds, h => plA_all fun d hd => wf_pl (List.all_eq_true.mp (Bool.and_eq_true_iff.mp h).2 d hd)
  | n + 1, .ptr _, h => by cases h
  | n + 1, .scr _, h => by cases h
  | n + 1, .non, _ => rfl
  | n + 1, .bl _, _ => rfl
  | n + 1, .int _, _ => rfl
  | n + 1, .str _, _ => rfl
theorem wf_mono {L L' : Nat} (hL : L ≤ L') : ∀ {n m : Nat} {d : D}, n ≤ m → wf L n d = true → wf L' m d = true
  | 0, _, _, _, h => by cases h
  | n + 1, 0, _, hm, _ => absurd hm (by omega)
  | n + 1, m + 1, .tup ds, hm, h => by
    have q := Bool.and_eq_true_iff.mp h
    have q1 := of_decide_eq_true q.1
    exact Bool.and_eq_true_iff.mpr ⟨decide_eq_true (by omega), List.all_eq_true.mpr fun d hd => wf_mono hL (by omega) (List.all_eq_true.mp q.2 d hd)⟩
  | n + 1, m + 1, .lst ds, hm, h => by
    have q := Bool.and_eq_true_iff.mp h
    have q1 := of_decide_eq_true q.1
    exact Bool.and_eq_true_iff.mpr ⟨decide_eq_true (by omega), List.all_eq_true.mpr fun d hd => wf_mono hL (by omega) (List.all_eq_true.mp q.2 d hd)⟩
  | n + 1, m + 1, .ptr _, _, h => by cases h
  | n + 1, m + 1, .scr _, _, h => by cases h
  | n + 1, m + 1, .non, _, _ => rfl
  | n + 1, m + 1, .bl _, _, _ => rfl
  | n + 1, m + 1, .int _, _, _ => rfl
  | n + 1, m + 1, .str _, _, _ => rfl
theorem wf_tup {L n : Nat} {ds : List D} (h : wf L (n + 1) (.tup ds) = true) : ds.length ≤ L ∧ ∀ d ∈ ds, wf L n d = true := by
  have q := Bool.and_eq_true_iff.mp h
  exact ⟨of_decide_eq_true q.1, List.all_eq_true.mp q.2⟩
theorem wf_lst {L n : Nat} {ds : List D} (h : wf L (n + 1) (.lst ds) = true) : ds.length ≤ L ∧ ∀ d ∈ ds, wf L n d = true := by
  have q := Bool.and_eq_true_iff.mp h
  exact ⟨of_decide_eq_true q.1, List.all_eq_true.mp q.2⟩
theorem tup_wf {L n : Nat} {ds : List D} (h : ds.length ≤ L) (h2 : ∀ d ∈ ds, wf L n d = true) : wf L (n + 1) (.tup ds) = true := Bool.and_eq_true_iff.mpr ⟨decide_eq_true h, List.all_eq_true.mpr h2⟩
theorem wf_pos {L n : Nat} {d : D} (h : wf L n d = true) : 0 < n := by cases n with | zero => cases h | succ n => omega
theorem wf_tI {L n : Nat} {ps : List Int} (h : ps.length ≤ L) : wf L (n + 2) (tI ps) = true := tup_wf (by rw [List.length_map]; exact h) fun d hd => by
  obtain ⟨p, _, rfl⟩ := List.mem_map.mp hd
  rfl
noncomputable def eqD (a b : D) : Bool := @decide (a = b) (Classical.propDecidable _)
theorem eqD_iff {a b : D} : eqD a b = true ↔ a = b := @decide_eq_true_iff (a = b) (Classical.propDecidable _)
theorem eqD_false {a b : D} : eqD a b = false ↔ ¬ a = b := @decide_eq_false_iff_not (a = b) (Classical.propDecidable _)
theorem eqD_of {a b : D} {r : Bool} (h : r = true ↔ a = b) : r = eqD a b := by
  rw [Bool.eq_iff_iff, h, eqD_iff]
theorem eq_lists {as bs : List D} : (decide ((as.length : Int) = (bs.length : Int)) && ((List.range as.length).map fun j => eqD (as.getD j .non) (bs.getD j .non)).all id) = true ↔ as = bs := by
  rw [Bool.and_eq_true, decide_eq_true_eq]
  constructor
  · intro ⟨hl, h⟩
    have hl' : as.length = bs.length := by omega
    apply List.ext_getElem hl'
    intro i h1 h2
    rw [List.all_map, List.all_eq_true] at h
    have q := eqD_iff.mp (h i (List.mem_range.mpr h1))
    rw [getD_at h1, getD_at h2] at q
    exact q
  · intro e
    subst e
    refine ⟨rfl, ?_⟩
    rw [List.all_map, List.all_eq_true]
    intro i _
    exact eqD_iff.mpr rfl
theorem rngD_at {lo : Int} {n j : Nat} {d : D} (h : (rngD lo n)[j]? = some d) : j < n ∧ d = .int (lo + (j : Int)) := by
  unfold rngD at h
  obtain ⟨a, ha, rfl⟩ := at_map h
  rw [List.getElem?_range (by
    have := (List.getElem?_eq_some_iff.mp ha).1
    rw [List.length_range] at this
    exact this)] at ha
  have e := Option.some.inj ha
  subst e
  have := (List.getElem?_eq_some_iff.mp h).1
  rw [List.length_map, List.length_range] at this
  exact ⟨this, rfl⟩
theorem rngD_len {lo : Int} {n : Nat} : (rngD lo n).length = n := by unfold rngD; rw [List.length_map, List.length_range]
theorem atI_of {ds : List D} {j : Nat} (h : j < ds.length) : atI ds (0 + (j : Int)) = some (ds.getD j .non) := by
  rw [Int.zero_add, getD_at h]
  exact atI_nat (List.getElem?_eq_getElem h)
theorem same_leaf2 {a b : D} (h : (isB a || isB b) = true) : (isB a && (isB b && eqD a b)) = eqD a b := by
  cases h1 : isB a with
  | true =>
    cases h2 : isB b with
    | true => rfl
    | false =>
      refine (eqD_false.mpr fun e => ?_).symm
      rw [e, h2] at h1
      cases h1
  | false =>
    refine (eqD_false.mpr fun e => ?_).symm
    rw [e] at h1
    rw [e, h1] at h
    cases h
theorem same_leaf4 {a b : D} (ha : pl a = true) (hb : pl b = true) (h1 : (isT a && isT b || isL a && isL b) = false) (h2 : (isB a || isB b) = false) (h3 : (isI a && isI b || isS a && isS b) = false) : (isNon a && isNon b) = eqD a b := by
  refine eqD_of ⟨fun h => ?_, fun e => ?_⟩
  · cases a <;> cases b <;> first | rfl | exact absurd (show false = true from h) Bool.false_ne_true
  · subst e
    cases a <;> first | rfl | exact absurd (show false = true from ha) Bool.false_ne_true | exact absurd (show false = true from h1.symm) Bool.false_ne_true | exact absurd (show false = true from h2.symm) Bool.false_ne_true | exact absurd (show false = true from h3.symm) Bool.false_ne_true
section
variable {P : Program} {w : World} {K : PySem.W.Frag} {mg : Str → Option Value} {base : Heap}
/-! ### _law_same -/
def S_same (n : Nat) : SpD := fun ds M Q => ∃ a b, ds = [a, b] ∧ wf 900 n a = true ∧ wf 900 n b = true ∧ Q (.bl (eqD a b)) M
theorem d_same_step {n : Nat} (F : Df K mg "_law_same" s_law_same ["a", "b"]) (B : Blt mg) (C : Cal P w K mg base n "_law_same" 2 (S_same n)) : Cal P w K mg base (n + 1) "_law_same" 2 (S_same (n + 1)) := by
  refine dfn' F sc_law_same rfl fun f cdv A outer s H E ds M Q hr hl hs => ?_
  obtain ⟨a, b, rfl, ha, hb, q⟩ := hs
  have nd := sc_law_same.nd
  have la := pl_lk M (wf_pl ha)
  have lb := pl_lk M (wf_pl hb)
  refine wss_cons (ws_ifE (ww_pt (ew_or (ww_pt (ew_and (et_val (ee_isT B.isinstance B.tuple (ee_v 0 rfl) la)) fun _ => ww_and1 (et_val (ee_isT B.isinstance B.tuple (ee_v 1 rfl) lb)))) fun _ => ww_or1 (ww_pt (ew_and (et_val (ee_isL B.isinstance B.list (ee_v 0 rfl) la)) fun _ => ww_and1 (et_val (ee_isL B.isinstance B.list (ee_v 1 rfl) lb)))))) (fun h => ?_) fun h1 => wss_nil ?_)
  · -- two tuples, two lists
    rcases Bool.or_eq_true_iff.mp h with h | h
    · obtain ⟨h1, h2⟩ := Bool.and_eq_true_iff.mp h
      obtain ⟨as, rfl⟩ := isT_of h1
      obtain ⟨bs, rfl⟩ := isT_of h2
      obtain ⟨za, wa⟩ := wf_tup ha
      obtain ⟨zb, wb⟩ := wf_tup hb
      have e : eqD (.tup as) (.tup bs) = (decide ((as.length : Int) = (bs.length : Int)) && ((List.range as.length).map fun j => eqD (as.getD j .non) (bs.getD j .non)).all id) := (eqD_of ⟨fun h => congrArg _ (eq_lists.mp h), fun h => eq_lists.mpr (D.tup.inj h)⟩).symm
      rw [e] at q
      refine wss_one (ws_ret (EE.to (ee_and (ee_eqI (ee_cb call_len B.len bi_len (ea_cons (ee_v 0 rfl) ea_nil) (cd_lenT ⟨rfl, rfl⟩)) (ee_cb call_len B.len bi_len (ea_cons (ee_v 1 rfl) ea_nil) (cd_lenT ⟨rfl, rfl⟩))) fun hl => we_one ?_) q))
      have hl' : as.length = bs.length := by have := of_decide_eq_true hl; omega
      refine ee_cb (cr_all rfl) B.all bi_all (ea_cons (ee_lc1 2 (ds := rngD 0 as.length) (fun d => .bl (eqD (as.getD (intOf d).toNat .non) (bs.getD (intOf d).toNat .non))) rfl nd (wi_rng1 B.range (EA.to (ea_cons (ee_cb call_len B.len bi_len (ea_cons (ee_v 0 rfl) ea_nil) (cd_lenT ⟨rfl, rfl⟩)) ea_nil) ⟨_, rfl, by omega, by omega, rfl, rfl, trivial⟩)) (by rw [rngD_len]; exact lt1000 (by omega)) fun j d hd s H C' cl fp => ?_) ea_nil) (cd_all (bs := (List.range as.length).map fun j => eqD (as.getD j .non) (bs.getD j .non)) (.inl ?_) ⟨rfl, rfl⟩)
      · obtain ⟨hj, rfl⟩ := rngD_at hd
        have ej : (intOf (.int (0 + (j : Int)))).toNat = j := by show (0 + (j : Int)).toNat = j; omega
        rw [ej]
        refine we_call C hr (EA.to (ea_cons (ee_ix ix_tup (ee_v 0 rfl) (ee_v 2 rfl) (od_ixT (atI_of hj) ⟨rfl, rfl⟩)) (ea_cons (ee_ix ix_tup (ee_v 1 rfl) (ee_v 2 rfl) (od_ixT (atI_of (by omega)) ⟨rfl, rfl⟩)) ea_nil)) ⟨rfl, _, _, rfl, wa _ ?_, wb _ ?_, rfl, rfl⟩)
        · rw [getD_at hj]; exact List.getElem_mem hj
        · rw [getD_at (by omega)]; exact List.getElem_mem _
      · unfold rngD
        rw [List.map_map, List.map_map]
        congr 1
        apply List.map_congr_left
        intro j _
        show D.bl (eqD (as.getD (0 + (j : Int)).toNat .non) (bs.getD (0 + (j : Int)).toNat .non)) = D.bl (eqD (as.getD j .non) (bs.getD j .non))
        rw [show (0 + (j : Int)).toNat = j by omega]
    · obtain ⟨h1, h2⟩ := Bool.and_eq_true_iff.mp h
      have h1' : ∃ as, a = .lst as := by cases a <;> first | exact ⟨_, rfl⟩ | exact absurd (show false = true from h1) Bool.false_ne_true | exact absurd (show false = true from ha) Bool.false_ne_true
      have h2' : ∃ bs, b = .lst bs := by cases b <;> first | exact ⟨_, rfl⟩ | exact absurd (show false = true from h2) Bool.false_ne_true | exact absurd (show false = true from hb) Bool.false_ne_true
      obtain ⟨as, rfl⟩ := h1'
      obtain ⟨bs, rfl⟩ := h2'
      obtain ⟨za, wa⟩ := wf_lst ha
      obtain ⟨zb, wb⟩ := wf_lst hb
      have e : eqD (.lst as) (.lst bs) = (decide ((as.length : Int) = (bs.length : Int)) && ((List.range as.length).map fun j => eqD (as.getD j .non) (bs.getD j .non)).all id) := (eqD_of ⟨fun h => congrArg _ (eq_lists.mp h), fun h => eq_lists.mpr (D.lst.inj h)⟩).symm
      rw [e] at q
      refine wss_one (ws_ret (EE.to (ee_and (ee_eqI (ee_cb call_len B.len bi_len (ea_cons (ee_v 0 rfl) ea_nil) (cd_lenL (.inl rfl) ⟨rfl, rfl⟩)) (ee_cb call_len B.len bi_len (ea_cons (ee_v 1 rfl) ea_nil) (cd_lenL (.inl rfl) ⟨rfl, rfl⟩))) fun hl => we_one ?_) q))
      have hl' : as.length = bs.length := by have := of_decide_eq_true hl; omega
      refine ee_cb (cr_all rfl) B.all bi_all (ea_cons (ee_lc1 2 (ds := rngD 0 as.length) (fun d => .bl (eqD (as.getD (intOf d).toNat .non) (bs.getD (intOf d).toNat .non))) rfl nd (wi_rng1 B.range (EA.to (ea_cons (ee_cb call_len B.len bi_len (ea_cons (ee_v 0 rfl) ea_nil) (cd_lenL (.inl rfl) ⟨rfl, rfl⟩)) ea_nil) ⟨_, rfl, by omega, by omega, rfl, rfl, trivial⟩)) (by rw [rngD_len]; exact lt1000 (by omega)) fun j d hd s H C' cl fp => ?_) ea_nil) (cd_all (bs := (List.range as.length).map fun j => eqD (as.getD j .non) (bs.getD j .non)) (.inl ?_) ⟨rfl, rfl⟩)
      · obtain ⟨hj, rfl⟩ := rngD_at hd
        have ej : (intOf (.int (0 + (j : Int)))).toNat = j := by show (0 + (j : Int)).toNat = j; omega
        rw [ej]
        refine we_call C hr (EA.to (ea_cons (ee_ix ix_list (ee_v 0 rfl) (ee_v 2 rfl) (od_ixL (.inl rfl) (atI_of hj) ⟨rfl, rfl⟩)) (ea_cons (ee_ix ix_list (ee_v 1 rfl) (ee_v 2 rfl) (od_ixL (.inl rfl) (atI_of (by omega)) ⟨rfl, rfl⟩)) ea_nil)) ⟨rfl, _, _, rfl, wa _ ?_, wb _ ?_, rfl, rfl⟩)
        · rw [getD_at hj]; exact List.getElem_mem hj
        · rw [getD_at (by omega)]; exact List.getElem_mem _
      · unfold rngD
        rw [List.map_map, List.map_map]
        congr 1
        apply List.map_congr_left
        intro j _
        show D.bl (eqD (as.getD (0 + (j : Int)).toNat .non) (bs.getD (0 + (j : Int)).toNat .non)) = D.bl (eqD (as.getD j .non) (bs.getD j .non))
        rw [show (0 + (j : Int)).toNat = j by omega]
  refine wss_cons (ws_ifE (ww_pt (ew_or (et_val (ee_isB B.isinstance B.bool (ee_v 0 rfl) la)) fun _ => ww_or1 (et_val (ee_isB B.isinstance B.bool (ee_v 1 rfl) lb)))) (fun h => ?_) fun h2 => wss_nil ?_)
  · rw [← same_leaf2 h] at q
    refine wss_one (ws_ret (EE.to (ee_and (ee_isB B.isinstance B.bool (ee_v 0 rfl) la) fun k1 => ee_and (ee_isB B.isinstance B.bool (ee_v 1 rfl) lb) fun k2 => we_one ?_) q))
    obtain ⟨x, rfl⟩ := isB_of k1
    obtain ⟨y, rfl⟩ := isB_of k2
    refine ee_cmp op_eq (ee_v 0 rfl) (ee_v 1 rfl) (od_eqB ⟨?_, rfl⟩)
    exact congrArg D.bl (eqD_of ⟨fun h => congrArg _ (of_decide_eq_true h), fun h => decide_eq_true (D.bl.inj h)⟩)
  refine wss_cons (ws_ifE (ww_pt (ew_or (ww_pt (ew_and (et_val (ee_isI B.isinstance B.int (ee_v 0 rfl) la)) fun _ => ww_and1 (et_val (ee_isI B.isinstance B.int (ee_v 1 rfl) lb)))) fun _ => ww_or1 (ww_pt (ew_and (et_val (ee_isS B.isinstance B.str (ee_v 0 rfl) la)) fun _ => ww_and1 (et_val (ee_isS B.isinstance B.str (ee_v 1 rfl) lb)))))) (fun h => ?_) fun h3 => wss_nil ?_)
  · obtain ⟨k1, k2⟩ := Bool.or_eq_false_iff.mp h2
    rcases Bool.or_eq_true_iff.mp h with h | h
    · obtain ⟨j1, j2⟩ := Bool.and_eq_true_iff.mp h
      obtain ⟨x, rfl⟩ := isI_of (d := a) (by rw [j1, k1]; rfl)
      obtain ⟨y, rfl⟩ := isI_of (d := b) (by rw [j2, k2]; rfl)
      refine wss_one (ws_ret (EE.to (ee_eqI (ee_v 0 rfl) (ee_v 1 rfl)) ?_))
      rw [eqD_of (a := .int x) (b := .int y) ⟨fun h => congrArg _ (of_decide_eq_true h), fun h => decide_eq_true (D.int.inj h)⟩]
      exact q
    · obtain ⟨j1, j2⟩ := Bool.and_eq_true_iff.mp h
      obtain ⟨x, rfl⟩ := isS_of j1
      obtain ⟨y, rfl⟩ := isS_of j2
      refine wss_one (ws_ret (ee_cmp op_eq (ee_v 0 rfl) (ee_v 1 rfl) (od_eqS ?_)))
      rw [eqD_of (a := .str x) (b := .str y) ⟨fun h => congrArg _ (of_decide_eq_true h), fun h => decide_eq_true (D.str.inj h)⟩]
      exact q
  · rw [← same_leaf4 (wf_pl ha) (wf_pl hb) h1 h2 h3] at q
    exact wss_one (ws_ret (EE.to (ee_and (ee_cmp op_isN (ee_v 0 rfl) ee_non (od_isN ⟨rfl, rfl⟩)) fun _ => we_one (ee_cmp op_isN (ee_v 1 rfl) ee_non (od_isN ⟨rfl, rfl⟩))) q))
theorem d_same0 (F : Df K mg "_law_same" s_law_same ["a", "b"]) : Cal P w K mg base 0 "_law_same" 2 (S_same 0) := by
  obtain ⟨f, fd, F, hm, hb⟩ := F
  have no : ∀ vs H R E, ¬ spD K 2 (S_same 0) vs H R E := fun vs H R E h => by
    obtain ⟨_, _, _, _, _, _, _, ⟨_, _, _, z, _⟩, _⟩ := h
    cases z
  exact ⟨f, fd, ["a", "b"], ⟨fun vs H R E h => absurd h (no vs H R E), fun A outer s H args us vs R E _ _ _ _ h => absurd h (no vs H R E)⟩, hm, F.kp, hb⟩
theorem d_same (F : Df K mg "_law_same" s_law_same ["a", "b"]) (B : Blt mg) : ∀ n : Nat, Cal P w K mg base n "_law_same" 2 (S_same n)
  | 0 => d_same0 F
  | n + 1 => d_same_step F B (d_same F B n)
end
end K10
set_option Elab.async false
set_option linter.all false
set_option maxRecDepth 100000
set_option maxHeartbeats 4000000
namespace K10
open PySem L2 PyProof.Rows DL
section
variable {P : Program} {w : World} {K : PySem.W.Frag} {mg : Str → Option Value} {base : Heap}
/-! ### _law_whole -/
def wholeB (x : D) (lo hi : Int) : Bool := isW x && (decide (lo ≤ intOf x) && decide (intOf x ≤ hi))
def S_lwhole : SpD := fun ds M Q => ∃ x lo hi, ds = [x, .int lo, .int hi] ∧ pl x = true ∧ Q (.bl (wholeB x lo hi)) M
theorem d_lwhole (F : Df K mg "_law_whole" s_law_whole ["value", "low", "high"]) (B : Blt mg) : Cal P w K mg base 1 "_law_whole" 3 S_lwhole := by
  refine dfn' F sc_law_whole rfl fun f cdv A outer s H E ds M Q hr hl hs => ?_
  obtain ⟨x, lo, hi, rfl, hp, q⟩ := hs
  refine wss_one (ws_ret (EE.to ((ee_and (ee_isI B.isinstance B.int (ee_v 0 rfl) (pl_lk M hp)) fun h1 => ee_and (q := decide (lo ≤ intOf x) && decide (intOf x ≤ hi)) (ee_not (ee_isB B.isinstance B.bool (ee_v 0 rfl) (pl_lk M hp))) fun h2 => we_one ?_).is (congrArg D.bl (Bool.and_assoc _ _ _).symm)) q))
  obtain ⟨i, rfl⟩ := isI_of (d := x) (by rw [h1, h2]; rfl)
  exact ee_le_le (ee_v 1 rfl) (ee_v 0 rfl) (ee_v 2 rfl)
/-! ### _law_spoilt: of ints and tuples -/
def sp (L : Nat) : Nat → D → Bool
  | 0, _ => false
  | n + 1, .tup ds => decide (ds.length ≤ L) && ds.all (sp L n)
  | _ + 1, .int _ => true
  | _ + 1, _ => false
theorem sp_wf {L : Nat} : ∀ {n : Nat} {d : D}, sp L n d = true → wf L n d = true
  | 0, _, h => by cases h
  | n + 1, .tup ds, h => by
    have q := Bool.and_eq_true_iff.mp h
    exact tup_wf (of_decide_eq_true q.1) fun d hd => sp_wf (List.all_eq_true.mp q.2 d hd)
  | n + 1, .int _, _ => rfl
  | n + 1, .non, h => by cases h
  | n + 1, .bl _, h => by cases h
  | n + 1, .str _, h => by cases h
  | n + 1, .lst _, h => by cases h
  | n + 1, .ptr _, h => by cases h
  | n + 1, .scr _, h => by cases h
theorem cut_sub {α : Type} {l : List α} {lo hi : Option Int} {d : α} (h : d ∈ DL.cutD l lo hi) : d ∈ l := by
  unfold DL.cutD at h
  exact List.mem_of_mem_drop (List.mem_of_mem_take h)
theorem cut_len {α : Type} (l : List α) (lo hi : Option Int) : (DL.cutD l lo hi).length ≤ l.length := by
  unfold DL.cutD
  rw [List.length_take, List.length_drop]
  omega
theorem cut_last {α : Type} (l : List α) : (DL.cutD l (some (-1)) none).length ≤ 1 := by
  unfold DL.cutD
  rw [List.length_take, List.length_drop, HT.sIx_none]
  have : HT.sIx l.length 0 (some (-1)) = l.length - 1 := by
    unfold HT.sIx
    simp
    omega
  omega
theorem cut_two {α : Type} {l : List α} {r : Int} (h0 : 0 ≤ r) (h1 : r < l.length) : (DL.cutD l none (some r)).length + (DL.cutD l (some (r + 1)) none).length + 1 ≤ l.length := by
  unfold DL.cutD
  simp only [List.length_take, List.length_drop, HT.sIx_none]
  have e1 : HT.sIx l.length l.length (some r) = r.toNat := by unfold HT.sIx; simp only []; split <;> omega
  have e2 : HT.sIx l.length 0 (some (r + 1)) = r.toNat + 1 := by unfold HT.sIx; simp only []; split <;> omega
  omega
def rows0 : List D := [.non, .tup [], .int 0, .int 1, .bl true, .bl false, .str "a", .int (-1), .tup [.int 0], .tup [.tup [.int 0, .int 0]]]
/-- what a spoilt datum of this depth and breadth may be -/
def S_spoilt (L n : Nat) : SpD := fun ds M Q => ∃ (p : Addr) (v : D), ds = [.ptr p, v] ∧ Tp M p ∧ sp L n v = true ∧ ∀ d o, wf (L + 1) (n + 3) d = true → TpO o → Q d (updM M p (some o))
theorem d_spoilt_step {L n : Nat} (hL : 1 ≤ L) (hL2 : L ≤ 800) (F : Df K mg "_law_spoilt" s_law_spoilt ["tape", "value"]) (B : Blt mg) (C1 : Cal P w K mg base 2 "_law_take" 2 S_take) (C2 : Cal P w K mg base (n + 2) "_law_spoilt" 2 (S_spoilt L n)) : Cal P w K mg base (n + 3) "_law_spoilt" 2 (S_spoilt L (n + 1)) := by
  refine dfn' F sc_law_spoilt rfl fun f cdv A outer s H E ds M Q hr hl hs => ?_
  obtain ⟨p, v, rfl, hT, hv, q⟩ := hs
  have nd := sc_law_spoilt.nd
  have hr2 : Room 2 (A.deeper (envOfC "_law_spoilt" (defScope s_law_spoilt) s.heap.objs.size f cdv)) := hr.mono (by omega)
  have lv := pl_lk M (wf_pl (sp_wf hv))
  -- the last statement
  have fin : ∀ (c : Option D) (o1 : MO) (rs : List D), TpO o1 → 0 < rs.length → rs.length < 1000 → (∀ d ∈ rs, wf (L + 1) (n + 1 + 3) d = true) → WSs (cxOf CX0 P w K mg base ["tape", "value", "at", "rows"] "_law_spoilt" (defScope s_law_spoilt) f cdv A outer s H E).nox ((defBody s_law_spoilt).drop 4) [some (.ptr p), some v, c, some (.lst rs)] (updM M p (some o1)) { nx := fun _ M' => Q .non M', rt := Q } := fun c o1 rs h1 hz hz2 hw => by
    refine wss_one (ws_ret (we_ix ix_list (Qa := fun x M1 => x = .lst rs ∧ M1 = updM M p (some o1)) (EE.to (ee_v 3 rfl) ⟨rfl, rfl⟩) fun x M1 ⟨e1, e2⟩ => ?_))
    subst e1; subst e2
    refine we_call C1 hr2 (EA.to (ea_cons (ee_v 0 rfl) (ea_cons (ee_cb call_len B.len bi_len (ea_cons (ee_v 3 rfl) ea_nil) (cd_lenL (.inl rfl) ⟨rfl, rfl⟩)) ea_nil)) ⟨rfl, p, _, rfl, ⟨_, updM_same, h1⟩, by omega, by omega, fun r o r0 r1 ho => ?_⟩)
    rw [updM_upd]
    have hlt : r.toNat < rs.length := by omega
    have at_ : atI rs ((r.toNat : Nat) : Int) = some rs[r.toNat] := atI_nat (List.getElem?_eq_getElem hlt)
    rw [show ((r.toNat : Nat) : Int) = r by omega] at at_
    exact od_ixL (.inl rfl) at_ (q _ _ (hw _ (List.getElem_mem hlt)) ho)
  have w0 : ∀ d ∈ rows0, wf (L + 1) (n + 1 + 3) d = true := fun d hd => wf_mono (L := 2) (by omega) (n := 4) (by omega) (List.all_eq_true.mp (show rows0.all (wf 2 4) = true by decide +kernel) d hd)
  -- behind the first if
  have rest : ∀ (c : Option D) (o1 : MO), TpO o1 → WSs (cxOf CX0 P w K mg base ["tape", "value", "at", "rows"] "_law_spoilt" (defScope s_law_spoilt) f cdv A outer s H E).nox ((defBody s_law_spoilt).drop 1) [some (.ptr p), some v, c, none] (updM M p (some o1)) { nx := fun _ M' => Q .non M', rt := Q } := fun c o1 h1 => by
    refine wss_cons (ws_set 3 nd (EE.to (d := .lst rows0) (ee_lst (ea_cons ee_non (ea_cons (ee_tup ea_nil) (ea_cons ee_int (ea_cons ee_int (ea_cons ee_bl (ea_cons ee_bl (ea_cons ee_str (ea_cons (ee_neg ee_int) (ea_cons (ee_tup (ea_cons ee_int ea_nil)) (ea_cons (ee_tup (ea_cons (ee_tup (ea_cons ee_int (ea_cons ee_int ea_nil))) ea_nil)) ea_nil))))))))))) ?_))
    have lv' := pl_lk (updM M p (some o1)) (wf_pl (sp_wf hv))
    refine wss_cons (ws_ifE (et_val (ee_isI B.isinstance B.int (ee_v 1 rfl) lv')) (fun h => ?_) fun j1 => wss_nil ?_)
    · have hi : ∃ i, v = .int i := by cases v <;> first | exact ⟨_, rfl⟩ | exact absurd (show false = true from hv) Bool.false_ne_true | exact absurd (show false = true from h) Bool.false_ne_true
      obtain ⟨i, rfl⟩ := hi
      refine wss_one (ws_set 3 nd (EE.to (ee_op op_cat (ee_v 3 rfl) (ee_lst (ea_cons (ee_add (ee_v 1 rfl) ee_int) (ea_cons (ee_sub (ee_v 1 rfl) ee_int) (ea_cons (ee_eqI (ee_v 1 rfl) ee_int) (ea_cons (ee_add (ee_v 1 rfl) ee_int) ea_nil))))) (od_cat (.inl rfl) (.inl rfl) (by exact small30) ⟨rfl, rfl⟩)) ?_))
      refine wss_cons (ws_ifE (et_val (ee_isT B.isinstance B.tuple (ee_v 1 rfl) lv')) (fun h => absurd (show false = true from h) Bool.false_ne_true) fun h => wss_nil ?_)
      refine fin _ _ _ h1 (Nat.le_of_ble_eq_true rfl) (Nat.le_of_ble_eq_true rfl) fun d hd => ?_
      rcases List.mem_append.mp hd with hd | hd
      · exact w0 d hd
      · simp only [List.mem_cons, List.not_mem_nil, or_false] at hd
        rcases hd with rfl | rfl | rfl | rfl <;> rfl
    · refine wss_cons (ws_ifE (et_val (ee_isT B.isinstance B.tuple (ee_v 1 rfl) lv')) (fun h => ?_) fun j2 => wss_nil ?_)
      · obtain ⟨ds, rfl⟩ := isT_of h
        obtain ⟨hz, hw⟩ := wf_tup (sp_wf hv)
        have hz3 : ds.length ≤ 800 := by omega
        refine wss_one (ws_set 3 nd (EE.to (ee_op op_cat (ee_v 3 rfl) (ee_lst (ea_cons (ee_sl sl_tupA (ee_v 1 rfl) eo_none (eo_some (ee_neg ee_int)) (sd_tup ⟨rfl, rfl⟩)) (ea_cons (ee_op op_catA (ee_v 1 rfl) (ee_sl sl_tupA (ee_v 1 rfl) (eo_some (ee_neg ee_int)) eo_none (sd_tup ⟨rfl, rfl⟩)) (od_catT ?_ ⟨rfl, rfl⟩)) (ea_cons (we_revT (EE.to (ee_v 1 rfl) ⟨ds, rfl, rfl, rfl⟩)) (ea_cons (ee_op op_catA (ee_v 1 rfl) (ee_tup (ea_cons (ee_tup (ea_cons ee_int (ea_cons ee_int ea_nil))) ea_nil)) (od_catT ?_ ⟨rfl, rfl⟩)) (ea_cons (ee_tup (ea_cons (ee_v 1 rfl) ea_nil)) (ea_cons (ee_sl sl_tupA (ee_v 1 rfl) (eo_some ee_int) eo_none (sd_tup ⟨rfl, rfl⟩)) ea_nil))))))) (od_cat (.inl rfl) (.inl rfl) (by exact small30) ⟨rfl, rfl⟩)) ?_))
        · have := cut_len ds (some (-1)) none
          exact Nat.le_trans (show _ ≤ 2000 by omega) (by decide)
        · exact Nat.le_trans (show _ ≤ 2000 by show ds.length + 1 ≤ 2000; omega) (by decide)
        · refine fin _ _ _ h1 (Nat.le_of_ble_eq_true rfl) (Nat.le_of_ble_eq_true rfl) fun d hd => ?_
          have up : ∀ x ∈ ds, wf (L + 1) (n + 3) x = true := fun x hx => wf_mono (by omega) (by omega) (hw x hx)
          have up2 : ∀ x ∈ ds, wf (L + 1) (n + 2) x = true := fun x hx => wf_mono (by omega) (by omega) (hw x hx)
          rcases List.mem_append.mp hd with hd | hd
          · exact w0 d hd
          · simp only [List.mem_cons, List.not_mem_nil, or_false] at hd
            rcases hd with rfl | rfl | rfl | rfl | rfl | rfl
            · exact tup_wf (by have := cut_len ds none (some (-1)); omega) fun x hx => up x (cut_sub hx)
            · refine tup_wf (by have := cut_last ds; rw [List.length_append]; omega) fun x hx => ?_
              rcases List.mem_append.mp hx with hx | hx
              · exact up x hx
              · exact up x (cut_sub hx)
            · exact tup_wf (by rw [List.length_reverse]; omega) fun x hx => up x (List.mem_reverse.mp hx)
            · refine tup_wf (by rw [List.length_append]; show ds.length + 1 ≤ L + 1; omega) fun x hx => ?_
              rcases List.mem_append.mp hx with hx | hx
              · exact up x hx
              · rw [List.mem_singleton.mp hx]
                exact tup_wf (by show 2 ≤ L + 1; omega) fun y hy => by
                  simp only [List.mem_cons, List.not_mem_nil, or_false] at hy
                  rcases hy with rfl | rfl <;> rfl
            · refine tup_wf (by show 1 ≤ L + 1; omega) fun x hx => ?_
              rw [List.mem_singleton.mp hx]
              exact tup_wf (by omega) up2
            · exact tup_wf (by have := cut_len ds (some 1) none; omega) fun x hx => up x (cut_sub hx)
      · -- neither an int nor a tuple: it can't be
        cases v <;> first | exact absurd (show false = true from hv) Bool.false_ne_true | exact absurd (show false = true from j1.symm) Bool.false_ne_true | exact absurd (show false = true from j2.symm) Bool.false_ne_true
  obtain ⟨o0, hM, ho⟩ := hT
  have hr3 : Room (n + 2) (A.deeper (envOfC "_law_spoilt" (defScope s_law_spoilt) s.heap.objs.size f cdv)) := hr
  have R0 := rest none o0 ho
  rw [updM_id hM] at R0
  refine wss_cons (ws_if (ww_pt (ww_and ((et_val (ee_isT B.isinstance B.tuple (ee_v 1 rfl) lv)).imp fun k M1 ⟨e1, e2⟩ => ?_))))
  subst e1; subst e2
  refine ⟨fun e => ⟨fun h => absurd h Bool.false_ne_true, fun _ => wss_nil R0⟩, fun e => ?_⟩
  obtain ⟨ds, rfl⟩ := isT_of e
  obtain ⟨hz, hw⟩ := wf_tup (sp_wf hv)
  refine ww_and ((et_gt (ee_cb call_len B.len bi_len (ea_cons (ee_v 1 rfl) ea_nil) (cd_lenT ⟨rfl, rfl⟩)) ee_int).imp fun k M2 ⟨e1, e2⟩ => ?_)
  subst e1; subst e2
  refine ⟨fun _ => ⟨fun h => absurd h Bool.false_ne_true, fun _ => wss_nil R0⟩, fun e0 => ?_⟩
  have hp0 : (0 : Int) < ds.length := of_decide_eq_true e0
  refine ww_and1 (wt_cmp op_gt (Qa := fun d M3 => ∃ r o, d = .int r ∧ TpO o ∧ M3 = updM M2 p (some o)) (we_call C1 hr2 (EA.to (ea_cons (ee_v 0 rfl) (ea_cons ee_int ea_nil)) ⟨rfl, p, 4, rfl, ⟨o0, hM, ho⟩, by decide, by decide, fun r o _ _ h => ⟨r, o, rfl, h, rfl⟩⟩)) fun x M2 ⟨r, o, e1, h, e2⟩ => EE.to ee_int ?_)
  subst e1; subst e2
  refine od_B0 ⟨_, rfl, fun _ => ?_, fun _ => wss_nil (rest none o h)⟩
  -- the first if's body
  refine wss_cons (ws_set 2 nd (we_call C1 hr2 (EA.to (ea_cons (ee_v 0 rfl) (ea_cons (ee_cb call_len B.len bi_len (ea_cons (ee_v 1 rfl) ea_nil) (cd_lenT ⟨rfl, rfl⟩)) ea_nil)) ⟨rfl, p, _, rfl, ⟨o, updM_same, h⟩, hp0, by omega, fun r o2 r0 r1 h2 => ?_⟩)))
  rw [updM_upd]
  have up : ∀ x ∈ ds, wf (L + 1) (n + 3) x = true := fun x hx => wf_mono (by omega) (by omega) (hw x hx)
  have l1 := cut_len ds none (some r)
  have l2 := cut_len ds (some (r + 1)) none
  have l3 : (DL.cutD ds none (some r)).length + (DL.cutD ds (some (r + 1)) none).length + 1 ≤ ds.length := cut_two r0 r1
  refine wss_cons (ws_if (wt_cmp op_eq (Qa := fun d M3 => ∃ r o, d = .int r ∧ TpO o ∧ M3 = updM M2 p (some o)) (we_call C1 hr2 (EA.to (ea_cons (ee_v 0 rfl) (ea_cons ee_int ea_nil)) ⟨rfl, p, 8, rfl, ⟨o2, updM_same, h2⟩, by decide, by decide, fun r o _ _ h => ⟨r, o, rfl, h, updM_upd⟩⟩)) fun x M2 ⟨r2, o3, e1, h3, e2⟩ => EE.to ee_int ?_))
  subst e1; subst e2
  refine od_eqI ⟨_, rfl, fun _ => ?_, fun _ => wss_nil ?_⟩
  · refine wss_one (ws_ret (EE.to (ee_op op_catA (ee_sl sl_tupA (ee_v 1 rfl) eo_none (eo_some (ee_v 2 rfl)) (sd_tup ⟨rfl, rfl⟩)) (ee_sl sl_tupA (ee_v 1 rfl) (eo_some (ee_add (ee_v 2 rfl) ee_int)) eo_none (sd_tup ⟨rfl, rfl⟩)) (od_catT ?_ ⟨rfl, rfl⟩)) ?_))
    · exact Nat.le_trans (show _ ≤ 2000 by omega) (by decide)
    · refine q _ _ (tup_wf ?_ fun x hx => ?_) h3
      · rw [List.length_append]; omega
      · rcases List.mem_append.mp hx with hx | hx
        · exact up x (cut_sub hx)
        · exact up x (cut_sub hx)
  · have hlt : r.toNat < ds.length := by omega
    have at_ : atI ds ((r.toNat : Nat) : Int) = some ds[r.toNat] := atI_nat (List.getElem?_eq_getElem hlt)
    rw [show ((r.toNat : Nat) : Int) = r by omega] at at_
    have hsp : sp L n ds[r.toNat] = true := List.all_eq_true.mp (Bool.and_eq_true_iff.mp hv).2 _ (List.getElem_mem hlt)
    refine wss_one (ws_ret (we_op op_catA (Qa := fun d M3 => ∃ y o, wf (L + 1) (n + 3) y = true ∧ TpO o ∧ d = .tup (DL.cutD ds none (some r) ++ [y]) ∧ M3 = updM M2 p (some o)) (we_op op_catA (Qa := fun d M3 => d = .tup (DL.cutD ds none (some r)) ∧ M3 = updM M2 p (some o3)) (ee_sl sl_tupA (ee_v 1 rfl) eo_none (eo_some (ee_v 2 rfl)) (sd_tup ⟨rfl, rfl⟩)) fun x M2 ⟨e1, e2⟩ => ?_) fun x M2 ⟨y, o4, hy, h4, e1, e2⟩ => ?_))
    · subst e1; subst e2
      refine we_tup (wa_cons (we_call C2 hr3 (EA.to (ea_cons (ee_v 0 rfl) (ea_cons (ee_ix ix_tup (ee_v 1 rfl) (ee_v 2 rfl) (od_ixT at_ ⟨rfl, rfl⟩)) ea_nil)) ⟨rfl, p, _, rfl, ⟨o3, updM_same, h3⟩, hsp, fun d o hd hO => ?_⟩)))
      rw [updM_upd]
      refine wa_nil ⟨by exact small30, od_catT ?_ ⟨d, o, hd, hO, rfl, rfl⟩⟩
      exact Nat.le_trans (show _ ≤ 2000 by show _ + 1 ≤ 2000; omega) (by decide)
    · subst e1; subst e2
      refine EE.to (ee_sl sl_tupA (ee_v 1 rfl) (eo_some (ee_add (ee_v 2 rfl) ee_int)) eo_none (sd_tup ⟨rfl, rfl⟩)) (od_catT ?_ (q _ _ (tup_wf ?_ fun x hx => ?_) h4))
      · rw [List.length_append]
        exact Nat.le_trans (show _ ≤ 2000 by show _ + 1 + _ ≤ 2000; omega) (by decide)
      · rw [List.length_append, List.length_append]; show _ + 1 + _ ≤ _; omega
      · rcases List.mem_append.mp hx with hx | hx
        · rcases List.mem_append.mp hx with hx | hx
          · exact up x (cut_sub hx)
          · rw [List.mem_singleton.mp hx]; exact hy
        · exact up x (cut_sub hx)
theorem d_spoilt0 {L : Nat} (F : Df K mg "_law_spoilt" s_law_spoilt ["tape", "value"]) : Cal P w K mg base 2 "_law_spoilt" 2 (S_spoilt L 0) := by
  obtain ⟨f, fd, F, hm, hb⟩ := F
  have no : ∀ vs H R E, ¬ spD K 2 (S_spoilt L 0) vs H R E := fun vs H R E h => by
    obtain ⟨_, _, _, _, _, _, _, ⟨_, _, _, _, z, _⟩, _⟩ := h
    cases z
  exact ⟨f, fd, ["tape", "value"], ⟨fun vs H R E h => absurd h (no vs H R E), fun A outer s H args us vs R E _ _ _ _ h => absurd h (no vs H R E)⟩, hm, F.kp, hb⟩
theorem d_spoilt {L : Nat} (hL : 1 ≤ L) (hL2 : L ≤ 800) (F : Df K mg "_law_spoilt" s_law_spoilt ["tape", "value"]) (B : Blt mg) (C1 : Cal P w K mg base 2 "_law_take" 2 S_take) : ∀ n : Nat, Cal P w K mg base (n + 2) "_law_spoilt" 2 (S_spoilt L n)
  | 0 => d_spoilt0 F
  | n + 1 => d_spoilt_step hL hL2 F B C1 (d_spoilt hL hL2 F B C1 n)
end
end K10
set_option Elab.async false
set_option linter.all false
set_option maxRecDepth 100000
set_option maxHeartbeats 4000000
namespace K10
open PySem L2 PyProof.Rows DL
section
variable {P : Program} {w : World} {K : PySem.W.Frag} {mg : Str → Option Value} {base : Heap}
/-! ### _law_parents -/
def S_parents : SpD := fun ds M Q => ∃ (p : Addr) (m : Int), ds = [.ptr p, .int m] ∧ Tp M p ∧ 0 ≤ m ∧ m ≤ 8 ∧ ∀ (ps : List Int) o, (ps.length : Int) = m → Par ps → TpO o → Q (tI ps) (updM M p (some o))
theorem Par.snoc {ps : List Int} {r : Int} (h : Par ps) (h0 : 0 ≤ r) (h1 : r ≤ ps.length) : Par (ps ++ [r]) := fun i q e => by
  rcases Nat.lt_trichotomy i ps.length with l | l | l
  · rw [List.getElem?_append_left l] at e
    exact h i q e
  · subst l
    rw [List.getElem?_append_right (Nat.le_refl _), Nat.sub_self] at e
    cases e
    exact ⟨h0, h1⟩
  · rw [List.getElem?_eq_none (by rw [List.length_append]; show ps.length + 1 ≤ i; omega)] at e
    cases e
theorem d_parents (F : Df K mg "_law_parents" s_law_parents ["tape", "many"]) (B : Blt mg) (C1 : Cal P w K mg base 2 "_law_take" 2 S_take) : Cal P w K mg base 3 "_law_parents" 2 S_parents := by
  refine dfn' F sc_law_parents rfl fun f cdv A outer s H E ds M Q hr hl hs => ?_
  obtain ⟨p, m, rfl, ⟨o0, hM, ho⟩, h0, h1, q⟩ := hs
  have nd := sc_law_parents.nd
  refine wss_one (ws_ret (we_ct call_tuple_of B.tuple bi_tuple (wa_cons (we_lc [("k", 2)] rfl nd (blkOk_by (by with_unfolding_all rfl)) (Qi := fun ds C M0 => ds = rngD 0 m.toNat ∧ (∀ M, C M) ∧ M0 = M) (wi_rng1 B.range (EA.to (ea_cons (ee_v 1 rfl) ea_nil) ⟨m, rfl, by omega, by omega, rfl, fun _ => trivial, rfl⟩)) ?_ (Nat.zero_le _)))))
  intro ds C M0 ⟨e1, hC, e2⟩
  subst e1; subst e2
  refine ⟨fun i acc M1 => i ≤ m.toNat ∧ ∃ (ps : List Int) (o : MO), acc = ps.map .int ∧ ps.length = i ∧ Par ps ∧ TpO o ∧ M1 = updM M0 p (some o), ⟨Nat.zero_le _, [], o0, rfl, rfl, (fun i q e => by rw [List.getElem?_nil] at e; cases e), ho, (updM_id hM).symm⟩, fun i acc M1 ⟨hi, ps, o, e1, e2, _⟩ => ⟨hC _, ?_⟩, fun i d acc M1 hd ⟨hi, ps, o, e1, e2, hP, hO, e3⟩ => ?_, fun acc M1 ⟨_, ps, o, e1, e2, hP, hO, e3⟩ => ?_⟩
  · rw [e1, List.length_map]
    exact lt1000 (by omega)
  · subst e1; subst e2; subst e3
    obtain ⟨hj, rfl⟩ := rngD_at hd
    refine turn1 2 (List.mem_singleton.mpr rfl) nd (.inl rfl) rfl (fun b M2 => b = true ∧ M2 = updM M0 p (some o)) (fun _ _ _ _ _ => ⟨rfl, rfl⟩) (fun M2 ⟨_, e⟩ => ?_) (fun M2 ⟨e, _⟩ => Bool.noConfusion e)
    subst e
    intro s H C cl fp
    refine we_call C1 hr (EA.to (ea_cons (ee_v 0 rfl) (ea_cons (ee_add (ee_v 2 rfl) ee_int) ea_nil)) ⟨rfl, p, _, rfl, ⟨o, updM_same, hO⟩, by omega, by omega, fun r o2 r0 r1 h2 => ⟨by omega, ps ++ [r], o2, ?_, by simp, hP.snoc r0 (by omega), h2, updM_upd⟩⟩)
    rw [List.map_append]
    rfl
  · subst e1; subst e3
    rw [rngD_len] at e2
    exact wa_nil (cd_tupL (.inl rfl) (q ps o (by omega) hP hO))
/-! ### _law_named -/
def prs (ps ns : List Int) : List (Int × Int) := (List.range ps.length).map fun k => (ns.getD (k + 1) 0, ns.getD (ps.getD k 0).toNat 0)
def S_named : SpD := fun ds M Q => ∃ (ps ns : List Int), ds = [tI ps, .lst (ns.map .int)] ∧ Par ps ∧ ps.length < 900 ∧ ps.length < ns.length ∧ ∀ qs : List (Int × Int), qs.Perm (prs ps ns) → SrtP qs → Q (.lst (qs.map pairD)) M
theorem d_named (F : Df K mg "_law_named" s_law_named ["parents", "names"]) (B : Blt mg) : Cal P w K mg base 1 "_law_named" 2 S_named := by
  refine dfn' F sc_law_named rfl fun f cdv A outer s H E ds M Q hr hl hs => ?_
  obtain ⟨ps, ns, rfl, hP, hz, hn, q⟩ := hs
  have nd := sc_law_named.nd
  refine wss_one (ws_ret (ee_cb cr_srt B.sorted bi_sorted (ea_cons (ee_lc1 2 (ds := rngD 0 ps.length) (fun d => pairD (ns.getD ((intOf d).toNat + 1) 0, ns.getD (ps.getD (intOf d).toNat 0).toNat 0)) rfl nd (wi_rng1 B.range (EA.to (ea_cons (ee_cb call_len B.len bi_len (ea_cons (ee_v 0 rfl) ea_nil) (cd_lenT ⟨rfl, rfl⟩)) ea_nil) ⟨_, rfl, by rw [List.length_map]; omega, by rw [List.length_map]; omega, ?_, rfl, trivial⟩)) (by rw [rngD_len]; exact lt1000 (by omega)) fun j d hd s H C cl fp => ?_) ea_nil) (cd_srt (ps := prs ps ns) (.inl ?_) q)))
  · rw [List.length_map]; rfl
  · obtain ⟨hj, rfl⟩ := rngD_at hd
    have ej : (intOf (.int (0 + (j : Int)))).toNat = j := by show (0 + (j : Int)).toNat = j; omega
    rw [ej]
    have a := hP.at hj
    refine ee_tup (ea_cons (ee_ix ix_list (ee_v 1 rfl) (ee_add (ee_v 2 rfl) ee_int) (od_ixL (.inl rfl) (atI_ints (by omega) (by omega)) ⟨?_, rfl⟩)) (ea_cons (ee_ix ix_list (ee_v 1 rfl) (ee_ix ix_tup (ee_v 0 rfl) (ee_v 2 rfl) (od_ixT (atI_ints (by omega) (by omega)) ⟨rfl, rfl⟩)) (od_ixL (.inl rfl) (atI_ints (by rw [show (0 + (j : Int)).toNat = j by omega]; omega) (by rw [show (0 + (j : Int)).toNat = j by omega]; omega)) ⟨?_, rfl⟩)) ea_nil))
    · rw [show (0 + (j : Int) + 1).toNat = j + 1 by omega]
    · rw [show (0 + (j : Int)).toNat = j by omega]
  · unfold prs rngD
    rw [List.map_map, List.map_map]
    refine congrArg D.lst (List.map_congr_left fun k _ => by
    show pairD (ns.getD ((0 + (k : Int)).toNat + 1) 0, ns.getD (ps.getD (0 + (k : Int)).toNat 0).toNat 0) = _
    rw [show (0 + (k : Int)).toNat = k by omega]
    rfl)
end
end K10
set_option Elab.async false
set_option linter.all false
set_option maxRecDepth 100000
set_option maxHeartbeats 4000000
namespace K10
open PySem L2 PyProof.Rows DL
/-! ### plain laws -/
def sk (a i : Nat) : Nat := if i < a then i else i + 1
theorem range_skip {a n : Nat} (h : a < n) : (List.range n).filter (fun i => !decide (i = a)) = (List.range (n - 1)).map (sk a) := by
  obtain ⟨m, rfl⟩ : ∃ m, n = a + 1 + m := ⟨n - (a + 1), by omega⟩
  have e1 : (List.range a).filter (fun i => !decide (i = a)) = (List.range a).map (sk a) := by
    rw [List.filter_eq_self.mpr fun i hi => by have := List.mem_range.mp hi; simp; omega]
    have : (List.range a).map (sk a) = (List.range a).map id := List.map_congr_left fun i hi => by
      have := List.mem_range.mp hi
      exact if_pos this
    rw [this, List.map_id]
  have e2 : ((List.range m).map (a + 1 + ·)).filter (fun i => !decide (i = a)) = (List.range m).map (fun i => sk a (a + i)) := by
    rw [List.filter_eq_self.mpr fun i hi => by
      obtain ⟨j, _, rfl⟩ := List.mem_map.mp hi
      simp; omega]
    refine List.map_congr_left fun i hi => ?_
    show a + 1 + i = if a + i < a then a + i else a + i + 1
    rw [if_neg (by omega)]
    omega
  rw [List.range_add, List.range_succ, List.filter_append, List.filter_append, e1, e2, show a + 1 + m - 1 = a + m by omega, List.range_add, List.map_append, List.map_map]
  have e3 : ([a].filter fun i => !decide (i = a)) = [] := by simp
  rw [e3, List.append_nil]
  rfl
theorem as_range {α : Type} (d : α) (ps : List α) : ps = (List.range ps.length).map fun i => ps.getD i d := by
  apply List.ext_getElem
  · simp
  · intro i h1 h2
    rw [List.getElem_map, List.getElem_range, List.getD_eq_getElem?_getD, List.getElem?_eq_getElem h1]
    rfl
theorem zip_range (ps : List Int) : ps.zipIdx = (List.range ps.length).map fun i => (ps.getD i 0, i) := by
  apply List.ext_getElem
  · simp
  · intro i h1 h2
    have hi : i < ps.length := by rw [List.length_zipIdx] at h1; exact h1
    rw [List.getElem_map, List.getElem_range, List.getD_eq_getElem?_getD, List.getElem?_eq_getElem hi, List.getElem_zipIdx]
    simp
theorem getD_map {n i : Nat} {f : Nat → Int} (h : i < n) : ((List.range n).map f).getD i 0 = f i := by
  rw [List.getD_eq_getElem?_getD, List.getElem?_map, List.getElem?_range h]
  rfl
def dF (k ab p : Int) : Int := if k < (if p = k then ab else p) then (if p = k then ab else p) - 1 else (if p = k then ab else p)
theorem dropped_eq {ps : List Int} {a : Nat} (h : a < ps.length) : droppedL ps ((a : Int) + 1) = (List.range (ps.length - 1)).map fun i => dF ((a : Int) + 1) (ps.getD a 0) (ps.getD (sk a i) 0) := by
  unfold droppedL
  have e0 : (fun q : Int × Nat => !decide ((q.2 : Int) + 1 = (a : Int) + 1)) = fun q : Int × Nat => !decide (q.2 = a) := by
    funext q
    congr 1
    exact decide_eq_decide.mpr ⟨fun h => by omega, fun h => by omega⟩
  rw [e0, zip_range, List.filter_map, show ((fun q : Int × Nat => !decide (q.2 = a)) ∘ fun i => (ps.getD i 0, i)) = fun i => !decide (i = a) from rfl, range_skip h, List.map_map, List.map_map, List.map_map, show ((a : Int) + 1 - 1).toNat = a by omega]
  rfl
def pF (ps : List Int) (a i : Nat) : Int := if i < a then ps.getD i 0 else if i = a then ps.getD a 0 else if i = a + 1 then (a : Int) + 1 else (if (a : Int) + 1 ≤ ps.getD (i - 1) 0 then ps.getD (i - 1) 0 + 1 else ps.getD (i - 1) 0)
theorem put_eq {ps : List Int} (hP : Par ps) {a : Nat} (h : a < ps.length) : putL ps ((a : Int) + 1) = (List.range (ps.length + 1)).map (pF ps a) := by
  have lu : (upL ps ((a : Int) + 1)).length = ps.length := List.length_map _
  have up : ∀ i, i < ps.length → (upL ps ((a : Int) + 1))[i]? = some (if (a : Int) + 1 ≤ ps.getD i 0 then ps.getD i 0 + 1 else ps.getD i 0) := fun i hi => by
    unfold upL
    rw [List.getElem?_map, List.getElem?_eq_getElem hi, getD_at hi]
    rfl
  unfold putL
  rw [show ((a : Int) + 1 - 1).toNat = a by omega, show ((a : Int) + 1).toNat = a + 1 by omega]
  have l1 : ((upL ps ((a : Int) + 1)).take a).length = a := by rw [List.length_take, lu]; omega
  apply List.ext_getElem?
  intro i
  rw [List.getElem?_map]
  by_cases hi : i < ps.length + 1
  · rw [List.getElem?_range hi]
    show _ = some (pF ps a i)
    unfold pF
    rw [List.append_assoc]
    by_cases h1 : i < a
    · rw [if_pos h1, List.getElem?_append_left (by omega), List.getElem?_take, if_pos h1, up i (by omega)]
      have := hP.at (k := i) (by omega)
      rw [if_neg (by omega)]
    · rw [if_neg h1, List.getElem?_append_right (by omega), l1]
      by_cases h2 : i = a
      · subst h2
        rw [if_pos rfl, Nat.sub_self]
        rfl
      · rw [if_neg h2]
        by_cases h3 : i = a + 1
        · subst h3
          rw [if_pos rfl, show a + 1 - a = 1 by omega]
          rfl
        · rw [if_neg h3, List.getElem?_append_right (by show 2 ≤ i - a; omega), List.getElem?_drop, show a + 1 + (i - a - [ps.getD a 0, (a : Int) + 1].length) = i - 1 by show a + 1 + (i - a - 2) = i - 1; omega, up (i - 1) (by omega)]
  · rw [List.getElem?_eq_none (by simp; omega), List.getElem?_eq_none (by simp [lu]; omega)]
    rfl
theorem put_lenP {ps : List Int} (hP : Par ps) {a : Nat} (h : a < ps.length) : (putL ps ((a : Int) + 1)).length = ps.length + 1 := by rw [put_eq hP h]; simp
theorem drop_len {ps : List Int} {a : Nat} (h : a < ps.length) : (droppedL ps ((a : Int) + 1)).length = ps.length - 1 := by rw [dropped_eq h]; simp
theorem par_range {n : Nat} {f : Nat → Int} (h : ∀ i, i < n → 0 ≤ f i ∧ f i ≤ (i : Int)) : Par ((List.range n).map f) := fun i p e => by
  rw [List.getElem?_map] at e
  by_cases hi : i < n
  · rw [List.getElem?_range hi] at e
    cases e
    exact h i hi
  · rw [List.getElem?_eq_none (by simp; omega)] at e
    cases e
theorem drop_par {ps : List Int} (hP : Par ps) {a : Nat} (h : a < ps.length) : Par (droppedL ps ((a : Int) + 1)) := by
  rw [dropped_eq h]
  refine par_range fun i hi => ?_
  have ab := hP.at h
  have b := hP.at (k := sk a i) (by unfold sk; split <;> omega)
  unfold dF
  unfold sk at *
  by_cases h1 : i < a
  · rw [if_pos h1] at b ⊢
    rw [if_neg (c := ps.getD i 0 = (a : Int) + 1) (by omega), if_neg (by omega)]
    exact b
  · rw [if_neg h1] at b ⊢
    by_cases h2 : ps.getD (i + 1) 0 = (a : Int) + 1
    · rw [if_pos h2, if_neg (by omega)]
      omega
    · rw [if_neg h2]
      split <;> omega
theorem put_par {ps : List Int} (hP : Par ps) {a : Nat} (h : a < ps.length) : Par (putL ps ((a : Int) + 1)) := by
  rw [put_eq hP h]
  refine par_range fun i hi => ?_
  have ab := hP.at h
  unfold pF
  by_cases h1 : i < a
  · rw [if_pos h1]; exact hP.at (by omega)
  · rw [if_neg h1]
    by_cases h2 : i = a
    · subst h2; rw [if_pos rfl]; exact ab
    · rw [if_neg h2]
      by_cases h3 : i = a + 1
      · subst h3; rw [if_pos rfl]; omega
      · rw [if_neg h3]
        have := hP.at (k := i - 1) (by omega)
        split <;> omega
theorem drop_put {ps : List Int} (hP : Par ps) {a : Nat} (h : a < ps.length) : droppedL (putL ps ((a : Int) + 1)) ((a : Int) + 1) = ps := by
  have ab := hP.at h
  rw [dropped_eq (by rw [put_lenP hP h]; omega), put_lenP hP h]
  conv => rhs; rw [as_range 0 ps]
  refine List.map_congr_left fun i hi => ?_
  have hi : i < ps.length := List.mem_range.mp hi
  rw [put_eq hP h, getD_map (by omega), getD_map (by unfold sk; split <;> omega)]
  have e1 : pF ps a a = ps.getD a 0 := by unfold pF; rw [if_neg (by omega), if_pos rfl]
  rw [e1]
  have b := hP.at hi
  unfold dF sk pF
  by_cases h1 : i < a
  · rw [if_pos h1, if_pos h1, if_neg (c := ps.getD i 0 = (a : Int) + 1) (by omega), if_neg (by omega)]
  · rw [if_neg h1, if_neg (c := i + 1 < a) (by omega), if_neg (c := i + 1 = a) (by omega)]
    by_cases h2 : i = a
    · subst h2
      rw [if_pos rfl, if_pos rfl, if_neg (by omega)]
    · rw [if_neg (c := i + 1 = a + 1) (by omega), show i + 1 - 1 = i by omega]
      by_cases h3 : (a : Int) + 1 ≤ ps.getD i 0
      · rw [if_pos h3, if_neg (c := ps.getD i 0 + 1 = (a : Int) + 1) (by omega), if_pos (by omega)]
        omega
      · rw [if_neg h3, if_neg (c := ps.getD i 0 = (a : Int) + 1) (by omega), if_neg (by omega)]
/-- the names 0, 1 .. n -/
def nm (n : Nat) : List Int := (List.range (n + 1)).map fun i : Nat => (i : Int)
theorem nm_at {n i : Nat} (h : i ≤ n) : (nm n).getD i 0 = (i : Int) := getD_map (by omega)
theorem nm_skip {n a : Nat} (h : a < n) : (nm n).filter (fun x => !decide (x = (a : Int) + 1)) = (List.range n).map fun i => ((sk (a + 1) i : Nat) : Int) := by
  unfold nm
  rw [List.filter_map, show ((fun x : Int => !decide (x = (a : Int) + 1)) ∘ fun i : Nat => (i : Int)) = fun i => !decide (i = a + 1) by
    funext i
    show (!decide ((i : Int) = (a : Int) + 1)) = _
    congr 1
    exact decide_eq_decide.mpr ⟨fun h => by omega, fun h => by omega⟩, range_skip (by omega), List.map_map]
  rfl
theorem prs_nm {ps : List Int} (hP : Par ps) : prs ps (nm ps.length) = (List.range ps.length).map fun i : Nat => ((i : Int) + 1, ps.getD i 0) := by
  unfold prs
  refine List.map_congr_left fun i hi => ?_
  have hi : i < ps.length := List.mem_range.mp hi
  have b := hP.at hi
  rw [nm_at (by omega), nm_at (by omega)]
  congr 1
  omega
/-- dropping, by names -/
theorem drop_names {ps : List Int} (hP : Par ps) {a : Nat} (h : a < ps.length) : prs (droppedL ps ((a : Int) + 1)) ((nm ps.length).filter fun x => !decide (x = (a : Int) + 1)) = ((prs ps (nm ps.length)).filter fun q => !decide (q.1 = (a : Int) + 1)).map fun q => (q.1, if q.2 = (a : Int) + 1 then ps.getD a 0 else q.2) := by
  have ab := hP.at h
  rw [prs_nm hP, List.filter_map, show ((fun q : Int × Int => !decide (q.1 = (a : Int) + 1)) ∘ fun i : Nat => ((i : Int) + 1, ps.getD i 0)) = fun i => !decide (i = a) by
    funext i
    show (!decide ((i : Int) + 1 = (a : Int) + 1)) = _
    congr 1
    exact decide_eq_decide.mpr ⟨fun h => by omega, fun h => by omega⟩, range_skip h, List.map_map, List.map_map, nm_skip h]
  unfold prs
  rw [drop_len h]
  refine List.map_congr_left fun i hi => ?_
  have hi : i < ps.length - 1 := List.mem_range.mp hi
  have hk : sk a i < ps.length := by unfold sk; split <;> omega
  have b := hP.at hk
  rw [getD_map (by omega)]
  show _ = (((sk a i : Nat) : Int) + 1, if ps.getD (sk a i) 0 = (a : Int) + 1 then ps.getD a 0 else ps.getD (sk a i) 0)
  have c := (drop_par hP h).at (k := i) (by rw [drop_len h]; exact hi)
  rw [getD_map (by omega)]
  have e : (droppedL ps ((a : Int) + 1)).getD i 0 = dF ((a : Int) + 1) (ps.getD a 0) (ps.getD (sk a i) 0) := by rw [dropped_eq h, getD_map hi]
  rw [e]
  congr 1
  · unfold sk
    by_cases h1 : i < a
    · rw [if_pos h1, if_pos (by omega)]; omega
    · rw [if_neg h1, if_neg (by omega)]; omega
  · unfold dF
    generalize hv : (if ps.getD (sk a i) 0 = (a : Int) + 1 then ps.getD a 0 else ps.getD (sk a i) 0) = v
    have hv1 : 0 ≤ v ∧ v ≠ (a : Int) + 1 := by
      rw [← hv]
      by_cases h2 : ps.getD (sk a i) 0 = (a : Int) + 1
      · rw [if_pos h2]; omega
      · rw [if_neg h2]; exact ⟨b.1, h2⟩
    unfold sk
    by_cases h3 : (a : Int) + 1 < v
    · rw [if_pos h3, if_neg (by omega)]; omega
    · rw [if_neg h3, if_pos (by omega)]; omega
def nm2 (n a : Nat) : List Int := (nm n).take (a + 1) ++ [99] ++ (nm n).drop (a + 1)
theorem nm2_at {n a i : Nat} (h : a < n) (hi : i ≤ n + 1) : (nm2 n a).getD i 0 = if i < a + 1 then (i : Int) else if i = a + 1 then 99 else (i : Int) - 1 := by
  have ln : (nm n).length = n + 1 := by unfold nm; simp
  have at_ : ∀ j, j ≤ n → (nm n)[j]? = some (j : Int) := fun j hj => by
    unfold nm
    rw [List.getElem?_map, List.getElem?_range (by omega)]
    rfl
  have l1 : ((nm n).take (a + 1)).length = a + 1 := by rw [List.length_take, ln]; omega
  unfold nm2
  rw [List.getD_eq_getElem?_getD, List.append_assoc]
  by_cases h1 : i < a + 1
  · rw [if_pos h1, List.getElem?_append_left (by omega), List.getElem?_take, if_pos h1, at_ i (by omega)]
    rfl
  · rw [if_neg h1, List.getElem?_append_right (by omega), l1]
    by_cases h2 : i = a + 1
    · subst h2
      rw [if_pos rfl, Nat.sub_self]
      rfl
    · rw [if_neg h2, List.getElem?_append_right (by show 1 ≤ _; omega), List.getElem?_drop, show a + 1 + (i - (a + 1) - [(99 : Int)].length) = i - 1 by show a + 1 + (i - (a + 1) - 1) = i - 1; omega, at_ (i - 1) (by omega)]
      show ((i - 1 : Nat) : Int) = (i : Int) - 1
      omega
def mF (ps : List Int) (a i : Nat) : Int × Int := ((i : Int) + 1, if (i : Int) + 1 = (a : Int) + 1 then 99 else ps.getD i 0)
theorem range_split {α : Type} {f : Nat → α} {n a : Nat} (h : a < n) : (List.range n).map f = (List.range a).map f ++ f a :: (List.range (n - a - 1)).map fun i => f (a + 1 + i) := by
  obtain ⟨m, rfl⟩ : ∃ m, n = a + 1 + m := ⟨n - (a + 1), by omega⟩
  rw [show a + 1 + m - a - 1 = m by omega, List.range_add, List.range_succ, List.map_append, List.map_append, List.map_map, List.append_assoc]
  rfl
theorem put_names {ps : List Int} (hP : Par ps) {a : Nat} (h : a < ps.length) : (prs (putL ps ((a : Int) + 1)) (nm2 ps.length a)).Perm ((List.range ps.length).map (mF ps a) ++ [(99, ps.getD a 0)]) := by
  have ab := hP.at h
  have at_ : ∀ i, i ≤ ps.length → (putL ps ((a : Int) + 1)).getD i 0 = pF ps a i := fun i hi => by rw [put_eq hP h, getD_map (by omega)]
  unfold prs
  rw [put_lenP hP h, range_split (n := ps.length + 1) (a := a) (by omega), range_split (f := mF ps a) h, show ps.length + 1 - a - 1 = (ps.length - a - 1) + 1 by omega, List.range_succ_eq_map, List.map_cons, List.map_map]
  have e1 : ((List.range a).map fun k => ((nm2 ps.length a).getD (k + 1) 0, (nm2 ps.length a).getD ((putL ps ((a : Int) + 1)).getD k 0).toNat 0)) = (List.range a).map (mF ps a) := List.map_congr_left fun i hi => by
    have hi : i < a := List.mem_range.mp hi
    have b := hP.at (k := i) (by omega)
    rw [at_ i (by omega), show pF ps a i = ps.getD i 0 from if_pos hi, nm2_at h (by omega), nm2_at h (by omega), if_pos (by omega), if_pos (by omega)]
    unfold mF
    rw [if_neg (by omega)]
    congr 1
    omega
  have e2 : ((nm2 ps.length a).getD (a + 1) 0, (nm2 ps.length a).getD ((putL ps ((a : Int) + 1)).getD a 0).toNat 0) = (99, ps.getD a 0) := by
    have : pF ps a a = ps.getD a 0 := by unfold pF; rw [if_neg (by omega), if_pos rfl]
    rw [at_ a (by omega), this, nm2_at h (by omega), nm2_at h (by omega), if_neg (by omega), if_pos rfl, if_pos (by omega)]
    congr 1
    omega
  have e3 : ((nm2 ps.length a).getD (a + 1 + 0 + 1) 0, (nm2 ps.length a).getD ((putL ps ((a : Int) + 1)).getD (a + 1 + 0) 0).toNat 0) = mF ps a a := by
    have : pF ps a (a + 1) = (a : Int) + 1 := by unfold pF; rw [if_neg (by omega), if_neg (by omega), if_pos rfl]
    rw [show a + 1 + 0 = a + 1 from rfl, at_ (a + 1) (by omega), this, nm2_at h (by omega), nm2_at h (by omega), if_neg (by omega), if_neg (by omega), if_neg (by omega), if_pos (by omega)]
    unfold mF
    rw [if_pos rfl]
    congr 1
    omega
  have e4 : ((List.range (ps.length - a - 1)).map ((fun i => ((nm2 ps.length a).getD (a + 1 + i + 1) 0, (nm2 ps.length a).getD ((putL ps ((a : Int) + 1)).getD (a + 1 + i) 0).toNat 0)) ∘ Nat.succ)) = (List.range (ps.length - a - 1)).map fun i => mF ps a (a + 1 + i) := List.map_congr_left fun i hi => by
    have hi : i < ps.length - a - 1 := List.mem_range.mp hi
    have b := hP.at (k := a + 1 + i) (by omega)
    show ((nm2 ps.length a).getD (a + 1 + (i + 1) + 1) 0, (nm2 ps.length a).getD ((putL ps ((a : Int) + 1)).getD (a + 1 + (i + 1)) 0).toNat 0) = _
    have : pF ps a (a + 1 + (i + 1)) = if (a : Int) + 1 ≤ ps.getD (a + 1 + i) 0 then ps.getD (a + 1 + i) 0 + 1 else ps.getD (a + 1 + i) 0 := by
      unfold pF
      rw [if_neg (by omega), if_neg (by omega), if_neg (by omega), show a + 1 + (i + 1) - 1 = a + 1 + i by omega]
    have em : mF ps a (a + 1 + i) = (((a + 1 + i : Nat) : Int) + 1, ps.getD (a + 1 + i) 0) := by unfold mF; rw [if_neg (by omega)]
    rw [at_ _ (by omega), this, em, nm2_at (i := a + 1 + (i + 1) + 1) h (by omega), if_neg (by omega), if_neg (by omega)]
    by_cases h3 : (a : Int) + 1 ≤ ps.getD (a + 1 + i) 0
    · rw [if_pos h3, nm2_at h (by omega), if_neg (by omega), if_neg (by omega)]
      congr 1 <;> omega
    · rw [if_neg h3, nm2_at h (by omega), if_pos (by omega)]
      congr 1 <;> omega
  rw [e1, e2, e3, e4, List.append_assoc]
  refine List.Perm.append_left _ ?_
  exact (List.perm_append_singleton _ _).symm
end K10
set_option Elab.async false
set_option linter.all false
set_option maxRecDepth 100000
set_option maxHeartbeats 4000000
namespace DL
open PySem L2 PyProof.Rows
/-- one state knows less than another -/
def Fg : Sg → Sg → Prop
  | [], [] => True
  | none :: a, _ :: b => Fg a b
  | some d :: a, e :: b => e = some d ∧ Fg a b
  | _, _ => False
theorem Fg.len : ∀ {a b : Sg}, Fg a b → a.length = b.length
  | [], [], _ => rfl
  | [], _ :: _, h => h.elim
  | none :: a, _ :: b, h => congrArg Nat.succ (Fg.len (a := a) h)
  | some d :: a, e :: b, h => congrArg Nat.succ (Fg.len h.2)
  | none :: _, [], h => h.elim
  | some _ :: _, [], h => h.elim
theorem Fg.at : ∀ {a b : Sg}, Fg a b → ∀ (i : Nat) (d : D), a[i]? = some (some d) → b[i]? = some (some d)
  | [], [], _, i, d, e => e
  | [], _ :: _, h, _, _, _ => h.elim
  | none :: a, _ :: b, h, 0, d, e => by cases e
  | none :: a, _ :: b, h, i + 1, d, e => Fg.at (a := a) (b := b) h i d e
  | some x :: a, y :: b, h, 0, d, e => by rw [h.1]; exact e
  | some x :: a, y :: b, h, i + 1, d, e => Fg.at h.2 i d e
  | none :: _, [], h, _, _, _ => h.elim
  | some _ :: _, [], h, _, _, _ => h.elim
section
variable {X : Cx} {sg sg1 : Sg} {M : Mem} {E : EndsD}
theorem wss_fg {sts : List Stmt} (f : Fg sg1 sg) (h : WSs X sts sg1 M E) : WSs X sts sg M E := fun σ H G w s => h σ H G w (s.forget f.len f.at)
theorem ws_fg {st : Stmt} (f : Fg sg1 sg) (h : WS X st sg1 M E) : WS X st sg M E := fun σ H G w s => h σ H G w (s.forget f.len f.at)
end
/-! ### lists of pairs, compared -/
theorem toPy_pairs_lay : ∀ qs : List (Int × Int), PyData.canLayAll0 (toPyA (qs.map pairD)) = true
  | [] => rfl
  | q :: qs => by
    show (PyData.canLay0 (toPy (pairD q)) && PyData.canLayAll0 (toPyA (qs.map pairD))) = true
    rw [toPy_pairs_lay qs]
    rfl
theorem plA_pairs : ∀ qs : List (Int × Int), plA (qs.map pairD) = true
  | [] => rfl
  | q :: qs => by
    show (pl (pairD q) && plA (qs.map pairD)) = true
    rw [plA_pairs qs]
    rfl
theorem toPy_pairs_depth : ∀ qs : List (Int × Int), PyData.depthAll (toPyA (qs.map pairD)) ≤ 4
  | [] => by decide
  | q :: qs => by
    have := toPy_pairs_depth qs
    show max (PyData.depth (toPy (pairD q))) (PyData.depthAll (toPyA (qs.map pairD))) ≤ 4
    have e : PyData.depth (toPy (pairD q)) ≤ 4 := by
      show PyData.depth (.tuple [.int q.1, .int q.2]) ≤ 4
      exact Nat.le_of_ble_eq_true rfl
    omega
theorem shaped_pairs (qs : List (Int × Int)) : SeqAt.shaped (.list (toPyA (qs.map pairD))) = true := by
  refine Bool.and_eq_true_iff.mpr ⟨toPy_pairs_lay qs, decide_eq_true ?_⟩
  have := toPy_pairs_depth qs
  show PyData.depthAll (toPyA (qs.map pairD)) + 1 ≤ 64
  omega
theorem eqv_pairs (qs : List (Int × Int)) : PyData.eqv (.list (toPyA (qs.map pairD))) (.list (toPyA (qs.map pairD))) = true := SeqAt.eqv_refl _ (toPy_pairs_lay qs)
theorem srt_eq {qs rs : List (Int × Int)} (h1 : SrtP qs) (h2 : SrtP rs) (h : qs.Perm rs) : qs = rs := by
  refine List.Perm.eq_of_pairwise (fun a b _ _ e1 e2 => ?_) h1 h2 h
  have n1 : ¬ SrtO.lexB b a = true := by rw [e1]; exact Bool.false_ne_true
  have n2 : ¬ SrtO.lexB a b = true := by rw [e2]; exact Bool.false_ne_true
  rw [SrtO.lexB_iff] at n1 n2
  have a1 : a.1 = b.1 := by omega
  have a2 : a.2 = b.2 := by omega
  exact Prod.ext a1 a2
end DL
namespace K10
open PySem L2 PyProof.Rows DL
/-! ### what the law says of one value -/
def fineB (x : D) : Bool := isT x && (decide (((itemsD x).length : Int) < 13) && ((List.range (itemsD x).length).all fun k => wholeB ((itemsD x).getD k .non) 0 (k : Int)))
theorem areP_fine (x : D) : areP x = fineB x := by
  unfold areP fineB
  rw [Bool.and_assoc, Bool.and_assoc]
  congr 1
  congr 1
  · exact decide_eq_decide.mpr ⟨fun h => by omega, fun h => by omega⟩
  rw [Bool.eq_iff_iff, Bool.and_eq_true_iff, List.all_eq_true, List.all_eq_true, List.all_eq_true]
  generalize itemsD x = ds
  constructor
  · intro ⟨h1, h2⟩ k hk
    have hk := List.mem_range.mp hk
    have e : ds.getD k .non = ds[k] := by rw [List.getD_eq_getElem?_getD, List.getElem?_eq_getElem hk]; rfl
    have m := List.getElem_mem hk
    rw [e]
    exact Bool.and_eq_true_iff.mpr ⟨h1 _ m, h2 _ (List.mem_mapIdx.mpr ⟨k, hk, rfl⟩)⟩
  · intro h
    refine ⟨fun d hd => ?_, fun b hb => ?_⟩
    · obtain ⟨k, hk, rfl⟩ := List.mem_iff_getElem.mp hd
      have e : ds.getD k .non = ds[k] := by rw [List.getD_eq_getElem?_getD, List.getElem?_eq_getElem hk]; rfl
      have := h k (List.mem_range.mpr hk)
      rw [e] at this
      exact (Bool.and_eq_true_iff.mp this).1
    · obtain ⟨k, hk, rfl⟩ := List.mem_mapIdx.mp hb
      have e : ds.getD k .non = ds[k] := by rw [List.getD_eq_getElem?_getD, List.getElem?_eq_getElem hk]; rfl
      have := h k (List.mem_range.mpr hk)
      rw [e] at this
      exact (Bool.and_eq_true_iff.mp this).2
theorem canDrop_law (ps ms : List Int) (keep k above : Int) (ha : above = ms.getD (ps.getD (k - 1).toNat 0).toNat 0) : canDrop ps ms keep k = ((childrenL ps k).all fun c => decide (above - ms.getD c.toNat 0 ≤ keep) && decide (ms.getD c.toNat 0 ≤ above)) := by
  subst ha
  unfold canDrop
  congr 1
  funext c
  congr 1
  exact decide_eq_decide.mpr ⟨fun h => by omega, fun h => by omega⟩
theorem children_range (ps : List Int) (k : Int) : childrenL ps k = ((List.range ps.length).filter fun i => decide (ps.getD i 0 = k)).map fun i : Nat => (i : Int) + 1 := by
  unfold childrenL
  rw [zip_range, List.filter_map, List.map_map]
  rfl
theorem areP_par {ps : List Int} (hP : Par ps) (h : ps.length ≤ 12) : areP (tI ps) = true := by
  rw [areP_fine]
  unfold fineB
  refine Bool.and_eq_true_iff.mpr ⟨rfl, Bool.and_eq_true_iff.mpr ⟨decide_eq_true ?_, List.all_eq_true.mpr fun k hk => ?_⟩⟩
  · show ((ps.map D.int).length : Int) < 13
    rw [List.length_map]; omega
  · have hk : k < (ps.map D.int).length := List.mem_range.mp hk
    rw [List.length_map] at hk
    have b := hP.at hk
    have e : (itemsD (tI ps)).getD k .non = .int (ps.getD k 0) := by
      show (ps.map D.int).getD k .non = _
      rw [List.getD_eq_getElem?_getD, List.getElem?_map, List.getElem?_eq_getElem hk, getD_at hk]
      rfl
    rw [e]
    exact Bool.and_eq_true_iff.mpr ⟨rfl, Bool.and_eq_true_iff.mpr ⟨decide_eq_true b.1, decide_eq_true b.2⟩⟩
end K10
set_option Elab.async false
set_option linter.all false
set_option maxRecDepth 100000
set_option maxHeartbeats 4000000
namespace K10
open PySem L2 PyProof.Rows DL
abbrev NL : List Str := ["script", "tape", "turn", "parents", "values", "value", "k", "fine", "moments", "keep", "parent", "depth", "here", "step", "children", "j", "other", "above", "child", "names", "mine", "who", "whom", "told", "name"]
structure CL (P : Program) (w : World) (K : PySem.W.Frag) (mg : Str → Option Value) (base : Heap) : Prop where
  B : Blt mg
  tape : Cal P w K mg base 1 "_law_tape" 1 S_tape
  take : Cal P w K mg base 2 "_law_take" 2 S_take
  parents : Cal P w K mg base 3 "_law_parents" 2 S_parents
  named : Cal P w K mg base 1 "_law_named" 2 S_named
  same : Cal P w K mg base 3 "_law_same" 2 (S_same 3)
  whole : Cal P w K mg base 1 "_law_whole" 3 S_lwhole
  spoilt : Cal P w K mg base 4 "_law_spoilt" 2 (S_spoilt 8 2)
  arep : Cal P w K mg base 2 "are_parents" 1 S_are_parents
  depth : Cal P w K mg base 1 "depth_in" 2 S_depth_in
  children : Cal P w K mg base 1 "children_in" 2 S_children_in
  tell : Cal P w K mg base 1 "can_tell" 3 S_can_tell
  drop : Cal P w K mg base 2 "can_drop" 4 S_can_drop
  dropped : Cal P w K mg base 1 "dropped" 2 S_dropped
  put_in : Cal P w K mg base 1 "put_in" 2 S_put_in
  even : Cal P w K mg base 1 "even_moment" 4 S_even_moment
abbrev XL (P : Program) (w : World) (K : PySem.W.Frag) (mg : Str → Option Value) (base : Heap) (f : Addr) (cdv : Value) (A : Around) (outer : List Env) (s : Shared) (H : Hp) (E : XK) : Cx := (cxOf CX0 P w K mg base NL "law" (defScope s_law) f cdv A outer s H E).nox
/-- the body of one turn, of the loop over values, of the loop over places -/
def forBody : Stmt → List Stmt
  | .For _ _ b _ _ => b
  | _ => []
abbrev turnB : List Stmt := forBody ((defBody s_law).getD 3 (.Pass ⟨0, 0, 0, 0⟩))
abbrev valB : List Stmt := forBody (turnB.getD 2 (.Pass ⟨0, 0, 0, 0⟩))
abbrev plcB : List Stmt := forBody (turnB.getD 5 (.Pass ⟨0, 0, 0, 0⟩))
section
variable {P : Program} {w : World} {K : PySem.W.Frag} {mg : Str → Option Value} {base : Heap} {f : Addr} {cdv : Value} {A : Around} {outer : List Env} {s : Shared} {H : Hp} {E : XK} {sg : Sg} {M : Mem} {pos pos' : Pos}
theorem ee_same {a b : Expr} {x y : D} (L : CL P w K mg base) (hr : Room 4 (XL P w K mg base f cdv A outer s H E).A) (ha : EE (XL P w K mg base f cdv A outer s H E) a sg M x) (hb : EE (XL P w K mg base f cdv A outer s H E) b sg M y) (hx : wf 900 3 x = true) (hy : wf 900 3 y = true) (na : nst a = true := by rfl) (nb : nst b = true := by rfl) : EE (XL P w K mg base f cdv A outer s H E) (.Call (.Name "_law_same" pos) [a, b] [] pos') sg M (.bl (eqD x y)) :=
  we_call L.same (hr.mono (by omega)) (EA.to (ea_cons ha (ea_cons hb ea_nil (hs := star1 nb)) (hs := star1 na)) ⟨rfl, x, y, rfl, hx, hy, rfl, rfl⟩) (he := star1 na) (hpl := starN (by show (nst b && true) = true; rw [nb]; rfl))
theorem items_of {x : D} {ds : List D} (h : x = .tup ds) : itemsD x = ds := by subst h; rfl
/-- one value -/
theorem a_value {v : D} {ED : EndsD} (L : CL P w K mg base) (hr : Room 4 (XL P w K mg base f cdv A outer s H E).A) (p : Addr) (ps : List Int) (hw : wf 20 5 v = true) (q : ∀ fv : Option D, ED.nx [none, some (.ptr p), none, some (tI ps), none, some v, none, fv, none, none, none, none, none, none, none, none, none, none, none, none, none, none, none, none, none] M) :
    WSs (XL P w K mg base f cdv A outer s H E) valB [none, some (.ptr p), none, some (tI ps), none, some v, none, none, none, none, none, none, none, none, none, none, none, none, none, none, none, none, none, none, none] M ED := by
  have nd := sc_law.nd
  have B := L.B
  have hpl := wf_pl hw
  have lv := pl_lk M hpl
  refine wss_cons (ws_set 7 nd (EE.to (d := .bl (fineB v)) (ee_and (ee_isT B.isinstance B.tuple (ee_v 5 rfl) lv) fun h1 => ?_) ?_))
  · obtain ⟨ds, rfl⟩ := isT_of h1
    obtain ⟨hz, hd⟩ := wf_tup hw
    refine ee_and (ee_lt (ee_cb call_len B.len bi_len (ea_cons (ee_v 5 rfl) ea_nil) (cd_lenT ⟨rfl, rfl⟩)) ee_int) fun h2 => we_one ?_
    refine ee_cb (cr_all rfl) B.all bi_all (ea_cons (ee_lc1 6 (ds := rngD 0 ds.length) (fun d => .bl (wholeB (ds.getD (intOf d).toNat .non) 0 (intOf d))) rfl nd (wi_rng1 B.range (EA.to (ea_cons (ee_cb call_len B.len bi_len (ea_cons (ee_v 5 rfl) ea_nil) (cd_lenT ⟨rfl, rfl⟩)) ea_nil) ⟨_, rfl, by omega, by omega, rfl, rfl, trivial⟩)) (by rw [rngD_len]; exact lt1000 (by omega)) fun j d hd' s H C cl fp => ?_) ea_nil) (cd_all (bs := (List.range ds.length).map fun k => wholeB (ds.getD k .non) 0 (k : Int)) (.inl ?_) ?_)
    · obtain ⟨hj, rfl⟩ := rngD_at hd'
      have e : ds.getD (intOf (.int (0 + (j : Int)))).toNat .non = ds[j] := by
        rw [show (intOf (.int (0 + (j : Int)))).toNat = j by show (0 + (j : Int)).toNat = j; omega, List.getD_eq_getElem?_getD, List.getElem?_eq_getElem hj]
        rfl
      rw [e]
      refine we_call L.whole (hr.mono (by omega)) (EA.to (ea_cons (ee_ix ix_tup (ee_v 5 rfl) (ee_v 6 rfl) (od_ixT (d := ds[j]) ?_ ⟨rfl, rfl⟩)) (ea_cons ee_int (ea_cons (ee_v 6 rfl) ea_nil))) ⟨rfl, _, _, _, rfl, wf_pl (hd _ (List.getElem_mem hj)), rfl, rfl⟩)
      rw [Int.zero_add]
      exact atI_nat (List.getElem?_eq_getElem hj)
    · unfold rngD
      rw [List.map_map, List.map_map]
      refine congrArg D.lst (List.map_congr_left fun k _ => ?_)
      show D.bl (wholeB (ds.getD (0 + (k : Int)).toNat .non) 0 (0 + (k : Int))) = _
      rw [show (0 + (k : Int)).toNat = k by omega, Int.zero_add]
      rfl
    · refine ⟨?_, rfl⟩
      rw [List.all_map]
      rfl
  · refine wss_one (ws_ifE (k := false) ((et_not (et_val (ee_same L hr (we_call L.arep (hr.mono (by omega)) (EA.to (ea_cons (ee_v 5 rfl) ea_nil) ⟨rfl, v, rfl, ⟨hpl, ?_⟩, rfl, rfl⟩)) (ee_v 7 rfl) rfl rfl))).is ?_) (fun h => Bool.noConfusion h) fun _ => wss_nil (q _))
    · cases v <;> first | exact Nat.lt_of_le_of_lt (show _ ≤ 20 from (wf_tup hw).1) (by decide) | exact Nat.le_of_ble_eq_true rfl
    · rw [areP_fine]
      rw [eqD_iff.mpr rfl]
      rfl
end
end K10
set_option Elab.async false
set_option linter.all false
set_option maxRecDepth 100000
set_option maxHeartbeats 4000000
namespace K10
open PySem L2 PyProof.Rows DL
def ifBody : Stmt → List Stmt
  | .If _ a _ _ => a
  | _ => []
abbrev upB : List Stmt := ifBody (plcB.getD 6 (.Pass ⟨0, 0, 0, 0⟩))
section
variable {P : Program} {w : World} {K : PySem.W.Frag} {mg : Str → Option Value} {base : Heap} {f : Addr} {cdv : Value} {A : Around} {outer : List Env} {s : Shared} {H : Hp} {E : XK} {sg : Sg} {M : Mem} {pos pos' : Pos}
theorem children_rng (ps : List Int) (k : Int) : ((rngD 0 ps.length).filter fun d => decide (ps.getD (intOf d).toNat 0 = k)).map (fun d => D.int (intOf d + 1)) = (childrenL ps k).map .int := by
  unfold rngD
  rw [children_range, List.filter_map, List.map_map, List.map_map]
  have e : ((fun d => decide (ps.getD (intOf d).toNat 0 = k)) ∘ fun i : Nat => D.int (0 + (i : Int))) = fun i : Nat => decide (ps.getD i 0 = k) := by
    funext i
    show decide (ps.getD (0 + (i : Int)).toNat 0 = k) = _
    rw [show (0 + (i : Int)).toNat = i by omega]
  rw [e]
  refine List.map_congr_left fun i _ => ?_
  show D.int (0 + (i : Int) + 1) = D.int ((i : Int) + 1)
  rw [Int.zero_add]
theorem wf_dt {c k : Int} {ps : List Int} (h : (childrenL ps k).length ≤ ps.length) (hz : ps.length ≤ 8) : wf 900 3 (.tup [.int c, .tup ((childrenL ps k).map .int)]) = true := tup_wf (by show 2 ≤ 900; omega) fun d hd => by
  simp only [List.mem_cons, List.not_mem_nil, or_false] at hd
  rcases hd with rfl | rfl
  · rfl
  · exact wf_tI (n := 0) (by omega)
theorem a_place {ED : EndsD} (L : CL P w K mg base) (hr : Room 4 (XL P w K mg base f cdv A outer s H E).A) {p : Addr} {ps ms : List Int} {k keep : Int} (hP : Par ps) (hz : ps.length ≤ 8) (hm : ms.length = ps.length + 1) (hT : Tp M p) (h0 : 0 ≤ k) (h1 : k ≤ ps.length)
    (up : ∀ M1, Tp M1 p → 0 < k → WSs (XL P w K mg base f cdv A outer s H E) upB [none, some (.ptr p), none, some (tI ps), none, none, some (.int k), none, some (.lst (ms.map .int)), some (.int keep), none, none, none, none, some (.lst ((childrenL ps k).map .int)), none, none, none, none, none, none, none, none, none, none] M1 ED)
    (q : ∀ M1 sg1, Tp M1 p → Fg [none, some (.ptr p), none, some (tI ps), none, none, none, none, some (.lst (ms.map .int)), some (.int keep), none, none, none, none, none, none, none, none, none, none, none, none, none, none, none] sg1 → ED.nx sg1 M1) :
    WSs (XL P w K mg base f cdv A outer s H E) plcB [none, some (.ptr p), none, some (tI ps), none, none, some (.int k), none, some (.lst (ms.map .int)), some (.int keep), none, none, none, none, none, none, none, none, none, none, none, none, none, none, none] M ED := by
  have nd := sc_law.nd
  have B := L.B
  refine wss_cons (ws_par 11 12 rfl nd (EA.to (ea_cons ee_int (ea_cons (ee_v 6 rfl) ea_nil)) ⟨_, _, rfl, ?_⟩))
  refine wss_cons (ws_for PassesOwn.never rfl (Qi := ItQ (rngD 0 20) M) (wi_rng1 B.range (EA.to (ea_cons ee_int ea_nil) ⟨20, rfl, by decide, by decide, rfl, rfl, trivial⟩)) fun ds C M0 ⟨e1, e2, hC⟩ => ?_)
  subst e1; subst e2
  refine ⟨fun i sg1 M1 => M1 = M0 ∧ ∃ (c j : Int) (o : Option D), sg1 = [none, some (.ptr p), none, some (tI ps), none, none, some (.int k), none, some (.lst (ms.map .int)), some (.int keep), none, some (.int c), some (.int j), o, none, none, none, none, none, none, none, none, none, none, none] ∧ 0 ≤ j ∧ j ≤ ps.length ∧ c + depthN ps j.toNat j.toNat = depthN ps k.toNat k.toNat ∧ (j = 0 ∨ j + (i : Int) ≤ k), ⟨rfl, 0, k, none, rfl, h0, h1, by omega, .inr (by omega)⟩, fun i sg1 M1 ⟨e, _⟩ => by rw [e]; exact hC, fun i d sg1 M1 hd ⟨e1, c, j, o, e2, j0, j1, ed, ej⟩ => ?_, fun sg1 M1 ⟨e1, c, j, o, e2, j0, j1, ed, ej⟩ => ?_⟩
  · subst e1; subst e2
    refine ⟨_, _, wg_name 13 nd, wss_one (ws_asg (we_if (ET.to (et_gt (ee_v 12 rfl) ee_int) ⟨fun h => ?_, fun h => ?_⟩)))⟩
    · have hj : 0 < j := of_decide_eq_true h
      have a := hP.at (k := (j - 1).toNat) (by omega)
      refine EE.to (ee_tup (ea_cons (ee_add (ee_v 11 rfl) ee_int) (ea_cons (ee_ix ix_tup (ee_v 3 rfl) (ee_sub (ee_v 12 rfl) ee_int) (od_ixT (atI_ints (by omega) (by omega)) ⟨rfl, rfl⟩)) ea_nil))) ⟨_, _, wg_tup rfl (wgs_cons (wg_name 11 nd) (wgs_cons (wg_name 12 nd) wgs_nil)), rfl, _, _, some d, rfl, a.1, by omega, ?_, ?_⟩
      · rw [← ed]
        have e5 : j.toNat = (j.toNat - 1) + 1 := by omega
        have e6 : depthN ps j.toNat j.toNat = 1 + depthN ps (j.toNat - 1) (ps.getD (j.toNat - 1) 0).toNat := by
          rw [e5]
          show (if (j.toNat - 1) + 1 = 0 then (0 : Int) else _) = _
          rw [if_neg (by omega)]
          rfl
        have e7 : (j - 1).toNat = j.toNat - 1 := by omega
        rw [e6, e7, depthN_more hP (j.toNat - 1) (ps.getD (j.toNat - 1) 0).toNat _ (by rw [e7] at a; omega) (Nat.le_refl _) (by rw [e7] at a; omega)]
        omega
      · right
        push_cast
        omega
    · have hj : ¬ 0 < j := of_decide_eq_false h
      exact EE.to (ee_tup (ea_cons (ee_v 11 rfl) (ea_cons (ee_v 12 rfl) ea_nil))) ⟨_, _, wg_tup rfl (wgs_cons (wg_name 11 nd) (wgs_cons (wg_name 12 nd) wgs_nil)), rfl, _, _, some d, rfl, j0, j1, ed, .inl (by omega)⟩
  · subst e1; subst e2
    rw [rngD_len] at ej
    have j00 : j = 0 := by omega
    subst j00
    have ec : c = depthN ps k.toNat k.toNat := by rw [← ed]; show c = c + 0; omega
    subst ec
    refine wss_cons (ws_setLcE 14 [("j", 15)] rfl nd (wi_rng1 B.range (EA.to (ea_cons (ee_cb call_len B.len bi_len (ea_cons (ee_v 3 rfl) ea_nil) (cd_lenT ⟨rfl, rfl⟩)) ea_nil) ⟨_, rfl, by rw [List.length_map]; omega, by rw [List.length_map]; omega, by rw [List.length_map]; rfl, rfl, trivial⟩)) (LcOk.to (ok_lc1if (ds := rngD 0 ps.length) 15 (fun d => decide (ps.getD (intOf d).toNat 0 = k)) (fun d => .int (intOf d + 1)) rfl nd (by rw [rngD_len]; exact lt1000 (by omega)) (fun j d hd s H C cl fp => ?_) fun j d hd _ s H C cl fp => ?_) ?_))
    · obtain ⟨hj, rfl⟩ := rngD_at hd
      refine (et_eqI (ee_ix ix_tup (ee_v 3 rfl) (ee_v 15 rfl) (od_ixT (atI_ints (by omega) (by omega)) ⟨rfl, rfl⟩)) (ee_v 6 rfl)).is ?_
      rfl
    · obtain ⟨hj, rfl⟩ := rngD_at hd
      exact ee_add (ee_v 15 rfl) ee_int
    rw [children_rng]
    have cl := children_len ps k
    refine wss_cons (ws_ifE (k := false) ((et_not (et_val (ee_same L hr (ee_tup (ea_cons (we_call L.depth (hr.mono (by omega)) (EA.to (ea_cons (ee_v 3 rfl) (ea_cons (ee_v 6 rfl) ea_nil)) ⟨rfl, ps, k, rfl, hP, h0, h1, rfl, rfl⟩)) (ea_cons (we_call L.children (hr.mono (by omega)) (EA.to (ea_cons (ee_v 3 rfl) (ea_cons (ee_v 6 rfl) ea_nil)) ⟨rfl, ps, k, rfl, by omega, rfl, rfl⟩)) ea_nil))) (ee_tup (ea_cons (ee_v 11 rfl) (ea_cons (ee_ct call_tuple_of B.tuple bi_tuple (ea_cons (ee_v 14 rfl) ea_nil) (cd_tupL (.inl rfl) ⟨rfl, rfl⟩)) ea_nil))) (wf_dt cl hz) (wf_dt cl hz)))).is ?_) (fun h => Bool.noConfusion h) fun _ => wss_nil ?_)
    · rw [eqD_iff.mpr rfl]; rfl
    obtain ⟨o0, hM, ho⟩ := hT
    refine wss_cons (ws_set 16 nd (we_call L.take (hr.mono (by omega)) (EA.to (ea_cons (ee_v 1 rfl) (ea_cons ee_int ea_nil)) ⟨rfl, p, 30, rfl, ⟨o0, hM, ho⟩, by decide, by decide, fun r o r0 r1 hO => ?_⟩)))
    have hT1 : Tp (updM M1 p (some o)) p := ⟨o, updM_same, hO⟩
    have hk : k.toNat < ms.length := by omega
    refine wss_cons (ws_ifE (k := false) ((et_not (et_val (ee_same L hr (we_call L.tell (hr.mono (by omega)) (EA.to (ea_cons (ee_ix ix_list (ee_v 8 rfl) (ee_v 6 rfl) (od_ixL (.inl rfl) (atI_ints h0 (by omega)) ⟨rfl, rfl⟩)) (ea_cons (ee_v 9 rfl) (ea_cons (ee_v 16 rfl) ea_nil))) ⟨rfl, _, _, _, rfl, rfl, rfl⟩)) (ee_and (ee_le (ee_sub (ee_ix ix_list (ee_v 8 rfl) (ee_v 6 rfl) (od_ixL (.inl rfl) (atI_ints h0 (by omega)) ⟨rfl, rfl⟩)) (ee_v 9 rfl)) (ee_v 16 rfl)) fun _ => we_one (ee_le (ee_v 16 rfl) (ee_ix ix_list (ee_v 8 rfl) (ee_v 6 rfl) (od_ixL (.inl rfl) (atI_ints h0 (by omega)) ⟨rfl, rfl⟩)))) rfl rfl))).is ?_) (fun h => Bool.noConfusion h) fun _ => wss_nil ?_)
    · rw [eqD_iff.mpr rfl]; rfl
    refine wss_one (ws_ifE (et_gt (ee_v 6 rfl) ee_int) (fun h => wss_fg ?_ (up _ hT1 (of_decide_eq_true h))) fun _ => wss_nil (q _ _ hT1 ?_))
    · exact ⟨rfl, rfl, rfl, rfl, rfl, rfl, trivial⟩
    · exact ⟨rfl, rfl, rfl, rfl, trivial⟩
end
end K10
set_option Elab.async false
set_option linter.all false
set_option maxRecDepth 100000
set_option maxHeartbeats 4000000
namespace K10
open PySem L2 PyProof.Rows DL
theorem rngD_nm (n : Nat) : rngD 0 ((n : Int) + 1).toNat = (nm n).map .int := by
  unfold rngD nm
  rw [List.map_map, show ((n : Int) + 1).toNat = n + 1 by omega]
  refine List.map_congr_left fun i _ => ?_
  show D.int (0 + (i : Int)) = D.int (i : Int)
  rw [Int.zero_add]
theorem nm_len (n : Nat) : (nm n).length = n + 1 := by unfold nm; simp
theorem ok_tI {ps : List Int} (h : ps.length < 900) : Ok (tI ps) := ⟨wf_pl (wf_tI (L := 900) (n := 0) (by omega)), by show (ps.map D.int).length < 1000; rw [List.length_map]; omega⟩
theorem prs_len (ps ns : List Int) : (prs ps ns).length = ps.length := by unfold prs; simp
/-- the pairs of one list, picked and changed -/
theorem pairs_if (p : Int × Int → Bool) (g : Int × Int → Int × Int) (qs : List (Int × Int)) : ((qs.map DL.pairD).filter fun d => p (intOf (fstD d), intOf (sndD d))).map (fun d => DL.pairD (g (intOf (fstD d), intOf (sndD d)))) = ((qs.filter p).map g).map DL.pairD := by
  rw [List.filter_map, List.map_map, List.map_map]
  rfl
theorem pairs_all (g : Int × Int → Int × Int) (qs : List (Int × Int)) : (qs.map DL.pairD).map (fun d => DL.pairD (g (intOf (fstD d), intOf (sndD d)))) = (qs.map g).map DL.pairD := by
  rw [List.map_map, List.map_map]
  rfl
theorem not_eqD {x y : D} (h : x = y) : (!eqD x y) = false := by rw [eqD_iff.mpr h]; rfl
theorem LcOk.pick {X : Cx} {scope : Scope} {vs : List Nat} {tg elt : Expr} {ifs : List Expr} {sg : Sg} {Qi : List D → (Mem → Prop) → Mem → Prop} {Q : D → Mem → Prop} (h : ∀ ds C M0, Qi ds C M0 → LcOk X scope vs tg elt ifs sg (ItQ ds M0) Q ∧ C M0) : LcOk X scope vs tg elt ifs sg Qi Q := fun ds C M0 q => (h ds C M0 q).1 ds C M0 ⟨rfl, rfl, (h ds C M0 q).2⟩
section
variable {P : Program} {w : World} {K : PySem.W.Frag} {mg : Str → Option Value} {base : Heap} {f : Addr} {cdv : Value} {A : Around} {outer : List Env} {s : Shared} {H : Hp} {E : XK} {sg : Sg} {M : Mem} {pos pos' : Pos}
/-- sorted lists of pairs, compared -/
theorem od_srt {qs rs : List (Int × Int)} {Q : D → Mem → Prop} (h1 : SrtP qs) (h2 : SrtP rs) (h : qs.Perm rs) (q : Q (.bl false) M) : OpD K (rNeD K) (.lst (qs.map DL.pairD)) (.lst (rs.map DL.pairD)) M Q := by
  have e := srt_eq h1 h2 h
  subst e
  refine od_neD (.inr ⟨_, .inl rfl, plA_pairs qs, rfl⟩) (.inr ⟨_, .inl rfl, plA_pairs qs, rfl⟩) (shaped_pairs qs) (shaped_pairs qs) ?_
  rw [eqv_pairs]
  exact q
abbrev gD (k ab : Int) : Int × Int → Int × Int := fun q => (q.1, if q.2 = k then ab else q.2)
abbrev gP (k : Int) : Int × Int → Int × Int := fun q => (q.1, if q.1 = k then 99 else q.2)
theorem a_up {ED : EndsD} (L : CL P w K mg base) (hr : Room 4 (XL P w K mg base f cdv A outer s H E).A) {p : Addr} {ps ms : List Int} {k keep : Int} (hP : Par ps) (hz : ps.length ≤ 8) (hm : ms.length = ps.length + 1) (h0 : 0 < k) (h1 : k ≤ ps.length)
    (q : ∀ sg1, Fg [none, some (.ptr p), none, some (tI ps), none, none, none, none, some (.lst (ms.map .int)), some (.int keep), none, none, none, none, none, none, none, none, none, none, none, none, none, none, none] sg1 → ED.nx sg1 M) :
    WSs (XL P w K mg base f cdv A outer s H E) upB [none, some (.ptr p), none, some (tI ps), none, none, some (.int k), none, some (.lst (ms.map .int)), some (.int keep), none, none, none, none, some (.lst ((childrenL ps k).map .int)), none, none, none, none, none, none, none, none, none, none] M ED := by
  have nd := sc_law.nd
  have B := L.B
  have ab := hP.at (k := (k - 1).toNat) (by omega)
  obtain ⟨a, rfl⟩ : ∃ a : Nat, k = (a : Int) + 1 := ⟨(k - 1).toNat, by omega⟩
  have ea : ((a : Int) + 1 - 1).toNat = a := by omega
  rw [ea] at ab
  have ha : a < ps.length := by omega
  have mine1 : (droppedL ps ((a : Int) + 1)).length = ps.length - 1 := drop_len ha
  refine wss_cons (ws_set 17 nd (EE.to (ee_ix ix_list (ee_v 8 rfl) (ee_ix ix_tup (ee_v 3 rfl) (ee_sub (ee_v 6 rfl) ee_int) (od_ixT (atI_ints (by omega) (by omega)) ⟨rfl, rfl⟩)) (od_ixL (.inl rfl) (atI_ints (by rw [ea]; omega) (by rw [ea]; omega)) ⟨rfl, rfl⟩)) ?_))
  have cl := children_len ps ((a : Int) + 1)
  refine wss_cons (ws_ifE (k := false) ((et_not (et_val (ee_same L hr (we_call L.drop (hr.mono (by omega)) (EA.to (ea_cons (ee_v 3 rfl) (ea_cons (ee_ct call_tuple_of B.tuple bi_tuple (ea_cons (ee_v 8 rfl) ea_nil) (cd_tupL (.inl rfl) ⟨rfl, rfl⟩)) (ea_cons (ee_v 9 rfl) (ea_cons (ee_v 6 rfl) ea_nil)))) ⟨rfl, ps, ms, keep, _, rfl, hP, by omega, hm, by omega, h1, rfl, rfl⟩)) (ee_cb (cr_all rfl) B.all bi_all (ea_cons (ee_lc1 18 (ds := (childrenL ps ((a : Int) + 1)).map .int) (fun d => .bl (decide (ms.getD (ps.getD ((a : Int) + 1 - 1).toNat 0).toNat 0 - ms.getD (intOf d).toNat 0 ≤ keep) && decide (ms.getD (intOf d).toNat 0 ≤ ms.getD (ps.getD ((a : Int) + 1 - 1).toNat 0).toNat 0))) rfl nd (wi_lst (EE.to (ee_v 14 rfl) ⟨_, .inl rfl, rfl, rfl, .inl rfl⟩)) (by rw [List.length_map]; exact lt1000 (by omega)) fun j d hd s H C cl fp => ?_) ea_nil) (cd_all (bs := (childrenL ps ((a : Int) + 1)).map fun c => decide (ms.getD (ps.getD ((a : Int) + 1 - 1).toNat 0).toNat 0 - ms.getD c.toNat 0 ≤ keep) && decide (ms.getD c.toNat 0 ≤ ms.getD (ps.getD ((a : Int) + 1 - 1).toNat 0).toNat 0)) (.inl (by rw [List.map_map, List.map_map]; rfl)) ⟨rfl, rfl⟩)) rfl rfl))).is ?_) (fun h => Bool.noConfusion h) fun _ => wss_nil ?_)
  · obtain ⟨c, hc, rfl⟩ := at_map hd
    have hc2 := children_le (List.mem_of_getElem? hc)
    exact ee_and (ee_le (ee_sub (ee_v 17 rfl) (ee_ix ix_list (ee_v 8 rfl) (ee_v 18 rfl) (od_ixL (.inl rfl) (atI_ints (by omega) (by omega)) ⟨rfl, rfl⟩))) (ee_v 9 rfl)) fun _ => we_one (ee_le (ee_ix ix_list (ee_v 8 rfl) (ee_v 18 rfl) (od_ixL (.inl rfl) (atI_ints (by omega) (by omega)) ⟨rfl, rfl⟩)) (ee_v 17 rfl))
  · rw [canDrop_law ps ms keep _ _ rfl, List.all_map]
    exact not_eqD rfl
  rw [ea]
  refine wss_cons (ws_set 19 nd (we_lrng rfl B.list B.range (EE.to (ee_add (ee_cb call_len B.len bi_len (ea_cons (ee_v 3 rfl) ea_nil) (cd_lenT ⟨rfl, rfl⟩)) ee_int) ⟨_, rfl, by omega, by rw [List.length_map]; omega, ?_⟩)))
  rw [List.length_map, rngD_nm]
  have ln := nm_len ps.length
  -- who stays, by names
  refine wss_cons (ws_setLcE 20 [("who", 21), ("whom", 22)] rfl nd (Qi := fun ds C M0 => ∃ qs : List (Int × Int), ds = qs.map DL.pairD ∧ qs.Perm (prs ps (nm ps.length)) ∧ M0 = M ∧ C M0) (wi_lst (we_call L.named (hr.mono (by omega)) (EA.to (ea_cons (ee_v 3 rfl) (ea_cons (ee_v 19 rfl) ea_nil)) ⟨rfl, ps, nm ps.length, rfl, hP, by omega, by omega, fun qs hp _ => ⟨_, .inl rfl, qs, rfl, hp, rfl, .inl rfl⟩⟩))) (LcOk.pick fun ds C M0 ⟨qs, e1, hp, e2, hC⟩ => ⟨?_, hC⟩))
  subst e1
  refine LcOk.to (ok_lc2if (ds := qs.map DL.pairD) 21 22 (fun x y => !decide (intOf x = (a : Int) + 1)) (fun x y => DL.pairD (gD ((a : Int) + 1) (ps.getD a 0) (intOf x, intOf y))) rfl nd ?_ fun l d hd => ?_) ?_
  · rw [List.length_map, hp.length_eq, prs_len]; exact lt1000 (by omega)
  · obtain ⟨x, hx, rfl⟩ := at_map hd
    refine ⟨_, _, rfl, fun s H C cl fp => et_neI (ee_v 21 rfl) (ee_v 6 rfl), fun _ s H C cl fp => ee_tup (ea_cons (ee_v 21 rfl) (ea_cons (ee_if (et_eqI (ee_v 22 rfl) (ee_v 6 rfl)) (fun h => EE.is (ee_ix ix_tup (ee_v 3 rfl) (ee_sub (ee_v 6 rfl) ee_int) (od_ixT (atI_ints (by omega) (by omega)) ⟨rfl, rfl⟩)) ?_) (fun h => (ee_v 22 rfl).is ?_)) ea_nil))⟩
    · show _ = D.int (if x.2 = (a : Int) + 1 then ps.getD a 0 else x.2)
      rw [if_pos (of_decide_eq_true h), ea]
    · show _ = D.int (if x.2 = (a : Int) + 1 then ps.getD a 0 else x.2)
      rw [if_neg (of_decide_eq_false h)]
  subst e2
  rw [pairs_if (fun q => !decide (q.1 = (a : Int) + 1)) (gD ((a : Int) + 1) (ps.getD a 0)) qs]
  refine wss_cons (ws_set 23 nd (we_call L.dropped (hr.mono (by omega)) (EA.to (ea_cons (ee_v 3 rfl) (ea_cons (ee_v 6 rfl) ea_nil)) ⟨rfl, ps, _, rfl, by omega, by omega, h1, ?_⟩)))
  have pd := drop_par hP ha
  have hm1 : ((qs.filter fun q => !decide (q.1 = (a : Int) + 1)).map (gD ((a : Int) + 1) (ps.getD a 0))).Perm (prs (droppedL ps ((a : Int) + 1)) ((nm ps.length).filter fun x => !decide (x = (a : Int) + 1))) := by
    rw [drop_names hP ha]
    exact (hp.filter _).map _
  refine wss_cons (ws_ifE (k := false) (ET.is (d := !decide (areP (tI (droppedL ps ((a : Int) + 1))) = true) || false) (ww_pt (ew_or (et_cmp op_notBl (we_call L.arep (hr.mono (by omega)) (EA.to (ea_cons (ee_v 23 rfl) ea_nil) ⟨rfl, _, rfl, ok_tI (by omega), rfl, rfl⟩)) ee_bl (od_notB ⟨_, rfl, rfl, rfl⟩)) fun _ => ww_or1 (wt_cmp (op_neD hr.units) (Qa := fun d M1 => ∃ rs : List (Int × Int), d = .lst (rs.map DL.pairD) ∧ rs.Perm (prs (droppedL ps ((a : Int) + 1)) ((nm ps.length).filter fun x => !decide (x = (a : Int) + 1))) ∧ SrtP rs ∧ M1 = M0) (we_call L.named (hr.mono (by omega)) (EA.to (ea_cons (ee_v 23 rfl) (ea_cons (EE.is (d' := .lst (((nm ps.length).filter fun x => !decide (x = (a : Int) + 1)).map .int)) (ee_lc1if 24 (ds := (nm ps.length).map .int) (fun d => !decide (intOf d = (a : Int) + 1)) (fun d => d) rfl nd (wi_lst (EE.to (ee_v 19 rfl) ⟨_, .inl rfl, rfl, rfl, .inl rfl⟩)) (by rw [List.length_map]; exact lt1000 (by omega)) (fun j d hd s H C cl fp => ?_) fun j d hd _ s H C cl fp => ?_) (by rw [List.filter_map, List.map_map]; rfl)) ea_nil)) ⟨rfl, _, _, rfl, pd, by omega, by rw [nm_skip ha]; simp; omega, fun rs h2 h3 => ⟨rs, rfl, h2, h3, rfl⟩⟩)) fun x M1 ⟨rs, e1, h2, h3, e2⟩ => ?_))) ?_) (fun h => Bool.noConfusion h) fun _ => wss_nil ?_)
  · obtain ⟨x, hx, rfl⟩ := at_map hd
    exact et_neI (ee_v 24 rfl) (ee_v 6 rfl)
  · obtain ⟨x, hx, rfl⟩ := at_map hd
    exact ee_v 24 rfl
  · subst e1; subst e2
    exact ee_cb cr_srt B.sorted bi_sorted (ea_cons (ee_v 20 rfl) ea_nil) (cd_srt (.inl rfl) fun ts h4 h5 => od_srt h3 h5 (h2.trans (hm1.symm.trans h4.symm)) ⟨_, rfl, rfl, rfl⟩)
  · rw [areP_par pd (by omega)]; rfl
  -- one put in, by names
  have pp := put_par hP ha
  have lp := put_lenP hP ha
  refine wss_cons (ws_set 23 nd (we_call L.put_in (hr.mono (by omega)) (EA.to (ea_cons (ee_v 3 rfl) (ea_cons (ee_v 6 rfl) ea_nil)) ⟨rfl, ps, _, rfl, by omega, by omega, h1, ?_⟩)))
  refine wss_cons (ws_set 20 nd (we_op op_cat (Qa := fun d M1 => ∃ qs : List (Int × Int), d = .lst ((qs.map (gP ((a : Int) + 1))).map DL.pairD) ∧ qs.Perm (prs ps (nm ps.length)) ∧ M1 = M0) (we_lc [("who", 21), ("whom", 22)] rfl nd (blkOk_by (by with_unfolding_all rfl)) (Qi := fun ds C M1 => ∃ qs : List (Int × Int), ds = qs.map DL.pairD ∧ qs.Perm (prs ps (nm ps.length)) ∧ M1 = M0 ∧ C M1) (wi_lst (we_call L.named (hr.mono (by omega)) (EA.to (ea_cons (ee_v 3 rfl) (ea_cons (ee_v 19 rfl) ea_nil)) ⟨rfl, ps, nm ps.length, rfl, hP, by omega, by omega, fun qs hp _ => ⟨_, .inl rfl, qs, rfl, hp, rfl, .inl rfl⟩⟩))) (LcOk.pick fun ds C M1 ⟨qs, e1, hp, e2, hC⟩ => ⟨?_, hC⟩) (Nat.zero_le _)) fun x M1 ⟨qs2, e1, hp2, e2⟩ => ?_))
  · subst e1
    refine LcOk.to (ok_lc2 (ds := qs.map DL.pairD) 21 22 (fun x y => DL.pairD (gP ((a : Int) + 1) (intOf x, intOf y))) rfl nd ?_ fun l d hd => ?_) ⟨qs, by rw [pairs_all (gP ((a : Int) + 1)) qs], hp, e2⟩
    · rw [List.length_map, hp.length_eq, prs_len]; exact lt1000 (by omega)
    · obtain ⟨x, hx, rfl⟩ := at_map hd
      refine ⟨_, _, rfl, fun s H C cl fp => ee_tup (ea_cons (ee_v 21 rfl) (ea_cons (ee_if (et_eqI (ee_v 21 rfl) (ee_v 6 rfl)) (fun h => EE.is ee_int ?_) (fun h => (ee_v 22 rfl).is ?_)) ea_nil))⟩
      · show _ = D.int (if x.1 = (a : Int) + 1 then 99 else x.2)
        rw [if_pos (of_decide_eq_true h)]
      · show _ = D.int (if x.1 = (a : Int) + 1 then 99 else x.2)
        rw [if_neg (of_decide_eq_false h)]
  subst e1; subst e2
  have l2 : qs2.length = ps.length := by rw [hp2.length_eq, prs_len]
  refine EE.to (ee_lst (ea_cons (ee_tup (ea_cons ee_int (ea_cons (EE.is (d' := .int (ps.getD a 0)) (ee_ix ix_tup (ee_v 3 rfl) (ee_sub (ee_v 6 rfl) ee_int) (od_ixT (atI_ints (by omega) (by omega)) ⟨rfl, rfl⟩)) (by rw [ea])) ea_nil))) ea_nil)) (od_cat (.inl rfl) (.inl rfl) ?_ ?_)
  · rw [List.length_map, List.length_map]
    exact Nat.le_trans (show _ ≤ 1000 by show _ + 1 ≤ 1000; omega) (by decide)
  rw [show (qs2.map (gP ((a : Int) + 1))).map DL.pairD ++ [D.tup [.int 99, .int (ps.getD a 0)]] = (qs2.map (gP ((a : Int) + 1)) ++ [(99, ps.getD a 0)]).map DL.pairD by rw [List.map_append]; rfl]
  have hm2 : (qs2.map (gP ((a : Int) + 1)) ++ [(99, ps.getD a 0)]).Perm (prs (putL ps ((a : Int) + 1)) (nm2 ps.length a)) := by
    refine List.Perm.trans (List.Perm.append_right _ ((hp2.map _).trans (List.Perm.of_eq ?_))) (put_names hP ha).symm
    rw [prs_nm hP, List.map_map]
    rfl
  have ln2 : (nm2 ps.length a).length = ps.length + 2 := by unfold nm2; rw [List.length_append, List.length_append, List.length_take, List.length_drop, ln]; show min _ _ + 1 + _ = _; omega
  refine wss_one (ws_ifE (k := false) (ET.is (d := (decide (((ps.map D.int).length : Int) < 12) && (!decide (areP (tI (putL ps ((a : Int) + 1))) = true) || false)) || !eqD (tI ps) (tI ps)) (ww_pt (ew_or (ww_pt (ew_and (et_lt (ee_cb call_len B.len bi_len (ea_cons (ee_v 3 rfl) ea_nil) (cd_lenT ⟨rfl, rfl⟩)) ee_int) fun _ => ww_and1 (ww_pt (ew_or (et_cmp op_notBl (we_call L.arep (hr.mono (by omega)) (EA.to (ea_cons (ee_v 23 rfl) ea_nil) ⟨rfl, _, rfl, ok_tI (by omega), rfl, rfl⟩)) ee_bl (od_notB ⟨_, rfl, rfl, rfl⟩)) fun _ => ww_or1 (wt_cmp (op_neD hr.units) (Qa := fun d M2 => ∃ rs : List (Int × Int), d = .lst (rs.map DL.pairD) ∧ rs.Perm (prs (putL ps ((a : Int) + 1)) (nm2 ps.length a)) ∧ SrtP rs ∧ M2 = M1) (we_call L.named (hr.mono (by omega)) (EA.to (ea_cons (ee_v 23 rfl) (ea_cons (EE.is (d' := .lst ((nm2 ps.length a).map .int)) (ee_op op_cat (ee_op op_cat (ee_sl sl_list (ee_v 19 rfl) eo_none (eo_some (ee_v 6 rfl)) (sd_lst (.inl rfl) ⟨rfl, rfl⟩)) (ee_lst (ea_cons ee_int ea_nil)) (od_cat (.inl rfl) (.inl rfl) ?_ ⟨rfl, rfl⟩)) (ee_sl sl_list (ee_v 19 rfl) (eo_some (ee_v 6 rfl)) eo_none (sd_lst (.inl rfl) ⟨rfl, rfl⟩)) (od_cat (.inl rfl) (.inl rfl) ?_ ⟨rfl, rfl⟩)) ?_) ea_nil)) ⟨rfl, _, _, rfl, pp, by omega, by omega, fun rs h2 h3 => ⟨rs, rfl, h2, h3, rfl⟩⟩)) fun x M2 ⟨rs, e1, h2, h3, e2⟩ => ?_))))) fun _ => ww_or1 (et_not (et_val (ee_same L hr (EE.is (d' := tI ps) (we_call L.dropped (hr.mono (by omega)) (EA.to (ea_cons (ee_v 23 rfl) (ea_cons (ee_v 6 rfl) ea_nil)) ⟨rfl, _, _, rfl, by omega, by omega, by omega, rfl, rfl⟩)) (by rw [drop_put hP ha])) (ee_v 3 rfl) (wf_tI (n := 1) (by omega)) (wf_tI (n := 1) (by omega))))))) ?_) (fun h => Bool.noConfusion h) fun _ => wss_nil (q _ ?_))
  · have c1 := cut_len ((nm ps.length).map D.int) none (some ((a : Int) + 1))
    rw [List.length_map] at c1
    exact Nat.le_trans (show _ ≤ 1000 by show _ + 1 ≤ 1000; omega) (by decide)
  · have c1 := cut_len ((nm ps.length).map D.int) none (some ((a : Int) + 1))
    have c2 := cut_len ((nm ps.length).map D.int) (some ((a : Int) + 1)) none
    rw [List.length_map] at c1 c2
    rw [List.length_append]
    exact Nat.le_trans (show _ ≤ 1000 by show _ + 1 + _ ≤ 1000; omega) (by decide)
  · have l3 : ((nm ps.length).map D.int).length = ps.length + 1 := by rw [List.length_map, ln]
    rw [cut_to (by omega) (by rw [l3]; omega), cut_from (by omega) (by rw [l3]; omega), show ((a : Int) + 1).toNat = a + 1 by omega]
    unfold nm2
    rw [List.map_append, List.map_append, List.map_take, List.map_drop]
    rfl
  · subst e1; subst e2
    exact ee_cb cr_srt B.sorted bi_sorted (ea_cons (ee_v 20 rfl) ea_nil) (cd_srt (.inl rfl) fun ts h4 h5 => od_srt h3 h5 (h2.trans (hm2.symm.trans h4.symm)) ⟨_, rfl, rfl, rfl⟩)
  · rw [areP_par pp (by omega), not_eqD rfl]
    generalize decide (((ps.map D.int).length : Int) < 12) = b
    cases b <;> rfl
  · exact ⟨rfl, rfl, rfl, rfl, trivial⟩
end
end K10
set_option Elab.async false
set_option linter.all false
set_option maxRecDepth 100000
set_option maxHeartbeats 4000000
namespace K10
open PySem L2 PyProof.Rows DL
def vals (ps : List Int) : List D := [tI ps, .tup (ps.map .int ++ [.int (((ps.map D.int).length : Int) + 1)]), .tup (ps.map .int ++ [.int ((ps.map D.int).length : Int)]), .tup (DL.cutD (ps.map .int) (some 1) none), .tup ([.int (-1)] ++ ps.map .int), .tup ([.bl true] ++ ps.map .int), .tup (List.replicate 12 [.int 0]).flatten, .tup (List.replicate 13 [.int 0]).flatten, .non]
theorem wf_ints {ps : List Int} {d : D} (h : d ∈ ps.map D.int) : wf 20 4 d = true := by
  obtain ⟨p, _, rfl⟩ := List.mem_map.mp h
  rfl
theorem wf_vals {ps : List Int} (hz : ps.length ≤ 8) : ∀ d ∈ vals ps, wf 20 5 d = true := fun d hd => by
  have lm : (ps.map D.int).length = ps.length := List.length_map _
  unfold vals at hd
  simp only [List.mem_cons, List.not_mem_nil, or_false] at hd
  rcases hd with rfl | rfl | rfl | rfl | rfl | rfl | rfl | rfl | rfl
  · exact wf_tI (n := 3) (by omega)
  · refine tup_wf (by rw [List.length_append, lm]; show _ + 1 ≤ 20; omega) fun x hx => ?_
    rcases List.mem_append.mp hx with hx | hx
    · exact wf_ints hx
    · rw [List.mem_singleton.mp hx]; rfl
  · refine tup_wf (by rw [List.length_append, lm]; show _ + 1 ≤ 20; omega) fun x hx => ?_
    rcases List.mem_append.mp hx with hx | hx
    · exact wf_ints hx
    · rw [List.mem_singleton.mp hx]; rfl
  · have c := cut_len (ps.map D.int) (some 1) none
    exact tup_wf (by omega) fun x hx => wf_ints (cut_sub hx)
  · refine tup_wf (by rw [List.length_append, lm]; show 1 + _ ≤ 20; omega) fun x hx => ?_
    rcases List.mem_append.mp hx with hx | hx
    · rw [List.mem_singleton.mp hx]; rfl
    · exact wf_ints hx
  · refine tup_wf (by rw [List.length_append, lm]; show 1 + _ ≤ 20; omega) fun x hx => ?_
    rcases List.mem_append.mp hx with hx | hx
    · rw [List.mem_singleton.mp hx]; rfl
    · exact wf_ints hx
  · rfl
  · rfl
  · rfl
theorem fg_set : ∀ {a b : Sg}, Fg a b → ∀ (i : Nat) (d : D), Fg (a.set i (some d)) (b.set i (some d))
  | [], [], h, _, _ => h
  | [], _ :: _, h, _, _ => h.elim
  | none :: a, _ :: b, h, 0, d => ⟨rfl, h⟩
  | none :: a, _ :: b, h, i + 1, d => fg_set (a := a) (b := b) h i d
  | some x :: a, y :: b, h, 0, d => ⟨rfl, h.2⟩
  | some x :: a, y :: b, h, i + 1, d => ⟨h.1, fg_set h.2 i d⟩
  | none :: _, [], h, _, _ => h.elim
  | some _ :: _, [], h, _, _ => h.elim
theorem Tp.upd {M : Mem} {p p' : Addr} {o : Option MO} (h : Tp M p) (n : p ≠ p') : Tp (updM M p' o) p := by
  obtain ⟨o0, hM, ho⟩ := h
  exact ⟨o0, by rw [updM_ne n]; exact hM, ho⟩
section
variable {P : Program} {w : World} {K : PySem.W.Frag} {mg : Str → Option Value} {base : Heap} {f : Addr} {cdv : Value} {A : Around} {outer : List Env} {s : Shared} {H : Hp} {E : XK} {sg : Sg} {M : Mem} {pos pos' : Pos}
theorem a_take {j : Nat} {m : Int} {Q : D → Mem → Prop} (L : CL P w K mg base) (hr : Room 4 (XL P w K mg base f cdv A outer s H E).A) {p : Addr} (hs : sg[1]? = some (some (.ptr p))) (hT : Tp M p) (h0 : 0 < m) (h1 : m < 1000000) (q : ∀ r o, 0 ≤ r → r < m → TpO o → Q (.int r) (updM M p (some o))) {p1 p2 p3 p4 : Pos} : WE (XL P w K mg base f cdv A outer s H E) (.Call (.Name "_law_take" p1) [.Name "tape" p2, .Constant (.int m) j p3] [] p4) sg M Q :=
  we_call L.take (hr.mono (by omega)) (EA.to (ea_cons (ee_v 1 hs) (ea_cons ee_int ea_nil)) ⟨rfl, p, m, rfl, hT, h0, h1, q⟩)
/-- the first half of a turn -/
theorem a_turn1 {ED : EndsD} (L : CL P w K mg base) (hr : Room 4 (XL P w K mg base f cdv A outer s H E).A) {p : Addr} (hT : Tp M p)
    (q : ∀ (ps : List Int) (M1 : Mem), ps.length ≤ 8 → Par ps → Tp M1 p → WSs (XL P w K mg base f cdv A outer s H E) (turnB.drop 3) [none, some (.ptr p), none, some (tI ps), none, none, none, none, none, none, none, none, none, none, none, none, none, none, none, none, none, none, none, none, none] M1 ED) :
    WSs (XL P w K mg base f cdv A outer s H E) turnB [none, some (.ptr p), none, none, none, none, none, none, none, none, none, none, none, none, none, none, none, none, none, none, none, none, none, none, none] M ED := by
  have nd := sc_law.nd
  have B := L.B
  refine wss_cons (ws_set 3 nd (we_call L.parents (hr.mono (by omega)) (wa_cons (EE.to (ee_v 1 rfl) (wa_cons (a_take L hr rfl hT (by decide) (by decide) fun r o r0 r1 hO => wa_nil ⟨rfl, p, r, rfl, ⟨o, updM_same, hO⟩, r0, by omega, fun ps o2 hl hP hO2 => ?_⟩))))))
  rw [updM_upd]
  have hz : ps.length ≤ 8 := by omega
  have hT1 : Tp (updM M p (some o2)) p := ⟨o2, updM_same, hO2⟩
  generalize updM M p (some o2) = M1 at hT1 ⊢
  have lm : (ps.map D.int).length = ps.length := List.length_map _
  refine wss_cons (ws_set 4 nd (EE.to (d := .lst (vals ps)) (ee_lst (ea_cons (ee_v 3 rfl) (ea_cons (ee_op op_catA (ee_v 3 rfl) (ee_tup (ea_cons (ee_add (ee_cb call_len B.len bi_len (ea_cons (ee_v 3 rfl) ea_nil) (cd_lenT ⟨rfl, rfl⟩)) ee_int) ea_nil)) (od_catT ?_ ⟨rfl, rfl⟩)) (ea_cons (ee_op op_catA (ee_v 3 rfl) (ee_tup (ea_cons (ee_cb call_len B.len bi_len (ea_cons (ee_v 3 rfl) ea_nil) (cd_lenT ⟨rfl, rfl⟩)) ea_nil)) (od_catT ?_ ⟨rfl, rfl⟩)) (ea_cons (ee_sl sl_tupA (ee_v 3 rfl) (eo_some ee_int) eo_none (sd_tup ⟨rfl, rfl⟩)) (ea_cons (ee_op op_catA (ee_tup (ea_cons (ee_neg ee_int) ea_nil)) (ee_v 3 rfl) (od_catT ?_ ⟨rfl, rfl⟩)) (ea_cons (ee_op op_catA (ee_tup (ea_cons ee_bl ea_nil)) (ee_v 3 rfl) (od_catT ?_ ⟨rfl, rfl⟩)) (ea_cons (ee_op op_repT (ee_tup (ea_cons ee_int ea_nil)) ee_int (od_repT (by exact fun h => by cases h) (by decide) (by decide) (by decide) ⟨rfl, rfl⟩)) (ea_cons (ee_op op_repT (ee_tup (ea_cons ee_int ea_nil)) ee_int (od_repT (by exact fun h => by cases h) (by decide) (by decide) (by decide) ⟨rfl, rfl⟩)) (ea_cons ee_non ea_nil)))))))))) ?_))
  · exact Nat.le_trans (show _ ≤ 1000 by rw [lm]; show _ + 1 ≤ 1000; omega) (by decide)
  · exact Nat.le_trans (show _ ≤ 1000 by rw [lm]; show _ + 1 ≤ 1000; omega) (by decide)
  · exact Nat.le_trans (show _ ≤ 1000 by rw [lm]; show 1 + _ ≤ 1000; omega) (by decide)
  · exact Nat.le_trans (show _ ≤ 1000 by rw [lm]; show 1 + _ ≤ 1000; omega) (by decide)
  refine wss_cons (ws_for PassesOwn.never rfl (Qi := fun ds C M0 => (∀ d ∈ ds, wf 20 5 d = true) ∧ Tp M0 p ∧ ∀ M, C M) (wi_lst (we_op op_cat (Qa := fun d M2 => d = .lst (vals ps ++ [.tup [.tup []]]) ∧ M2 = M1) (ee_op op_cat (ee_v 4 rfl) (ee_lst (ea_cons (ee_tup (ea_cons (ee_tup ea_nil) ea_nil)) ea_nil)) (od_cat (.inl rfl) (.inl rfl) (by exact small30) ⟨rfl, rfl⟩)) fun x M2 ⟨e1, e2⟩ => ?_)) fun ds C M0 ⟨hw, hT2, hC⟩ => ?_)
  · subst e1; subst e2
    refine we_lc [("k", 6)] rfl nd (blkOk_by (by with_unfolding_all rfl)) (Qi := fun ds C M0 => ds = rngD 0 4 ∧ (∀ M, C M) ∧ Tp M0 p) (wi_rng1 B.range (EA.to (ea_cons ee_int ea_nil) ⟨4, rfl, by decide, by decide, rfl, fun _ => trivial, hT1⟩)) (fun ds C M0 ⟨e1, hC, hT0⟩ => ?_) (Nat.zero_le _)
    subst e1
    refine ⟨fun i acc M1 => i ≤ 4 ∧ acc.length = i ∧ (∀ d ∈ acc, wf 20 5 d = true) ∧ Tp M1 p, ⟨Nat.zero_le _, rfl, (fun d hd => by cases hd), hT0⟩, fun i acc M1 ⟨hi, e, _⟩ => ⟨hC _, lt1000 (by omega)⟩, fun i d acc M1 hd ⟨hi, e, hw, hT⟩ => ?_, fun acc M1 ⟨hi, e, hw, hT⟩ => ?_⟩
    · obtain ⟨hj, rfl⟩ := rngD_at hd
      refine turn1 6 (List.mem_singleton.mpr rfl) nd (.inl rfl) rfl (fun b M2 => b = true ∧ Tp M2 p) (fun _ _ _ _ _ => ⟨rfl, hT⟩) (fun M2 ⟨_, hT⟩ => ?_) (fun M2 ⟨e, _⟩ => Bool.noConfusion e)
      intro s H C cl fp
      refine we_call L.spoilt hr (EA.to (ea_cons (ee_v 1 rfl) (ea_cons (ee_v 3 rfl) ea_nil)) ⟨rfl, p, _, rfl, hT, ?_, fun d o hd hO => ⟨by omega, by rw [List.length_append, e]; rfl, fun x hx => ?_, ⟨o, updM_same, hO⟩⟩⟩)
      · refine Bool.and_eq_true_iff.mpr ⟨decide_eq_true (by omega), List.all_eq_true.mpr fun x hx => ?_⟩
        obtain ⟨y, _, rfl⟩ := List.mem_map.mp hx
        rfl
      · rcases List.mem_append.mp hx with hx | hx
        · exact hw x hx
        · rw [List.mem_singleton.mp hx]
          exact wf_mono (by omega) (Nat.le_refl _) hd
    · rw [rngD_len] at e
      refine od_cat (.inl rfl) (.inl rfl) (Nat.le_trans (show _ ≤ 1000 by rw [e]; exact Nat.le_of_ble_eq_true rfl) (by decide)) ⟨_, .inl rfl, fun d hd => ?_, hT, fun _ => .inl rfl⟩
      rcases List.mem_append.mp hd with hd | hd
      · rcases List.mem_append.mp hd with hd | hd
        · exact wf_vals hz d hd
        · rw [List.mem_singleton.mp hd]; rfl
      · exact hw d hd
  refine ⟨fun i sg1 M1 => Fg [none, some (.ptr p), none, some (tI ps), none, none, none, none, none, none, none, none, none, none, none, none, none, none, none, none, none, none, none, none, none] sg1 ∧ Tp M1 p, ⟨⟨rfl, rfl, trivial⟩, hT2⟩, fun i sg1 M1 _ => hC _, fun i d sg1 M1 hd ⟨hg, hT⟩ => ?_, fun sg1 M1 ⟨hg, hT⟩ => wss_fg hg (q ps M1 hz hP hT)⟩
  exact ⟨_, _, wg_name 5 nd, wss_fg (fg_set hg 5 d) (a_value L hr p ps (hw d (List.mem_of_getElem? hd)) fun fv => ⟨⟨rfl, rfl, trivial⟩, hT⟩)⟩
end
end K10
set_option Elab.async false
set_option linter.all false
set_option maxRecDepth 100000
set_option maxHeartbeats 4000000
namespace K10
open PySem L2 PyProof.Rows DL
section
variable {P : Program} {w : World} {K : PySem.W.Frag} {mg : Str → Option Value} {base : Heap} {f : Addr} {cdv : Value} {A : Around} {outer : List Env} {s : Shared} {H : Hp} {E : XK} {sg : Sg} {M : Mem} {pos pos' : Pos}
theorem fg_trans : ∀ {a b c : Sg}, Fg a b → Fg b c → Fg a c
  | [], [], _, _, h => h
  | [], _ :: _, _, h, _ => h.elim
  | none :: a, [], _, h, _ => h.elim
  | some _ :: a, [], _, h, _ => h.elim
  | none :: a, none :: b, [], _, h => h.elim
  | none :: a, some _ :: b, [], _, h => h.elim
  | some _ :: a, none :: b, [], _, h => h.elim
  | some _ :: a, some _ :: b, [], _, h => h.elim
  | none :: a, none :: b, _ :: c, h, h2 => fg_trans (a := a) (b := b) (c := c) h h2
  | none :: a, some _ :: b, _ :: c, h, h2 => fg_trans (a := a) (b := b) (c := c) h h2.2
  | some d :: a, none :: b, _ :: c, h, h2 => by cases h.1
  | some d :: a, some e :: b, z :: c, h, h2 => ⟨h2.1.trans h.1, fg_trans h.2 h2.2⟩
theorem fg_two {p : Addr} {d : D} {sg1 : Sg} (hg : Fg [none, some (.ptr p), none, none, none, none, none, none, none, none, none, none, none, none, none, none, none, none, none, none, none, none, none, none, none] sg1) : Fg [none, some (.ptr p), none, none, none, none, none, none, none, none, none, none, none, none, none, none, none, none, none, none, none, none, none, none, none] (sg1.set 2 (some d)) := by
  refine fg_trans ?_ (fg_set hg 2 d)
  exact ⟨rfl, trivial⟩
theorem a_turn2 {ED : EndsD} (L : CL P w K mg base) (hr : Room 4 (XL P w K mg base f cdv A outer s H E).A) {p : Addr} {ps : List Int} (hz : ps.length ≤ 8) (hP : Par ps) (hT : Tp M p)
    (q : ∀ (sg1 : Sg) (M1 : Mem), Tp M1 p → Fg [none, some (.ptr p), none, none, none, none, none, none, none, none, none, none, none, none, none, none, none, none, none, none, none, none, none, none, none] sg1 → ED.nx sg1 M1) :
    WSs (XL P w K mg base f cdv A outer s H E) (turnB.drop 3) [none, some (.ptr p), none, some (tI ps), none, none, none, none, none, none, none, none, none, none, none, none, none, none, none, none, none, none, none, none, none] M ED := by
  have nd := sc_law.nd
  have B := L.B
  have lm : (ps.map D.int).length = ps.length := List.length_map _
  refine wss_cons (ws_asg (we_tup (wa_cons (we_lstM (wa_cons (we_op op_add (Qa := fun d M' => d = .int 20 ∧ M' = M) ee_int fun x M1 ⟨e1, e2⟩ => ?_))))))
  subst e1; subst e2
  refine a_take L hr rfl hT (by decide) (by decide) fun r o r0 r1 hO => od_I0 (wa_nil ⟨by exact small30, fun pm hpm => ?_⟩)
  have hne : pm ≠ p := fun e => by subst e; rw [updM_same] at hpm; cases hpm
  have hT1 : Tp (updM (updM M1 p (some o)) pm (some (.lst [.int (20 + r)]))) p := Tp.upd ⟨o, updM_same, hO⟩ hne.symm
  have hM1 : (updM (updM M1 p (some o)) pm (some (.lst [.int (20 + r)]))) pm = some (.lst ([20 + r].map .int)) := updM_same
  generalize updM (updM M1 p (some o)) pm (some (.lst [.int (20 + r)])) = M2 at hT1 hM1
  refine wa_cons (a_take L hr rfl hT1 (by decide) (by decide) fun keep o2 k0 k1 hO2 => wa_nil ⟨by exact small30, _, _, wg_tup rfl (wgs_cons (wg_name 8 nd) (wgs_cons (wg_name 9 nd) wgs_nil)), ?_⟩)
  have hT2 : Tp (updM M2 p (some o2)) p := ⟨o2, updM_same, hO2⟩
  have hM2 : (updM M2 p (some o2)) pm = some (.lst ([20 + r].map .int)) := by rw [updM_ne hne]; exact hM1
  generalize updM M2 p (some o2) = M3 at hT2 hM2
  refine wss_cons (ws_for PassesOwn.never rfl (Qi := fun ds C M0 => ds = ps.map .int ∧ M0 = M3 ∧ ∀ M, C M) (wi_tup (EE.to (ee_v 3 rfl) ⟨_, rfl, rfl, rfl, fun _ => trivial⟩)) fun ds C M0 ⟨e1, e2, hC⟩ => ?_)
  subst e1; subst e2
  refine ⟨fun i sg1 M1 => Fg [none, some (.ptr p), none, some (tI ps), none, none, none, none, some (.ptr pm), some (.int keep), none, none, none, none, none, none, none, none, none, none, none, none, none, none, none] sg1 ∧ Tp M1 p ∧ ∃ ms : List Int, ms.length = i + 1 ∧ M1 pm = some (.lst (ms.map .int)), ⟨⟨rfl, rfl, rfl, rfl, trivial⟩, hT2, _, rfl, hM2⟩, fun i sg1 M1 _ => hC _, fun i d sg1 M1 hd ⟨hg, hT, ms, hl, hM⟩ => ?_, fun sg1 M1 ⟨hg, hT, ms, hl, hM⟩ => ?_⟩
  · obtain ⟨c, hc, rfl⟩ := at_map hd
    have hi : i < ps.length := (List.getElem?_eq_some_iff.mp hc).1
    have a := hP i c hc
    refine ⟨_, _, wg_name 10 nd, wss_fg (fg_set hg 10 (.int c)) ?_⟩
    refine wss_one (ws_expr (we_bm PySem.F.plainAttrs_list PySem.F.slot_list_append PySem.F.type_list_append mt_append (EE.to (ee_v 8 rfl) ⟨ty_lst (.inr ⟨pm, rfl, hM⟩), wa_cons (we_cb (call_max2 rfl) B.max bi_max (wa_cons (EE.to ee_int (wa_cons (we_op op_sub (Qa := fun d M' => d = .int (ms.getD c.toNat 0) ∧ M' = M1) (ee_ix ix_list (ee_v 8 rfl) (ee_v 10 rfl) (od_ixL (.inr ⟨pm, rfl, hM⟩) (atI_ints a.1 (by omega)) ⟨rfl, rfl⟩)) fun x M2 ⟨e1, e2⟩ => ?_)))))⟩)))
    subst e1; subst e2
    refine a_take L hr rfl hT (by decide) (by decide) fun r o r0 r1 hO => od_I0 (wa_nil (cd_max2 (wa_nil ?_)))
    have hM' : (updM M2 p (some o)) pm = some (.lst (ms.map .int)) := by rw [updM_ne hne]; exact hM
    refine md_append hM' (by rw [List.length_map]; exact lt1000 (by omega)) ⟨⟨rfl, rfl, rfl, rfl, trivial⟩, Tp.upd ⟨o, updM_same, hO⟩ hne.symm, ms ++ [if ms.getD c.toNat 0 - r > 0 then ms.getD c.toNat 0 - r else 0], by rw [List.length_append, hl]; rfl, ?_⟩
    rw [updM_same, List.map_append]
    rfl
  · rw [lm] at hl
    refine wss_fg hg (wss_freeze (i := 8) hM rfl ?_)
    have hT3 : Tp (updM M1 pm none) p := hT.upd hne.symm
    generalize updM M1 pm none = M4 at hT3 ⊢
    refine wss_one (ws_for PassesOwn.never rfl (Qi := fun ds C M0 => ds = rngD 0 (ps.length + 1) ∧ Tp M0 p ∧ ∀ M, C M) (wi_rng1 B.range (EA.to (ea_cons (ee_add (ee_cb call_len B.len bi_len (ea_cons (ee_v 3 rfl) ea_nil) (cd_lenT ⟨rfl, rfl⟩)) ee_int) ea_nil) ⟨_, rfl, by omega, by omega, by rw [lm]; congr 1, hT3, fun _ => trivial⟩)) fun ds C M0 ⟨e1, hT, hC⟩ => ?_)
    subst e1
    refine ⟨fun i sg1 M1 => Fg [none, some (.ptr p), none, some (tI ps), none, none, none, none, some (.lst (ms.map .int)), some (.int keep), none, none, none, none, none, none, none, none, none, none, none, none, none, none, none] sg1 ∧ Tp M1 p, ⟨⟨rfl, rfl, rfl, rfl, trivial⟩, hT⟩, fun i sg1 M1 _ => hC _, fun i d sg1 M1 hd ⟨hg, hT⟩ => ?_, fun sg1 M1 ⟨hg, hT⟩ => q _ _ hT ?_⟩
    · obtain ⟨hj, rfl⟩ := rngD_at hd
      refine ⟨_, _, wg_name 6 nd, wss_fg (fg_set hg 6 _) (a_place L hr hP hz hl hT (by omega) (by omega) (fun M1 hT1 h0 => a_up L hr hP hz hl h0 (by omega) fun sg1 hg => ⟨hg, hT1⟩) fun M1 sg1 hT hg => ⟨hg, hT⟩)⟩
    · refine fg_trans ?_ hg
      exact ⟨rfl, trivial⟩
/-! ### the law -/
def S_law : SpD := fun ds M Q => ∃ ns : List Int, ds = [.scr ns] ∧ ns.length ≤ 63 ∧ ∀ M', Q (.bl true) M'
theorem law_body (L : CL P w K mg base) : ∀ (f : Addr) (cdv : Value) (A : Around) (outer : List Env) (s : Shared) (H : Hp) (E : XK) (ds : List D) (M : Mem) (Q : D → Mem → Prop), Room 4 (A.deeper (envOfC "law" (defScope s_law) s.heap.objs.size f cdv)) → ds.length = 1 → S_law ds M Q →
    WSs (cxOf CX0 P w K mg base NL "law" (defScope s_law) f cdv A outer s H E).nox (defBody s_law) (startD NL ds) M { nx := fun _ M' => Q .non M', rt := Q } := by
  intro f cdv A outer s H E ds M Q hr hl hs
  obtain ⟨ns, rfl, hn, q⟩ := hs
  have nd := sc_law.nd
  have B := L.B
  refine wss_cons (ws_set 1 nd (we_call L.tape (hr.mono (by omega)) (EA.to (ea_cons (ee_v 0 rfl) ea_nil) ⟨rfl, ns, rfl, hn, fun p o hp hO => ?_⟩)))
  have hT : Tp (updM M p (some o)) p := ⟨o, updM_same, hO⟩
  generalize updM M p (some o) = M1 at hT ⊢
  refine wss_cons (ws_ifE (k := false) (ET.is (ww_pt (ew_or (et_cmp (op_neD hr.units) (we_call L.dropped (hr.mono (by omega)) (EA.to (ea_cons (ee_tup (ea_cons ee_int (ea_cons ee_int (ea_cons ee_int (ea_cons ee_int ea_nil))))) (ea_cons ee_int ea_nil)) ⟨rfl, [0, 1, 1, 2], 1, rfl, by decide, by decide, by decide, rfl, rfl⟩)) (ee_tup (ea_cons ee_int (ea_cons ee_int (ea_cons ee_int ea_nil)))) (od_neD (.inl ⟨rfl, rfl⟩) (.inl ⟨rfl, rfl⟩) (by decide +kernel) (by decide +kernel) ⟨_, rfl, rfl, rfl⟩)) fun _ => ew_or (et_cmp (op_neD hr.units) (we_call L.put_in (hr.mono (by omega)) (EA.to (ea_cons (ee_tup (ea_cons ee_int (ea_cons ee_int ea_nil))) (ea_cons ee_int ea_nil)) ⟨rfl, [0, 0], 2, rfl, by decide, by decide, by decide, rfl, rfl⟩)) (ee_tup (ea_cons ee_int (ea_cons ee_int (ea_cons ee_int ea_nil)))) (od_neD (.inl ⟨rfl, rfl⟩) (.inl ⟨rfl, rfl⟩) (by decide +kernel) (by decide +kernel) ⟨_, rfl, rfl, rfl⟩)) fun _ => ww_or1 (et_cmp (op_neD hr.units) (we_call L.put_in (hr.mono (by omega)) (EA.to (ea_cons (ee_tup (ea_cons ee_int (ea_cons ee_int ea_nil))) (ea_cons ee_int ea_nil)) ⟨rfl, [0, 1], 1, rfl, by decide, by decide, by decide, rfl, rfl⟩)) (ee_tup (ea_cons ee_int (ea_cons ee_int (ea_cons ee_int ea_nil)))) (od_neD (.inl ⟨rfl, rfl⟩) (.inl ⟨rfl, rfl⟩) (by decide +kernel) (by decide +kernel) ⟨_, rfl, rfl, rfl⟩)))) (by decide +kernel)) (fun h => Bool.noConfusion h) fun _ => wss_nil ?_)
  refine wss_cons (ws_ifE (k := false) (ET.is (ww_pt (ew_or (et_neI (we_call L.even (hr.mono (by omega)) (EA.to (ea_cons ee_int (ea_cons ee_int (ea_cons ee_int (ea_cons ee_int ea_nil)))) ⟨rfl, _, _, _, _, rfl, by decide, rfl, rfl⟩)) ee_int) fun _ => ew_or (et_neI (we_call L.even (hr.mono (by omega)) (EA.to (ea_cons ee_int (ea_cons ee_int (ea_cons ee_int (ea_cons ee_int ea_nil)))) ⟨rfl, _, _, _, _, rfl, by decide, rfl, rfl⟩)) ee_int) fun _ => ww_or1 (et_neI (we_call L.even (hr.mono (by omega)) (EA.to (ea_cons ee_int (ea_cons ee_int (ea_cons ee_int (ea_cons ee_int ea_nil)))) ⟨rfl, _, _, _, _, rfl, by decide, rfl, rfl⟩)) ee_int))) (by decide +kernel)) (fun h => Bool.noConfusion h) fun _ => wss_nil ?_)
  refine wss_cons (ws_for PassesOwn.never rfl (Qi := fun ds C M0 => ds = rngD 0 3 ∧ Tp M0 p ∧ ∀ M, C M) (wi_rng1 B.range (EA.to (ea_cons ee_int ea_nil) ⟨3, rfl, by decide, by decide, rfl, hT, fun _ => trivial⟩)) fun ds C M0 ⟨e1, hT, hC⟩ => ?_)
  refine ⟨fun i sg1 M1 => Fg [none, some (.ptr p), none, none, none, none, none, none, none, none, none, none, none, none, none, none, none, none, none, none, none, none, none, none, none] sg1 ∧ Tp M1 p, ⟨⟨rfl, trivial⟩, hT⟩, fun i sg1 M1 _ => hC _, fun i d sg1 M1 hd ⟨hg, hT⟩ => ?_, fun sg1 M1 ⟨hg, hT⟩ => wss_one (ws_ret (EE.to ee_bl (q _)))⟩
  exact ⟨_, _, wg_name 2 nd, wss_fg (fg_two hg) (a_turn1 L hr hT fun ps M2 hz hP hT2 => a_turn2 L hr hz hP hT2 fun sg1 M3 hT3 hg3 => ⟨hg3, hT3⟩)⟩
end
end K10
set_option Elab.async false
set_option linter.all false
set_option maxRecDepth 100000
set_option maxHeartbeats 4000000
namespace DL
open PySem L2 PyProof.Rows HT
section
variable {P : Program} {w : World} {K : PySem.W.Frag} {mg : Str → Option Value} {base : Heap}
/-- the promise of one def, its function object named -/
theorem dfnF {x qual : Str} {st : Stmt} {f : Addr} {fd : FuncData} {N ps : List Str} {k n : Nat} {S : SpD} (F : Fun K x qual st f fd) (sc : FnScope N ps (defScope st)) (hn : ps.length = n)
    (body : ∀ (f : Addr) (cdv : Value) (A : Around) (outer : List Env) (s : Shared) (H : Hp) (E : XK) (ds : List D) (M : Mem) (Q : D → Mem → Prop), Room k (A.deeper (envOfC qual (defScope st) s.heap.objs.size f cdv)) → ds.length = n → S ds M Q →
      WSs (cxOf CX0 P w K mg base N qual (defScope st) f cdv A outer s H E).nox (defBody st) (startD N ds) M { nx := fun _ M' => Q .non M', rt := Q }) : FnOk P w K mg base CX0 (k + 1) f fd ps (spD K n S) := by
  refine F.ok sc (fun vs H R E h => ?_) (fun cdv A outer s H vs R E hr h => ?_)
  · obtain ⟨G, M, ds, Q, _, r, l, _⟩ := h
    rw [r.length, l, hn]
  · obtain ⟨G, M, ds, Q, wd, r, l, hs, q⟩ := h
    refine ⟨tWSs _ (defBody st), pss_w, (body f cdv A outer s H E ds M Q hr l hs _ H G wd (start_rp r)).imp (fun σ' H' ⟨sg', G', M', st', w', s', q'⟩ => q _ _ ⟨.non, G', M', st', w', .non, q'⟩) (fun v H' p => q v H' p) (fun _ _ p => ?_) (fun _ _ p => ?_)⟩
    · obtain ⟨_, _, _, _, _, _, z⟩ := p; exact z
    · obtain ⟨_, _, _, _, _, _, z⟩ := p; exact z
theorem df_mk {h : Heap} {x : Str} {st : Stmt} {ps : List Str} {f : Addr} {od an : Option Addr} {sl : Array (Option Value)} {oc kV dc pm cd ct : Value} (X : K.In h) (G : h.Ns mainGlobals mg) (a : PySem.W.nsIn K mainGlobals x = some (some (.ref f))) (l : K.lookup f = some ⟨oc, od, .func (PySem.W.fnOf x x (defArgs st) (defBody st) (defScope st) .none kV dc pm an cd ct), sl⟩) (c : PySem.W.codeIn K cd x = true) (k : PySem.W.keepIn K (.ref f) = true)
    (hb : ∀ (kV doc pm : Value) (an : Option Addr) (cdv ct : Value) (us : List Value), us.length = ps.length → bindArgs (PySem.W.fnOf x x (defArgs st) (defBody st) (defScope st) .none kV doc pm an cdv ct) ⟨us, []⟩ = pure (ps.zip us)) : Df K mg x st ps :=
  ⟨f, _, fun_mk l c k, PySem.W.mg_of X G a, (fun_mk l c k).binds hb⟩
/-- what a law of one script is called with, and answers -/
def spLaw (K : PySem.W.Frag) : Sp := fun vs H Q _ => ∃ (a : Addr) (ns : List Int), vs = [.ref a] ∧ SqL K H a (ns.map V.int) ∧ ns.length ≤ 63 ∧ ∀ H', Q (.bl true) H'
def S_script : SpD := fun ds M Q => ∃ ns : List Int, ds = [.scr ns] ∧ ns.length ≤ 63 ∧ ∀ M', Q (.bl true) M'
theorem spLaw_spD {vs : List V} {H : Hp} {R : VK} {E : XK} (h : spLaw K vs H R E) : spD K 1 S_script vs H R E := by
  obtain ⟨a, ns, rfl, hS, hl, q⟩ := h
  refine ⟨H, fun _ => none, [.scr ns], fun d _ => d = .bl true, ⟨fun x u e => e, fun x m e => by cases e⟩, .cons (.scr hS) .nil, rfl, ⟨ns, rfl, hl, fun M' => rfl⟩, fun v H' ⟨d, G', M', st, w', r, e⟩ => ?_⟩
  subst e
  cases r
  exact q H'
end
end DL
namespace K10
open PySem L2 PyProof.Rows DL
theorem all_mk {l : PySem.W.OpenLaw} {w : World} {K : PySem.W.Frag} {h : Heap} {mg : Str → Option Value} {fa : Addr} {t : Tok} {f0 : Addr} {od0 an0 : Option Addr} {sl0 : Array (Option Value)} {oc0 kV0 dc0 pm0 cd0 ct0 : Value} {f1 : Addr} {od1 an1 : Option Addr} {sl1 : Array (Option Value)} {oc1 kV1 dc1 pm1 cd1 ct1 : Value} {f2 : Addr} {od2 an2 : Option Addr} {sl2 : Array (Option Value)} {oc2 kV2 dc2 pm2 cd2 ct2 : Value} {f3 : Addr} {od3 an3 : Option Addr} {sl3 : Array (Option Value)} {oc3 kV3 dc3 pm3 cd3 ct3 : Value} {f4 : Addr} {od4 an4 : Option Addr} {sl4 : Array (Option Value)} {oc4 kV4 dc4 pm4 cd4 ct4 : Value} {f5 : Addr} {od5 an5 : Option Addr} {sl5 : Array (Option Value)} {oc5 kV5 dc5 pm5 cd5 ct5 : Value} {f6 : Addr} {od6 an6 : Option Addr} {sl6 : Array (Option Value)} {oc6 kV6 dc6 pm6 cd6 ct6 : Value} {f7 : Addr} {od7 an7 : Option Addr} {sl7 : Array (Option Value)} {oc7 kV7 dc7 pm7 cd7 ct7 : Value} {f8 : Addr} {od8 an8 : Option Addr} {sl8 : Array (Option Value)} {oc8 kV8 dc8 pm8 cd8 ct8 : Value} {f9 : Addr} {od9 an9 : Option Addr} {sl9 : Array (Option Value)} {oc9 kV9 dc9 pm9 cd9 ct9 : Value} {f10 : Addr} {od10 an10 : Option Addr} {sl10 : Array (Option Value)} {oc10 kV10 dc10 pm10 cd10 ct10 : Value} {f11 : Addr} {od11 an11 : Option Addr} {sl11 : Array (Option Value)} {oc11 kV11 dc11 pm11 cd11 ct11 : Value} {f12 : Addr} {od12 an12 : Option Addr} {sl12 : Array (Option Value)} {oc12 kV12 dc12 pm12 cd12 ct12 : Value} {f13 : Addr} {od13 an13 : Option Addr} {sl13 : Array (Option Value)} {oc13 kV13 dc13 pm13 cd13 ct13 : Value} {f14 : Addr} {od14 an14 : Option Addr} {sl14 : Array (Option Value)} {oc14 kV14 dc14 pm14 cd14 ct14 : Value} {f15 : Addr} {od15 an15 : Option Addr} {sl15 : Array (Option Value)} {oc15 kV15 dc15 pm15 cd15 ct15 : Value} {f16 : Addr} {od16 an16 : Option Addr} {sl16 : Array (Option Value)} {oc16 kV16 dc16 pm16 cd16 ct16 : Value} {f17 : Addr} {od17 an17 : Option Addr} {sl17 : Array (Option Value)} {oc17 kV17 dc17 pm17 cd17 ct17 : Value} (X : K.In h) (G : h.Ns mainGlobals mg) (hfa : mg "law" = some (.ref fa))
    (a0 : PySem.W.nsIn K mainGlobals "is_whole" = some (some (.ref f0))) (l0 : K.lookup f0 = some ⟨oc0, od0, .func (PySem.W.fnOf "is_whole" "is_whole" (defArgs s_is_whole) (defBody s_is_whole) (defScope s_is_whole) .none kV0 dc0 pm0 an0 cd0 ct0), sl0⟩) (c0 : PySem.W.codeIn K cd0 "is_whole" = true) (k0 : PySem.W.keepIn K (.ref f0) = true)
    (a1 : PySem.W.nsIn K mainGlobals "are_parents" = some (some (.ref f1))) (l1 : K.lookup f1 = some ⟨oc1, od1, .func (PySem.W.fnOf "are_parents" "are_parents" (defArgs s_are_parents) (defBody s_are_parents) (defScope s_are_parents) .none kV1 dc1 pm1 an1 cd1 ct1), sl1⟩) (c1 : PySem.W.codeIn K cd1 "are_parents" = true) (k1 : PySem.W.keepIn K (.ref f1) = true)
    (a2 : PySem.W.nsIn K mainGlobals "depth_in" = some (some (.ref f2))) (l2 : K.lookup f2 = some ⟨oc2, od2, .func (PySem.W.fnOf "depth_in" "depth_in" (defArgs s_depth_in) (defBody s_depth_in) (defScope s_depth_in) .none kV2 dc2 pm2 an2 cd2 ct2), sl2⟩) (c2 : PySem.W.codeIn K cd2 "depth_in" = true) (k2 : PySem.W.keepIn K (.ref f2) = true)
    (a3 : PySem.W.nsIn K mainGlobals "children_in" = some (some (.ref f3))) (l3 : K.lookup f3 = some ⟨oc3, od3, .func (PySem.W.fnOf "children_in" "children_in" (defArgs s_children_in) (defBody s_children_in) (defScope s_children_in) .none kV3 dc3 pm3 an3 cd3 ct3), sl3⟩) (c3 : PySem.W.codeIn K cd3 "children_in" = true) (k3 : PySem.W.keepIn K (.ref f3) = true)
    (a4 : PySem.W.nsIn K mainGlobals "can_tell" = some (some (.ref f4))) (l4 : K.lookup f4 = some ⟨oc4, od4, .func (PySem.W.fnOf "can_tell" "can_tell" (defArgs s_can_tell) (defBody s_can_tell) (defScope s_can_tell) .none kV4 dc4 pm4 an4 cd4 ct4), sl4⟩) (c4 : PySem.W.codeIn K cd4 "can_tell" = true) (k4 : PySem.W.keepIn K (.ref f4) = true)
    (a5 : PySem.W.nsIn K mainGlobals "can_drop" = some (some (.ref f5))) (l5 : K.lookup f5 = some ⟨oc5, od5, .func (PySem.W.fnOf "can_drop" "can_drop" (defArgs s_can_drop) (defBody s_can_drop) (defScope s_can_drop) .none kV5 dc5 pm5 an5 cd5 ct5), sl5⟩) (c5 : PySem.W.codeIn K cd5 "can_drop" = true) (k5 : PySem.W.keepIn K (.ref f5) = true)
    (a6 : PySem.W.nsIn K mainGlobals "dropped" = some (some (.ref f6))) (l6 : K.lookup f6 = some ⟨oc6, od6, .func (PySem.W.fnOf "dropped" "dropped" (defArgs s_dropped) (defBody s_dropped) (defScope s_dropped) .none kV6 dc6 pm6 an6 cd6 ct6), sl6⟩) (c6 : PySem.W.codeIn K cd6 "dropped" = true) (k6 : PySem.W.keepIn K (.ref f6) = true)
    (a7 : PySem.W.nsIn K mainGlobals "put_in" = some (some (.ref f7))) (l7 : K.lookup f7 = some ⟨oc7, od7, .func (PySem.W.fnOf "put_in" "put_in" (defArgs s_put_in) (defBody s_put_in) (defScope s_put_in) .none kV7 dc7 pm7 an7 cd7 ct7), sl7⟩) (c7 : PySem.W.codeIn K cd7 "put_in" = true) (k7 : PySem.W.keepIn K (.ref f7) = true)
    (a8 : PySem.W.nsIn K mainGlobals "even_moment" = some (some (.ref f8))) (l8 : K.lookup f8 = some ⟨oc8, od8, .func (PySem.W.fnOf "even_moment" "even_moment" (defArgs s_even_moment) (defBody s_even_moment) (defScope s_even_moment) .none kV8 dc8 pm8 an8 cd8 ct8), sl8⟩) (c8 : PySem.W.codeIn K cd8 "even_moment" = true) (k8 : PySem.W.keepIn K (.ref f8) = true)
    (a9 : PySem.W.nsIn K mainGlobals "_law_mix" = some (some (.ref f9))) (l9 : K.lookup f9 = some ⟨oc9, od9, .func (PySem.W.fnOf "_law_mix" "_law_mix" (defArgs s_law_mix) (defBody s_law_mix) (defScope s_law_mix) .none kV9 dc9 pm9 an9 cd9 ct9), sl9⟩) (c9 : PySem.W.codeIn K cd9 "_law_mix" = true) (k9 : PySem.W.keepIn K (.ref f9) = true)
    (a10 : PySem.W.nsIn K mainGlobals "_law_tape" = some (some (.ref f10))) (l10 : K.lookup f10 = some ⟨oc10, od10, .func (PySem.W.fnOf "_law_tape" "_law_tape" (defArgs s_law_tape) (defBody s_law_tape) (defScope s_law_tape) .none kV10 dc10 pm10 an10 cd10 ct10), sl10⟩) (c10 : PySem.W.codeIn K cd10 "_law_tape" = true) (k10 : PySem.W.keepIn K (.ref f10) = true)
    (a11 : PySem.W.nsIn K mainGlobals "_law_take" = some (some (.ref f11))) (l11 : K.lookup f11 = some ⟨oc11, od11, .func (PySem.W.fnOf "_law_take" "_law_take" (defArgs s_law_take) (defBody s_law_take) (defScope s_law_take) .none kV11 dc11 pm11 an11 cd11 ct11), sl11⟩) (c11 : PySem.W.codeIn K cd11 "_law_take" = true) (k11 : PySem.W.keepIn K (.ref f11) = true)
    (a12 : PySem.W.nsIn K mainGlobals "_law_same" = some (some (.ref f12))) (l12 : K.lookup f12 = some ⟨oc12, od12, .func (PySem.W.fnOf "_law_same" "_law_same" (defArgs s_law_same) (defBody s_law_same) (defScope s_law_same) .none kV12 dc12 pm12 an12 cd12 ct12), sl12⟩) (c12 : PySem.W.codeIn K cd12 "_law_same" = true) (k12 : PySem.W.keepIn K (.ref f12) = true)
    (a13 : PySem.W.nsIn K mainGlobals "_law_whole" = some (some (.ref f13))) (l13 : K.lookup f13 = some ⟨oc13, od13, .func (PySem.W.fnOf "_law_whole" "_law_whole" (defArgs s_law_whole) (defBody s_law_whole) (defScope s_law_whole) .none kV13 dc13 pm13 an13 cd13 ct13), sl13⟩) (c13 : PySem.W.codeIn K cd13 "_law_whole" = true) (k13 : PySem.W.keepIn K (.ref f13) = true)
    (a14 : PySem.W.nsIn K mainGlobals "_law_spoilt" = some (some (.ref f14))) (l14 : K.lookup f14 = some ⟨oc14, od14, .func (PySem.W.fnOf "_law_spoilt" "_law_spoilt" (defArgs s_law_spoilt) (defBody s_law_spoilt) (defScope s_law_spoilt) .none kV14 dc14 pm14 an14 cd14 ct14), sl14⟩) (c14 : PySem.W.codeIn K cd14 "_law_spoilt" = true) (k14 : PySem.W.keepIn K (.ref f14) = true)
    (a15 : PySem.W.nsIn K mainGlobals "_law_parents" = some (some (.ref f15))) (l15 : K.lookup f15 = some ⟨oc15, od15, .func (PySem.W.fnOf "_law_parents" "_law_parents" (defArgs s_law_parents) (defBody s_law_parents) (defScope s_law_parents) .none kV15 dc15 pm15 an15 cd15 ct15), sl15⟩) (c15 : PySem.W.codeIn K cd15 "_law_parents" = true) (k15 : PySem.W.keepIn K (.ref f15) = true)
    (a16 : PySem.W.nsIn K mainGlobals "_law_named" = some (some (.ref f16))) (l16 : K.lookup f16 = some ⟨oc16, od16, .func (PySem.W.fnOf "_law_named" "_law_named" (defArgs s_law_named) (defBody s_law_named) (defScope s_law_named) .none kV16 dc16 pm16 an16 cd16 ct16), sl16⟩) (c16 : PySem.W.codeIn K cd16 "_law_named" = true) (k16 : PySem.W.keepIn K (.ref f16) = true)
    (a17 : PySem.W.nsIn K mainGlobals "law" = some (some (.ref f17))) (l17 : K.lookup f17 = some ⟨oc17, od17, .func (PySem.W.fnOf "law" "law" (defArgs s_law) (defBody s_law) (defScope s_law) .none kV17 dc17 pm17 an17 cd17 ct17), sl17⟩) (c17 : PySem.W.codeIn K cd17 "law" = true) (k17 : PySem.W.keepIn K (.ref f17) = true)
    (z0 : PySem.W.nsIn K mainGlobals "isinstance" = some none)
    (z1 : PySem.W.nsIn K mainGlobals "int" = some none)
    (z2 : PySem.W.nsIn K mainGlobals "bool" = some none)
    (z3 : PySem.W.nsIn K mainGlobals "str" = some none)
    (z4 : PySem.W.nsIn K mainGlobals "tuple" = some none)
    (z5 : PySem.W.nsIn K mainGlobals "list" = some none)
    (z6 : PySem.W.nsIn K mainGlobals "len" = some none)
    (z7 : PySem.W.nsIn K mainGlobals "all" = some none)
    (z8 : PySem.W.nsIn K mainGlobals "any" = some none)
    (z9 : PySem.W.nsIn K mainGlobals "sum" = some none)
    (z10 : PySem.W.nsIn K mainGlobals "max" = some none)
    (z11 : PySem.W.nsIn K mainGlobals "min" = some none)
    (z12 : PySem.W.nsIn K mainGlobals "sorted" = some none)
    (z13 : PySem.W.nsIn K mainGlobals "range" = some none)
    (z14 : PySem.W.nsIn K mainGlobals "enumerate" = some none)
    (z15 : PySem.W.nsIn K mainGlobals "zip" = some none)
    (m0 : PySem.W.nsIn K mainGlobals "MOST_FOLLOWERS" = some (some (.int 12 t)))
    : ∃ fd : FuncData, (∀ (s : Shared) (v : Value), BindsTo s fd ⟨[v], []⟩ [("script", v)]) ∧ ∀ base : Heap, K.In base → base.Ns mainGlobals mg → FnOk l.prog w K mg base CX0 5 fa fd ["script"] (spLaw K) := by
  have e := hfa.symm.trans (PySem.W.mg_of X G a17)
  cases e
  have B : Blt mg := ⟨PySem.W.mg_none_of X G z0, PySem.W.mg_none_of X G z1, PySem.W.mg_none_of X G z2, PySem.W.mg_none_of X G z3, PySem.W.mg_none_of X G z4, PySem.W.mg_none_of X G z5, PySem.W.mg_none_of X G z6, PySem.W.mg_none_of X G z7, PySem.W.mg_none_of X G z8, PySem.W.mg_none_of X G z9, PySem.W.mg_none_of X G z10, PySem.W.mg_none_of X G z11, PySem.W.mg_none_of X G z12, PySem.W.mg_none_of X G z13, PySem.W.mg_none_of X G z14, PySem.W.mg_none_of X G z15⟩
  have F0 : Df K mg "is_whole" s_is_whole ["value"] := df_mk X G a0 l0 c0 k0 fun _ _ _ _ _ _ us hl => match us, hl with | [_], _ => rfl
  have F1 : Df K mg "are_parents" s_are_parents ["value"] := df_mk X G a1 l1 c1 k1 fun _ _ _ _ _ _ us hl => match us, hl with | [_], _ => rfl
  have F2 : Df K mg "depth_in" s_depth_in ["parents", "k"] := df_mk X G a2 l2 c2 k2 fun _ _ _ _ _ _ us hl => match us, hl with | [_, _], _ => rfl
  have F3 : Df K mg "children_in" s_children_in ["parents", "k"] := df_mk X G a3 l3 c3 k3 fun _ _ _ _ _ _ us hl => match us, hl with | [_, _], _ => rfl
  have F4 : Df K mg "can_tell" s_can_tell ["moment", "keep", "other"] := df_mk X G a4 l4 c4 k4 fun _ _ _ _ _ _ us hl => match us, hl with | [_, _, _], _ => rfl
  have F5 : Df K mg "can_drop" s_can_drop ["parents", "moments", "keep", "k"] := df_mk X G a5 l5 c5 k5 fun _ _ _ _ _ _ us hl => match us, hl with | [_, _, _, _], _ => rfl
  have F6 : Df K mg "dropped" s_dropped ["parents", "k"] := df_mk X G a6 l6 c6 k6 fun _ _ _ _ _ _ us hl => match us, hl with | [_, _], _ => rfl
  have F7 : Df K mg "put_in" s_put_in ["parents", "k"] := df_mk X G a7 l7 c7 k7 fun _ _ _ _ _ _ us hl => match us, hl with | [_, _], _ => rfl
  have F8 : Df K mg "even_moment" s_even_moment ["tick", "depth", "d", "size"] := df_mk X G a8 l8 c8 k8 fun _ _ _ _ _ _ us hl => match us, hl with | [_, _, _, _], _ => rfl
  have F9 : Df K mg "_law_mix" s_law_mix ["number"] := df_mk X G a9 l9 c9 k9 fun _ _ _ _ _ _ us hl => match us, hl with | [_], _ => rfl
  have F10 : Df K mg "_law_tape" s_law_tape ["script"] := df_mk X G a10 l10 c10 k10 fun _ _ _ _ _ _ us hl => match us, hl with | [_], _ => rfl
  have F11 : Df K mg "_law_take" s_law_take ["tape", "many"] := df_mk X G a11 l11 c11 k11 fun _ _ _ _ _ _ us hl => match us, hl with | [_, _], _ => rfl
  have F12 : Df K mg "_law_same" s_law_same ["a", "b"] := df_mk X G a12 l12 c12 k12 fun _ _ _ _ _ _ us hl => match us, hl with | [_, _], _ => rfl
  have F13 : Df K mg "_law_whole" s_law_whole ["value", "low", "high"] := df_mk X G a13 l13 c13 k13 fun _ _ _ _ _ _ us hl => match us, hl with | [_, _, _], _ => rfl
  have F14 : Df K mg "_law_spoilt" s_law_spoilt ["tape", "value"] := df_mk X G a14 l14 c14 k14 fun _ _ _ _ _ _ us hl => match us, hl with | [_, _], _ => rfl
  have F15 : Df K mg "_law_parents" s_law_parents ["tape", "many"] := df_mk X G a15 l15 c15 k15 fun _ _ _ _ _ _ us hl => match us, hl with | [_, _], _ => rfl
  have F16 : Df K mg "_law_named" s_law_named ["parents", "names"] := df_mk X G a16 l16 c16 k16 fun _ _ _ _ _ _ us hl => match us, hl with | [_, _], _ => rfl
  refine ⟨PySem.W.fnOf "law" "law" (defArgs s_law) (defBody s_law) (defScope s_law) .none kV17 dc17 pm17 an17 cd17 ct17, fun s v => .of_eq rfl, fun base _ _ => ?_⟩
  have mix := d_mix (P := l.prog) (w := w) (base := base) F9 B
  have take := d_take F11 B mix
  have whole := d_is_whole (P := l.prog) (w := w) (base := base) F0 B
  have tell := d_can_tell (P := l.prog) (w := w) (base := base) F4
  have kids := d_children_in (P := l.prog) (w := w) (base := base) F3 B
  have LL : CL l.prog w K mg base := ⟨B, d_tape F10 B, take, d_parents F15 B take, d_named F16 B, d_same F12 B 3, d_lwhole F13 B, d_spoilt (by decide) (by decide) F14 B take 2, d_are_parents F1 B (PySem.W.mg_of X G m0) whole, d_depth_in F2, kids, tell, d_can_drop F5 B tell kids, d_dropped F6 B, d_put_in F7 B, d_even_moment F8 B⟩
  exact (dfnF (fun_mk l17 c17 k17) sc_law rfl (law_body LL)).imp fun _ _ _ _ h => spLaw_spD h
end K10
open PySem PySem.W PyProof.Rows
set_option maxHeartbeats 0 in
theorem PySem.Challenge.cw_changestold_k10_whole_trees_of_followers_holds : PySem.Challenge.rw_changestold_k10_whole_trees_of_followers.Holds := by
  w_on; o_law; k_head; (case hw => w_witness2)
  k_fill
  refine L2.walk_of (l := PySem.Challenge.rw_changestold_k10_whole_trees_of_followers) (n := 63) (k := 5) (x := "script") (CX := fun _ => L2.CX0) (sp := fun w => DL.spLaw _) rfl (by decide) rfl ⟨rfl, by decide, by decide⟩ (fun w h Y => PySem.W.kIn_of Y) ?F (fun _ _ a ns hl _ hS => ⟨a, ns, rfl, hS, hl, fun _ => rfl⟩) (fun _ _ _ _ _ h => h)
  case F =>
    intro w mg fa h KX G hmg
    refine' K10.all_mk KX G hmg ?a0 ?l0 ?c0 ?k0 ?a1 ?l1 ?c1 ?k1 ?a2 ?l2 ?c2 ?k2 ?a3 ?l3 ?c3 ?k3 ?a4 ?l4 ?c4 ?k4 ?a5 ?l5 ?c5 ?k5 ?a6 ?l6 ?c6 ?k6 ?a7 ?l7 ?c7 ?k7 ?a8 ?l8 ?c8 ?k8 ?a9 ?l9 ?c9 ?k9 ?a10 ?l10 ?c10 ?k10 ?a11 ?l11 ?c11 ?k11 ?a12 ?l12 ?c12 ?k12 ?a13 ?l13 ?c13 ?k13 ?a14 ?l14 ?c14 ?k14 ?a15 ?l15 ?c15 ?k15 ?a16 ?l16 ?c16 ?k16 ?a17 ?l17 ?c17 ?k17 ?z0 ?z1 ?z2 ?z3 ?z4 ?z5 ?z6 ?z7 ?z8 ?z9 ?z10 ?z11 ?z12 ?z13 ?z14 ?z15 ?m0
    (case a0 => k_is); (case l0 => k_is); (case c0 => k_is); (case k0 => k_is); (case a1 => k_is); (case l1 => k_is); (case c1 => k_is); (case k1 => k_is); (case a2 => k_is); (case l2 => k_is); (case c2 => k_is); (case k2 => k_is); (case a3 => k_is); (case l3 => k_is); (case c3 => k_is); (case k3 => k_is); (case a4 => k_is); (case l4 => k_is); (case c4 => k_is); (case k4 => k_is); (case a5 => k_is); (case l5 => k_is); (case c5 => k_is); (case k5 => k_is); (case a6 => k_is); (case l6 => k_is); (case c6 => k_is); (case k6 => k_is); (case a7 => k_is); (case l7 => k_is); (case c7 => k_is); (case k7 => k_is); (case a8 => k_is); (case l8 => k_is); (case c8 => k_is); (case k8 => k_is); (case a9 => k_is); (case l9 => k_is); (case c9 => k_is); (case k9 => k_is); (case a10 => k_is); (case l10 => k_is); (case c10 => k_is); (case k10 => k_is); (case a11 => k_is); (case l11 => k_is); (case c11 => k_is); (case k11 => k_is); (case a12 => k_is); (case l12 => k_is); (case c12 => k_is); (case k12 => k_is); (case a13 => k_is); (case l13 => k_is); (case c13 => k_is); (case k13 => k_is); (case a14 => k_is); (case l14 => k_is); (case c14 => k_is); (case k14 => k_is); (case a15 => k_is); (case l15 => k_is); (case c15 => k_is); (case k15 => k_is); (case a16 => k_is); (case l16 => k_is); (case c16 => k_is); (case k16 => k_is); (case a17 => k_is); (case l17 => k_is); (case c17 => k_is); (case k17 => k_is)
    (case z0 => k_is); (case z1 => k_is); (case z2 => k_is); (case z3 => k_is); (case z4 => k_is); (case z5 => k_is); (case z6 => k_is); (case z7 => k_is); (case z8 => k_is); (case z9 => k_is); (case z10 => k_is); (case z11 => k_is); (case z12 => k_is); (case z13 => k_is); (case z14 => k_is); (case z15 => k_is); (case m0 => k_is)
