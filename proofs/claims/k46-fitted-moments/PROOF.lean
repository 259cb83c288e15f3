import PyProof.Rows.All
import HandS.ForMost
import HandS.IsInst
import HandS.TupAny
import HandS.TupMul
import HandS.Style
import HandS.Walk
import KE.GoesEnum
import KE.KRevSl
import PyProof.ListRange
import HandS.Sort
import HandS.SortRule
import HandS.Exc
import HandS.ExcOwn
import HandS.WordsExc
import HandS.ExcField
import HandS.CallLocal
import HandS.ExcInit
import HandS.ExcSuper
import HandS.Nested
import KE.KExcSuper
import HandS.Iter
import HandS.Deep
import KE.DataMinMax
import KE.SortData
import KE.KDictDisplayH
import PyProof.WalksMore
import PyProof.SumWalkG
import PySem.Challenge.RW_changestold_k46_whole_fitted_moments
import HandS.Zip
set_option Elab.async false
set_option linter.all false
set_option maxRecDepth 100000
set_option maxHeartbeats 4000000
/-! DLa: plain data over the abstract heap: data D, frozen part G, mutable part M; judgements of expressions, tests, statements over data. -/
namespace DL
open PySem L2

/-- no star ahead of it -/
def nst : Expr → Bool
  | .Starred _ _ => false
  | _ => true
theorem star1 {e : Expr} {es : List Expr} {env : Env} (h : nst e = true) : starEach (e :: es) env = (false, eval e env) :: starEach es env := by
  cases e <;> first | rfl | exact absurd (show false = true from h) Bool.false_ne_true
theorem star1n {e : Expr} {env : Env} (h : nst e = true) : starEach [e] env = [(false, eval e env)] := star1 h
theorem star2n {a b : Expr} {env : Env} (h : nst a = true) (h2 : nst b = true) : starEach [a, b] env = [(false, eval a env), (false, eval b env)] := by rw [star1 h, star1n h2]
theorem starN {env : Env} {pos : Pos} : ∀ {es : List Expr}, es.all nst = true → (backTo pos (starEach es env)).any (·.1) = false
  | [], _ => rfl
  | e :: es, h => by
    have q := Bool.and_eq_true_iff.mp h
    rw [star1 q.1]
    show (false || (backTo pos (starEach es env)).any (·.1)) = false
    rw [Bool.false_or]
    exact starN q.2
/-- plain data; ptr: a mutable object by its address; scr: the script -/
inductive D where
  | non | bl (b : Bool) | int (i : Int) | str (x : Str) | tup (ds : List D) | lst (ds : List D) | ptr (a : Addr) | scr (ns : List Int)

mutual
/-- the value v is the datum d, its tuples and lists standing in G -/
inductive Rp (K : PySem.W.Frag) (G : Hp) : V → D → Prop
  | non : Rp K G .non .non
  | bl (b : Bool) : Rp K G (.bl b) (.bl b)
  | int (i : Int) : Rp K G (.int i) (.int i)
  | str (x : Str) : Rp K G (.str x) (.str x)
  | tup {a : Addr} {xs : List V} {ds : List D} : G a = some (.tup xs) → RpA K G xs ds → Rp K G (.ref a) (.tup ds)
  | lst {a : Addr} {xs : List V} {ds : List D} : G a = some (.lst xs) → RpA K G xs ds → Rp K G (.ref a) (.lst ds)
  | ptr (a : Addr) : Rp K G (.ref a) (.ptr a)
  | scr {a : Addr} {ns : List Int} : SqL K G a (ns.map V.int) → Rp K G (.ref a) (.scr ns)
inductive RpA (K : PySem.W.Frag) (G : Hp) : List V → List D → Prop
  | nil : RpA K G [] []
  | cons {v : V} {d : D} {vs : List V} {ds : List D} : Rp K G v d → RpA K G vs ds → RpA K G (v :: vs) (d :: ds)
end

/-- G' knows all that G knows -/
def Gx (G G' : Hp) : Prop := ∀ a o, G a = some o → G' a = some o
theorem Gx.refl (G : Hp) : Gx G G := fun _ _ h => h
theorem Gx.trans {G G1 G2 : Hp} (a : Gx G G1) (b : Gx G1 G2) : Gx G G2 := fun x o h => b x o (a x o h)
section
variable {K : PySem.W.Frag} {G G' : Hp} {a : Addr} {xs : List V}
theorem Gx.rd {u : HO} (e : Gx G G') (h : Rd G a u) : Rd G' a u := by
  rcases h with h | ⟨o, h⟩
  · exact .inl (e _ _ h)
  · exact .inr ⟨o, e _ _ h⟩
theorem Gx.sl (e : Gx G G') (h : SqL K G a xs) : SqL K G' a xs := by
  rcases h with h | h
  · exact .inl (e.rd h)
  · exact .inr h
theorem Gx.st (e : Gx G G') (h : SqT K G a xs) : SqT K G' a xs := by
  rcases h with h | h
  · exact .inl (e.rd h)
  · exact .inr h
mutual
theorem Rp.mono (e : Gx G G') : ∀ {v : V} {d : D}, Rp K G v d → Rp K G' v d
  | _, _, .non => .non
  | _, _, .bl b => .bl b
  | _, _, .int i => .int i
  | _, _, .str x => .str x
  | _, _, .tup h r => .tup (e _ _ h) (RpA.mono e r)
  | _, _, .lst h r => .lst (e _ _ h) (RpA.mono e r)
  | _, _, .ptr a => .ptr a
  | _, _, .scr h => .scr (e.sl h)
theorem RpA.mono (e : Gx G G') : ∀ {vs : List V} {ds : List D}, RpA K G vs ds → RpA K G' vs ds
  | _, _, .nil => .nil
  | _, _, .cons h r => .cons (Rp.mono e h) (RpA.mono e r)
end
theorem RpA.length : ∀ {vs : List V} {ds : List D}, RpA K G vs ds → vs.length = ds.length
  | _, _, .nil => rfl
  | _, _, .cons _ r => congrArg (· + 1) r.length
theorem RpA.get : ∀ {vs : List V} {ds : List D} {i : Nat} {d : D}, RpA K G vs ds → ds[i]? = some d → ∃ v, vs[i]? = some v ∧ Rp K G v d
  | _, _, i, _, .nil, h => by simp at h
  | _, _, 0, _, .cons h _, e => by
    simp at e
    subst e
    exact ⟨_, rfl, h⟩
  | _, _, i + 1, d, .cons _ r, e => by
    obtain ⟨v, h1, h2⟩ := RpA.get (i := i) (d := d) r (by simpa using e)
    exact ⟨v, by simpa using h1, h2⟩
theorem RpA.getV : ∀ {vs : List V} {ds : List D} {i : Nat} {v : V}, RpA K G vs ds → vs[i]? = some v → ∃ d, ds[i]? = some d ∧ Rp K G v d
  | _, _, i, _, .nil, h => by simp at h
  | _, _, 0, _, .cons h _, e => by
    simp at e
    subst e
    exact ⟨_, rfl, h⟩
  | _, _, i + 1, d, .cons _ r, e => by
    obtain ⟨v, h1, h2⟩ := RpA.getV (i := i) (v := d) r (by simpa using e)
    exact ⟨v, by simpa using h1, h2⟩
theorem RpA.append : ∀ {vs ws : List V} {ds es : List D}, RpA K G vs ds → RpA K G ws es → RpA K G (vs ++ ws) (ds ++ es)
  | _, _, _, _, .nil, s => s
  | _, _, _, _, .cons h r, s => .cons h (RpA.append r s)
theorem RpA.take : ∀ {vs : List V} {ds : List D} (n : Nat), RpA K G vs ds → RpA K G (vs.take n) (ds.take n)
  | _, _, 0, _ => .nil
  | _, _, _ + 1, .nil => .nil
  | _, _, n + 1, .cons h r => .cons h (RpA.take n r)
theorem RpA.drop : ∀ {vs : List V} {ds : List D} (n : Nat), RpA K G vs ds → RpA K G (vs.drop n) (ds.drop n)
  | _, _, 0, r => r
  | _, _, _ + 1, .nil => .nil
  | _, _, n + 1, .cons _ r => RpA.drop n r
theorem RpA.set {v : V} {d : D} (h : Rp K G v d) : ∀ {vs : List V} {ds : List D} (i : Nat), RpA K G vs ds → RpA K G (vs.set i v) (ds.set i d)
  | _, _, _, .nil => .nil
  | _, _, 0, .cons _ r => .cons h r
  | _, _, i + 1, .cons q r => .cons q (RpA.set h i r)
theorem RpA.reverse : ∀ {vs : List V} {ds : List D}, RpA K G vs ds → RpA K G vs.reverse ds.reverse
  | _, _, .nil => .nil
  | _, _, .cons h r => by
    rw [List.reverse_cons, List.reverse_cons]
    exact (RpA.reverse r).append (.cons h .nil)
theorem RpA.erase : ∀ {vs : List V} {ds : List D} (i : Nat), RpA K G vs ds → RpA K G (vs.eraseIdx i) (ds.eraseIdx i)
  | _, _, _, .nil => .nil
  | _, _, 0, .cons _ r => r
  | _, _, i + 1, .cons q r => .cons q (RpA.erase i r)
theorem RpA.rep {vs : List V} {ds : List D} (h : RpA K G vs ds) : ∀ k : Nat, RpA K G (List.replicate k vs).flatten (List.replicate k ds).flatten
  | 0 => .nil
  | k + 1 => by
    rw [List.replicate_succ, List.replicate_succ, List.flatten_cons, List.flatten_cons]
    exact h.append (RpA.rep h k)
theorem RpA.ints : ∀ {vs : List V} {ns : List Int}, RpA K G vs (ns.map D.int) → vs = ns.map V.int
  | _, [], .nil => rfl
  | _, n :: ns, .cons h r => by
    cases h
    rw [RpA.ints r]
    rfl
theorem rpa_ints : ∀ ns : List Int, RpA K G (ns.map V.int) (ns.map D.int)
  | [] => .nil
  | n :: ns => .cons (.int n) (rpa_ints ns)
theorem RpA.bls : ∀ {vs : List V} {bs : List Bool}, RpA K G vs (bs.map D.bl) → vs = bs.map V.bl
  | _, [], .nil => rfl
  | _, n :: ns, .cons h r => by
    cases h
    rw [RpA.bls r]
    rfl
end

/-! ### what may change -/
inductive MO where
  | lst (ds : List D)
  | ins (C : Addr) (fs : List (Str × D))
  | dic (kvs : List (Key × D))
  | dit (kvs : List (List Int × D))
  | xd (fs : List (Str × D))
/-- where an exception's way out is told from -/
structure Base where
  G : Hp
  M : Addr → Option MO
  H : Hp
structure Mem where
  f : Addr → Option MO
  b : Base
instance : CoeFun Mem fun _ => Addr → Option MO := ⟨Mem.f⟩
def updM (M : Mem) (a : Addr) (o : Option MO) : Mem := ⟨fun b => if b = a then o else M b, M.b⟩
/-- another base -/
def Mem.rb (M : Mem) (b : Base) : Mem := ⟨M.f, b⟩
theorem updM_same {M : Mem} {a : Addr} {o : Option MO} : updM M a o a = o := if_pos rfl
theorem updM_ne {M : Mem} {a b : Addr} {o : Option MO} (h : b ≠ a) : updM M a o b = M b := if_neg h
def KVd {κ : Type} (K : PySem.W.Frag) (G : Hp) (vs : List (κ × V)) (ds : List (κ × D)) : Prop := vs.map (·.1) = ds.map (·.1) ∧ RpA K G (vs.map (·.2)) (ds.map (·.2))
def MRp (K : PySem.W.Frag) (G H : Hp) (a : Addr) : MO → Prop
  | .lst ds => ∃ xs, H a = some (.lst xs) ∧ RpA K G xs ds
  | .ins C fs => ∃ dx vs, H a = some (.ins C dx vs) ∧ KVd K G vs fs
  | .dic kvs => ∃ vs, H a = some (.dK vs) ∧ KVd K G vs kvs
  | .dit kvs => ∃ vs : List (List Key × V), H a = some (.dT vs) ∧ KVd K G vs (kvs.map fun p => (p.1.map Sum.inl, p.2))
  | .xd fs => ∃ vs, H a = some (.xd vs) ∧ KVd K G vs fs
structure Wd (K : PySem.W.Frag) (G : Hp) (M : Mem) (H : Hp) : Prop where
  sub : Gx G H
  mem : ∀ a mo, M a = some mo → G a = none ∧ MRp K G H a mo
  hist : ∀ a o, M.b.H a = some o → M.b.M a = none → H a = some o ∧ G a = M.b.G a ∧ M a = none
structure Stp (G : Hp) (M : Mem) (H : Hp) (G' : Hp) (M' : Mem) (H' : Hp) : Prop where
  keep : ∀ a o, H a = some o → M a = none → H' a = some o ∧ G' a = G a ∧ M' a = none
  base : M'.b = M.b
section
variable {K : PySem.W.Frag} {G G' G1 G2 H H' H1 H2 : Hp} {M M' M1 M2 : Mem} {a p : Addr}
theorem MRp.there {mo : MO} (h : MRp K G H a mo) : ∃ o, H a = some o := by
  cases mo with
  | lst ds => obtain ⟨xs, e, _⟩ := h; exact ⟨_, e⟩
  | ins C fs => obtain ⟨_, _, e, _⟩ := h; exact ⟨_, e⟩
  | dic kvs => obtain ⟨_, e, _⟩ := h; exact ⟨_, e⟩
  | dit kvs => obtain ⟨_, e, _⟩ := h; exact ⟨_, e⟩
  | xd fs => obtain ⟨_, e, _⟩ := h; exact ⟨_, e⟩
theorem MRp.carry {mo : MO} (h : MRp K G H a mo) (e : Gx G G') (hh : H' a = H a) : MRp K G' H' a mo := by
  cases mo with
  | lst ds => obtain ⟨xs, q, r⟩ := h; exact ⟨xs, by rw [hh]; exact q, r.mono e⟩
  | ins C fs => obtain ⟨dx, vs, q, k, r⟩ := h; exact ⟨dx, vs, by rw [hh]; exact q, k, r.mono e⟩
  | dic kvs => obtain ⟨vs, q, k, r⟩ := h; exact ⟨vs, by rw [hh]; exact q, k, r.mono e⟩
  | dit kvs => obtain ⟨vs, q, k, r⟩ := h; exact ⟨vs, by rw [hh]; exact q, k, r.mono e⟩
  | xd fs => obtain ⟨vs, q, k, r⟩ := h; exact ⟨vs, by rw [hh]; exact q, k, r.mono e⟩
theorem Wd.free (w : Wd K G M H) (h : H p = none) : G p = none ∧ M p = none := by
  refine ⟨?_, ?_⟩
  · cases e : G p with
    | none => rfl
    | some o => rw [w.sub _ _ e] at h; cases h
  · cases e : M p with
    | none => rfl
    | some o =>
      obtain ⟨u, q⟩ := (w.mem _ _ e).2.there
      rw [q] at h; cases h
theorem Stp.refl : Stp G M H G M H := ⟨fun _ _ h m => ⟨h, rfl, m⟩, rfl⟩
theorem Stp.trans (a : Stp G M H G1 M1 H1) (b : Stp G1 M1 H1 G2 M2 H2) : Stp G M H G2 M2 H2 := ⟨fun x o h m => by
  obtain ⟨h1, g1, m1⟩ := a.keep x o h m
  obtain ⟨h2, g2, m2⟩ := b.keep x o h1 m1
  exact ⟨h2, g2.trans g1, m2⟩, b.base.trans a.base⟩
/-- the way from the base, one step longer -/
theorem Wd.far (w : Wd K G M H) (s : Stp G M H G' M' H') : ∀ a o, M'.b.H a = some o → M'.b.M a = none → H' a = some o ∧ G' a = M'.b.G a ∧ M' a = none := fun x o h m => by
  rw [s.base] at h m ⊢
  obtain ⟨h1, g1, m1⟩ := w.hist x o h m
  obtain ⟨h2, g2, m2⟩ := s.keep x o h1 m1
  exact ⟨h2, g2.trans g1, m2⟩
theorem Wd.fresh (w : Wd K G M H) (h : H p = none) {o : HO} (e : M.b.H p = some o) (m : M.b.M p = none) : False := by
  rw [(w.hist p o e m).1] at h
  cases h
theorem Stp.gx (s : Stp G M H G' M' H') (w : Wd K G M H) : Gx G G' := fun x o h => by
  have m : M x = none := by
    cases e : M x with
    | none => rfl
    | some mo => rw [(w.mem _ _ e).1] at h; cases h
  rw [(s.keep x o (w.sub _ _ h) m).2.1, h]
theorem gx_new (w : Wd K G M H) (h : H p = none) {o : HO} : Gx G (upd G p o) := fun x u e => by
  rw [upd_ne (ne_of_none e (w.free h).1)]
  exact e
/-- a new frozen object -/
theorem Wd.new (w : Wd K G M H) (h : H p = none) {o : HO} : Wd K (upd G p o) M (upd H p o) ∧ Stp G M H (upd G p o) M (upd H p o) := by
  have g := w.free h
  have st : Stp G M H (upd G p o) M (upd H p o) := ⟨fun x u e m => by
    have hx : x ≠ p := ne_of_none e h
    exact ⟨by rw [upd_ne hx]; exact e, upd_ne hx, m⟩, rfl⟩
  refine ⟨⟨fun x u e => ?_, fun x mo e => ?_, w.far st⟩, st⟩
  · by_cases hx : x = p
    · subst hx; rw [upd_same] at e ⊢; exact e
    · rw [upd_ne hx] at e ⊢; exact w.sub _ _ e
  · have hx : x ≠ p := fun z => by subst z; rw [g.2] at e; cases e
    obtain ⟨h1, h2⟩ := w.mem _ _ e
    exact ⟨by rw [upd_ne hx]; exact h1, h2.carry (gx_new w h) (upd_ne hx)⟩
/-- a new mutable object -/
theorem Wd.newM (w : Wd K G M H) (h : H p = none) {o : HO} {mo : MO} (r : MRp K G (upd H p o) p mo) : Wd K G (updM M p (some mo)) (upd H p o) ∧ Stp G M H G (updM M p (some mo)) (upd H p o) := by
  have g := w.free h
  have st : Stp G M H G (updM M p (some mo)) (upd H p o) := ⟨fun x u e m => by
    have hx : x ≠ p := ne_of_none e h
    exact ⟨by rw [upd_ne hx]; exact e, rfl, by rw [updM_ne hx]; exact m⟩, rfl⟩
  refine ⟨⟨fun x u e => ?_, fun x m e => ?_, w.far st⟩, st⟩
  · rw [upd_ne (ne_of_none (w.sub _ _ e) h)]; exact w.sub _ _ e
  · by_cases hx : x = p
    · subst hx; rw [updM_same] at e; cases e; exact ⟨g.1, r⟩
    · rw [updM_ne hx] at e
      obtain ⟨h1, h2⟩ := w.mem _ _ e
      exact ⟨h1, h2.carry (Gx.refl G) (upd_ne hx)⟩
/-- a mutable object written -/
theorem Wd.write (w : Wd K G M H) {m0 mo : MO} (hm : M p = some m0) {o : HO} (r : MRp K G (upd H p o) p mo) : Wd K G (updM M p (some mo)) (upd H p o) ∧ Stp G M H G (updM M p (some mo)) (upd H p o) := by
  have g := (w.mem _ _ hm).1
  have st : Stp G M H G (updM M p (some mo)) (upd H p o) := ⟨fun x u e m => by
    have hx : x ≠ p := fun z => by subst z; rw [hm] at m; cases m
    exact ⟨by rw [upd_ne hx]; exact e, rfl, by rw [updM_ne hx]; exact m⟩, rfl⟩
  refine ⟨⟨fun x u e => ?_, fun x m e => ?_, w.far st⟩, st⟩
  · rw [upd_ne (ne_of_none e g)]; exact w.sub _ _ e
  · by_cases hx : x = p
    · subst hx; rw [updM_same] at e; cases e; exact ⟨g, r⟩
    · rw [updM_ne hx] at e
      obtain ⟨h1, h2⟩ := w.mem _ _ e
      exact ⟨h1, h2.carry (Gx.refl G) (upd_ne hx)⟩

/-- a mutable list that nobody writes any more -/
theorem Wd.freeze (w : Wd K G M H) {ds : List D} (hm : M p = some (.lst ds)) : ∃ xs, H p = some (.lst xs) ∧ RpA K G xs ds ∧ Wd K (upd G p (.lst xs)) (updM M p none) H ∧ Stp G M H (upd G p (.lst xs)) (updM M p none) H ∧ Gx G (upd G p (.lst xs)) := by
  obtain ⟨g, xs, e, r⟩ := w.mem _ _ hm
  have gx : Gx G (upd G p (.lst xs)) := fun x u q => by rw [upd_ne (ne_of_none q g)]; exact q
  have st : Stp G M H (upd G p (.lst xs)) (updM M p none) H := ⟨fun x u q m => by
    have hx : x ≠ p := fun z => by subst z; rw [hm] at m; cases m
    exact ⟨q, upd_ne hx, by rw [updM_ne hx]; exact m⟩, rfl⟩
  refine ⟨xs, e, r, ⟨fun x u q => ?_, fun x m q => ?_, w.far st⟩, st, gx⟩
  · by_cases hx : x = p
    · subst hx; rw [upd_same] at q; cases q; exact e
    · rw [upd_ne hx] at q; exact w.sub _ _ q
  · have hx : x ≠ p := fun z => by subst z; rw [updM_same] at q; cases q
    rw [updM_ne hx] at q
    obtain ⟨h1, h2⟩ := w.mem _ _ q
    exact ⟨by rw [upd_ne hx]; exact h1, h2.carry gx rfl⟩
end

/-! ### the judgements -/
abbrev Sg := List (Option D)
structure SRp (K : PySem.W.Frag) (G : Hp) (sg : Sg) (σ : L2.St) : Prop where
  len : σ.length = sg.length
  at_ : ∀ (i : Nat) (d : D), sg[i]? = some (some d) → ∃ v, σ[i]? = some (some v) ∧ Rp K G v d
theorem SRp.mono {K : PySem.W.Frag} {G G' : Hp} {sg : Sg} {σ : L2.St} (e : Gx G G') (r : SRp K G sg σ) : SRp K G' sg σ := ⟨r.len, fun i d h => let ⟨v, a, b⟩ := r.at_ i d h; ⟨v, a, b.mono e⟩⟩
theorem SRp.set {K : PySem.W.Frag} {G : Hp} {sg : Sg} {σ : L2.St} {v : V} {d : D} (r : SRp K G sg σ) (i : Nat) (h : Rp K G v d) : SRp K G (sg.set i (some d)) (σ.set i (some v)) := by
  refine ⟨by simp [r.len], fun j e q => ?_⟩
  by_cases hj : i = j
  · subst hj
    by_cases hl : i < sg.length
    · rw [List.getElem?_set_self hl] at q
      cases q
      exact ⟨v, List.getElem?_set_self (by rw [r.len]; exact hl), h⟩
    · rw [List.getElem?_eq_none (by simpa using hl)] at q; cases q
  · rw [List.getElem?_set_ne hj] at q ⊢
    exact r.at_ j e q
/-- the end of an evaluation -/
def PV (K : PySem.W.Frag) (G : Hp) (M : Mem) (H : Hp) (Q : D → Mem → Prop) : VK := fun v H' => ∃ d G' M', Stp G M H G' M' H' ∧ Wd K G' M' H' ∧ Rp K G' v d ∧ Q d M'
def PB (K : PySem.W.Frag) (G : Hp) (M : Mem) (H : Hp) (Q : Bool → Mem → Prop) : Bool → Hp → Prop := fun b H' => ∃ G' M', Stp G M H G' M' H' ∧ Wd K G' M' H' ∧ Q b M'
def PL (K : PySem.W.Frag) (G : Hp) (M : Mem) (H : Hp) (Q : List D → Mem → Prop) : List V → Hp → Prop := fun vs H' => ∃ ds G' M', Stp G M H G' M' H' ∧ Wd K G' M' H' ∧ RpA K G' vs ds ∧ Q ds M'
def PN (K : PySem.W.Frag) (G : Hp) (M : Mem) (H : Hp) (Q : Sg → Mem → Prop) : L2.St → Hp → Prop := fun σ' H' => ∃ sg' G' M', Stp G M H G' M' H' ∧ Wd K G' M' H' ∧ SRp K G' sg' σ' ∧ Q sg' M'
structure EndsD where
  nx : Sg → Mem → Prop
  rt : D → Mem → Prop
  bk : Sg → Mem → Prop := fun _ _ => False
  ct : Sg → Mem → Prop := fun _ _ => False
def toE (K : PySem.W.Frag) (G : Hp) (M : Mem) (H : Hp) (E : EndsD) : Ends := { nx := PN K G M H E.nx, rt := PV K G M H E.rt, bk := PN K G M H E.bk, ct := PN K G M H E.ct }

/-- the weakest readings -/
structure tW (X : Cx) (e : Expr) (σ : L2.St) (H : Hp) (R : VK) : Prop where
  run : ∀ pins s, Inv X pins σ H s → wpAny (model X.prog X.w) X.A (eval e X.env) (EP X pins σ R) X.xe s
structure tWT (X : Cx) (e : Expr) (σ : L2.St) (H : Hp) (R : Bool → Hp → Prop) : Prop where
  run : ∀ pins s, Inv X pins σ H s → wpAny (model X.prog X.w) X.A (isTrue e X.env (eval e X.env)) (TP X pins σ R) X.xe s
structure tWW (X : Cx) (e : Expr) (σ : L2.St) (H : Hp) (R : Bool → Hp → Prop) : Prop where
  run : ∀ whole pins s, Inv X pins σ H s → wpAny (model X.prog X.w) X.A (isTrue e X.env whole) (TP X pins σ R) X.xe s
structure tWA (X : Cx) (es : List Expr) (σ : L2.St) (H : Hp) (R : List V → Hp → Prop) : Prop where
  run : ∀ pos pins s, Inv X pins σ H s → wpAny (model X.prog X.w) X.A (spliced (backTo pos (starEach es X.env))) (AP X pins σ R) X.xe s
structure tWS (X : Cx) (st : Stmt) (D : Ends) (σ : L2.St) (H : Hp) : Prop where
  run : ∀ pins s, Inv X pins σ H s → wpAny (model X.prog X.w) X.A (exec st X.env) (SP X pins D) X.xe s
structure tWSs (X : Cx) (st : List Stmt) (D : Ends) (σ : L2.St) (H : Hp) : Prop where
  run : ∀ pins s, Inv X pins σ H s → wpAny (model X.prog X.w) X.A (execs st X.env) (SP X pins D) X.xe s
structure gW (X : Cx) (tg : Expr) (v : V) (σ : L2.St) (H : Hp) (R : L2.St → Hp → Prop) : Prop where
  run : ∀ pins s u, Inv X pins σ H s → RelV v u → wpAny (model X.prog X.w) X.A (assign tg X.env u) (fun _ s' => ∃ σ' H', Inv X pins σ' H' s' ∧ R σ' H') X.xe s
section
variable {X : Cx}
theorem pe_w {e : Expr} : PE X e (tW X e) := ⟨fun pins s σ H Q I h => h.run pins s I⟩
theorem pt_w {e : Expr} : PT X e (tWT X e) := ⟨fun pins s σ H Q I h => h.run pins s I⟩
theorem pw_w {e : Expr} : PW X e (tWW X e) := ⟨fun wh pins s σ H Q I h => h.run wh pins s I⟩
theorem pa_w {es : List Expr} : PA X es (tWA X es) := ⟨fun pos pins s σ H Q I h => h.run pos pins s I⟩
theorem ps_w {st : Stmt} : PS X st (tWS X st) := ⟨fun pins s σ H Q I h => h.run pins s I⟩
theorem pss_w {st : List Stmt} : PSs X st (tWSs X st) := ⟨fun pins s σ H Q I h => h.run pins s I⟩
theorem pg_w {tg : Expr} : PG X tg (gW X tg) := ⟨fun pins s σ H v u Q I r h => h.run pins s u I r⟩

/-- e evaluates so that Q holds of its datum and the mutable part -/
def WE (X : Cx) (e : Expr) (sg : Sg) (M : Mem) (Q : D → Mem → Prop) : Prop := ∀ σ H G, Wd X.K G M H → SRp X.K G sg σ → tW X e σ H (PV X.K G M H Q)
def WT (X : Cx) (e : Expr) (sg : Sg) (M : Mem) (Q : Bool → Mem → Prop) : Prop := ∀ σ H G, Wd X.K G M H → SRp X.K G sg σ → tWT X e σ H (PB X.K G M H Q)
def WW (X : Cx) (e : Expr) (sg : Sg) (M : Mem) (Q : Bool → Mem → Prop) : Prop := ∀ σ H G, Wd X.K G M H → SRp X.K G sg σ → tWW X e σ H (PB X.K G M H Q)
def WA (X : Cx) (es : List Expr) (sg : Sg) (M : Mem) (Q : List D → Mem → Prop) : Prop := ∀ σ H G, Wd X.K G M H → SRp X.K G sg σ → tWA X es σ H (PL X.K G M H Q)
def WS (X : Cx) (st : Stmt) (sg : Sg) (M : Mem) (E : EndsD) : Prop := ∀ σ H G, Wd X.K G M H → SRp X.K G sg σ → tWS X st (toE X.K G M H E) σ H
def WSs (X : Cx) (st : List Stmt) (sg : Sg) (M : Mem) (E : EndsD) : Prop := ∀ σ H G, Wd X.K G M H → SRp X.K G sg σ → tWSs X st (toE X.K G M H E) σ H
/-- .. to one datum, nothing changing -/
abbrev EE (X : Cx) (e : Expr) (sg : Sg) (M : Mem) (d : D) : Prop := WE X e sg M fun x M' => x = d ∧ M' = M
abbrev ET (X : Cx) (e : Expr) (sg : Sg) (M : Mem) (b : Bool) : Prop := WT X e sg M fun x M' => x = b ∧ M' = M
abbrev EA (X : Cx) (es : List Expr) (sg : Sg) (M : Mem) (ds : List D) : Prop := WA X es sg M fun x M' => x = ds ∧ M' = M

theorem tW.imp {e : Expr} {σ : L2.St} {H : Hp} {R R' : VK} (h : tW X e σ H R) (k : ∀ v H', R v H' → R' v H') : tW X e σ H R' := ⟨fun pins s I => thn (h.run pins s I) fun u s' ⟨v, H', J, r, q⟩ => ⟨v, H', J, r, k v H' q⟩⟩
theorem tWT.imp {e : Expr} {σ : L2.St} {H : Hp} {R R' : Bool → Hp → Prop} (h : tWT X e σ H R) (k : ∀ v H', R v H' → R' v H') : tWT X e σ H R' := ⟨fun pins s I => thn (h.run pins s I) fun u s' ⟨H', J, q⟩ => ⟨H', J, k u H' q⟩⟩
theorem tWW.imp {e : Expr} {σ : L2.St} {H : Hp} {R R' : Bool → Hp → Prop} (h : tWW X e σ H R) (k : ∀ v H', R v H' → R' v H') : tWW X e σ H R' := ⟨fun wh pins s I => thn (h.run wh pins s I) fun u s' ⟨H', J, q⟩ => ⟨H', J, k u H' q⟩⟩
theorem tWA.imp {es : List Expr} {σ : L2.St} {H : Hp} {R R' : List V → Hp → Prop} (h : tWA X es σ H R) (k : ∀ v H', R v H' → R' v H') : tWA X es σ H R' := ⟨fun pos pins s I => thn (h.run pos pins s I) fun u s' ⟨v, H', J, r, q⟩ => ⟨v, H', J, r, k v H' q⟩⟩
theorem SP.imp {pins : List (Addr × Obj)} {D D' : Ends} {f : Flow} {s : Shared} (h : SP X pins D f s) (k1 : ∀ σ H, D.nx σ H → D'.nx σ H) (k2 : ∀ v H, D.rt v H → D'.rt v H) (k3 : ∀ σ H, D.bk σ H → D'.bk σ H) (k4 : ∀ σ H, D.ct σ H → D'.ct σ H) : SP X pins D' f s := by
  cases f with
  | next => obtain ⟨σ, H, I, q⟩ := h; exact ⟨σ, H, I, k1 _ _ q⟩
  | brk => obtain ⟨σ, H, I, q⟩ := h; exact ⟨σ, H, I, k3 _ _ q⟩
  | cont => obtain ⟨σ, H, I, q⟩ := h; exact ⟨σ, H, I, k4 _ _ q⟩
  | ret u => obtain ⟨v, σ, H, I, r, q⟩ := h; exact ⟨v, σ, H, I, r, k2 _ _ q⟩
theorem tWS.imp {st : Stmt} {σ : L2.St} {H : Hp} {D D' : Ends} (h : tWS X st D σ H) (k1 : ∀ σ H, D.nx σ H → D'.nx σ H) (k2 : ∀ v H, D.rt v H → D'.rt v H) (k3 : ∀ σ H, D.bk σ H → D'.bk σ H) (k4 : ∀ σ H, D.ct σ H → D'.ct σ H) : tWS X st D' σ H := ⟨fun pins s I => thn (h.run pins s I) fun f s' q => SP.imp q k1 k2 k3 k4⟩
theorem tWSs.imp {st : List Stmt} {σ : L2.St} {H : Hp} {D D' : Ends} (h : tWSs X st D σ H) (k1 : ∀ σ H, D.nx σ H → D'.nx σ H) (k2 : ∀ v H, D.rt v H → D'.rt v H) (k3 : ∀ σ H, D.bk σ H → D'.bk σ H) (k4 : ∀ σ H, D.ct σ H → D'.ct σ H) : tWSs X st D' σ H := ⟨fun pins s I => thn (h.run pins s I) fun f s' q => SP.imp q k1 k2 k3 k4⟩

section
variable {K : PySem.W.Frag} {G H H' : Hp} {M : Mem}
theorem PV.imp {Q Q' : D → Mem → Prop} {v : V} (h : PV K G M H Q v H') (k : ∀ d M', Q d M' → Q' d M') : PV K G M H Q' v H' := let ⟨d, G', M', s, w, r, q⟩ := h; ⟨d, G', M', s, w, r, k _ _ q⟩
theorem PV.base {Q : D → Mem → Prop} {v : V} {G1 H1 : Hp} {M1 : Mem} (s : Stp G M H G1 M1 H1) (h : PV K G1 M1 H1 Q v H') : PV K G M H Q v H' := let ⟨d, G', M', s', w, r, q⟩ := h; ⟨d, G', M', s.trans s', w, r, q⟩
theorem PB.base {Q : Bool → Mem → Prop} {v : Bool} {G1 H1 : Hp} {M1 : Mem} (s : Stp G M H G1 M1 H1) (h : PB K G1 M1 H1 Q v H') : PB K G M H Q v H' := let ⟨G', M', s', w, q⟩ := h; ⟨G', M', s.trans s', w, q⟩
theorem PL.base {Q : List D → Mem → Prop} {v : List V} {G1 H1 : Hp} {M1 : Mem} (s : Stp G M H G1 M1 H1) (h : PL K G1 M1 H1 Q v H') : PL K G M H Q v H' := let ⟨d, G', M', s', w, r, q⟩ := h; ⟨d, G', M', s.trans s', w, r, q⟩
theorem PN.base {Q : Sg → Mem → Prop} {σ : L2.St} {G1 H1 : Hp} {M1 : Mem} (s : Stp G M H G1 M1 H1) (h : PN K G1 M1 H1 Q σ H') : PN K G M H Q σ H' := let ⟨d, G', M', s', w, r, q⟩ := h; ⟨d, G', M', s.trans s', w, r, q⟩
theorem PV.here {Q : D → Mem → Prop} {v : V} {d : D} (w : Wd K G M H) (r : Rp K G v d) (q : Q d M) : PV K G M H Q v H := ⟨d, G, M, Stp.refl, w, r, q⟩
theorem PB.here {Q : Bool → Mem → Prop} {b : Bool} (w : Wd K G M H) (q : Q b M) : PB K G M H Q b H := ⟨G, M, Stp.refl, w, q⟩
end
theorem WE.imp {e : Expr} {sg : Sg} {M : Mem} {Q Q' : D → Mem → Prop} (h : WE X e sg M Q) (k : ∀ d M', Q d M' → Q' d M') : WE X e sg M Q' := fun σ H G w r => (h σ H G w r).imp fun v H' p => p.imp k
theorem WT.imp {e : Expr} {sg : Sg} {M : Mem} {Q Q' : Bool → Mem → Prop} (h : WT X e sg M Q) (k : ∀ d M', Q d M' → Q' d M') : WT X e sg M Q' := fun σ H G w r => (h σ H G w r).imp fun v H' ⟨G', M', a, b, q⟩ => ⟨G', M', a, b, k _ _ q⟩
theorem WW.imp {e : Expr} {sg : Sg} {M : Mem} {Q Q' : Bool → Mem → Prop} (h : WW X e sg M Q) (k : ∀ d M', Q d M' → Q' d M') : WW X e sg M Q' := fun σ H G w r => (h σ H G w r).imp fun v H' ⟨G', M', a, b, q⟩ => ⟨G', M', a, b, k _ _ q⟩
theorem WA.imp {es : List Expr} {sg : Sg} {M : Mem} {Q Q' : List D → Mem → Prop} (h : WA X es sg M Q) (k : ∀ d M', Q d M' → Q' d M') : WA X es sg M Q' := fun σ H G w r => (h σ H G w r).imp fun v H' ⟨d, G', M', a, b, c, q⟩ => ⟨d, G', M', a, b, c, k _ _ q⟩
structure EndsD.Le (E E' : EndsD) : Prop where
  nx : ∀ sg M, E.nx sg M → E'.nx sg M
  rt : ∀ d M, E.rt d M → E'.rt d M
  bk : ∀ sg M, E.bk sg M → E'.bk sg M
  ct : ∀ sg M, E.ct sg M → E'.ct sg M
theorem PN.imp {K : PySem.W.Frag} {G H H' : Hp} {M : Mem} {Q Q' : Sg → Mem → Prop} {σ : L2.St} (h : PN K G M H Q σ H') (k : ∀ d M', Q d M' → Q' d M') : PN K G M H Q' σ H' := let ⟨d, G', M', s, w, r, q⟩ := h; ⟨d, G', M', s, w, r, k _ _ q⟩
theorem WS.imp {st : Stmt} {sg : Sg} {M : Mem} {E E' : EndsD} (h : WS X st sg M E) (k : E.Le E') : WS X st sg M E' := fun σ H G w r => (h σ H G w r).imp (fun _ _ q => PN.imp q k.nx) (fun _ _ q => PV.imp q k.rt) (fun _ _ q => PN.imp q k.bk) (fun _ _ q => PN.imp q k.ct)
theorem WSs.imp {st : List Stmt} {sg : Sg} {M : Mem} {E E' : EndsD} (h : WSs X st sg M E) (k : E.Le E') : WSs X st sg M E' := fun σ H G w r => (h σ H G w r).imp (fun _ _ q => PN.imp q k.nx) (fun _ _ q => PV.imp q k.rt) (fun _ _ q => PN.imp q k.bk) (fun _ _ q => PN.imp q k.ct)
/-- a rule of the layer below, by its reading -/
theorem WE.of {e : Expr} {t : TE} {sg : Sg} {M : Mem} {Q : D → Mem → Prop} (h : PE X e t) (k : ∀ σ H G, Wd X.K G M H → SRp X.K G sg σ → t σ H (PV X.K G M H Q)) : WE X e sg M Q := fun σ H G w r => ⟨fun pins s I => h.run pins s σ H _ I (k σ H G w r)⟩
theorem WT.of {e : Expr} {t : TT} {sg : Sg} {M : Mem} {Q : Bool → Mem → Prop} (h : PT X e t) (k : ∀ σ H G, Wd X.K G M H → SRp X.K G sg σ → t σ H (PB X.K G M H Q)) : WT X e sg M Q := fun σ H G w r => ⟨fun pins s I => h.run pins s σ H _ I (k σ H G w r)⟩
theorem WW.of {e : Expr} {t : TT} {sg : Sg} {M : Mem} {Q : Bool → Mem → Prop} (h : PW X e t) (k : ∀ σ H G, Wd X.K G M H → SRp X.K G sg σ → t σ H (PB X.K G M H Q)) : WW X e sg M Q := fun σ H G w r => ⟨fun wh pins s I => h.run wh pins s σ H _ I (k σ H G w r)⟩
theorem WA.of {es : List Expr} {t : TA} {sg : Sg} {M : Mem} {Q : List D → Mem → Prop} (h : PA X es t) (k : ∀ σ H G, Wd X.K G M H → SRp X.K G sg σ → t σ H (PL X.K G M H Q)) : WA X es sg M Q := fun σ H G w r => ⟨fun pos pins s I => h.run pos pins s σ H _ I (k σ H G w r)⟩
theorem WS.of {st : Stmt} {t : TS} {sg : Sg} {M : Mem} {E : EndsD} (h : PS X st t) (k : ∀ σ H G, Wd X.K G M H → SRp X.K G sg σ → t (toE X.K G M H E) σ H) : WS X st sg M E := fun σ H G w r => ⟨fun pins s I => h.run pins s σ H _ I (k σ H G w r)⟩
theorem WSs.of {st : List Stmt} {t : TS} {sg : Sg} {M : Mem} {E : EndsD} (h : PSs X st t) (k : ∀ σ H G, Wd X.K G M H → SRp X.K G sg σ → t (toE X.K G M H E) σ H) : WSs X st sg M E := fun σ H G w r => ⟨fun pins s I => h.run pins s σ H _ I (k σ H G w r)⟩
theorem toE_base {K : PySem.W.Frag} {G H G1 H1 : Hp} {M M1 : Mem} {E : EndsD} {st : List Stmt} {σ : L2.St} {H0 : Hp} (s : Stp G M H G1 M1 H1) (h : tWSs X st (toE K G1 M1 H1 E) σ H0) : tWSs X st (toE K G M H E) σ H0 := h.imp (fun _ _ q => PN.base s q) (fun _ _ q => PV.base s q) (fun _ _ q => PN.base s q) (fun _ _ q => PN.base s q)
end
end DL
set_option Elab.async false
set_option linter.all false
set_option maxRecDepth 100000
set_option maxHeartbeats 4000000
/-! DLb: rules for expressions over data. -/
namespace DL
open PySem L2
section
variable {X : Cx} {sg : Sg} {M : Mem} {Q : D → Mem → Prop} {Qb : Bool → Mem → Prop} {pos : Pos} {K : PySem.W.Frag}

/-! ### names, constants -/
theorem we_v (i : Nat) {x : Str} {d : D} (hs : sg[i]? = some (some d)) (q : Q d M) (hN : X.N[i]? = some x := by rfl) (hv : Vis X.env.scope x := by first | exact Or.inl rfl | exact Or.inr (Or.inl rfl) | exact Or.inr (Or.inr rfl))
    (hd : (x == ("__debug__" : Str)) = false := by decide) (hcd : (x == ("__classdict__" : Str)) = false := by decide) : WE X (.Name x pos) sg M Q :=
  WE.of (pe_var hN hv hd hcd) fun σ H G w r => by
    obtain ⟨v, e, rp⟩ := r.at_ i d hs
    exact ⟨v, e, PV.here w rp q⟩
theorem we_int {i : Int} {j : Nat} (q : Q (.int i) M) : WE X (.Constant (.int i) j pos) sg M Q := WE.of pe_int fun σ H G w r => PV.here w (.int i) q
theorem we_bl {b : Bool} {j : Nat} (q : Q (.bl b) M) : WE X (.Constant (.bool b) j pos) sg M Q := WE.of pe_bl fun σ H G w r => PV.here w (.bl b) q
theorem we_non {j : Nat} (q : Q .non M) : WE X (.Constant .none j pos) sg M Q := WE.of pe_non fun σ H G w r => PV.here w .non q
theorem we_str {x : Str} {j : Nat} (q : Q (.str x) M) : WE X (.Constant (.str x) j pos) sg M Q := WE.of pe_str fun σ H G w r => PV.here w (.str x) q
/-- a module's constant int -/
theorem we_gi {x : Str} {i : Int} {t : Tok} (hm : X.mg x = some (.int i t)) (q : Q (.int i) M) (hg : Gl X x := by rfl) (hd : (x == ("__debug__" : Str)) = false := by decide) : WE X (.Name x pos) sg M Q := WE.of (pe_glob (v := .int i) hg hm (show ∃ t', Value.int i t = Value.int i t' from ⟨t, rfl⟩) hd) fun σ H G w r => PV.here w (.int i) q
theorem we_gs {x y : Str} {t : Tok} (hm : X.mg x = some (.str y t)) (q : Q (.str y) M) (hg : Gl X x := by rfl) (hd : (x == ("__debug__" : Str)) = false := by decide) : WE X (.Name x pos) sg M Q := WE.of (pe_glob (v := .str y) hg hm (show ∃ t', Value.str y t = Value.str y t' from ⟨t, rfl⟩) hd) fun σ H G w r => PV.here w (.str y) q

/-! ### two-place operators -/
def OpD (K : PySem.W.Frag) (r : R2) (x y : D) (M : Mem) (Q : D → Mem → Prop) : Prop := ∀ (G H : Hp) (v u : V) (R : VK), Wd K G M H → Rp K G v x → Rp K G u y → (∀ z H', PV K G M H Q z H' → R z H') → r v u H R
theorem two {a b : Expr} {r : R2} {Qa : D → Mem → Prop} (ha : WE X a sg M Qa) (hb : ∀ x M1, Qa x M1 → WE X b sg M1 fun y M2 => OpD X.K r x y M2 Q) {σ : L2.St} {H G : Hp} (w : Wd X.K G M H) (s : SRp X.K G sg σ) : tOp r (tW X a) (tW X b) σ H (PV X.K G M H Q) :=
  (ha σ H G w s).imp fun v H1 ⟨x, G1, M1, st, w1, r1, q1⟩ => (hb x M1 q1 σ H1 G1 w1 (s.mono (st.gx w))).imp fun u H2 ⟨y, G2, M2, st2, w2, r2, q2⟩ => q2 G2 H2 v u _ w2 (r1.mono (st2.gx w1)) r2 fun z H' h => h.base (st.trans st2)
theorem we_op {op : Operator} {a b : Expr} {r : R2} {Qa : D → Mem → Prop} (ho : OpR X (binaryOp op) r) (ha : WE X a sg M Qa) (hb : ∀ x M1, Qa x M1 → WE X b sg M1 fun y M2 => OpD X.K r x y M2 Q) : WE X (.BinOp a op b pos) sg M Q := WE.of (pe_op ho pe_w pe_w) fun σ H G w s => two ha hb w s
theorem ee_op {op : Operator} {a b : Expr} {r : R2} {x y : D} (ho : OpR X (binaryOp op) r) (ha : EE X a sg M x) (hb : EE X b sg M y) (hr : OpD X.K r x y M Q) : WE X (.BinOp a op b pos) sg M Q := we_op ho ha fun x' M1 ⟨e1, e2⟩ => by
  subst e1; subst e2
  exact hb.imp fun y' M2 ⟨e1, e2⟩ => by subst e1; subst e2; exact hr
theorem we_cmp {op : CmpOp} {a b : Expr} {r : R2} {Qa : D → Mem → Prop} (ho : OpR X (compareOp op) r) (ha : WE X a sg M Qa) (hb : ∀ x M1, Qa x M1 → WE X b sg M1 fun y M2 => OpD X.K r x y M2 Q) (hm : behindInMarks op b = false := by first | exact nomark _ | rfl) : WE X (.Compare a [op] [b] pos) sg M Q := WE.of (pe_cmpR ho pe_w pe_w hm) fun σ H G w s => two ha hb w s
theorem ee_cmp {op : CmpOp} {a b : Expr} {r : R2} {x y : D} (ho : OpR X (compareOp op) r) (ha : EE X a sg M x) (hb : EE X b sg M y) (hr : OpD X.K r x y M Q) (hm : behindInMarks op b = false := by first | exact nomark _ | rfl) : WE X (.Compare a [op] [b] pos) sg M Q := we_cmp ho ha (fun x' M1 ⟨e1, e2⟩ => by
  subst e1; subst e2
  exact hb.imp fun y' M2 ⟨e1, e2⟩ => by subst e1; subst e2; exact hr) hm
/-- a comparison as a test -/
theorem wt_cmp {op : CmpOp} {a b : Expr} {r : R2} {Qa : D → Mem → Prop} (ho : OpR X (compareOp op) r) (ha : WE X a sg M Qa) (hb : ∀ x M1, Qa x M1 → WE X b sg M1 fun y M2 => OpD X.K r x y M2 fun z M3 => ∃ k, z = .bl k ∧ Qb k M3) (hm : behindInMarks op b = false := by first | exact nomark _ | rfl) : WT X (.Compare a [op] [b] pos) sg M Qb :=
  WT.of (pt_cmpR ho pe_w pe_w hm) fun σ H G w s => by
    refine (ha σ H G w s).imp fun v H1 ⟨x, G1, M1, st, w1, r1, q1⟩ => (hb x M1 q1 σ H1 G1 w1 (s.mono (st.gx w))).imp fun u H2 ⟨y, G2, M2, st2, w2, r2, q2⟩ => q2 G2 H2 v u _ w2 (r1.mono (st2.gx w1)) r2 fun z H' h => ?_
    obtain ⟨d, G', M', s', w', r', k, rfl, q⟩ := h
    cases r'
    exact ⟨k, rfl, G', M', (st.trans st2).trans s', w', q⟩
theorem et_cmp {op : CmpOp} {a b : Expr} {r : R2} {x y : D} (ho : OpR X (compareOp op) r) (ha : EE X a sg M x) (hb : EE X b sg M y) (hr : OpD X.K r x y M fun z M3 => ∃ k, z = .bl k ∧ Qb k M3) (hm : behindInMarks op b = false := by first | exact nomark _ | rfl) : WT X (.Compare a [op] [b] pos) sg M Qb := wt_cmp ho ha (fun x' M1 ⟨e1, e2⟩ => by
  subst e1; subst e2
  exact hb.imp fun y' M2 ⟨e1, e2⟩ => by subst e1; subst e2; exact hr) hm
/-- a < b < c -/
def tri (X : Cx) (a b c : Expr) (r r' : R2) (sg : Sg) (M : Mem) (Q : Bool → Mem → Prop) : Prop := WE X a sg M fun x M1 => WE X b sg M1 fun y M2 => OpD X.K r x y M2 fun z M3 => ∃ k, z = .bl k ∧ (k = false → Q false M3) ∧ (k = true → WE X c sg M3 fun u M4 => OpD X.K r' y u M4 fun z M5 => ∃ k, z = .bl k ∧ Q k M5)
theorem tri_run {a b c : Expr} {r r' : R2} (h : tri X a b c r r' sg M Qb) {σ : L2.St} {H G : Hp} {R : VK} (w : Wd X.K G M H) (s : SRp X.K G sg σ) (hR : ∀ k H', PB X.K G M H Qb k H' → R (.bl k) H') : tChain r r' (tW X a) (tW X b) (tW X c) σ H R := by
  refine (h σ H G w s).imp fun v H1 ⟨x, G1, M1, st, w1, r1, q1⟩ => (q1 σ H1 G1 w1 (s.mono (st.gx w))).imp fun u H2 ⟨y, G2, M2, st2, w2, r2, q2⟩ => q2 G2 H2 v u _ w2 (r1.mono (st2.gx w1)) r2 fun z H' h => ?_
  obtain ⟨d, G3, M3, st3, w3, r3, k, rfl, q0, q1'⟩ := h
  cases r3
  refine ⟨k, rfl, ?_⟩
  cases k with
  | false => exact hR false H' ⟨G3, M3, (st.trans st2).trans st3, w3, q0 rfl⟩
  | true =>
    refine (q1' rfl σ H' G3 w3 (s.mono (((st.trans st2).trans st3).gx w))).imp fun t H4 ⟨z, G4, M4, st4, w4, r4, q4⟩ => q4 G4 H4 u t _ w4 (r2.mono ((st3.trans st4).gx w2)) r4 fun z' H5 h5 => ?_
    obtain ⟨d, G5, M5, st5, w5, r5, k, rfl, q5⟩ := h5
    cases r5
    exact hR k H5 ⟨G5, M5, (((st.trans st2).trans st3).trans st4).trans st5, w5, q5⟩
theorem we_chain {op op' : CmpOp} {a b c : Expr} {r r' : R2} (ho : OpR X (compareOp op) r) (ho' : OpR X (compareOp op') r') (h : tri X a b c r r' sg M fun k M1 => Q (.bl k) M1) (hm : lastMarks [op, op'] [b, c] = false := by with_unfolding_all rfl) : WE X (.Compare a [op, op'] [b, c] pos) sg M Q :=
  WE.of (pe_chain ho ho' pe_w pe_w pe_w hm) fun σ H G w s => tri_run h w s fun k H' ⟨G', M', st, w', q⟩ => ⟨.bl k, G', M', st, w', .bl k, q⟩
theorem wt_chain {op op' : CmpOp} {a b c : Expr} {r r' : R2} (ho : OpR X (compareOp op) r) (ho' : OpR X (compareOp op') r') (h : tri X a b c r r' sg M Qb) (hm : lastMarks [op, op'] [b, c] = false := by with_unfolding_all rfl) : WT X (.Compare a [op, op'] [b, c] pos) sg M Qb :=
  WT.of (pt_chain ho ho' pe_w pe_w pe_w hm) fun σ H G w s => tri_run h w s fun k H' q => ⟨k, rfl, q⟩
/-- three ints -/
theorem tri_I {a b c : Expr} {p p' : Int → Int → Bool} {i j l : Int} (ha : EE X a sg M (.int i)) (hb : EE X b sg M (.int j)) (hc : EE X c sg M (.int l)) (q : Qb (p i j && p' j l) M) : tri X a b c (rI0 fun i j => .bl (p i j)) (rI0 fun i j => .bl (p' i j)) sg M Qb :=
  ha.imp fun x M1 ⟨e1, e2⟩ => by
    subst e1; subst e2
    exact hb.imp fun y M2 ⟨e1, e2⟩ => by
      subst e1; subst e2
      intro G H v u R w rx ry k
      cases rx; cases ry
      refine ⟨i, j, rfl, rfl, k _ _ (PV.here w (.bl _) ⟨p i j, rfl, fun e => ?_, fun e => hc.imp fun z M3 ⟨e1, e2⟩ => ?_⟩)⟩
      · rw [e] at q; exact q
      · subst e1; subst e2
        intro G H v u R w rx ry k
        cases rx; cases ry
        refine ⟨j, l, rfl, rfl, k _ _ (PV.here w (.bl _) ⟨p' j l, rfl, ?_⟩)⟩
        rw [e, Bool.true_and] at q; exact q
/-! the operators by data -/
theorem od_I0 {f : Int → Int → Int} {i j : Int} (q : Q (.int (f i j)) M) : OpD K (rI0 fun i j => .int (f i j)) (.int i) (.int j) M Q := fun G H v u R w rx ry k => by
  cases rx; cases ry
  exact ⟨i, j, rfl, rfl, k _ _ (PV.here w (.int _) q)⟩
theorem od_I {C : Int → Int → Prop} {f : Int → Int → Int} {i j : Int} (c : C i j) (q : Q (.int (f i j)) M) : OpD K (rI C fun i j => .int (f i j)) (.int i) (.int j) M Q := fun G H v u R w rx ry k => by
  cases rx; cases ry
  exact ⟨i, j, rfl, rfl, c, k _ _ (PV.here w (.int _) q)⟩
theorem od_B0 {f : Int → Int → Bool} {i j : Int} (q : Q (.bl (f i j)) M) : OpD K (rI0 fun i j => .bl (f i j)) (.int i) (.int j) M Q := fun G H v u R w rx ry k => by
  cases rx; cases ry
  exact ⟨i, j, rfl, rfl, k _ _ (PV.here w (.bl _) q)⟩
theorem od_catS {x y : Str} (h : x.length + y.length ≤ sizeLine) (q : Q (.str (x ++ y)) M) : OpD K (fun x y H Q => ∃ i j, x = .str i ∧ y = .str j ∧ i.length + j.length ≤ sizeLine ∧ Q (.str (i ++ j)) H) (.str x) (.str y) M Q := fun G H v u R w rx ry k => by
  cases rx; cases ry
  exact ⟨x, y, rfl, rfl, h, k _ _ (PV.here w (.str _) q)⟩
theorem new_tup {G H : Hp} {p : Addr} {xs : List V} {ds : List D} (w : Wd K G M H) (hp : H p = none) (r : RpA K G xs ds) (q : Q (.tup ds) M) : PV K G M H Q (.ref p) (upd H p (.tup xs)) := by
  obtain ⟨w', st⟩ := w.new hp (o := .tup xs)
  exact ⟨_, _, _, st, w', .tup upd_same (r.mono (gx_new w hp)), q⟩
theorem new_lst {G H : Hp} {p : Addr} {xs : List V} {ds : List D} (w : Wd K G M H) (hp : H p = none) (r : RpA K G xs ds) (q : Q (.lst ds) M) : PV K G M H Q (.ref p) (upd H p (.lst xs)) := by
  obtain ⟨w', st⟩ := w.new hp (o := .lst xs)
  exact ⟨_, _, _, st, w', .lst upd_same (r.mono (gx_new w hp)), q⟩
/-- .. that may change -/
theorem new_lstM {G H : Hp} {p : Addr} {xs : List V} {ds : List D} (w : Wd K G M H) (hp : H p = none) (r : RpA K G xs ds) (q : ∀ p, M p = none → Q (.ptr p) (updM M p (some (.lst ds)))) : PV K G M H Q (.ref p) (upd H p (.lst xs)) := by
  obtain ⟨w', st⟩ := w.newM hp (o := .lst xs) (mo := .lst ds) ⟨xs, upd_same, r⟩
  exact ⟨_, _, _, st, w', .ptr p, q p (w.free hp).2⟩
theorem od_catT {ds es : List D} (h : ds.length + es.length ≤ sizeLine) (q : Q (.tup (ds ++ es)) M) : OpD K (rCatA K) (.tup ds) (.tup es) M Q := fun G H v u R w rx ry k => by
  cases rx with
  | tup h1 r1 =>
    cases ry with
    | tup h2 r2 =>
      refine ⟨_, _, _, _, rfl, rfl, SqT.of (w.sub _ _ h1), SqT.of (w.sub _ _ h2), by rw [r1.length, r2.length]; exact h, fun e => ?_, fun e e2 => ?_, fun e e2 p hp => ?_⟩
      · subst e
        cases r1
        exact k _ _ (PV.here w (.tup h2 r2) q)
      · subst e2
        cases r2
        rw [List.append_nil] at q
        exact k _ _ (PV.here w (.tup h1 r1) q)
      · exact k _ _ (new_tup w hp (r1.append r2) q)
/-- a list as it stands: frozen, or one that may change -/
def LsD (M : Mem) (x : D) (ds : List D) : Prop := x = .lst ds ∨ ∃ p, x = .ptr p ∧ M p = some (.lst ds)
theorem LsD.at {x : D} {ds : List D} {v : V} {G H : Hp} (h : LsD M x ds) (w : Wd K G M H) (r : Rp K G v x) : ∃ a xs, v = .ref a ∧ H a = some (.lst xs) ∧ RpA K G xs ds := by
  rcases h with rfl | ⟨p, rfl, e⟩
  · cases r with
    | lst h1 r1 => exact ⟨_, _, rfl, w.sub _ _ h1, r1⟩
  · cases r
    obtain ⟨_, xs, h1, r1⟩ := w.mem _ _ e
    exact ⟨_, _, rfl, h1, r1⟩
theorem od_cat {x y : D} {ds es : List D} (hx : LsD M x ds) (hy : LsD M y es) (h : ds.length + es.length ≤ sizeLine) (q : Q (.lst (ds ++ es)) M) : OpD K rCat x y M Q := fun G H v u R w rx ry k => by
  obtain ⟨a, xs, rfl, h1, r1⟩ := hx.at w rx
  obtain ⟨b, ys, rfl, h2, r2⟩ := hy.at w ry
  exact ⟨a, b, xs, ys, rfl, rfl, h1, h2, by rw [r1.length, r2.length]; exact h, fun p hp => k _ _ (new_lst w hp (r1.append r2) q)⟩
theorem od_repT {ds : List D} {i : Int} (h0 : ds ≠ []) (h1 : 2 ≤ i) (h2 : i ≤ 1000) (h3 : ds.length ≤ 1000) (q : Q (.tup (List.replicate i.toNat ds).flatten) M) : OpD K (rRepT K) (.tup ds) (.int i) M Q := fun G H v u R w rx ry k => by
  cases ry
  cases rx with
  | tup e1 r1 => exact ⟨_, _, _, rfl, rfl, SqT.of (w.sub _ _ e1), fun e => h0 (by subst e; cases r1; rfl), h1, h2, by rw [r1.length]; exact h3, fun p hp => k _ _ (new_tup w hp (r1.rep _) q)⟩
theorem od_rep {x : D} {ds : List D} {i : Int} (hx : LsD M x ds) (h1 : -(2 ^ 63) ≤ i) (h2 : i < 2 ^ 63) (h3 : ds.length * i.toNat ≤ sizeLine) (q : Q (.lst (List.replicate i.toNat ds).flatten) M) : OpD K rRep x (.int i) M Q := fun G H v u R w rx ry k => by
  cases ry
  obtain ⟨a, xs, rfl, e1, r1⟩ := hx.at w rx
  exact ⟨a, i, xs, rfl, rfl, e1, h1, h2, by rw [r1.length]; exact h3, fun p hp => k _ _ (new_lst w hp (r1.rep _) q)⟩
/-- is None, is not None -/
def isNon : D → Bool
  | .non => true
  | _ => false
theorem Rp.non_iff {G : Hp} {v : V} {d : D} (r : Rp K G v d) : decide (v = .non) = isNon d := by cases r <;> rfl
theorem od_isN {x : D} (q : Q (.bl (isNon x)) M) : OpD K (fun x y H Q => y = .non ∧ Q (.bl (decide (x = .non))) H) x .non M Q := fun G H v u R w rx ry k => by
  cases ry
  refine ⟨rfl, k _ _ ?_⟩
  rw [rx.non_iff]
  exact PV.here w (.bl _) q
theorem od_notN {x : D} (q : Q (.bl (!isNon x)) M) : OpD K (fun x y H Q => y = .non ∧ Q (.bl (!decide (x = .non))) H) x .non M Q := fun G H v u R w rx ry k => by
  cases ry
  refine ⟨rfl, k _ _ ?_⟩
  rw [rx.non_iff]
  exact PV.here w (.bl _) q
/-- is, is not of two bools -/
theorem od_isB {a b : Bool} (q : Q (.bl (decide (a = b))) M) : OpD K rIsB (.bl a) (.bl b) M Q := fun G H v u R w rx ry k => by
  cases rx; cases ry
  exact ⟨a, b, rfl, rfl, k _ _ (PV.here w (.bl _) q)⟩
theorem od_notB {a b : Bool} (q : Q (.bl (!decide (a = b))) M) : OpD K rNotB (.bl a) (.bl b) M Q := fun G H v u R w rx ry k => by
  cases rx; cases ry
  exact ⟨a, b, rfl, rfl, k _ _ (PV.here w (.bl _) q)⟩
/-- == of ints, of texts -/
theorem od_eqI {i j : Int} (q : Q (.bl (decide (i = j))) M) : OpD K rEq (.int i) (.int j) M Q := fun G H v u R w rx ry k => by
  cases rx; cases ry
  have e : decide (V.int i = V.int j) = decide (i = j) := decide_eq_decide.mpr ⟨V.int.inj, congrArg _⟩
  refine ⟨rfl, k _ _ ?_⟩
  rw [e]
  exact PV.here w (.bl _) q
theorem od_neI {i j : Int} (q : Q (.bl (!decide (i = j))) M) : OpD K rNe (.int i) (.int j) M Q := fun G H v u R w rx ry k => by
  cases rx; cases ry
  have e : decide (V.int i = V.int j) = decide (i = j) := decide_eq_decide.mpr ⟨V.int.inj, congrArg _⟩
  refine ⟨rfl, k _ _ ?_⟩
  rw [e]
  exact PV.here w (.bl _) q
theorem od_eqS {i j : Str} (q : Q (.bl (decide (i = j))) M) : OpD K rEq (.str i) (.str j) M Q := fun G H v u R w rx ry k => by
  cases rx; cases ry
  have e : decide (V.str i = V.str j) = decide (i = j) := decide_eq_decide.mpr ⟨V.str.inj, congrArg _⟩
  refine ⟨rfl, k _ _ ?_⟩
  rw [e]
  exact PV.here w (.bl _) q
theorem od_neS {i j : Str} (q : Q (.bl (!decide (i = j))) M) : OpD K rNe (.str i) (.str j) M Q := fun G H v u R w rx ry k => by
  cases rx; cases ry
  have e : decide (V.str i = V.str j) = decide (i = j) := decide_eq_decide.mpr ⟨V.str.inj, congrArg _⟩
  refine ⟨rfl, k _ _ ?_⟩
  rw [e]
  exact PV.here w (.bl _) q
theorem od_eqB {i j : Bool} (q : Q (.bl (decide (i = j))) M) : OpD K rEq (.bl i) (.bl j) M Q := fun G H v u R w rx ry k => by
  cases rx; cases ry
  have e : decide (V.bl i = V.bl j) = decide (i = j) := decide_eq_decide.mpr ⟨V.bl.inj, congrArg _⟩
  refine ⟨rfl, k _ _ ?_⟩
  rw [e]
  exact PV.here w (.bl _) q

/-! ### == of data at any depth -/
mutual
def toPy : D → PyData
  | .non => .none
  | .bl b => .bool b
  | .int i => .int i
  | .str x => .str x
  | .tup ds => .tuple (toPyA ds)
  | .lst ds => .list (toPyA ds)
  | .ptr _ => .none
  | .scr ns => .list (ns.map .int)
def toPyA : List D → List PyData
  | [] => []
  | d :: ds => toPy d :: toPyA ds
end
mutual
/-- no mutable object within -/
def pl : D → Bool
  | .tup ds => plA ds
  | .lst ds => plA ds
  | .ptr _ => false
  | .scr _ => false
  | _ => true
def plA : List D → Bool
  | [] => true
  | d :: ds => pl d && plA ds
end
theorem dp_ints {H : Hp} : ∀ ns : List Int, DpAll K H (ns.map V.int) (ns.map PyData.int)
  | [] => .nil
  | n :: ns => .cons (.int n) (dp_ints ns)
mutual
theorem dp_of {G H : Hp} (e : Gx G H) : ∀ {v : V} {d : D}, Rp K G v d → pl d = true → Dp K H v (toPy d)
  | _, _, .non, _ => .non
  | _, _, .bl b, _ => .bl b
  | _, _, .int i, _ => .int i
  | _, _, .str x, _ => .str x
  | _, _, .tup h r, p => .tup (e.st (SqT.of h)) (dp_all e r p)
  | _, _, .lst h r, p => .lst (SqL.of (e _ _ h)) (dp_all e r p)
  | _, _, .ptr _, p => Bool.noConfusion (show false = true from p)
  | _, _, .scr _, p => Bool.noConfusion (show false = true from p)
theorem dp_all {G H : Hp} (e : Gx G H) : ∀ {vs : List V} {ds : List D}, RpA K G vs ds → plA ds = true → DpAll K H vs (toPyA ds)
  | _, _, .nil, _ => .nil
  | _, _, .cons h r, p => by
    have q := Bool.and_eq_true_iff.mp p
    exact .cons (dp_of e h q.1) (dp_all e r q.2)
end
/-- what a datum is told by, lists that may change at the top included -/
def PyD (M : Mem) (x : D) (d : PyData) : Prop := (pl x = true ∧ d = toPy x) ∨ ∃ ds, LsD M x ds ∧ plA ds = true ∧ d = .list (toPyA ds)
theorem PyD.dp {x : D} {d : PyData} {v : V} {G H : Hp} (h : PyD M x d) (w : Wd K G M H) (r : Rp K G v x) : Dp K H v d := by
  rcases h with ⟨p, rfl⟩ | ⟨ds, l, p, rfl⟩
  · exact dp_of w.sub r p
  · obtain ⟨a, xs, rfl, h1, r1⟩ := l.at w r
    exact .lst (SqL.of h1) (dp_all w.sub r1 p)
theorem od_eqD {x y : D} {d e : PyData} (hx : PyD M x d) (hy : PyD M y e) (sd : SeqAt.shaped d = true) (se : SeqAt.shaped e = true) (q : Q (.bl (PyData.eqv d e)) M) : OpD K (rEqD K) x y M Q := fun G H v u R w rx ry k =>
  ⟨d, e, hx.dp w rx, hy.dp w ry, sd, se, k _ _ (PV.here w (.bl _) q)⟩
theorem od_neD {x y : D} {d e : PyData} (hx : PyD M x d) (hy : PyD M y e) (sd : SeqAt.shaped d = true) (se : SeqAt.shaped e = true) (q : Q (.bl (!PyData.eqv d e)) M) : OpD K (rNeD K) x y M Q := fun G H v u R w rx ry k =>
  ⟨d, e, hx.dp w rx, hy.dp w ry, sd, se, k _ _ (PV.here w (.bl _) q)⟩

/-! ### truth, and, or, not, if -/
theorem wt_val {e : Expr} (h : WE X e sg M fun x M1 => ∃ k, x = .bl k ∧ Qb k M1) (he : ∀ whole, isTrue e X.env whole = (do let v ← whole; standAt e.pos; holding [v] (truthy v)) := by intro _; rfl) : WT X e sg M Qb := WT.of (pt_val pe_w he) fun σ H G w s =>
  (h σ H G w s).imp fun v H1 ⟨d, G', M', st, w', r, k, e, q⟩ => by
    subst e
    cases r
    exact ⟨k, rfl, G', M', st, w', q⟩
theorem wt_not {e : Expr} (h : WT X e sg M fun b M1 => Qb (!b) M1) : WT X (.UnaryOp .Not e pos) sg M Qb := WT.of (pt_not pt_w) fun σ H G w s => (h σ H G w s).imp fun v H1 ⟨G', M', st, w', q⟩ => ⟨G', M', st, w', q⟩
theorem ww_pt {e : Expr} (h : WW X e sg M Qb) : WT X e sg M Qb := fun σ H G w s => ⟨fun pins t I => (h σ H G w s).run _ pins t I⟩
theorem ww_and1 {e : Expr} (h : WT X e sg M Qb) : WW X (.BoolOp .And [e] pos) sg M Qb := WW.of (pw_and1 pt_w) fun σ H G w s => h σ H G w s
theorem ww_or1 {e : Expr} (h : WT X e sg M Qb) : WW X (.BoolOp .Or [e] pos) sg M Qb := WW.of (pw_or1 pt_w) fun σ H G w s => h σ H G w s
theorem ww_and {a b : Expr} {rest : List Expr} (h : WT X a sg M fun k M1 => (k = false → Qb false M1) ∧ (k = true → WW X (.BoolOp .And (b :: rest) pos) sg M1 Qb)) : WW X (.BoolOp .And (a :: b :: rest) pos) sg M Qb := WW.of (pw_and pt_w pw_w) fun σ H G w s => by
  refine (h σ H G w s).imp fun k H1 ⟨G1, M1, st, w1, q0, q1⟩ => ?_
  cases k with
  | true => exact (q1 rfl σ H1 G1 w1 (s.mono (st.gx w))).imp fun _ _ p => p.base st
  | false => exact ⟨G1, M1, st, w1, q0 rfl⟩
theorem ww_or {a b : Expr} {rest : List Expr} (h : WT X a sg M fun k M1 => (k = true → Qb true M1) ∧ (k = false → WW X (.BoolOp .Or (b :: rest) pos) sg M1 Qb)) : WW X (.BoolOp .Or (a :: b :: rest) pos) sg M Qb := WW.of (pw_or pt_w pw_w) fun σ H G w s => by
  refine (h σ H G w s).imp fun k H1 ⟨G1, M1, st, w1, q0, q1⟩ => ?_
  cases k with
  | false => exact (q1 rfl σ H1 G1 w1 (s.mono (st.gx w))).imp fun _ _ p => p.base st
  | true => exact ⟨G1, M1, st, w1, q0 rfl⟩
/-- as values: all but the last True or False -/
theorem we_one {op : BoolOp} {e : Expr} (h : WE X e sg M Q) : WE X (.BoolOp op [e] pos) sg M Q := WE.of (pe_one pe_w) fun σ H G w s => h σ H G w s
theorem we_and {a b : Expr} {rest : List Expr} (h : WE X a sg M fun x M1 => ∃ k, x = .bl k ∧ (k = false → Q (.bl false) M1) ∧ (k = true → WE X (.BoolOp .And (b :: rest) pos) sg M1 Q)) : WE X (.BoolOp .And (a :: b :: rest) pos) sg M Q := WE.of (pe_and pe_w pe_w) fun σ H G w s => by
  refine (h σ H G w s).imp fun v H1 ⟨d, G1, M1, st, w1, r1, k, e, q0, q1⟩ => ?_
  subst e
  cases r1
  refine ⟨k, rfl, ?_⟩
  cases k with
  | true => exact (q1 rfl σ H1 G1 w1 (s.mono (st.gx w))).imp fun _ _ p => p.base st
  | false => exact ⟨_, G1, M1, st, w1, .bl false, q0 rfl⟩
theorem we_or {a b : Expr} {rest : List Expr} (h : WE X a sg M fun x M1 => ∃ k, x = .bl k ∧ (k = true → Q (.bl true) M1) ∧ (k = false → WE X (.BoolOp .Or (b :: rest) pos) sg M1 Q)) : WE X (.BoolOp .Or (a :: b :: rest) pos) sg M Q := WE.of (pe_or pe_w pe_w) fun σ H G w s => by
  refine (h σ H G w s).imp fun v H1 ⟨d, G1, M1, st, w1, r1, k, e, q0, q1⟩ => ?_
  subst e
  cases r1
  refine ⟨k, rfl, ?_⟩
  cases k with
  | false => exact (q1 rfl σ H1 G1 w1 (s.mono (st.gx w))).imp fun _ _ p => p.base st
  | true => exact ⟨_, G1, M1, st, w1, .bl true, q0 rfl⟩
theorem we_not {e : Expr} (h : WE X e sg M fun x M1 => ∃ k, x = .bl k ∧ Q (.bl (!k)) M1) : WE X (.UnaryOp .Not e pos) sg M Q := WE.of (pe_not pe_w) fun σ H G w s => (h σ H G w s).imp fun v H1 ⟨d, G1, M1, st, w1, r1, k, e, q⟩ => by
  subst e
  cases r1
  exact ⟨k, rfl, _, G1, M1, st, w1, .bl _, q⟩
theorem we_if {c a b : Expr} (h : WT X c sg M fun k M1 => (k = true → WE X a sg M1 Q) ∧ (k = false → WE X b sg M1 Q)) : WE X (.IfExp c a b pos) sg M Q := WE.of (pe_ifExp pt_w pe_w pe_w) fun σ H G w s => by
  refine (h σ H G w s).imp fun k H1 ⟨G1, M1, st, w1, q1, q0⟩ => ?_
  cases k with
  | true => exact (q1 rfl σ H1 G1 w1 (s.mono (st.gx w))).imp fun _ _ p => p.base st
  | false => exact (q0 rfl σ H1 G1 w1 (s.mono (st.gx w))).imp fun _ _ p => p.base st
/-! .. where nothing changes -/
theorem ee_and {a b : Expr} {rest : List Expr} {p q : Bool} (ha : EE X a sg M (.bl p)) (hb : p = true → EE X (.BoolOp .And (b :: rest) pos) sg M (.bl q)) : EE X (.BoolOp .And (a :: b :: rest) pos) sg M (.bl (p && q)) := we_and (ha.imp fun x M1 ⟨e1, e2⟩ => by
  subst e1; subst e2
  refine ⟨p, rfl, fun e => by rw [e]; exact ⟨rfl, rfl⟩, fun e => ?_⟩
  rw [e, Bool.true_and]
  exact hb e)
theorem ee_or {a b : Expr} {rest : List Expr} {p q : Bool} (ha : EE X a sg M (.bl p)) (hb : p = false → EE X (.BoolOp .Or (b :: rest) pos) sg M (.bl q)) : EE X (.BoolOp .Or (a :: b :: rest) pos) sg M (.bl (p || q)) := we_or (ha.imp fun x M1 ⟨e1, e2⟩ => by
  subst e1; subst e2
  refine ⟨p, rfl, fun e => by rw [e]; exact ⟨rfl, rfl⟩, fun e => ?_⟩
  rw [e, Bool.false_or]
  exact hb e)
theorem ee_not {a : Expr} {p : Bool} (ha : EE X a sg M (.bl p)) : EE X (.UnaryOp .Not a pos) sg M (.bl (!p)) := we_not (ha.imp fun x M1 ⟨e1, e2⟩ => by
  subst e1; subst e2
  exact ⟨p, rfl, rfl, rfl⟩)
theorem ee_if {c a b : Expr} {k : Bool} {x : D} (hc : ET X c sg M k) (ha : k = true → EE X a sg M x) (hb : k = false → EE X b sg M x) : EE X (.IfExp c a b pos) sg M x := we_if (hc.imp fun b M1 ⟨e1, e2⟩ => by
  subst e1; subst e2
  exact ⟨ha, hb⟩)
theorem et_val {e : Expr} {k : Bool} (h : EE X e sg M (.bl k)) (he : ∀ whole, isTrue e X.env whole = (do let v ← whole; standAt e.pos; holding [v] (truthy v)) := by intro _; rfl) : ET X e sg M k := wt_val (h.imp fun x M1 ⟨e1, e2⟩ => ⟨k, e1, rfl, e2⟩) he
theorem et_not {e : Expr} {k : Bool} (h : ET X e sg M k) : ET X (.UnaryOp .Not e pos) sg M (!k) := wt_not (h.imp fun x M1 ⟨e1, e2⟩ => ⟨by rw [e1], e2⟩)
abbrev EW (X : Cx) (e : Expr) (sg : Sg) (M : Mem) (b : Bool) : Prop := WW X e sg M fun x M' => x = b ∧ M' = M
theorem ew_and {a b : Expr} {rest : List Expr} {p q : Bool} (ha : ET X a sg M p) (hb : p = true → EW X (.BoolOp .And (b :: rest) pos) sg M q) : EW X (.BoolOp .And (a :: b :: rest) pos) sg M (p && q) := ww_and (ha.imp fun x M1 ⟨e1, e2⟩ => by
  subst e1; subst e2
  refine ⟨fun e => by rw [e]; exact ⟨rfl, rfl⟩, fun e => ?_⟩
  rw [e, Bool.true_and]
  exact hb e)
theorem ew_or {a b : Expr} {rest : List Expr} {p q : Bool} (ha : ET X a sg M p) (hb : p = false → EW X (.BoolOp .Or (b :: rest) pos) sg M q) : EW X (.BoolOp .Or (a :: b :: rest) pos) sg M (p || q) := ww_or (ha.imp fun x M1 ⟨e1, e2⟩ => by
  subst e1; subst e2
  refine ⟨fun e => by rw [e]; exact ⟨rfl, rfl⟩, fun e => ?_⟩
  rw [e, Bool.false_or]
  exact hb e)
end
end DL
set_option Elab.async false
set_option linter.all false
set_option maxRecDepth 100000
set_option maxHeartbeats 4000000
/-! DLc: displays, subscripts, calls, statements, loops, comprehensions over data. -/
namespace DL
open PySem L2
section
variable {X : Cx} {sg : Sg} {M : Mem} {Q : D → Mem → Prop} {Qb : Bool → Mem → Prop} {Ql : List D → Mem → Prop} {pos : Pos} {K : PySem.W.Frag}

/-! ### arguments, displays -/
theorem wa_nil (q : Ql [] M) : WA X [] sg M Ql := WA.of pa_nil fun σ H G w s => ⟨[], G, M, Stp.refl, w, .nil, q⟩
theorem wa_cons {e : Expr} {es : List Expr} (h : WE X e sg M fun x M1 => WA X es sg M1 fun xs M2 => Ql (x :: xs) M2) (hs : starEach (e :: es) X.env = (false, eval e X.env) :: starEach es X.env := by exact star1 rfl) : WA X (e :: es) sg M Ql := WA.of (pa_cons pe_w pa_w hs) fun σ H G w s =>
  (h σ H G w s).imp fun v H1 ⟨x, G1, M1, st, w1, r1, q1⟩ => (q1 σ H1 G1 w1 (s.mono (st.gx w))).imp fun vs H2 ⟨xs, G2, M2, st2, w2, r2, q2⟩ => ⟨x :: xs, G2, M2, st.trans st2, w2, .cons (r1.mono (st2.gx w1)) r2, q2⟩
theorem ea_cons {e : Expr} {es : List Expr} {x : D} {xs : List D} (h : EE X e sg M x) (hr : EA X es sg M xs) (hs : starEach (e :: es) X.env = (false, eval e X.env) :: starEach es X.env := by exact star1 rfl) : EA X (e :: es) sg M (x :: xs) := wa_cons (h.imp fun y M1 ⟨e1, e2⟩ => by
  subst e1; subst e2
  exact hr.imp fun ys M2 ⟨e1, e2⟩ => by subst e1; subst e2; exact ⟨rfl, rfl⟩) hs
theorem ea_nil : EA X [] sg M [] := wa_nil ⟨rfl, rfl⟩
theorem we_tup {es : List Expr} {k : Nat} (h : WA X es sg M fun ds M1 => ds.length ≤ sizeLine ∧ Q (.tup ds) M1) : WE X (.Tuple es k pos) sg M Q := WE.of (pe_tup pa_w) fun σ H G w s =>
  (h σ H G w s).imp fun vs H1 ⟨ds, G1, M1, st, w1, r1, z, q1⟩ => ⟨by rw [r1.length]; exact z, fun p hp => (new_tup w1 hp r1 q1).base st⟩
theorem we_lst {es : List Expr} (h : WA X es sg M fun ds M1 => ds.length ≤ sizeLine ∧ Q (.lst ds) M1) : WE X (.List es pos) sg M Q := WE.of (pe_lst pa_w) fun σ H G w s =>
  (h σ H G w s).imp fun vs H1 ⟨ds, G1, M1, st, w1, r1, z, q1⟩ => ⟨by rw [r1.length]; exact z, fun p hp => (new_lst w1 hp r1 q1).base st⟩
theorem we_lstM {es : List Expr} (h : WA X es sg M fun ds M1 => ds.length ≤ sizeLine ∧ ∀ p, M1 p = none → Q (.ptr p) (updM M1 p (some (.lst ds)))) : WE X (.List es pos) sg M Q := WE.of (pe_lst pa_w) fun σ H G w s =>
  (h σ H G w s).imp fun vs H1 ⟨ds, G1, M1, st, w1, r1, z, q1⟩ => ⟨by rw [r1.length]; exact z, fun p hp => (new_lstM w1 hp r1 q1).base st⟩
theorem small30 {n : Nat} (h : n ≤ 1000 := by exact Nat.le_of_ble_eq_true rfl) : n ≤ sizeLine := Nat.le_trans h (by decide)
theorem ee_tup {es : List Expr} {k : Nat} {ds : List D} (h : EA X es sg M ds) (hz : ds.length ≤ sizeLine := by exact small30) : EE X (.Tuple es k pos) sg M (.tup ds) := we_tup (h.imp fun x M1 ⟨e1, e2⟩ => ⟨by rw [e1]; exact hz, by rw [e1], e2⟩)
theorem ee_lst {es : List Expr} {ds : List D} (h : EA X es sg M ds) (hz : ds.length ≤ sizeLine := by exact small30) : EE X (.List es pos) sg M (.lst ds) := we_lst (h.imp fun x M1 ⟨e1, e2⟩ => ⟨by rw [e1]; exact hz, by rw [e1], e2⟩)

/-! ### subscripts -/
theorem we_ix {a b : Expr} {r : R2} {Qa : D → Mem → Prop} (hr : IxR X r) (ha : WE X a sg M Qa) (hb : ∀ x M1, Qa x M1 → WE X b sg M1 fun y M2 => OpD X.K r x y M2 Q) (hp : PlainIx b := by exact fun _ _ => rfl) : WE X (.Subscript a b pos) sg M Q := WE.of (pe_ix hr pe_w pe_w hp) fun σ H G w s => two ha hb w s
theorem ee_ix {a b : Expr} {r : R2} {x y : D} (hr : IxR X r) (ha : EE X a sg M x) (hb : EE X b sg M y) (ho : OpD X.K r x y M Q) (hp : PlainIx b := by exact fun _ _ => rfl) : WE X (.Subscript a b pos) sg M Q := we_ix hr ha (fun x' M1 ⟨e1, e2⟩ => by
  subst e1; subst e2
  exact hb.imp fun y' M2 ⟨e1, e2⟩ => by subst e1; subst e2; exact ho) hp
theorem at_rp {G : Hp} {vs : List V} {ds : List D} {i : Int} {d : D} (r : RpA K G vs ds) (h : atI ds i = some d) : ∃ v, atI vs i = some v ∧ Rp K G v d := by
  unfold atI at h ⊢
  rw [r.length]
  cases e : ixN ds.length i with
  | none => rw [e] at h; cases h
  | some j =>
    rw [e] at h
    exact r.get h
theorem od_ixT {ds : List D} {i : Int} {d : D} (h : atI ds i = some d) (q : Q d M) : OpD K (rIxT K) (.tup ds) (.int i) M Q := fun G H v u R w rx ry k => by
  cases ry
  cases rx with
  | tup h1 r1 =>
    obtain ⟨z, h2, h3⟩ := at_rp r1 h
    exact ⟨_, _, _, _, rfl, rfl, SqT.of (w.sub _ _ h1), h2, k _ _ (PV.here w h3 q)⟩
theorem od_ixL {x : D} {ds : List D} {i : Int} {d : D} (hx : LsD M x ds) (h : atI ds i = some d) (q : Q d M) : OpD K (rIxL K) x (.int i) M Q := fun G H v u R w rx ry k => by
  cases ry
  obtain ⟨a, xs, rfl, h1, r1⟩ := hx.at w rx
  obtain ⟨z, h2, h3⟩ := at_rp r1 h
  exact ⟨_, _, _, _, rfl, rfl, SqL.of h1, h2, k _ _ (PV.here w h3 q)⟩
theorem od_ixS {z : Str} {i : Int} {c : Nat} (hz : z.length ≤ sizeLine) (h : atI z.cps.toList i = some c) (q : Q (.str ⟨#[c]⟩) M) : OpD K rIxS (.str z) (.int i) M Q := fun G H v u R w rx ry k => by
  cases rx; cases ry
  exact ⟨_, _, _, rfl, rfl, hz, h, k _ _ (PV.here w (.str _) q)⟩
/-- a slice's bounds -/
def tWO (X : Cx) (e : Option Expr) : TO := fun σ H R => ∀ (t : TO), PO X e t → True → R none H
def WO (X : Cx) (e : Option Expr) (sg : Sg) (M : Mem) (Qo : Option Int → Mem → Prop) : Prop := match e with
  | none => Qo none M
  | some e => WE X e sg M fun x M1 => ∃ i, x = .int i ∧ Qo (some i) M1
def tO (X : Cx) : Option Expr → TO
  | none => tNoPart
  | some e => tPart (tW X e)
theorem po_w {e : Option Expr} : PO X e (tO X e) := by
  cases e with
  | none => exact po_none
  | some e => exact po_some pe_w
theorem WO.run {e : Option Expr} {Qo : Option Int → Mem → Prop} (h : WO X e sg M Qo) {σ : L2.St} {H G : Hp} {R : Option Int → Hp → Prop} (w : Wd X.K G M H) (s : SRp X.K G sg σ) (k : ∀ o G1 M1 H1, Stp G M H G1 M1 H1 → Wd X.K G1 M1 H1 → Qo o M1 → R o H1) : tO X e σ H R := by
  cases e with
  | none => exact k none G M H Stp.refl w h
  | some e =>
    refine (h σ H G w s).imp fun v H1 ⟨x, G1, M1, st, w1, r1, i, e1, q⟩ => ?_
    subst e1
    cases r1
    exact ⟨i, rfl, k _ _ _ _ st w1 q⟩
def SlD (K : PySem.W.Frag) (r : V → Option Int → Option Int → Hp → VK → Prop) (x : D) (lo hi : Option Int) (M : Mem) (Q : D → Mem → Prop) : Prop := ∀ (G H : Hp) (v : V) (R : VK), Wd K G M H → Rp K G v x → (∀ z H', PV K G M H Q z H' → R z H') → r v lo hi H R
theorem we_sl {a : Expr} {lo hi : Option Expr} {p2 : Pos} {r : V → Option Int → Option Int → Hp → VK → Prop} (hr : SlR X r) (h : WE X a sg M fun x M1 => WO X lo sg M1 fun l M2 => WO X hi sg M2 fun u M3 => SlD X.K r x l u M3 Q) : WE X (.Subscript a (.Slice lo hi none p2) pos) sg M Q := WE.of (pe_slice hr pe_w po_w po_w) fun σ H G w s =>
  (h σ H G w s).imp fun v H1 ⟨x, G1, M1, st, w1, r1, q1⟩ => q1.run w1 (s.mono (st.gx w)) fun l G2 M2 H2 st2 w2 q2 => q2.run w2 (s.mono ((st.trans st2).gx w)) fun u G3 M3 H3 st3 w3 q3 => q3 G3 H3 v _ w3 (r1.mono ((st2.trans st3).gx w1)) fun z H' p => p.base ((st.trans st2).trans st3)
abbrev EO (X : Cx) (e : Option Expr) (sg : Sg) (M : Mem) (o : Option Int) : Prop := WO X e sg M fun x M' => x = o ∧ M' = M
theorem eo_none : EO X none sg M none := ⟨rfl, rfl⟩
theorem eo_some {e : Expr} {i : Int} (h : EE X e sg M (.int i)) : EO X (some e) sg M (some i) := h.imp fun x M1 ⟨e1, e2⟩ => ⟨i, e1, rfl, e2⟩
theorem WO.imp {e : Option Expr} {Qo Qo' : Option Int → Mem → Prop} (h : WO X e sg M Qo) (k : ∀ o M', Qo o M' → Qo' o M') : WO X e sg M Qo' := by
  cases e with
  | none => exact k _ _ h
  | some e => exact WE.imp h fun x M1 ⟨i, e1, q⟩ => ⟨i, e1, k _ _ q⟩
theorem ee_sl {a : Expr} {lo hi : Option Expr} {p2 : Pos} {r : V → Option Int → Option Int → Hp → VK → Prop} {x : D} {l u : Option Int} (hr : SlR X r) (h : EE X a sg M x) (h1 : EO X lo sg M l) (h2 : EO X hi sg M u) (k : SlD X.K r x l u M Q) : WE X (.Subscript a (.Slice lo hi none p2) pos) sg M Q := we_sl hr (h.imp fun y M1 ⟨e1, e2⟩ => by
  subst e1; subst e2
  exact WO.imp h1 fun o M2 ⟨e1, e2⟩ => by
    subst e1; subst e2
    exact WO.imp h2 fun o M3 ⟨e1, e2⟩ => by subst e1; subst e2; exact k)
def cutD {α : Type} (xs : List α) (lo hi : Option Int) : List α := (xs.drop (HT.sIx xs.length 0 lo)).take (HT.sIx xs.length xs.length hi - HT.sIx xs.length 0 lo)
theorem cut_rp {G : Hp} {vs : List V} {ds : List D} (r : RpA K G vs ds) (lo hi : Option Int) : RpA K G (cutV vs lo hi) (cutD ds lo hi) := by
  unfold cutV cutD
  rw [r.length]
  exact (r.drop _).take _
theorem sd_tup {ds : List D} {lo hi : Option Int} (q : Q (.tup (cutD ds lo hi)) M) : SlD K (rSlA K) (.tup ds) lo hi M Q := fun G H v R w rx k => by
  cases rx with
  | @tup a xs _ h1 r1 =>
    refine ⟨a, xs, rfl, SqT.of (w.sub _ _ h1), fun e => ?_, fun _ p hp => k _ _ (new_tup w hp (cut_rp r1 lo hi) q)⟩
    have e2 : cutD ds lo hi = ds := by
      unfold cutD
      rw [← r1.length, e.1, e.2, List.drop_zero, Nat.sub_zero, r1.length, List.take_length]
    rw [e2] at q
    exact k _ _ (PV.here w (.tup h1 r1) q)
theorem sd_lst {x : D} {ds : List D} {lo hi : Option Int} (hx : LsD M x ds) (q : Q (.lst (cutD ds lo hi)) M) : SlD K (rSlL K) x lo hi M Q := fun G H v R w rx k => by
  obtain ⟨a, xs, rfl, h1, r1⟩ := hx.at w rx
  exact ⟨a, xs, rfl, SqL.of h1, fun p hp => k _ _ (new_lst w hp (cut_rp r1 lo hi) q)⟩
theorem cut_map (f : Int → V) (ns : List Int) (lo hi : Option Int) : cutV (ns.map f) lo hi = (cutD ns lo hi).map f := by
  unfold cutV cutD
  rw [List.length_map, List.map_take, List.map_drop]
theorem sd_scr {ns : List Int} {lo hi : Option Int} (q : Q (.lst ((cutD ns lo hi).map .int)) M) : SlD K (rSlL K) (.scr ns) lo hi M Q := fun G H v R w rx k => by
  cases rx with
  | @scr a _ h1 =>
    refine ⟨a, _, rfl, w.sub.sl h1, fun p hp => ?_⟩
    rw [cut_map]
    exact k _ _ (new_lst w hp (rpa_ints _) q)

/-! ### calls of built-ins -/
def ClD (K : PySem.W.Frag) (r : List V → Hp → VK → Prop) (xs : List D) (M : Mem) (Q : D → Mem → Prop) : Prop := ∀ (G H : Hp) (vs : List V) (R : VK), Wd K G M H → RpA K G vs xs → (∀ z H', PV K G M H Q z H' → R z H') → r vs H R
theorem we_cb {id : String} {r : List V → Hp → VK → Prop} {x : Str} {p : Pos} {e : Expr} {es : List Expr} (hc : CallR X (.builtin id) r) (hm : X.mg x = none) (hv : bootBuiltins x = some (.builtin id)) (h : WA X (e :: es) sg M fun ds M1 => ClD X.K r ds M1 Q) (hg : Gl X x := by rfl) (hn : x ≠ "__name__" := by decide) (hdb : (x == ("__debug__" : Str)) = false := by decide)
    (he : starEach (e :: es) X.env = (false, eval e X.env) :: starEach es X.env := by exact star1 rfl) (hpl : (backTo pos (starEach es X.env)).any (·.1) = false := by exact starN rfl) : WE X (.Call (.Name x p) (e :: es) [] pos) sg M Q := WE.of (pe_callB hc hg hm hv pa_w hn hdb he hpl) fun σ H G w s =>
  (h σ H G w s).imp fun vs H1 ⟨xs, G1, M1, st, w1, r1, q1⟩ => q1 G1 H1 vs _ w1 r1 fun z H' p => p.base st
theorem we_ct {T : String} {r : List V → Hp → VK → Prop} {x : Str} {p : Pos} {e : Expr} {es : List Expr} (hc : CallR X (.type T) r) (hm : X.mg x = none) (hv : bootBuiltins x = some (.type T)) (h : WA X (e :: es) sg M fun ds M1 => ClD X.K r ds M1 Q) (hg : Gl X x := by rfl) (hn : x ≠ "__name__" := by decide) (hdb : (x == ("__debug__" : Str)) = false := by decide)
    (he : starEach (e :: es) X.env = (false, eval e X.env) :: starEach es X.env := by exact star1 rfl) (hpl : (backTo pos (starEach es X.env)).any (·.1) = false := by exact starN rfl) : WE X (.Call (.Name x p) (e :: es) [] pos) sg M Q := WE.of (pe_callTy hc hg hm hv pa_w hn hdb he hpl) fun σ H G w s =>
  (h σ H G w s).imp fun vs H1 ⟨xs, G1, M1, st, w1, r1, q1⟩ => q1 G1 H1 vs _ w1 r1 fun z H' p => p.base st
theorem RpA.one {G : Hp} {vs : List V} {d : D} (r : RpA K G vs [d]) : ∃ v, vs = [v] ∧ Rp K G v d := by
  cases r with
  | cons h t => cases t; exact ⟨_, rfl, h⟩
theorem RpA.two {G : Hp} {vs : List V} {d e : D} (r : RpA K G vs [d, e]) : ∃ v u, vs = [v, u] ∧ Rp K G v d ∧ Rp K G u e := by
  cases r with
  | cons h t => obtain ⟨u, rfl, h2⟩ := t.one; exact ⟨_, _, rfl, h, h2⟩
theorem cd_len {x : D} {n : Nat} {ds' : List D} (h : x = .tup ds' ∧ ds'.length = n ∨ LsD M x ds' ∧ ds'.length = n) (q : Q (.int n) M) : ClD K (fun xs H Q => ∃ x n, xs = [x] ∧ LenV K x H n ∧ Q (.int n) H) [x] M Q := fun G H vs R w r k => by
  obtain ⟨v, rfl, rv⟩ := r.one
  rcases h with ⟨rfl, rfl⟩ | ⟨l, rfl⟩
  · cases rv with
    | tup h1 r1 =>
      rw [← r1.length] at q
      exact ⟨_, _, rfl, .inr ⟨_, SqT.of (w.sub _ _ h1), rfl⟩, k _ _ (PV.here w (.int _) q)⟩
  · obtain ⟨a, xs, rfl, h1, r1⟩ := l.at w rv
    rw [← r1.length] at q
    exact ⟨_, _, rfl, .inl ⟨_, SqL.of h1, rfl⟩, k _ _ (PV.here w (.int _) q)⟩
theorem cd_lenT {ds : List D} (q : Q (.int ds.length) M) : ClD K (fun xs H Q => ∃ x n, xs = [x] ∧ LenV K x H n ∧ Q (.int n) H) [.tup ds] M Q := cd_len (.inl ⟨rfl, rfl⟩) q
theorem cd_lenL {x : D} {ds : List D} (h : LsD M x ds) (q : Q (.int ds.length) M) : ClD K (fun xs H Q => ∃ x n, xs = [x] ∧ LenV K x H n ∧ Q (.int n) H) [x] M Q := cd_len (.inr ⟨h, rfl⟩) q
theorem cd_lenC {ns : List Int} (q : Q (.int ns.length) M) : ClD K (fun xs H Q => ∃ x n, xs = [x] ∧ LenV K x H n ∧ Q (.int n) H) [.scr ns] M Q := fun G H vs R w r k => by
  obtain ⟨v, rfl, rv⟩ := r.one
  cases rv with
  | scr h1 => exact ⟨_, _, rfl, .inl ⟨_, w.sub.sl h1, by rw [List.length_map]⟩, k _ _ (PV.here w (.int _) q)⟩
theorem cd_lenS {z : Str} (hz : z.length ≤ sizeLine) (q : Q (.int z.length) M) : ClD K (fun xs H Q => ∃ x n, xs = [x] ∧ LenV K x H n ∧ Q (.int n) H) [.str z] M Q := fun G H vs R w r k => by
  obtain ⟨v, rfl, rv⟩ := r.one
  cases rv
  exact ⟨_, _, rfl, ⟨hz, rfl⟩, k _ _ (PV.here w (.int _) q)⟩
theorem LsD.bls {x : D} {bs : List Bool} {v : V} {G H : Hp} (h : LsD M x (bs.map .bl)) (w : Wd K G M H) (r : Rp K G v x) : ∃ a, v = .ref a ∧ SqL K H a (bs.map V.bl) := by
  obtain ⟨a, xs, rfl, h1, r1⟩ := h.at w r
  rw [r1.bls] at h1
  exact ⟨a, rfl, SqL.of h1⟩
theorem LsD.ints {x : D} {ns : List Int} {v : V} {G H : Hp} (h : LsD M x (ns.map .int)) (w : Wd K G M H) (r : Rp K G v x) : ∃ a, v = .ref a ∧ SqL K H a (ns.map V.int) := by
  obtain ⟨a, xs, rfl, h1, r1⟩ := h.at w r
  rw [r1.ints] at h1
  exact ⟨a, rfl, SqL.of h1⟩
theorem cd_all {x : D} {bs : List Bool} (h : LsD M x (bs.map .bl)) (q : Q (.bl (bs.all id)) M) : ClD K (rAll K) [x] M Q := fun G H vs R w r k => by
  obtain ⟨v, rfl, rv⟩ := r.one
  obtain ⟨a, rfl, e⟩ := h.bls w rv
  exact ⟨a, bs, rfl, e, k _ _ (PV.here w (.bl _) q)⟩
theorem cd_any {x : D} {bs : List Bool} (h : LsD M x (bs.map .bl)) (q : Q (.bl (bs.any id)) M) : ClD K (rAny K) [x] M Q := fun G H vs R w r k => by
  obtain ⟨v, rfl, rv⟩ := r.one
  obtain ⟨a, rfl, e⟩ := h.bls w rv
  exact ⟨a, bs, rfl, e, k _ _ (PV.here w (.bl _) q)⟩
theorem cd_sum {x : D} {ns : List Int} (h : LsD M x (ns.map .int)) (q : Q (.int ns.sum) M) : ClD K (rSum K) [x] M Q := fun G H vs R w r k => by
  obtain ⟨v, rfl, rv⟩ := r.one
  obtain ⟨a, rfl, e⟩ := h.ints w rv
  exact ⟨a, ns, rfl, e, k _ _ (PV.here w (.int _) q)⟩
theorem cd_max {x : D} {ns : List Int} (h : LsD M x (ns.map .int)) (hl : 0 < ns.length) (q : ∀ m, m ∈ ns → (∀ y, y ∈ ns → y ≤ m) → Q (.int m) M) : ClD K (rMax K) [x] M Q := fun G H vs R w r k => by
  obtain ⟨v, rfl, rv⟩ := r.one
  obtain ⟨a, rfl, e⟩ := h.ints w rv
  exact ⟨a, ns, rfl, e, hl, fun m h1 h2 => k _ _ (PV.here w (.int _) (q m h1 h2))⟩
theorem cd_min {x : D} {ns : List Int} (h : LsD M x (ns.map .int)) (hl : 0 < ns.length) (q : ∀ m, m ∈ ns → (∀ y, y ∈ ns → m ≤ y) → Q (.int m) M) : ClD K (rMin K) [x] M Q := fun G H vs R w r k => by
  obtain ⟨v, rfl, rv⟩ := r.one
  obtain ⟨a, rfl, e⟩ := h.ints w rv
  exact ⟨a, ns, rfl, e, hl, fun m h1 h2 => k _ _ (PV.here w (.int _) (q m h1 h2))⟩
theorem cd_max2 {i j : Int} (q : Q (.int (if j > i then j else i)) M) : ClD K (fun xs H Q => ∃ i j, xs = [.int i, .int j] ∧ Q (.int (if j > i then j else i)) H) [.int i, .int j] M Q := fun G H vs R w r k => by
  obtain ⟨v, u, rfl, rv, ru⟩ := r.two
  cases rv; cases ru
  exact ⟨i, j, rfl, k _ _ (PV.here w (.int _) q)⟩
theorem cd_min2 {i j : Int} (q : Q (.int (if j < i then j else i)) M) : ClD K (fun xs H Q => ∃ i j, xs = [.int i, .int j] ∧ Q (.int (if j < i then j else i)) H) [.int i, .int j] M Q := fun G H vs R w r k => by
  obtain ⟨v, u, rfl, rv, ru⟩ := r.two
  cases rv; cases ru
  exact ⟨i, j, rfl, k _ _ (PV.here w (.int _) q)⟩
theorem cd_int {i : Int} (q : Q (.int i) M) : ClD K (fun xs H Q => (∃ i, xs = [.int i] ∧ Q (.int i) H) ∨ ∃ k, xs = [.bl k] ∧ Q (.int (if k then 1 else 0)) H) [.int i] M Q := fun G H vs R w r k => by
  obtain ⟨v, rfl, rv⟩ := r.one
  cases rv
  exact .inl ⟨i, rfl, k _ _ (PV.here w (.int _) q)⟩
theorem cd_tupT {ds : List D} (q : Q (.tup ds) M) : ClD K (fun xs H Q => ∃ p ys, xs = [.ref p] ∧ ((SqL K H p ys ∧ ∀ l, H l = none → Q (.ref l) (upd H l (.tup ys))) ∨ (SqT K H p ys ∧ Q (.ref p) H))) [.tup ds] M Q := fun G H vs R w r k => by
  obtain ⟨v, rfl, rv⟩ := r.one
  cases rv with
  | tup h1 r1 => exact ⟨_, _, rfl, .inr ⟨SqT.of (w.sub _ _ h1), k _ _ (PV.here w (.tup h1 r1) q)⟩⟩
theorem cd_tupL {x : D} {ds : List D} (h : LsD M x ds) (q : Q (.tup ds) M) : ClD K (fun xs H Q => ∃ p ys, xs = [.ref p] ∧ ((SqL K H p ys ∧ ∀ l, H l = none → Q (.ref l) (upd H l (.tup ys))) ∨ (SqT K H p ys ∧ Q (.ref p) H))) [x] M Q := fun G H vs R w r k => by
  obtain ⟨v, rfl, rv⟩ := r.one
  obtain ⟨a, xs, rfl, h1, r1⟩ := h.at w rv
  exact ⟨_, _, rfl, .inl ⟨SqL.of h1, fun p hp => k _ _ (new_tup w hp r1 q)⟩⟩
def rList (K : PySem.W.Frag) : List V → Hp → VK → Prop := fun xs H Q => ∃ p ys, xs = [.ref p] ∧ (SqL K H p ys ∨ SqT K H p ys) ∧ ∀ l, H l = none → Q (.ref l) (upd H l (.lst ys))
theorem seq_of {x : D} {ds : List D} {v : V} {G H : Hp} (h : x = .tup ds ∨ LsD M x ds) (w : Wd K G M H) (r : Rp K G v x) : ∃ p ys, v = .ref p ∧ (SqL K H p ys ∨ SqT K H p ys) ∧ RpA K G ys ds := by
  rcases h with rfl | h
  · cases r with
    | tup h1 r1 => exact ⟨_, _, rfl, .inr (SqT.of (w.sub _ _ h1)), r1⟩
  · obtain ⟨a, xs, rfl, h1, r1⟩ := h.at w r
    exact ⟨_, _, rfl, .inl (SqL.of h1), r1⟩
theorem cd_lst {x : D} {ds : List D} (h : x = .tup ds ∨ LsD M x ds) (q : Q (.lst ds) M) : ClD K (rList K) [x] M Q := fun G H vs R w r k => by
  obtain ⟨v, rfl, rv⟩ := r.one
  obtain ⟨p, ys, rfl, e, r1⟩ := seq_of h w rv
  exact ⟨p, ys, rfl, e, fun l hl => k _ _ (new_lst w hl r1 q)⟩
theorem cd_lstM {x : D} {ds : List D} (h : x = .tup ds ∨ LsD M x ds) (q : ∀ p, M p = none → Q (.ptr p) (updM M p (some (.lst ds)))) : ClD K (rList K) [x] M Q := fun G H vs R w r k => by
  obtain ⟨v, rfl, rv⟩ := r.one
  obtain ⟨p, ys, rfl, e, r1⟩ := seq_of h w rv
  exact ⟨p, ys, rfl, e, fun l hl => k _ _ (new_lstM w hl r1 q)⟩

/-! ### isinstance -/
def tyD : D → String
  | .non => "NoneType"
  | .bl _ => "bool"
  | .int _ => "int"
  | .str _ => "str"
  | .tup _ => "tuple"
  | .lst _ => "list"
  | .ptr _ => "list"
  | .scr _ => "list"
/-- not an object of an own class -/
def LkD (M : Mem) : D → Prop
  | .ptr p => ∃ ds, M p = some (.lst ds)
  | _ => True
theorem ty_of {x : D} {v : V} {G H : Hp} (h : LkD M x) (w : Wd K G M H) (r : Rp K G v x) : TyX K H v (.type (tyD x)) := by
  cases r with
  | non => exact .base .non
  | bl b => exact .base (.bl b)
  | int i => exact .base (.int i)
  | str x => exact .base (.str x)
  | tup h1 r1 =>
    rcases SqT.of (w.sub _ _ h1) with (h2 | ⟨o, h2⟩) | ⟨o, its, n, h2, h3, _⟩
    · exact .base (.tup h2)
    · exact .fTuple h2
    · exact .kTuple h2 h3
  | lst h1 r1 => exact .base (.lst (w.sub _ _ h1))
  | ptr a =>
    obtain ⟨ds, e⟩ := h
    obtain ⟨_, xs, h1, _⟩ := w.mem _ _ e
    exact .base (.lst h1)
  | scr h1 =>
    rcases w.sub.sl h1 with (h2 | ⟨o, h2⟩) | ⟨o, its, n, h2, h3, _⟩
    · exact .base (.lst h2)
    · exact .base (.frz h2)
    · exact .kList h2 h3
/-- isinstance(e, T), T a built-in type -/
theorem we_isi {e : Expr} {T : String} {y : Str} {p p2 : Pos} (hm : X.mg "isinstance" = none) (hmT : X.mg y = none) (hv : bootBuiltins y = some (.type T)) (h : WE X e sg M fun x M1 => LkD M1 x ∧ ∃ b, kitB (tyD x) T = some b ∧ Q (.bl b) M1) (hg : Gl X "isinstance" := by rfl) (hgT : Gl X y := by rfl) (hn : y ≠ "__name__" := by decide) (hdb : (y == ("__debug__" : Str)) = false := by decide)
    (hs : starEach [e, .Name y p2] X.env = (false, eval e X.env) :: starEach [.Name y p2] X.env := by exact star1 rfl) (hs2 : starEach [.Name y p2] X.env = (false, eval (.Name y p2) X.env) :: starEach [] X.env := by exact star1 rfl) (hpl : (backTo pos (starEach [.Name y p2] X.env)).any (·.1) = false := by exact starN rfl) : WE X (.Call (.Name "isinstance" p) [e, .Name y p2] [] pos) sg M Q :=
  WE.of (pe_callB call_isi hg hm (by decide +kernel) (pa_cons pe_w (pa_cons (pe_bltn (v := .ty T) hgT hmT hv rfl hn hdb) pa_nil hs2) hs) (by decide) (by decide) hs hpl) fun σ H G w s =>
    (h σ H G w s).imp fun v H1 ⟨x, G1, M1, st, w1, r1, lk, b, e1, q1⟩ => ⟨v, .ty T, .type (tyD x), .type T, b, rfl, .ty T, ty_of lk w1 r1, kit_ty e1, (PV.here w1 (.bl b) q1).base st⟩
end
end DL
set_option Elab.async false
set_option linter.all false
set_option maxRecDepth 100000
set_option maxHeartbeats 4000000
/-! DLd: statements, loops, comprehensions, defs over data. -/
namespace DL
open PySem L2
section
variable {X : Cx} {sg : Sg} {M : Mem} {E : EndsD} {Q : D → Mem → Prop} {pos : Pos} {K : PySem.W.Frag}
/-! ### blocks and small statements -/
theorem wss_nil (q : E.nx sg M) : WSs X [] sg M E := WSs.of pss_nil fun σ H G w s => ⟨sg, G, M, Stp.refl, w, s, q⟩
theorem wss_cons {st : Stmt} {rest : List Stmt} (h : WS X st sg M { E with nx := fun sg' M' => WSs X rest sg' M' E }) : WSs X (st :: rest) sg M E := WSs.of (pss_cons ps_w pss_w) fun σ H G w s =>
  (h σ H G w s).imp (fun σ' H' ⟨sg', G1, M1, st1, w1, s1, q⟩ => toE_base st1 (q σ' H' G1 w1 s1)) (fun _ _ q => q) (fun _ _ q => q) (fun _ _ q => q)
theorem wss_one {st : Stmt} (h : WS X st sg M E) : WSs X [st] sg M E := WSs.of (pss_one ps_w) fun σ H G w s => h σ H G w s
theorem ws_pass (q : E.nx sg M) : WS X (.Pass pos) sg M E := WS.of ps_pass fun σ H G w s => ⟨sg, G, M, Stp.refl, w, s, q⟩
theorem ws_break (q : E.bk sg M) : WS X (.Break pos) sg M E := WS.of ps_break fun σ H G w s => ⟨sg, G, M, Stp.refl, w, s, q⟩
theorem ws_cont (q : E.ct sg M) : WS X (.Continue pos) sg M E := WS.of ps_continue fun σ H G w s => ⟨sg, G, M, Stp.refl, w, s, q⟩
theorem ws_expr {e : Expr} (h : WE X e sg M fun _ M1 => E.nx sg M1) (hs : swapsWith e none pos.line X.env = pure false := by rfl) : WS X (.Expr e pos) sg M E := WS.of (ps_expr pe_w hs) fun σ H G w s =>
  (h σ H G w s).imp fun v H1 ⟨d, G1, M1, st, w1, r1, q⟩ => ⟨sg, G1, M1, st, w1, s.mono (st.gx w), q⟩
theorem ws_doc {x : Str} {j : Nat} {pos' : Pos} (q : E.nx sg M) : WS X (.Expr (.Constant (.str x) j pos) pos') sg M E := WS.of ps_doc fun σ H G w s => ⟨sg, G, M, Stp.refl, w, s, q⟩
theorem ws_ret {e : Expr} (h : WE X e sg M E.rt) : WS X (.Return (some e) pos) sg M E := WS.of (ps_ret pe_w) fun σ H G w s => h σ H G w s
theorem ws_retN (q : E.rt .non M) : WS X (.Return none pos) sg M E := WS.of ps_retN fun σ H G w s => PV.here w .non q
theorem ws_if {c : Expr} {a b : List Stmt} (h : WT X c sg M fun k M1 => (k = true → WSs X a sg M1 E) ∧ (k = false → WSs X b sg M1 E)) : WS X (.If c a b pos) sg M E := WS.of (ps_if pt_w pss_w pss_w) fun σ H G w s => by
  refine (h σ H G w s).imp fun k H1 ⟨G1, M1, st, w1, q1, q0⟩ => ?_
  cases k with
  | true => exact toE_base st (q1 rfl σ H1 G1 w1 (s.mono (st.gx w)))
  | false => exact toE_base st (q0 rfl σ H1 G1 w1 (s.mono (st.gx w)))
theorem ws_ifE {c : Expr} {a b : List Stmt} {k : Bool} (h : ET X c sg M k) (h1 : k = true → WSs X a sg M E) (h0 : k = false → WSs X b sg M E) : WS X (.If c a b pos) sg M E := ws_if (h.imp fun k' M1 ⟨e1, e2⟩ => by
  subst e1; subst e2
  exact ⟨h1, h0⟩)
theorem ws_set (i : Nat) {x : Str} {e : Expr} {pos' : Pos} (hN : X.N.Nodup) (h : WE X e sg M fun d M1 => E.nx (sg.set i (some d)) M1) (hi : X.N[i]? = some x := by rfl) (hx : Loc X.env.scope x := by first | exact Or.inl rfl | exact Or.inr rfl) (hs : swapsWith e (some (.Name x pos')) pos.line X.env = pure false := by rfl) (hf : X.fn x = true ∨ X.env.scope.names.lookup x = some .local := by first | exact .inl rfl | exact .inr rfl) : WS X (.Assign [.Name x pos'] e pos) sg M E :=
  WS.of (ps_set hN hi hx pe_w hs hf) fun σ H G w s => (h σ H G w s).imp fun v H1 ⟨d, G1, M1, st, w1, r1, q⟩ => ⟨_, G1, M1, st, w1, (s.mono (st.gx w)).set i r1, q⟩
theorem ws_par (i j : Nat) {x y : Str} {a b : Expr} {px py pt : Pos} {kt k2 : Nat} {pt2 : Pos} (hc : X.calm = true) (hN : X.N.Nodup) (h : WA X [a, b] sg M fun ds M1 => ∃ c d, ds = [c, d] ∧ E.nx ((sg.set i (some c)).set j (some d)) M1) (hi : X.N[i]? = some x := by rfl) (hj : X.N[j]? = some y := by rfl) (hij : i ≠ j := by decide)
    (hx : X.env.scope.names.lookup x = some .local := by rfl) (hy : X.env.scope.names.lookup y = some .local := by rfl) (hw : swappedStores [.Tuple [.Name x px, .Name y py] kt pt] (.Tuple [a, b] k2 pt2) X.env = pure (some [x, y]) := by rfl) (hs : swapsWithSole [.Tuple [.Name x px, .Name y py] kt pt] (.Tuple [a, b] k2 pt2) pos.line X.env = pure false := by rfl) : WS X (.Assign [.Tuple [.Name x px, .Name y py] kt pt] (.Tuple [a, b] k2 pt2) pos) sg M E :=
  WS.of (ps_par hc hN hi hj hij hx hy pa_w hw hs) fun σ H G w s => (h σ H G w s).imp fun vs H1 ⟨ds, G1, M1, st, w1, r1, c, d, e, q⟩ => by
    subst e
    obtain ⟨v, u, rfl, rv, ru⟩ := r1.two
    exact ⟨v, u, rfl, _, G1, M1, st, w1, ((s.mono (st.gx w)).set i rv).set j ru, q⟩
theorem ws_aug (i : Nat) {x : Str} {e : Expr} {op : Operator} {f : Int → Int → Int} {pos' : Pos} {a : Int} (hN : X.N.Nodup) (ho : PIp X op (ipI f)) (hv : sg[i]? = some (some (.int a))) (h : WE X e sg M fun d M1 => ∃ b, d = .int b ∧ E.nx (sg.set i (some (.int (f a b)))) M1) (hi : X.N[i]? = some x := by rfl) (hx : Loc X.env.scope x := by first | exact Or.inl rfl | exact Or.inr rfl) (hf : X.fn x = true ∨ X.env.scope.names.lookup x = some .local := by first | exact .inl rfl | exact .inr rfl) : WS X (.AugAssign (.Name x pos') op e pos) sg M E :=
  WS.of (ps_aug hN hi hx pe_w ho hf) fun σ H G w s => by
    obtain ⟨v, e1, rv⟩ := s.at_ i _ hv
    cases rv
    refine ⟨_, e1, (h σ H G w s).imp fun u H1 ⟨d, G1, M1, st, w1, r1, b, e, q⟩ => ?_⟩
    subst e
    cases r1
    exact ⟨a, b, rfl, rfl, _, G1, M1, st, w1, (s.mono (st.gx w)).set i (.int _), q⟩
/-- a list that may change is taken as it stands from now on -/
theorem wss_freeze {i : Nat} {p : Addr} {ds : List D} {sts : List Stmt} (hm : M p = some (.lst ds)) (hi : sg[i]? = some (some (.ptr p))) (h : WSs X sts (sg.set i (some (.lst ds))) (updM M p none) E) : WSs X sts sg M E := fun σ H G w s => by
  obtain ⟨xs, e, r, w1, st, gx⟩ := w.freeze hm
  obtain ⟨v, e1, rv⟩ := s.at_ i _ hi
  cases rv
  have e2 : σ.set i (some (.ref p)) = σ := by
    obtain ⟨h1, h2⟩ := List.getElem?_eq_some_iff.mp e1
    rw [← h2]
    exact List.set_getElem_self h1
  have s1 := (s.mono gx).set i (Rp.lst (K := X.K) (a := p) upd_same (r.mono gx))
  rw [e2] at s1
  exact toE_base st (h σ H _ w1 s1)
/-- names that nobody asks for any more -/
theorem SRp.forget {G : Hp} {sg sg' : Sg} {σ : L2.St} (s : SRp K G sg σ) (hl : sg'.length = sg.length) (h : ∀ (i : Nat) (d : D), sg'[i]? = some (some d) → sg[i]? = some (some d)) : SRp K G sg' σ := ⟨s.len.trans hl.symm, fun i d e => s.at_ i d (h i d e)⟩

/-! ### targets -/
def WG (X : Cx) (tg : Expr) (is : List Nat) (d : D) (sg sg' : Sg) : Prop := ∀ (σ : L2.St) (H G : Hp) (M : Mem) (v : V) (R : L2.St → Hp → Prop), Wd X.K G M H → SRp X.K G sg σ → Rp X.K G v d → (∀ σ', SRp X.K G sg' σ' → σ'.length = σ.length → (∀ j, j ∉ is → σ'[j]? = σ[j]?) → R σ' H) → gW X tg v σ H R
theorem wg_name (i : Nat) {x : Str} {d : D} (hN : X.N.Nodup) (hi : X.N[i]? = some x := by rfl) (hx : Loc X.env.scope x := by first | exact Or.inl rfl | exact Or.inr rfl) (hf : X.fn x = true ∨ X.env.scope.names.lookup x = some .local := by first | exact .inl rfl | exact .inr rfl) : WG X (.Name x pos) [i] d sg (sg.set i (some d)) := fun σ H G M v R w s r k => ⟨fun pins t u I ru =>
  (pg_name hN hi hx hf).run pins t σ H v u _ I ru (k _ (s.set i r) (by simp) fun j hj => List.getElem?_set_ne fun e => hj (by simp [e]))⟩
def WGs (X : Cx) (tgs : List Expr) (is : List Nat) (ds : List D) (sg sg' : Sg) : Prop := ∃ g, PGs X tgs g ∧ ∀ (σ : L2.St) (H G : Hp) (M : Mem) (vs : List V) (R : L2.St → Hp → Prop), Wd X.K G M H → SRp X.K G sg σ → RpA X.K G vs ds → (∀ σ', SRp X.K G sg' σ' → σ'.length = σ.length → (∀ j, j ∉ is → σ'[j]? = σ[j]?) → R σ' H) → g vs σ H R
theorem wgs_nil : WGs X [] [] [] sg sg := ⟨_, pgs_nil, fun σ H G M vs R w s r k => by
  cases r
  exact ⟨rfl, k σ s rfl fun _ _ => rfl⟩⟩
theorem wgs_cons {tg : Expr} {tgs : List Expr} {is js : List Nat} {d : D} {ds : List D} {sg1 sg2 : Sg} (h : WG X tg is d sg sg1) (hr : WGs X tgs js ds sg1 sg2) (hs : (assignEach (tg :: tgs) X.env).map (·.2) = assign tg X.env :: (assignEach tgs X.env).map (·.2) := by rfl) : WGs X (tg :: tgs) (is ++ js) (d :: ds) sg sg2 := by
  obtain ⟨g, pg, hg⟩ := hr
  refine ⟨_, pgs_cons pg_w pg hs, fun σ H G M vs R w s r k => ?_⟩
  cases r with
  | cons r1 r2 =>
    refine ⟨_, _, rfl, h σ H G M _ _ w s r1 fun σ1 s1 l1 o1 => hg σ1 H G M _ _ w s1 r2 fun σ2 s2 l2 o2 => k σ2 s2 (l2.trans l1) fun j hj => ?_⟩
    rw [List.mem_append, not_or] at hj
    exact (o2 j hj.2).trans (o1 j hj.1)
theorem wg_tup {tgs : List Expr} {n : Nat} {is : List Nat} {ds : List D} {sg1 : Sg} (hc : X.calm = true) (h : WGs X tgs is ds sg sg1) (hn : (assignEach tgs X.env).length = ds.length := by rfl) (hst : (assignEach tgs X.env).findIdx? (·.1) = none := by rfl) : WG X (.Tuple tgs n pos) is (.tup ds) sg sg1 := by
  obtain ⟨g, pg, hg⟩ := h
  intro σ H G M v R w s r k
  refine ⟨fun pins t u I ru => (pg_tup hc pg hn hst).run pins t σ H v u _ I ru ?_⟩
  cases r with
  | tup h1 r1 => exact ⟨_, _, rfl, SqT.of (w.sub _ _ h1), r1.length, hg σ H G M _ R w s r1 k⟩
/-- target = e -/
theorem ws_asg {tg e : Expr} (h : WE X e sg M fun d M1 => ∃ is sg1, WG X tg is d sg sg1 ∧ E.nx sg1 M1) (hs : swapsWithSole [tg] e pos.line X.env = pure false := by rfl) (hw : swappedStores [tg] e X.env = pure none := by rfl) (h1 : (assignEach [tg] X.env).map (·.2) = [assign tg X.env] := by rfl) : WS X (.Assign [tg] e pos) sg M E :=
  WS.of (ps_asg pe_w pg_w hs hw h1) fun σ H G w s => (h σ H G w s).imp fun v H1 ⟨d, G1, M1, st, w1, r1, is, sg1, hg, q⟩ => hg σ H1 G1 M1 v _ w1 (s.mono (st.gx w)) r1 fun σ' s' _ _ => ⟨sg1, G1, M1, st, w1, s', q⟩

/-! ### what a loop walks -/
def ItD (K : PySem.W.Frag) (G : Hp) (J : It) (ds : List D) (C : Mem → Prop) : Prop := ∀ (G1 : Hp) (M1 : Mem) (H1 : Hp), Gx G G1 → Wd K G1 M1 H1 → C M1 → ∀ i : Nat, (i = ds.length → J.stop i H1) ∧ ∀ d, ds[i]? = some d → J.go i H1 ∧ ∀ x H', J.yld i H1 x H' → ∃ G', Stp G1 M1 H1 G' M1 H' ∧ Wd K G' M1 H' ∧ Rp K G' x d
def WI (X : Cx) (tg iter : Expr) (sg : Sg) (M : Mem) (Qi : List D → (Mem → Prop) → Mem → Prop) : Prop := ∃ wi, PI X tg iter wi ∧ ∀ (σ : L2.St) (H G : Hp) (R : It → Hp → Prop), Wd X.K G M H → SRp X.K G sg σ → (∀ J H' ds C G' M', Stp G M H G' M' H' → Wd X.K G' M' H' → ItD X.K G' J ds C → Qi ds C M' → R J H') → wi σ H R
section
variable {tg : Expr} {Qi : List D → (Mem → Prop) → Mem → Prop}
theorem wi_lst {l : Expr} (h : WE X l sg M fun x M1 => ∃ ds, LsD M1 x ds ∧ Qi ds (fun M => LsD M x ds) M1) : WI X tg l sg M Qi := ⟨_, pi_list pe_w, fun σ H G R w s k => (h σ H G w s).imp fun v H1 ⟨x, G1, M1, st, w1, r1, ds, l1, q⟩ => by
  obtain ⟨a, xs, rfl, h1, rx⟩ := l1.at w1 r1
  refine ⟨a, rfl, ⟨xs, SqL.of h1⟩, k _ _ ds _ G1 M1 st w1 (fun G2 M2 H2 gx w2 l2 i => ?_) q⟩
  obtain ⟨b, ys, e, h2, ry⟩ := l2.at w2 (r1.mono gx)
  cases e
  refine ⟨fun hi => ⟨ys, SqL.of h2, by rw [ry.length, hi]; exact Nat.le_refl _⟩, fun d hd => ?_⟩
  obtain ⟨y, hy, rd⟩ := ry.get hd
  refine ⟨⟨ys, y, SqL.of h2, hy⟩, fun z H' ⟨e, hz⟩ => ?_⟩
  subst e
  have e := (hz ys (SqL.of h2)).symm.trans hy
  cases e
  exact ⟨G2, Stp.refl, w2, rd⟩⟩
theorem wi_tup {l : Expr} (h : WE X l sg M fun x M1 => ∃ ds, x = .tup ds ∧ Qi ds (fun _ => True) M1) : WI X tg l sg M Qi := ⟨_, pi_tup pe_w, fun σ H G R w s k => (h σ H G w s).imp fun v H1 ⟨x, G1, M1, st, w1, r1, ds, l1, q⟩ => by
  subst l1
  cases r1 with
  | @tup a xs _ h1 rx =>
    refine ⟨a, rfl, ⟨xs, SqT.of (w1.sub _ _ h1)⟩, k _ _ ds _ G1 M1 st w1 (fun G2 M2 H2 gx w2 _ i => ?_) q⟩
    have h2 : SqT X.K H2 a xs := SqT.of (w2.sub _ _ (gx _ _ h1))
    have ry := rx.mono gx
    refine ⟨fun hi => ⟨xs, h2, by rw [ry.length, hi]; exact Nat.le_refl _⟩, fun d hd => ?_⟩
    obtain ⟨y, hy, rd⟩ := ry.get hd
    refine ⟨⟨xs, y, h2, hy⟩, fun z H' ⟨e, hz⟩ => ?_⟩
    subst e
    have e := (hz xs h2).symm.trans hy
    cases e
    exact ⟨G2, Stp.refl, w2, rd⟩⟩
def rngD (lo : Int) (n : Nat) : List D := (List.range n).map fun (i : Nat) => D.int (lo + (i : Int))
theorem itd_rng {G : Hp} {lo : Int} {n : Nat} : ItD K G (Itr lo n) (rngD lo n) fun _ => True := fun G1 M1 H1 gx w _ i => by
  have hl : (rngD lo n).length = n := by unfold rngD; rw [List.length_map, List.length_range]
  refine ⟨fun h => by rw [hl] at h; exact Nat.le_of_eq h.symm, fun d hd => ?_⟩
  have hi : i < n := by
    have := (List.getElem?_eq_some_iff.mp hd).1
    rw [hl] at this; exact this
  have e : d = .int (lo + (i : Int)) := by
    unfold rngD at hd
    rw [List.getElem?_map, List.getElem?_range hi] at hd
    exact (Option.some.inj hd).symm
  subst e
  refine ⟨hi, fun x H' ⟨e1, e2⟩ => ?_⟩
  subst e1; subst e2
  exact ⟨G1, Stp.refl, w, .int _⟩
theorem wi_rng1 {a : Expr} {p : Pos} (hm : X.mg "range" = none) (h : WA X [a] sg M fun ds M1 => ∃ j : Int, ds = [.int j] ∧ -(2 ^ 62) ≤ j ∧ j < 2 ^ 62 ∧ Qi (rngD 0 j.toNat) (fun _ => True) M1) (hg : Gl X "range" := by rfl) (hs : starEach [a] X.env = [(false, eval a X.env)] := by exact star1n rfl) : WI X tg (.Call (.Name "range" p) [a] [] pos) sg M Qi := ⟨_, pi_range1 hg hm pa_w hs, fun σ H G R w s k => (h σ H G w s).imp fun vs H1 ⟨ds, G1, M1, st, w1, r1, j, e, b1, b2, q⟩ => by
  subst e
  obtain ⟨v, rfl, rv⟩ := r1.one
  cases rv
  exact ⟨j, rfl, b1, b2, k _ _ _ _ G1 M1 st w1 itd_rng q⟩⟩
theorem wi_rng2 {a b : Expr} {p : Pos} (hm : X.mg "range" = none) (h : WA X [a, b] sg M fun ds M1 => ∃ i j : Int, ds = [.int i, .int j] ∧ (-(2 ^ 62) ≤ i ∧ i < 2 ^ 62 ∧ -(2 ^ 62) ≤ j ∧ j < 2 ^ 62) ∧ Qi (rngD i (j - i).toNat) (fun _ => True) M1) (hg : Gl X "range" := by rfl) (hs : starEach [a, b] X.env = [(false, eval a X.env), (false, eval b X.env)] := by exact star2n rfl rfl) (hs2 : starEach [b] X.env = [(false, eval b X.env)] := by exact star1n rfl) : WI X tg (.Call (.Name "range" p) [a, b] [] pos) sg M Qi := ⟨_, pi_range2 hg hm pa_w hs hs2, fun σ H G R w s k => (h σ H G w s).imp fun vs H1 ⟨ds, G1, M1, st, w1, r1, i, j, e, b1, q⟩ => by
  subst e
  obtain ⟨v, u, rfl, rv, ru⟩ := r1.two
  cases rv; cases ru
  exact ⟨i, j, rfl, b1, k _ _ _ _ G1 M1 st w1 itd_rng q⟩⟩
def enumD (ds : List D) : List D := ds.mapIdx fun i d => .tup [.int (i : Int), d]
theorem new_pair {G1 H1 : Hp} {M1 : Mem} {T : Addr} {x y : V} {d e : D} (w : Wd K G1 M1 H1) (hT : H1 T = none) (rx : Rp K G1 x d) (ry : Rp K G1 y e) : ∃ G', Stp G1 M1 H1 G' M1 (upd H1 T (.tup [x, y])) ∧ Wd K G' M1 (upd H1 T (.tup [x, y])) ∧ Rp K G' (.ref T) (.tup [d, e]) := by
  obtain ⟨w', st⟩ := w.new hT (o := .tup [x, y])
  exact ⟨_, st, w', .tup upd_same (RpA.mono (gx_new w hT) (.cons rx (.cons ry .nil)))⟩
theorem wi_enum {e : Expr} {p tpos : Pos} {elts : List Expr} {kk : Nat} (hm : X.mg "enumerate" = none) (h : WA X [e] sg M fun xs M1 => ∃ x ds, xs = [x] ∧ LsD M1 x ds ∧ Qi (enumD ds) (fun M => LsD M x ds) M1) (hg : Gl X "enumerate" := by rfl) (hs : starEach [e] X.env = [(false, eval e X.env)] := by exact star1n rfl) : WI X (.Tuple elts kk tpos) (.Call (.Name "enumerate" p) [e] [] pos) sg M Qi := ⟨_, pi_enum hg hm pa_w hs, fun σ H G R w s k => (h σ H G w s).imp fun vs H1 ⟨xs, G1, M1, st, w1, r1, x, ds, e, l1, q⟩ => by
  subst e
  obtain ⟨v, rfl, rv⟩ := r1.one
  obtain ⟨a, ys, rfl, h1, rx⟩ := l1.at w1 rv
  refine ⟨a, ys, rfl, SqL.of h1, k _ _ _ _ G1 M1 st w1 (fun G2 M2 H2 gx w2 l2 i => ?_) q⟩
  obtain ⟨b, zs, e, h2, rz⟩ := l2.at w2 (rv.mono gx)
  cases e
  have hl : (enumD ds).length = ds.length := by unfold enumD; rw [List.length_mapIdx]
  refine ⟨fun hi => ⟨zs, SqL.of h2, by rw [rz.length]; rw [hl] at hi; exact Nat.le_of_eq hi.symm⟩, fun d hd => ?_⟩
  obtain ⟨c, hc, ec⟩ : ∃ c, ds[i]? = some c ∧ d = .tup [.int (i : Int), c] := by
    unfold enumD at hd
    rw [List.getElem?_mapIdx] at hd
    cases e : ds[i]? with
    | none => rw [e] at hd; cases hd
    | some c => rw [e] at hd; exact ⟨c, rfl, (Option.some.inj hd).symm⟩
  subst ec
  obtain ⟨z, hz, rd⟩ := rz.get hc
  refine ⟨⟨zs, z, SqL.of h2, hz⟩, fun t H' ⟨T, y, e1, e2, e3, e4⟩ => ?_⟩
  subst e1; subst e3
  have e := (e4 zs (SqL.of h2)).symm.trans hz
  cases e
  exact new_pair w2 e2 (.int _) rd⟩
theorem wi_zip {e e2 : Expr} {p tpos : Pos} {elts : List Expr} {kk : Nat} (hm : X.mg "zip" = none) (h : WA X [e, e2] sg M fun xs M1 => ∃ x y ds es, xs = [x, y] ∧ LsD M1 x ds ∧ LsD M1 y es ∧ Qi (List.zipWith (fun a b => .tup [a, b]) ds es) (fun M => LsD M x ds ∧ LsD M y es) M1) (hg : Gl X "zip" := by rfl) (hs : starEach [e, e2] X.env = (false, eval e X.env) :: starEach [e2] X.env := by exact star1 rfl) (hpl : (backTo pos (starEach [e2] X.env)).any (·.1) = false := by exact starN rfl) : WI X (.Tuple elts kk tpos) (.Call (.Name "zip" p) [e, e2] [] pos) sg M Qi := ⟨_, pi_zip hg hm pa_w hs hpl, fun σ H G R w s k => (h σ H G w s).imp fun vs H1 ⟨xs, G1, M1, st, w1, r1, x, y, ds, es, e, l1, m1, q⟩ => by
  subst e
  obtain ⟨v, u, rfl, rv, ru⟩ := r1.two
  obtain ⟨a, ys, rfl, h1, rx⟩ := l1.at w1 rv
  obtain ⟨b, zs, rfl, h1', ry⟩ := m1.at w1 ru
  refine ⟨a, b, ys, zs, rfl, SqL.of h1, SqL.of h1', k _ _ _ _ G1 M1 st w1 (fun G2 M2 H2 gx w2 ⟨l2, m2⟩ i => ?_) q⟩
  obtain ⟨a', ys', e, h2, rx2⟩ := l2.at w2 (rv.mono gx)
  cases e
  obtain ⟨b', zs', e, h3, ry2⟩ := m2.at w2 (ru.mono gx)
  cases e
  refine ⟨fun hi => ⟨ys', zs', SqL.of h2, SqL.of h3, ?_⟩, fun d hd => ?_⟩
  · rw [List.length_zipWith] at hi
    rw [rx2.length, ry2.length]
    omega
  · rw [List.getElem?_zipWith] at hd
    cases ea : ds[i]? with
    | none => rw [ea] at hd; cases hd
    | some c =>
      cases eb : es[i]? with
      | none => rw [ea, eb] at hd; cases hd
      | some c' =>
        rw [ea, eb] at hd
        have ed := (Option.some.inj hd).symm
        subst ed
        obtain ⟨z, hz, rd⟩ := rx2.get ea
        obtain ⟨z', hz', rd'⟩ := ry2.get eb
        refine ⟨⟨ys', zs', z, z', SqL.of h2, SqL.of h3, hz, hz'⟩, fun t H' ⟨T, y1, y2, e1, e2, e3, e4, e5⟩ => ?_⟩
        subst e1; subst e3
        have q1 := (e4 ys' (SqL.of h2)).symm.trans hz
        have q2 := (e5 zs' (SqL.of h3)).symm.trans hz'
        cases q1; cases q2
        exact new_pair w2 e2 rd rd'⟩

/-! ### for -/
theorem ws_for {iter : Expr} {body : List Stmt} (hp : PassesOwn (model X.prog X.w) X.A X.env X.xe) (hc : X.calm = true) (hi : WI X tg iter sg M Qi)
    (h : ∀ ds C M0, Qi ds C M0 → ∃ Pv : Nat → Sg → Mem → Prop, Pv 0 sg M0 ∧ (∀ i sg1 M1, Pv i sg1 M1 → C M1) ∧ (∀ i d sg1 M1, ds[i]? = some d → Pv i sg1 M1 → ∃ is sg2, WG X tg is d sg1 sg2 ∧ WSs X body sg2 M1 { E with nx := Pv (i + 1), ct := Pv (i + 1), bk := E.nx }) ∧ ∀ sg1 M1, Pv ds.length sg1 M1 → E.nx sg1 M1)
    (hs : ∀ x, foldedSetIterable iter X.env x = pure x := by intro _; rfl) : WS X (.For tg iter body [] pos) sg M E := by
  obtain ⟨wi, pi, hw⟩ := hi
  refine WS.of (ps_for hp hc pi pg_w pss_w hs) fun σ H G w s => hw σ H G _ w s fun J H0 ds C G0 M0 st0 w0 it q => ?_
  obtain ⟨Pv, p0, pC, turn, fin⟩ := h ds C M0 q
  refine ⟨fun i m σ1 H1 => m = ds.length - i ∧ i ≤ ds.length ∧ ∃ sg1 G1 M1, Stp G M H G1 M1 H1 ∧ Gx G0 G1 ∧ Wd X.K G1 M1 H1 ∧ SRp X.K G1 sg1 σ1 ∧ Pv i sg1 M1, ⟨ds.length, rfl, Nat.zero_le _, sg, G0, M0, st0, Gx.refl _, w0, s.mono (st0.gx w), p0⟩, ?_⟩
  rintro i m σ1 H1 ⟨rfl, hle, sg1, G1, M1, st1, gx1, w1, s1, p1⟩
  obtain ⟨stop, go⟩ := it G1 M1 H1 gx1 w1 (pC _ _ _ p1) i
  by_cases hlt : i < ds.length
  · obtain ⟨g1, yld⟩ := go ds[i] (List.getElem?_eq_getElem hlt)
    refine .inr ⟨g1, fun σ2 H2 => ∃ sg2 G2 M2, Stp G M H G2 M2 H2 ∧ Gx G0 G2 ∧ Wd X.K G2 M2 H2 ∧ SRp X.K G2 sg2 σ2 ∧ Pv (i + 1) sg2 M2, fun σ2 H2 n => ⟨ds.length - (i + 1), by omega, rfl, hlt, n⟩, fun x H' hy => ?_⟩
    obtain ⟨G2, st2, w2, rx⟩ := yld x H' hy
    obtain ⟨is, sg2, hg, hb⟩ := turn i ds[i] sg1 M1 (List.getElem?_eq_getElem hlt) p1
    have gx2 : Gx G0 G2 := gx1.trans (st2.gx w1)
    refine hg σ1 H' G2 M1 x _ w2 (s1.mono (st2.gx w1)) rx fun σ3 s3 _ _ => ?_
    have again : ∀ {σ4 : L2.St} {H4 : Hp}, PN X.K G2 M1 H' (Pv (i + 1)) σ4 H4 → ∃ sg2 G2 M2, Stp G M H G2 M2 H4 ∧ Gx G0 G2 ∧ Wd X.K G2 M2 H4 ∧ SRp X.K G2 sg2 σ4 ∧ Pv (i + 1) sg2 M2 := fun {σ4 H4} ⟨sg4, G4, M4, st4, w4, s4, p4⟩ => ⟨sg4, G4, M4, (st1.trans st2).trans st4, gx2.trans (st4.gx w2), w4, s4, p4⟩
    exact (hb σ3 H' G2 w2 s3).imp (fun _ _ q => again q) (fun _ _ q => PV.base (st1.trans st2) q) (fun _ _ q => PN.base (st1.trans st2) q) (fun _ _ q => again q)
  · have e : i = ds.length := by omega
    subst e
    exact .inl ⟨stop rfl, sg1, G1, M1, st1, w1, s1, fin sg1 M1 p1⟩
/-- while: by a word and a measure -/
theorem ws_while {c : Expr} {body : List Stmt} (hp : PassesOwn (model X.prog X.w) X.A X.env X.xe) (Pv : Nat → Sg → Mem → Prop) (h0 : ∃ m, Pv m sg M) (h : ∀ m sg1 M1, Pv m sg1 M1 → WT X c sg1 M1 fun k M2 => (k = true → WSs X body sg1 M2 { E with nx := fun sg2 M3 => ∃ m', m' < m ∧ Pv m' sg2 M3, ct := fun sg2 M3 => ∃ m', m' < m ∧ Pv m' sg2 M3, bk := E.nx }) ∧ (k = false → E.nx sg1 M2)) : WS X (.While c body [] pos) sg M E := by
  obtain ⟨m0, p0⟩ := h0
  refine WS.of (ps_while hp pt_w pss_w) fun σ H G w s => ⟨fun m σ1 H1 => ∃ sg1 G1 M1, Stp G M H G1 M1 H1 ∧ Wd X.K G1 M1 H1 ∧ SRp X.K G1 sg1 σ1 ∧ Pv m sg1 M1, ⟨m0, sg, G, M, Stp.refl, w, s, p0⟩, ?_⟩
  rintro m σ1 H1 ⟨sg1, G1, M1, st1, w1, s1, p1⟩
  refine (h m sg1 M1 p1 σ1 H1 G1 w1 s1).imp fun k H2 ⟨G2, M2, st2, w2, q1, q0⟩ => ?_
  have s2 := s1.mono (st2.gx w1)
  cases k with
  | true =>
    rw [if_pos rfl]
    refine ⟨fun σ3 H3 => ∃ m', m' < m ∧ ∃ sg1 G1 M1, Stp G M H G1 M1 H3 ∧ Wd X.K G1 M1 H3 ∧ SRp X.K G1 sg1 σ3 ∧ Pv m' sg1 M1, fun σ3 H3 n => n, ?_⟩
    have again : ∀ {σ4 : L2.St} {H4 : Hp}, PN X.K G2 M2 H2 (fun sg2 M3 => ∃ m', m' < m ∧ Pv m' sg2 M3) σ4 H4 → ∃ m', m' < m ∧ ∃ sg1 G1 M1, Stp G M H G1 M1 H4 ∧ Wd X.K G1 M1 H4 ∧ SRp X.K G1 sg1 σ4 ∧ Pv m' sg1 M1 := fun {σ4 H4} ⟨sg4, G4, M4, st4, w4, s4, m', hm, p4⟩ => ⟨m', hm, sg4, G4, M4, (st1.trans st2).trans st4, w4, s4, p4⟩
    exact (q1 rfl σ1 H2 G2 w2 s2).imp (fun _ _ q => again q) (fun _ _ q => PV.base (st1.trans st2) q) (fun _ _ q => PN.base (st1.trans st2) q) (fun _ _ q => again q)
  | false =>
    rw [if_neg Bool.false_ne_true]
    exact ⟨sg1, G2, M2, st1.trans st2, w2, s2, q0 rfl⟩
end
end
end DL
set_option Elab.async false
set_option linter.all false
set_option maxRecDepth 100000
set_option maxHeartbeats 4000000
/-! DLe: comprehensions, methods of lists, defs over data. -/
namespace DL
open PySem L2 PyProof.Rows
section
variable {X : Cx} {sg : Sg} {M : Mem} {E : EndsD} {Q : D → Mem → Prop} {pos : Pos} {K : PySem.W.Frag}
def wipeD (sg : Sg) : List Nat → Sg
  | [] => sg
  | v :: vs => (wipeD sg vs).set v none
theorem wipe_rp {G : Hp} {σ : L2.St} (s : SRp K G sg σ) : ∀ vs : List Nat, SRp K G (wipeD sg vs) (wipe σ vs)
  | [] => s
  | v :: vs => by
    have ih := wipe_rp s vs
    refine ⟨by show ((wipe σ vs).set v none).length = ((wipeD sg vs).set v none).length; rw [List.length_set, List.length_set, ih.len], fun i d e => ?_⟩
    have e' : ((wipeD sg vs).set v none)[i]? = some (some d) := e
    show ∃ x, ((wipe σ vs).set v none)[i]? = some (some x) ∧ Rp K G x d
    by_cases hv : v = i
    · subst hv
      by_cases hl : v < (wipeD sg vs).length
      · rw [List.getElem?_set_self hl] at e'; cases e'
      · rw [List.getElem?_eq_none (by simpa using hl)] at e'; cases e'
    · rw [List.getElem?_set_ne hv] at e' ⊢
      exact ih.at_ i d e'
theorem wipe_in {σ : L2.St} {i : Nat} : ∀ {vs : List Nat}, i ∈ vs → i < σ.length → (wipe σ vs)[i]? = some none
  | v :: vs, h, hl => by
    show ((wipe σ vs).set v none)[i]? = some none
    by_cases hv : v = i
    · subst hv
      exact List.getElem?_set_self (by rw [wipe_length]; exact hl)
    · rw [List.getElem?_set_ne hv]
      exact wipe_in ((List.mem_cons.mp h).resolve_left fun e => hv e.symm) hl
/-- a state that differs at the block's own names alone -/
theorem wipe_same {σ σ' : L2.St} {is vs : List Nat} (hv : ∀ j, j ∈ is → j ∈ vs) (hl : σ'.length = (wipe σ vs).length) (h : ∀ j, j ∉ is → σ'[j]? = (wipe σ vs)[j]?) : wipe σ' vs = wipe σ vs := by
  apply List.ext_getElem?
  intro j
  rw [wipe_length] at hl
  by_cases hj : j ∈ vs
  · by_cases hjl : j < σ.length
    · rw [wipe_in hj hjl, wipe_in hj (by rw [hl]; exact hjl)]
    · rw [List.getElem?_eq_none (by rw [wipe_length, hl]; omega), List.getElem?_eq_none (by rw [wipe_length]; omega)]
  · rw [wipe_out hj, h j fun e => hj (hv j e)]
theorem Wd.other {G H : Hp} {p : Addr} {o : HO} (w : Wd K G M H) (g : G p = none) (m : M p = none) (hb : ∀ u, M.b.H p = some u → M.b.M p = none → False) : Wd K G M (upd H p o) := ⟨fun x u e => by rw [upd_ne (ne_of_none e g)]; exact w.sub _ _ e, fun x mo e => by
  obtain ⟨h1, h2⟩ := w.mem _ _ e
  exact ⟨h1, h2.carry (Gx.refl G) (upd_ne fun z => by subst z; rw [m] at e; cases e)⟩, fun x u e e2 => by
  have hx : x ≠ p := fun z => by subst z; exact hb u e e2
  obtain ⟨h1, h2⟩ := w.hist x u e e2
  exact ⟨by rw [upd_ne hx]; exact h1, h2⟩⟩
theorem Wd.adopt {G H : Hp} {p : Addr} {o : HO} (w : Wd K G M H) (h : H p = some o) (g : G p = none) (m : M p = none) (hb : ∀ u, M.b.H p = some u → M.b.M p = none → False) : Wd K (upd G p o) M H ∧ Gx G (upd G p o) := by
  have gx : Gx G (upd G p o) := fun x u e => by rw [upd_ne (ne_of_none e g)]; exact e
  refine ⟨⟨fun x u e => ?_, fun x mo e => ?_, fun x u e e2 => ?_⟩, gx⟩
  · by_cases hx : x = p
    · subst hx; rw [upd_same] at e; cases e; exact h
    · rw [upd_ne hx] at e; exact w.sub _ _ e
  · obtain ⟨h1, h2⟩ := w.mem _ _ e
    have hx : x ≠ p := fun z => by subst z; rw [m] at e; cases e
    exact ⟨by rw [upd_ne hx]; exact h1, h2.carry gx rfl⟩
  · have hx : x ≠ p := fun z => by subst z; exact hb u e e2
    obtain ⟨h1, h2, h3⟩ := w.hist x u e e2
    exact ⟨h1, by rw [upd_ne hx]; exact h2, h3⟩

/-- the blocks of a comprehension in X -/
abbrev Blk (X : Cx) (scope : Scope) (P : Cx → Prop) : Prop := ∀ (s : Shared) (H : Hp) (C : Addr) (cl : List (Str × Addr)) (fp : List Addr), P (X.blk s H scope (compEnvC scope cl C X.env) fp)
def teB (X : Cx) (scope : Scope) (e : Expr) : TE := fun σ H R => Blk X scope fun Y => tW Y e σ H R
def ttB (X : Cx) (scope : Scope) (e : Expr) : TT := fun σ H R => Blk X scope fun Y => tWT Y e σ H R
def gB (X : Cx) (scope : Scope) (tg : Expr) : TG := fun v σ H R => Blk X scope fun Y => gW Y tg v σ H R
/-- none or one test -/
def testsB (X : Cx) (scope : Scope) : List Expr → TT
  | [c] => ttB X scope c
  | _ => tYes
def WTs (Y : Cx) (ifs : List Expr) (sg : Sg) (M : Mem) (Q : Bool → Mem → Prop) : Prop := match ifs with
  | [] => Q true M
  | [c] => WT Y c sg M Q
  | _ => False
variable {tg : Expr} {Qi : List D → (Mem → Prop) → Mem → Prop}
/-- a turn of a comprehension -/
def LcTurn (X : Cx) (scope : Scope) (vs : List Nat) (tg elt : Expr) (ifs : List Expr) (sg : Sg) (d : D) (M1 : Mem) (QT : D → Mem → Prop) (QF : Mem → Prop) : Prop :=
  ∃ is sg2, (∀ j, j ∈ is → j ∈ vs) ∧ (Blk X scope fun Y => WG Y tg is d (wipeD sg vs) sg2) ∧ ∃ QB : Bool → Mem → Prop, (Blk X scope fun Y => WTs Y ifs sg2 M1 QB) ∧ (∀ M2, QB true M2 → Blk X scope fun Y => WE Y elt sg2 M2 QT) ∧ ∀ M2, QB false M2 → QF M2
theorem lc_run {elt : Expr} {ifs : List Expr} {scope : Scope} {vs : List Nat} {wi : TI} (hw : ∀ (σ : L2.St) (H G : Hp) (R : It → Hp → Prop), Wd X.K G M H → SRp X.K G sg σ → (∀ J H' ds C G' M', Stp G M H G' M' H' → Wd X.K G' M' H' → ItD X.K G' J ds C → Qi ds C M' → R J H') → wi σ H R)
    (hif : ifs.length ≤ 1) (h : ∀ ds C M0, Qi ds C M0 → ∃ Pv : Nat → List D → Mem → Prop, Pv 0 [] M0 ∧ (∀ i acc M1, Pv i acc M1 → C M1 ∧ acc.length < sizeLine) ∧ (∀ i d acc M1, ds[i]? = some d → Pv i acc M1 → LcTurn X scope vs tg elt ifs sg d M1 (fun y M3 => Pv (i + 1) (acc ++ [y]) M3) (fun M3 => Pv (i + 1) acc M3)) ∧ ∀ acc M1, Pv ds.length acc M1 → Q (.lst acc) M1)
    {σ : L2.St} {H G : Hp} {R : VK} (w : Wd X.K G M H) (s : SRp X.K G sg σ) (k : ∀ v H', PV X.K G M H Q v H' → R v H') : tLc wi (gB X scope tg) (testsB X scope ifs) (teB X scope elt) vs σ H R := by
  refine hw σ H G _ w s fun J H0 ds C G0 M0 st0 w0 it q => fun p hp => ?_
  obtain ⟨Pv, p0, pC, turn, fin⟩ := h ds C M0 q
  obtain ⟨g0, m0⟩ := w0.free hp
  have s0 := s.mono (st0.gx w)
  have st1 : Stp G0 M0 H0 G0 M0 (upd H0 p (.lst [])) := ⟨fun x o e m => ⟨by rw [upd_ne (ne_of_none e hp)]; exact e, rfl, m⟩, rfl⟩
  have hf0 : ∀ u, M0.b.H p = some u → M0.b.M p = none → False := fun u e m => w0.fresh hp e m
  refine ⟨fun i m H1 => m = ds.length - i ∧ i ≤ ds.length ∧ ∃ G1 M1 acc xs, Stp G0 M0 H0 G1 M1 H1 ∧ Gx G0 G1 ∧ Wd X.K G1 M1 H1 ∧ H1 p = some (.lst xs) ∧ G1 p = none ∧ M1 p = none ∧ RpA X.K G1 xs acc ∧ Pv i acc M1, ⟨ds.length, rfl, Nat.zero_le _, G0, M0, [], [], st1, Gx.refl _, w0.other g0 m0 hf0, upd_same, g0, m0, .nil, p0⟩, ?_⟩
  rintro i m H1 ⟨rfl, hle, G1, M1, acc, xs, st1, gx1, w1, h1, g1, m1, ra, p1⟩
  obtain ⟨stop, go⟩ := it G1 M1 H1 gx1 w1 (pC _ _ _ p1).1 i
  by_cases hlt : i < ds.length
  · obtain ⟨go1, yld⟩ := go ds[i] (List.getElem?_eq_getElem hlt)
    refine .inr ⟨go1, fun H2 => ∃ G2 M2 acc2 xs2, Stp G0 M0 H0 G2 M2 H2 ∧ Gx G0 G2 ∧ Wd X.K G2 M2 H2 ∧ H2 p = some (.lst xs2) ∧ G2 p = none ∧ M2 p = none ∧ RpA X.K G2 xs2 acc2 ∧ Pv (i + 1) acc2 M2, fun H2 n => ⟨ds.length - (i + 1), by omega, rfl, hlt, n⟩, fun x H' hy => ?_⟩
    obtain ⟨G2, st2, w2, rx⟩ := yld x H' hy
    obtain ⟨h2, g2, _⟩ := st2.keep p _ h1 m1
    obtain ⟨is, sg2, hv, hg, QB, ht, he, hf⟩ := turn i ds[i] acc M1 (List.getElem?_eq_getElem hlt) p1
    have gx2 : Gx G1 G2 := st2.gx w1
    have sw : SRp X.K G2 (wipeD sg vs) (wipe σ vs) := wipe_rp (s0.mono (gx1.trans gx2)) vs
    have body : ∀ σ2 : L2.St, SRp X.K G2 sg2 σ2 → ∀ b H3, PB X.K G2 M1 H' QB b H3 → if b = true then teB X scope elt σ2 H3 (fun y H4 => ∃ acc, H4 p = some (.lst acc) ∧ acc.length < sizeLine ∧ ∃ G2 M2 acc2 xs2, Stp G0 M0 H0 G2 M2 (upd H4 p (.lst (acc ++ [y]))) ∧ Gx G0 G2 ∧ Wd X.K G2 M2 (upd H4 p (.lst (acc ++ [y]))) ∧ (upd H4 p (.lst (acc ++ [y]))) p = some (.lst xs2) ∧ G2 p = none ∧ M2 p = none ∧ RpA X.K G2 xs2 acc2 ∧ Pv (i + 1) acc2 M2)
        else ∃ G2 M2 acc2 xs2, Stp G0 M0 H0 G2 M2 H3 ∧ Gx G0 G2 ∧ Wd X.K G2 M2 H3 ∧ H3 p = some (.lst xs2) ∧ G2 p = none ∧ M2 p = none ∧ RpA X.K G2 xs2 acc2 ∧ Pv (i + 1) acc2 M2 := fun σ2 s2 b H3 ⟨G3, M3, st3, w3, q3⟩ => by
      obtain ⟨h3, g3, m3⟩ := st3.keep p _ h2 m1
      have gx3 : Gx G2 G3 := st3.gx w2
      cases b with
      | true =>
        rw [if_pos rfl]
        intro t H5 C5 cl fp
        refine (he M3 q3 t H5 C5 cl fp σ2 H3 G3 w3 (s2.mono gx3)).imp fun y H4 ⟨d, G4, M4, st4, w4, r4, q4⟩ => ?_
        obtain ⟨h4, g4, m4⟩ := st4.keep p _ h3 m3
        have gx4 : Gx G3 G4 := st4.gx w3
        have g4' : G4 p = none := by rw [g4, g3, g2, g1]
        have stA := ((st1.trans st2).trans st3).trans st4
        refine ⟨xs, h4, by rw [ra.length]; exact (pC _ _ _ p1).2, G4, M4, acc ++ [d], xs ++ [y], ⟨fun z o e m => ?_, stA.base⟩, gx1.trans (gx2.trans (gx3.trans gx4)), w4.other g4' m4 (by rw [stA.base]; exact hf0), upd_same, g4', m4, (ra.mono (gx2.trans (gx3.trans gx4))).append (.cons r4 .nil), q4⟩
        obtain ⟨a1, a2, a3⟩ := stA.keep z o e m
        exact ⟨by rw [upd_ne (ne_of_none e hp)]; exact a1, a2, a3⟩
      | false =>
        rw [if_neg Bool.false_ne_true]
        exact ⟨G3, M3, acc, xs, (st1.trans st2).trans st3, gx1.trans (gx2.trans gx3), w3, h3, by rw [g3, g2, g1], m3, ra.mono (gx2.trans gx3), hf M3 q3⟩
    intro t H5 C5 cl fp
    refine hg t H5 C5 cl fp (wipe σ vs) H' G2 M1 x _ w2 sw rx fun σ2 s2 l2 o2 => ⟨wipe_same hv l2 o2, ?_⟩
    match ifs, hif, ht with
    | [], _, ht => exact body σ2 s2 true H' ⟨G2, M1, Stp.refl, w2, ht t H5 C5 cl fp⟩
    | [c], _, ht => exact fun t H5 C5 cl fp => (ht t H5 C5 cl fp σ2 H' G2 w2 s2).imp fun b H3 q => body σ2 s2 b H3 q
    | _ :: _ :: _, hif, _ => exact absurd hif (by simp)
  · have e : i = ds.length := by omega
    subst e
    obtain ⟨w2, gx2⟩ := w1.adopt h1 g1 m1 (by rw [st1.base]; exact hf0)
    refine .inl ⟨stop rfl, k _ _ (PV.base st0 ⟨.lst acc, _, M1, ⟨fun z o e m => ?_, st1.base⟩, w2, .lst upd_same (ra.mono gx2), fin acc M1 p1⟩)⟩
    obtain ⟨a1, a2, a3⟩ := st1.keep z o e m
    exact ⟨a1, by rw [upd_ne (ne_of_none e hp)]; exact a2, a3⟩
theorem blk_pg {scope : Scope} {tg : Expr} : ∀ (s : Shared) (H : Hp) (C : Addr) (cl : List (Str × Addr)) (fp : List Addr), PG (X.blk s H scope (compEnvC scope cl C X.env) fp) tg (gB X scope tg) := fun s H C cl fp => ⟨fun pins t σ H1 v u R I r h => (h s H C cl fp).run pins t u I r⟩
theorem blk_pe {scope : Scope} {e : Expr} : ∀ (s : Shared) (H : Hp) (C : Addr) (cl : List (Str × Addr)) (fp : List Addr), PE (X.blk s H scope (compEnvC scope cl C X.env) fp) e (teB X scope e) := fun s H C cl fp => ⟨fun pins t σ H1 R I h => (h s H C cl fp).run pins t I⟩
theorem blk_pts {scope : Scope} {ifs : List Expr} (hif : ifs.length ≤ 1) : ∀ (s : Shared) (H : Hp) (C : Addr) (cl : List (Str × Addr)) (fp : List Addr), PTs (X.blk s H scope (compEnvC scope cl C X.env) fp) ifs (testsB X scope ifs) := fun s H C cl fp => by
  match ifs, hif with
  | [], _ => exact pts_nil
  | [c], _ => exact pts_one ⟨fun pins t σ H1 R I h => (h s H C cl fp).run pins t I⟩
  | _ :: _ :: _, hif => exact absurd hif (by simp)
abbrev LcOk (X : Cx) (scope : Scope) (vs : List Nat) (tg elt : Expr) (ifs : List Expr) (sg : Sg) (Qi : List D → (Mem → Prop) → Mem → Prop) (Q : D → Mem → Prop) : Prop :=
  ∀ ds C M0, Qi ds C M0 → ∃ Pv : Nat → List D → Mem → Prop, Pv 0 [] M0 ∧ (∀ i acc M1, Pv i acc M1 → C M1 ∧ acc.length < sizeLine) ∧ (∀ i d acc M1, ds[i]? = some d → Pv i acc M1 → LcTurn X scope vs tg elt ifs sg d M1 (fun y M3 => Pv (i + 1) (acc ++ [y]) M3) (fun M3 => Pv (i + 1) acc M3)) ∧ ∀ acc M1, Pv ds.length acc M1 → Q (.lst acc) M1
theorem we_lc {iter elt : Expr} {ifs : List Expr} {scope : Scope} (own : List (Str × Nat)) (hc : X.calm = true) (hN : X.N.Nodup) (ok : BlkOk X.N X.env.scope scope own) (hi : WI X tg iter sg M Qi) (h : LcOk X scope (own.map (·.2)) tg elt ifs sg Qi Q) (hif : ifs.length ≤ 1 := by decide) (hs : ∀ x, foldedSetIterable iter X.env x = pure x := by intro _; rfl) : WE X (.ListComp elt [⟨tg, iter, ifs, 0⟩] scope pos) sg M Q := by
  obtain ⟨wi, pi, hw⟩ := hi
  exact WE.of (pe_lc hc hN pi ok blk_pg (blk_pts hif) blk_pe hs) fun σ H G w s => lc_run hw hif h w s fun v H' q => q
theorem ws_setLc (i : Nat) {y : Str} {py : Pos} {iter elt : Expr} {ifs : List Expr} {scope : Scope} {spos : Pos} (own : List (Str × Nat)) (hc : X.calm = true) (hN : X.N.Nodup) (ok : BlkOk X.N X.env.scope scope own) (hi : WI X tg iter sg M Qi) (h : LcOk X scope (own.map (·.2)) tg elt ifs sg Qi fun d M1 => E.nx (sg.set i (some d)) M1) (hif : ifs.length ≤ 1 := by decide)
    (hy : X.N[i]? = some y := by rfl) (hyl : X.env.scope.names.lookup y = some .local := by rfl) (hsw : swapsWith (.ListComp elt [⟨tg, iter, ifs, 0⟩] scope pos) (some (.Name y py)) spos.line X.env = pure true := by exact sw_true rfl rfl rfl (by decide +kernel)) (hs : ∀ x, foldedSetIterable iter X.env x = pure x := by intro _; rfl) : WS X (.Assign [.Name y py] (.ListComp elt [⟨tg, iter, ifs, 0⟩] scope pos) spos) sg M E := by
  obtain ⟨wi, pi, hw⟩ := hi
  refine WS.of (ps_setLc hc hN hy hyl hsw pi ok blk_pg (blk_pts hif) blk_pe hs) fun σ H G w s => lc_run (Q := fun d M1 => E.nx (sg.set i (some d)) M1) hw hif h w s fun v H' q => ?_
  obtain ⟨d, G1, M1, st, w1, r1, q⟩ := q
  exact ⟨_, G1, M1, st, w1, (s.mono (st.gx w)).set i r1, q⟩
/-- a comprehension that changes nothing, over ds: the items that pass, their images -/
theorem lc_pure {elt : Expr} {ifs : List Expr} {scope : Scope} {vs : List Nat} {ds : List D} {C : Mem → Prop} {M0 : Mem} (p : D → Bool) (f : D → D) (hC : C M0) (hz : ds.length < sizeLine)
    (h : ∀ (i : Nat) (d : D), ds[i]? = some d → ∃ is sg2, (∀ j, j ∈ is → j ∈ vs) ∧ (Blk X scope fun Y => WG Y tg is d (wipeD sg vs) sg2) ∧ (Blk X scope fun Y => WTs Y ifs sg2 M0 fun b M2 => b = p d ∧ M2 = M0) ∧ (p d = true → Blk X scope fun Y => EE Y elt sg2 M0 (f d))) :
    ∃ Pv : Nat → List D → Mem → Prop, Pv 0 [] M0 ∧ (∀ i acc M1, Pv i acc M1 → C M1 ∧ acc.length < sizeLine) ∧ (∀ i d acc M1, ds[i]? = some d → Pv i acc M1 → LcTurn X scope vs tg elt ifs sg d M1 (fun y M3 => Pv (i + 1) (acc ++ [y]) M3) (fun M3 => Pv (i + 1) acc M3)) ∧ ∀ acc M1, Pv ds.length acc M1 → acc = (ds.filter p).map f ∧ M1 = M0 := by
  refine ⟨fun i acc M1 => i ≤ ds.length ∧ acc = ((ds.take i).filter p).map f ∧ M1 = M0, ⟨Nat.zero_le _, rfl, rfl⟩, fun i acc M1 ⟨hi, e1, e2⟩ => ?_, fun i d acc M1 hd ⟨hi, e1, e2⟩ => ?_, fun acc M1 ⟨_, e1, e2⟩ => ?_⟩
  · subst e1; subst e2
    refine ⟨hC, ?_⟩
    rw [List.length_map]
    have a1 := List.length_filter_le p (ds.take i)
    rw [List.length_take] at a1
    omega
  · subst e1; subst e2
    obtain ⟨is, sg2, hv, hg, ht, he⟩ := h i d hd
    have hlt := (List.getElem?_eq_some_iff.mp hd).1
    have tk : ds.take (i + 1) = ds.take i ++ [d] := by rw [List.take_add_one, hd]; rfl
    refine ⟨is, sg2, hv, hg, fun b M2 => b = p d ∧ M2 = M1, ht, fun M2 ⟨e1, e2⟩ => ?_, fun M2 ⟨e1, e2⟩ => ?_⟩
    · subst e2
      intro s H C' cl fp
      refine (he e1.symm s H C' cl fp).imp fun y M3 ⟨e3, e4⟩ => ⟨hlt, ?_, e4⟩
      rw [e3, tk, List.filter_append, List.map_append, List.filter_cons_of_pos e1.symm]
      rfl
    · subst e2
      refine ⟨hlt, ?_, rfl⟩
      rw [tk, List.filter_append, List.filter_cons_of_neg (by rw [← e1]; decide), List.filter_nil, List.append_nil]
  · subst e1; subst e2
    rw [List.take_length]
    exact ⟨rfl, rfl⟩

/-! ### methods of lists that may change -/
def MtD (K : PySem.W.Frag) (r : V → List V → Hp → VK → Prop) (x : D) (xs : List D) (M : Mem) (Q : D → Mem → Prop) : Prop := ∀ (G H : Hp) (v : V) (vs : List V) (R : VK), Wd K G M H → Rp K G v x → RpA K G vs xs → (∀ z H', PV K G M H Q z H' → R z H') → r v vs H R
theorem we_bm {o e : Expr} {es : List Expr} {name : Str} {apos cpos : Pos} {T id : String} {r : V → List V → Hp → VK → Prop} (pa : PlainAttrs T) (slot : Slot T name id) (hty : typeOf (.builtin id) = pure (.type "method_descriptor")) (hm : MtR X id r)
    (h : WE X o sg M fun x M1 => (∀ G H v, Wd X.K G M1 H → Rp X.K G v x → tyV X.K T v H) ∧ WA X (e :: es) sg M1 fun xs M2 => MtD X.K r x xs M2 Q) (hbase : attributeBase o name X.env (eval o X.env) = eval o X.env := by rfl)
    (hfew : ((backTo cpos (starEach (e :: es) X.env)).all (fun x => !x.1) && (backToKw cpos (keywordEach [] X.env)).all (fun x => x.1.isSome) && decide ((e :: es).length + ([] : List Keyword).length + (if ([] : List Keyword).isEmpty then 0 else 1) < 30)) = true := by rfl)
    (hline : (apos.endLine == cpos.line) = true := by rfl) (hs : starEach (e :: es) X.env = (false, eval e X.env) :: starEach es X.env := by exact star1 rfl) (hplain : (backTo cpos (starEach es X.env)).any (·.1) = false := by exact starN rfl) : WE X (.Call (.Attribute o name apos) (e :: es) [] cpos) sg M Q :=
  WE.of (pe_bm pa slot hty hm pe_w pa_w hbase hfew hline hs hplain) fun σ H G w s => (h σ H G w s).imp fun v H1 ⟨x, G1, M1, st, w1, r1, ty, q1⟩ => ⟨ty G1 H1 v w1 r1, (q1 σ H1 G1 w1 (s.mono (st.gx w))).imp fun vs H2 ⟨xs, G2, M2, st2, w2, r2, q2⟩ => q2 G2 H2 v vs _ w2 (r1.mono (st2.gx w1)) r2 fun z H' p => p.base (st.trans st2)⟩
theorem we_bm0 {o : Expr} {name : Str} {apos cpos : Pos} {T id : String} {r : V → List V → Hp → VK → Prop} (pa : PlainAttrs T) (slot : Slot T name id) (hty : typeOf (.builtin id) = pure (.type "method_descriptor")) (hm : MtR X id r)
    (h : WE X o sg M fun x M1 => (∀ G H v, Wd X.K G M1 H → Rp X.K G v x → tyV X.K T v H) ∧ MtD X.K r x [] M1 Q) (hbase : attributeBase o name X.env (eval o X.env) = eval o X.env := by rfl) (hline : (apos.endLine == cpos.line) = true := by rfl) : WE X (.Call (.Attribute o name apos) [] [] cpos) sg M Q :=
  WE.of (pe_bm0 pa slot hty hm pe_w hbase hline) fun σ H G w s => (h σ H G w s).imp fun v H1 ⟨x, G1, M1, st, w1, r1, ty, q1⟩ => ⟨ty G1 H1 v w1 r1, q1 G1 H1 v [] _ w1 r1 .nil fun z H' p => p.base st⟩
theorem ty_lst {x : D} {ds : List D} (l : LsD M x ds) : ∀ G H v, Wd K G M H → Rp K G v x → tyV K "list" v H := fun G H v w r => by
  obtain ⟨a, xs, rfl, h1, _⟩ := l.at w r
  exact .inl ⟨rfl, xs, SqL.of h1⟩
theorem md_append {p : Addr} {ds : List D} {d : D} (hm : M p = some (.lst ds)) (hz : ds.length < sizeLine) (q : Q .non (updM M p (some (.lst (ds ++ [d]))))) : MtD K rAppend (.ptr p) [d] M Q := fun G H v vs R w rv rs k => by
  cases rv
  obtain ⟨u, rfl, ru⟩ := rs.one
  obtain ⟨g, xs, h1, r1⟩ := w.mem _ _ hm
  refine ⟨p, xs, u, rfl, rfl, h1, by rw [r1.length]; exact hz, k _ _ ?_⟩
  obtain ⟨w', st⟩ := w.write hm (o := .lst (xs ++ [u])) (mo := .lst (ds ++ [d])) ⟨_, upd_same, r1.append (.cons ru .nil)⟩
  exact ⟨_, _, _, st, w', .non, q⟩
theorem md_extend {p : Addr} {ds es : List D} {y : D} (hm : M p = some (.lst ds)) (hy : LsD M y es) (hz : ds.length + es.length ≤ sizeLine) (q : Q .non (updM M p (some (.lst (ds ++ es))))) : MtD K rExtend (.ptr p) [y] M Q := fun G H v vs R w rv rs k => by
  cases rv
  obtain ⟨u, rfl, ru⟩ := rs.one
  obtain ⟨b, ys, rfl, h2, r2⟩ := hy.at w ru
  obtain ⟨g, xs, h1, r1⟩ := w.mem _ _ hm
  refine ⟨p, b, xs, ys, rfl, rfl, h1, h2, by rw [r1.length, r2.length]; exact hz, k _ _ ?_⟩
  obtain ⟨w', st⟩ := w.write hm (o := .lst (xs ++ ys)) (mo := .lst (ds ++ es)) ⟨_, upd_same, r1.append r2⟩
  exact ⟨_, _, _, st, w', .non, q⟩
/-- xs[i] = e -/
def StD (K : PySem.W.Frag) (t : TSet) (o i v : D) (M : Mem) (Q : Mem → Prop) : Prop := ∀ (G H : Hp) (ov iv vv : V) (R : Hp → Prop), Wd K G M H → Rp K G ov o → Rp K G iv i → Rp K G vv v → (∀ G' M' H', Stp G M H G' M' H' → Wd K G' M' H' → Q M' → R H') → t ov iv vv H R
theorem ws_sub {o i e : Expr} {t : TSet} {tpos : Pos} (hp : PSet X t) (h : WE X e sg M fun z M1 => WE X o sg M1 fun x M2 => WE X i sg M2 fun y M3 => StD X.K t x y z M3 fun M4 => E.nx sg M4)
    (ha : ∀ v, assign (.Subscript o i tpos) X.env v = (do
      let ov ← holding [v] (eval o X.env)
      let iv ← holding [v, ov] (eval i X.env)
      standAt tpos
      holding [v, ov, iv] (setItem ov iv v)
      release [v, ov, iv] []) := by intro _; rfl) (hs : swapsWithSole [.Subscript o i tpos] e pos.line X.env = pure false := by rfl) (hw : swappedStores [.Subscript o i tpos] e X.env = pure none := by rfl) (h1 : (assignEach [.Subscript o i tpos] X.env).map (·.2) = [assign (.Subscript o i tpos) X.env] := by rfl) : WS X (.Assign [.Subscript o i tpos] e pos) sg M E :=
  WS.of (ps_asg pe_w (pg_sub pe_w pe_w hp ha) hs hw h1) fun σ H G w s => (h σ H G w s).imp fun z H1 ⟨dz, G1, M1, st1, w1, r1, q1⟩ => (q1 σ H1 G1 w1 (s.mono (st1.gx w))).imp fun x H2 ⟨dx, G2, M2, st2, w2, r2, q2⟩ => (q2 σ H2 G2 w2 (s.mono ((st1.trans st2).gx w))).imp fun y H3 ⟨dy, G3, M3, st3, w3, r3, q3⟩ =>
    q3 G3 H3 x y z _ w3 (r2.mono (st3.gx w2)) r3 (r1.mono ((st2.trans st3).gx w1)) fun G4 M4 H4 st4 w4 q4 => ⟨sg, G4, M4, ((st1.trans st2).trans st3).trans st4, w4, s.mono ((((st1.trans st2).trans st3).trans st4).gx w), q4⟩
theorem sd_setL {p : Addr} {ds : List D} {i : Int} {j : Nat} {d : D} {Qm : Mem → Prop} (hm : M p = some (.lst ds)) (hj : ixN ds.length i = some j) (q : Qm (updM M p (some (.lst (ds.set j d))))) : StD K rSetL (.ptr p) (.int i) d M Qm := fun G H ov iv vv R w ro ri rv k => by
  cases ro; cases ri
  obtain ⟨g, xs, h1, r1⟩ := w.mem _ _ hm
  refine ⟨p, xs, i, j, rfl, rfl, h1, by rw [r1.length]; exact hj, ?_⟩
  obtain ⟨w', st⟩ := w.write hm (o := .lst (xs.set j vv)) (mo := .lst (ds.set j d)) ⟨_, upd_same, r1.set rv j⟩
  exact k _ _ _ st w' q

/-! ### defs -/
abbrev SpD := List D → Mem → (D → Mem → Prop) → Prop
def spD (K : PySem.W.Frag) (n : Nat) (S : SpD) : Sp := fun vs H R _ => ∃ (G : Hp) (M : Mem) (ds : List D) (Q : D → Mem → Prop), Wd K G M H ∧ RpA K G vs ds ∧ ds.length = n ∧ S ds M Q ∧ ∀ v H', PV K G M H Q v H' → R v H'
/-- the name x calls a def that keeps S, by at most level k -/
def Cal (P : Program) (w : World) (K : PySem.W.Frag) (mg : Str → Option Value) (base : Heap) (k : Nat) (x : Str) (n : Nat) (S : SpD) : Prop :=
  ∃ f fd ps, FnOk P w K mg base CX0 k f fd ps (spD K n S) ∧ mg x = some (.ref f) ∧ PySem.W.keepIn K (.ref f) = true ∧ Binds K fd ps []
theorem Cal.mono {P : Program} {w : World} {mg : Str → Option Value} {base : Heap} {j k n : Nat} {x : Str} {S : SpD} (h : Cal P w K mg base j x n S) (hj : j ≤ k) : Cal P w K mg base k x n S := let ⟨f, fd, ps, F, a, b, c⟩ := h; ⟨f, fd, ps, F.mono hj, a, b, c⟩
theorem Cal.imp {P : Program} {w : World} {mg : Str → Option Value} {base : Heap} {k n : Nat} {x : Str} {S S' : SpD} (h : Cal P w K mg base k x n S) (hs : ∀ ds M Q, S' ds M Q → S ds M Q) : Cal P w K mg base k x n S' :=
  let ⟨f, fd, ps, F, a, b, c⟩ := h; ⟨f, fd, ps, F.imp fun _ _ _ _ ⟨G, M, ds, Q, w, r, l, s, q⟩ => ⟨G, M, ds, Q, w, r, l, hs _ _ _ s, q⟩, a, b, c⟩
theorem we_call {k n : Nat} {x : Str} {S : SpD} {p : Pos} {e : Expr} {es : List Expr} (C : Cal X.prog X.w X.K X.mg X.base k x n S) (hr : Room k X.A) (h : WA X (e :: es) sg M fun ds M1 => ds.length = n ∧ S ds M1 Q) (hg : Gl X x := by rfl) (hd : (x == ("__debug__" : Str)) = false := by decide)
    (he : starEach (e :: es) X.env = (false, eval e X.env) :: starEach es X.env := by exact star1 rfl) (hpl : (backTo pos (starEach es X.env)).any (·.1) = false := by exact starN rfl) : WE X (.Call (.Name x p) (e :: es) [] pos) sg M Q := by
  obtain ⟨f, fd, ps, F, hm, kp, b⟩ := C
  refine WE.of (pe_call F hr hg hm kp b .nil pass0 pa_w hd he hpl) fun σ H G w s => (h σ H G w s).imp fun vs H1 ⟨ds, G1, M1, st, w1, r1, l, q⟩ => ?_
  show spD _ _ _ (vs ++ []) _ _ _
  rw [List.append_nil]
  exact ⟨G1, M1, ds, Q, w1, r1, l, q, fun v H' p => p.base st⟩
def startD (N : List Str) (ds : List D) : Sg := ds.map some ++ List.replicate (N.length - ds.length) none
theorem start_rp {G : Hp} {N : List Str} {vs : List V} {ds : List D} (r : RpA K G vs ds) : SRp K G (startD N ds) (L2.start N vs) := by
  have hl := r.length
  refine ⟨by unfold L2.start startD; simp [hl], fun i d e => ?_⟩
  unfold startD at e
  unfold L2.start
  by_cases hi : i < ds.length
  · rw [List.getElem?_append_left (by simpa using hi), List.getElem?_map] at e
    rw [List.getElem?_append_left (by simpa [hl] using hi), List.getElem?_map]
    cases ed : ds[i]? with
    | none => rw [ed] at e; cases e
    | some c =>
      rw [ed] at e
      cases e
      obtain ⟨v, hv, rv⟩ := r.get ed
      exact ⟨v, by rw [hv]; rfl, rv⟩
  · rw [List.getElem?_append_right (by simpa using hi), List.getElem?_replicate] at e
    split at e <;> cases e
section
variable {P : Program} {w : World} {mg : Str → Option Value} {base : Heap}
/-- a def of the text keeps S -/
theorem dfn {x qual : Str} {st : Stmt} {f : Addr} {fd : FuncData} {N ps : List Str} {k n : Nat} {S : SpD} (F : Fun K x qual st f fd) (sc : FnScope N ps (defScope st)) (hn : ps.length = n) (hm : mg x = some (.ref f)) (hb : Binds K fd ps [])
    (body : ∀ (cdv : Value) (A : Around) (outer : List Env) (s : Shared) (H : Hp) (E : XK) (ds : List D) (M : Mem) (Q : D → Mem → Prop), Room k (A.deeper (envOfC qual (defScope st) s.heap.objs.size f cdv)) → ds.length = n → S ds M Q →
      WSs (cxOf CX0 P w K mg base N qual (defScope st) f cdv A outer s H E).nox (defBody st) (startD N ds) M { nx := fun _ M' => Q .non M', rt := Q }) : Cal P w K mg base (k + 1) x n S := by
  refine ⟨f, fd, ps, F.ok sc (fun vs H R E h => ?_) (fun cdv A outer s H vs R E hr h => ?_), hm, F.kp, hb⟩
  · obtain ⟨G, M, ds, Q, _, r, l, _⟩ := h
    rw [r.length, l, hn]
  · obtain ⟨G, M, ds, Q, wd, r, l, hs, q⟩ := h
    refine ⟨tWSs _ (defBody st), pss_w, (body cdv A outer s H E ds M Q hr l hs _ H G wd (start_rp r)).imp (fun σ' H' ⟨sg', G', M', st', w', s', q'⟩ => q _ _ ⟨.non, G', M', st', w', .non, q'⟩) (fun v H' p => q v H' p) (fun _ _ p => ?_) (fun _ _ p => ?_)⟩
    · obtain ⟨_, _, _, _, _, _, z⟩ := p; exact z
    · obtain ⟨_, _, _, _, _, _, z⟩ := p; exact z
end
end
end DL
set_option Elab.async false
set_option linter.all false
set_option maxRecDepth 100000
set_option maxHeartbeats 4000000
/-! DLf: what the layer below lacks: enumerate over a tuple, a tuple back to front, list(range(n)). -/
namespace DL
open PySem L2 PyProof.Rows HT
section
variable {prog : Program} {w : World} {A : Around} {E : Value → Shared → Prop} {s : Shared}
/-! ### t[::-1] -/
theorem rev_applied {sl : Addr} {vl vu vs : Value} {n : Nat} {Q : Int × Int × Nat → Shared → Prop} (hs : s.heap.IsSliceOf sl vl vu vs) (a : IsPart vl none) (b : IsPart vu none) (c : IsPart vs (some (-1)))
    (h : Q ((n : Int) - 1, -1, n) s) : wpAny (model prog w) A (Builtin.Slice.sliceApplied (.ref sl) (pure (n : Int))) Q E s := by
  obtain ⟨o, ho, _, hd⟩ := id hs
  unfold Builtin.Slice.sliceApplied Builtin.Slice.sliceFields
  refine wpAny_bind (wpAny_bind (wpAny_field ho hd (x := vl) rfl (wpAny_bind (wpAny_field ho hd (x := vu) rfl (wpAny_bind (wpAny_field ho hd (x := vs) rfl (wpAny_pure ?_)))))))
  refine wpAny_bind (slicePart_ c ?_)
  show wpAny _ _ (if ((-1 : Int) == 0) = true then _ else _) _ _ s
  rw [if_neg (by decide)]
  refine wpAny_bind (slicePart_ a (wpAny_bind (slicePart_ b (wpAny_bind (wpAny_pure ?_)))))
  show wpAny _ _ (pure ((n : Int) - 1, (-1 : Int), Builtin.Slice.slicePlaces ((n : Int) - 1) (-1) (-1))) _ _ s
  have e : Builtin.Slice.slicePlaces ((n : Int) - 1) (-1) (-1) = n := by
    unfold Builtin.Slice.slicePlaces
    have h1 : ¬ ((-1 : Int) > 0) := by decide
    simp only [h1, if_false]
    by_cases h2 : (n : Int) - 1 > -1
    · rw [if_pos h2, show (- -1 : Int) = 1 by decide, Int.ediv_one]
      omega
    · rw [if_neg h2]
      omega
  rw [e]
  exact wpAny_pure h
theorem rev_pick (xs : Array Value) : ((List.range xs.size).filterMap fun (m : Nat) => xs[(((xs.size : Nat) : Int) - 1 + (m : Int) * -1).toNat]?).toArray = xs.toList.reverse.toArray := by
  have f : (fun (m : Nat) => xs[(((xs.size : Nat) : Int) - 1 + (m : Int) * -1).toNat]?) = (fun i => xs[i]?) ∘ fun m => xs.size - 1 - m := by
    funext m
    show xs[(((xs.size : Nat) : Int) - 1 + (m : Int) * -1).toNat]? = xs[xs.size - 1 - m]?
    rw [show (((xs.size : Nat) : Int) - 1 + (m : Int) * -1).toNat = xs.size - 1 - m by omega]
  rw [f, ← List.filterMap_map, PySem.W.krv_range, List.filterMap_reverse, PySem.W.krv_all]
theorem getItem_rev {t sl : Addr} {items : Array Value} {vl vu vs : Value} {Q : Value → Shared → Prop} (ht : IsTup s.heap t items) (hs : s.heap.IsSliceOf sl vl vu vs) (a : IsPart vl none) (b : IsPart vu none) (c : IsPart vs (some (-1))) (hz : items.size ≤ sizeLine)
    (h : Q (.ref s.heap.objs.size) { s with heap := s.heap.push { cls := .type "tuple", data := .seq items.toList.reverse.toArray } }) : wpAny (model prog w) A (getItem (.ref t) (.ref sl)) Q E s := by
  have hok : sizeOk (.seq items.toList.reverse.toArray) := by
    show items.toList.reverse.toArray.size ≤ sizeLine
    rw [List.size_toArray, List.length_reverse, Array.length_toList]
    exact hz
  obtain ⟨o, ho, hc, hd⟩ := id hs
  have hT : s.TypeIs (.ref sl) "slice" := ⟨o, ho, hc⟩
  unfold getItem
  try with_reducible refine wpAny_holding ?_
  first | refine wpAny_bind (wpAny_pure ?_) | skip
  refine wpAny_bind (wpAny_sequenceKey ht.typeIs (by decide) ?_)
  refine wpAny_bind (wpAny_callSpecial?_slot (name := Str.ofString "__getitem__") ht.typeIs slot_tuple_getitem (wpAny_call_entry slot_tuple_getitem ht.typeIs entry_tuple_getitem ?_ (args_tuple_getitem _ _)))
  show wpAny _ _ (Builtin.Tuple.tupleItemsOf (.ref t) >>= _) _ _ s
  refine wpAny_bind (tupleItemsOf_ ht (wpAny_bind (wpAny_typeOf hT ?_)))
  rw [if_pos (by decide)]
  refine wpAny_bind (rev_applied hs a b c ?_)
  have hno : ¬ ((((items.size : Nat) : Int) - 1 == 0 && (-1 : Int) == 1 && items.size == items.size) = true) := by
    rw [show ((-1 : Int) == 1) = false by decide, Bool.and_false, Bool.false_and]
    exact Bool.false_ne_true
  show wpAny _ _ (if ((((items.size : Nat) : Int) - 1 == 0 && (-1 : Int) == 1 && items.size == items.size) = true) then _ else _) _ _ s
  rw [if_neg hno, rev_pick]
  first
    | exact wpAny_bind (m := Builtin.Tuple.tupleExact _) (wpAny_newObj_type (wpAny_pure ⟨_, rfl, wpAny_pure h⟩) hok)
    | exact wpAny_bind (m := Builtin.Tuple.tupleExact _) (wpAny_newObj_type (wpAny_bind (wpAny_pure (wpAny_pure ⟨_, rfl, wpAny_pure h⟩))) hok)
    | exact wpAny_bind (wpAny_bind (m := Builtin.Tuple.tupleExact _) (wpAny_newObj_type (wpAny_pure (wpAny_pure ⟨_, rfl, wpAny_pure h⟩)) hok))
    | exact wpAny_bind (wpAny_bind (m := Builtin.Tuple.tupleExact _) (wpAny_newObj_type (wpAny_pure ⟨_, rfl, wpAny_pure h⟩) hok))
end
section
variable {X : Cx} {sg : Sg} {M : Mem} {E : EndsD} {Q : D → Mem → Prop} {pos : Pos} {K : PySem.W.Frag}
def tRevT (K : PySem.W.Frag) (te : TE) : TE := fun σ H R => te σ H fun x H1 => ∃ a xs, x = .ref a ∧ SqT K H1 a xs ∧ ∀ p, H1 p = none → R (.ref p) (upd H1 p (.tup xs.reverse))
theorem pe_revT {e : Expr} {te : TE} {k : Nat} {p1 p2 p3 : Pos} (he : PE X e te) : PE X (.Subscript e (.Slice none none (some (.UnaryOp .USub (.Constant (.int 1) k p1) p2)) p3) pos) (tRevT X.K te) := by
  refine ⟨fun pins s σ H R I h => ?_⟩
  refine Subscript_ (thn (he.run pins s σ H _ I h) fun v s1 ⟨x, H1, I1, r1, a, xs, ex, hx, q⟩ => ?_)
  subst ex
  cases r1
  have hst : PO X (some (.UnaryOp .USub (.Constant (.int 1) k p1) p2)) (tPart (tUn (rU fun i => .int (-i)) (tC (.int 1)))) := po_some (pe_un un_neg pe_int)
  refine wpAny_Slice (thn (po_none.run pins s1 σ H1 (fun o H2 => o = none ∧ H2 = H1) I1 ⟨rfl, rfl⟩) fun vl s2 ⟨l, H2, I2, pl, el, e2⟩ => ?_)
  subst el e2
  refine thn (po_none.run pins s2 σ H2 (fun o H3 => o = none ∧ H3 = H2) I2 ⟨rfl, rfl⟩) fun vu s3 ⟨u, H3, I3, pu, eu, e3⟩ => ?_
  subst eu e3
  refine thn (hst.run pins s3 σ H3 (fun o H4 => o = some (-1) ∧ H4 = H3) I3 ⟨1, rfl, -1, rfl, rfl, rfl⟩) fun vs s4 ⟨o, H4, I4, ps, eo, e4⟩ => ?_
  subst eo e4
  have I5 : Inv X pins σ H4 { s4 with heap := s4.heap.push { cls := .type "slice", data := .fields #[vl, vu, vs] } } := I4.kept (t' := s4.toks) fun b ob z => Heap.get?_push_of_some _ z
  obtain ⟨its, r, ht, hz⟩ := I5.tuple hx
  have hlen := r.length
  show wpAny _ X.A (subscriptTail e (.Slice none none (some (.UnaryOp .USub (.Constant (.int 1) k p1) p2)) p3) (.ref a) (.ref s4.heap.objs.size)) _ X.xe { s4 with heap := s4.heap.push { cls := .type "slice", data := .fields #[vl, vu, vs] } }
  refine tail_any (ops := [.ref a, .ref s4.heap.objs.size]) ht.typeIs slot_tuple_getitem.lookup ?_ (by with_unfolding_all rfl)
  refine getItem_rev ht (Heap.IsSliceOf.new _ vl vu vs) pl pu ps (by rw [List.size_toArray]; omega) ?_
  refine ⟨.ref _, _, I5.laid (t' := s4.toks) (o := .tup xs.reverse) (fun b ob z => Heap.get?_push_of_some _ z) (Nat.le_refl _) ?_, rfl, q _ (I5.hok.fresh (Nat.le_refl _))⟩
  exact ⟨by rw [List.length_reverse]; exact hz, _, r.reverse, ⟨_, Heap.get?_push_size _ rfl, rfl, _, rfl⟩⟩
theorem we_revT {e : Expr} {k : Nat} {p1 p2 p3 : Pos} (h : WE X e sg M fun x M1 => ∃ ds, x = .tup ds ∧ Q (.tup ds.reverse) M1) : WE X (.Subscript e (.Slice none none (some (.UnaryOp .USub (.Constant (.int 1) k p1) p2)) p3) pos) sg M Q := WE.of (pe_revT pe_w) fun σ H G w s => (h σ H G w s).imp fun v H1 ⟨x, G1, M1, st, w1, r1, ds, e1, q⟩ => by
  subst e1
  cases r1 with
  | tup h1 rx => exact ⟨_, _, rfl, SqT.of (w1.sub _ _ h1), fun p hp => (new_tup w1 hp rx.reverse q).base st⟩

/-! ### enumerate(t): its beginning -/
abbrev tupIt (t : Addr) : Obj := { cls := .type "tuple_iterator", data := .fields #[.ref t, .int 0 0] }
abbrev enumO (i : Addr) : Obj := { cls := .type "enumerate", data := .fields #[.none, .bool false, .ref i, rawInt 0, .none, .none] }
set_option maxHeartbeats 1000000 in
theorem meets_enumT (t : Addr) (items : Array Value) :
    Meets (Builtin.«enumerate.__new__» ⟨[.type "enumerate", .ref t], []⟩) (fun _ R s => s.heap.IsTuple t items ∧ R (.ok (.ret (.ref (s.heap.push (tupIt t)).objs.size))) { s with heap := (s.heap.push (tupIt t)).push (enumO s.heap.objs.size) }) :=
  .of_wp fun prog w A R s h => by
    obtain ⟨hp, g, d, tk, os⟩ := s
    obtain ⟨hL, h⟩ := h
    have hsub := sub_enumerate
    replace hL : Heap.IsTuple (Shared.heap ⟨hp, g, d, tk, os⟩) t items := hL
    have q1 : ∀ {A' : Around} {E : Value → Shared → Prop} {Q : Value → Shared → Prop}, Q (.ref hp.objs.size) ⟨hp.push (tupIt t), g, d, tk, os⟩ → wpAny (model prog w) A' (pyIter (.ref t)) Q E ⟨hp, g, d, tk, os⟩ := fun q => wpAny_pyIter_tuple hL q
    wp_walk using q1
    refine wpAny_stack_any fun st => wpAny_pure ?_
    split
    · rename_i c _ _ _ _ _
      cases (c == Value.type "enumerate")
      · wp_walk using q1
        exact ⟨_, rfl, h⟩
      · wp_walk using q1
        exact ⟨_, rfl, h⟩
    · wp_walk using q1
      exact ⟨_, rfl, h⟩
theorem call_enumT {prog : Program} {w : World} {A : Around} {E : Value → Shared → Prop} {s : Shared} {t : Addr} {items : Array Value} {Q : Value → Shared → Prop} (hL : s.heap.IsTuple t items)
    (h : ∀ h', IsEnum h' (s.heap.objs.size + 1) s.heap.objs.size 0 .none → h'.IsTupleIter s.heap.objs.size t 0 → (∀ b o, s.heap.get? b = some o → h'.get? b = some o) → Q (.ref (s.heap.objs.size + 1)) { s with heap := h' }) :
    wpAny (model prog w) A (call (.type "enumerate") [.ref t]) Q E s := by
  refine callType_new F.called_enumerate (by decide) (F.typeCall_enumerate_1 _) (F.newCall_enumerate_1 _) (fun obj => F.args_object_init_2 obj _) F.entry_enumerate_new (meets_enumT t items) ⟨hL, ?_⟩
  have hz : (s.heap.push (tupIt t)).objs.size = s.heap.objs.size + 1 := Heap.size_push ..
  show _ ∧ _
  rw [hz]
  have he : IsEnum ((s.heap.push (tupIt t)).push (enumO s.heap.objs.size)) (s.heap.objs.size + 1) s.heap.objs.size 0 .none := by
    have q := Heap.get?_push_size (s.heap.push (tupIt t)) (o := enumO s.heap.objs.size) rfl
    rw [hz] at q
    exact q
  exact ⟨⟨_, he, rfl⟩, h _ he ⟨_, Heap.get?_push_of_some _ (Heap.get?_push_size _ rfl), rfl, rfl⟩ fun b o x => Heap.get?_push_of_some _ (Heap.get?_push_of_some _ x)⟩
/-! ### enumerate(t) -/
def Itf (K : PySem.W.Frag) (a : Addr) : It :=
  ⟨fun i H => ∃ (xs : List V) (x : V), SqT K H a xs ∧ xs[i]? = some x, fun i H v H' => ∃ T x, v = .ref T ∧ H T = none ∧ H' = upd H T (.tup [.int (i : Nat), x]) ∧ ∀ xs, SqT K H a xs → xs[i]? = some x, fun i H => ∃ xs : List V, SqT K H a xs ∧ xs.length = i⟩
theorem turn_enumT {P : Program} {w : World} {elts : List Expr} {kk : Nat} {tpos : Pos} (a e it : Addr) :
    Turn P w K (.Tuple elts kk tpos) (Itf K a) [e, it] e (fun i h => (∃ old, IsEnum h e it ((i : Nat) : Int) old) ∧ h.IsTupleIter it a i ∧ e ≠ it) where
  mem := by simp
  obj := fun i h ⟨⟨old, he⟩, ⟨o, ho, hc, hd⟩, _⟩ b hb => by
    rcases (by simpa using hb : b = e ∨ b = it) with z | z
    · rw [z]; exact ⟨_, he, fun v q => nomatch q⟩
    · rw [z]; exact ⟨o, ho, fun v q => by rw [hd] at q; cases q⟩
  keep := fun i h h' ⟨⟨old, he⟩, hi, hne⟩ k => ⟨⟨old, k e (by simp) _ he⟩, hi.at fun o q => k it (by simp) o q, hne⟩
  item := by
    intro X hP hw hK hc i pins s σ H E I hf st hg
    subst hP hw hK
    obtain ⟨⟨old, he⟩, hit, hne⟩ := st
    obtain ⟨xs, x, hq, hx⟩ := hg
    obtain ⟨its, rv, p, hz⟩ := I.tuple hq
    obtain ⟨u, hu, ru⟩ := rv.get hx
    have hil : i < xs.length := (List.getElem?_eq_some_iff.mp hx).1
    have hsz : its.toArray.size = xs.length := by rw [List.size_toArray]; exact rv.length.symm
    have hel : e < s.heap.objs.size := Heap.lt_size he
    have hilt : it < s.heap.objs.size := by obtain ⟨_, q, _⟩ := hit; exact Heap.lt_size q
    have ane : a ≠ it := fun z => by
      obtain ⟨o, q, c, _⟩ := hit
      obtain ⟨o2, q2, c2, _⟩ := p
      rw [z, q] at q2
      cases q2
      rw [c] at c2
      injection c2 with c3
      exact absurd c3 (by decide)
    have eae : e ≠ a := fun z => by
      obtain ⟨o2, q2, c2, _⟩ := p
      have he' := he
      unfold IsEnum at he'
      rw [z, q2] at he'
      cases he'
      injection c2 with c3
      exact absurd c3 (by decide)
    have D := Draws.tuple (prog := X.prog) (w := X.w) (A := X.A.in1) (I.ok.hd hc) it a ane its.toArray
    refine wpAny_pyNext_enum_itemC D he (i := i) ⟨hit, p⟩ (by rw [hsz]; exact hil) hne (by simp [hne, eae]) fun y h' tk hy ho st' hT hsz' hk => ?_
    have ey : y = u := by
      have hy' : its.toArray[i]? = some y := hy
      rw [List.getElem?_toArray, hu] at hy'
      exact (Option.some.inj hy').symm
    subst ey
    refine ⟨_, rfl, wpAny_letOwnedTupleGo_enum (s := { s with heap := h', toks := tk + 1 }) ho fun h'' he' sb => ?_⟩
    have hT2 : h''.get? s.heap.objs.size = some { cls := .type "tuple", data := .seq #[.int i tk, y] } := (sb.2 _ (Nat.ne_of_gt hel)).trans hT
    have new : ObjOk X.prog X.w (upd H s.heap.objs.size (.tup [.int (i : Nat), x])) h'' s.heap.objs.size (.tup [.int (i : Nat), x]) :=
      ⟨by show 2 ≤ sizeLine; decide, [.int i tk, y], .cons ⟨_, rfl⟩ (.cons ru .nil), ⟨_, hT2, rfl, _, rfl⟩⟩
    have I1 : Inv X pins σ (upd H s.heap.objs.size (.tup [.int (i : Nat), x])) { s with heap := h'', toks := tk + 1 } :=
      I.turnedNew (ch := [e, it]) (fun b ob hb q => (sb.2 b (fun z => hb (by simp [z]))).trans (hk b ob (fun z => hb (by simp [z])) (fun z => hb (by simp [z])) q)) hf (Nat.le_refl _) new
    refine ⟨.ref s.heap.objs.size, _, I1, rfl, ⟨_, x, rfl, I.hok.fresh (Nat.le_refl _), rfl, fun ys hy => by rw [I.tuple_inj hy hq]; exact hx⟩, ⟨⟨y, ?_⟩, st'.1.at fun o q => (sb.2 it (Ne.symm hne)).trans q, hne⟩, fun b hb => ?_⟩
    · have e1 : ((i + 1 : Nat) : Int) = (i : Int) + 1 := by omega
      rw [e1]; exact he'
    · have hb' : b < s.heap.objs.size := by
        rcases (by simpa using hb : b = e ∨ b = it) with z | z
        · rw [z]; exact hel
        · rw [z]; exact hilt
      rw [upd_ne (Nat.ne_of_lt hb')]
      exact (hf b hb).1
  done := by
    intro X hP hw hK hc i pins s σ H E I hf st hg
    subst hP hw hK
    obtain ⟨⟨old, he⟩, hit, hne⟩ := st
    obtain ⟨xs, hq, hx⟩ := hg
    obtain ⟨its, rv, p, hz⟩ := I.tuple hq
    obtain ⟨f0, f1, f2, f3, f4, f5⟩ := hf it (by simp)
    have ane : a ≠ it := fun z => by
      obtain ⟨o, q, c, _⟩ := hit
      obtain ⟨o2, q2, c2, _⟩ := p
      rw [z, q] at q2
      cases q2
      rw [c] at c2
      injection c2 with c3
      exact absurd c3 (by decide)
    have D := Draws.tuple (prog := X.prog) (w := X.w) (A := X.A.in1) (I.ok.hd hc) it a ane its.toArray
    have hn : its.toArray.size = i := by rw [List.size_toArray, ← rv.length]; exact hx
    refine wpAny_pyNext_enum_endD D he ⟨by rw [hn]; exact hit, p⟩ fun h' eb => ⟨rfl, I.turned (t' := s.toks) (fun b o hb q => eb b o hb q) f0 f1 f3 f4 f5⟩
  self := fun A i s Q E ⟨⟨_, he⟩, _⟩ h => wpAny_pyIter_enum he h
def iEnumT (K : PySem.W.Frag) (ta : TA) : TI := fun σ H R => ta σ H fun vs H1 => ∃ a xs, vs = [.ref a] ∧ SqT K H1 a xs ∧ R (Itf K a) H1
theorem pi_enumT {e : Expr} {ta : TA} {p tpos : Pos} {elts : List Expr} {kk : Nat} (hg : Gl X "enumerate") (hm : X.mg "enumerate" = none) (ha : PA X [e] ta) (hs : starEach [e] X.env = [(false, eval e X.env)] := by exact star1n rfl) : PI X (.Tuple elts kk tpos) (.Call (.Name "enumerate" p) [e] [] pos) (iEnumT X.K ta) := by
  refine ⟨fun pins s σ H R I h => ?_⟩
  refine Call_ (ld_blt I hg hm boot_enumerate (callWith_type1 (thn (ha.run pos pins s σ H _ I h) fun us s1 ⟨vs, H1, I1, r1, a, xs, ex, hq, q⟩ => ?_) hs rfl))
  subst ex
  cases r1 with
  | cons r rr =>
    cases rr
    cases r
    obtain ⟨its, rv, p', hz⟩ := I1.tuple hq
    refine call_enumT (items := its.toArray) p' fun h' he hit hk => wpAny_pyIter_enum he ?_
    have I2 : Inv X pins σ H1 { s1 with heap := h' } := I1.kept (t' := s1.toks) hk
    refine ⟨s1.heap.objs.size + 1, [s1.heap.objs.size + 1, s1.heap.objs.size], _, _, H1, rfl, I2, turn_enumT a (s1.heap.objs.size + 1) s1.heap.objs.size, ⟨⟨.none, he⟩, hit, Nat.succ_ne_self _⟩, fun b hb => ?_, q⟩
    have hle : s1.heap.objs.size ≤ b := by
      rcases (by simpa using hb : b = s1.heap.objs.size + 1 ∨ b = s1.heap.objs.size) with z | z
      · rw [z]; exact Nat.le_add_right _ _
      · rw [z]; exact Nat.le_refl _
    exact I1.fpOk hle (I1.hok.fresh hle)
theorem wi_enumT {Qi : List D → (Mem → Prop) → Mem → Prop} {e : Expr} {p tpos : Pos} {elts : List Expr} {kk : Nat} (hm : X.mg "enumerate" = none) (h : WA X [e] sg M fun xs M1 => ∃ ds, xs = [.tup ds] ∧ Qi (enumD ds) (fun _ => True) M1) (hg : Gl X "enumerate" := by rfl) (hs : starEach [e] X.env = [(false, eval e X.env)] := by exact star1n rfl) : WI X (.Tuple elts kk tpos) (.Call (.Name "enumerate" p) [e] [] pos) sg M Qi := ⟨_, pi_enumT hg hm pa_w hs, fun σ H G R w s k => (h σ H G w s).imp fun vs H1 ⟨xs, G1, M1, st, w1, r1, ds, e, q⟩ => by
  subst e
  obtain ⟨v, rfl, rv⟩ := r1.one
  cases rv with
  | @tup a ys _ h1 rx =>
    refine ⟨a, ys, rfl, SqT.of (w1.sub _ _ h1), k _ _ _ _ G1 M1 st w1 (fun G2 M2 H2 gx w2 _ i => ?_) q⟩
    have h2 : SqT X.K H2 a ys := SqT.of (w2.sub _ _ (gx _ _ h1))
    have rz := rx.mono gx
    have hl : (enumD ds).length = ds.length := by unfold enumD; rw [List.length_mapIdx]
    refine ⟨fun hi => ⟨ys, h2, by rw [rz.length, hi, hl]⟩, fun d hd => ?_⟩
    obtain ⟨c, hc, ec⟩ : ∃ c, ds[i]? = some c ∧ d = .tup [.int (i : Int), c] := by
      unfold enumD at hd
      rw [List.getElem?_mapIdx] at hd
      cases e : ds[i]? with
      | none => rw [e] at hd; cases hd
      | some c => rw [e] at hd; exact ⟨c, rfl, (Option.some.inj hd).symm⟩
    subst ec
    obtain ⟨z, hz, rd⟩ := rz.get hc
    refine ⟨⟨ys, z, h2, hz⟩, fun t H' ⟨T, y, e1, e2, e3, e4⟩ => ?_⟩
    subst e1; subst e3
    have e := (e4 ys h2).symm.trans hz
    cases e
    exact new_pair w2 e2 (.int _) rd⟩
/-! ### list(range(n)) -/
def rRngE (ta : TA) : TE := fun σ H R => ta σ H fun vs H1 => ∃ j : Int, vs = [.int j] ∧ -(2 ^ 62) ≤ j ∧ j ≤ 1000000 ∧ ∀ p, H1 p = none → R (.ref p) (upd H1 p (.lst ((List.range j.toNat).map fun (i : Nat) => V.int (i : Int))))
end
end DL
set_option Elab.async false
set_option linter.all false
set_option maxRecDepth 100000
set_option maxHeartbeats 4000000
/-! DLg: list(range(n)); sorted of pairs of ints. -/
namespace DL
open PySem L2 PyProof.Rows HT
section
variable {X : Cx} {sg : Sg} {M : Mem} {E : EndsD} {Q : D → Mem → Prop} {pos : Pos} {K : PySem.W.Frag}
theorem cr_rng1 : CallR X (.type "range") (fun vs H Q => ∃ j, vs = [V.int j] ∧ ∀ p, H p = none → Q (.ref p) (upd H p (.rng 0 j))) := by
  intro pins s σ H vs us R I r h
  obtain ⟨j, rfl, q⟩ := h
  obtain ⟨u, rfl, t, rfl⟩ := vals1 r
  refine call_range_1 ⟨.ref s.heap.objs.size, upd H s.heap.objs.size (.rng 0 j), I.laid (t' := s.toks + 1 + 1) (fun b o e => Heap.get?_push_of_some _ e) (Nat.le_refl _) ?_, rfl, q _ (I.hok.fresh (Nat.le_refl _))⟩
  exact ⟨_, _, _, Heap.get?_push_size _ rfl⟩
theorem vals_rng {n : Nat} {acc : Array Value} (h : ItemsOf (fun i v => ∃ t, v = Value.int (0 + (i : Int) * 1) t) acc n) : Vals ((List.range n).map fun (i : Nat) => V.int (i : Int)) acc.toList := by
  obtain ⟨hl, hi⟩ := h
  have key : ∀ (l : List Value) (k : Nat), (∀ (j : Nat) v, l[j]? = some v → ∃ t, v = Value.int (((k + j : Nat) : Int)) t) → Vals ((List.range' k l.length).map fun (i : Nat) => V.int (i : Int)) l := by
    intro l
    induction l with
    | nil => intro k _; exact .nil
    | cons v l ih =>
      intro k h
      refine .cons (h 0 v rfl) (ih (k + 1) fun j u e => ?_)
      obtain ⟨t, e'⟩ := h (j + 1) u (by simpa using e)
      exact ⟨t, by rw [e', show k + (j + 1) = k + 1 + j by omega]⟩
  have q := key acc.toList 0 fun j v e => by
    obtain ⟨t, e'⟩ := hi j v (by rw [← Array.getElem?_toList]; exact e)
    exact ⟨t, by rw [e', show (0 : Int) + (j : Int) * 1 = ((0 + j : Nat) : Int) by omega]⟩
  rw [Array.length_toList, hl, ← List.range_eq_range'] at q
  exact q
theorem cr_listR (hc : X.calm = true) : CallR X (.type "list") (fun vs H Q => ∃ p j, vs = [V.ref p] ∧ H p = some (.rng 0 j) ∧ -(2 ^ 62) ≤ j ∧ j ≤ 1000000 ∧ ∀ l, H l = none → Q (.ref l) (upd H l (.lst ((List.range j.toNat).map fun (i : Nat) => V.int (i : Int))))) := by
  intro pins s σ H vs us R I r h
  obtain ⟨p, j, rfl, hp, b1, b2, q⟩ := h
  obtain ⟨u, rfl, ru⟩ := vals1 r
  obtain rfl : u = Value.ref p := ru
  obtain ⟨t, t2, t3, ho⟩ := (show ObjOk X.prog X.w H s.heap p (.rng 0 j) from I.hok p _ hp)
  have hz : Builtin.Range.rangeSize 0 j 1 = j.toNat := by
    rw [rangeSize_one]
    split <;> omega
  have hs : j.toNat ≤ sizeLine := by rw [sizeLine_eq]; omega
  refine call_list_range (I.ok.hd hc) ho (small_one (by decide) (by decide) b1 (by omega)) hz (by omega) fun h' tk acc c' hk hS hi => ?_
  refine ⟨.ref s.heap.objs.size, _, I.laid (t' := tk) (o := .lst ((List.range j.toNat).map fun (i : Nat) => V.int (i : Int))) hk (Nat.le_refl _) ⟨?_, acc.toList, c', vals_rng hi, by simpa using hS⟩, rfl, q _ (I.hok.fresh (Nat.le_refl _))⟩
  rw [List.length_map, List.length_range]
  exact hs
theorem rpa_rng {G : Hp} : ∀ n : Nat, RpA K G ((List.range n).map fun (i : Nat) => V.int (i : Int)) (rngD 0 n) := fun n => by
  have q := rpa_ints (K := K) (G := G) ((List.range n).map fun (i : Nat) => (i : Int))
  rw [List.map_map, List.map_map] at q
  unfold rngD
  have e : (D.int ∘ fun (i : Nat) => (i : Int)) = fun (i : Nat) => D.int (0 + (i : Int)) := by
    funext i
    show D.int (i : Int) = D.int (0 + (i : Int))
    rw [Int.zero_add]
  rw [e] at q
  exact q
/-- list(range(e)) -/
theorem we_lrng {e : Expr} {p1 p2 pos2 : Pos} (hc : X.calm = true) (hl : X.mg "list" = none) (hr : X.mg "range" = none) (h : WE X e sg M fun x M1 => ∃ j, x = .int j ∧ -(2 ^ 62) ≤ j ∧ j ≤ 1000000 ∧ Q (.lst (rngD 0 j.toNat)) M1) (g1 : Gl X "list" := by rfl) (g2 : Gl X "range" := by rfl)
    (s1 : starEach [.Call (.Name "range" p2) [e] [] pos2] X.env = (false, eval (.Call (.Name "range" p2) [e] [] pos2) X.env) :: starEach [] X.env := by exact star1 rfl) (s2 : starEach [e] X.env = (false, eval e X.env) :: starEach [] X.env := by exact star1 rfl) (t1 : (backTo pos (starEach [] X.env)).any (·.1) = false := by exact starN rfl) (t2 : (backTo pos2 (starEach [] X.env)).any (·.1) = false := by exact starN rfl) :
    WE X (.Call (.Name "list" p1) [.Call (.Name "range" p2) [e] [] pos2] [] pos) sg M Q :=
  WE.of (pe_callTy (cr_listR hc) g1 hl (by decide +kernel) (pa_cons (pe_callTy cr_rng1 g2 hr (by decide +kernel) (pa_cons pe_w pa_nil s2) (by decide) (by decide) s2 t2) pa_nil s1) (by decide) (by decide) s1 t1) fun σ H G w s =>
    (h σ H G w s).imp fun v H1 ⟨x, G1, M1, st, w1, r1, j, e1, b1, b2, q⟩ => by
      subst e1
      cases r1
      refine ⟨j, rfl, fun p hp => ⟨p, j, rfl, upd_same, b1, b2, fun l hl => ?_⟩⟩
      have w2 : Wd X.K G1 M1 (upd H1 p (.rng 0 j)) := w1.other (w1.free hp).1 (w1.free hp).2 fun u e m => w1.fresh hp e m
      have st2 : Stp G1 M1 H1 G1 M1 (upd H1 p (.rng 0 j)) := ⟨fun z o e m => ⟨by rw [upd_ne (ne_of_none e hp)]; exact e, rfl, m⟩, rfl⟩
      exact (new_lst w2 hl (rpa_rng _) q).base (st.trans st2)

/-! ### sorted(xs), xs a list of pairs of ints -/
def PairAt (K : PySem.W.Frag) (H : Hp) (x : V) (p : Int × Int) : Prop := ∃ t, x = V.ref t ∧ SqT K H t [.int p.1, .int p.2]
abbrev SrtP (ps : List (Int × Int)) : Prop := ps.Pairwise fun x y => SrtO.lexB y x = false
def rSrt (K : PySem.W.Frag) : List V → Hp → VK → Prop := fun vs H Q => ∃ (a : Addr) (xs : List V) (ps : List (Int × Int)) (F : V → Int × Int → Prop), vs = [V.ref a] ∧ SqL K H a xs ∧ (∀ x p, F x p → PairAt K H x p) ∧ Paired F xs ps ∧
  ∀ ys ps' p, ps'.Perm ps → SrtP ps' → Paired F ys ps' → H p = none → Q (.ref p) (upd H p (.lst ys))
theorem paired_mem {α β : Type} {F : α → β → Prop} : ∀ {xs : List α} {ys : List β}, Paired F xs ys → ∀ x ∈ xs, ∃ y, F x y
  | _, _, .nil, x, h => by cases h
  | _, _, .cons r t, x, h => by
    rcases List.mem_cons.mp h with e | h
    · subst e; exact ⟨_, r⟩
    · exact paired_mem t x h
theorem paired_map {α β : Type} {F : α → β → Prop} {k : α → β} (u : ∀ x y, F x y → k x = y) : ∀ {xs : List α} {ys : List β}, Paired F xs ys → ys = xs.map k
  | _, _, .nil => rfl
  | _, _, .cons r t => by rw [List.map_cons, ← paired_map u t, u _ _ r]
theorem paired_of {α β : Type} {F : α → β → Prop} {k : α → β} : ∀ {xs : List α}, (∀ x ∈ xs, F x (k x)) → Paired F xs (xs.map k)
  | [], _ => .nil
  | x :: xs, h => .cons (h x List.mem_cons_self) (paired_of fun y hy => h y (List.mem_cons_of_mem _ hy))
open Classical in
theorem cr_srt : CallR X (.builtin "sorted") (rSrt X.K) := by
  intro pins s σ H vs us R I r h
  obtain ⟨a, xs, ps, F, rfl, hs, hF, hp, q⟩ := h
  obtain ⟨its, rv, hl, hz⟩ := I.list hs
  obtain ⟨u, rfl, ru⟩ := vals1 r
  obtain rfl : u = Value.ref a := ru
  let k : V → Int × Int := fun x => if c : ∃ p, F x p then c.choose else (0, 0)
  have kk : ∀ x p, F x p → F x (k x) := fun x p hx => by
    have c : ∃ p, F x p := ⟨p, hx⟩
    show F x (if c : ∃ p, F x p then c.choose else (0, 0))
    rw [dif_pos c]
    exact c.choose_spec
  have ku : ∀ x p, F x p → k x = p := fun x p hx => by
    obtain ⟨t, e, h1⟩ := hF _ _ (kk x p hx)
    obtain ⟨t', e', h2⟩ := hF _ _ hx
    subst e
    cases e'
    have z := I.tuple_inj h1 h2
    injection z with z1 z2
    injection z2 with z3 z4
    injection z1 with z1
    injection z3 with z3
    exact Prod.ext z1 z3
  have hf : ∀ x ∈ xs, F x (k x) := fun x m => by
    obtain ⟨p, hp'⟩ := paired_mem hp x m
    exact kk x p hp'
  have hx : ∀ x ∈ xs, PairAt X.K H x (k x) := fun x m => hF _ _ (hf x m)
  obtain ⟨e1, e2⟩ := refs_back rv fun x m => by
    obtain ⟨t, e, _⟩ := hx x m
    exact ⟨t, e⟩
  refine SrtO.sorted_pairsO (k := fun u => k (backV u)) hl.isList (by rw [← rv.length]; exact hz) (fun v hv => ?_) fun h' d out h1 h2 kp hd hn => ?_
  · obtain ⟨t, rfl⟩ := e2 v hv
    obtain ⟨t', e, ht⟩ := hx (V.ref t) (by rw [e1]; exact List.mem_map.mpr ⟨_, hv, rfl⟩)
    cases e
    obtain ⟨its2, r2, ⟨o, ho, hc, n, hd⟩, _⟩ := I.tuple ht
    obtain ⟨u1, u2, rfl, ri, rj⟩ := vals2 r2
    obtain ⟨t1, rfl⟩ := ri
    obtain ⟨t2, rfl⟩ := rj
    exact ⟨t, o, t1, t2, n, rfl, ho, hc, hd⟩
  · obtain ⟨n, hn⟩ := hn
    have hb : SrtO.Stb (ltP k) (out.map backV) xs := by
      rw [e1]
      exact SrtO.Stb.map (ltP_swo k) backV h2
    have h3 := SrtO.srtd_map (f := backV) (lt := ltP k) h1
    refine ⟨.ref d, upd H d (.lst (out.map backV)), I.laid (t' := s.toks) kp hd ⟨by rw [hb.len]; exact hz, out, n, vals_back fun u hu => e2 u (h2.perm.mem_iff.mp hu), hn⟩, rfl, q _ ((out.map backV).map k) d ?_ ?_ ?_ (I.hok.fresh hd)⟩
    · rw [paired_map ku hp]
      exact hb.perm.map k
    · exact List.pairwise_map.mpr h3
    · exact paired_of fun x m => hf x (hb.perm.mem_iff.mp m)
def pairD (p : Int × Int) : D := .tup [.int p.1, .int p.2]
theorem pairs_of {G : Hp} : ∀ {vs : List V} {ps : List (Int × Int)}, RpA K G vs (ps.map pairD) → Paired (fun v p => Rp K G v (pairD p)) vs ps
  | _, [], .nil => .nil
  | _, _ :: _, .cons h r => .cons h (pairs_of r)
theorem of_pairs {G : Hp} : ∀ {vs : List V} {ps : List (Int × Int)}, Paired (fun v p => Rp K G v (pairD p)) vs ps → RpA K G vs (ps.map pairD)
  | _, _, .nil => .nil
  | _, _, .cons h r => .cons h (of_pairs r)
theorem cd_srt {x : D} {ps : List (Int × Int)} (h : LsD M x (ps.map pairD)) (q : ∀ ps' : List (Int × Int), ps'.Perm ps → SrtP ps' → Q (.lst (ps'.map pairD)) M) : ClD K (rSrt K) [x] M Q := fun G H vs R w r k => by
  obtain ⟨v, rfl, rv⟩ := r.one
  obtain ⟨a, xs, rfl, h1, r1⟩ := h.at w rv
  refine ⟨a, xs, ps, fun v p => Rp K G v (pairD p), rfl, SqL.of h1, fun x p hx => ?_, pairs_of r1, fun ys ps' p hp hs hy hn => k _ _ (new_lst w hn (of_pairs hy) (q ps' hp hs))⟩
  cases hx with
  | tup h1 r1 =>
    obtain ⟨v, u, rfl, rv, ru⟩ := r1.two
    cases rv; cases ru
    exact ⟨_, rfl, SqT.of (w.sub _ _ h1)⟩
end
end DL
set_option Elab.async false
set_option linter.all false
set_option maxRecDepth 100000
set_option maxHeartbeats 4000000
/-! DLh: short forms, for expressions that change nothing. -/
namespace DL
open PySem L2 PyProof.Rows HT
theorem bi_int : bootBuiltins "int" = some (.type "int") := by decide +kernel
theorem bi_bool : bootBuiltins "bool" = some (.type "bool") := by decide +kernel
theorem bi_str : bootBuiltins "str" = some (.type "str") := by decide +kernel
theorem bi_tuple : bootBuiltins "tuple" = some (.type "tuple") := by decide +kernel
theorem bi_list : bootBuiltins "list" = some (.type "list") := by decide +kernel
theorem bi_len : bootBuiltins "len" = some (.builtin "len") := by decide +kernel
theorem bi_all : bootBuiltins "all" = some (.builtin "all") := by decide +kernel
theorem bi_any : bootBuiltins "any" = some (.builtin "any") := by decide +kernel
theorem bi_sum : bootBuiltins "sum" = some (.builtin "sum") := by decide +kernel
theorem bi_max : bootBuiltins "max" = some (.builtin "max") := by decide +kernel
theorem bi_min : bootBuiltins "min" = some (.builtin "min") := by decide +kernel
theorem bi_sorted : bootBuiltins "sorted" = some (.builtin "sorted") := by decide +kernel
section
variable {X : Cx} {sg : Sg} {M : Mem} {E : EndsD} {Q : D → Mem → Prop} {Qb : Bool → Mem → Prop} {pos : Pos} {K : PySem.W.Frag}
theorem EE.to {e : Expr} {d : D} (h : EE X e sg M d) (q : Q d M) : WE X e sg M Q := h.imp fun x M1 ⟨e1, e2⟩ => by subst e1; subst e2; exact q
theorem ET.to {e : Expr} {b : Bool} (h : ET X e sg M b) (q : Qb b M) : WT X e sg M Qb := h.imp fun x M1 ⟨e1, e2⟩ => by subst e1; subst e2; exact q
theorem EA.to {es : List Expr} {ds : List D} {Ql : List D → Mem → Prop} (h : EA X es sg M ds) (q : Ql ds M) : WA X es sg M Ql := h.imp fun x M1 ⟨e1, e2⟩ => by subst e1; subst e2; exact q
theorem EE.is {e : Expr} {d d' : D} (h : EE X e sg M d) (q : d = d') : EE X e sg M d' := by rw [← q]; exact h
theorem ET.is {e : Expr} {d d' : Bool} (h : ET X e sg M d) (q : d = d') : ET X e sg M d' := by rw [← q]; exact h
theorem ee_v (i : Nat) {x : Str} {d : D} (hs : sg[i]? = some (some d)) (hN : X.N[i]? = some x := by rfl) (hv : Vis X.env.scope x := by first | exact Or.inl rfl | exact Or.inr (Or.inl rfl) | exact Or.inr (Or.inr rfl)) (hd : (x == ("__debug__" : Str)) = false := by decide) (hcd : (x == ("__classdict__" : Str)) = false := by decide) : EE X (.Name x pos) sg M d := we_v i hs ⟨rfl, rfl⟩ hN hv hd hcd
theorem ee_int {i : Int} {j : Nat} : EE X (.Constant (.int i) j pos) sg M (.int i) := we_int ⟨rfl, rfl⟩
theorem ee_bl {i : Bool} {j : Nat} : EE X (.Constant (.bool i) j pos) sg M (.bl i) := we_bl ⟨rfl, rfl⟩
theorem ee_non {j : Nat} : EE X (.Constant .none j pos) sg M .non := we_non ⟨rfl, rfl⟩
theorem ee_str {i : Str} {j : Nat} : EE X (.Constant (.str i) j pos) sg M (.str i) := we_str ⟨rfl, rfl⟩
theorem ee_gi {x : Str} {i : Int} {t : Tok} (hm : X.mg x = some (.int i t)) (hg : Gl X x := by rfl) (hd : (x == ("__debug__" : Str)) = false := by decide) : EE X (.Name x pos) sg M (.int i) := we_gi hm ⟨rfl, rfl⟩ hg hd
section
variable {a b : Expr} {i j : Int}
theorem ee_add (ha : EE X a sg M (.int i)) (hb : EE X b sg M (.int j)) : EE X (.BinOp a .Add b pos) sg M (.int (i + j)) := ee_op op_add ha hb (od_I0 ⟨rfl, rfl⟩)
theorem ee_sub (ha : EE X a sg M (.int i)) (hb : EE X b sg M (.int j)) : EE X (.BinOp a .Sub b pos) sg M (.int (i - j)) := ee_op op_sub ha hb (od_I0 ⟨rfl, rfl⟩)
theorem ee_mul (ha : EE X a sg M (.int i)) (hb : EE X b sg M (.int j)) (h : CMul i j) : EE X (.BinOp a .Mult b pos) sg M (.int (i * j)) := ee_op op_mul ha hb (od_I h ⟨rfl, rfl⟩)
theorem ee_fdiv (ha : EE X a sg M (.int i)) (hb : EE X b sg M (.int j)) (h : CDiv i j) : EE X (.BinOp a .FloorDiv b pos) sg M (.int (i / j)) := ee_op op_fdiv ha hb (od_I h ⟨rfl, rfl⟩)
theorem ee_mod (ha : EE X a sg M (.int i)) (hb : EE X b sg M (.int j)) (h : 0 < j) : EE X (.BinOp a .Mod b pos) sg M (.int (i % j)) := ee_op op_mod ha hb (od_I h ⟨rfl, rfl⟩)
theorem ee_neg (ha : EE X a sg M (.int i)) : EE X (.UnaryOp .USub a pos) sg M (.int (-i)) := WE.of (pe_un un_neg pe_w) fun σ H G w s => (ha σ H G w s).imp fun v H1 ⟨d, G1, M1, st, w1, r1, e, e2⟩ => by
  subst e; subst e2
  cases r1
  exact ⟨i, rfl, _, G1, M1, st, w1, .int _, rfl, rfl⟩
theorem ee_lt (ha : EE X a sg M (.int i)) (hb : EE X b sg M (.int j)) : EE X (.Compare a [.Lt] [b] pos) sg M (.bl (decide (i < j))) := ee_cmp op_lt ha hb (od_B0 ⟨rfl, rfl⟩)
theorem ee_le (ha : EE X a sg M (.int i)) (hb : EE X b sg M (.int j)) : EE X (.Compare a [.LtE] [b] pos) sg M (.bl (decide (i ≤ j))) := ee_cmp op_le ha hb (od_B0 ⟨rfl, rfl⟩)
theorem ee_gt (ha : EE X a sg M (.int i)) (hb : EE X b sg M (.int j)) : EE X (.Compare a [.Gt] [b] pos) sg M (.bl (decide (j < i))) := ee_cmp op_gt ha hb (od_B0 ⟨rfl, rfl⟩)
theorem ee_ge (ha : EE X a sg M (.int i)) (hb : EE X b sg M (.int j)) : EE X (.Compare a [.GtE] [b] pos) sg M (.bl (decide (j ≤ i))) := ee_cmp op_ge ha hb (od_B0 ⟨rfl, rfl⟩)
theorem ee_eqI (ha : EE X a sg M (.int i)) (hb : EE X b sg M (.int j)) : EE X (.Compare a [.Eq] [b] pos) sg M (.bl (decide (i = j))) := ee_cmp op_eq ha hb (od_eqI ⟨rfl, rfl⟩)
theorem ee_neI (ha : EE X a sg M (.int i)) (hb : EE X b sg M (.int j)) : EE X (.Compare a [.NotEq] [b] pos) sg M (.bl (!decide (i = j))) := ee_cmp op_ne ha hb (od_neI ⟨rfl, rfl⟩)
theorem et_lt (ha : EE X a sg M (.int i)) (hb : EE X b sg M (.int j)) : ET X (.Compare a [.Lt] [b] pos) sg M (decide (i < j)) := et_cmp op_lt ha hb (od_B0 ⟨_, rfl, rfl, rfl⟩)
theorem et_le (ha : EE X a sg M (.int i)) (hb : EE X b sg M (.int j)) : ET X (.Compare a [.LtE] [b] pos) sg M (decide (i ≤ j)) := et_cmp op_le ha hb (od_B0 ⟨_, rfl, rfl, rfl⟩)
theorem et_gt (ha : EE X a sg M (.int i)) (hb : EE X b sg M (.int j)) : ET X (.Compare a [.Gt] [b] pos) sg M (decide (j < i)) := et_cmp op_gt ha hb (od_B0 ⟨_, rfl, rfl, rfl⟩)
theorem et_ge (ha : EE X a sg M (.int i)) (hb : EE X b sg M (.int j)) : ET X (.Compare a [.GtE] [b] pos) sg M (decide (j ≤ i)) := et_cmp op_ge ha hb (od_B0 ⟨_, rfl, rfl, rfl⟩)
theorem et_eqI (ha : EE X a sg M (.int i)) (hb : EE X b sg M (.int j)) : ET X (.Compare a [.Eq] [b] pos) sg M (decide (i = j)) := et_cmp op_eq ha hb (od_eqI ⟨_, rfl, rfl, rfl⟩)
theorem et_neI (ha : EE X a sg M (.int i)) (hb : EE X b sg M (.int j)) : ET X (.Compare a [.NotEq] [b] pos) sg M (!decide (i = j)) := et_cmp op_ne ha hb (od_neI ⟨_, rfl, rfl, rfl⟩)
theorem ee_le_le {c : Expr} {l : Int} (ha : EE X a sg M (.int i)) (hb : EE X b sg M (.int j)) (hc : EE X c sg M (.int l)) (hm : lastMarks [.LtE, .LtE] [b, c] = false := by with_unfolding_all rfl) : EE X (.Compare a [.LtE, .LtE] [b, c] pos) sg M (.bl (decide (i ≤ j) && decide (j ≤ l))) := we_chain op_le op_le (tri_I (p := fun i j => decide (i ≤ j)) (p' := fun i j => decide (i ≤ j)) ha hb hc ⟨rfl, rfl⟩) hm
theorem et_le_le {c : Expr} {l : Int} (ha : EE X a sg M (.int i)) (hb : EE X b sg M (.int j)) (hc : EE X c sg M (.int l)) (hm : lastMarks [.LtE, .LtE] [b, c] = false := by with_unfolding_all rfl) : ET X (.Compare a [.LtE, .LtE] [b, c] pos) sg M (decide (i ≤ j) && decide (j ≤ l)) := wt_chain op_le op_le (tri_I (p := fun i j => decide (i ≤ j)) (p' := fun i j => decide (i ≤ j)) ha hb hc ⟨rfl, rfl⟩) hm
/-- isinstance of plain data -/
def isIns (T : String) (d : D) : Bool := (kitB (tyD d) T).getD false
theorem isIns_some {T : String} (h : ([("NoneType"), "bool", "int", "str", "tuple", "list"].all fun a => (kitB a T).isSome) = true) (d : D) : kitB (tyD d) T = some (isIns T d) := by
  unfold isIns
  have q : (kitB (tyD d) T).isSome = true := by
    have h' := List.all_eq_true.mp h
    cases d <;> exact h' _ (by simp [tyD])
  obtain ⟨b, e⟩ := Option.isSome_iff_exists.mp q
  rw [e]
  rfl
theorem k_int : ([("NoneType"), "bool", "int", "str", "tuple", "list"].all fun a => (kitB a "int").isSome) = true := by decide +kernel
theorem k_bool : ([("NoneType"), "bool", "int", "str", "tuple", "list"].all fun a => (kitB a "bool").isSome) = true := by decide +kernel
theorem k_str : ([("NoneType"), "bool", "int", "str", "tuple", "list"].all fun a => (kitB a "str").isSome) = true := by decide +kernel
theorem k_tuple : ([("NoneType"), "bool", "int", "str", "tuple", "list"].all fun a => (kitB a "tuple").isSome) = true := by decide +kernel
theorem k_list : ([("NoneType"), "bool", "int", "str", "tuple", "list"].all fun a => (kitB a "list").isSome) = true := by decide +kernel
def isI : D → Bool
  | .int _ => true
  | .bl _ => true
  | _ => false
def isB : D → Bool
  | .bl _ => true
  | _ => false
def isS : D → Bool
  | .str _ => true
  | _ => false
def isT : D → Bool
  | .tup _ => true
  | _ => false
def isL : D → Bool
  | .lst _ => true
  | .ptr _ => true
  | .scr _ => true
  | _ => false
theorem ins_int (d : D) : isIns "int" d = isI d := by cases d <;> rfl
theorem ins_bool (d : D) : isIns "bool" d = isB d := by cases d <;> rfl
theorem ins_str (d : D) : isIns "str" d = isS d := by cases d <;> rfl
theorem ins_tuple (d : D) : isIns "tuple" d = isT d := by cases d <;> rfl
theorem ins_list (d : D) : isIns "list" d = isL d := by cases d <;> rfl
theorem isI_of {d : D} (h : (isI d && !isB d) = true) : ∃ i, d = .int i := by cases d <;> first | exact ⟨_, rfl⟩ | cases h
theorem isB_of {d : D} (h : isB d = true) : ∃ i, d = .bl i := by cases d <;> first | exact ⟨_, rfl⟩ | cases h
theorem isS_of {d : D} (h : isS d = true) : ∃ i, d = .str i := by cases d <;> first | exact ⟨_, rfl⟩ | cases h
theorem isT_of {d : D} (h : isT d = true) : ∃ ds, d = .tup ds := by cases d <;> first | exact ⟨_, rfl⟩ | cases h
section
variable {e : Expr} {d : D} {p p2 : Pos}
theorem ee_isi {y : Str} {T : String} (hm : X.mg "isinstance" = none) (hmT : X.mg y = none) (hv : bootBuiltins y = some (.type T)) (hk : ([("NoneType"), "bool", "int", "str", "tuple", "list"].all fun a => (kitB a T).isSome) = true) (h : EE X e sg M d) (lk : LkD M d) (hg : Gl X "isinstance" := by rfl) (hgT : Gl X y := by rfl) (hn : y ≠ "__name__" := by decide) (hdb : (y == ("__debug__" : Str)) = false := by decide)
    (hs : starEach [e, .Name y p2] X.env = (false, eval e X.env) :: starEach [.Name y p2] X.env := by exact star1 rfl) (hs2 : starEach [.Name y p2] X.env = (false, eval (.Name y p2) X.env) :: starEach [] X.env := by exact star1 rfl) (hpl : (backTo pos (starEach [.Name y p2] X.env)).any (·.1) = false := by exact starN rfl) : EE X (.Call (.Name "isinstance" p) [e, .Name y p2] [] pos) sg M (.bl (isIns T d)) :=
  we_isi hm hmT hv (h.to ⟨lk, _, isIns_some hk d, rfl, rfl⟩) hg hgT hn hdb hs hs2 hpl
theorem ee_isI (hm : X.mg "isinstance" = none) (hmT : X.mg "int" = none) (h : EE X e sg M d) (lk : LkD M d) (hg : Gl X "isinstance" := by rfl) (hgT : Gl X "int" := by rfl)
    (hs : starEach [e, .Name "int" p2] X.env = (false, eval e X.env) :: starEach [.Name "int" p2] X.env := by exact star1 rfl) (hs2 : starEach [.Name "int" p2] X.env = (false, eval (.Name "int" p2) X.env) :: starEach [] X.env := by exact star1 rfl) (hpl : (backTo pos (starEach [.Name "int" p2] X.env)).any (·.1) = false := by exact starN rfl) : EE X (.Call (.Name "isinstance" p) [e, .Name "int" p2] [] pos) sg M (.bl (isI d)) := by
  rw [← ins_int]
  exact ee_isi hm hmT bi_int k_int h lk hg hgT (by decide) (by decide) hs hs2 hpl
theorem ee_isB (hm : X.mg "isinstance" = none) (hmT : X.mg "bool" = none) (h : EE X e sg M d) (lk : LkD M d) (hg : Gl X "isinstance" := by rfl) (hgT : Gl X "bool" := by rfl)
    (hs : starEach [e, .Name "bool" p2] X.env = (false, eval e X.env) :: starEach [.Name "bool" p2] X.env := by exact star1 rfl) (hs2 : starEach [.Name "bool" p2] X.env = (false, eval (.Name "bool" p2) X.env) :: starEach [] X.env := by exact star1 rfl) (hpl : (backTo pos (starEach [.Name "bool" p2] X.env)).any (·.1) = false := by exact starN rfl) : EE X (.Call (.Name "isinstance" p) [e, .Name "bool" p2] [] pos) sg M (.bl (isB d)) := by
  rw [← ins_bool]
  exact ee_isi hm hmT bi_bool k_bool h lk hg hgT (by decide) (by decide) hs hs2 hpl
theorem ee_isS (hm : X.mg "isinstance" = none) (hmT : X.mg "str" = none) (h : EE X e sg M d) (lk : LkD M d) (hg : Gl X "isinstance" := by rfl) (hgT : Gl X "str" := by rfl)
    (hs : starEach [e, .Name "str" p2] X.env = (false, eval e X.env) :: starEach [.Name "str" p2] X.env := by exact star1 rfl) (hs2 : starEach [.Name "str" p2] X.env = (false, eval (.Name "str" p2) X.env) :: starEach [] X.env := by exact star1 rfl) (hpl : (backTo pos (starEach [.Name "str" p2] X.env)).any (·.1) = false := by exact starN rfl) : EE X (.Call (.Name "isinstance" p) [e, .Name "str" p2] [] pos) sg M (.bl (isS d)) := by
  rw [← ins_str]
  exact ee_isi hm hmT bi_str k_str h lk hg hgT (by decide) (by decide) hs hs2 hpl
theorem ee_isT (hm : X.mg "isinstance" = none) (hmT : X.mg "tuple" = none) (h : EE X e sg M d) (lk : LkD M d) (hg : Gl X "isinstance" := by rfl) (hgT : Gl X "tuple" := by rfl)
    (hs : starEach [e, .Name "tuple" p2] X.env = (false, eval e X.env) :: starEach [.Name "tuple" p2] X.env := by exact star1 rfl) (hs2 : starEach [.Name "tuple" p2] X.env = (false, eval (.Name "tuple" p2) X.env) :: starEach [] X.env := by exact star1 rfl) (hpl : (backTo pos (starEach [.Name "tuple" p2] X.env)).any (·.1) = false := by exact starN rfl) : EE X (.Call (.Name "isinstance" p) [e, .Name "tuple" p2] [] pos) sg M (.bl (isT d)) := by
  rw [← ins_tuple]
  exact ee_isi hm hmT bi_tuple k_tuple h lk hg hgT (by decide) (by decide) hs hs2 hpl
theorem ee_isL (hm : X.mg "isinstance" = none) (hmT : X.mg "list" = none) (h : EE X e sg M d) (lk : LkD M d) (hg : Gl X "isinstance" := by rfl) (hgT : Gl X "list" := by rfl)
    (hs : starEach [e, .Name "list" p2] X.env = (false, eval e X.env) :: starEach [.Name "list" p2] X.env := by exact star1 rfl) (hs2 : starEach [.Name "list" p2] X.env = (false, eval (.Name "list" p2) X.env) :: starEach [] X.env := by exact star1 rfl) (hpl : (backTo pos (starEach [.Name "list" p2] X.env)).any (·.1) = false := by exact starN rfl) : EE X (.Call (.Name "isinstance" p) [e, .Name "list" p2] [] pos) sg M (.bl (isL d)) := by
  rw [← ins_list]
  exact ee_isi hm hmT bi_list k_list h lk hg hgT (by decide) (by decide) hs hs2 hpl
end
/-! calls of built-ins on one datum -/
section
variable {e : Expr} {d : D} {p : Pos} {ds : List D}
theorem ee_cb {id : String} {r : List V → Hp → VK → Prop} {x : Str} {es : List Expr} (hc : CallR X (.builtin id) r) (hm : X.mg x = none) (hv : bootBuiltins x = some (.builtin id)) (h : EA X (e :: es) sg M ds) (hcl : ClD X.K r ds M Q) (hg : Gl X x := by rfl) (hn : x ≠ "__name__" := by decide) (hdb : (x == ("__debug__" : Str)) = false := by decide)
    (he : starEach (e :: es) X.env = (false, eval e X.env) :: starEach es X.env := by exact star1 rfl) (hpl : (backTo pos (starEach es X.env)).any (·.1) = false := by exact starN rfl) : WE X (.Call (.Name x p) (e :: es) [] pos) sg M Q := we_cb hc hm hv (h.to hcl) hg hn hdb he hpl
theorem ee_ct {T : String} {r : List V → Hp → VK → Prop} {x : Str} {es : List Expr} (hc : CallR X (.type T) r) (hm : X.mg x = none) (hv : bootBuiltins x = some (.type T)) (h : EA X (e :: es) sg M ds) (hcl : ClD X.K r ds M Q) (hg : Gl X x := by rfl) (hn : x ≠ "__name__" := by decide) (hdb : (x == ("__debug__" : Str)) = false := by decide)
    (he : starEach (e :: es) X.env = (false, eval e X.env) :: starEach es X.env := by exact star1 rfl) (hpl : (backTo pos (starEach es X.env)).any (·.1) = false := by exact starN rfl) : WE X (.Call (.Name x p) (e :: es) [] pos) sg M Q := we_ct hc hm hv (h.to hcl) hg hn hdb he hpl
end
end
end
/-- the names of built-ins that the top leaves alone -/
structure Blt (mg : Str → Option Value) : Prop where
  isinstance : mg "isinstance" = none
  int : mg "int" = none
  bool : mg "bool" = none
  str : mg "str" = none
  tuple : mg "tuple" = none
  list : mg "list" = none
  len : mg "len" = none
  all : mg "all" = none
  any : mg "any" = none
  sum : mg "sum" = none
  max : mg "max" = none
  min : mg "min" = none
  sorted : mg "sorted" = none
  range : mg "range" = none
  enumerate : mg "enumerate" = none
  zip : mg "zip" = none
end DL
namespace DL
open PySem L2 PyProof.Rows HT
/-- the def x of the text stands behind the top -/
def Df (K : PySem.W.Frag) (mg : Str → Option Value) (x : Str) (st : Stmt) (ps : List Str) : Prop := ∃ f fd, Fun K x x st f fd ∧ mg x = some (.ref f) ∧ Binds K fd ps []
theorem dfn' {P : Program} {w : World} {K : PySem.W.Frag} {mg : Str → Option Value} {base : Heap} {x : Str} {st : Stmt} {N ps : List Str} {k n : Nat} {S : SpD} (F : Df K mg x st ps) (sc : FnScope N ps (defScope st)) (hn : ps.length = n)
    (body : ∀ (f : Addr) (cdv : Value) (A : Around) (outer : List Env) (s : Shared) (H : Hp) (E : XK) (ds : List D) (M : Mem) (Q : D → Mem → Prop), Room k (A.deeper (envOfC x (defScope st) s.heap.objs.size f cdv)) → ds.length = n → S ds M Q →
      WSs (cxOf CX0 P w K mg base N x (defScope st) f cdv A outer s H E).nox (defBody st) (startD N ds) M { nx := fun _ M' => Q .non M', rt := Q }) : Cal P w K mg base (k + 1) x n S := by
  obtain ⟨f, fd, F, hm, hb⟩ := F
  exact dfn F sc hn hm hb (body f)
end DL
set_option Elab.async false
set_option linter.all false
set_option maxRecDepth 100000
set_option maxHeartbeats 4000000
/-! DLi: comprehensions in short. -/
namespace DL
open PySem L2 PyProof.Rows HT
section
variable {X : Cx} {sg : Sg} {M : Mem} {E : EndsD} {Q : D → Mem → Prop} {pos : Pos} {K : PySem.W.Frag}
abbrev ItQ (ds : List D) (M : Mem) : List D → (Mem → Prop) → Mem → Prop := fun ds' C M0 => ds' = ds ∧ M0 = M ∧ C M
section
variable {elt iter : Expr} {scope : Scope} {x y : Str} {px py pt : Pos} {kt : Nat} {ds : List D}
theorem blk_kind {C : Addr} {cl : List (Str × Addr)} {k : NameKind} {x : Str} {scope : Scope} (hk : k ≠ .free) (h : scope.names.lookup x = some k) : (compEnvC scope cl C X.env).scope.names.lookup x = some k := lookup_relS_keep (sc := X.env.scope) hk h
theorem blk_name (i : Nat) {vs : List Nat} {sg1 : Sg} {d : D} (hN : X.N.Nodup) (hx : scope.names.lookup x = some .local ∨ scope.names.lookup x = some .cell) (hi : X.N[i]? = some x) : Blk X scope fun Y => WG Y (.Name x px) [i] d sg1 (sg1.set i (some d)) := fun s H C cl fp => by
  rcases hx with h | h
  · exact wg_name i hN hi (.inl (blk_kind (by decide) h)) (.inr (blk_kind (by decide) h))
  · refine wg_name i hN hi (.inr (blk_kind (by decide) h)) (.inl ?_)
    show (scope.names.lookup x == some .cell) = true
    rw [h]
    rfl
/-- a turn whose target is one name -/
theorem turn1 (i : Nat) {ifs : List Expr} {vs : List Nat} {d : D} {M1 : Mem} {QT : D → Mem → Prop} {QF : Mem → Prop} (hv : i ∈ vs) (hN : X.N.Nodup) (hx : scope.names.lookup x = some .local ∨ scope.names.lookup x = some .cell) (hi : X.N[i]? = some x)
    (QB : Bool → Mem → Prop) (ht : Blk X scope fun Y => WTs Y ifs ((wipeD sg vs).set i (some d)) M1 QB) (he : ∀ M2, QB true M2 → Blk X scope fun Y => WE Y elt ((wipeD sg vs).set i (some d)) M2 QT) (hf : ∀ M2, QB false M2 → QF M2) : LcTurn X scope vs (.Name x px) elt ifs sg d M1 QT QF :=
  ⟨[i], _, fun j hj => by rw [List.mem_singleton.mp hj]; exact hv, blk_name (vs := vs) i hN hx hi, QB, ht, he, hf⟩
/-- .. two names -/
theorem turn2 (i j : Nat) {ifs : List Expr} {vs : List Nat} {a b : D} {M1 : Mem} {QT : D → Mem → Prop} {QF : Mem → Prop} (hv : i ∈ vs) (hw : j ∈ vs) (hc : X.calm = true) (hN : X.N.Nodup) (hx : scope.names.lookup x = some .local ∨ scope.names.lookup x = some .cell) (hi : X.N[i]? = some x) (hy : scope.names.lookup y = some .local ∨ scope.names.lookup y = some .cell) (hj : X.N[j]? = some y)
    (QB : Bool → Mem → Prop) (ht : Blk X scope fun Y => WTs Y ifs (((wipeD sg vs).set i (some a)).set j (some b)) M1 QB) (he : ∀ M2, QB true M2 → Blk X scope fun Y => WE Y elt (((wipeD sg vs).set i (some a)).set j (some b)) M2 QT) (hf : ∀ M2, QB false M2 → QF M2) : LcTurn X scope vs (.Tuple [.Name x px, .Name y py] kt pt) elt ifs sg (.tup [a, b]) M1 QT QF := by
  refine ⟨[i] ++ ([j] ++ []), ((wipeD sg vs).set i (some a)).set j (some b), fun l hl => ?_, fun s H C cl fp => wg_tup hc (wgs_cons (blk_name (vs := vs) i hN hx hi s H C cl fp) (wgs_cons (blk_name (vs := vs) j hN hy hj s H C cl fp) wgs_nil)), QB, ht, he, hf⟩
  rcases List.mem_append.mp hl with h | h
  · rw [List.mem_singleton.mp h]; exact hv
  · rcases List.mem_append.mp h with h | h
    · rw [List.mem_singleton.mp h]; exact hw
    · cases h
/-- [elt for x in iter], nothing changing -/
theorem ok_lc1 (i : Nat) (f : D → D) (hc : X.calm = true) (hN : X.N.Nodup) (hz : ds.length < sizeLine) (h : ∀ (j : Nat) (d : D), ds[j]? = some d → Blk X scope fun Y => EE Y elt ((wipeD sg [i]).set i (some d)) M (f d))
    (ok : BlkOk X.N X.env.scope scope [(x, i)] := by exact blkOk_by (by with_unfolding_all rfl)) (hx : scope.names.lookup x = some .local ∨ scope.names.lookup x = some .cell := by first | exact Or.inl rfl | exact Or.inr rfl) : LcOk X scope [i] (.Name x px) elt [] sg (ItQ ds M) fun x M' => x = (.lst (ds.map f)) ∧ M' = M :=
  fun ds' C M0 ⟨e1, e2, hC⟩ => by
    subst e1; subst e2
    refine ⟨fun j acc M1 => j ≤ ds'.length ∧ acc = (ds'.take j).map f ∧ M1 = M0, ⟨Nat.zero_le _, rfl, rfl⟩, fun j acc M1 ⟨hj, e1, e2⟩ => ?_, fun j d acc M1 hd ⟨hj, e1, e2⟩ => ?_, fun acc M1 ⟨_, e1, e2⟩ => ?_⟩
    · subst e1; subst e2
      refine ⟨hC, ?_⟩
      rw [List.length_map, List.length_take]
      omega
    · subst e1; subst e2
      refine turn1 i (List.mem_singleton.mpr rfl) hN hx (ok.ix _ (List.mem_singleton.mpr rfl)) (fun b M2 => b = true ∧ M2 = M1) (fun _ _ _ _ _ => ⟨rfl, rfl⟩) (fun M2 ⟨_, e⟩ => ?_) (fun M2 ⟨e, _⟩ => Bool.noConfusion e)
      subst e
      exact fun s H C cl fp => (h j d hd s H C cl fp).imp fun z M3 ⟨e3, e4⟩ => ⟨(List.getElem?_eq_some_iff.mp hd).1, by rw [e3, List.take_add_one, hd, List.map_append]; rfl, e4⟩
    · rw [List.take_length] at e1
      subst e1
      exact ⟨rfl, e2⟩
theorem ee_lc1 (i : Nat) (f : D → D) (hc : X.calm = true) (hN : X.N.Nodup) (hi : WI X (.Name x px) iter sg M (ItQ ds M)) (hz : ds.length < sizeLine) (h : ∀ (j : Nat) (d : D), ds[j]? = some d → Blk X scope fun Y => EE Y elt ((wipeD sg [i]).set i (some d)) M (f d))
    (ok : BlkOk X.N X.env.scope scope [(x, i)] := by exact blkOk_by (by with_unfolding_all rfl)) (hx : scope.names.lookup x = some .local ∨ scope.names.lookup x = some .cell := by first | exact Or.inl rfl | exact Or.inr rfl) (hs : ∀ x, foldedSetIterable iter X.env x = pure x := by intro _; rfl) : EE X (.ListComp elt [⟨.Name x px, iter, [], 0⟩] scope pos) sg M (.lst (ds.map f)) :=
  we_lc [(x, i)] hc hN ok hi (ok_lc1 i f hc hN hz h ok hx) (Nat.zero_le _) hs
/-- [elt for x in iter if c] -/
theorem ok_lc1if {c : Expr} (i : Nat) (p : D → Bool) (f : D → D) (hc : X.calm = true) (hN : X.N.Nodup) (hz : ds.length < sizeLine) (ht : ∀ (j : Nat) (d : D), ds[j]? = some d → Blk X scope fun Y => ET Y c ((wipeD sg [i]).set i (some d)) M (p d)) (h : ∀ (j : Nat) (d : D), ds[j]? = some d → p d = true → Blk X scope fun Y => EE Y elt ((wipeD sg [i]).set i (some d)) M (f d))
    (ok : BlkOk X.N X.env.scope scope [(x, i)] := by exact blkOk_by (by with_unfolding_all rfl)) (hx : scope.names.lookup x = some .local ∨ scope.names.lookup x = some .cell := by first | exact Or.inl rfl | exact Or.inr rfl) : LcOk X scope [i] (.Name x px) elt [c] sg (ItQ ds M) fun x M' => x = (.lst ((ds.filter p).map f)) ∧ M' = M :=
  fun ds' C M0 ⟨e1, e2, hC⟩ => by
    subst e1; subst e2
    refine ⟨fun j acc M1 => j ≤ ds'.length ∧ acc = ((ds'.take j).filter p).map f ∧ M1 = M0, ⟨Nat.zero_le _, rfl, rfl⟩, fun j acc M1 ⟨hj, e1, e2⟩ => ?_, fun j d acc M1 hd ⟨hj, e1, e2⟩ => ?_, fun acc M1 ⟨_, e1, e2⟩ => ?_⟩
    · subst e1; subst e2
      refine ⟨hC, ?_⟩
      rw [List.length_map]
      have a1 := List.length_filter_le p (ds'.take j)
      rw [List.length_take] at a1
      omega
    · subst e1; subst e2
      have hlt := (List.getElem?_eq_some_iff.mp hd).1
      have tk : ds'.take (j + 1) = ds'.take j ++ [d] := by rw [List.take_add_one, hd]; rfl
      refine turn1 i (List.mem_singleton.mpr rfl) hN hx (ok.ix _ (List.mem_singleton.mpr rfl)) (fun b M2 => b = p d ∧ M2 = M1) (ht j d hd) (fun M2 ⟨e3, e⟩ => ?_) (fun M2 ⟨e3, e⟩ => ⟨hlt, ?_, e⟩)
      · subst e
        refine fun s H C cl fp => (h j d hd e3.symm s H C cl fp).imp fun z M3 ⟨e5, e4⟩ => ⟨hlt, ?_, e4⟩
        rw [e5, tk, List.filter_append, List.map_append, List.filter_cons_of_pos e3.symm]
        rfl
      · rw [tk, List.filter_append, List.filter_cons_of_neg (by rw [← e3]; exact Bool.false_ne_true), List.filter_nil, List.append_nil]
    · rw [List.take_length] at e1
      subst e1
      exact ⟨rfl, e2⟩
theorem ee_lc1if {c : Expr} (i : Nat) (p : D → Bool) (f : D → D) (hc : X.calm = true) (hN : X.N.Nodup) (hi : WI X (.Name x px) iter sg M (ItQ ds M)) (hz : ds.length < sizeLine) (ht : ∀ (j : Nat) (d : D), ds[j]? = some d → Blk X scope fun Y => ET Y c ((wipeD sg [i]).set i (some d)) M (p d)) (h : ∀ (j : Nat) (d : D), ds[j]? = some d → p d = true → Blk X scope fun Y => EE Y elt ((wipeD sg [i]).set i (some d)) M (f d))
    (ok : BlkOk X.N X.env.scope scope [(x, i)] := by exact blkOk_by (by with_unfolding_all rfl)) (hx : scope.names.lookup x = some .local ∨ scope.names.lookup x = some .cell := by first | exact Or.inl rfl | exact Or.inr rfl) (hs : ∀ x, foldedSetIterable iter X.env x = pure x := by intro _; rfl) : EE X (.ListComp elt [⟨.Name x px, iter, [c], 0⟩] scope pos) sg M (.lst ((ds.filter p).map f)) :=
  we_lc [(x, i)] hc hN ok hi (ok_lc1if i p f hc hN hz ht h ok hx) (Nat.le_refl _) hs
def fstD : D → D
  | .tup (a :: _) => a
  | _ => .non
def sndD : D → D
  | .tup (_ :: b :: _) => b
  | _ => .non
/-- [elt for x, y in iter] -/
theorem ok_lc2 (i j : Nat) (f : D → D → D) (hc : X.calm = true) (hN : X.N.Nodup) (hz : ds.length < sizeLine) (h : ∀ (l : Nat) (d : D), ds[l]? = some d → ∃ a b, d = .tup [a, b] ∧ Blk X scope fun Y => EE Y elt (((wipeD sg [i, j]).set i (some a)).set j (some b)) M (f a b))
    (ok : BlkOk X.N X.env.scope scope [(x, i), (y, j)] := by exact blkOk_by (by with_unfolding_all rfl)) (hx : scope.names.lookup x = some .local ∨ scope.names.lookup x = some .cell := by first | exact Or.inl rfl | exact Or.inr rfl) (hy : scope.names.lookup y = some .local ∨ scope.names.lookup y = some .cell := by first | exact Or.inl rfl | exact Or.inr rfl) : LcOk X scope [i, j] (.Tuple [.Name x px, .Name y py] kt pt) elt [] sg (ItQ ds M) fun x M' => x = (.lst (ds.map fun d => f (fstD d) (sndD d))) ∧ M' = M :=
  fun ds' C M0 ⟨e1, e2, hC⟩ => by
    subst e1; subst e2
    refine ⟨fun l acc M1 => l ≤ ds'.length ∧ acc = (ds'.take l).map (fun d => f (fstD d) (sndD d)) ∧ M1 = M0, ⟨Nat.zero_le _, rfl, rfl⟩, fun l acc M1 ⟨hj, e1, e2⟩ => ?_, fun l d acc M1 hd ⟨hj, e1, e2⟩ => ?_, fun acc M1 ⟨_, e1, e2⟩ => ?_⟩
    · subst e1; subst e2
      refine ⟨hC, ?_⟩
      rw [List.length_map, List.length_take]
      omega
    · subst e1; subst e2
      obtain ⟨a, b, ed, hb⟩ := h l d hd
      subst ed
      refine turn2 i j (by simp) (by simp) hc hN hx (ok.ix (x, i) (by simp)) hy (ok.ix (y, j) (by simp)) (fun b M2 => b = true ∧ M2 = M1) (fun _ _ _ _ _ => ⟨rfl, rfl⟩) (fun M2 ⟨_, e⟩ => ?_) (fun M2 ⟨e, _⟩ => Bool.noConfusion e)
      subst e
      exact fun s H C cl fp => (hb s H C cl fp).imp fun z M3 ⟨e3, e4⟩ => ⟨(List.getElem?_eq_some_iff.mp hd).1, by rw [e3, List.take_add_one, hd, List.map_append]; rfl, e4⟩
    · rw [List.take_length] at e1
      subst e1
      exact ⟨rfl, e2⟩
theorem ee_lc2 (i j : Nat) (f : D → D → D) (hc : X.calm = true) (hN : X.N.Nodup) (hi : WI X (.Tuple [.Name x px, .Name y py] kt pt) iter sg M (ItQ ds M)) (hz : ds.length < sizeLine) (h : ∀ (l : Nat) (d : D), ds[l]? = some d → ∃ a b, d = .tup [a, b] ∧ Blk X scope fun Y => EE Y elt (((wipeD sg [i, j]).set i (some a)).set j (some b)) M (f a b))
    (ok : BlkOk X.N X.env.scope scope [(x, i), (y, j)] := by exact blkOk_by (by with_unfolding_all rfl)) (hx : scope.names.lookup x = some .local ∨ scope.names.lookup x = some .cell := by first | exact Or.inl rfl | exact Or.inr rfl) (hy : scope.names.lookup y = some .local ∨ scope.names.lookup y = some .cell := by first | exact Or.inl rfl | exact Or.inr rfl) (hs : ∀ x, foldedSetIterable iter X.env x = pure x := by intro _; rfl) : EE X (.ListComp elt [⟨.Tuple [.Name x px, .Name y py] kt pt, iter, [], 0⟩] scope pos) sg M (.lst (ds.map fun d => f (fstD d) (sndD d))) :=
  we_lc [(x, i), (y, j)] hc hN ok hi (ok_lc2 i j f hc hN hz h ok hx hy) (Nat.zero_le _) hs
/-- [elt for x, y in iter if c] -/
theorem ok_lc2if {c : Expr} (i j : Nat) (p : D → D → Bool) (f : D → D → D) (hc : X.calm = true) (hN : X.N.Nodup) (hz : ds.length < sizeLine) (h : ∀ (l : Nat) (d : D), ds[l]? = some d → ∃ a b, d = .tup [a, b] ∧ (Blk X scope fun Y => ET Y c (((wipeD sg [i, j]).set i (some a)).set j (some b)) M (p a b)) ∧ (p a b = true → Blk X scope fun Y => EE Y elt (((wipeD sg [i, j]).set i (some a)).set j (some b)) M (f a b)))
    (ok : BlkOk X.N X.env.scope scope [(x, i), (y, j)] := by exact blkOk_by (by with_unfolding_all rfl)) (hx : scope.names.lookup x = some .local ∨ scope.names.lookup x = some .cell := by first | exact Or.inl rfl | exact Or.inr rfl) (hy : scope.names.lookup y = some .local ∨ scope.names.lookup y = some .cell := by first | exact Or.inl rfl | exact Or.inr rfl) : LcOk X scope [i, j] (.Tuple [.Name x px, .Name y py] kt pt) elt [c] sg (ItQ ds M) fun x M' => x = (.lst ((ds.filter fun d => p (fstD d) (sndD d)).map fun d => f (fstD d) (sndD d))) ∧ M' = M :=
  fun ds' C M0 ⟨e1, e2, hC⟩ => by
    subst e1; subst e2
    refine ⟨fun l acc M1 => l ≤ ds'.length ∧ acc = ((ds'.take l).filter fun d => p (fstD d) (sndD d)).map (fun d => f (fstD d) (sndD d)) ∧ M1 = M0, ⟨Nat.zero_le _, rfl, rfl⟩, fun l acc M1 ⟨hj, e1, e2⟩ => ?_, fun l d acc M1 hd ⟨hj, e1, e2⟩ => ?_, fun acc M1 ⟨_, e1, e2⟩ => ?_⟩
    · subst e1; subst e2
      refine ⟨hC, ?_⟩
      rw [List.length_map]
      have a1 := List.length_filter_le (fun d => p (fstD d) (sndD d)) (ds'.take l)
      rw [List.length_take] at a1
      omega
    · subst e1; subst e2
      obtain ⟨a, b, ed, ht, hb⟩ := h l d hd
      subst ed
      have hlt := (List.getElem?_eq_some_iff.mp hd).1
      have tk : ds'.take (l + 1) = ds'.take l ++ [D.tup [a, b]] := by rw [List.take_add_one, hd]; rfl
      refine turn2 i j (by simp) (by simp) hc hN hx (ok.ix (x, i) (by simp)) hy (ok.ix (y, j) (by simp)) (fun k M2 => k = p a b ∧ M2 = M1) ht (fun M2 ⟨e3, e⟩ => ?_) (fun M2 ⟨e3, e⟩ => ⟨hlt, ?_, e⟩)
      · subst e
        refine fun s H C cl fp => (hb e3.symm s H C cl fp).imp fun z M3 ⟨e5, e4⟩ => ⟨hlt, ?_, e4⟩
        have e6 : (fun d => p (fstD d) (sndD d)) (.tup [a, b]) = true := e3.symm
        rw [e5, tk, List.filter_append, List.map_append, List.filter_cons_of_pos (p := fun d => p (fstD d) (sndD d)) e6]
        rfl
      · have e6 : ¬ (fun d => p (fstD d) (sndD d)) (.tup [a, b]) = true := by
          show ¬ p a b = true
          rw [← e3]
          exact Bool.false_ne_true
        rw [tk, List.filter_append, List.filter_cons_of_neg (p := fun d => p (fstD d) (sndD d)) e6, List.filter_nil, List.append_nil]
    · rw [List.take_length] at e1
      subst e1
      exact ⟨rfl, e2⟩
theorem ee_lc2if {c : Expr} (i j : Nat) (p : D → D → Bool) (f : D → D → D) (hc : X.calm = true) (hN : X.N.Nodup) (hi : WI X (.Tuple [.Name x px, .Name y py] kt pt) iter sg M (ItQ ds M)) (hz : ds.length < sizeLine) (h : ∀ (l : Nat) (d : D), ds[l]? = some d → ∃ a b, d = .tup [a, b] ∧ (Blk X scope fun Y => ET Y c (((wipeD sg [i, j]).set i (some a)).set j (some b)) M (p a b)) ∧ (p a b = true → Blk X scope fun Y => EE Y elt (((wipeD sg [i, j]).set i (some a)).set j (some b)) M (f a b)))
    (ok : BlkOk X.N X.env.scope scope [(x, i), (y, j)] := by exact blkOk_by (by with_unfolding_all rfl)) (hx : scope.names.lookup x = some .local ∨ scope.names.lookup x = some .cell := by first | exact Or.inl rfl | exact Or.inr rfl) (hy : scope.names.lookup y = some .local ∨ scope.names.lookup y = some .cell := by first | exact Or.inl rfl | exact Or.inr rfl) (hs : ∀ x, foldedSetIterable iter X.env x = pure x := by intro _; rfl) : EE X (.ListComp elt [⟨.Tuple [.Name x px, .Name y py] kt pt, iter, [c], 0⟩] scope pos) sg M (.lst ((ds.filter fun d => p (fstD d) (sndD d)).map fun d => f (fstD d) (sndD d))) :=
  we_lc [(x, i), (y, j)] hc hN ok hi (ok_lc2if i j p f hc hN hz h ok hx hy) (Nat.le_refl _) hs
end
theorem LcOk.imp {scope : Scope} {vs : List Nat} {tg elt : Expr} {ifs : List Expr} {Qi : List D → (Mem → Prop) → Mem → Prop} {Q' : D → Mem → Prop} (h : LcOk X scope vs tg elt ifs sg Qi Q) (k : ∀ d M', Q d M' → Q' d M') : LcOk X scope vs tg elt ifs sg Qi Q' := fun ds C M0 q => let ⟨Pv, a, b, c, d⟩ := h ds C M0 q; ⟨Pv, a, b, c, fun acc M1 z => k _ _ (d acc M1 z)⟩
theorem LcOk.to {scope : Scope} {vs : List Nat} {tg elt : Expr} {ifs : List Expr} {Qi : List D → (Mem → Prop) → Mem → Prop} {d : D} (h : LcOk X scope vs tg elt ifs sg Qi fun x M' => x = d ∧ M' = M) (q : Q d M) : LcOk X scope vs tg elt ifs sg Qi Q := h.imp fun x M' ⟨e1, e2⟩ => by subst e1; subst e2; exact q
/-- an expression assigned to a name by a comprehension on one line: the rule for the plain one serves, where it changes nothing -/
theorem ws_setLcE (i : Nat) {y : Str} {py : Pos} {iter elt tg : Expr} {ifs : List Expr} {scope : Scope} {spos : Pos} (own : List (Str × Nat)) {Qi : List D → (Mem → Prop) → Mem → Prop} (hc : X.calm = true) (hN : X.N.Nodup) (hi : WI X tg iter sg M Qi) (h : LcOk X scope (own.map (·.2)) tg elt ifs sg Qi fun d M1 => E.nx (sg.set i (some d)) M1)
    (ok : BlkOk X.N X.env.scope scope own := by exact blkOk_by (by with_unfolding_all rfl)) (hif : ifs.length ≤ 1 := by decide) (hy : X.N[i]? = some y := by rfl) (hyl : X.env.scope.names.lookup y = some .local := by rfl) (hsw : swapsWith (.ListComp elt [⟨tg, iter, ifs, 0⟩] scope pos) (some (.Name y py)) spos.line X.env = pure true := by exact sw_true rfl rfl rfl (by decide +kernel)) (hs : ∀ x, foldedSetIterable iter X.env x = pure x := by intro _; rfl) : WS X (.Assign [.Name y py] (.ListComp elt [⟨tg, iter, ifs, 0⟩] scope pos) spos) sg M E := ws_setLc i own hc hN ok hi h hif hy hyl hsw hs
end
end DL
set_option Elab.async false
set_option linter.all false
set_option maxRecDepth 100000
set_option maxHeartbeats 4000000
/-! DLj: what the first law had of its own and every law can use. -/
namespace DL
open PySem L2 PyProof.Rows HT
def isW (d : D) : Bool := isI d && !isB d
theorem pl_lk {x : D} (M : Mem) (h : pl x = true) : LkD M x := by cases x <;> first | exact trivial | cases h
theorem plA_at : ∀ {ds : List D} {i : Nat} {d : D}, plA ds = true → ds[i]? = some d → pl d = true
  | [], i, _, _, h => by simp at h
  | d :: ds, 0, _, h, e => by
    simp at e
    subst e
    exact (Bool.and_eq_true_iff.mp h).1
  | d :: ds, i + 1, _, h, e => plA_at (Bool.and_eq_true_iff.mp h).2 (by simpa using e)
def itemsD : D → List D
  | .tup ds => ds
  | _ => []
def intOf : D → Int
  | .int i => i
  | _ => 0
def Ok (x : D) : Prop := pl x = true ∧ (itemsD x).length < 1000
theorem enumD_at {ds : List D} {i : Nat} {d : D} (hd : (enumD ds)[i]? = some d) : ∃ c, ds[i]? = some c ∧ d = .tup [.int (i : Int), c] := by
  unfold enumD at hd
  rw [List.getElem?_mapIdx] at hd
  cases e : ds[i]? with
  | none => rw [e] at hd; cases hd
  | some c => rw [e] at hd; exact ⟨c, rfl, (Option.some.inj hd).symm⟩
theorem mapIdx_map {α β γ : Type} (f : Nat → α → β) (g : β → γ) (l : List α) : (l.mapIdx f).map g = l.mapIdx fun i a => g (f i a) := by
  apply List.ext_getElem?
  intro i
  rw [List.getElem?_map, List.getElem?_mapIdx, List.getElem?_mapIdx, Option.map_map]
  rfl
theorem lt1000 {n : Nat} (h : n < 1000) : n < sizeLine := Nat.lt_of_lt_of_le h (by decide)
theorem getD_at {α : Type} {l : List α} {i : Nat} {d : α} (h : i < l.length) : l.getD i d = l[i] := by simp [List.getD, h]
abbrev tI (ps : List Int) : D := .tup (ps.map .int)
theorem enumD_ints (ps : List Int) : enumD (ps.map D.int) = ps.zipIdx.map fun q => .tup [.int (q.2 : Int), .int q.1] := by
  unfold enumD
  apply List.ext_getElem?
  intro i
  rw [List.getElem?_mapIdx, List.getElem?_map, List.getElem?_map, List.getElem?_zipIdx, Option.map_map, Option.map_map]
  simp only [Nat.zero_add]
  rfl
theorem atI_ints {ps : List Int} {i : Int} (h0 : 0 ≤ i) (h1 : i < ps.length) : atI (ps.map D.int) i = some (.int (ps.getD i.toNat 0)) := by
  have e : i = ((i.toNat : Nat) : Int) := by omega
  have hl : i.toNat < ps.length := by omega
  rw [e]
  refine atI_nat ?_
  rw [List.getElem?_map, List.getElem?_eq_getElem hl, getD_at (by omega)]
  rfl
theorem cut_to {α : Type} {xs : List α} {k : Int} (h0 : 0 ≤ k) (h1 : k ≤ xs.length) : DL.cutD xs none (some k) = xs.take k.toNat := by
  unfold DL.cutD
  have e : k = ((k.toNat : Nat) : Int) := by omega
  rw [e, HT.sIx_nat, HT.sIx_none, List.drop_zero, Nat.sub_zero, ← e, Nat.min_eq_left (by omega)]
theorem cut_from {α : Type} {xs : List α} {k : Int} (h0 : 0 ≤ k) (h1 : k ≤ xs.length) : DL.cutD xs (some k) none = xs.drop k.toNat := by
  unfold DL.cutD
  have e : k = ((k.toNat : Nat) : Int) := by omega
  rw [e, HT.sIx_nat, HT.sIx_none, ← e, Nat.min_eq_left (by omega), ← List.length_drop, List.take_length]
theorem at_map {α β : Type} {f : α → β} {l : List α} {i : Nat} {d : β} (h : (l.map f)[i]? = some d) : ∃ a, l[i]? = some a ∧ d = f a := by
  rw [List.getElem?_map] at h
  cases e : l[i]? with
  | none => rw [e] at h; cases h
  | some a => rw [e] at h; exact ⟨a, rfl, (Option.some.inj h).symm⟩
theorem dec_not (p : Prop) [Decidable p] : (!decide p) = decide (¬ p) := by by_cases h : p <;> simp [h]
theorem Mem.ext {M M' : Mem} (h : M.f = M'.f) (h' : M.b = M'.b) : M = M' := by
  cases M; cases M'
  cases h; cases h'
  rfl
theorem updM_upd {M : Mem} {p : Addr} {a b : Option MO} : updM (updM M p a) p b = updM M p b := by
  refine Mem.ext ?_ rfl
  funext q
  show (if q = p then b else if q = p then a else M.f q) = if q = p then b else M.f q
  split <;> rfl
theorem updM_id {M : Mem} {p : Addr} {a : Option MO} (h : M p = a) : updM M p a = M := by
  refine Mem.ext ?_ rfl
  funext q
  show (if q = p then a else M.f q) = M.f q
  split
  · rename_i e; rw [e, ← h]
  · rfl
def wf (L : Nat) : Nat → D → Bool
  | 0, _ => false
  | n + 1, .tup ds => decide (ds.length ≤ L) && ds.all (wf L n)
  | n + 1, .lst ds => decide (ds.length ≤ L) && ds.all (wf L n)
  | _ + 1, .ptr _ => false
  | _ + 1, .scr _ => false
  | _ + 1, _ => true
theorem plA_all : ∀ {ds : List D}, (∀ d ∈ ds, pl d = true) → plA ds = true
  | [], _ => rfl
  | d :: ds, h => Bool.and_eq_true_iff.mpr ⟨h d List.mem_cons_self, plA_all fun x hx => h x (List.mem_cons_of_mem _ hx)⟩
theorem wf_pl {L : Nat} : ∀ {n : Nat} {d : D}, wf L n d = true → pl d = true
  | 0, _, h => by cases h
  | n + 1, .tup ds, h => plA_all fun d hd => wf_pl (List.all_eq_true.mp (Bool.and_eq_true_iff.mp h).2 d hd)
  | n + 1, .lst ds, h => plA_all fun d hd => wf_pl (List.all_eq_true.mp (Bool.and_eq_true_iff.mp h).2 d hd)
  | n + 1, .ptr _, h => by cases h
  | n + 1, .scr _, h => by cases h
  | n + 1, .non, _ => rfl
  | n + 1, .bl _, _ => rfl
  | n + 1, .int _, _ => rfl
  | n + 1, .str _, _ => rfl
theorem wf_mono {L L' : Nat} (hL : L ≤ L') : ∀ {n m : Nat} {d : D}, n ≤ m → wf L n d = true → wf L' m d = true
  | 0, _, _, _, h => by cases h
  | n + 1, 0, _, hm, _ => absurd hm (by omega)
  | n + 1, m + 1, .tup ds, hm, h => by
    have q := Bool.and_eq_true_iff.mp h
    have q1 := of_decide_eq_true q.1
    exact Bool.and_eq_true_iff.mpr ⟨decide_eq_true (by omega), List.all_eq_true.mpr fun d hd => wf_mono hL (by omega) (List.all_eq_true.mp q.2 d hd)⟩
  | n + 1, m + 1, .lst ds, hm, h => by
    have q := Bool.and_eq_true_iff.mp h
    have q1 := of_decide_eq_true q.1
    exact Bool.and_eq_true_iff.mpr ⟨decide_eq_true (by omega), List.all_eq_true.mpr fun d hd => wf_mono hL (by omega) (List.all_eq_true.mp q.2 d hd)⟩
  | n + 1, m + 1, .ptr _, _, h => by cases h
  | n + 1, m + 1, .scr _, _, h => by cases h
  | n + 1, m + 1, .non, _, _ => rfl
  | n + 1, m + 1, .bl _, _, _ => rfl
  | n + 1, m + 1, .int _, _, _ => rfl
  | n + 1, m + 1, .str _, _, _ => rfl
theorem wf_tup {L n : Nat} {ds : List D} (h : wf L (n + 1) (.tup ds) = true) : ds.length ≤ L ∧ ∀ d ∈ ds, wf L n d = true := by
  have q := Bool.and_eq_true_iff.mp h
  exact ⟨of_decide_eq_true q.1, List.all_eq_true.mp q.2⟩
theorem wf_lst {L n : Nat} {ds : List D} (h : wf L (n + 1) (.lst ds) = true) : ds.length ≤ L ∧ ∀ d ∈ ds, wf L n d = true := by
  have q := Bool.and_eq_true_iff.mp h
  exact ⟨of_decide_eq_true q.1, List.all_eq_true.mp q.2⟩
theorem tup_wf {L n : Nat} {ds : List D} (h : ds.length ≤ L) (h2 : ∀ d ∈ ds, wf L n d = true) : wf L (n + 1) (.tup ds) = true := Bool.and_eq_true_iff.mpr ⟨decide_eq_true h, List.all_eq_true.mpr h2⟩
theorem wf_pos {L n : Nat} {d : D} (h : wf L n d = true) : 0 < n := by cases n with | zero => cases h | succ n => omega
theorem wf_tI {L n : Nat} {ps : List Int} (h : ps.length ≤ L) : wf L (n + 2) (tI ps) = true := tup_wf (by rw [List.length_map]; exact h) fun d hd => by
  obtain ⟨p, _, rfl⟩ := List.mem_map.mp hd
  rfl
noncomputable def eqD (a b : D) : Bool := @decide (a = b) (Classical.propDecidable _)
theorem eqD_iff {a b : D} : eqD a b = true ↔ a = b := @decide_eq_true_iff (a = b) (Classical.propDecidable _)
theorem eqD_false {a b : D} : eqD a b = false ↔ ¬ a = b := @decide_eq_false_iff_not (a = b) (Classical.propDecidable _)
theorem eqD_of {a b : D} {r : Bool} (h : r = true ↔ a = b) : r = eqD a b := by
  rw [Bool.eq_iff_iff, h, eqD_iff]
theorem eq_lists {as bs : List D} : (decide ((as.length : Int) = (bs.length : Int)) && ((List.range as.length).map fun j => eqD (as.getD j .non) (bs.getD j .non)).all id) = true ↔ as = bs := by
  rw [Bool.and_eq_true, decide_eq_true_eq]
  constructor
  · intro ⟨hl, h⟩
    have hl' : as.length = bs.length := by omega
    apply List.ext_getElem hl'
    intro i h1 h2
    rw [List.all_map, List.all_eq_true] at h
    have q := eqD_iff.mp (h i (List.mem_range.mpr h1))
    rw [getD_at h1, getD_at h2] at q
    exact q
  · intro e
    subst e
    refine ⟨rfl, ?_⟩
    rw [List.all_map, List.all_eq_true]
    intro i _
    exact eqD_iff.mpr rfl
theorem rngD_at {lo : Int} {n j : Nat} {d : D} (h : (rngD lo n)[j]? = some d) : j < n ∧ d = .int (lo + (j : Int)) := by
  unfold rngD at h
  obtain ⟨a, ha, rfl⟩ := at_map h
  rw [List.getElem?_range (by
    have := (List.getElem?_eq_some_iff.mp ha).1
    rw [List.length_range] at this
    exact this)] at ha
  have e := Option.some.inj ha
  subst e
  have := (List.getElem?_eq_some_iff.mp h).1
  rw [List.length_map, List.length_range] at this
  exact ⟨this, rfl⟩
theorem rngD_len {lo : Int} {n : Nat} : (rngD lo n).length = n := by unfold rngD; rw [List.length_map, List.length_range]
theorem atI_of {ds : List D} {j : Nat} (h : j < ds.length) : atI ds (0 + (j : Int)) = some (ds.getD j .non) := by
  rw [Int.zero_add, getD_at h]
  exact atI_nat (List.getElem?_eq_getElem h)
theorem same_leaf2 {a b : D} (h : (isB a || isB b) = true) : (isB a && (isB b && eqD a b)) = eqD a b := by
  cases h1 : isB a with
  | true =>
    cases h2 : isB b with
    | true => rfl
    | false =>
      refine (eqD_false.mpr fun e => ?_).symm
      rw [e, h2] at h1
      cases h1
  | false =>
    refine (eqD_false.mpr fun e => ?_).symm
    rw [e] at h1
    rw [e, h1] at h
    cases h
theorem same_leaf4 {a b : D} (ha : pl a = true) (hb : pl b = true) (h1 : (isT a && isT b || isL a && isL b) = false) (h2 : (isB a || isB b) = false) (h3 : (isI a && isI b || isS a && isS b) = false) : (isNon a && isNon b) = eqD a b := by
  refine eqD_of ⟨fun h => ?_, fun e => ?_⟩
  · cases a <;> cases b <;> first | rfl | exact absurd (show false = true from h) Bool.false_ne_true
  · subst e
    cases a <;> first | rfl | exact absurd (show false = true from ha) Bool.false_ne_true | exact absurd (show false = true from h1.symm) Bool.false_ne_true | exact absurd (show false = true from h2.symm) Bool.false_ne_true | exact absurd (show false = true from h3.symm) Bool.false_ne_true
def wholeB (x : D) (lo hi : Int) : Bool := isW x && (decide (lo ≤ intOf x) && decide (intOf x ≤ hi))
theorem cut_sub {α : Type} {l : List α} {lo hi : Option Int} {d : α} (h : d ∈ DL.cutD l lo hi) : d ∈ l := by
  unfold DL.cutD at h
  exact List.mem_of_mem_drop (List.mem_of_mem_take h)
theorem cut_len {α : Type} (l : List α) (lo hi : Option Int) : (DL.cutD l lo hi).length ≤ l.length := by
  unfold DL.cutD
  rw [List.length_take, List.length_drop]
  omega
theorem cut_last {α : Type} (l : List α) : (DL.cutD l (some (-1)) none).length ≤ 1 := by
  unfold DL.cutD
  rw [List.length_take, List.length_drop, HT.sIx_none]
  have : HT.sIx l.length 0 (some (-1)) = l.length - 1 := by
    unfold HT.sIx
    simp
    omega
  omega
theorem cut_two {α : Type} {l : List α} {r : Int} (h0 : 0 ≤ r) (h1 : r < l.length) : (DL.cutD l none (some r)).length + (DL.cutD l (some (r + 1)) none).length + 1 ≤ l.length := by
  unfold DL.cutD
  simp only [List.length_take, List.length_drop, HT.sIx_none]
  have e1 : HT.sIx l.length l.length (some r) = r.toNat := by unfold HT.sIx; simp only []; split <;> omega
  have e2 : HT.sIx l.length 0 (some (r + 1)) = r.toNat + 1 := by unfold HT.sIx; simp only []; split <;> omega
  omega
def sk (a i : Nat) : Nat := if i < a then i else i + 1
theorem range_skip {a n : Nat} (h : a < n) : (List.range n).filter (fun i => !decide (i = a)) = (List.range (n - 1)).map (sk a) := by
  obtain ⟨m, rfl⟩ : ∃ m, n = a + 1 + m := ⟨n - (a + 1), by omega⟩
  have e1 : (List.range a).filter (fun i => !decide (i = a)) = (List.range a).map (sk a) := by
    rw [List.filter_eq_self.mpr fun i hi => by have := List.mem_range.mp hi; simp; omega]
    have : (List.range a).map (sk a) = (List.range a).map id := List.map_congr_left fun i hi => by
      have := List.mem_range.mp hi
      exact if_pos this
    rw [this, List.map_id]
  have e2 : ((List.range m).map (a + 1 + ·)).filter (fun i => !decide (i = a)) = (List.range m).map (fun i => sk a (a + i)) := by
    rw [List.filter_eq_self.mpr fun i hi => by
      obtain ⟨j, _, rfl⟩ := List.mem_map.mp hi
      simp; omega]
    refine List.map_congr_left fun i hi => ?_
    show a + 1 + i = if a + i < a then a + i else a + i + 1
    rw [if_neg (by omega)]
    omega
  rw [List.range_add, List.range_succ, List.filter_append, List.filter_append, e1, e2, show a + 1 + m - 1 = a + m by omega, List.range_add, List.map_append, List.map_map]
  have e3 : ([a].filter fun i => !decide (i = a)) = [] := by simp
  rw [e3, List.append_nil]
  rfl
theorem as_range {α : Type} (d : α) (ps : List α) : ps = (List.range ps.length).map fun i => ps.getD i d := by
  apply List.ext_getElem
  · simp
  · intro i h1 h2
    rw [List.getElem_map, List.getElem_range, List.getD_eq_getElem?_getD, List.getElem?_eq_getElem h1]
    rfl
theorem zip_range (ps : List Int) : ps.zipIdx = (List.range ps.length).map fun i => (ps.getD i 0, i) := by
  apply List.ext_getElem
  · simp
  · intro i h1 h2
    have hi : i < ps.length := by rw [List.length_zipIdx] at h1; exact h1
    rw [List.getElem_map, List.getElem_range, List.getD_eq_getElem?_getD, List.getElem?_eq_getElem hi, List.getElem_zipIdx]
    simp
theorem getD_map {n i : Nat} {f : Nat → Int} (h : i < n) : ((List.range n).map f).getD i 0 = f i := by
  rw [List.getD_eq_getElem?_getD, List.getElem?_map, List.getElem?_range h]
  rfl
theorem range_split {α : Type} {f : Nat → α} {n a : Nat} (h : a < n) : (List.range n).map f = (List.range a).map f ++ f a :: (List.range (n - a - 1)).map fun i => f (a + 1 + i) := by
  obtain ⟨m, rfl⟩ : ∃ m, n = a + 1 + m := ⟨n - (a + 1), by omega⟩
  rw [show a + 1 + m - a - 1 = m by omega, List.range_add, List.range_succ, List.map_append, List.map_append, List.map_map, List.append_assoc]
  rfl
section
variable {X : Cx} {sg sg1 : Sg} {M : Mem} {E : EndsD}
def Fg : Sg → Sg → Prop
  | [], [] => True
  | none :: a, _ :: b => Fg a b
  | some d :: a, e :: b => e = some d ∧ Fg a b
  | _, _ => False
theorem Fg.len : ∀ {a b : Sg}, Fg a b → a.length = b.length
  | [], [], _ => rfl
  | [], _ :: _, h => h.elim
  | none :: a, _ :: b, h => congrArg Nat.succ (Fg.len (a := a) h)
  | some d :: a, e :: b, h => congrArg Nat.succ (Fg.len h.2)
  | none :: _, [], h => h.elim
  | some _ :: _, [], h => h.elim
theorem Fg.at : ∀ {a b : Sg}, Fg a b → ∀ (i : Nat) (d : D), a[i]? = some (some d) → b[i]? = some (some d)
  | [], [], _, i, d, e => e
  | [], _ :: _, h, _, _, _ => h.elim
  | none :: a, _ :: b, h, 0, d, e => by cases e
  | none :: a, _ :: b, h, i + 1, d, e => Fg.at (a := a) (b := b) h i d e
  | some x :: a, y :: b, h, 0, d, e => by rw [h.1]; exact e
  | some x :: a, y :: b, h, i + 1, d, e => Fg.at h.2 i d e
  | none :: _, [], h, _, _, _ => h.elim
  | some _ :: _, [], h, _, _, _ => h.elim
theorem wss_fg {sts : List Stmt} (f : Fg sg1 sg) (h : WSs X sts sg1 M E) : WSs X sts sg M E := fun σ H G w s => h σ H G w (s.forget f.len f.at)
theorem ws_fg {st : Stmt} (f : Fg sg1 sg) (h : WS X st sg1 M E) : WS X st sg M E := fun σ H G w s => h σ H G w (s.forget f.len f.at)
theorem toPy_pairs_lay : ∀ qs : List (Int × Int), PyData.canLayAll0 (toPyA (qs.map pairD)) = true
  | [] => rfl
  | q :: qs => by
    show (PyData.canLay0 (toPy (pairD q)) && PyData.canLayAll0 (toPyA (qs.map pairD))) = true
    rw [toPy_pairs_lay qs]
    rfl
theorem plA_pairs : ∀ qs : List (Int × Int), plA (qs.map pairD) = true
  | [] => rfl
  | q :: qs => by
    show (pl (pairD q) && plA (qs.map pairD)) = true
    rw [plA_pairs qs]
    rfl
theorem toPy_pairs_depth : ∀ qs : List (Int × Int), PyData.depthAll (toPyA (qs.map pairD)) ≤ 4
  | [] => by decide
  | q :: qs => by
    have := toPy_pairs_depth qs
    show max (PyData.depth (toPy (pairD q))) (PyData.depthAll (toPyA (qs.map pairD))) ≤ 4
    have e : PyData.depth (toPy (pairD q)) ≤ 4 := by
      show PyData.depth (.tuple [.int q.1, .int q.2]) ≤ 4
      exact Nat.le_of_ble_eq_true rfl
    omega
theorem shaped_pairs (qs : List (Int × Int)) : SeqAt.shaped (.list (toPyA (qs.map pairD))) = true := by
  refine Bool.and_eq_true_iff.mpr ⟨toPy_pairs_lay qs, decide_eq_true ?_⟩
  have := toPy_pairs_depth qs
  show PyData.depthAll (toPyA (qs.map pairD)) + 1 ≤ 64
  omega
theorem eqv_pairs (qs : List (Int × Int)) : PyData.eqv (.list (toPyA (qs.map pairD))) (.list (toPyA (qs.map pairD))) = true := SeqAt.eqv_refl _ (toPy_pairs_lay qs)
theorem srt_eq {qs rs : List (Int × Int)} (h1 : SrtP qs) (h2 : SrtP rs) (h : qs.Perm rs) : qs = rs := by
  refine List.Perm.eq_of_pairwise (fun a b _ _ e1 e2 => ?_) h1 h2 h
  have n1 : ¬ SrtO.lexB b a = true := by rw [e1]; exact Bool.false_ne_true
  have n2 : ¬ SrtO.lexB a b = true := by rw [e2]; exact Bool.false_ne_true
  rw [SrtO.lexB_iff] at n1 n2
  have a1 : a.1 = b.1 := by omega
  have a2 : a.2 = b.2 := by omega
  exact Prod.ext a1 a2
end
theorem pairs_if (p : Int × Int → Bool) (g : Int × Int → Int × Int) (qs : List (Int × Int)) : ((qs.map DL.pairD).filter fun d => p (intOf (fstD d), intOf (sndD d))).map (fun d => DL.pairD (g (intOf (fstD d), intOf (sndD d)))) = ((qs.filter p).map g).map DL.pairD := by
  rw [List.filter_map, List.map_map, List.map_map]
  rfl
theorem pairs_all (g : Int × Int → Int × Int) (qs : List (Int × Int)) : (qs.map DL.pairD).map (fun d => DL.pairD (g (intOf (fstD d), intOf (sndD d)))) = (qs.map g).map DL.pairD := by
  rw [List.map_map, List.map_map]
  rfl
theorem not_eqD {x y : D} (h : x = y) : (!eqD x y) = false := by rw [eqD_iff.mpr h]; rfl
theorem LcOk.pick {X : Cx} {scope : Scope} {vs : List Nat} {tg elt : Expr} {ifs : List Expr} {sg : Sg} {Qi : List D → (Mem → Prop) → Mem → Prop} {Q : D → Mem → Prop} (h : ∀ ds C M0, Qi ds C M0 → LcOk X scope vs tg elt ifs sg (ItQ ds M0) Q ∧ C M0) : LcOk X scope vs tg elt ifs sg Qi Q := fun ds C M0 q => (h ds C M0 q).1 ds C M0 ⟨rfl, rfl, (h ds C M0 q).2⟩
theorem fg_set : ∀ {a b : Sg}, Fg a b → ∀ (i : Nat) (d : D), Fg (a.set i (some d)) (b.set i (some d))
  | [], [], h, _, _ => h
  | [], _ :: _, h, _, _ => h.elim
  | none :: a, _ :: b, h, 0, d => ⟨rfl, h⟩
  | none :: a, _ :: b, h, i + 1, d => fg_set (a := a) (b := b) h i d
  | some x :: a, y :: b, h, 0, d => ⟨rfl, h.2⟩
  | some x :: a, y :: b, h, i + 1, d => ⟨h.1, fg_set h.2 i d⟩
  | none :: _, [], h, _, _ => h.elim
  | some _ :: _, [], h, _, _ => h.elim
theorem fg_trans : ∀ {a b c : Sg}, Fg a b → Fg b c → Fg a c
  | [], [], _, _, h => h
  | [], _ :: _, _, h, _ => h.elim
  | none :: a, [], _, h, _ => h.elim
  | some _ :: a, [], _, h, _ => h.elim
  | none :: a, none :: b, [], _, h => h.elim
  | none :: a, some _ :: b, [], _, h => h.elim
  | some _ :: a, none :: b, [], _, h => h.elim
  | some _ :: a, some _ :: b, [], _, h => h.elim
  | none :: a, none :: b, _ :: c, h, h2 => fg_trans (a := a) (b := b) (c := c) h h2
  | none :: a, some _ :: b, _ :: c, h, h2 => fg_trans (a := a) (b := b) (c := c) h h2.2
  | some d :: a, none :: b, _ :: c, h, h2 => by cases h.1
  | some d :: a, some e :: b, z :: c, h, h2 => ⟨h2.1.trans h.1, fg_trans h.2 h2.2⟩
section
variable {P : Program} {w : World} {K : PySem.W.Frag} {mg : Str → Option Value} {base : Heap}
theorem dfnF {x qual : Str} {st : Stmt} {f : Addr} {fd : FuncData} {N ps : List Str} {k n : Nat} {S : SpD} (F : Fun K x qual st f fd) (sc : FnScope N ps (defScope st)) (hn : ps.length = n)
    (body : ∀ (f : Addr) (cdv : Value) (A : Around) (outer : List Env) (s : Shared) (H : Hp) (E : XK) (ds : List D) (M : Mem) (Q : D → Mem → Prop), Room k (A.deeper (envOfC qual (defScope st) s.heap.objs.size f cdv)) → ds.length = n → S ds M Q →
      WSs (cxOf CX0 P w K mg base N qual (defScope st) f cdv A outer s H E).nox (defBody st) (startD N ds) M { nx := fun _ M' => Q .non M', rt := Q }) : FnOk P w K mg base CX0 (k + 1) f fd ps (spD K n S) := by
  refine F.ok sc (fun vs H R E h => ?_) (fun cdv A outer s H vs R E hr h => ?_)
  · obtain ⟨G, M, ds, Q, _, r, l, _⟩ := h
    rw [r.length, l, hn]
  · obtain ⟨G, M, ds, Q, wd, r, l, hs, q⟩ := h
    refine ⟨tWSs _ (defBody st), pss_w, (body f cdv A outer s H E ds M Q hr l hs _ H G wd (start_rp r)).imp (fun σ' H' ⟨sg', G', M', st', w', s', q'⟩ => q _ _ ⟨.non, G', M', st', w', .non, q'⟩) (fun v H' p => q v H' p) (fun _ _ p => ?_) (fun _ _ p => ?_)⟩
    · obtain ⟨_, _, _, _, _, _, z⟩ := p; exact z
    · obtain ⟨_, _, _, _, _, _, z⟩ := p; exact z
theorem df_mk {h : Heap} {x : Str} {st : Stmt} {ps : List Str} {f : Addr} {od an : Option Addr} {sl : Array (Option Value)} {oc kV dc pm cd ct : Value} (X : K.In h) (G : h.Ns mainGlobals mg) (a : PySem.W.nsIn K mainGlobals x = some (some (.ref f))) (l : K.lookup f = some ⟨oc, od, .func (PySem.W.fnOf x x (defArgs st) (defBody st) (defScope st) .none kV dc pm an cd ct), sl⟩) (c : PySem.W.codeIn K cd x = true) (k : PySem.W.keepIn K (.ref f) = true)
    (hb : ∀ (kV doc pm : Value) (an : Option Addr) (cdv ct : Value) (us : List Value), us.length = ps.length → bindArgs (PySem.W.fnOf x x (defArgs st) (defBody st) (defScope st) .none kV doc pm an cdv ct) ⟨us, []⟩ = pure (ps.zip us)) : Df K mg x st ps :=
  ⟨f, _, fun_mk l c k, PySem.W.mg_of X G a, (fun_mk l c k).binds hb⟩
def spLaw (K : PySem.W.Frag) : Sp := fun vs H Q _ => ∃ (a : Addr) (ns : List Int), vs = [.ref a] ∧ SqL K H a (ns.map V.int) ∧ ns.length ≤ 63 ∧ ∀ H', Q (.bl true) H'
def S_script : SpD := fun ds M Q => ∃ ns : List Int, ds = [.scr ns] ∧ ns.length ≤ 63 ∧ ∀ M', Q (.bl true) M'
theorem spLaw_spD {vs : List V} {H : Hp} {R : VK} {E : XK} (h : spLaw K vs H R E) : spD K 1 S_script vs H R E := by
  obtain ⟨a, ns, rfl, hS, hl, q⟩ := h
  refine ⟨H, ⟨fun _ => none, ⟨H, fun _ => none, H⟩⟩, [.scr ns], fun d _ => d = .bl true, ⟨fun x u e => e, (fun x m e => by cases e), fun x u e m => ⟨e, rfl, rfl⟩⟩, .cons (.scr hS) .nil, rfl, ⟨ns, rfl, hl, fun M' => rfl⟩, fun v H' ⟨d, G', M', st, w', r, e⟩ => ?_⟩
  subst e
  cases r
  exact q H'
end
end DL
set_option Elab.async false
set_option linter.all false
set_option maxRecDepth 100000
set_option maxHeartbeats 4000000
/-! DLk: more methods of lists. -/
namespace DL
open PySem L2 PyProof.Rows HT
section
variable {K : PySem.W.Frag} {M : Mem} {Q : D → Mem → Prop}
theorem md_pop0 {p : Addr} {ds : List D} {d : D} (hm : M p = some (.lst (d :: ds))) (q : Q d (updM M p (some (.lst ds)))) : MtD K rPopAt (.ptr p) [.int 0] M Q := fun G H v vs R w rv rs k => by
  cases rv
  obtain ⟨u, rfl, ru⟩ := rs.one
  cases ru
  obtain ⟨g, xs, h1, r1⟩ := w.mem _ _ hm
  cases r1 with
  | @cons y _ ys _ ry r2 =>
    refine ⟨p, _, 0, 0, y, rfl, rfl, h1, by decide, by decide, ?_, rfl, k _ _ ?_⟩
    · simp [seqIndex?, List.length_cons]
    · obtain ⟨w', st⟩ := w.write hm (o := .lst ys) (mo := .lst ds) ⟨_, upd_same, r2⟩
      exact ⟨_, _, _, st, w', ry, q⟩
end
theorem cut_nat {α : Type} (l : List α) (a b : Nat) : cutD l (some (a : Int)) (some (b : Int)) = (l.drop a).take (b - a) := by
  unfold cutD
  rw [HT.sIx_nat, HT.sIx_nat]
  by_cases h : a ≤ l.length
  · rw [Nat.min_eq_left h]
    by_cases h2 : b ≤ l.length
    · rw [Nat.min_eq_left h2]
    · rw [Nat.min_eq_right (show l.length ≤ b by omega), List.take_of_length_le (by rw [List.length_drop]; omega), List.take_of_length_le (by rw [List.length_drop]; omega)]
  · rw [show min a l.length = l.length by omega, List.drop_length, List.drop_of_length_le (show l.length ≤ a by omega), List.take_nil, List.take_nil]
theorem cut_toN {α : Type} (l : List α) (b : Nat) : cutD l none (some (b : Int)) = l.take b := by
  unfold cutD
  rw [HT.sIx_none, HT.sIx_nat, List.drop_zero, Nat.sub_zero]
  by_cases h2 : b ≤ l.length
  · rw [Nat.min_eq_left h2]
  · rw [Nat.min_eq_right (by omega), List.take_of_length_le (Nat.le_refl _), List.take_of_length_le (by omega)]
theorem cut_fromN {α : Type} (l : List α) (a : Nat) : cutD l (some (a : Int)) none = l.drop a := by
  unfold cutD
  rw [HT.sIx_none, HT.sIx_nat]
  by_cases h : a ≤ l.length
  · rw [Nat.min_eq_left h, ← List.length_drop, List.take_length]
  · rw [Nat.min_eq_right (by omega), Nat.sub_self, List.take_zero, List.drop_of_length_le (by omega)]
theorem cut_mapD {α β : Type} (f : α → β) (l : List α) (lo hi : Option Int) : cutD (l.map f) lo hi = (cutD l lo hi).map f := by
  unfold cutD
  rw [List.length_map, List.map_take, List.map_drop]
end DL
set_option Elab.async false
set_option linter.all false
set_option maxRecDepth 100000
set_option maxHeartbeats 4000000
/-! DLx: exceptions by data: what leaves a def, calls that may raise. -/
namespace DL
open PySem L2 PyProof.Rows HT
abbrev QXD := Addr → List (Str × D) → Mem → Prop
abbrev QXS := Addr → List (Str × D) → Sg → Mem → Prop
/-- nobody at the base knows p -/
def New (b : Base) (p : Addr) : Prop := ∀ u, b.H p = some u → b.M p = none → False
/-- an error of the class C leaves, its own dict with these fields -/
def PX (K : PySem.W.Frag) (b : Base) (QX : QXD) : XK := fun cls d H' => ∃ (C dd : Addr) (fs : List (Str × V)) (ds : List (Str × D)) (G' : Hp) (M' : Mem), cls = .ref C ∧ d = some dd ∧ H' dd = some (.xd fs) ∧ KVd K G' fs ds ∧ M'.b = b ∧ Wd K G' M' H' ∧ (G' dd = none ∧ M' dd = none ∧ New b dd) ∧ QX C ds M'
def PXs (K : PySem.W.Frag) (b : Base) (QX : QXS) : WX := fun cls d σ H' => ∃ (C dd : Addr) (fs : List (Str × V)) (ds : List (Str × D)) (G' : Hp) (M' : Mem) (sg : Sg), cls = .ref C ∧ d = some dd ∧ H' dd = some (.xd fs) ∧ KVd K G' fs ds ∧ M'.b = b ∧ Wd K G' M' H' ∧ (G' dd = none ∧ M' dd = none ∧ New b dd) ∧ SRp K G' sg σ ∧ QX C ds sg M'
/-- X lets such errors out -/
def Out (X : Cx) (b : Base) (QX : QXS) : Prop := ∃ W : WX, Takes X W ∧ ∀ cls d σ H', PXs X.K b QX cls d σ H' → W cls d σ H'
section
variable {K : PySem.W.Frag} {G G0 G' H H0 H' : Hp} {M M0 M' : Mem}
theorem Wd.rb (w : Wd K G M H) : Wd K G (M.rb ⟨G, M.f, H⟩) H := ⟨w.sub, w.mem, fun x o h m => ⟨h, rfl, m⟩⟩
theorem Wd.unrb (w0 : Wd K G0 M0 H0) (w : Wd K G' M' H') (hb : M'.b = ⟨G0, M0.f, H0⟩) : Wd K G' (M'.rb M0.b) H' ∧ Stp G0 M0 H0 G' (M'.rb M0.b) H' := by
  have st : Stp G0 M0 H0 G' (M'.rb M0.b) H' := ⟨fun x o h m => by
    have e := w.hist x o
    rw [hb] at e
    exact e h m, rfl⟩
  exact ⟨⟨w.sub, w.mem, w0.far st⟩, st⟩
end
abbrev SpDX := List D → Mem → (D → Mem → Prop) → QXD → Prop
def spDX (K : PySem.W.Frag) (n : Nat) (S : SpDX) : Sp := fun vs H R E => ∃ (G : Hp) (M : Mem) (ds : List D) (Q : D → Mem → Prop) (QX : QXD), Wd K G M H ∧ RpA K G vs ds ∧ ds.length = n ∧ S ds M Q QX ∧ (∀ v H', PV K G M H Q v H' → R v H') ∧ ∀ cls d H', PX K M.b QX cls d H' → E cls d H'
/-- the name x calls a def that keeps S and may raise -/
def CalX (P : Program) (w : World) (K : PySem.W.Frag) (mg : Str → Option Value) (base : Heap) (k : Nat) (x : Str) (n : Nat) (S : SpDX) : Prop :=
  ∃ f fd ps, FnOk P w K mg base (L2.CX P w) k f fd ps (spDX K n S) ∧ mg x = some (.ref f) ∧ PySem.W.keepIn K (.ref f) = true ∧ Binds K fd ps []
section
variable {X : Cx} {sg : Sg} {M : Mem} {Q : D → Mem → Prop} {pos : Pos}
theorem we_callX {k n : Nat} {x : Str} {S : SpDX} {p : Pos} {e : Expr} {es : List Expr} {QX : QXS} (C : CalX X.prog X.w X.K X.mg X.base k x n S) (hr : Room k X.A) (o : Out X M.b QX)
    (h : WA X (e :: es) sg M fun ds M1 => ds.length = n ∧ ∀ b0, S ds (M1.rb b0) (fun d M' => Q d (M'.rb M.b)) (fun C fs M' => QX C fs sg (M'.rb M.b))) (hg : Gl X x := by rfl) (hd : (x == ("__debug__" : Str)) = false := by decide)
    (he : starEach (e :: es) X.env = (false, eval e X.env) :: starEach es X.env := by exact star1 rfl) (hpl : (backTo pos (starEach es X.env)).any (·.1) = false := by exact starN rfl) : DL.WE X (.Call (.Name x p) (e :: es) [] pos) sg M Q := by
  obtain ⟨f, fd, ps, F, hm, kp, hb⟩ := C
  obtain ⟨W, tk, hW⟩ := o
  refine WE.of (pe_callS F hr hg hm kp hb (fun σ => passAt tk σ) pa_w hd he hpl) fun σ H G w s => (h σ H G w s).imp fun vs H1 ⟨ds, G1, M1, st, w1, r1, hl, hS⟩ => ?_
  refine ⟨G1, M1.rb ⟨G1, M1.f, H1⟩, ds, _, _, w1.rb, r1, hl, hS _, fun v H' ⟨d, G', M', st', w', r', q⟩ => ?_, fun cls d H' ⟨C, dd, fs, fds, G', M', e1, e2, e3, kv, hb', w', ⟨f1, f2, f3⟩, qx⟩ => ?_⟩
  · obtain ⟨w2, st2⟩ := w1.unrb w' st'.base
    rw [st.base] at w2 st2
    exact PV.base st ⟨d, G', M'.rb M.b, st2, w2, r', q⟩
  · obtain ⟨w2, st2⟩ := w1.unrb w' hb'
    rw [st.base] at w2 st2
    exact hW _ _ _ _ ⟨C, dd, fs, fds, G', M'.rb M.b, sg, e1, e2, e3, kv, rfl, w2, ⟨f1, f2, fun u k1 k2 => by
      have z := w1.hist dd u
      rw [st.base] at z
      obtain ⟨z1, _, z3⟩ := z k1 k2
      exact f3 u z1 z3⟩, s.mono ((st.trans st2).gx w), qx⟩
end
section
variable {P : Program} {w : World} {K : PySem.W.Frag} {mg : Str → Option Value} {base : Heap}
abbrev cxX (P : Program) (w : World) (K : PySem.W.Frag) (mg : Str → Option Value) (base : Heap) (N : List Str) (x : Str) (st : Stmt) (f : Addr) (cdv : Value) (A : Around) (outer : List Env) (s : Shared) (H : Hp) (E : XK) : Cx := cxOf (L2.CX P w) P w K mg base N x (defScope st) f cdv A outer s H E
theorem dfnX {x : Str} {st : Stmt} {N ps : List Str} {k n : Nat} {S : SpDX} (F : Df K mg x st ps) (sc : FnScope N ps (defScope st)) (hn : ps.length = n)
    (body : ∀ (f : Addr) (cdv : Value) (A : Around) (outer : List Env) (s : Shared) (H : Hp) (E : XK) (ds : List D) (M : Mem) (Q : D → Mem → Prop) (QX : QXD), Room k (A.deeper (envOfC x (defScope st) s.heap.objs.size f cdv)) → ds.length = n → S ds M Q QX →
      Out (cxX P w K mg base N x st f cdv A outer s H E) M.b (fun C fs _ M' => QX C fs M') →
      WSs (cxX P w K mg base N x st f cdv A outer s H E) (defBody st) (startD N ds) M { nx := fun _ M' => Q .non M', rt := Q }) : CalX P w K mg base (k + 1) x n S := by
  obtain ⟨f, fd, F, hm, hb⟩ := F
  refine ⟨f, fd, ps, F.okX sc (fun vs H R E h => ?_) (fun cdv A outer s H vs R E hr h => ?_), hm, F.kp, hb⟩
  · obtain ⟨G, M, ds, Q, QX, _, r, l, _⟩ := h
    rw [r.length, l, hn]
  · obtain ⟨G, M, ds, Q, QX, wd, r, l, hs, q, qx⟩ := h
    have o : Out (cxX P w K mg base N x st f cdv A outer s H E) M.b (fun C fs _ M' => QX C fs M') := ⟨fun cls d _ H => E cls d H, takes_of rfl rfl rfl rfl, fun cls d σ H' ⟨C, dd, fs, fds, G', M', sg, e1, e2, e3, kv, hb', w', fr, _, z⟩ => qx _ _ _ ⟨C, dd, fs, fds, G', M', e1, e2, e3, kv, hb', w', fr, z⟩⟩
    refine ⟨tWSs _ (defBody st), pss_w, (body f cdv A outer s H E ds M Q QX hr l hs o _ H G wd (start_rp r)).imp (fun σ' H' ⟨sg', G', M', st', w', s', q'⟩ => q _ _ ⟨.non, G', M', st', w', .non, q'⟩) (fun v H' p => q v H' p) (fun _ _ p => ?_) (fun _ _ p => ?_)⟩
    · obtain ⟨_, _, _, _, _, _, z⟩ := p; exact z
    · obtain ⟨_, _, _, _, _, _, z⟩ := p; exact z
end
end DL
set_option Elab.async false
set_option linter.all false
set_option maxRecDepth 100000
set_option maxHeartbeats 4000000
/-! DLy: try .. except X as n by data; a caught error's field. -/
namespace DL
open PySem L2 PyProof.Rows HT
theorem SRp.setN {K : PySem.W.Frag} {G : Hp} {sg : Sg} {σ : L2.St} (r : SRp K G sg σ) (i : Nat) : SRp K G (sg.set i none) (σ.set i none) := by
  refine ⟨by simp [r.len], fun j e q => ?_⟩
  by_cases hj : i = j
  · subst hj
    by_cases hl : i < sg.length
    · rw [List.getElem?_set_self hl] at q
      cases q
    · rw [List.getElem?_eq_none (by simpa using hl)] at q; cases q
  · rw [List.getElem?_set_ne hj] at q ⊢
    exact r.at_ j e q
theorem kvd_lookup {K : PySem.W.Frag} {G : Hp} {n : Str} {d : D} : ∀ {vs : List (Str × V)} {ds : List (Str × D)}, KVd K G vs ds → ds.lookup n = some d → ∃ v, vs.lookup n = some v ∧ Rp K G v d
  | [], [], _, h => by cases h
  | [], _ :: _, k, _ => by cases k.1
  | _ :: _, [], k, _ => by cases k.1
  | (a, v) :: vs, (b, e) :: ds, k, h => by
    obtain ⟨k1, k2⟩ := k
    simp only [List.map_cons, List.cons.injEq] at k1
    obtain ⟨k1, k3⟩ := k1
    subst k1
    cases k2 with
    | cons r1 r2 =>
      by_cases hn : n = a
      · subst hn
        simp only [List.lookup_cons, beq_self_eq_true] at h ⊢
        cases h
        exact ⟨v, rfl, r1⟩
      · have e1 : (n == a) = false := by simpa using hn
        simp only [List.lookup_cons, e1] at h ⊢
        exact kvd_lookup ⟨k3, r2⟩ h
section
variable {K : PySem.W.Frag} {G G' H H' : Hp} {M M' : Mem}
/-- an error's dict, taken into the memory -/
theorem Wd.takeX (w : Wd K G M H) (w' : Wd K G' M' H') (st : Stp G M H G' M' H') {dd : Addr} {fs : List (Str × V)} {ds : List (Str × D)} (e : H' dd = some (.xd fs)) (kv : KVd K G' fs ds) (g : G' dd = none) (m : M' dd = none) (nw : ∀ u, H dd = some u → M dd = none → False) :
    Wd K G' (updM M' dd (some (.xd ds))) H' ∧ Stp G M H G' (updM M' dd (some (.xd ds))) H' := by
  have st2 : Stp G M H G' (updM M' dd (some (.xd ds))) H' := ⟨fun x o h hm => by
    have hx : x ≠ dd := fun z => by subst z; exact nw o h hm
    obtain ⟨a1, a2, a3⟩ := st.keep x o h hm
    exact ⟨a1, a2, by rw [updM_ne hx]; exact a3⟩, st.base⟩
  refine ⟨⟨w'.sub, fun x mo q => ?_, w.far st2⟩, st2⟩
  by_cases hx : x = dd
  · subst hx
    rw [updM_same] at q
    cases q
    exact ⟨g, fs, e, kv⟩
  · rw [updM_ne hx] at q
    exact w'.mem x mo q
end
section
variable {X : Cx} {sg : Sg} {M : Mem} {E : EndsD} {Q : D → Mem → Prop} {pos : Pos}
/-- an error's dict that nobody asks for any more -/
theorem wss_dropX {dd : Addr} {fs : List (Str × D)} {sts : List Stmt} (hm : M dd = some (.xd fs)) (h : WSs X sts sg (updM M dd none) E) : WSs X sts sg M E := fun σ H G w s => by
  obtain ⟨g, xs, e, r⟩ := w.mem _ _ hm
  have gx : Gx G (upd G dd (.xd xs)) := fun x u q => by rw [upd_ne (ne_of_none q g)]; exact q
  have st : Stp G M H (upd G dd (.xd xs)) (updM M dd none) H := ⟨fun x u q m => by
    have hx : x ≠ dd := fun z => by subst z; rw [hm] at m; cases m
    exact ⟨q, upd_ne hx, by rw [updM_ne hx]; exact m⟩, rfl⟩
  have w1 : Wd X.K (upd G dd (.xd xs)) (updM M dd none) H := ⟨fun x u q => by
    by_cases hx : x = dd
    · subst hx; rw [upd_same] at q; cases q; exact e
    · rw [upd_ne hx] at q; exact w.sub _ _ q, fun x m q => by
    have hx : x ≠ dd := fun z => by subst z; rw [updM_same] at q; cases q
    rw [updM_ne hx] at q
    obtain ⟨h1, h2⟩ := w.mem _ _ q
    exact ⟨by rw [upd_ne hx]; exact h1, h2.carry gx rfl⟩, w.far st⟩
  exact toE_base st (h σ H _ w1 (s.mono gx))
theorem we_xf {a C dd : Addr} {oe : Obj} {pn : List (Addr × Obj)} {e : Expr} {n : Str} {fs : List (Str × D)} {d : D} (T : XfC X.K C) (hno : PySem.W.findIn X.K (.ref C) n = some none) (hz : Zc (.ref C) (some dd) oe) (hf : ∃ vs, oe.data = .fields vs)
    (hM : M dd = some (.xd fs)) (hl : fs.lookup n = some d) (he : EE (X.suite a ((a, oe) :: pn)) e sg M (.ptr a)) (q : Q d M) (hb : attributeBase e n X.env (eval e X.env) = eval e X.env := by rfl) : DL.WE (X.suite a ((a, oe) :: pn)) (.Attribute e n pos) sg M Q :=
  WE.of (pe_xf T hno hz hf pe_w hb) fun σ H G w s => (he σ H G w s).imp fun v H1 ⟨x, G1, M1, st, w1, r1, e1, e2⟩ => by
    subst e1; subst e2
    cases r1
    obtain ⟨g, vs, hx, kv⟩ := w1.mem _ _ hM
    obtain ⟨u, lu, ru⟩ := kvd_lookup kv hl
    exact ⟨rfl, rfl, dd, vs, u, rfl, hx, lu, (PV.here w1 ru q).base st⟩
theorem ws_try_as (i : Nat) {n x : Str} {c : Value} {body suite : List Stmt} {b₀ : Stmt} {np pos' : Pos} {Wo : WX} {QX : QXS} (hN : X.N.Nodup) (hc : Names X x c) (tk : Takes X Wo)
    (hb : ∀ b0 pn xe, Out (X.tr pn xe) b0 QX → PassesOwn (model X.prog X.w) X.A X.env xe → WSs (X.tr pn xe) body sg (M.rb b0) { nx := fun sg' M' => E.nx sg' (M'.rb M.b), rt := fun d M' => E.rt d (M'.rb M.b), bk := fun sg' M' => E.bk sg' (M'.rb M.b), ct := fun sg' M' => E.ct sg' (M'.rb M.b) })
    (hsu : ∀ C fs sg' M', QX C fs sg' M' → PySem.W.exmOne X.K (.ref C) c = some true ∧ ∀ a dd oe pn, Zc (.ref C) (some dd) oe → (∃ vs, oe.data = .fields vs) → M' dd = none →
      WSs (X.suite a ((a, oe) :: pn)) (b₀ :: suite) (sg'.set i (some (.ptr a))) (updM (M'.rb M.b) dd (some (.xd fs))) { nx := fun sg2 M2 => E.nx (sg2.set i none) M2, rt := E.rt, bk := fun sg2 M2 => E.bk (sg2.set i none) M2, ct := fun sg2 M2 => E.ct (sg2.set i none) M2 })
    (hs : X.stack = X.env :: X.outer := by rfl) (hf : X.env.frame = some X.env.locals := by rfl) (hi : X.N[i]? = some n := by rfl) (hln : X.env.kindOf n = some .local := by rfl) : WS X (.Try body [.ExceptHandler (some (.Name x np)) (some n) (b₀ :: suite) pos'] [] [] pos) sg M E := by
  refine WS.of (ps_try_as (tb := fun W D σ H => ∀ pn xe, Takes (X.tr pn xe) W → PassesOwn (model X.prog X.w) X.A X.env xe → tWSs (X.tr pn xe) body D σ H) (ts := fun a cls d D σ H => ∀ oe pn, Zc cls d oe → (∃ vs, oe.data = .fields vs) → tWSs (X.suite a ((a, oe) :: pn)) (b₀ :: suite) D σ H) hs hf hN hi hln hc tk
    (fun W pn xe t1 t2 => ⟨fun pins s σ H D I h => (h pn xe t1 t2).run pins s I⟩) (fun a oe cls d pn hz hf => ⟨fun pins s σ H D I h => (h oe pn hz hf).run pins s I⟩)) fun σ H G w s => ?_
  intro pn xe t1 t2
  refine (hb ⟨G, M.f, H⟩ pn xe ⟨_, t1, fun cls d σ' H' px => ?_⟩ t2 σ H G w.rb s).imp (fun σ' H' ⟨sg', G', M', st', w', s', q⟩ => ?_) (fun v H' ⟨d, G', M', st', w', r', q⟩ => ?_) (fun σ' H' ⟨sg', G', M', st', w', s', q⟩ => ?_) (fun σ' H' ⟨sg', G', M', st', w', s', q⟩ => ?_)
  · obtain ⟨C, dd, fs, ds, G', M', sg', e1, e2, e3, kv, hb', w', ⟨f1, f2, f3⟩, s', qx⟩ := px
    subst e1; subst e2
    obtain ⟨ex, su⟩ := hsu C ds sg' M' qx
    refine ⟨true, ex, fun _ a ha => fun oe pn2 hz hf2 => ?_, fun z => Bool.noConfusion z⟩
    obtain ⟨w2, st2⟩ := w.unrb w' hb'
    obtain ⟨w3, st3⟩ := w.takeX w2 st2 e3 kv f1 f2 f3
    exact (su a dd oe pn2 hz hf2 f2 _ _ _ w3 (s'.set i (.ptr a))).imp (fun σ2 H2 ⟨sg2, G2, M2, st4, w4, s4, q4⟩ => ⟨sg2.set i none, G2, M2, st3.trans st4, w4, s4.setN i, q4⟩) (fun v H2 p => PV.base st3 p) (fun σ2 H2 ⟨sg2, G2, M2, st4, w4, s4, q4⟩ => ⟨sg2.set i none, G2, M2, st3.trans st4, w4, s4.setN i, q4⟩) (fun σ2 H2 ⟨sg2, G2, M2, st4, w4, s4, q4⟩ => ⟨sg2.set i none, G2, M2, st3.trans st4, w4, s4.setN i, q4⟩)
  · obtain ⟨w2, st2⟩ := w.unrb w' st'.base
    exact ⟨sg', G', M'.rb M.b, st2, w2, s', q⟩
  · obtain ⟨w2, st2⟩ := w.unrb w' st'.base
    exact ⟨d, G', M'.rb M.b, st2, w2, r', q⟩
  · obtain ⟨w2, st2⟩ := w.unrb w' st'.base
    exact ⟨sg', G', M'.rb M.b, st2, w2, s', q⟩
  · obtain ⟨w2, st2⟩ := w.unrb w' st'.base
    exact ⟨sg', G', M'.rb M.b, st2, w2, s', q⟩
end
end DL
set_option Elab.async false
set_option linter.all false
set_option maxRecDepth 100000
set_option maxHeartbeats 4000000
/-! DLz: raise C(e) by data, C an own class with one field, given how it is made. -/
namespace DL
open PySem L2 PyProof.Rows HT
/-- C(e): an error whose own dict, new, has one field -/
def tMkX (C : Addr) (f : Str) (ta : TA) : L2.St → Hp → XK → Prop := fun σ H Q => ta σ H fun vs H1 => ∃ i : Int, vs = [.int i] ∧ i.natAbs.log2 < 1920 ∧ ∀ d, H1 d = none → Q (.ref C) (some d) (upd H1 d (.xd [(f, .int i)]))
theorem small_log {i : Int} (h0 : 0 ≤ i) (h1 : i < 4294967296) : i.natAbs.log2 < 1920 := by
  by_cases h : i.natAbs = 0
  · rw [h]; decide
  · rw [Nat.log2_lt h]
    exact Nat.lt_of_lt_of_le (show i.natAbs < 2 ^ 32 by omega) (Nat.pow_le_pow_right (by decide) (by decide))
section
variable {X : Cx} {sg : Sg} {M : Mem} {E : EndsD} {pos pos2 : Pos}
theorem ws_raise {x f : Str} {C : Addr} {p : Pos} {a : Expr} {QX : QXS} (hc : X.calm = true) (o : Out X M.b QX) (hmk : PMk X (.Call (.Name x p) [a] [] pos) (tMkX C f (tWA X [a]))) (h : WA X [a] sg M fun ds M1 => ∃ i : Int, ds = [.int i] ∧ i.natAbs.log2 < 1920 ∧ QX C [(f, .int i)] sg M1) :
    WS X (.Raise (some (.Call (.Name x p) [a] [] pos)) none pos2) sg M E := by
  obtain ⟨W, tk, hW⟩ := o
  refine WS.of (ps_raise hc tk hmk) fun σ H G w s => (h σ H G w s).imp fun vs H1 ⟨ds, G1, M1, st, w1, r1, i, e, hi, qx⟩ => ?_
  subst e
  obtain ⟨v, rfl, rv⟩ := r1.one
  cases rv
  refine ⟨i, rfl, hi, fun dd hd => hW _ _ _ _ ⟨C, dd, [(f, .int i)], [(f, .int i)], G1, M1, sg, rfl, rfl, upd_same, ⟨rfl, .cons (.int i) .nil⟩, st.base, w1.other (w1.free hd).1 (w1.free hd).2 fun u k1 k2 => w1.fresh hd k1 k2, ⟨(w1.free hd).1, (w1.free hd).2, fun u k1 k2 => ?_⟩, s.mono (st.gx w), qx⟩⟩
  rw [← st.base] at k1 k2
  exact w1.fresh hd k1 k2
end
end DL
set_option Elab.async false
set_option linter.all false
set_option maxRecDepth 100000
set_option maxHeartbeats 4000000
/-! DLv: a def as a value; a call of a local name that holds one. -/
namespace DL
open PySem L2 PyProof.Rows HT
section
variable {X : Cx} {CX : CXT} {k i : Nat} {f : Addr} {fd : FuncData} {ps : List Str} {sp : Sp} {E : L2.St → XK} {x : Str} {p pos : Pos} {e : Expr} {es : List Expr} {t : TA}
def tCallLS (i : Nat) (f : Addr) (sp : Sp) (E : L2.St → XK) (t : TA) : TE := fun σ H Q => σ[i]? = some (some (.ref f)) ∧ t σ H fun vs H1 => sp vs H1 Q (E σ)
theorem pe_callLS (F : FnOk X.prog X.w X.K X.mg X.base CX k f fd ps sp) (hr : Room k X.A) (hN : X.N[i]? = some x) (hv : Vis X.env.scope x) (hk : PySem.W.keepIn X.K (.ref f) = true) (hb : Binds X.K fd ps []) (hx : ∀ σ, PassesAt CX X σ (E σ)) (ha : PA X (e :: es) t)
    (hdb : (x == ("__debug__" : Str)) = false := by decide) (hcd : (x == ("__classdict__" : Str)) = false := by decide)
    (he : starEach (e :: es) X.env = (false, eval e X.env) :: starEach es X.env := by rfl) (hpl : (backTo pos (starEach es X.env)).any (·.1) = false := by rfl) : PE X (.Call (.Name x p) (e :: es) [] pos) (tCallLS i f sp E t) := by
  refine ⟨fun pins s σ H Q I h => ?_⟩
  obtain ⟨hs, ht⟩ := h
  refine wpAny_Call_Name_kw (thn ((pe_var (pos := p) hN hv hdb hcd).run pins s σ H (fun v H1 => v = .ref f ∧ H1 = H) I ⟨.ref f, hs, rfl, rfl⟩) fun u s1 ⟨v, H1, I1, r1, q1⟩ => ?_)
  obtain ⟨rfl, rfl⟩ := q1
  cases r1
  refine PySem.W.callWith_K (h₀ := X.base) I.ok.mod.kin hk (thn (ha.run pos pins s1 σ _ _ I1 ht) fun us s2 ⟨vs, H2, I2, r, q⟩ => ⟨I2.kIn, ?_⟩) he hpl
  exact run_fnS F hr hb (hx σ) I2 r q
end
section
variable {X : Cx} {sg : Sg} {M : Mem} {Q : D → Mem → Prop} {pos : Pos}
/-- the name of a def: its address -/
theorem ee_fn {x : Str} {f : Addr} (hm : X.mg x = some (.ref f)) (hg : Gl X x := by rfl) (hd : (x == ("__debug__" : Str)) = false := by decide) : EE X (.Name x pos) sg M (.ptr f) := WE.of (pe_glob (v := .ref f) hg hm rfl hd) fun σ H G w r => PV.here w (.ptr f) ⟨rfl, rfl⟩
theorem we_callXL (i : Nat) {k n : Nat} {x y : Str} {f : Addr} {S : SpDX} {p : Pos} {e : Expr} {es : List Expr} {QX : QXS} (C : CalX X.prog X.w X.K X.mg X.base k y n S) (hy : X.mg y = some (.ref f)) (hr : Room k X.A) (o : Out X M.b QX) (hs : sg[i]? = some (some (.ptr f)))
    (h : WA X (e :: es) sg M fun ds M1 => ds.length = n ∧ ∀ b0, S ds (M1.rb b0) (fun d M' => Q d (M'.rb M.b)) (fun C fs M' => QX C fs sg (M'.rb M.b))) (hN : X.N[i]? = some x := by rfl) (hv : Vis X.env.scope x := by first | exact Or.inl rfl | exact Or.inr (Or.inl rfl) | exact Or.inr (Or.inr rfl))
    (hd : (x == ("__debug__" : Str)) = false := by decide) (hcd : (x == ("__classdict__" : Str)) = false := by decide)
    (he : starEach (e :: es) X.env = (false, eval e X.env) :: starEach es X.env := by exact star1 rfl) (hpl : (backTo pos (starEach es X.env)).any (·.1) = false := by exact starN rfl) : DL.WE X (.Call (.Name x p) (e :: es) [] pos) sg M Q := by
  obtain ⟨f2, fd, ps, F, hm, kp, hb⟩ := C
  rw [hy] at hm
  cases hm
  obtain ⟨W, tk, hW⟩ := o
  refine WE.of (pe_callLS (i := i) F hr hN hv kp hb (fun σ => passAt tk σ) pa_w hd hcd he hpl) fun σ H G w s => ?_
  obtain ⟨v0, e0, r0⟩ := s.at_ i _ hs
  cases r0
  refine ⟨e0, (h σ H G w s).imp fun vs H1 ⟨ds, G1, M1, st, w1, r1, hl, hS⟩ => ?_⟩
  refine ⟨G1, M1.rb ⟨G1, M1.f, H1⟩, ds, _, _, w1.rb, r1, hl, hS _, fun v H' ⟨d, G', M', st', w', r', q⟩ => ?_, fun cls d H' ⟨C, dd, fs, fds, G', M', e1, e2, e3, kv, hb', w', ⟨f1, f2, f3⟩, qx⟩ => ?_⟩
  · obtain ⟨w2, st2⟩ := w1.unrb w' st'.base
    rw [st.base] at w2 st2
    exact PV.base st ⟨d, G', M'.rb M.b, st2, w2, r', q⟩
  · obtain ⟨w2, st2⟩ := w1.unrb w' hb'
    rw [st.base] at w2 st2
    exact hW _ _ _ _ ⟨C, dd, fs, fds, G', M'.rb M.b, sg, e1, e2, e3, kv, rfl, w2, ⟨f1, f2, fun u k1 k2 => by
      have z := w1.hist dd u
      rw [st.base] at z
      obtain ⟨z1, _, z3⟩ := z k1 k2
      exact f3 u z1 z3⟩, s.mono ((st.trans st2).gx w), qx⟩
end
end DL
set_option Elab.async false
set_option linter.all false
set_option maxRecDepth 100000
set_option maxHeartbeats 4000000
/-! DLu: an own error over ValueError whose __init__ says super().__init__(text), then self.f = n. -/
namespace DL
open PySem L2 PyProof.Rows HT NdefX
section
variable {prog : Program} {w : World} {A : Around} {E : Value → Shared → Prop} {h : Heap} {g : Array GenState} {d : Drawn} {t : Nat} {os : OsState}
variable {nm q : Str} {C N : Addr} {bs bm : List Value} {hdct : Bool} {sn : List Str} {sub : List Value} {ab : Bool} {col : Option Bool} {dd : Option Addr} {k0 k1 k2 k3 k5 : Option Value}
theorem call_mw {u e t0 : Addr} {rest : List Value} {Q : Value → Shared → Prop}
    (hC : h.get? C = some (excClassObj nm q C N bs bm hdct sn sub ab col dd k0 k1 k2 k3 k5 "ValueError.__new__")) (he : h.get? e = some (HandSPX.excO C t0)) (hu : h.get? u = some (PySem.W.kxs_mw "ValueError.__init__" e)) (hrest : rest.length ≤ sizeLine)
    (hq : ∀ h' t1, (∀ b o, b ≠ e → h.get? b = some o → h'.get? b = some o) → h'.get? e = some (HandSPX.excO C t1) → Q .none ⟨h', g, d, t, os⟩) :
    wpAny (model prog w) A (call (.ref u) rest) Q E ⟨h, g, d, t, os⟩ := by
  refine wpAny_call (codeAny_of_tree ?_)
  show wpAny _ A.in1 (callAny (.ref u) ⟨rest, []⟩) _ _ _
  simp only [callAny]
  refine wpAny_bind (wpAny_load hu ?_)
  simp only [PySem.W.kxs_mw, show (Value.type "method-wrapper" == Value.type "method" || Value.type "method-wrapper" == Value.type "builtin_function_or_method" || Value.type "method-wrapper" == Value.type "method-wrapper") = true by decide, if_true]
  refine PySem.W.KFB.if_so (by decide) ?_
  refine wpAny_bind (ESX.check_bound F.excBase_ValueError hC he rfl ?_)
  refine wpAny_bind (wpAny_pure (wpAny_pure ?_))
  refine ⟨Code.quiet_builtin _ (by decide +kernel), codeAny_builtin F.excBase_ValueError.initEntry ?_⟩
  rw [Around.under_plainId F.excBase_ValueError.init.plain _]
  wp_walk
  refine hq _ h.objs.size (fun b o hb ho => ?_) ?_
  · rw [Heap.get?_update_other _ _ (Ne.symm hb)]
    exact Heap.get?_push_of_some _ ho
  · rw [Heap.get?_update_self _ (Heap.get?_push_of_some _ he) rfl]
    rfl
end

abbrev sSelf : Str := "self"
abbrev sCls : Str := "__class__"
/-- what stands of an error class whose __init__ says super().__init__(..), then self.fld = a parameter -/
structure SupX (P : Program) (K : PySem.W.Frag) (mg : Str → Option Value) (C fI cc c : Addr) (F : NF) (fd : FuncData) (fld pn : Str) : Prop where
  oex : OexC K C
  lk : ∃ oc od dV kV doc pm an ct osl, fd = PySem.W.fnX F.name F.qual F.params F.body F.scope F.cl dV kV doc pm an (.ref c) ct ∧ F.c = c ∧ F.cl = [(sCls, cc)] ∧ K.lookup fI = some ⟨oc, od, .func fd, osl⟩
  code : ∃ ccl cdd vs ccs file tf, K.lookup c = some ⟨ccl, cdd, .fields vs, ccs⟩ ∧ vs[2]? = some (.str file tf) ∧ ((P.main.file : Str) == file) = true
  cq : PySem.W.codeIn K (.ref c) F.qual = true
  cell : ∃ cl cld csl, K.lookup cc = some ⟨cl, cld, .cell (some (.ref C)), csl⟩
  sub : PySem.W.mroIn K C (.ref C) = some true
  ve : PySem.W.subIn K (.ref C) (.type "ValueError") = some true
  sup : PySem.W.ks_superIn K C C "__init__" = some (some (.builtin "ValueError.__init__"))
  opq : PySem.W.nsIn K cStatics "thirdparty.any" = some none
  mgS : mg "super" = none
  top : (P.main.scope.names.lookup ("super" : Str)).isSome = false
  sc : NScope [sSelf, pn, sCls] [sSelf, pn] [sCls] F.scope
  hS : F.scope.names.lookup ("super" : Str) = some .globalImplicit
  par : (F.params.posonlyargs ++ F.params.args).head?.map (·.arg) = some sSelf
  no : PySem.W.findIn K (.ref C) fld = some none
  init : PySem.W.findIn K (.ref C) "__init__" = some (some (.ref fI))
  ty : PySem.W.typeIn K (.ref fI) = some (.type "function")
  bind : Binds K fd [sSelf, pn] []
/-- the promise of __init__ -/
def spSup (K : PySem.W.Frag) (C : Addr) (fld : Str) : Sp := fun vs H Q _ => ∃ (a : Addr) (i : Int), vs = [.ref a, .int i] ∧ i.natAbs.log2 < 1920 ∧ H a = some (exo a C none) ∧ ∀ dx, H dx = none → dx ≠ a → Q .non (upd (upd H dx (exd dx [(fld, .int i)])) a (exo a C (some dx)))
section
variable {P : Program} {w : World} {K : PySem.W.Frag} {mg : Str → Option Value} {base : Heap}
theorem sup_init {C fI cc c : Addr} {F : NF} {fd : FuncData} {fld pn : Str} {a : Expr} {p0 p1 p2 p3 p4 p5 p6 p7 p8 : Pos} (T : SupX P K mg C fI cc c F fd fld pn)
    (hbody : F.body = [.Expr (.Call (.Attribute (.Call (.Name "super" p0) [] [] p1) "__init__" p2) [a] [] p3) p4, .Assign [.Attribute (.Name "self" p5) fld p6] (.Name pn p7) p8])
    (hst : nst a = true) (hsw : ∀ env, swapsWith (.Name pn p7) (some (.Attribute (.Name "self" p5) fld p6)) p8.line env = pure false) (hpd : (pn == ("__debug__" : Str)) = false) (hpc : (pn == ("__classdict__" : Str)) = false)
    (hsw2 : ∀ env, swapsWith (.Call (.Attribute (.Call (.Name "super" p0) [] [] p1) "__init__" p2) [a] [] p3) none p4.line env = pure false)
    (hev : ∀ env : Env, ∃ pl : Sem Bool, eval (.Call (.Attribute (.Call (.Name "super" p0) [] [] p1) "__init__" p2) [a] [] p3) env = (do
      let ov ← attributeBase (.Call (.Name "super" p0) [] [] p1) "__init__" env (eval (.Call (.Name "super" p0) [] [] p1) env)
      standAt p2.atName
      let (f, first) ← holding [ov] (getMethod ov "__init__" pl)
      callWith p3 f first (backTo p3 (starEach [a] env)) []))
    (ha : ∀ X : Cx, X.K = K → X.mg = mg → X.N = [sSelf, pn, sCls] → X.env.scope = F.scope → PE X a (fun σ H Q => ∃ i : Int, σ[1]? = some (some (.int i)) ∧ i.natAbs.log2 < 1920 ∧ ∀ t : Str, Q (.str t) H)) :
    FnOk P w K mg base CX0 1 fI fd [sSelf, pn] (spSup K C fld) := by
  obtain ⟨oc, od, dV, kV, doc, pm, an, ct, osl, hfd, hc, hcl, lk⟩ := T.lk
  obtain ⟨nm0, qual, params, body, scope, cl, c0⟩ := F
  have hc : c0 = c := hc
  have hcl : cl = [(sCls, cc)] := hcl
  have hbody : body = _ := hbody
  subst hc; subst hcl
  subst hfd
  have S : NScope [sSelf, pn, sCls] [sSelf, pn] [sCls] scope := T.sc
  refine ⟨fun vs H Q E h => ?_, fun A outer s H args us vs Q E hr e0 hb r hsp => ?_⟩
  · obtain ⟨a, i, e, _⟩ := h
    rw [e]
    rfl
  obtain ⟨x, i, rfl, hi, hx, q⟩ := hsp
  have KX : K.In s.heap := e0.mod.kin.keeps fun b o e => (e0.bs b o e).1
  have lim : s.heap.NoLimit := e0.mod.nolimit.keeps fun b o e => (e0.bs b o e).1
  obtain ⟨cl, cld, csl, hcell⟩ := T.cell
  obtain ⟨ccl, cdd, fvs, ccs, file, tf, hcode, hvs, hfile⟩ := T.code
  refine ks_codeAny_call_defAt hr.depth (KX _ _ lk) rfl lim (PySem.W.codeRec_of KX T.cq) rfl hb S.nocell (fun ⟨n, _⟩ hy => S.par n (List.of_mem_zip hy).1) (fun h₁ hns hk => ?_) S.co S.gen S.kind
  have hcb : H cc = none ∧ s.heap.IsCell cc (some (.ref C)) := ⟨(e0.bs cc _ (e0.mod.kin _ _ hcell)).2, ⟨_, KX _ _ hcell, rfl⟩⟩
  have CA : CellsAt [(sCls, cc)] [sCls] [none] s.heap H := by
    refine ⟨rfl, fun y c1 e => ?_, fun y z c1 e1 e2 => ?_, fun j y e => ?_⟩
    · have : c1 = cc := by
        by_cases hy : (y == sCls) = true
        · simp only [List.lookup, hy] at e
          exact (Option.some.inj e).symm
        · simp only [List.lookup, hy] at e
          cases e
      subst this
      exact ⟨hcb.1, _, hcb.2⟩
    · have h1 : ∀ {y : Str}, List.lookup y [(sCls, cc)] = some c1 → y = sCls := fun {y} e => by
        by_cases hy : (y == sCls) = true
        · exact by simpa using hy
        · simp only [List.lookup, hy] at e
          cases e
      rw [h1 e1, h1 e2]
    · cases j with
      | zero =>
        cases e
        exact ⟨cc, by simp [List.lookup], fun v hv => by cases hv⟩
      | succ j => simp at e
  have I : Inv (ncx CX0 P w K mg base [sSelf, pn, sCls] ⟨nm0, qual, params, body, scope, [(sCls, cc)], c0⟩ fI A outer s H E) [] (startF [sSelf, pn, sCls] [.ref x, .int i] [none]) H { s with heap := h₁, toks := s.toks + ([sSelf, pn].zip us).length } := inv_startN S hr.hd e0 rfl r CA hns hk
  have hKX : ∃ X, X = ncx CX0 P w K mg base [sSelf, pn, sCls] ⟨nm0, qual, params, body, scope, [(sCls, cc)], c0⟩ fI A outer s H E := ⟨_, rfl⟩
  have fin : ∀ {σ' : L2.St} {H' : Hp} {v : V} {u : Value} {s' : Shared}, Inv (ncx CX0 P w K mg base [sSelf, pn, sCls] ⟨nm0, qual, params, body, scope, [(sCls, cc)], c0⟩ fI A outer s H E) [] σ' H' s' → L2.RelV v u → Q v H' → CE outer P w H s Q u s' :=
    fun {σ' H' v u s'} J rv q => ⟨v, H', J.os, J.bare, J.base, J.hok, rv, q⟩
  show PySem.wpAt (model P w) (A.deeper (envF ⟨nm0, qual, params, body, scope, [(sCls, cc)], c0⟩ fI s.heap.objs.size)) (.func body (envF ⟨nm0, qual, params, body, scope, [(sCls, cc)], c0⟩ fI s.heap.objs.size)) (execs body (envF ⟨nm0, qual, params, body, scope, [(sCls, cc)], c0⟩ fI s.heap.objs.size)) _ _ _
  have hks : (envF ⟨nm0, qual, params, body, scope, [(sCls, cc)], c0⟩ fI s.heap.objs.size).kindOf "super" = some .globalImplicit := T.hS
  have hkc : (envF ⟨nm0, qual, params, body, scope, [(sCls, cc)], c0⟩ fI s.heap.objs.size).kindOf "__class__" = some .free := S.frk _ (List.mem_cons_self ..)
  have quiet := I.quiet
  have hsx : ∀ env : Env, execs body env = execs [.Expr (.Call (.Attribute (.Call (.Name "super" p0) [] [] p1) "__init__" p2) [a] [] p3) p4, .Assign [.Attribute (.Name "self" p5) fld p6] (.Name pn p7) p8] env := fun env => congrArg (fun b => execs b env) hbody
  rw [hsx]
  refine ks_wpAt_execs_cons (ks_wpAt_Expr_any ?_ quiet (hsw2 _))
  obtain ⟨pl, hev⟩ := hev (envF ⟨nm0, qual, params, body, scope, [(sCls, cc)], c0⟩ fI s.heap.objs.size)
  refine ks_wpAt_MethodCall (pl := pl) ?_ hev
  obtain ⟨nm, q1, N1, bs1, bm, sn, sub, ab, col, dd, k0, k1, k2, k3, k5, hC, hbm⟩ := T.oex.cls
  have hcls : PySem.W.clsIn K C = some { name := nm, bases := bs1, mro := .ref C :: bm, ns := N1, qualname := q1, hasDict := true, slotNames := sn, subclasses := sub, abstract := ab, collection := col, hasDel := false } := by unfold PySem.W.clsIn; rw [hC] <;> rfl
  obtain ⟨ar, har, harn⟩ : ∃ ar : Arg, (params.posonlyargs ++ params.args).head? = some ar ∧ ar.arg = sSelf := by
    have hp := T.par
    cases e : (params.posonlyargs ++ params.args).head? with
    | none =>
      have hp : ((params.posonlyargs ++ params.args).head?).map (·.arg) = some sSelf := hp
      rw [e] at hp; cases hp
    | some ar =>
      have hp : ((params.posonlyargs ++ params.args).head?).map (·.arg) = some sSelf := hp
      rw [e] at hp
      exact ⟨ar, rfl, Option.some.inj hp⟩
  have K1 : K.In h₁ := KX.keeps hk
  have r0 := r
  obtain ⟨u0, us1, eus, ru0, ru1⟩ : ∃ u0 us1, us = u0 :: us1 ∧ L2.RelV (.ref x) u0 ∧ Vals [.int i] us1 := by
    cases r with
    | cons r1 r2 => exact ⟨_, _, rfl, r1, r2⟩
  obtain rfl : u0 = Value.ref x := ru0
  have nd2 : [sSelf, pn].Nodup := by
    have := S.nd
    exact (List.nodup_append.mp (show ([sSelf, pn] ++ [sCls]).Nodup from this)).1
  obtain ⟨mb, hb1, hb2⟩ := e0.mod.blt
  refine ks_wpAt_super_base hks hkc (by decide) rfl (hk _ _ (KX _ _ lk)) rfl har rfl (hk _ _ (KX _ _ hcode)) rfl hvs hfile T.top ?_
  refine PySem.W.ks_loadName_global S.kind hks (Calls.loadGlobal_builtin (e0.mod.glob.keeps fun b o e => hk _ _ (e0.bs b o e).1) T.mgS (hb1.keeps fun b o e => hk _ _ (e0.bs b o e).1) ((hb2 "super" (by decide)).trans (show bootBuiltins "super" = some (.type "super") by decide +kernel)) ⟨rfl, ?_⟩)
  refine wpAny_loadName_free S.kind hkc (c := cc) (by rfl) ⟨_, K1 _ _ hcell, rfl⟩ ?_
  rw [harn]
  refine wpAny_loadName_local S.kind (S.par _ (List.mem_cons_self ..)) hns (zip_look (i := 0) nd2 rfl (by rw [eus]; rfl)) ?_
  refine ks_wpAny_isType_cls (K1 _ _ hC) rfl ⟨rfl, ?_⟩
  obtain ⟨t1, hxo⟩ := exo_at I.hok hx
  refine ks_wpAny_call_super (K1 _ _ hC) rfl hxo rfl (fun c e => by cases e) (PySem.W.looks_mroIn K1 T.sub) (fun h2 e2 k => ?_)
  have I1 := I.kept (h' := h2) (t' := s.toks + ([sSelf, pn].zip us).length) k
  have K2 : K.In h2 := K1.keeps k
  obtain ⟨t2, hxo2⟩ := exo_at I1.hok hx
  have hxC : x ≠ C := fun e => by
    have y := K2 _ _ hC
    rw [← e] at y
    rw [y] at hxo2
    cases hxo2
  have IA : PySem.W.InstAt h2 x (HandSPX.excO C t2) C none := ⟨hxo2, rfl, rfl, trivial⟩
  refine PySem.W.kxs_getMethod PySem.W.kxs_ValueError e2 (PySem.W.looks_opaque K2 T.opq) (l₀ := .ref C :: bm) ((PySem.W.looks_clsIn K2 hcls).andThen .now) rfl K2 ?_ (IA.type.andThen (PySem.W.looks_subIn K2 T.ve)) hxC (by decide) ?_
  · have := T.sup
    unfold PySem.W.ks_superIn at this
    rw [hcls] at this
    exact this
  have kp : ∀ b o, h2.get? b = some o → (h2.push (PySem.W.kxs_mw "ValueError.__init__" x)).get? b = some o := fun b o e => Heap.get?_push_of_some _ e
  have I2 := (I1.kept (h' := h2.push (PySem.W.kxs_mw "ValueError.__init__" x)) (t' := s.toks + ([sSelf, pn].zip us).length + 1) kp).pins_of (pins' := [(h2.objs.size, PySem.W.kxs_mw "ValueError.__init__" x)]) (fun p hp => by
    rw [List.mem_singleton.mp hp]
    exact ⟨Heap.get?_push_at rfl rfl, I1.hok.fresh (Nat.le_refl _), fun z => absurd I1.lt (by show ¬ _ < h2.objs.size; rw [← z]; exact Nat.lt_irrefl _), I1.nofs (Nat.le_refl _), fun v z => by cases z⟩)
  have he : starEach [a] (envF ⟨nm0, qual, params, body, scope, [(sCls, cc)], c0⟩ fI s.heap.objs.size) = (false, eval a (envF ⟨nm0, qual, params, body, scope, [(sCls, cc)], c0⟩ fI s.heap.objs.size)) :: starEach [] (envF ⟨nm0, qual, params, body, scope, [(sCls, cc)], c0⟩ fI s.heap.objs.size) := star1 hst
  have pa := pa_cons (ha (ncx CX0 P w K mg base [sSelf, pn, sCls] ⟨nm0, qual, params, body, scope, [(sCls, cc)], c0⟩ fI A outer s H E) rfl rfl rfl rfl) pa_nil he
  have pr := pa.run p3 _ _ _ H (fun vs H1 => ∃ t : Str, vs = [.str t] ∧ H1 = H) I2 ⟨i, rfl, hi, fun t => ⟨t, rfl, rfl⟩⟩
  have pr : wpAny (model P w) (A.deeper (envF ⟨nm0, qual, params, body, scope, [(sCls, cc)], c0⟩ fI s.heap.objs.size)) (spliced (backTo p3 (starEach [a] (envF ⟨nm0, qual, params, body, scope, [(sCls, cc)], c0⟩ fI s.heap.objs.size)))) _ _ _ := pr
  rw [he] at pr
  show wpAny _ _ (callWith p3 (.ref h2.objs.size) [] (backTo p3 (starEach [a] (envF ⟨nm0, qual, params, body, scope, [(sCls, cc)], c0⟩ fI s.heap.objs.size))) []) _ _ _
  rw [he]
  refine PySem.W.kxs_callWith (i := "ValueError.__init__") (x := x) rfl (Calls.evalArgs_plain (wpAny_mono pr (fun ws s3 ⟨vs, H3, I3, r3, t, e1, e2⟩ => ?_) fun _ _ z => z))
  subst e1
  rw [e2] at I3
  have pin := (I3.pin (h2.objs.size, PySem.W.kxs_mw "ValueError.__init__" x) (by simp)).1
  refine ⟨pin, ?_⟩
  obtain ⟨t3, hxo3⟩ := exo_at I3.hok hx
  obtain ⟨h3, g3, d3, tk3, os3⟩ := s3
  refine call_mw (I3.kIn _ _ hC) hxo3 pin (by rw [List.nil_append, ← r3.length, sizeLine_eq]; show 1 ≤ 16777216; omega) (fun h4 t4 k4 hxo4 => ?_)
  have J := (I3.write (t' := tk3) (x := x) (e := x) (o := exo x C none) (by rw [hx]; exact True.intro) (.inl rfl) k4 ⟨_, hxo4⟩ (exo_ok hxo4)).pins_of (pins' := []) (fun p hp => by cases hp)
  have eu : upd H x (exo x C none) = H := by
    funext b
    by_cases hb : b = x
    · rw [hb, upd_same, hx]
    · rw [upd_ne hb]
  rw [eu] at J
  refine wpAt_of_wpAny ?_
  have hself : scope.names.lookup sSelf = some .local := S.par _ (List.mem_cons_self ..)
  have ps := pss_cons (ps_ost (X := ncx CX0 P w K mg base [sSelf, pn, sCls] ⟨nm0, qual, params, body, scope, [(sCls, cc)], c0⟩ fI A outer s H E) (f := fld) (pe_var (i := 0) (x := sSelf) (pos := p5) rfl (.inl hself)) (pe_var (i := 1) (x := pn) (pos := p7) rfl (.inl (S.par _ (List.mem_cons_of_mem _ (List.mem_cons_self ..)))) hpd hpc) (hsw _)) pss_nil
  refine thn (ps.run [] _ _ H { nx := fun _ H' => Q .non H', rt := Q } J ⟨.int i, rfl, .ref x, rfl, x, C, rfl, T.oex, T.no, .inl ⟨hx, fun dx hd hne => q dx hd hne⟩⟩) fun f s' hs => ?_
  cases f with
  | ret u =>
    obtain ⟨v, σ', H', J, rv, q⟩ := hs
    exact fin J rv q
  | next =>
    obtain ⟨σ', H', J, q⟩ := hs
    exact fin (v := V.non) (u := Value.none) J rfl q
  | brk =>
    obtain ⟨_, _, _, q⟩ := hs
    exact False.elim q
  | cont =>
    obtain ⟨_, _, _, q⟩ := hs
    exact False.elim q
end
/-- how an error of this class is made, in any frame with room -/
def MkE (P : Program) (w : World) (K : PySem.W.Frag) (mg : Str → Option Value) (base : Heap) (x : Str) (C : Addr) (fld : Str) : Prop := ∀ (X : Cx), X.prog = P → X.w = w → X.K = K → X.mg = mg → X.base = base → Room 2 X.A → Gl X x → ∀ (a : Expr) (p pos : Pos), nst a = true → PMk X (.Call (.Name x p) [a] [] pos) (tMkX C fld (tWA X [a]))
theorem mke {P : Program} {w : World} {K : PySem.W.Frag} {mg : Str → Option Value} {base : Heap} {C fI cc c : Addr} {F : NF} {fd : FuncData} {fld pn x : Str} (T : SupX P K mg C fI cc c F fd fld pn) (F1 : FnOk P w K mg base CX0 1 fI fd [sSelf, pn] (spSup K C fld)) (hm : mg x = some (.ref C)) (hdb : (x == ("__debug__" : Str)) = false) : MkE P w K mg base x C fld := by
  intro X e1 e2 e3 e4 e5 hr hg a p pos hst pins s σ H Q I h
  subst e1; subst e2; subst e3; subst e4; subst e5
  refine pmk_oex T.oex T.init T.ty F1 hr T.bind .nil pass0 hg hm (pa_w (es := [a])) hdb (star1 hst) rfl pins s σ H Q I ?_
  refine tWA.imp h fun vs H1 ⟨i, e, hi, q⟩ => ?_
  subst e
  refine ⟨by show 1 ≤ 1000; omega, fun b hb => ⟨b, i, rfl, hi, upd_same, fun dx hd hne => ⟨rfl, dx, _, upd_same, by rw [upd_ne hne, upd_same], by rw [upd_ne hne] at hd; exact hd, ?_⟩⟩⟩
  have hd1 : H1 dx = none := by rw [upd_ne hne] at hd; exact hd
  have ee : upd (del (upd (upd (upd H1 b (exo b C none)) dx (exd dx [(fld, .int i)])) b (exo b C (some dx))) b) dx (.xd [(fld, .int i)]) = upd H1 dx (.xd [(fld, .int i)]) := by
    funext y
    by_cases h1 : y = dx
    · subst h1; rw [upd_same, upd_same]
    · rw [upd_ne h1, upd_ne h1]
      by_cases h2 : y = b
      · subst h2; rw [del_same, hb]
      · rw [del_ne h2, upd_ne h2, upd_ne h1, upd_ne h2]
  rw [ee]
  exact q dx hd1
end DL
set_option Elab.async false
set_option linter.all false
set_option maxRecDepth 100000
set_option maxHeartbeats 4000000
/-! DLt: tuple * 1; range with a step; a list that changes, out of a sum. -/
namespace DL
open PySem PySem.Spec L2 PyProof.Rows HT
theorem tuple_mul1 (l : Addr) (items : Array Value) (n : Nat) (sl : Array (Option Value)) (dd : Option Addr) (x : Int) (u : Tok) (c0 : (decide (x < -(2 ^ 63)) || decide (x ≥ 2 ^ 63)) = false) (c1 : (items.isEmpty || x == 1) = true) :
    Meets (Builtin.«tuple.__mul__» ⟨[.ref l, .int x u], []⟩) (fun _ R s => s.heap.get? l = some { cls := .type "tuple", dict := dd, data := .seq items n, slots := sl } ∧ R (.ok (.ret (Value.ref l))) s) :=
  .of_wp fun prog w A R s h => by
    obtain ⟨hp, g, d, tk, os⟩ := s
    obtain ⟨hl, h⟩ := h
    have f1 := AutoSeq1.idx_int
    wp_walk using wpAny_loadPart' hl
    repeat (first
      | (refine wpAny_ite_false (decide_eq_false (by rw [c0]; exact Bool.false_ne_true)) ?_; wp_walk using wpAny_loadPart' hl)
      | (refine wpAny_ite_true (decide_eq_true (by rw [c1])) ?_; wp_walk using wpAny_loadPart' hl))
    exact ⟨_, rfl, h⟩
/-- tuple * 1, or of the empty one: itself -/
def rRep1 (K : PySem.W.Frag) : R2 := fun x y H Q => ∃ l k xs, x = .ref l ∧ y = .int k ∧ SqT K H l xs ∧ (xs = [] ∨ k = 1) ∧ -(2 ^ 62) ≤ k ∧ k < 2 ^ 62 ∧ Q (.ref l) H
def rRepA (K : PySem.W.Frag) : R2 := fun x y H Q => rRepT K x y H Q ∨ rRep1 K x y H Q
section
variable {X : Cx}
theorem op_repA : OpR X (binaryOp .Mult) (rRepA X.K) := by
  intro pins s σ H x y v u Q I rx ry h
  rcases h with h | h
  · exact op_repT pins s σ H x y v u Q I rx ry h
  obtain ⟨l, k, xs, rfl, rfl, hT, h1, h2, h3, q⟩ := h
  cases rx
  obtain ⟨t, rfl⟩ := ry
  obtain ⟨its, r, ⟨⟨cls, dd, data, sl⟩, ho, hc, n, hd⟩, hs⟩ := I.tuple hT
  simp only at hc hd
  subst hc hd
  have c0 : (decide (k < -(2 ^ 63)) || decide (k ≥ 2 ^ 63)) = false := by
    rw [decide_eq_false (by omega), decide_eq_false (by omega)] <;> rfl
  have c1 : (its.toArray.isEmpty || k == 1) = true := by
    rcases h1 with h1 | h1
    · subst h1
      cases r
      rfl
    · subst h1
      rw [Bool.or_eq_true]
      exact .inr rfl
  refine wpAny_binaryOp_repeat_ref (T := "tuple") (U := "int") (by decide) ⟨_, ho, rfl⟩ (fun s' => typeIs_int s' k t) noFill_tuple_mul F.fills_int_mul F.slot_int_rmul repeat_tuple F.slot_int_index.lookup
    (call_meets F.slot_int_rmul (typeIs_int s k t) F.entry_int_rmul (F.args_int_rmul_2 _ _) (int_rmul_tuple k t l its.toArray n dd sl)
      ⟨ho, rfl, ⟨_, ho, rfl⟩, call_meets F.slot_tuple_mul ⟨_, ho, rfl⟩ F.entry_tuple_mul (F.args_tuple_mul_2 _ _) (tuple_mul1 l its.toArray n sl dd k t c0 c1) ⟨ho, ?_⟩⟩)
  exact ⟨.ref l, H, I, rfl, q⟩
end
section
variable {K : PySem.W.Frag} {M : Mem} {Q : D → Mem → Prop}
theorem od_repA {ds : List D} {i : Int} (h1 : 1 ≤ i) (h2 : i ≤ 1000) (h3 : ds.length ≤ 1000) (q : Q (.tup (List.replicate i.toNat ds).flatten) M) : OpD K (rRepA K) (.tup ds) (.int i) M Q := fun G H v u R w rx ry k => by
  cases ry
  cases rx with
  | @tup a xs _ e1 r1 =>
    by_cases h0 : xs = [] ∨ i = 1
    · have e : (List.replicate i.toNat ds).flatten = ds := by
        rcases h0 with h0 | h0
        · subst h0
          cases r1
          simp
        · subst h0
          simp
      rw [e] at q
      exact .inr ⟨_, _, xs, rfl, rfl, SqT.of (w.sub _ _ e1), h0, by omega, by omega, k _ _ (PV.here w (.tup e1 r1) q)⟩
    · have h5 : ¬ xs = [] := fun z => h0 (.inl z)
      have h6 : ¬ i = 1 := fun z => h0 (.inr z)
      exact .inl ⟨_, _, _, rfl, rfl, SqT.of (w.sub _ _ e1), h5, by omega, h2, by rw [r1.length]; exact h3, fun p hp => k _ _ (new_tup w hp (r1.rep _) q)⟩
/-- a sum of lists that may change -/
theorem od_catM {x y : D} {ds es : List D} (hx : LsD M x ds) (hy : LsD M y es) (h : ds.length + es.length ≤ sizeLine) (q : ∀ p, M p = none → Q (.ptr p) (updM M p (some (.lst (ds ++ es))))) : OpD K rCat x y M Q := fun G H v u R w rx ry k => by
  obtain ⟨a, xs, rfl, h1, r1⟩ := hx.at w rx
  obtain ⟨b, ys, rfl, h2, r2⟩ := hy.at w ry
  exact ⟨a, b, xs, ys, rfl, rfl, h1, h2, by rw [r1.length, r2.length]; exact h, fun p hp => k _ _ (new_lstM w hp (r1.append r2) q)⟩
/-- lo, lo + c, .. -/
def rngC (lo c : Int) (n : Nat) : List D := (List.range n).map fun (i : Nat) => D.int (lo + (i : Int) * c)
theorem rngC_at {lo c : Int} {n j : Nat} {d : D} (h : (rngC lo c n)[j]? = some d) : j < n ∧ d = .int (lo + (j : Int) * c) := by
  unfold rngC at h
  rw [List.getElem?_map] at h
  cases e : (List.range n)[j]? with
  | none => rw [e] at h; cases h
  | some i =>
    rw [e] at h
    have hj := (List.getElem?_eq_some_iff.mp e).1
    rw [List.length_range] at hj
    rw [List.getElem?_range hj] at e
    cases e
    exact ⟨hj, (Option.some.inj h).symm⟩
theorem rngC_len {lo c : Int} {n : Nat} : (rngC lo c n).length = n := by unfold rngC; rw [List.length_map, List.length_range]
theorem itd_rngC {G : Hp} {lo c : Int} {n : Nat} : ItD K G (Itc lo c n) (rngC lo c n) fun _ => True := fun G1 M1 H1 gx w _ i => by
  refine ⟨fun h => by rw [rngC_len] at h; exact Nat.le_of_eq h.symm, fun d hd => ?_⟩
  obtain ⟨hi, e⟩ := rngC_at hd
  subst e
  refine ⟨hi, fun x H' ⟨e1, e2⟩ => ?_⟩
  subst e1; subst e2
  exact ⟨G1, Stp.refl, w, .int _⟩
theorem rgc_up {j c : Int} (h0 : 0 ≤ j) (h1 : j < 2 ^ 30) (c0 : 0 < c) (c1 : c < 2 ^ 29) : ∃ n : Nat, RgC 0 j c n ∧ (n : Int) ≤ j ∧ ∀ i : Nat, i < n → (i : Int) * c < j := by
  have hr : Builtin.Range.rangeSize 0 j c = if 0 < j then (j - 1) / c + 1 else 0 := by
    unfold Builtin.Range.rangeSize
    rw [if_pos c0, Int.sub_zero]
  refine ⟨(if 0 < j then (j - 1) / c + 1 else 0).toNat, ⟨by omega, by omega, ?_, ?_⟩, ?_, ?_⟩
  · unfold Builtin.Range.small
    rw [hr]
    by_cases hj : 0 < j
    · rw [if_pos hj]
      have d0 : 0 ≤ (j - 1) / c := Int.ediv_nonneg (by omega) (by omega)
      have d1 : (j - 1) / c ≤ j - 1 := Int.ediv_le_self _ (by omega)
      have d2 : (j - 1) / c * c ≤ j - 1 := Int.ediv_mul_le _ (by omega)
      simp only [Builtin.Range.rangeFitsLong, Bool.and_eq_true, Bool.or_eq_true, decide_eq_true_eq, beq_iff_eq]
      rw [if_pos c0]
      simp only [Builtin.Range.rangeFitsLong, Bool.and_eq_true, decide_eq_true_eq]
      omega
    · rw [if_neg hj]
      simp [Builtin.Range.rangeFitsLong]
      omega
  · rw [hr]
    split
    · have d0 : 0 ≤ (j - 1) / c := Int.ediv_nonneg (by omega) (by omega)
      omega
    · rfl
  · split
    · have d0 : 0 ≤ (j - 1) / c := Int.ediv_nonneg (by omega) (by omega)
      have d1 : (j - 1) / c ≤ j - 1 := Int.ediv_le_self _ (by omega)
      omega
    · omega
  · intro i hi
    by_cases hj : 0 < j
    · rw [if_pos hj] at hi
      have d0 : 0 ≤ (j - 1) / c := Int.ediv_nonneg (by omega) (by omega)
      have d2 : (j - 1) / c * c ≤ j - 1 := Int.ediv_mul_le _ (by omega)
      have d3 : (i : Int) * c ≤ (j - 1) / c * c := Int.mul_le_mul_of_nonneg_right (by omega) (by omega)
      omega
    · rw [if_neg hj] at hi
      simp at hi
end
section
variable {X : Cx} {sg : Sg} {M : Mem} {tg : Expr} {pos : Pos} {Qi : List D → (Mem → Prop) → Mem → Prop}
theorem wi_rng3 {a b c : Expr} {p : Pos} (hm : X.mg "range" = none) (h : WA X [a, b, c] sg M fun ds M1 => ∃ (i j k : Int) (n : Nat), ds = [.int i, .int j, .int k] ∧ RgC i j k n ∧ Qi (rngC i k n) (fun _ => True) M1) (hg : Gl X "range" := by rfl)
    (hs : starEach [a, b, c] X.env = (false, eval a X.env) :: starEach [b, c] X.env := by exact star1 rfl) (hpl : (backTo pos (starEach [b, c] X.env)).any (·.1) = false := by exact starN rfl) : WI X tg (.Call (.Name "range" p) [a, b, c] [] pos) sg M Qi := ⟨_, pi_range3 hg hm pa_w hs hpl, fun σ H G R w s k => (h σ H G w s).imp fun vs H1 ⟨ds, G1, M1, st, w1, r1, i, j, c, n, e, b1, q⟩ => by
  subst e
  cases r1 with
  | cons r1 r2 =>
    obtain ⟨u1, u2, rfl, rv, ru⟩ := r2.two
    cases r1; cases rv; cases ru
    exact ⟨i, j, c, n, rfl, b1, k _ _ _ _ G1 M1 st w1 itd_rngC q⟩⟩
end
end DL
set_option Elab.async false
set_option linter.all false
set_option maxRecDepth 100000
set_option maxHeartbeats 4000000
/-! DLs: enumerate of a list, each pair held by one name. -/
namespace DL
open PySem PySem.Spec L2 PyProof.Rows HT
/-- an enumerate object, whatever pair it gave last -/
def EnX (h : Heap) (e it : Addr) (i : Int) : Prop := ∃ (o0 b old : Value), (o0 = .none ∨ ∃ a : Int, o0 = rawInt a) ∧ h.get? e = some { cls := .type "enumerate", dict := none, data := .fields #[o0, b, .ref it, rawInt i, .none, old], slots := #[] }
section
variable {prog : Program} {w : World} {M : Model} {A : Around} {E : Value → Shared → Prop} {s : Shared}
theorem wpAny_alive {a : Addr} {Q : Option Obj → Shared → Prop} (h : Q (s.heap.get? a) s) : wpAny M A (loadIfAlive a) Q E s := fun Γ p hΓ => by
  unfold loadIfAlive
  rw [Sem.wp_loadIfAlive]
  exact h
theorem enx_free {e it : Addr} {i : Int} {Q : Bool → Shared → Prop} (he : EnX s.heap e it i) (ht : Q true s) (hf : ∀ h', EnX h' e it i → Heap.SameBut e s.heap h' → Q false { s with heap := h' }) :
    wpAny (model prog w) A (Builtin.SmallTypes.ownedTupleIsFree (.ref e)) Q E s := by
  obtain ⟨o0, b, old, h0, he⟩ := he
  unfold Builtin.SmallTypes.ownedTupleIsFree
  rcases h0 with h0 | ⟨a, h0⟩
  · subst h0
    exact wpAny_bind (wpAny_field he rfl (x := .none) rfl (wpAny_pure ht))
  · subst h0
    refine wpAny_bind (wpAny_field he rfl (x := rawInt a) rfl ?_)
    show wpAny _ _ (loadIfAlive a.toNat >>= _) _ _ _
    refine wpAny_bind (wpAny_alive ?_)
    cases hg : s.heap.get? a.toNat with
    | none => exact wpAny_pure ht
    | some o =>
      show wpAny _ _ (field (.ref e) 1 >>= _) _ _ _
      refine wpAny_bind (wpAny_field he rfl (x := b) rfl ?_)
      by_cases hb : (b != .bool true) = true
      · rw [if_pos hb]
        refine wpAny_bind (wpAny_setField_rec he (by simp) fun h' he' hs' => ?_)
        exact wpAny_pure (hf h' ⟨rawInt a, .bool true, old, .inr ⟨a, rfl⟩, he'⟩ hs')
      · rw [if_neg hb]
        exact wpAny_pure (hf s.heap ⟨rawInt a, b, old, .inr ⟨a, rfl⟩, he⟩ ⟨rfl, fun _ _ => rfl⟩)

theorem enx_next {e it l : Addr} {i : Nat} {items : Array Value} {x : Value} {Q : Value → Shared → Prop}
    (he : EnX s.heap e it i) (hit : s.heap.IsListIter it l i) (hl : s.heap.IsList l items) (hx : items[i]? = some x) (hne : e ≠ it)
    (hQ : ∀ h', EnX h' e it ((i : Int) + 1) → h'.IsListIter it l (i + 1) → h'.get? s.heap.objs.size = some { cls := .type "tuple", data := .seq #[.int i s.toks, x] } → h'.objs.size = s.heap.objs.size + 1 →
      (∀ b o, b ≠ e → b ≠ it → s.heap.get? b = some o → h'.get? b = some o) → Q (.ref s.heap.objs.size) { s with heap := h', toks := s.toks + 1 }) :
    wpAny (model prog w) A (Builtin.«enumerate.__next__» ⟨[.ref e], []⟩) (fun fin s' => ∃ v, fin = .done (.ret v) ∧ Q v s') E s := by
  obtain ⟨hp, g, d, tk, os⟩ := s
  obtain ⟨o0, b0, old, h0, he⟩ := he
  show wpAny _ _ (field (.ref e) 2 >>= _) _ _ _
  refine wpAny_bind (wpAny_field he rfl (x := .ref it) rfl ?_)
  refine wpAny_bind (wpAny_nextOf_list_item hit hl hx fun h₁ hit₁ hs₁ => ?_)
  have he1 := (hs₁.2 e hne).trans he
  show wpAny _ _ (field (.ref e) 3 >>= _) _ _ ⟨h₁, g, d, tk, os⟩
  refine wpAny_bind (wpAny_field he1 rfl (x := rawInt i) rfl ?_)
  show wpAny _ _ (field (.ref e) 4 >>= _) _ _ ⟨h₁, g, d, tk, os⟩
  refine wpAny_bind (wpAny_field he1 rfl (x := .none) rfl ?_)
  show wpAny _ _ (mkInt i >>= _) _ _ ⟨h₁, g, d, tk, os⟩
  refine wpAny_bind (wpAny_mkInt ?_)
  show wpAny _ _ (setField (.ref e) 3 (rawInt ((i : Int) + 1)) >>= _) _ _ ⟨h₁, g, d, tk + 1, os⟩
  refine wpAny_bind (wpAny_setField_rec he1 (by simp) fun h₂ he2 hs₂ => ?_)
  show wpAny _ _ (setField (.ref e) 4 .none >>= _) _ _ ⟨h₂, g, d, tk + 1, os⟩
  refine wpAny_bind (wpAny_setField_rec he2 (by simp) fun h₃ he3 hs₃ => ?_)
  show wpAny _ _ (newTuple [.int i tk, x] >>= _) _ _ ⟨h₃, g, d, tk + 1, os⟩
  refine wpAny_bind (wpAny_newTuple ?_)
  have he4 : EnX (h₃.push { cls := .type "tuple", data := .seq #[.int i tk, x] }) e it ((i : Int) + 1) := ⟨o0, b0, old, h0, Heap.get?_push_of_some _ he3⟩
  generalize hh4 : h₃.push { cls := .type "tuple", data := .seq #[.int i tk, x] } = h₄ at he4
  replace hs₁ : Heap.SameBut it hp h₁ := hs₁
  replace hs₂ : Heap.SameBut e h₁ h₂ := hs₂
  replace hs₃ : Heap.SameBut e h₂ h₃ := hs₃
  have hsz : h₃.objs.size = hp.objs.size := by rw [hs₃.1, hs₂.1, hs₁.1]
  have hel : e < hp.objs.size := Heap.lt_size he
  have ne : hp.objs.size ≠ e := Nat.ne_of_gt hel
  have ht4 : h₄.get? hp.objs.size = some { cls := .type "tuple", data := .seq #[.int i tk, x] } := by rw [← hh4, ← hsz]; exact Heap.get?_push_size _ rfl
  have hz4 : h₄.objs.size = hp.objs.size + 1 := by rw [← hh4, Heap.size_push, hsz]
  have hk4 : ∀ b o, b ≠ e → b ≠ it → hp.get? b = some o → h₄.get? b = some o := fun b o hbe hbi hb => by
    rw [← hh4]; exact Heap.get?_push_of_some _ (hs₃.extBut b o hbe (hs₂.extBut b o hbe (hs₁.extBut b o hbi hb)))
  have hit4 : h₄.IsListIter it l (i + 1) := by
    rw [← hh4]; obtain ⟨o, ho, r⟩ := (hit₁.extBut hs₂.extBut (Ne.symm hne)).extBut hs₃.extBut (Ne.symm hne); exact ⟨o, Heap.get?_push_of_some _ ho, r⟩
  show wpAny _ _ (Builtin.SmallTypes.ownedTupleIsFree (.ref e) >>= _) _ _ ⟨h₄, g, d, tk + 1, os⟩
  rw [hsz]
  clear hh4 he3 hs₃ he2 hs₂ he1 hs₁ hit₁ hsz h₃ h₂ h₁
  refine wpAny_bind (enx_free he4 ?_ fun h₅ he5 hs5 => ?_)
  · simp only [if_true]
    obtain ⟨o1, b1, old1, h1, he4⟩ := he4
    refine wpAny_bind (wpAny_rule ?_)
    refine wpAny_bind (wpAny_field he4 rfl (x := old1) rfl ?_)
    refine wpAny_bind (wpAny_setField_rec he4 (by simp) fun h₅ he5 hs5 => ?_)
    replace hs5 : Heap.SameBut e h₄ h₅ := hs5
    show wpAny _ _ (Builtin.SmallTypes.ownedTupleHandOut (.ref e) (.ref hp.objs.size) >>= _) _ _ ⟨h₅, g, d, tk + 1, os⟩
    refine wpAny_bind ?_
    unfold Builtin.SmallTypes.ownedTupleHandOut
    refine wpAny_bind (wpAny_setField_rec he5 (by simp) fun h₆ he6 hs6 => ?_)
    replace hs6 : Heap.SameBut e h₅ h₆ := hs6
    refine wpAny_setField_rec he6 (by simp) fun h₇ he7 hs7 => ?_
    replace hs7 : Heap.SameBut e h₆ h₇ := hs7
    refine wpAny_bind (wpAny_letGo (wpAny_pure ⟨_, rfl, hQ h₇ ⟨rawInt hp.objs.size, .bool false, x, .inr ⟨_, rfl⟩, he7⟩ ?_ ?_ ?_ ?_⟩))
    · exact ((hit4.extBut hs5.extBut (Ne.symm hne)).extBut hs6.extBut (Ne.symm hne)).extBut hs7.extBut (Ne.symm hne)
    · exact hs7.extBut _ _ ne (hs6.extBut _ _ ne (hs5.extBut _ _ ne ht4))
    · rw [hs7.1, hs6.1, hs5.1, hz4]
    · exact fun b o hbe hbi hb => hs7.extBut b o hbe (hs6.extBut b o hbe (hs5.extBut b o hbe (hk4 b o hbe hbi hb)))
  · replace hs5 : Heap.SameBut e h₄ h₅ := hs5
    simp only [Bool.false_eq_true, if_false]
    refine wpAny_pure ⟨_, rfl, hQ h₅ he5 (hit4.extBut hs5.extBut (Ne.symm hne)) (hs5.extBut _ _ ne ht4) (by rw [hs5.1, hz4]) fun b o hbe hbi hb => hs5.extBut b o hbe (hk4 b o hbe hbi hb)⟩
theorem enx_pyNext {e it l : Addr} {i : Nat} {items : Array Value} {x : Value} {Q : Option Value → Shared → Prop}
    (he : EnX s.heap e it i) (hit : s.heap.IsListIter it l i) (hl : s.heap.IsList l items) (hx : items[i]? = some x) (hne : e ≠ it)
    (hQ : ∀ h', EnX h' e it ((i : Int) + 1) → h'.IsListIter it l (i + 1) → h'.get? s.heap.objs.size = some { cls := .type "tuple", data := .seq #[.int i s.toks, x] } → h'.objs.size = s.heap.objs.size + 1 →
      (∀ b o, b ≠ e → b ≠ it → s.heap.get? b = some o → h'.get? b = some o) → Q (some (.ref s.heap.objs.size)) { s with heap := h', toks := s.toks + 1 }) :
    wpAny (model prog w) A (pyNext (.ref e)) Q E s := by
  have hT : s.TypeIs (.ref e) "enumerate" := let ⟨_, _, _, _, q⟩ := he; ⟨_, q, rfl⟩
  unfold pyNext
  exact wpAny_bind (wpAny_attempt (wpAny_callSpecial?_slot (name := Str.ofString "__next__") hT F.slot_enumerate_next
    (wpAny_call_entry F.slot_enumerate_next hT F.entry_enumerate_next
      (enx_next he hit hl hx hne fun h' a b c d k => wpAny_pure (hQ h' a b c d k)) (F.args_enumerate_next_1 _))))
theorem enx_end {e it l : Addr} {i : Nat} {items : Array Value} {Q : Option Value → Shared → Prop} (hh : A.handled = none)
    (he : EnX s.heap e it i) (hit : s.heap.IsListIter it l i) (hl : s.heap.IsList l items) (hx : items[i]? = none)
    (hQ : ∀ h', Heap.ExtBut it s.heap h' → Q none { s with heap := h' }) : wpAny (model prog w) A (pyNext (.ref e)) Q E s := by
  obtain ⟨o0, b0, old, h0, he⟩ := he
  have hT : s.TypeIs (.ref e) "enumerate" := ⟨_, he, rfl⟩
  unfold pyNext
  refine wpAny_bind (wpAny_attempt (wpAny_callSpecial?_slot (name := Str.ofString "__next__") hT F.slot_enumerate_next
    (wpAny_call_entry F.slot_enumerate_next hT F.entry_enumerate_next ?_ (F.args_enumerate_next_1 _))))
  show wpAny _ _ (field (.ref e) 2 >>= _) _ _ _
  refine wpAny_bind (wpAny_field he rfl (x := .ref it) rfl ?_)
  refine wpAny_bind (wpAny_nextOf_list_end hh hit hl hx fun h' x he' hx' => ?_)
  obtain ⟨o, ho, hc⟩ := hx'
  refine wpAny_bind (wpAny_isInstance (T := "StopIteration") (b := true) ⟨o, ho, hc⟩ isSubtype_stop ?_)
  exact wpAny_pure (hQ _ he')
end
/-- the turns, each pair under one name -/
theorem turn_enx {P : Program} {w : World} {K : PySem.W.Frag} {x : Str} {px : Pos} (a e it : Addr) :
    Turn P w K (.Name x px) (Ite K a) [e, it] e (fun i h => EnX h e it ((i : Nat) : Int) ∧ h.IsListIter it a i ∧ e ≠ it) where
  mem := by simp
  obj := fun i h st b hb => by
    obtain ⟨⟨_, _, _, _, he⟩, ⟨o, ho, hc, hd⟩, _⟩ := st
    have e' : b = e ∨ b = it := by simpa using hb
    rcases e' with z | z
    · rw [z]; exact ⟨_, he, fun v q => nomatch q⟩
    · rw [z]; exact ⟨o, ho, fun v q => by rw [hd] at q; cases q⟩
  keep := fun i h h' st k => let ⟨⟨o0, b0, old, h0, he⟩, hi, hne⟩ := st; ⟨⟨o0, b0, old, h0, k e (by simp) _ he⟩, hi.at fun o q => k it (by simp) o q, hne⟩
  item := by
    intro X hP hw hK hc i pins s σ H E I hf st hg
    subst hP hw hK
    obtain ⟨he, hit, hne⟩ := st
    obtain ⟨xs, y, hq, hx⟩ := hg
    obtain ⟨its, rv, p, hz⟩ := I.list hq
    obtain ⟨u, hu, ru⟩ := rv.get hx
    have hel : e < s.heap.objs.size := by obtain ⟨_, _, _, _, q⟩ := he; exact Heap.lt_size q
    have hil : it < s.heap.objs.size := by obtain ⟨_, q, _⟩ := hit; exact Heap.lt_size q
    refine enx_pyNext he hit p.isList (x := u) (by simpa using hu) hne fun h' ho hit' hT hsz hk => ?_
    refine ⟨_, rfl, ?_⟩
    show wpAny _ _ (pure ()) _ _ _
    refine wpAny_pure ?_
    have new : ObjOk X.prog X.w (upd H s.heap.objs.size (.tup [.int (i : Nat), y])) h' s.heap.objs.size (.tup [.int (i : Nat), y]) :=
      ⟨by show 2 ≤ sizeLine; decide, [.int i s.toks, u], .cons ⟨_, rfl⟩ (.cons ru .nil), ⟨_, hT, rfl, _, rfl⟩⟩
    have I1 : Inv X pins σ (upd H s.heap.objs.size (.tup [.int (i : Nat), y])) { s with heap := h', toks := s.toks + 1 } :=
      I.turnedNew (ch := [e, it]) (fun b ob hb q => hk b ob (fun z => hb (by simp [z])) (fun z => hb (by simp [z])) q) hf (Nat.le_refl _) new
    refine ⟨.ref s.heap.objs.size, _, I1, rfl, ⟨_, y, rfl, I.hok.fresh (Nat.le_refl _), rfl, fun ys hy => by rw [I.list_inj hy hq]; exact hx⟩, ⟨?_, hit', hne⟩, fun b hb => ?_⟩
    · have e1 : ((i + 1 : Nat) : Int) = (i : Int) + 1 := by omega
      rw [e1]; exact ho
    · have hb' : b < s.heap.objs.size := by
        have e' : b = e ∨ b = it := by simpa using hb
        rcases e' with z | z
        · rw [z]; exact hel
        · rw [z]; exact hil
      rw [upd_ne (Nat.ne_of_lt hb')]
      exact (hf b hb).1
  done := by
    intro X hP hw hK hc i pins s σ H E I hf st hg
    subst hP hw hK
    obtain ⟨he, hit, hne⟩ := st
    obtain ⟨xs, hq, hx⟩ := hg
    obtain ⟨its, rv, p, hz⟩ := I.list hq
    obtain ⟨f0, f1, f2, f3, f4, f5⟩ := hf it (by simp)
    have hl := rv.length
    exact enx_end (I.ok.hd hc) he hit p.isList (by simp; omega) fun h' eb => ⟨rfl, I.turned (t' := s.toks) (fun b o hb q => eb b o hb q) f0 f1 f3 f4 f5⟩
  self := fun A i s Q E st h => by
    obtain ⟨⟨o0, b0, old, h0, he⟩, _⟩ := st
    have hT : s.TypeIs (.ref e) "enumerate" := ⟨_, he, rfl⟩
    refine wpAny_pyIter_slot hT F.slot_enumerate_iter (wpAny_call_entry F.slot_enumerate_iter hT F.entry_enumerate_iter ?_ (F.args_enumerate_iter_1 _))
    show wpAny _ _ (ret (.ref e)) _ _ s
    exact wpAny_pure ⟨_, rfl, "enumerate", _, hT, F.slot_enumerate_next.lookup, h⟩
theorem pi_enx {X : Cx} {e : Expr} {ta : TA} {p pos px : Pos} {x : Str} (hg : Gl X "enumerate") (hm : X.mg "enumerate" = none) (ha : PA X [e] ta) (hs : starEach [e] X.env = [(false, eval e X.env)] := by rfl) :
    PI X (.Name x px) (.Call (.Name "enumerate" p) [e] [] pos) (iEnum X.K ta) := by
  refine ⟨fun pins s σ H R I h => ?_⟩
  refine Call_ (ld_blt I hg hm boot_enumerate (PyProof.Rows.callWith_type1 (thn (ha.run pos pins s σ H _ I h) fun us s1 ⟨vs, H1, I1, r1, q1⟩ => ?_) hs rfl))
  obtain ⟨a, xs, ex, hq, q⟩ := q1
  subst ex
  cases r1 with
  | cons r rr =>
    cases rr
    cases r
    obtain ⟨its, rv, p', hz⟩ := I1.list hq
    refine call_enumerate_list p'.isList fun h' he hit hsz hk => wpAny_pyIter_enum he ?_
    have I2 : Inv X pins σ H1 { s1 with heap := h' } := I1.kept (t' := s1.toks) hk
    refine ⟨s1.heap.objs.size + 1, [s1.heap.objs.size + 1, s1.heap.objs.size], _, _, H1, rfl, I2, turn_enx a (s1.heap.objs.size + 1) s1.heap.objs.size, ⟨⟨.none, .bool false, .none, .inl rfl, he⟩, hit, Nat.succ_ne_self _⟩, fun b hb => ?_, q⟩
    have e' : b = s1.heap.objs.size + 1 ∨ b = s1.heap.objs.size := by simpa using hb
    have hle : s1.heap.objs.size ≤ b := by
      rcases e' with z | z
      · rw [z]; exact Nat.le_add_right _ _
      · rw [z]; exact Nat.le_refl _
    exact I1.fpOk hle (I1.hok.fresh hle)
theorem wi_enx {X : Cx} {sg : Sg} {M : Mem} {Qi : List D → (Mem → Prop) → Mem → Prop} {e : Expr} {p px pos : Pos} {x : Str} (hm : X.mg "enumerate" = none) (h : WA X [e] sg M fun xs M1 => ∃ x ds, xs = [x] ∧ LsD M1 x ds ∧ Qi (enumD ds) (fun M => LsD M x ds) M1) (hg : Gl X "enumerate" := by rfl) (hs : starEach [e] X.env = [(false, eval e X.env)] := by exact star1n rfl) : WI X (.Name x px) (.Call (.Name "enumerate" p) [e] [] pos) sg M Qi := ⟨_, pi_enx hg hm pa_w hs, fun σ H G R w s k => (h σ H G w s).imp fun vs H1 ⟨xs, G1, M1, st, w1, r1, x, ds, e, l1, q⟩ => by
  subst e
  obtain ⟨v, rfl, rv⟩ := r1.one
  obtain ⟨a, ys, rfl, h1, rx⟩ := l1.at w1 rv
  refine ⟨a, ys, rfl, SqL.of h1, k _ _ _ _ G1 M1 st w1 (fun G2 M2 H2 gx w2 l2 i => ?_) q⟩
  obtain ⟨b, zs, e, h2, rz⟩ := l2.at w2 (rv.mono gx)
  cases e
  have hl : (enumD ds).length = ds.length := by unfold enumD; rw [List.length_mapIdx]
  refine ⟨fun hi => ⟨zs, SqL.of h2, by rw [rz.length]; rw [hl] at hi; exact Nat.le_of_eq hi.symm⟩, fun d hd => ?_⟩
  obtain ⟨c, hc, ec⟩ : ∃ c, ds[i]? = some c ∧ d = .tup [.int (i : Int), c] := by
    unfold enumD at hd
    rw [List.getElem?_mapIdx] at hd
    cases e : ds[i]? with
    | none => rw [e] at hd; cases hd
    | some c => rw [e] at hd; exact ⟨c, rfl, (Option.some.inj hd).symm⟩
  subst ec
  obtain ⟨z, hz, rd⟩ := rz.get hc
  refine ⟨⟨zs, z, SqL.of h2, hz⟩, fun t H' ⟨T, y, e1, e2, e3, e4⟩ => ?_⟩
  subst e1; subst e3
  have e := (e4 zs (SqL.of h2)).symm.trans hz
  cases e
  exact new_pair w2 e2 (.int _) rd⟩
end DL
set_option Elab.async false
set_option linter.all false
set_option maxRecDepth 100000
set_option maxHeartbeats 4000000
/-! DLr: truth of ints and lists, x in a list, list.index, min of pairs, a comprehension's list that changes. -/
namespace DL
open PySem PySem.Spec L2 PyProof.Rows HT
/-! ### ints as data -/
theorem toPyA_int : ∀ ns : List Int, toPyA (ns.map D.int) = ns.map PyData.int
  | [] => rfl
  | n :: ns => congrArg (PyData.int n :: ·) (toPyA_int ns)
theorem plA_int : ∀ ns : List Int, plA (ns.map D.int) = true
  | [] => rfl
  | n :: ns => by
    show (pl (D.int n) && plA (ns.map D.int)) = true
    rw [plA_int ns]; rfl
theorem lay_int : ∀ ns : List Int, PyData.canLayAll0 (ns.map PyData.int) = true
  | [] => rfl
  | n :: ns => by
    show (PyData.canLay0 (.int n) && PyData.canLayAll0 (ns.map PyData.int)) = true
    rw [lay_int ns]; rfl
theorem depth_int : ∀ ns : List Int, PyData.depthAll (ns.map PyData.int) = 0
  | [] => rfl
  | n :: ns => by
    show max (PyData.depth (.int n)) (PyData.depthAll (ns.map PyData.int)) = 0
    rw [depth_int ns]; rfl
theorem shapedL_int (ns : List Int) : SeqAt.shaped (.list (ns.map PyData.int)) = true := by
  refine Bool.and_eq_true_iff.mpr ⟨lay_int ns, decide_eq_true ?_⟩
  show PyData.depthAll (ns.map PyData.int) + 1 ≤ 64
  rw [depth_int]
  decide
theorem pyd_ints {M : Mem} {x : D} {ns : List Int} (h : LsD M x (ns.map .int)) : PyD M x (.list (ns.map PyData.int)) := .inr ⟨_, h, plA_int ns, by rw [toPyA_int]⟩
theorem eqv_int (a b : Int) : PyData.eqv (.int a) (.int b) = decide (a = b) := by simp [PyData.eqv]; rfl
section
variable {X : Cx} {sg : Sg} {M : Mem} {K : PySem.W.Frag} {Q : D → Mem → Prop} {Qb : Bool → Mem → Prop}
/-! ### truth -/
theorem wt_tru {e : Expr} {Qa : D → Mem → Prop} (h : WE X e sg M Qa) (hk : ∀ d M1, Qa d M1 → ∃ k, (∀ G H v, Wd X.K G M1 H → Rp X.K G v d → TruV X.K v H k) ∧ Qb k M1) (he : ∀ whole, isTrue e X.env whole = (do let v ← whole; standAt e.pos; holding [v] (truthy v)) := by intro _; rfl) : WT X e sg M Qb :=
  WT.of (pt_truth pe_w he) fun σ H G w s => (h σ H G w s).imp fun v H1 ⟨d, G1, M1, st, w1, r1, q⟩ => by
    obtain ⟨k, hk1, hk2⟩ := hk d M1 q
    exact ⟨k, hk1 G1 H1 v w1 r1, G1, M1, st, w1, hk2⟩
theorem et_truI {e : Expr} {i : Int} (h : EE X e sg M (.int i)) (he : ∀ whole, isTrue e X.env whole = (do let v ← whole; standAt e.pos; holding [v] (truthy v)) := by intro _; rfl) : ET X e sg M (i != 0) := wt_tru h (fun d M1 ⟨e1, e2⟩ => ⟨_, fun G H v w r => by
  subst e1
  cases r
  rfl, rfl, e2⟩) he
theorem et_truL {e : Expr} {x : D} {ds : List D} (h : EE X e sg M x) (hl : LsD M x ds) (he : ∀ whole, isTrue e X.env whole = (do let v ← whole; standAt e.pos; holding [v] (truthy v)) := by intro _; rfl) : ET X e sg M (!ds.isEmpty) := wt_tru h (fun d M1 ⟨e1, e2⟩ => ⟨_, fun G H v w r => by
  subst e1; subst e2
  obtain ⟨a, xs, rfl, h1, r1⟩ := hl.at w r
  refine .inl ⟨xs, SqL.of h1, ?_⟩
  cases r1 <;> rfl, rfl, e2⟩) he
/-! ### in, index -/
theorem od_in {x y : D} {d : PyData} {ds : List PyData} (hx : PyD M x d) (hy : PyD M y (.list ds)) (sd : SeqAt.shaped d = true) (se : SeqAt.shaped (.list ds) = true) (q : Q (.bl (ds.any fun z => PyData.eqv z d)) M) : OpD K (rInD K) x y M Q := fun G H v u R w rx ry k =>
  ⟨d, ds, hx.dp w rx, hy.dp w ry, sd, se, k _ _ (PV.here w (.bl _) q)⟩
theorem md_index {x : D} {ns : List Int} {n : Int} {j : Nat} (h : LsD M x (ns.map .int)) (hj : ns[j]? = some n) (hf : ∀ m, m < j → ns[m]? ≠ some n) (q : Q (.int (j : Int)) M) : MtD K (rIndexD K) x [.int n] M Q := fun G H v vs R w rv rs k => by
  obtain ⟨u, rfl, ru⟩ := rs.one
  cases ru
  have hd := (pyd_ints h).dp w rv
  obtain ⟨a, xs, rfl, h1, r1⟩ := h.at w rv
  refine ⟨a, _, _, ns.map PyData.int, j, .int n, rfl, rfl, hd, .int n, shapedL_int ns, rfl, by rw [List.getElem?_map, hj]; rfl, by rw [eqv_int]; simp, fun m z' hm hz => ?_, k _ _ (PV.here w (.int _) q)⟩
  rw [List.getElem?_map] at hz
  cases e : ns[m]? with
  | none => rw [e] at hz; cases hz
  | some y =>
    rw [e] at hz
    have hz := Option.some.inj hz
    subst hz
    rw [eqv_int]
    refine decide_eq_false fun z => ?_
    rw [z] at e
    exact hf m hm e
/-! ### min of pairs -/
def lexI (p q : Int × Int) : Bool := decide (p.1 < q.1 ∨ (p.1 = q.1 ∧ p.2 < q.2))
def minP (p : Int × Int) (ps : List (Int × Int)) : Int × Int := ps.foldl (fun a y => if lexI y a then y else a) p
def pPy (p : Int × Int) : PyData := .tuple [.int p.1, .int p.2]
theorem minP_py (p : Int × Int) : ∀ ps : List (Int × Int), PySem.W.minD (pPy p) (ps.map pPy) = pPy (minP p ps) := by
  intro ps
  unfold PySem.W.minD minP
  induction ps generalizing p with
  | nil => rfl
  | cons q r ih =>
    rw [List.map_cons, List.foldl_cons, List.foldl_cons, ← ih]
    congr 1
    show (if PySem.W.dataLt (pPy q) (pPy p) = true then pPy q else pPy p) = _
    unfold pPy
    rw [PySem.W.dataLt_ii]
    unfold lexI
    split <;> rfl
theorem toPyA_pr : ∀ ps : List (Int × Int), toPyA (ps.map DL.pairD) = ps.map pPy
  | [] => rfl
  | p :: ps => congrArg (pPy p :: ·) (toPyA_pr ps)
theorem alike_pr (ps : List (Int × Int)) : PySem.W.AlikeAll (ps.map pPy) := by
  refine ⟨fun x hx y hy => ?_, fun x hx => ?_⟩
  · obtain ⟨p, _, rfl⟩ := List.mem_map.mp hx
    obtain ⟨q, _, rfl⟩ := List.mem_map.mp hy
    unfold pPy
    simp [PySem.W.alike, PySem.W.alikeAll]
  · obtain ⟨p, _, rfl⟩ := List.mem_map.mp hx
    intro z; cases z
def rMinP (K : PySem.W.Frag) : List V → Hp → VK → Prop := fun vs H Q => ∃ (a : Addr) (xs : List V) (p : Int × Int) (ps : List (Int × Int)), vs = [V.ref a] ∧ SqL K H a xs ∧ DpAll K H xs ((p :: ps).map pPy) ∧ ∀ (i : Nat) (v : V), xs[i]? = some v → (p :: ps)[i]? = some (minP p ps) → Q v H
theorem cr_minP (hc : X.calm = true) (hu : X.A.units + 65 < cLine) : CallR X (.builtin "min") (rMinP X.K) := by
  intro pins s σ H vs us Q I r h
  obtain ⟨a, xs, p, ps, rfl, hs, ha, q⟩ := h
  obtain ⟨its, rv, hl, _⟩ := I.list hs
  rw [Vals.ref1 r]
  obtain ⟨as, hr⟩ := Dp.readsAll I _ _ its ha rv
  rw [List.map_cons] at hr
  have dep : PyData.depthAll (pPy p :: ps.map pPy) ≤ 1 := by
    have gen : ∀ l : List (Int × Int), PyData.depthAll (l.map pPy) ≤ 1 := by
      intro l
      induction l with
      | nil => exact Nat.zero_le _
      | cons q l ih =>
        show max (PyData.depth (pPy q)) (PyData.depthAll (l.map pPy)) ≤ 1
        have : PyData.depth (pPy q) ≤ 1 := Nat.le_of_ble_eq_true rfl
        omega
    exact gen (p :: ps)
  refine PySem.W.min_list_data (I.ok.hd hc) hl.isList hr (alike_pr (p :: ps)) (by omega) fun i v h' tk bs hi hrd hk => ?_
  rw [minP_py] at hrd
  have hi : its[i]? = some v := by simpa using hi
  obtain ⟨y, hy, ry⟩ : ∃ y, xs[i]? = some y ∧ RelV y v := by
    have hlt := (List.getElem?_eq_some_iff.mp hi).1
    have hl2 := rv.length
    cases e : xs[i]? with
    | none => rw [List.getElem?_eq_none_iff] at e; omega
    | some y =>
      obtain ⟨u, hu, ru⟩ := rv.get e
      rw [hi] at hu
      cases hu
      exact ⟨y, rfl, ru⟩
  obtain ⟨bs2, rd2, hlt2, _, _⟩ := PySem.W.readsAll_at hr i v hi
  have rd3 := PySem.W.reads_keeps hk rd2
  have ee := (Reads.unique rd3 _ _ hrd).1
  have hpi : (p :: ps)[i]? = some (minP p ps) := by
    rw [← List.map_cons] at hlt2 ee
    have hlt3 : i < (p :: ps).length := by rw [List.length_map] at hlt2; exact hlt2
    rw [List.getD_eq_getElem?_getD, List.getElem?_map, List.getElem?_eq_getElem hlt3] at ee
    rw [List.getElem?_eq_getElem hlt3]
    have ee : pPy (p :: ps)[i] = pPy (minP p ps) := ee
    unfold pPy at ee
    simp at ee
    exact congrArg some (Prod.ext ee.1 ee.2)
  exact ⟨y, H, I.kept (t' := tk) hk, ry, q i y hy hpi⟩
theorem cd_minP {x : D} {p : Int × Int} {ps : List (Int × Int)} (h : LsD M x ((p :: ps).map DL.pairD)) (q : Q (DL.pairD (minP p ps)) M) : ClD K (rMinP K) [x] M Q := fun G H vs R w r k => by
  obtain ⟨v, rfl, rv⟩ := r.one
  obtain ⟨a, xs, rfl, h1, r1⟩ := h.at w rv
  refine ⟨a, xs, p, ps, rfl, SqL.of h1, ?_, fun i v hv hp => k _ _ ?_⟩
  · have := dp_all w.sub r1 (plA_pairs (p :: ps))
    rw [toPyA_pr] at this
    exact this
  · obtain ⟨d, hd, rd⟩ := r1.getV hv
    rw [List.getElem?_map, hp] at hd
    have hd := Option.some.inj hd
    subst hd
    exact PV.here w rd q
end
/-! ### a comprehension's list that changes -/
section
variable {X : Cx} {sg : Sg} {M : Mem} {K : PySem.W.Frag} {Q : D → Mem → Prop} {tg : Expr} {pos : Pos} {Qi : List D → (Mem → Prop) → Mem → Prop}
theorem Wd.adoptM {G H : Hp} {M : Mem} {p : Addr} {xs : List V} {ds : List D} (w : Wd K G M H) (h : H p = some (.lst xs)) (g : G p = none) (m : M p = none) (r : RpA K G xs ds) (hb : ∀ u, M.b.H p = some u → M.b.M p = none → False) : Wd K G (updM M p (some (.lst ds))) H := by
  refine ⟨w.sub, fun x mo e => ?_, fun x u e e2 => ?_⟩
  · by_cases hx : x = p
    · subst hx
      rw [updM_same] at e
      cases e
      exact ⟨g, xs, h, r⟩
    · rw [updM_ne hx] at e
      exact w.mem _ _ e
  · have hx : x ≠ p := fun z => by subst z; exact hb u e e2
    obtain ⟨h1, h2, h3⟩ := w.hist x u e e2
    exact ⟨h1, h2, by rw [updM_ne hx]; exact h3⟩
theorem lc_runM {elt : Expr} {ifs : List Expr} {scope : Scope} {vs : List Nat} {wi : TI} (hw : ∀ (σ : L2.St) (H G : Hp) (R : It → Hp → Prop), Wd X.K G M H → SRp X.K G sg σ → (∀ J H' ds C G' M', Stp G M H G' M' H' → Wd X.K G' M' H' → ItD X.K G' J ds C → Qi ds C M' → R J H') → wi σ H R)
    (hif : ifs.length ≤ 1) (h : ∀ ds C M0, Qi ds C M0 → ∃ Pv : Nat → List D → Mem → Prop, Pv 0 [] M0 ∧ (∀ i acc M1, Pv i acc M1 → C M1 ∧ acc.length < sizeLine) ∧ (∀ i d acc M1, ds[i]? = some d → Pv i acc M1 → LcTurn X scope vs tg elt ifs sg d M1 (fun y M3 => Pv (i + 1) (acc ++ [y]) M3) (fun M3 => Pv (i + 1) acc M3)) ∧ ∀ acc M1, Pv ds.length acc M1 → ∀ p, M1 p = none → Q (.ptr p) (updM M1 p (some (.lst acc))))
    {σ : L2.St} {H G : Hp} {R : VK} (w : Wd X.K G M H) (s : SRp X.K G sg σ) (k : ∀ v H', PV X.K G M H Q v H' → R v H') : tLc wi (gB X scope tg) (testsB X scope ifs) (teB X scope elt) vs σ H R := by
  refine hw σ H G _ w s fun J H0 ds C G0 M0 st0 w0 it q => fun p hp => ?_
  obtain ⟨Pv, p0, pC, turn, fin⟩ := h ds C M0 q
  obtain ⟨g0, m0⟩ := w0.free hp
  have s0 := s.mono (st0.gx w)
  have st1 : Stp G0 M0 H0 G0 M0 (upd H0 p (.lst [])) := ⟨fun x o e m => ⟨by rw [upd_ne (ne_of_none e hp)]; exact e, rfl, m⟩, rfl⟩
  have hf0 : ∀ u, M0.b.H p = some u → M0.b.M p = none → False := fun u e m => w0.fresh hp e m
  refine ⟨fun i m H1 => m = ds.length - i ∧ i ≤ ds.length ∧ ∃ G1 M1 acc xs, Stp G0 M0 H0 G1 M1 H1 ∧ Gx G0 G1 ∧ Wd X.K G1 M1 H1 ∧ H1 p = some (.lst xs) ∧ G1 p = none ∧ M1 p = none ∧ RpA X.K G1 xs acc ∧ Pv i acc M1, ⟨ds.length, rfl, Nat.zero_le _, G0, M0, [], [], st1, Gx.refl _, w0.other g0 m0 hf0, upd_same, g0, m0, .nil, p0⟩, ?_⟩
  rintro i m H1 ⟨rfl, hle, G1, M1, acc, xs, st1, gx1, w1, h1, g1, m1, ra, p1⟩
  obtain ⟨stop, go⟩ := it G1 M1 H1 gx1 w1 (pC _ _ _ p1).1 i
  by_cases hlt : i < ds.length
  · obtain ⟨go1, yld⟩ := go ds[i] (List.getElem?_eq_getElem hlt)
    refine .inr ⟨go1, fun H2 => ∃ G2 M2 acc2 xs2, Stp G0 M0 H0 G2 M2 H2 ∧ Gx G0 G2 ∧ Wd X.K G2 M2 H2 ∧ H2 p = some (.lst xs2) ∧ G2 p = none ∧ M2 p = none ∧ RpA X.K G2 xs2 acc2 ∧ Pv (i + 1) acc2 M2, fun H2 n => ⟨ds.length - (i + 1), by omega, rfl, hlt, n⟩, fun x H' hy => ?_⟩
    obtain ⟨G2, st2, w2, rx⟩ := yld x H' hy
    obtain ⟨h2, g2, _⟩ := st2.keep p _ h1 m1
    obtain ⟨is, sg2, hv, hg, QB, ht, he, hf⟩ := turn i ds[i] acc M1 (List.getElem?_eq_getElem hlt) p1
    have gx2 : Gx G1 G2 := st2.gx w1
    have sw : SRp X.K G2 (wipeD sg vs) (wipe σ vs) := wipe_rp (s0.mono (gx1.trans gx2)) vs
    have body : ∀ σ2 : L2.St, SRp X.K G2 sg2 σ2 → ∀ b H3, PB X.K G2 M1 H' QB b H3 → if b = true then teB X scope elt σ2 H3 (fun y H4 => ∃ acc, H4 p = some (.lst acc) ∧ acc.length < sizeLine ∧ ∃ G2 M2 acc2 xs2, Stp G0 M0 H0 G2 M2 (upd H4 p (.lst (acc ++ [y]))) ∧ Gx G0 G2 ∧ Wd X.K G2 M2 (upd H4 p (.lst (acc ++ [y]))) ∧ (upd H4 p (.lst (acc ++ [y]))) p = some (.lst xs2) ∧ G2 p = none ∧ M2 p = none ∧ RpA X.K G2 xs2 acc2 ∧ Pv (i + 1) acc2 M2)
        else ∃ G2 M2 acc2 xs2, Stp G0 M0 H0 G2 M2 H3 ∧ Gx G0 G2 ∧ Wd X.K G2 M2 H3 ∧ H3 p = some (.lst xs2) ∧ G2 p = none ∧ M2 p = none ∧ RpA X.K G2 xs2 acc2 ∧ Pv (i + 1) acc2 M2 := fun σ2 s2 b H3 ⟨G3, M3, st3, w3, q3⟩ => by
      obtain ⟨h3, g3, m3⟩ := st3.keep p _ h2 m1
      have gx3 : Gx G2 G3 := st3.gx w2
      cases b with
      | true =>
        rw [if_pos rfl]
        intro t H5 C5 cl fp
        refine (he M3 q3 t H5 C5 cl fp σ2 H3 G3 w3 (s2.mono gx3)).imp fun y H4 ⟨d, G4, M4, st4, w4, r4, q4⟩ => ?_
        obtain ⟨h4, g4, m4⟩ := st4.keep p _ h3 m3
        have gx4 : Gx G3 G4 := st4.gx w3
        have g4' : G4 p = none := by rw [g4, g3, g2, g1]
        have stA := ((st1.trans st2).trans st3).trans st4
        refine ⟨xs, h4, by rw [ra.length]; exact (pC _ _ _ p1).2, G4, M4, acc ++ [d], xs ++ [y], ⟨fun z o e m => ?_, stA.base⟩, gx1.trans (gx2.trans (gx3.trans gx4)), w4.other g4' m4 (by rw [stA.base]; exact hf0), upd_same, g4', m4, (ra.mono (gx2.trans (gx3.trans gx4))).append (.cons r4 .nil), q4⟩
        obtain ⟨a1, a2, a3⟩ := stA.keep z o e m
        exact ⟨by rw [upd_ne (ne_of_none e hp)]; exact a1, a2, a3⟩
      | false =>
        rw [if_neg Bool.false_ne_true]
        exact ⟨G3, M3, acc, xs, (st1.trans st2).trans st3, gx1.trans (gx2.trans gx3), w3, h3, by rw [g3, g2, g1], m3, ra.mono (gx2.trans gx3), hf M3 q3⟩
    intro t H5 C5 cl fp
    refine hg t H5 C5 cl fp (wipe σ vs) H' G2 M1 x _ w2 sw rx fun σ2 s2 l2 o2 => ⟨wipe_same hv l2 o2, ?_⟩
    match ifs, hif, ht with
    | [], _, ht => exact body σ2 s2 true H' ⟨G2, M1, Stp.refl, w2, ht t H5 C5 cl fp⟩
    | [c], _, ht => exact fun t H5 C5 cl fp => (ht t H5 C5 cl fp σ2 H' G2 w2 s2).imp fun b H3 q => body σ2 s2 b H3 q
    | _ :: _ :: _, hif, _ => exact absurd hif (by simp)
  · have e : i = ds.length := by omega
    subst e
    have wM := w1.adoptM (ds := acc) h1 g1 m1 ra (by rw [st1.base]; exact hf0)
    refine .inl ⟨stop rfl, k _ _ (PV.base st0 ⟨.ptr p, G1, updM M1 p (some (.lst acc)), ⟨fun z o e m => ?_, st1.base⟩, wM, .ptr p, fin acc M1 p1 p m1⟩)⟩
    obtain ⟨a1, a2, a3⟩ := st1.keep z o e m
    exact ⟨a1, a2, by rw [updM_ne (ne_of_none e hp)]; exact a3⟩
abbrev LcOkM (X : Cx) (scope : Scope) (vs : List Nat) (tg elt : Expr) (ifs : List Expr) (sg : Sg) (Qi : List D → (Mem → Prop) → Mem → Prop) (Q : D → Mem → Prop) : Prop :=
  ∀ ds C M0, Qi ds C M0 → ∃ Pv : Nat → List D → Mem → Prop, Pv 0 [] M0 ∧ (∀ i acc M1, Pv i acc M1 → C M1 ∧ acc.length < sizeLine) ∧ (∀ i d acc M1, ds[i]? = some d → Pv i acc M1 → LcTurn X scope vs tg elt ifs sg d M1 (fun y M3 => Pv (i + 1) (acc ++ [y]) M3) (fun M3 => Pv (i + 1) acc M3)) ∧ ∀ acc M1, Pv ds.length acc M1 → ∀ p, M1 p = none → Q (.ptr p) (updM M1 p (some (.lst acc)))
theorem ws_setLcM {E : EndsD} (i : Nat) {y : Str} {py : Pos} {iter elt : Expr} {ifs : List Expr} {scope : Scope} {spos : Pos} (own : List (Str × Nat)) (hc : X.calm = true) (hN : X.N.Nodup) (ok : BlkOk X.N X.env.scope scope own) (hi : WI X tg iter sg M Qi) (h : LcOkM X scope (own.map (·.2)) tg elt ifs sg Qi fun d M1 => E.nx (sg.set i (some d)) M1) (hif : ifs.length ≤ 1 := by decide)
    (hy : X.N[i]? = some y := by rfl) (hyl : X.env.scope.names.lookup y = some .local := by rfl) (hsw : swapsWith (.ListComp elt [⟨tg, iter, ifs, 0⟩] scope pos) (some (.Name y py)) spos.line X.env = pure true := by exact sw_true rfl rfl rfl (by decide +kernel)) (hs : ∀ x, foldedSetIterable iter X.env x = pure x := by intro _; rfl) : WS X (.Assign [.Name y py] (.ListComp elt [⟨tg, iter, ifs, 0⟩] scope pos) spos) sg M E := by
  obtain ⟨wi, pi, hw⟩ := hi
  refine WS.of (ps_setLc hc hN hy hyl hsw pi ok blk_pg (blk_pts hif) blk_pe hs) fun σ H G w s => lc_runM (Q := fun d M1 => E.nx (sg.set i (some d)) M1) hw hif h w s fun v H' q => ?_
  obtain ⟨d, G1, M1, st, w1, r1, q⟩ := q
  exact ⟨_, G1, M1, st, w1, (s.mono (st.gx w)).set i r1, q⟩
end
section
variable {X : Cx} {sg : Sg} {M : Mem} {E : EndsD} {pos : Pos}
theorem ws_par3 (i j l : Nat) {x y z : Str} {a b c : Expr} {px py pz pt : Pos} {kt k2 : Nat} {pt2 : Pos} (hc : X.calm = true) (hN : X.N.Nodup) (h : WA X [a, b, c] sg M fun ds M1 => ∃ d e f, ds = [d, e, f] ∧ E.nx (((sg.set i (some d)).set j (some e)).set l (some f)) M1) (hi : X.N[i]? = some x := by rfl) (hj : X.N[j]? = some y := by rfl) (hl : X.N[l]? = some z := by rfl) (hij : i ≠ j := by decide) (hil : i ≠ l := by decide) (hjl : j ≠ l := by decide)
    (hx : X.env.scope.names.lookup x = some .local := by rfl) (hy : X.env.scope.names.lookup y = some .local := by rfl) (hz : X.env.scope.names.lookup z = some .local := by rfl) (hw : swappedStores [.Tuple [.Name x px, .Name y py, .Name z pz] kt pt] (.Tuple [a, b, c] k2 pt2) X.env = pure (some [x, y, z]) := by rfl) (hs : swapsWithSole [.Tuple [.Name x px, .Name y py, .Name z pz] kt pt] (.Tuple [a, b, c] k2 pt2) pos.line X.env = pure false := by rfl) : WS X (.Assign [.Tuple [.Name x px, .Name y py, .Name z pz] kt pt] (.Tuple [a, b, c] k2 pt2) pos) sg M E :=
  WS.of (ps_par3 hc hN hi hj hl hij hil hjl hx hy hz pa_w hw hs) fun σ H G w s => (h σ H G w s).imp fun vs H1 ⟨ds, G1, M1, st, w1, r1, d, e, f, eq, q⟩ => by
    subst eq
    cases r1 with
    | cons r1 r2 =>
      obtain ⟨v, u, rfl, rv, ru⟩ := r2.two
      exact ⟨_, v, u, rfl, _, G1, M1, st, w1, (((s.mono (st.gx w)).set i r1).set j rv).set l ru, q⟩
end
end DL
set_option Elab.async false
set_option linter.all false
set_option maxRecDepth 100000
set_option maxHeartbeats 4000000
namespace DL
open PySem L2 PyProof.Rows PySem.Spec
/-! ### zip of a tuple, a list and a tuple of one length -/
def Itz3 (K : PySem.W.Frag) (a b c : Addr) (n : Nat) : It :=
  ⟨fun i H => ∃ (xs ys zs : List V) (x y z : V), (SqT K H a xs ∧ SqL K H b ys ∧ SqT K H c zs) ∧ (xs.length = n ∧ ys.length = n ∧ zs.length = n) ∧ xs[i]? = some x ∧ ys[i]? = some y ∧ zs[i]? = some z,
    fun i H v H' => ∃ T x y z, v = .ref T ∧ H T = none ∧ H' = upd H T (.tup [x, y, z]) ∧ (∀ xs, SqT K H a xs → xs[i]? = some x) ∧ (∀ ys, SqL K H b ys → ys[i]? = some y) ∧ ∀ zs, SqT K H c zs → zs[i]? = some z,
    fun i H => ∃ xs ys zs : List V, (SqT K H a xs ∧ SqL K H b ys ∧ SqT K H c zs) ∧ (xs.length = n ∧ ys.length = n ∧ zs.length = n) ∧ i = n⟩
theorem turn_zip3 {P : Program} {w : World} {K : PySem.W.Frag} {elts : List Expr} {kk : Nat} {tpos : Pos} {n : Nat} {a b c z TI TO i1 i2 i3 : Addr} (S : ZipSep3 z TI TO i1 i2 i3 [i1, a] [i2, b] [i3, c]) (ha : a ≠ i1) (hb : b ≠ i2) (hcc : c ≠ i3) :
    Turn P w K (.Tuple elts kk tpos) (Itz3 K a b c n) [z, TI, TO, i1, i2, i3] z (fun i h => IsZip h z TI TO .none ∧ IsTupOf3 h TI (.ref i1) (.ref i2) (.ref i3) ∧ (∃ x y u, IsTupOf3 h TO x y u) ∧ h.IsTupleIter i1 a i ∧ h.IsListIter i2 b i ∧ h.IsTupleIter i3 c i) where
  mem := by simp
  obj := fun i h st x hx => by
    obtain ⟨hz, hTI, ⟨x1, x2, x3, hTO⟩, ⟨o1, e1, _, d1⟩, ⟨o2, e2, _, d2⟩, ⟨o3, e3, _, d3⟩⟩ := st
    have e' : x = z ∨ x = TI ∨ x = TO ∨ x = i1 ∨ x = i2 ∨ x = i3 := by simpa using hx
    rcases e' with q | q | q | q | q | q
    · rw [q]; exact ⟨_, hz, fun v q => nomatch q⟩
    · rw [q]; exact ⟨_, hTI, fun v q => nomatch q⟩
    · rw [q]; exact ⟨_, hTO, fun v q => nomatch q⟩
    · rw [q]; exact ⟨o1, e1, fun v q => by rw [d1] at q; cases q⟩
    · rw [q]; exact ⟨o2, e2, fun v q => by rw [d2] at q; cases q⟩
    · rw [q]; exact ⟨o3, e3, fun v q => by rw [d3] at q; cases q⟩
  keep := fun i h h' st k => by
    obtain ⟨hz, hTI, ⟨x1, x2, x3, hTO⟩, h1, h2, h3⟩ := st
    exact ⟨k z (by simp) _ hz, k TI (by simp) _ hTI, ⟨x1, x2, x3, k TO (by simp) _ hTO⟩, h1.at fun o q => k i1 (by simp) o q, h2.at fun o q => k i2 (by simp) o q, h3.at fun o q => k i3 (by simp) o q⟩
  item := by
    intro X hP hw hK hc i pins s σ H E I hf st hg
    subst hP hw hK
    obtain ⟨hz, hTI, ⟨x1, x2, x3, hTO⟩, h1, h2, h3⟩ := st
    obtain ⟨xs, ys, zs, x, y, u, ⟨hqx, hqy, hqz⟩, _, hx, hy, hu⟩ := hg
    obtain ⟨its, rv, p, _⟩ := I.tuple hqx
    obtain ⟨its2, rv2, p2, _⟩ := I.list hqy
    obtain ⟨its3, rv3, p3, _⟩ := I.tuple hqz
    obtain ⟨u1, hu1, ru1⟩ := rv.get hx
    obtain ⟨u2, hu2, ru2⟩ := rv2.get hy
    obtain ⟨u3, hu3, ru3⟩ := rv3.get hu
    have hh : X.A.in1.handled = none := I.ok.hd hc
    have hzl : z < s.heap.objs.size := Heap.lt_size hz
    have lt1 := (List.getElem?_eq_some_iff.mp hu1).1
    have lt2 := (List.getElem?_eq_some_iff.mp hu2).1
    have lt3 := (List.getElem?_eq_some_iff.mp hu3).1
    refine wpAny_pyNext_zipD3_item S (Draws.tuple hh i1 a ha its.toArray) (Draws.list hh i2 b hb its2.toArray) (Draws.tuple hh i3 c hcc its3.toArray) hz hTI hTO ⟨h1, p⟩ ⟨h2, p2.isList⟩ ⟨h3, p3⟩ (by simpa using lt1) (by simpa using lt2) (by simpa using lt3) fun v1 v2 v3 h' tk q1 q2 q3 z' TO' s1 s2 s3 hT hsz hk => ?_
    have e1 : v1 = u1 := by simpa [hu1] using q1.symm
    have e2 : v2 = u2 := by simpa [hu2] using q2.symm
    have e3 : v3 = u3 := by simpa [hu3] using q3.symm
    subst e1; subst e2; subst e3
    refine ⟨_, rfl, wpAny_letOwnedTupleGo_zip (s := { s with heap := h', toks := tk }) z' fun h'' z'' sb => ?_⟩
    have hT2 : h''.get? s.heap.objs.size = some { cls := .type "tuple", data := .seq #[v1, v2, v3] } := (sb.2 _ (Nat.ne_of_gt hzl)).trans hT
    have new : ObjOk X.prog X.w (upd H s.heap.objs.size (.tup [x, y, u])) h'' s.heap.objs.size (.tup [x, y, u]) :=
      ⟨by show 3 ≤ sizeLine; decide, [v1, v2, v3], .cons ru1 (.cons ru2 (.cons ru3 .nil)), ⟨_, hT2, rfl, _, rfl⟩⟩
    have I1 : Inv X pins σ (upd H s.heap.objs.size (.tup [x, y, u])) { s with heap := h'', toks := tk } :=
      I.turnedNew (t' := tk) (ch := [z, TI, TO, i1, i2, i3]) (fun c o hb q => (sb.2 c (fun q' => hb (by simp [q']))).trans (hk c o (fun q' => hb (by simp [q'])) (fun q' => hb (by simp [q'])) (fun q' => hb (by simp [q'])) (fun q' => hb (by simp [q'])) (fun q' => hb (by simp [q'])) q)) hf (Nat.le_refl _) new
    refine ⟨.ref s.heap.objs.size, _, I1, rfl, ⟨_, x, y, u, rfl, I.hok.fresh (Nat.le_refl _), rfl, fun l hl => by rw [I.tuple_inj hl hqx]; exact hx, fun l hl => by rw [I.list_inj hl hqy]; exact hy, fun l hl => by rw [I.tuple_inj hl hqz]; exact hu⟩, ⟨z'', ?_, ⟨v1, v2, v3, ?_⟩, ?_, ?_, ?_⟩, fun c hcm => ?_⟩
    · exact (sb.2 _ S.TIz).trans (hk _ _ S.TIz S.TITO S.TIi1 S.TIi2 S.TIi3 hTI)
    · exact (sb.2 _ S.TOz).trans TO'
    · exact s1.1.at fun o q => (sb.2 _ (Ne.symm S.zi1)).trans q
    · exact s2.1.at fun o q => (sb.2 _ (Ne.symm S.zi2)).trans q
    · exact s3.1.at fun o q => (sb.2 _ (Ne.symm S.zi3)).trans q
    · have hlt : c < s.heap.objs.size := by
        have e' : c = z ∨ c = TI ∨ c = TO ∨ c = i1 ∨ c = i2 ∨ c = i3 := by simpa using hcm
        rcases e' with q | q | q | q | q | q
        · rw [q]; exact hzl
        · rw [q]; exact Heap.lt_size hTI
        · rw [q]; exact Heap.lt_size hTO
        · rw [q]; obtain ⟨_, e1, _⟩ := h1; exact Heap.lt_size e1
        · rw [q]; obtain ⟨_, e2, _⟩ := h2; exact Heap.lt_size e2
        · rw [q]; obtain ⟨_, e3, _⟩ := h3; exact Heap.lt_size e3
      rw [upd_ne (Nat.ne_of_lt hlt)]
      exact (hf c hcm).1
  done := by
    intro X hP hw hK hc i pins s σ H E I hf st hg
    subst hP hw hK
    obtain ⟨hz, hTI, ⟨x1, x2, x3, hTO⟩, h1, h2, h3⟩ := st
    obtain ⟨xs, ys, zs, ⟨hqx, hqy, hqz⟩, ⟨lx, ly, lz⟩, hend⟩ := hg
    obtain ⟨its, rv, p, _⟩ := I.tuple hqx
    obtain ⟨its2, rv2, p2, _⟩ := I.list hqy
    obtain ⟨its3, rv3, p3, _⟩ := I.tuple hqz
    have hh : X.A.in1.handled = none := I.ok.hd hc
    have l1 := rv.length
    have l2 := rv2.length
    have l3 := rv3.length
    refine wpAny_pyNext_zipD3_end S (Draws.tuple hh i1 a ha its.toArray) (Draws.list hh i2 b hb its2.toArray) (Draws.tuple hh i3 c hcc its3.toArray) hz hTI hTO ⟨h1, p⟩ ⟨h2, p2.isList⟩ ⟨h3, p3⟩ (by simp; omega) (by simp; omega) (by simp; omega) (.inl (by simp; omega)) fun h' tk hk => ⟨rfl, I.turnedL (t' := tk) (ch := [z, TI, TO, i1, i2, i3]) (fun c o hb q =>
      hk c o (fun q' => hb (by simp [q'])) (fun q' => hb (by simp [q'])) (fun q' => hb (by simp [q'])) (fun q' => hb (by simp [q'])) (fun q' => hb (by simp [q'])) q) hf⟩
  self := fun A i s Q E st h => wpAny_pyIter_zip st.1 h
def iZip3 (K : PySem.W.Frag) (ta : TA) : TI := fun σ H R => ta σ H fun vs H1 => ∃ a b c xs ys zs n, vs = [.ref a, .ref b, .ref c] ∧ (SqT K H1 a xs ∧ SqL K H1 b ys ∧ SqT K H1 c zs) ∧ R (Itz3 K a b c n) H1
theorem pi_zip3 {X : Cx} {e e2 e3 : Expr} {ta : TA} {p pos tpos : Pos} {elts : List Expr} {kk : Nat} (hg : Gl X "zip") (hm : X.mg "zip" = none) (ha : PA X [e, e2, e3] ta)
    (hs : starEach [e, e2, e3] X.env = (false, eval e X.env) :: starEach [e2, e3] X.env := by rfl) (hpl : (backTo pos (starEach [e2, e3] X.env)).any (·.1) = false := by rfl) :
    PI X (.Tuple elts kk tpos) (.Call (.Name "zip" p) [e, e2, e3] [] pos) (iZip3 X.K ta) := by
  refine ⟨fun pins s σ H R I h => ?_⟩
  refine Call_ (ld_blt I hg hm PyProof.Rows.boot_zip (PyProof.Rows.callWith_type1 (thn (ha.run pos pins s σ H _ I h) fun us s1 ⟨vs, H1, I1, r1, q1⟩ => ?_) hs hpl))
  obtain ⟨a, b, c, xs, ys, zs, n, ex, ⟨hqx, hqy, hqz⟩, q⟩ := q1
  subst ex
  cases r1 with
  | cons r rr =>
    cases rr with
    | cons r' rr =>
      cases rr with
      | cons r'' rr =>
        cases rr
        cases r
        cases r'
        cases r''
        obtain ⟨its, rv, p1, _⟩ := I1.tuple hqx
        obtain ⟨its2, rv2, p2, _⟩ := I1.list hqy
        obtain ⟨its3, rv3, p3, _⟩ := I1.tuple hqz
        obtain ⟨o1, ho1, _⟩ := id p1
        obtain ⟨o3, ho3, _⟩ := id p3
        have la := Heap.lt_size ho1
        have lb : b < s1.heap.objs.size := p2.lt
        have lc := Heap.lt_size ho3
        refine zip_begins3 (begins_tuple a its.toArray) (begins_list b its2.toArray) (begins_tuple c its3.toArray) p1 p2.isList p3 fun h' hz hTI hTO g1 g2 g3 hsz hk => wpAny_pyIter_zip hz ?_
        have I2 : Inv X pins σ H1 { s1 with heap := h' } := I1.kept (t' := s1.toks) fun c o e => hk c o e
        refine ⟨s1.heap.objs.size + 5, [s1.heap.objs.size + 5, s1.heap.objs.size + 3, s1.heap.objs.size + 4, s1.heap.objs.size, s1.heap.objs.size + 1, s1.heap.objs.size + 2], _, _, H1, rfl, I2, turn_zip3 (zip_sep3 (by simpa using la) (by simpa using lb) (by simpa using lc)) (Nat.ne_of_lt la) (Nat.ne_of_lt (Nat.lt_succ_of_lt lb)) (Nat.ne_of_lt (Nat.lt_succ_of_lt (Nat.lt_succ_of_lt lc))), ⟨hz, hTI, ⟨_, _, _, hTO⟩, ⟨_, g1, rfl, rfl⟩, ⟨_, g2, rfl, rfl⟩, ⟨_, g3, rfl, rfl⟩⟩, fun x hx => ?_, q⟩
        have e' : x = s1.heap.objs.size + 5 ∨ x = s1.heap.objs.size + 3 ∨ x = s1.heap.objs.size + 4 ∨ x = s1.heap.objs.size ∨ x = s1.heap.objs.size + 1 ∨ x = s1.heap.objs.size + 2 := by simpa using hx
        have hle : s1.heap.objs.size ≤ x := by
          rcases e' with z | z | z | z | z | z
          · rw [z]; exact Nat.le_add_right _ _
          · rw [z]; exact Nat.le_add_right _ _
          · rw [z]; exact Nat.le_add_right _ _
          · rw [z]; exact Nat.le_refl _
          · rw [z]; exact Nat.le_add_right _ _
          · rw [z]; exact Nat.le_add_right _ _
        exact I1.fpOk hle (I1.hok.fresh hle)
def zip3D (ds gs es : List D) : List D := (List.range gs.length).map fun i => .tup [ds.getD i .non, gs.getD i .non, es.getD i .non]
section
variable {X : Cx} {sg : Sg} {M : Mem} {K : PySem.W.Frag} {Q : D → Mem → Prop} {tg : Expr} {pos : Pos} {Qi : List D → (Mem → Prop) → Mem → Prop}
theorem new_trip {G1 H1 : Hp} {M1 : Mem} {T : Addr} {x y z : V} {d e f : D} (w : Wd K G1 M1 H1) (hT : H1 T = none) (rx : Rp K G1 x d) (ry : Rp K G1 y e) (rz : Rp K G1 z f) : ∃ G', Stp G1 M1 H1 G' M1 (upd H1 T (.tup [x, y, z])) ∧ Wd K G' M1 (upd H1 T (.tup [x, y, z])) ∧ Rp K G' (.ref T) (.tup [d, e, f]) := by
  obtain ⟨w', st⟩ := w.new hT (o := .tup [x, y, z])
  exact ⟨_, st, w', .tup upd_same (RpA.mono (gx_new w hT) (.cons rx (.cons ry (.cons rz .nil))))⟩
theorem at_getD {ds : List D} {i : Nat} {d : D} (h : ds[i]? = some d) : ds.getD i .non = d := by rw [List.getD_eq_getElem?_getD, h]; rfl
theorem wi_zip3 {e e2 e3 : Expr} {p tpos : Pos} {elts : List Expr} {kk : Nat} (hm : X.mg "zip" = none) (h : WA X [e, e2, e3] sg M fun xs M1 => ∃ ds y gs es, xs = [.tup ds, y, .tup es] ∧ LsD M1 y gs ∧ ds.length = gs.length ∧ es.length = gs.length ∧ Qi (zip3D ds gs es) (fun M => LsD M y gs) M1) (hg : Gl X "zip" := by rfl)
    (hs : starEach [e, e2, e3] X.env = (false, eval e X.env) :: starEach [e2, e3] X.env := by exact star1 rfl) (hpl : (backTo pos (starEach [e2, e3] X.env)).any (·.1) = false := by exact starN rfl) : WI X (.Tuple elts kk tpos) (.Call (.Name "zip" p) [e, e2, e3] [] pos) sg M Qi := ⟨_, pi_zip3 hg hm pa_w hs hpl, fun σ H G R w s k => (h σ H G w s).imp fun vs H1 ⟨xs, G1, M1, st, w1, r1, ds, y, gs, es, e, l1, n1, n2, q⟩ => by
  subst e
  cases r1 with
  | cons ra r1 =>
    obtain ⟨v, u, rfl, rv, ru⟩ := r1.two
    cases ra with
    | @tup a xs _ h1 rx =>
      cases ru with
      | @tup c zs _ h3 rz =>
        obtain ⟨b, ys, rfl, h2, ry⟩ := l1.at w1 rv
        refine ⟨a, b, c, xs, ys, zs, gs.length, rfl, ⟨SqT.of (w1.sub _ _ h1), SqL.of h2, SqT.of (w1.sub _ _ h3)⟩, k _ _ _ _ G1 M1 st w1 (fun G2 M2 H2 gx w2 l2 i => ?_) q⟩
        obtain ⟨b', ys', e, h2', ry2⟩ := l2.at w2 (rv.mono gx)
        cases e
        have g1 : SqT X.K H2 a xs := SqT.of (w2.sub _ _ (gx _ _ h1))
        have g3 : SqT X.K H2 c zs := SqT.of (w2.sub _ _ (gx _ _ h3))
        have rx2 := rx.mono gx
        have rz2 := rz.mono gx
        have hzl : (zip3D ds gs es).length = gs.length := by unfold zip3D; rw [List.length_map, List.length_range]
        refine ⟨fun hi => ⟨xs, ys', zs, ⟨g1, SqL.of h2', g3⟩, ⟨by rw [rx2.length, n1], ry2.length, by rw [rz2.length, n2]⟩, by rw [hi, hzl]⟩, fun d hd => ?_⟩
        have hi : i < gs.length := by
          have := (List.getElem?_eq_some_iff.mp hd).1
          rw [hzl] at this
          exact this
        have ea : ds[i]? = some ds[i] := List.getElem?_eq_getElem (by omega)
        have eb : gs[i]? = some gs[i] := List.getElem?_eq_getElem hi
        have ec : es[i]? = some es[i] := List.getElem?_eq_getElem (by omega)
        have ed : d = .tup [ds[i], gs[i], es[i]] := by
          unfold zip3D at hd
          rw [List.getElem?_map, List.getElem?_range hi] at hd
          have hd : d = .tup [ds.getD i .non, gs.getD i .non, es.getD i .non] := (Option.some.inj hd).symm
          rw [at_getD ea, at_getD eb, at_getD ec] at hd
          exact hd
        subst ed
        obtain ⟨z1, hz1, rd1⟩ := rx2.get ea
        obtain ⟨z2, hz2, rd2⟩ := ry2.get eb
        obtain ⟨z3, hz3, rd3⟩ := rz2.get ec
        refine ⟨⟨xs, ys', zs, z1, z2, z3, ⟨g1, SqL.of h2', g3⟩, ⟨by rw [rx2.length, n1], ry2.length, by rw [rz2.length, n2]⟩, hz1, hz2, hz3⟩, fun t H' ⟨T, y1, y2, y3, e1, e2, e3, e4, e5, e6⟩ => ?_⟩
        subst e1; subst e3
        have q1 := (e4 xs g1).symm.trans hz1
        have q2 := (e5 ys' (SqL.of h2')).symm.trans hz2
        have q3 := (e6 zs g3).symm.trans hz3
        cases q1; cases q2; cases q3
        exact new_trip w2 e2 rd1 rd2 rd3⟩
/-! ### ints and None as data -/
def opD : Option Nat → D
  | none => .non
  | some n => .int (n : Int)
def opPy : Option Nat → PyData
  | none => .none
  | some n => .int (n : Int)
theorem toPyA_op : ∀ l : List (Option Nat), toPyA (l.map opD) = l.map opPy
  | [] => rfl
  | none :: l => congrArg (PyData.none :: ·) (toPyA_op l)
  | some n :: l => congrArg (PyData.int (n : Int) :: ·) (toPyA_op l)
theorem plA_op : ∀ l : List (Option Nat), plA (l.map opD) = true
  | [] => rfl
  | none :: l => plA_op l
  | some n :: l => plA_op l
theorem lay_op : ∀ l : List (Option Nat), PyData.canLayAll0 (l.map opPy) = true
  | [] => rfl
  | none :: l => by
    show (PyData.canLay0 .none && PyData.canLayAll0 (l.map opPy)) = true
    rw [lay_op l]; rfl
  | some n :: l => by
    show (PyData.canLay0 (.int n) && PyData.canLayAll0 (l.map opPy)) = true
    rw [lay_op l]; rfl
theorem depth_op : ∀ l : List (Option Nat), PyData.depthAll (l.map opPy) = 0
  | [] => rfl
  | none :: l => by
    show max (PyData.depth .none) (PyData.depthAll (l.map opPy)) = 0
    rw [depth_op l]; rfl
  | some n :: l => by
    show max (PyData.depth (.int n)) (PyData.depthAll (l.map opPy)) = 0
    rw [depth_op l]; rfl
theorem shapedL_op (l : List (Option Nat)) : SeqAt.shaped (.list (l.map opPy)) = true := by
  refine Bool.and_eq_true_iff.mpr ⟨lay_op l, decide_eq_true ?_⟩
  show PyData.depthAll (l.map opPy) + 1 ≤ 64
  rw [depth_op]
  decide
theorem pyd_ops {M : Mem} {x : D} {l : List (Option Nat)} (h : LsD M x (l.map opD)) : PyD M x (.list (l.map opPy)) := .inr ⟨_, h, plA_op l, by rw [toPyA_op]⟩
theorem eqv_op (o : Option Nat) (n : Nat) : PyData.eqv (opPy o) (.int (n : Int)) = decide (o = some n) := by
  cases o with
  | none => rfl
  | some m =>
    show PyData.eqv (.int (m : Int)) (.int (n : Int)) = _
    rw [eqv_int]
    exact decide_eq_decide.mpr ⟨fun h => by rw [Int.ofNat.inj h], fun h => by rw [Option.some.inj h]⟩
theorem md_indexO {x : D} {l : List (Option Nat)} {n : Nat} {j : Nat} (h : LsD M x (l.map opD)) (hj : l[j]? = some (some n)) (hf : ∀ m, m < j → l[m]? ≠ some (some n)) (q : Q (.int (j : Int)) M) : MtD K (rIndexD K) x [.int (n : Int)] M Q := fun G H v vs R w rv rs k => by
  obtain ⟨u, rfl, ru⟩ := rs.one
  cases ru
  have hd := (pyd_ops h).dp w rv
  obtain ⟨a, xs, rfl, h1, r1⟩ := h.at w rv
  refine ⟨a, _, _, l.map opPy, j, .int n, rfl, rfl, hd, .int n, shapedL_op l, rfl, by rw [List.getElem?_map, hj]; rfl, by rw [eqv_int]; simp, fun m z' hm hz => ?_, k _ _ (PV.here w (.int _) q)⟩
  rw [List.getElem?_map] at hz
  cases e : l[m]? with
  | none => rw [e] at hz; cases hz
  | some y =>
    rw [e] at hz
    have hz := Option.some.inj hz
    subst hz
    rw [eqv_op]
    exact decide_eq_false fun z => hf m hm (by rw [e, z])
end
section
variable {X : Cx} {scope : Scope} {elt : Expr} {sg : Sg} {x y z : Str} {px py pz pt : Pos} {kt : Nat}
/-- a turn whose target is three names -/
theorem turn3 (i j l : Nat) {ifs : List Expr} {vs : List Nat} {a b c : D} {M1 : Mem} {QT : D → Mem → Prop} {QF : Mem → Prop} (hv : i ∈ vs) (hw : j ∈ vs) (hu : l ∈ vs) (hc : X.calm = true) (hN : X.N.Nodup) (hx : scope.names.lookup x = some .local ∨ scope.names.lookup x = some .cell) (hi : X.N[i]? = some x) (hy : scope.names.lookup y = some .local ∨ scope.names.lookup y = some .cell) (hj : X.N[j]? = some y) (hz : scope.names.lookup z = some .local ∨ scope.names.lookup z = some .cell) (hl : X.N[l]? = some z)
    (QB : Bool → Mem → Prop) (ht : Blk X scope fun Y => WTs Y ifs ((((wipeD sg vs).set i (some a)).set j (some b)).set l (some c)) M1 QB) (he : ∀ M2, QB true M2 → Blk X scope fun Y => WE Y elt ((((wipeD sg vs).set i (some a)).set j (some b)).set l (some c)) M2 QT) (hf : ∀ M2, QB false M2 → QF M2) : LcTurn X scope vs (.Tuple [.Name x px, .Name y py, .Name z pz] kt pt) elt ifs sg (.tup [a, b, c]) M1 QT QF := by
  refine ⟨[i] ++ ([j] ++ ([l] ++ [])), (((wipeD sg vs).set i (some a)).set j (some b)).set l (some c), fun r hr => ?_, fun s H C cl fp => wg_tup hc (wgs_cons (blk_name (vs := vs) i hN hx hi s H C cl fp) (wgs_cons (blk_name (vs := vs) j hN hy hj s H C cl fp) (wgs_cons (blk_name (vs := vs) l hN hz hl s H C cl fp) wgs_nil))), QB, ht, he, hf⟩
  simp only [List.cons_append, List.nil_append, List.mem_cons, List.not_mem_nil, or_false] at hr
  rcases hr with rfl | rfl | rfl
  · exact hv
  · exact hw
  · exact hu
end
end DL
set_option Elab.async false
set_option linter.all false
set_option maxRecDepth 100000
set_option maxHeartbeats 4000000
namespace DL
open PySem L2 PyProof.Rows
def fst3 : D → D
  | .tup (a :: _) => a
  | _ => .non
def snd3 : D → D
  | .tup (_ :: b :: _) => b
  | _ => .non
def thd3 : D → D
  | .tup (_ :: _ :: c :: _) => c
  | _ => .non
section
variable {X : Cx} {scope : Scope} {iter elt : Expr} {sg : Sg} {M : Mem} {ds : List D} {x y z : Str} {px py pz pt pos : Pos} {kt : Nat} {K : PySem.W.Frag} {Q : D → Mem → Prop}
/-- [elt for x, y, z in iter] -/
theorem ee_lc3 (i j r : Nat) (f : D → D → D → D) (hc : X.calm = true) (hN : X.N.Nodup) (hi : WI X (.Tuple [.Name x px, .Name y py, .Name z pz] kt pt) iter sg M (ItQ ds M)) (hz : ds.length < sizeLine) (h : ∀ (l : Nat) (d : D), ds[l]? = some d → ∃ a b c, d = .tup [a, b, c] ∧ Blk X scope fun Y => EE Y elt ((((wipeD sg [i, j, r]).set i (some a)).set j (some b)).set r (some c)) M (f a b c))
    (ok : BlkOk X.N X.env.scope scope [(x, i), (y, j), (z, r)] := by exact blkOk_by (by with_unfolding_all rfl)) (hx : scope.names.lookup x = some .local ∨ scope.names.lookup x = some .cell := by first | exact Or.inl rfl | exact Or.inr rfl) (hy : scope.names.lookup y = some .local ∨ scope.names.lookup y = some .cell := by first | exact Or.inl rfl | exact Or.inr rfl) (hzz : scope.names.lookup z = some .local ∨ scope.names.lookup z = some .cell := by first | exact Or.inl rfl | exact Or.inr rfl) (hs : ∀ x, foldedSetIterable iter X.env x = pure x := by intro _; rfl) : EE X (.ListComp elt [⟨.Tuple [.Name x px, .Name y py, .Name z pz] kt pt, iter, [], 0⟩] scope pos) sg M (.lst (ds.map fun d => f (fst3 d) (snd3 d) (thd3 d))) := by
  refine we_lc [(x, i), (y, j), (z, r)] hc hN ok hi (fun ds' C M0 ⟨e1, e2, hC⟩ => ?_) (Nat.zero_le _) hs
  subst e1; subst e2
  refine ⟨fun l acc M1 => l ≤ ds'.length ∧ acc = (ds'.take l).map (fun d => f (fst3 d) (snd3 d) (thd3 d)) ∧ M1 = M0, ⟨Nat.zero_le _, rfl, rfl⟩, fun l acc M1 ⟨hj, e1, e2⟩ => ?_, fun l d acc M1 hd ⟨hj, e1, e2⟩ => ?_, fun acc M1 ⟨_, e1, e2⟩ => ?_⟩
  · subst e1; subst e2
    refine ⟨hC, ?_⟩
    rw [List.length_map, List.length_take]
    omega
  · subst e1; subst e2
    obtain ⟨a, b, c, ed, hb⟩ := h l d hd
    subst ed
    refine turn3 i j r (by simp) (by simp) (by simp) hc hN hx (ok.ix (x, i) (by simp)) hy (ok.ix (y, j) (by simp)) hzz (ok.ix (z, r) (by simp)) (fun b M2 => b = true ∧ M2 = M1) (fun _ _ _ _ _ => ⟨rfl, rfl⟩) (fun M2 ⟨_, e⟩ => ?_) (fun M2 ⟨e, _⟩ => Bool.noConfusion e)
    subst e
    exact fun s H C cl fp => (hb s H C cl fp).imp fun z M3 ⟨e3, e4⟩ => ⟨(List.getElem?_eq_some_iff.mp hd).1, by rw [e3, List.take_add_one, hd, List.map_append]; rfl, e4⟩
  · rw [List.take_length] at e1
    subst e1
    exact ⟨rfl, e2⟩
theorem od_repM {x : D} {ds : List D} {i : Int} (hx : LsD M x ds) (h1 : -(2 ^ 63) ≤ i) (h2 : i < 2 ^ 63) (h3 : ds.length * i.toNat ≤ sizeLine) (q : ∀ p, M p = none → Q (.ptr p) (updM M p (some (.lst (List.replicate i.toNat ds).flatten)))) : OpD K rRep x (.int i) M Q := fun G H v u R w rx ry k => by
  cases ry
  obtain ⟨a, xs, rfl, e1, r1⟩ := hx.at w rx
  exact ⟨a, i, xs, rfl, rfl, e1, h1, h2, by rw [r1.length]; exact h3, fun p hp => k _ _ (new_lstM w hp (r1.rep _) q)⟩
end
end DL
set_option Elab.async false
set_option linter.all false
set_option maxRecDepth 100000
set_option maxHeartbeats 4000000
namespace DL
open PySem L2 PyProof.Rows
/-! ### dicts whose keys are tuples of ints -/
def gt (kvs : List (List Int × D)) (k : List Int) : Option D := (kvs.find? fun p => decide (p.1 = k)).map (·.2)
def pt (kvs : List (List Int × D)) (k : List Int) (d : D) : List (List Int × D) := if kvs.any (fun p => decide (p.1 = k)) then kvs.map fun p => if p.1 = k then (p.1, d) else p else kvs ++ [(k, d)]
def inlK (ks : List Int) : List Key := ks.map Sum.inl
theorem inlK_kV (ks : List Int) : (inlK ks).map kV = ks.map V.int := by
  unfold inlK
  rw [List.map_map]
  rfl
theorem inlK_inj {a b : List Int} (h : inlK a = inlK b) : a = b := by
  have := congrArg (fun l => l.map kV) h
  rw [inlK_kV, inlK_kV] at this
  have i : ∀ x y : Int, V.int x = V.int y → x = y := fun x y e => by cases e; rfl
  exact List.map_inj_right (fun x y e => i x y e) |>.mp this
section
variable {K : PySem.W.Frag} {G : Hp}
theorem gt_rp : ∀ {kvs : List (List Int × D)} {vs : List (List Key × V)} (k : List Int), KVd K G vs (kvs.map fun p => (inlK p.1, p.2)) → (gt kvs k = none ∧ valV vs (inlK k) = none) ∨ ∃ d v, gt kvs k = some d ∧ valV vs (inlK k) = some v ∧ Rp K G v d
  | [], [], k, _ => .inl ⟨rfl, rfl⟩
  | [], _ :: _, k, h => by have := congrArg List.length h.1; simp at this
  | _ :: _, [], k, h => by have := congrArg List.length h.1; simp at this
  | p :: kvs, q :: vs, k, h => by
    obtain ⟨h1, h2⟩ := h
    have e1 : q.1 = inlK p.1 := (List.cons.inj h1).1
    have e2 := (List.cons.inj h1).2
    cases h2 with
    | cons r rs =>
      by_cases e : p.1 = k
      · right
        exact ⟨p.2, q.2, by unfold gt; rw [List.find?_cons_of_pos (by simpa using e)]; rfl, by unfold valV; rw [List.find?_cons_of_pos (by simp [e1, e])]; rfl, r⟩
      · have ne : ¬ q.1 = inlK k := fun z => e (inlK_inj (e1.symm.trans z))
        have := gt_rp (kvs := kvs) (vs := vs) k ⟨e2, rs⟩
        have g1 : gt (p :: kvs) k = gt kvs k := by unfold gt; rw [List.find?_cons_of_neg (by simpa using e)]
        have g2 : valV (q :: vs) (inlK k) = valV vs (inlK k) := by unfold valV; rw [List.find?_cons_of_neg (by simpa using ne)]
        rw [g1, g2]
        exact this
theorem any_rp {k : List Int} : ∀ {kvs : List (List Int × D)} {vs : List (List Key × V)}, vs.map (·.1) = kvs.map (fun p => inlK p.1) → (vs.any fun q => decide (q.1 = inlK k)) = kvs.any fun p => decide (p.1 = k)
  | [], [], _ => rfl
  | [], _ :: _, h => by simp at h
  | _ :: _, [], h => by simp at h
  | p :: kvs, q :: vs, h => by
    have e1 : q.1 = inlK p.1 := (List.cons.inj h).1
    have e2 := (List.cons.inj h).2
    rw [List.any_cons, List.any_cons, any_rp e2]
    congr 1
    refine decide_eq_decide.mpr ?_
    rw [e1]
    exact ⟨inlK_inj, fun z => by rw [z]⟩
theorem keys_in (kvs : List (List Int × D)) : (kvs.map fun p => (inlK p.1, p.2)).map (·.1) = kvs.map fun p => inlK p.1 := by rw [List.map_map]; rfl
theorem vals_in (kvs : List (List Int × D)) : (kvs.map fun p => (inlK p.1, p.2)).map (·.2) = kvs.map (·.2) := by rw [List.map_map]; rfl
theorem rep_rp {k : List Int} {v : V} {d : D} (r : Rp K G v d) : ∀ {kvs : List (List Int × D)} {vs : List (List Key × V)}, vs.map (·.1) = kvs.map (fun p => inlK p.1) → RpA K G (vs.map (·.2)) (kvs.map (·.2)) → (vs.map fun q => if q.1 = inlK k then (q.1, v) else q).map (·.1) = (kvs.map fun p => if p.1 = k then (p.1, d) else p).map (fun p => inlK p.1) ∧ RpA K G ((vs.map fun q => if q.1 = inlK k then (q.1, v) else q).map (·.2)) ((kvs.map fun p => if p.1 = k then (p.1, d) else p).map (·.2))
  | [], [], _, _ => ⟨rfl, .nil⟩
  | [], _ :: _, h, _ => by simp at h
  | _ :: _, [], h, _ => by simp at h
  | p :: kvs, q :: vs, h, h2 => by
    have e1 : q.1 = inlK p.1 := (List.cons.inj h).1
    have e2 := (List.cons.inj h).2
    cases h2 with
    | cons r0 rs =>
      obtain ⟨a, b⟩ := rep_rp (k := k) r e2 rs
      by_cases e : p.1 = k
      · have e' : q.1 = inlK k := by rw [e1, e]
        rw [List.map_cons, List.map_cons, List.map_cons, List.map_cons, List.map_cons, List.map_cons, if_pos e, if_pos e', a]
        exact ⟨by rw [e1], .cons r b⟩
      · have ne : ¬ q.1 = inlK k := fun z => e (inlK_inj (e1.symm.trans z))
        rw [List.map_cons, List.map_cons, List.map_cons, List.map_cons, List.map_cons, List.map_cons, if_neg e, if_neg ne, a]
        exact ⟨by rw [e1], .cons r0 b⟩
theorem pt_rp {kvs : List (List Int × D)} {vs : List (List Key × V)} {k : List Int} {v : V} {d : D} (h : KVd K G vs (kvs.map fun p => (inlK p.1, p.2))) (r : Rp K G v d) : KVd K G (putK vs (inlK k) v) ((pt kvs k d).map fun p => (inlK p.1, p.2)) := by
  obtain ⟨h1, h2⟩ := h
  rw [keys_in] at h1
  rw [vals_in] at h2
  have ha := any_rp (k := k) h1
  unfold KVd
  rw [keys_in, vals_in]
  unfold putK pt
  rw [ha]
  by_cases c : (kvs.any fun p => decide (p.1 = k)) = true
  · rw [if_pos c, if_pos c]
    exact rep_rp r h1 h2
  · rw [if_neg c, if_neg c, List.map_append, List.map_append, List.map_append, List.map_append, h1]
    exact ⟨rfl, h2.append (.cons r .nil)⟩
end
section
variable {X : Cx} {sg : Sg} {M : Mem} {o i e k v : Expr} {pos pos' : Pos} {Q : D → Mem → Prop} {E : EndsD}
/-- the tuple's own reading -/
theorem tup_at {K : PySem.W.Frag} {G H : Hp} {M : Mem} {u : V} {ks : List Int} (w : Wd K G M H) (r : Rp K G u (.tup (ks.map .int))) : ∃ b, u = .ref b ∧ H b = some (.tup ((inlK ks).map kV)) := by
  cases r with
  | @tup a xs _ h r =>
    have := r.ints
    subst this
    exact ⟨a, rfl, by rw [inlK_kV]; exact w.sub _ _ h⟩
theorem dit_at {K : PySem.W.Frag} {G H : Hp} {M : Mem} {p : Addr} {kvs : List (List Int × D)} (w : Wd K G M H) (hm : M p = some (.dit kvs)) : ∃ vs : List (List Key × V), H p = some (.dT vs) ∧ KVd K G vs (kvs.map fun q => (inlK q.1, q.2)) := (w.mem _ _ hm).2
/-- d[k] -/
theorem we_dget (hu : X.A.units + 1 < cLine) (h : WE X o sg M fun x M1 => WE X i sg M1 fun y M2 => ∃ p kvs ks d, x = .ptr p ∧ y = .tup (ks.map .int) ∧ M2 p = some (.dit kvs) ∧ gt kvs ks = some d ∧ Q d M2) (hs : NoSl i := by intro _ _; rfl) : WE X (.Subscript o i pos) sg M Q :=
  WE.of (pe_dget hu pe_w pe_w hs) fun σ H G w s => (h σ H G w s).imp fun x H1 ⟨dx, G1, M1, st, w1, r1, q1⟩ => (q1 σ H1 G1 w1 (s.mono (st.gx w))).imp fun u H2 ⟨dy, G2, M2, st2, w2, r2, p, kvs, ks, d, e1, e2, hm, hg, q⟩ => by
    subst e1; subst e2
    cases r1
    obtain ⟨b, rfl, hb⟩ := tup_at w2 r2
    obtain ⟨vs, hH, kv⟩ := dit_at w2 hm
    rcases gt_rp ks kv with ⟨z, _⟩ | ⟨d', v', g1, g2, r⟩
    · rw [hg] at z; cases z
    · rw [hg] at g1
      cases g1
      exact ⟨p, v', rfl, by rw [← g2]; exact DGet.t hH hb, d, G2, M2, st.trans st2, w2, r, q⟩
/-- k in d, k not in d -/
theorem we_din (hu : X.A.units + 1 < cLine) (h : WE X i sg M fun y M1 => WE X o sg M1 fun x M2 => ∃ p kvs ks, x = .ptr p ∧ y = .tup (ks.map .int) ∧ M2 p = some (.dit kvs) ∧ Q (.bl (gt kvs ks).isSome) M2) (hm : behindInMarks .In o = false := by first | exact nomark _ | rfl) : WE X (.Compare i [.In] [o] pos) sg M Q :=
  WE.of (pe_cmp (pc_din hu pe_w pe_w) hm) fun σ H G w s => (h σ H G w s).imp fun y H1 ⟨dy, G1, M1, st, w1, r1, q1⟩ => (q1 σ H1 G1 w1 (s.mono (st.gx w))).imp fun x H2 ⟨dx, G2, M2, st2, w2, r2, p, kvs, ks, e1, e2, hm, q⟩ => by
    subst e1; subst e2
    cases r2
    obtain ⟨b, rfl, hb⟩ := tup_at w2 (r1.mono (st2.gx w1))
    obtain ⟨vs, hH, kv⟩ := dit_at w2 hm
    refine ⟨p, valV vs (inlK ks), rfl, DGet.t hH hb, .bl (gt kvs ks).isSome, G2, M2, st.trans st2, w2, ?_, q⟩
    rcases gt_rp ks kv with ⟨z1, z2⟩ | ⟨d', v', g1, g2, r⟩
    · rw [z1, z2]; exact .bl _
    · rw [g1, g2]; exact .bl _
theorem we_dnin (hu : X.A.units + 1 < cLine) (h : WE X i sg M fun y M1 => WE X o sg M1 fun x M2 => ∃ p kvs ks, x = .ptr p ∧ y = .tup (ks.map .int) ∧ M2 p = some (.dit kvs) ∧ Q (.bl (!(gt kvs ks).isSome)) M2) (hm : behindInMarks .NotIn o = false := by first | exact nomark _ | rfl) : WE X (.Compare i [.NotIn] [o] pos) sg M Q :=
  WE.of (pe_cmp (pc_dnotin hu pe_w pe_w) hm) fun σ H G w s => (h σ H G w s).imp fun y H1 ⟨dy, G1, M1, st, w1, r1, q1⟩ => (q1 σ H1 G1 w1 (s.mono (st.gx w))).imp fun x H2 ⟨dx, G2, M2, st2, w2, r2, p, kvs, ks, e1, e2, hm, q⟩ => by
    subst e1; subst e2
    cases r2
    obtain ⟨b, rfl, hb⟩ := tup_at w2 (r1.mono (st2.gx w1))
    obtain ⟨vs, hH, kv⟩ := dit_at w2 hm
    refine ⟨p, valV vs (inlK ks), rfl, DGet.t hH hb, .bl (!(gt kvs ks).isSome), G2, M2, st.trans st2, w2, ?_, q⟩
    rcases gt_rp ks kv with ⟨z1, z2⟩ | ⟨d', v', g1, g2, r⟩
    · rw [z1, z2]; exact .bl _
    · rw [g1, g2]; exact .bl _
/-- d[k] = e -/
theorem ws_dput (hu : X.A.units + 1 < cLine) (h : WE X e sg M fun z M1 => WE X o sg M1 fun x M2 => WE X i sg M2 fun y M3 => ∃ p kvs ks, x = .ptr p ∧ y = .tup (ks.map .int) ∧ M3 p = some (.dit kvs) ∧ kvs.length < sizeLine ∧ E.nx sg (updM M3 p (some (.dit (pt kvs ks z))))) (hs : swapsWith e (some (.Subscript o i pos')) pos.line X.env = pure false := by rfl) : WS X (.Assign [.Subscript o i pos'] e pos) sg M E :=
  WS.of (ps_dput hu pe_w pe_w pe_w hs) fun σ H G w s => (h σ H G w s).imp fun z H1 ⟨dz, G1, M1, st, w1, r1, q1⟩ => (q1 σ H1 G1 w1 (s.mono (st.gx w))).imp fun x H2 ⟨dx, G2, M2, st2, w2, r2, q2⟩ => (q2 σ H2 G2 w2 (s.mono ((st.trans st2).gx w))).imp fun y H3 ⟨dy, G3, M3, st3, w3, r3, p, kvs, ks, e1, e2, hm, hl, q⟩ => by
    subst e1; subst e2
    have r2' := r2.mono (st3.gx w2)
    cases r2'
    obtain ⟨b, rfl, hb⟩ := tup_at w3 r3
    obtain ⟨vs, hH, kv⟩ := dit_at w3 hm
    have hlen : vs.length = kvs.length := by
      have := congrArg List.length kv.1
      rw [keys_in, List.length_map, List.length_map] at this
      exact this
    obtain ⟨w', stw⟩ := w3.write hm (o := .dT (putK vs (inlK ks) z)) (mo := .dit (pt kvs ks dz)) ⟨_, upd_same, pt_rp kv (r1.mono ((st2.trans st3).gx w1))⟩
    exact ⟨p, _, rfl, DPut.t hH hb (by omega), sg, G3, _, (((st.trans st2).trans st3).trans stw), w', s.mono ((((st.trans st2).trans st3).trans stw).gx w), q⟩
/-- {k: v} -/
def tDispT1 (tk tv : TE) : TE := fun σ H Q => ∀ p, H p = none → tk σ (upd H p (.dT [])) fun x H1 => tv σ H1 fun y H2 => ∃ b ks, x = .ref b ∧ H2 p = some (.dT []) ∧ H2 b = some (.tup (ks.map kV)) ∧ Q (.ref p) (upd H2 p (.dT [(ks, y)]))
theorem pe_dispT1 {tk tv : TE} (hu : X.A.units + 1 < cLine) (hk : PE X k tk) (hv : PE X v tv) : PE X (.Dict [some k] [v] pos) (tDispT1 tk tv) := by
  refine ⟨fun pins s σ H Q I q => ?_⟩
  have hn := I.hok.fresh (Nat.le_refl s.heap.objs.size)
  have I1 := I.laid (a := s.heap.objs.size) (o := .dT []) (h' := s.heap.push { cls := .type "dict", data := .dict #[] }) (t' := s.toks) (fun _ _ q => Heap.get?_push_of_some _ q) (Nat.le_refl _) (dt_empty s.heap I.big)
  have hz := zip_pairTrees [some k] [v] X.env pos rfl rfl
  rw [arm_eval_Dict, hz, dictDisplay_pairs (pairTrees [some k] [v] X.env pos) (by intro z; cases z) (Nat.le_of_ble_eq_true rfl)]
  refine wpAny_bind (wpAny_standAt (wpAny_bind (wpAny_subDictH (knd := tupleKind (mixKind X.prog X.w)) (Q := fun d s' => wpAny (model X.prog X.w) X.A (pure (Value.ref d)) (EP X pins σ Q) X.xe s') (by show X.A.units < cLine; omega) (Nat.le_of_ble_eq_true rfl) ?_)))
  refine pairTrees_cons_walk (thn (hk.run pins _ σ _ _ I1 (q _ hn)) fun u s1 ⟨x, H1, I2, rx, q1⟩ => thn (hv.run pins s1 σ H1 _ I2 q1) fun u2 s2 ⟨y, H2, I3, ry, b, ks, e1, e2, e3, q2⟩ => pairTrees_nil_walk ?_)
  subst e1
  obtain rfl : u = Value.ref b := rx
  obtain ⟨z, hd, xs, rel, dd⟩ := dt_of I3.hok e2
  cases rel
  refine ⟨[(ks, b, u2)], ⟨rfl, rfl, key_of I3.hok e3, trivial⟩, dd, fun h' tk dd' hs => wpAny_pure ⟨.ref s.heap.objs.size, _, ?_, rfl, q2⟩⟩
  obtain ⟨qo, es, ep, hq, h2, h3, h4, _, h5⟩ := dd'
  refine d_write I3 (by rw [e2]; exact True.intro) hs ⟨qo, hq⟩ ⟨by show 1 ≤ sizeLine; decide, hd, [(ks, b, u2)], .cons ⟨rfl, ?_, ry⟩ .nil, qo, es, ep, hq, h2, h3, h4, h5⟩
  rw [upd_ne (ne_of e3 e2 (fun z => nomatch z))]
  exact e3
theorem we_dnew (hu : X.A.units + 1 < cLine) (h : ∀ p, M p = none → WE X k sg (updM M p (some (.dit []))) fun x M1 => WE X v sg M1 fun y M2 => ∃ ks, x = .tup (ks.map .int) ∧ M2 p = some (.dit []) ∧ Q (.ptr p) (updM M2 p (some (.dit [(ks, y)])))) : WE X (.Dict [some k] [v] pos) sg M Q :=
  WE.of (pe_dispT1 hu pe_w pe_w) fun σ H G w s => fun p hp => by
    obtain ⟨g0, m0⟩ := w.free hp
    obtain ⟨w0, st0⟩ := w.newM hp (o := .dT []) (mo := .dit []) ⟨[], upd_same, rfl, .nil⟩
    refine (h p m0 σ _ G w0 (s.mono (st0.gx w))).imp fun x H1 ⟨dx, G1, M1, st1, w1, r1, q1⟩ => (q1 σ H1 G1 w1 (s.mono ((st0.trans st1).gx w))).imp fun y H2 ⟨dy, G2, M2, st2, w2, r2, ks, e1, hm, q⟩ => ?_
    subst e1
    obtain ⟨b, rfl, hb⟩ := tup_at w2 (r1.mono (st2.gx w1))
    obtain ⟨vs, hH, kv⟩ := dit_at w2 hm
    have hv : vs = [] := by
      have := congrArg List.length kv.1
      rw [List.length_map] at this
      exact List.length_eq_zero_iff.mp this
    subst hv
    obtain ⟨w', stw⟩ := w2.write hm (o := .dT [(inlK ks, y)]) (mo := .dit [(ks, dy)]) ⟨_, upd_same, rfl, .cons r2 .nil⟩
    exact ⟨b, inlK ks, rfl, hH, hb, .ptr p, G2, _, (((st0.trans st1).trans st2).trans stw), w', .ptr p, q⟩
/-- < of tuples of ints -/
theorem od_ltT {K : PySem.W.Frag} {ns ms : List Int} (q : Q (.bl (HT.lexLt ns ms)) M) : OpD K (rLtT K) (.tup (ns.map .int)) (.tup (ms.map .int)) M Q := fun G H v u R w rx ry k => by
  cases rx with
  | @tup a xs _ h1 r1 =>
    cases ry with
    | @tup b ys _ h2 r2 =>
      have e1 := r1.ints
      have e2 := r2.ints
      subst e1; subst e2
      exact ⟨a, b, ns, ms, rfl, rfl, SqT.of (w.sub _ _ h1), SqT.of (w.sub _ _ h2), k _ _ (PV.here w (.bl _) q)⟩
end
end DL
set_option Elab.async false
set_option linter.all false
set_option maxRecDepth 100000
set_option maxHeartbeats 4000000
namespace DL
open PySem L2 PyProof.Rows
def d4 (i : Nat) : D → D
  | .tup ds => ds.getD i .non
  | _ => .non
section
variable {X : Cx} {scope : Scope} {iter elt c : Expr} {sg : Sg} {M : Mem} {ds : List D} {x y z u : Str} {px py pz pu pt pos : Pos} {kt : Nat}
/-- [elt for x, y, z, u in iter if c] -/
theorem ee_lc4if (i j r l : Nat) (p : D → Bool) (f : D → D) (hc : X.calm = true) (hN : X.N.Nodup) (hi : WI X (.Tuple [.Name x px, .Name y py, .Name z pz, .Name u pu] kt pt) iter sg M (ItQ ds M)) (hz : ds.length < sizeLine)
    (h : ∀ (m : Nat) (d : D), ds[m]? = some d → ∃ a b e g, d = .tup [a, b, e, g] ∧ (Blk X scope fun Y => ET Y c (((((wipeD sg [i, j, r, l]).set i (some a)).set j (some b)).set r (some e)).set l (some g)) M (p d)) ∧ (p d = true → Blk X scope fun Y => EE Y elt (((((wipeD sg [i, j, r, l]).set i (some a)).set j (some b)).set r (some e)).set l (some g)) M (f d)))
    (ok : BlkOk X.N X.env.scope scope [(x, i), (y, j), (z, r), (u, l)] := by exact blkOk_by (by with_unfolding_all rfl)) (hx : scope.names.lookup x = some .local ∨ scope.names.lookup x = some .cell := by first | exact Or.inl rfl | exact Or.inr rfl) (hy : scope.names.lookup y = some .local ∨ scope.names.lookup y = some .cell := by first | exact Or.inl rfl | exact Or.inr rfl) (hzz : scope.names.lookup z = some .local ∨ scope.names.lookup z = some .cell := by first | exact Or.inl rfl | exact Or.inr rfl) (hu : scope.names.lookup u = some .local ∨ scope.names.lookup u = some .cell := by first | exact Or.inl rfl | exact Or.inr rfl) (hs : ∀ x, foldedSetIterable iter X.env x = pure x := by intro _; rfl) : EE X (.ListComp elt [⟨.Tuple [.Name x px, .Name y py, .Name z pz, .Name u pu] kt pt, iter, [c], 0⟩] scope pos) sg M (.lst ((ds.filter p).map f)) := by
  refine we_lc [(x, i), (y, j), (z, r), (u, l)] hc hN ok hi (fun ds' C M0 ⟨e1, e2, hC⟩ => ?_) (Nat.le_refl _) hs
  subst e1; subst e2
  obtain ⟨Pv, a, b, t, d⟩ := lc_pure (X := X) (tg := .Tuple [.Name x px, .Name y py, .Name z pz, .Name u pu] kt pt) (elt := elt) (ifs := [c]) (scope := scope) (vs := [i, j, r, l]) (sg := sg) (C := C) (M0 := M0) p f hC hz fun m d hd => by
    obtain ⟨a, b, e, g, ed, h1, h2⟩ := h m d hd
    subst ed
    refine ⟨[i] ++ ([j] ++ ([r] ++ ([l] ++ []))), ((((wipeD sg [i, j, r, l]).set i (some a)).set j (some b)).set r (some e)).set l (some g), fun q hq => by simpa using hq, fun s H C cl fp => wg_tup hc (wgs_cons (blk_name (vs := [i, j, r, l]) i hN hx (ok.ix (x, i) (by simp)) s H C cl fp) (wgs_cons (blk_name (vs := [i, j, r, l]) j hN hy (ok.ix (y, j) (by simp)) s H C cl fp) (wgs_cons (blk_name (vs := [i, j, r, l]) r hN hzz (ok.ix (z, r) (by simp)) s H C cl fp) (wgs_cons (blk_name (vs := [i, j, r, l]) l hN hu (ok.ix (u, l) (by simp)) s H C cl fp) wgs_nil)))), ?_, h2⟩
    exact h1
  exact ⟨Pv, a, b, t, fun acc M1 hp => by
    obtain ⟨e1, e2⟩ := d acc M1 hp
    subst e1
    exact ⟨rfl, e2⟩⟩
end
end DL
set_option Elab.async false
set_option linter.all false
set_option maxRecDepth 100000
set_option maxHeartbeats 4000000
namespace DL
open PySem L2 PyProof.Rows
section
variable {prog : Program} {w : World} {A : Around} {E : Value → Shared → Prop} {s : Shared} {l : Addr} {its : List Value} {ns : List Int}
theorem sum_rawT {Q : Value → Shared → Prop} (hh : A.handled = none) (hl : s.heap.IsTuple l its.toArray) (hi : IntsAre its ns)
    (h : ∀ h' tk t', (∀ b o, s.heap.get? b = some o → h'.get? b = some o) → Q (.int ns.sum t') { s with heap := h', toks := tk }) : wpAny (model prog w) A (call (.builtin "sum") [.ref l]) Q E s := by
  obtain ⟨xs, e⟩ := hi.allInts.items
  have hn : numsOf (intItems xs).toList = ns := by rw [← e]; exact hi.numsOf
  rw [nums_intItems] at hn
  rw [e] at hl
  have hlt : l < s.heap.objs.size := by obtain ⟨_, e, _⟩ := hl; exact Heap.lt_size e
  refine call_sum_walkG (wpAny_pyIter_tuple hl ?_)
  refine ⟨_, _, _, _, _, _, numAt xs, rfl, Walks.tuple (A := A.in1) hh s.heap.objs.size l (Nat.ne_of_lt hlt) (intItems xs), ⟨⟨_, Heap.get?_push_size _ rfl, rfl, rfl⟩, hl.at fun o e => Heap.get?_push_of_some _ e⟩, fun b hb => ?_, (fun _ _ => intItems_at), fun h' tk t' hk => ?_⟩
  · show b < (s.heap.push _).objs.size
    rw [Heap.size_push]
    rcases List.mem_cons.mp hb with rfl | hb
    · exact Nat.lt_succ_self _
    · rw [List.mem_singleton.mp hb]
      exact Nat.lt_succ_of_lt hlt
  · have := h h' tk t' fun b o e => hk b o (fun hm => by
      have hb := List.mem_singleton.mp hm
      have := Heap.lt_size e
      rw [hb] at this
      exact Nat.lt_irrefl _ this) (Heap.get?_push_of_some _ e)
    rw [← hn] at this
    have hz : (intItems xs).size = xs.size := by simp [intItems]
    rw [hz, preSum_eq, List.take_of_length_le (by simp)]
    exact this
end
def rSumT (K : PySem.W.Frag) : List V → Hp → VK → Prop := fun vs H Q => ∃ (a : Addr) (ns : List Int), vs = [V.ref a] ∧ SqT K H a (ns.map V.int) ∧ Q (.int ns.sum) H
section
variable {X : Cx}
theorem cr_sumT (hc : X.calm = true) : CallR X (.builtin "sum") (rSumT X.K) := by
  intro pins s σ H vs us Q I r h
  obtain ⟨a, ns, rfl, hs, q⟩ := h
  obtain ⟨its, rv, hl, _⟩ := I.tuple hs
  rw [Vals.ref1 r]
  exact sum_rawT (I.ok.hd hc) hl rv.ints fun h' tk t' hk => ⟨.int _, H, I.kept hk, ⟨_, rfl⟩, q⟩
theorem cd_sumT {K : PySem.W.Frag} {M : Mem} {Q : D → Mem → Prop} {ns : List Int} (q : Q (.int ns.sum) M) : ClD K (rSumT K) [.tup (ns.map .int)] M Q := fun G H vs R w r k => by
  obtain ⟨v, rfl, rv⟩ := r.one
  cases rv with
  | @tup a xs _ h1 r1 =>
    have e1 := r1.ints
    subst e1
    exact ⟨a, ns, rfl, SqT.of (w.sub _ _ h1), k _ _ (PV.here w (.int _) q)⟩
end
end DL
set_option Elab.async false
set_option linter.all false
set_option maxRecDepth 100000
set_option maxHeartbeats 4000000
namespace DL
open PySem L2 PyProof.Rows
section
variable {X : Cx} {sg : Sg} {M : Mem} {o i : Expr} {pos : Pos} {Qb : Bool → Mem → Prop}
/-! ### k in d, k not in d, as tests -/
theorem wt_din (hu : X.A.units + 1 < cLine) (h : WE X i sg M fun y M1 => WE X o sg M1 fun x M2 => ∃ p kvs ks, x = .ptr p ∧ y = .tup (ks.map .int) ∧ M2 p = some (.dit kvs) ∧ Qb (gt kvs ks).isSome M2) (hm : behindInMarks .In o = false := by first | exact nomark _ | rfl) : WT X (.Compare i [.In] [o] pos) sg M Qb :=
  WT.of (pt_cmp (pc_din hu pe_w pe_w) hm) fun σ H G w s => (h σ H G w s).imp fun y H1 ⟨dy, G1, M1, st, w1, r1, q1⟩ => (q1 σ H1 G1 w1 (s.mono (st.gx w))).imp fun x H2 ⟨dx, G2, M2, st2, w2, r2, p, kvs, ks, e1, e2, hm, q⟩ => by
    subst e1; subst e2
    cases r2
    obtain ⟨b, rfl, hb⟩ := tup_at w2 (r1.mono (st2.gx w1))
    obtain ⟨vs, hH, kv⟩ := dit_at w2 hm
    refine ⟨p, valV vs (inlK ks), rfl, DGet.t hH hb, (gt kvs ks).isSome, ?_, G2, M2, st.trans st2, w2, q⟩
    rcases gt_rp ks kv with ⟨z1, z2⟩ | ⟨d', v', g1, g2, r⟩
    · rw [z1, z2]; rfl
    · rw [g1, g2]; rfl
theorem wt_dnin (hu : X.A.units + 1 < cLine) (h : WE X i sg M fun y M1 => WE X o sg M1 fun x M2 => ∃ p kvs ks, x = .ptr p ∧ y = .tup (ks.map .int) ∧ M2 p = some (.dit kvs) ∧ Qb (!(gt kvs ks).isSome) M2) (hm : behindInMarks .NotIn o = false := by first | exact nomark _ | rfl) : WT X (.Compare i [.NotIn] [o] pos) sg M Qb :=
  WT.of (pt_cmp (pc_dnotin hu pe_w pe_w) hm) fun σ H G w s => (h σ H G w s).imp fun y H1 ⟨dy, G1, M1, st, w1, r1, q1⟩ => (q1 σ H1 G1 w1 (s.mono (st.gx w))).imp fun x H2 ⟨dx, G2, M2, st2, w2, r2, p, kvs, ks, e1, e2, hm, q⟩ => by
    subst e1; subst e2
    cases r2
    obtain ⟨b, rfl, hb⟩ := tup_at w2 (r1.mono (st2.gx w1))
    obtain ⟨vs, hH, kv⟩ := dit_at w2 hm
    refine ⟨p, valV vs (inlK ks), rfl, DGet.t hH hb, !(gt kvs ks).isSome, ?_, G2, M2, st.trans st2, w2, q⟩
    rcases gt_rp ks kv with ⟨z1, z2⟩ | ⟨d', v', g1, g2, r⟩
    · rw [z1, z2]; rfl
    · rw [g1, g2]; rfl
end
theorem updM_comm {M : Mem} {a b : Addr} {o o' : Option MO} (h : a ≠ b) : updM (updM M a o) b o' = updM (updM M b o') a o := by
  refine Mem.ext ?_ rfl
  funext q
  show (if q = b then o' else if q = a then o else M.f q) = if q = a then o else if q = b then o' else M.f q
  by_cases h1 : q = b
  · rw [if_pos h1]
    by_cases h2 : q = a
    · exact absurd (h2.symm.trans h1) h
    · rw [if_neg h2, if_pos h1]
  · rw [if_neg h1, if_neg h1]
theorem lt_big {m : Nat} (h : m < 9000000) : m < sizeLine := Nat.lt_of_lt_of_le h (by decide)
end DL
set_option Elab.async false
set_option linter.all false
set_option maxRecDepth 100000
set_option maxHeartbeats 4000000
namespace K46
open PySem L2 PyProof.Rows DL
/-! ### marks, and orders that come by them: the plain laws. Moments are told by place. -/
structure Mk where
  s : Nat
  m : Nat
  o : Nat
  t : Nat
abbrev Mo := Nat → Nat
def nxt (ms : List Mk) (h : Mo) (k : Nat) : Prop := ∀ μ ∈ ms, μ.s = k → μ.m = h k + 1 → μ.t ≤ h μ.o
instance (ms : List Mk) (h : Mo) (k : Nat) : Decidable (nxt ms h k) := by unfold nxt; infer_instance
def stp (h : Mo) (k : Nat) : Mo := fun j => if j = k then h j + 1 else h j
def fits (ms : List Mk) (h : Mo) : Prop := ∀ μ ∈ ms, μ.m ≤ h μ.s → μ.t ≤ h μ.o
/-- marks between n sources -/
structure Ms (n : Nat) (ms : List Mk) : Prop where
  s_ : ∀ μ ∈ ms, μ.s < n
  o_ : ∀ μ ∈ ms, μ.o < n
  ne : ∀ μ ∈ ms, μ.s ≠ μ.o
  m_ : ∀ μ ∈ ms, 1 ≤ μ.m
inductive Run (ms : List Mk) (n : Nat) : Mo → List Nat → Mo → Prop
  | nil {h h' : Mo} (e : ∀ j, j < n → h j = h' j) : Run ms n h [] h'
  | cons {h h' : Mo} {k : Nat} {ks : List Nat} (hk : k < n) (nx : nxt ms h k) (r : Run ms n (stp h k) ks h') : Run ms n h (k :: ks) h'
section
variable {ms : List Mk} {n : Nat}
theorem stp_same {h : Mo} {k : Nat} : stp h k k = h k + 1 := if_pos rfl
theorem stp_ne {h : Mo} {k j : Nat} (e : j ≠ k) : stp h k j = h j := if_neg e
theorem stp_le {h : Mo} {k : Nat} (j : Nat) : h j ≤ stp h k j := by
  unfold stp
  split <;> omega
theorem Run.le {h h' : Mo} {ks : List Nat} (r : Run ms n h ks h') : ∀ j, j < n → h j ≤ h' j := by
  induction r with
  | nil e => intro j hj; rw [e j hj]; exact Nat.le_refl _
  | cons hk nx r ih =>
    intro j hj
    exact Nat.le_trans (stp_le j) (ih j hj)
theorem Run.lt {h h' : Mo} {k : Nat} {ks : List Nat} (r : Run ms n h (k :: ks) h') : k < n ∧ nxt ms h k ∧ h k < h' k ∧ Run ms n (stp h k) ks h' := by
  cases r with
  | cons hk nx r =>
    have := r.le k hk
    rw [stp_same] at this
    exact ⟨hk, nx, by omega, r⟩
theorem nxt_ext (v : Ms n ms) {h g : Mo} {k : Nat} (hk : k < n) (e : ∀ j, j < n → h j = g j) (x : nxt ms h k) : nxt ms g k := fun μ hμ a b => by
  have := x μ hμ a (by rw [e k hk]; exact b)
  rw [← e _ (v.o_ μ hμ)]
  exact this
theorem Run.ext (v : Ms n ms) {h h' : Mo} {ks : List Nat} (r : Run ms n h ks h') : ∀ {g g' : Mo}, (∀ j, j < n → h j = g j) → (∀ j, j < n → h' j = g' j) → Run ms n g ks g' := by
  induction r with
  | nil e => intro g g' a b; exact .nil fun j hj => by rw [← a j hj, ← b j hj]; exact e j hj
  | @cons h h' k ks hk nx r ih =>
    intro g g' a b
    refine .cons hk (nxt_ext v hk a nx) (ih (fun j hj => ?_) b)
    unfold stp
    rw [a j hj]
theorem fits_stp (v : Ms n ms) {h : Mo} {k : Nat} (f : fits ms h) (x : nxt ms h k) : fits ms (stp h k) := fun μ hμ hm => by
  have ho : h μ.o ≤ stp h k μ.o := stp_le _
  by_cases e : μ.s = k
  · rw [e, stp_same] at hm
    by_cases e2 : μ.m = h k + 1
    · exact Nat.le_trans (x μ hμ e e2) ho
    · exact Nat.le_trans (f μ hμ (by rw [e]; omega)) ho
  · rw [stp_ne e] at hm
    exact Nat.le_trans (f μ hμ hm) ho
theorem Run.fits (v : Ms n ms) {h h' : Mo} {ks : List Nat} (r : Run ms n h ks h') : K46.fits ms h → ∀ μ ∈ ms, μ.m ≤ h' μ.s → μ.t ≤ h' μ.o := by
  induction r with
  | nil e => intro f μ hμ hm; rw [← e _ (v.o_ μ hμ)]; exact f μ hμ (by rw [e _ (v.s_ μ hμ)]; exact hm)
  | cons hk nx r ih => intro f; exact ih (fits_stp v f nx)
/-- what fits on the way can be come to -/
theorem Run.restrict (v : Ms n ms) {h h' x : Mo} {ks : List Nat} (r : Run ms n h ks h') (fx : K46.fits ms x) : ∃ ks', Run ms n (fun j => min (h j) (x j)) ks' (fun j => min (h' j) (x j)) := by
  induction r with
  | nil e => exact ⟨[], .nil fun j hj => by show min _ _ = min _ _; rw [e j hj]⟩
  | @cons h h' k ks hk nx r ih =>
    obtain ⟨ks', r'⟩ := ih
    by_cases c : h k < x k
    · refine ⟨k :: ks', .cons hk (fun μ hμ a b => ?_) (r'.ext v (fun j hj => ?_) fun j hj => rfl)⟩
      · have b : μ.m = min (h k) (x k) + 1 := b
        have b : μ.m = h k + 1 := by omega
        have p := nx μ hμ a b
        have q := fx μ hμ (by rw [a]; omega)
        show μ.t ≤ min (h μ.o) (x μ.o)
        omega
      · show min (stp h k j) (x j) = stp (fun j => min (h j) (x j)) k j
        unfold stp
        by_cases e : j = k
        · rw [if_pos e, if_pos e, e]
          show min (h k + 1) (x k) = min (h k) (x k) + 1
          omega
        · rw [if_neg e, if_neg e]
    · refine ⟨ks', r'.ext v (fun j hj => ?_) fun j hj => rfl⟩
      show min (stp h k j) (x j) = min (h j) (x j)
      unfold stp
      by_cases e : j = k
      · rw [if_pos e, e]
        omega
      · rw [if_neg e]
/-- from wherever below one can go on -/
theorem Run.onward (v : Ms n ms) {h h' x : Mo} {ks : List Nat} (r : Run ms n h ks h') : ∃ ks', Run ms n (fun j => max (h j) (x j)) ks' (fun j => max (h' j) (x j)) := by
  induction r with
  | nil e => exact ⟨[], .nil fun j hj => by show max _ _ = max _ _; rw [e j hj]⟩
  | @cons h h' k ks hk nx r ih =>
    obtain ⟨ks', r'⟩ := ih
    by_cases c : x k ≤ h k
    · refine ⟨k :: ks', .cons hk (fun μ hμ a b => ?_) (r'.ext v (fun j hj => ?_) fun j hj => rfl)⟩
      · have b : μ.m = max (h k) (x k) + 1 := b
        have p := nx μ hμ a (by omega)
        show μ.t ≤ max (h μ.o) (x μ.o)
        omega
      · show max (stp h k j) (x j) = stp (fun j => max (h j) (x j)) k j
        unfold stp
        by_cases e : j = k
        · rw [if_pos e, if_pos e, e]
          show max (h k + 1) (x k) = max (h k) (x k) + 1
          omega
        · rw [if_neg e, if_neg e]
    · refine ⟨ks', r'.ext v (fun j hj => ?_) fun j hj => rfl⟩
      show max (stp h k j) (x j) = max (h j) (x j)
      unfold stp
      by_cases e : j = k
      · rw [if_pos e, e]
        omega
      · rw [if_neg e]
/-- a step that can be taken leaves the rest within reach -/
theorem Run.after (v : Ms n ms) {h h' : Mo} {ks : List Nat} {k : Nat} (r : Run ms n h ks h') (hk : k < n) (hl : h k < h' k) : ∃ ks', Run ms n (stp h k) ks' h' := by
  obtain ⟨ks', r'⟩ := r.onward v (x := stp h k)
  refine ⟨ks', r'.ext v (fun j hj => ?_) fun j hj => ?_⟩
  · have := stp_le (h := h) (k := k) j
    show max (h j) (stp h k j) = stp h k j
    omega
  · have := r.le j hj
    show max (h' j) (stp h k j) = h' j
    unfold stp
    by_cases e : j = k
    · subst e
      rw [if_pos rfl]
      omega
    · rw [if_neg e]
      omega
/-! the first order -/
def eqm (n : Nat) (h t : Mo) : Bool := (List.range n).all fun j => decide (h j = t j)
theorem eqm_iff {h t : Mo} : eqm n h t = true ↔ ∀ j, j < n → h j = t j := by
  unfold eqm
  rw [List.all_eq_true]
  exact ⟨fun a j hj => of_decide_eq_true (a j (List.mem_range.mpr hj)), fun a j hj => decide_eq_true (a j (List.mem_range.mp hj))⟩
def ready (ms : List Mk) (n : Nat) (h t : Mo) : List Nat := (List.range n).filter fun k => decide (h k < t k) && decide (nxt ms h k)
theorem ready_mem {h t : Mo} {k : Nat} : k ∈ ready ms n h t ↔ k < n ∧ h k < t k ∧ nxt ms h k := by
  unfold ready
  rw [List.mem_filter, List.mem_range, Bool.and_eq_true, decide_eq_true_iff, decide_eq_true_iff]
def left (n : Nat) (h t : Mo) : Nat := ((List.range n).map fun j => t j - h j).sum
def greedy (ms : List Mk) (n : Nat) : Nat → Mo → Mo → Option (List Nat)
  | 0, h, t => if eqm n h t = true then some [] else none
  | f + 1, h, t => if eqm n h t = true then some [] else
    match ready ms n h t with
    | [] => none
    | k :: _ => (greedy ms n f (stp h k) t).map (k :: ·)
theorem sum_lt : ∀ (l : List Nat) (f g : Nat → Nat) (k : Nat), k ∈ l → (∀ j ∈ l, f j ≤ g j) → f k < g k → (l.map f).sum < (l.map g).sum
  | [], _, _, _, h, _, _ => by cases h
  | a :: l, f, g, k, h, hle, hlt => by
    have ha := hle a (List.mem_cons_self ..)
    have hl : (l.map f).sum ≤ (l.map g).sum := by
      have : ∀ l : List Nat, (∀ j ∈ l, f j ≤ g j) → (l.map f).sum ≤ (l.map g).sum := by
        intro l
        induction l with
        | nil => intro _; exact Nat.le_refl _
        | cons b l ih =>
          intro h
          have a1 := h b (List.mem_cons_self ..)
          have a2 := ih fun j hj => h j (List.mem_cons_of_mem _ hj)
          simp only [List.map_cons, List.sum_cons]
          omega
      exact this l fun j hj => hle j (List.mem_cons_of_mem _ hj)
    rcases List.mem_cons.mp h with h | h
    · subst h
      simp only [List.map_cons, List.sum_cons]
      omega
    · have := sum_lt l f g k h (fun j hj => hle j (List.mem_cons_of_mem _ hj)) hlt
      simp only [List.map_cons, List.sum_cons]
      omega
theorem left_stp {h t : Mo} {k : Nat} (hk : k < n) (hl : h k < t k) : left n (stp h k) t < left n h t := by
  unfold left
  refine sum_lt _ _ _ k (List.mem_range.mpr hk) (fun j _ => ?_) ?_
  · have := stp_le (h := h) (k := k) j
    omega
  · show t k - stp h k k < t k - h k
    rw [stp_same]
    omega
/-- the first order, if there is one at all; it comes by the marks, and is the least in the order of words -/
theorem greedy_ok (v : Ms n ms) : ∀ (f : Nat) {h t : Mo}, left n h t ≤ f → (∃ ks, Run ms n h ks t) → ∃ ks, greedy ms n f h t = some ks ∧ Run ms n h ks t ∧ ∀ ks', Run ms n h ks' t → ks = ks' ∨ HT.lexLt (ks.map fun (i : Nat) => (i : Int)) (ks'.map fun (i : Nat) => (i : Int)) = true := by
  intro f
  induction f with
  | zero =>
    intro h t hf ⟨ks, r⟩
    cases ks with
    | nil =>
      cases r with
      | nil e =>
        refine ⟨[], by unfold greedy; rw [if_pos (eqm_iff.mpr e)], .nil e, fun ks' r' => ?_⟩
        cases ks' with
        | nil => exact .inl rfl
        | cons k ks' =>
          obtain ⟨hk, _, hl, _⟩ := r'.lt
          rw [e k hk] at hl
          omega
    | cons k ks =>
      obtain ⟨hk, _, hl, _⟩ := r.lt
      have := left_stp hk hl
      omega
  | succ f ih =>
    intro h t hf ⟨ks, r⟩
    by_cases e : eqm n h t = true
    · have e2 := eqm_iff.mp e
      refine ⟨[], by unfold greedy; rw [if_pos e], .nil e2, fun ks' r' => ?_⟩
      cases ks' with
      | nil => exact .inl rfl
      | cons k ks' =>
        obtain ⟨hk, _, hl, _⟩ := r'.lt
        rw [e2 k hk] at hl
        omega
    · cases ks with
      | nil =>
        cases r with
        | nil e2 => exact absurd (eqm_iff.mpr e2) e
      | cons k0 ks =>
        obtain ⟨hk, nx, hl, _⟩ := r.lt
        have hm : k0 ∈ ready ms n h t := ready_mem.mpr ⟨hk, hl, nx⟩
        cases er : ready ms n h t with
        | nil => rw [er] at hm; cases hm
        | cons k rest =>
          have hk2 := ready_mem.mp (show k ∈ ready ms n h t by rw [er]; exact List.mem_cons_self ..)
          have l1 := left_stp hk2.1 hk2.2.1
          obtain ⟨ks1, g1, r1, m1⟩ := ih (by omega) (r.after v hk2.1 hk2.2.1)
          refine ⟨k :: ks1, by unfold greedy; rw [if_neg e, er]; show (greedy ms n f (stp h k) t).map (k :: ·) = _; rw [g1]; rfl, .cons hk2.1 hk2.2.2 r1, fun ks' r' => ?_⟩
          cases ks' with
          | nil =>
            cases r' with
            | nil e2 => exact absurd (eqm_iff.mpr e2) e
          | cons k' ks' =>
            obtain ⟨a1, a2, a3, a4⟩ := r'.lt
            have hm' : k' ∈ k :: rest := by rw [← er]; exact ready_mem.mpr ⟨a1, a3, a2⟩
            have hs : (k :: rest).Pairwise (· < ·) := by
              rw [← er]
              exact List.Pairwise.filter _ List.pairwise_lt_range
            by_cases c : k = k'
            · subst c
              rcases m1 ks' a4 with z | z
              · exact .inl (by rw [z])
              · refine .inr ?_
                rw [List.map_cons, List.map_cons, HT.lexLt_cons, if_pos rfl]
                exact z
            · refine .inr ?_
              have : k < k' := by
                rcases List.mem_cons.mp hm' with z | z
                · exact absurd z.symm c
                · exact (List.pairwise_cons.mp hs).1 k' z
              rw [List.map_cons, List.map_cons, HT.lexLt_cons, if_neg (by omega)]
              exact decide_eq_true (by omega)
theorem greedy_none (v : Ms n ms) : ∀ (f : Nat) {h t : Mo} {ks : List Nat}, greedy ms n f h t = some ks → Run ms n h ks t := by
  intro f
  induction f with
  | zero =>
    intro h t ks g
    unfold greedy at g
    by_cases e : eqm n h t = true
    · rw [if_pos e] at g
      cases g
      exact .nil (eqm_iff.mp e)
    · rw [if_neg e] at g; cases g
  | succ f ih =>
    intro h t ks g
    unfold greedy at g
    by_cases e : eqm n h t = true
    · rw [if_pos e] at g
      cases g
      exact .nil (eqm_iff.mp e)
    · rw [if_neg e] at g
      cases er : ready ms n h t with
      | nil => rw [er] at g; cases g
      | cons k rest =>
        rw [er] at g
        have hk2 := ready_mem.mp (show k ∈ ready ms n h t by rw [er]; exact List.mem_cons_self ..)
        cases e2 : greedy ms n f (stp h k) t with
        | none => simp only [e2] at g; cases g
        | some ks1 =>
          simp only [e2] at g
          cases g
          exact .cons hk2.1 hk2.2.2 (ih e2)
/-- what fits is just what can be come to, where all can be come to -/
theorem fit_iff (v : Ms n ms) {L x : Mo} {ks : List Nat} (r : Run ms n (fun _ => 0) ks L) (hx : ∀ j, j < n → x j ≤ L j) : fits ms x ↔ ∃ ks', Run ms n (fun _ => 0) ks' x := by
  constructor
  · intro f
    obtain ⟨ks', r'⟩ := r.restrict v f
    refine ⟨ks', r'.ext v (fun j hj => ?_) fun j hj => ?_⟩
    · show min 0 (x j) = 0
      omega
    · have := hx j hj
      show min (L j) (x j) = x j
      omega
  · intro ⟨ks', r'⟩
    have f0 : fits ms (fun _ => 0) := fun μ hμ hm => by
      have a := v.m_ μ hμ
      have hm : μ.m ≤ 0 := hm
      omega
    exact r'.fits v f0
end
end K46
set_option Elab.async false
set_option linter.all false
set_option maxRecDepth 100000
set_option maxHeartbeats 4000000
namespace K46
open PySem L2 PyProof.Rows DL
def topS (i : Nat) : Stmt := PySem.Challenge.pw_changestold_k46_whole_fitted_moments.main.body.getD i (.Pass ⟨0, 0, 0, 0⟩)
abbrev s_is_number : Stmt := topS 1
theorem sc_is_number : FnScope ["value", "least", "most"] ["value", "least", "most"] (defScope s_is_number) := ⟨rfl, rfl, rfl, by decide +kernel, rfl, by decide +kernel, by decide +kernel⟩
-- is_number: value 0, least 1, most 2
abbrev s_are_marks : Stmt := topS 3
theorem sc_are_marks : FnScope ["lasts", "value", "mark"] ["lasts", "value"] (defScope s_are_marks) := ⟨rfl, rfl, rfl, by decide +kernel, rfl, by decide +kernel, by decide +kernel⟩
-- are_marks: lasts 0, value 1, mark 2
abbrev s_is_mark : Stmt := topS 4
theorem sc_is_mark : FnScope ["lasts", "value"] ["lasts", "value"] (defScope s_is_mark) := ⟨rfl, rfl, rfl, by decide +kernel, rfl, by decide +kernel, by decide +kernel⟩
-- is_mark: lasts 0, value 1
abbrev s_can_be_next : Stmt := topS 5
theorem sc_can_be_next : FnScope ["marks", "here", "source", "moment", "one", "at", "other", "met"] ["marks", "here", "source"] (defScope s_can_be_next) := ⟨rfl, rfl, rfl, by decide +kernel, rfl, by decide +kernel, by decide +kernel⟩
-- can_be_next: marks 0, here 1, source 2, moment 3, one 4, at 5, other 6, met 7
abbrev s_with_moment : Stmt := topS 6
theorem sc_with_moment : FnScope ["moments", "source", "moment"] ["moments", "source", "moment"] (defScope s_with_moment) := ⟨rfl, rfl, rfl, by decide +kernel, rfl, by decide +kernel, by decide +kernel⟩
-- with_moment: moments 0, source 1, moment 2
abbrev s_order_between : Stmt := topS 7
theorem sc_order_between : FnScope ["marks", "here", "there", "found", "ready", "k"] ["marks", "here", "there"] (defScope s_order_between) := ⟨rfl, rfl, rfl, by decide +kernel, rfl, by decide +kernel, by decide +kernel⟩
-- order_between: marks 0, here 1, there 2, found 3, ready 4, k 5
abbrev s_order_of_all : Stmt := topS 8
theorem sc_order_of_all : FnScope ["lasts", "marks"] ["lasts", "marks"] (defScope s_order_of_all) := ⟨rfl, rfl, rfl, by decide +kernel, rfl, by decide +kernel, by decide +kernel⟩
-- order_of_all: lasts 0, marks 1
abbrev s_is_broken : Stmt := topS 9
theorem sc_is_broken : FnScope ["moments", "mark", "source", "moment", "other", "met"] ["moments", "mark"] (defScope s_is_broken) := ⟨rfl, rfl, rfl, by decide +kernel, rfl, by decide +kernel, by decide +kernel⟩
-- is_broken: moments 0, mark 1, source 2, moment 3, other 4, met 5
abbrev s_do_fit : Stmt := topS 10
theorem sc_do_fit : FnScope ["marks", "moments", "mark"] ["marks", "moments"] (defScope s_do_fit) := ⟨rfl, rfl, rfl, by decide +kernel, rfl, by decide +kernel, by decide +kernel⟩
-- do_fit: marks 0, moments 1, mark 2
abbrev s_greatest_fit : Stmt := topS 11
theorem sc_greatest_fit : FnScope ["marks", "moments", "broken", "mark"] ["marks", "moments"] (defScope s_greatest_fit) := ⟨rfl, rfl, rfl, by decide +kernel, rfl, by decide +kernel, by decide +kernel⟩
-- greatest_fit: marks 0, moments 1, broken 2, mark 3
abbrev s_least_fit : Stmt := topS 12
theorem sc_least_fit : FnScope ["marks", "moments", "broken", "mark"] ["marks", "moments"] (defScope s_least_fit) := ⟨rfl, rfl, rfl, by decide +kernel, rfl, by decide +kernel, by decide +kernel⟩
-- least_fit: marks 0, moments 1, broken 2, mark 3
abbrev s_fit_paper : Stmt := topS 13
theorem sc_fit_paper : FnScope ["marks", "moments", "found", "mark"] ["marks", "moments"] (defScope s_fit_paper) := ⟨rfl, rfl, rfl, by decide +kernel, rfl, by decide +kernel, by decide +kernel⟩
-- fit_paper: marks 0, moments 1, found 2, mark 3
abbrev s_is_fit_paper : Stmt := topS 14
theorem sc_is_fit_paper : FnScope ["marks", "moments", "fitted", "value", "mark", "one"] ["marks", "moments", "fitted", "value"] (defScope s_is_fit_paper) := ⟨rfl, rfl, rfl, by decide +kernel, rfl, by decide +kernel, by decide +kernel⟩
-- is_fit_paper: marks 0, moments 1, fitted 2, value 3, mark 4, one 5
abbrev s_order_through : Stmt := topS 15
theorem sc_order_through : FnScope ["lasts", "marks", "moments", "first"] ["lasts", "marks", "moments"] (defScope s_order_through) := ⟨rfl, rfl, rfl, by decide +kernel, rfl, by decide +kernel, by decide +kernel⟩
-- order_through: lasts 0, marks 1, moments 2, first 3
abbrev s_agree : Stmt := topS 16
theorem sc_agree : FnScope ["marks", "one", "other", "a", "b"] ["marks", "one", "other"] (defScope s_agree) := ⟨rfl, rfl, rfl, by decide +kernel, rfl, by decide +kernel, by decide +kernel⟩
-- agree: marks 0, one 1, other 2, a 3, b 4
abbrev s_law_flat : Stmt := topS 18
theorem sc_law_flat : FnScope ["rows", "found", "row"] ["rows"] (defScope s_law_flat) := ⟨rfl, rfl, rfl, by decide +kernel, rfl, by decide +kernel, by decide +kernel⟩
-- _law_flat: rows 0, found 1, row 2
abbrev s_law_box : Stmt := topS 19
theorem sc_law_box : FnScope ["script"] ["script"] (defScope s_law_box) := ⟨rfl, rfl, rfl, by decide +kernel, rfl, by decide +kernel, by decide +kernel⟩
-- _law_box: script 0
abbrev s_law_load : Stmt := topS 20
theorem sc_law_load : FnScope ["box", "cells", "cell", "size", "first", "second"] ["box"] (defScope s_law_load) := ⟨rfl, rfl, rfl, by decide +kernel, rfl, by decide +kernel, by decide +kernel⟩
-- _law_load: box 0, cells 1, cell 2, size 3, first 4, second 5
abbrev s_law_draw : Stmt := topS 21
theorem sc_law_draw : FnScope ["box", "many", "digit"] ["box", "many"] (defScope s_law_draw) := ⟨rfl, rfl, rfl, by decide +kernel, rfl, by decide +kernel, by decide +kernel⟩
-- _law_draw: box 0, many 1, digit 2
abbrev s_law_same : Stmt := topS 22
theorem sc_law_same : FnScope ["a", "b", "k"] ["a", "b"] (defScope s_law_same) := ⟨rfl, rfl, rfl, by decide +kernel, rfl, by decide +kernel, by decide +kernel⟩
-- _law_same: a 0, b 1, k 2
abbrev s_law_bent : Stmt := topS 23
theorem sc_law_bent : FnScope ["box", "value", "at", "pick"] ["box", "value"] (defScope s_law_bent) := ⟨rfl, rfl, rfl, by decide +kernel, rfl, by decide +kernel, by decide +kernel⟩
-- _law_bent: box 0, value 1, at 2, pick 3
abbrev s_law_course : Stmt := topS 24
theorem sc_law_course : FnScope ["box", "lasts", "here", "marks", "left", "step", "ready", "k", "other"] ["box", "lasts"] (defScope s_law_course) := ⟨rfl, rfl, rfl, by decide +kernel, rfl, by decide +kernel, by decide +kernel⟩
-- _law_course: box 0, lasts 1, here 2, marks 3, left 4, step 5, ready 6, k 7, other 8
abbrev s_law_all : Stmt := topS 25
theorem sc_law_all : FnScope ["lasts", "rows", "last", "row", "moment"] ["lasts"] (defScope s_law_all) := ⟨rfl, rfl, rfl, by decide +kernel, rfl, by decide +kernel, by decide +kernel⟩
-- _law_all: lasts 0, rows 1, last 2, row 3, moment 4
abbrev s_law_reached : Stmt := topS 26
theorem sc_law_reached : FnScope ["lasts", "marks", "first", "found", "level", "step", "later", "here", "k", "one", "at", "other", "met", "there"] ["lasts", "marks", "first"] (defScope s_law_reached) := ⟨rfl, rfl, rfl, by decide +kernel, rfl, by decide +kernel, by decide +kernel⟩
-- _law_reached: lasts 0, marks 1, first 2, found 3, level 4, step 5, later 6, here 7, k 8, one 9, at 10, other 11, met 12, there 13
abbrev s_law_whole : Stmt := topS 27
theorem sc_law_whole : FnScope ["value", "low", "high"] ["value", "low", "high"] (defScope s_law_whole) := ⟨rfl, rfl, rfl, by decide +kernel, rfl, by decide +kernel, by decide +kernel⟩
-- _law_whole: value 0, low 1, high 2
abbrev s_law_are_marks : Stmt := topS 28
theorem sc_law_are_marks : FnScope ["lasts", "value", "mark", "one", "at", "other", "met"] ["lasts", "value"] (defScope s_law_are_marks) := ⟨rfl, rfl, rfl, by decide +kernel, rfl, by decide +kernel, by decide +kernel⟩
-- _law_are_marks: lasts 0, value 1, mark 2, one 3, at 4, other 5, met 6
abbrev s_law : Stmt := topS 29
theorem sc_law : FnScope ["script", "box", "turn", "lasts", "source", "marks", "reached", "fits", "moments", "step", "last", "below", "one", "k", "above", "most", "few", "order", "ways", "paper", "bad", "value", "other", "both", "back", "mark"] ["script"] (defScope s_law) := ⟨rfl, rfl, rfl, by decide +kernel, rfl, by decide +kernel, by decide +kernel⟩
-- law: script 0, box 1, turn 2, lasts 3, source 4, marks 5, reached 6, fits 7, moments 8, step 9, last 10, below 11, one 12, k 13, above 14, most 15, few 16, order 17, ways 18, paper 19, bad 20, value 21, other 22, both 23, back 24, mark 25
section
variable {P : Program} {w : World} {K : PySem.W.Frag} {mg : Str → Option Value} {base : Heap}
/-! ### the box of draws: a list, its first item a list of its own -/
def Bx (M : Mem) (p c : Addr) : Prop := ∃ (cs : List Int) (a b : Int), M p = some (.lst [.ptr c, .int a, .int b]) ∧ M c = some (.lst (cs.map .int)) ∧ p ≠ c ∧ 0 ≤ a ∧ 0 ≤ b ∧ b < 4294967296
/-- nothing else is changed -/
def Els (M M' : Mem) (p c : Addr) : Prop := ∀ x, x ≠ p → x ≠ c → M' x = M x
theorem Els.refl (M : Mem) (p c : Addr) : Els M M p c := fun _ _ _ => rfl
theorem Els.trans {M M' M'' : Mem} {p c : Addr} (h : Els M M' p c) (h' : Els M' M'' p c) : Els M M'' p c := fun x a b => (h' x a b).trans (h x a b)
def S_box : SpD := fun ds M Q => ∃ ns : List Int, ds = [.scr ns] ∧ ns.length ≤ 63 ∧ ∀ p c M', M p = none → M c = none → Bx M' p c → Els M M' p c → Q (.ptr p) M'
theorem d_box (F : Df K mg "_law_box" s_law_box ["script"]) (B : Blt mg) : Cal P w K mg base 1 "_law_box" 1 S_box := by
  refine dfn' F sc_law_box rfl fun f cdv A outer s H E ds M Q hr hl hs => ?_
  obtain ⟨ns, rfl, hn, q⟩ := hs
  refine wss_one (ws_ret (we_lstM (wa_cons (we_ct call_list_of B.list bi_list (wa_cons (ee_sl sl_list (ee_v 0 rfl) eo_none (eo_some ee_int) (sd_scr (wa_nil (cd_lstM (.inr (.inl rfl)) fun c hc => ?_))))) ))))
  refine wa_cons (EE.to ee_int (wa_cons (EE.to (ee_add ee_int (ee_cb call_len B.len bi_len (ea_cons (ee_v 0 rfl) ea_nil) (cd_lenC ⟨rfl, rfl⟩))) (wa_nil ⟨by exact small30, fun p hp => ?_⟩))))
  have ne : p ≠ c := fun e => by subst e; rw [updM_same] at hp; cases hp
  have hpM : M p = none := by rw [updM_ne ne] at hp; exact hp
  exact q p c _ hpM hc ⟨_, 0, _, updM_same, by rw [updM_ne ne.symm]; exact updM_same, ne, by omega, by omega, by omega⟩ fun x h1 h2 => by rw [updM_ne h1, updM_ne h2]
def S_load : SpD := fun ds M Q => ∃ (p c : Addr), ds = [.ptr p] ∧ Bx M p c ∧ ∀ r M', 0 ≤ r → Bx M' p c → Els M M' p c → Q (.int r) M'
theorem d_load (F : Df K mg "_law_load" s_law_load ["box"]) (B : Blt mg) : Cal P w K mg base 1 "_law_load" 1 S_load := by
  refine dfn' F sc_law_load rfl fun f cdv A outer s H E ds M Q hr hl hs => ?_
  obtain ⟨p, c, rfl, hB, q⟩ := hs
  have nd := sc_law_load.nd
  obtain ⟨cs, a, b, hp, hc, ne, ha, hb, hb2⟩ := id hB
  -- behind the if
  have rest : ∀ (x y : Option D) (M1 : Mem), Bx M1 p c → Els M M1 p c → WSs (cxOf CX0 P w K mg base ["box", "cells", "cell", "size", "first", "second"] "_law_load" (defScope s_law_load) f cdv A outer s H E).nox ((defBody s_law_load).drop 2) [some (.ptr p), some (.ptr c), x, y, none, none] M1 { nx := fun _ M' => Q .non M', rt := Q } := fun x y M1 hB1 hE => by
    obtain ⟨cs, a, b, hp, hc, ne, ha, hb, hb2⟩ := hB1
    refine wss_cons (ws_set 4 nd (EE.to (ee_mod (ee_ct call_int1 B.int bi_int (ea_cons (ee_add (ee_mul (ee_ix ix_list (ee_v 0 rfl) ee_int (od_ixL (.inr ⟨p, rfl, hp⟩) rfl ⟨rfl, rfl⟩)) ee_int (.inr ⟨by decide, by decide⟩)) ee_int) ea_nil) (cd_int ⟨rfl, rfl⟩)) ee_int (by decide)) ?_))
    generalize h1 : (b * 48271 + 17) % 2147483629 = first
    refine wss_cons (ws_set 5 nd (EE.to (ee_mod (ee_ct call_int1 B.int bi_int (ea_cons (ee_add (ee_mul (ee_v 4 rfl) ee_int (.inr ⟨by decide, by decide⟩)) ee_int) ea_nil) (cd_int ⟨rfl, rfl⟩)) ee_int (by decide)) ?_))
    generalize h2 : (first * 69621 + 5) % 2147483587 = second
    refine wss_cons (ws_sub set_list (EE.to (ee_mod (ee_ct call_int1 B.int bi_int (ea_cons (ee_add (ee_mul (ee_v 5 rfl) ee_int (.inr ⟨by decide, by decide⟩)) ee_int) ea_nil) (cd_int ⟨rfl, rfl⟩)) ee_int (by decide)) (EE.to (ee_v 0 rfl) (EE.to ee_int (sd_setL hp rfl ?_)))))
    generalize h3 : (second * 40692 + 3) % 2147483563 = third
    have f0 : 0 ≤ first := by rw [← h1]; exact Int.emod_nonneg _ (by decide)
    have s0 : 0 ≤ second := by rw [← h2]; exact Int.emod_nonneg _ (by decide)
    have t0 : 0 ≤ third := by rw [← h3]; exact Int.emod_nonneg _ (by decide)
    have t1 : third < 2147483563 := by rw [← h3]; exact Int.emod_lt_of_pos _ (by decide)
    refine wss_one (ws_ret (EE.to (ee_add (ee_add (ee_mul (ee_v 4 rfl) ee_int (.inr ⟨by decide, by decide⟩)) (ee_mul (ee_v 5 rfl) ee_int (.inr ⟨by decide, by decide⟩))) (ee_ix ix_list (ee_v 0 rfl) ee_int (od_ixL (.inr ⟨p, rfl, updM_same⟩) rfl ⟨rfl, rfl⟩))) (q _ _ (by omega) ⟨cs, a, third, updM_same, by rw [updM_ne ne.symm]; exact hc, ne, ha, t0, by omega⟩ (hE.trans fun x h1 h2 => updM_ne h1))))
  refine wss_cons (ws_set 1 nd (EE.to (ee_ix ix_list (ee_v 0 rfl) ee_int (od_ixL (.inr ⟨p, rfl, hp⟩) rfl ⟨rfl, rfl⟩)) ?_))
  refine wss_cons (ws_ifE (et_gt (ee_cb call_len B.len bi_len (ea_cons (ee_v 1 rfl) ea_nil) (cd_lenL (.inr ⟨c, rfl, hc⟩) ⟨rfl, rfl⟩)) ee_int) (fun h => ?_) fun _ => wss_nil (rest _ _ M hB (Els.refl _ _ _)))
  cases cs with
  | nil => exact absurd (of_decide_eq_true h) (by decide)
  | cons n cs =>
    refine wss_cons (ws_set 2 nd (we_ct call_int1 B.int bi_int (wa_cons (we_bm PySem.F.plainAttrs_list PySem.F.slot_list_pop PySem.F.type_list_pop mt_popAt (EE.to (ee_v 1 rfl) ⟨ty_lst (.inr ⟨c, rfl, hc⟩), wa_cons (EE.to ee_int (wa_nil (md_pop0 hc (wa_nil (cd_int ?_)))))⟩)))))
    have hB1 : Bx (updM M c (some (.lst (cs.map .int)))) p c := ⟨cs, a, b, by rw [updM_ne ne]; exact hp, updM_same, ne, ha, hb, hb2⟩
    have hE1 : Els M (updM M c (some (.lst (cs.map .int)))) p c := fun x h1 h2 => updM_ne h2
    generalize updM M c (some (.lst (cs.map .int))) = M1 at hB1 hE1 ⊢
    refine wss_cons (ws_set 3 nd (WE.imp (Q := fun d M2 => (∃ z, d = .int z ∧ 0 ≤ z) ∧ M2 = M1) (we_if (ET.to (et_ge (ee_v 2 rfl) ee_int) ⟨fun h => EE.to (ee_mul ee_int (ee_v 2 rfl) (.inl ⟨by decide, by decide⟩)) ⟨⟨_, rfl, by have := of_decide_eq_true h; omega⟩, rfl⟩, fun h => EE.to (ee_sub (ee_mul (ee_neg ee_int) (ee_v 2 rfl) (.inl ⟨by decide, by decide⟩)) ee_int) ⟨⟨_, rfl, by have := of_decide_eq_false h; omega⟩, rfl⟩⟩)) fun d M2 ⟨⟨z, e1, hz⟩, e2⟩ => ?_))
    subst e1; subst e2
    refine wss_cons (ws_ifE (et_ge (ee_v 3 rfl) ee_int) (fun _ => wss_one (ws_ret (EE.to (ee_v 3 rfl) (q _ _ hz hB1 hE1)))) fun _ => wss_nil ?_)
    obtain ⟨cs2, a2, b2, hp2, hc2, ne2, ha2, hb2', hb22⟩ := hB1
    refine wss_one (ws_sub set_list (EE.to (ee_mod (ee_ct call_int1 B.int bi_int (ea_cons (ee_add (ee_add (ee_mul (ee_ix ix_list (ee_v 0 rfl) ee_int (od_ixL (.inr ⟨p, rfl, hp2⟩) rfl ⟨rfl, rfl⟩)) ee_int (.inr ⟨by decide, by decide⟩)) (ee_mul (ee_v 3 rfl) ee_int (.inr ⟨by decide, by decide⟩))) ee_int) ea_nil) (cd_int ⟨rfl, rfl⟩)) ee_int (by decide)) (EE.to (ee_v 0 rfl) (EE.to ee_int (sd_setL hp2 rfl ?_)))))
    generalize h3 : (b2 * 69621 + z * 48271 + 11) % 2147483647 = third
    have t0 : 0 ≤ third := by rw [← h3]; exact Int.emod_nonneg _ (by decide)
    have t1 : third < 2147483647 := by rw [← h3]; exact Int.emod_lt_of_pos _ (by decide)
    exact rest _ _ _ ⟨cs2, a2, third, updM_same, by rw [updM_ne ne2.symm]; exact hc2, ne2, ha2, t0, by omega⟩ (hE1.trans fun x h1 h2 => updM_ne h1)
def S_draw : SpD := fun ds M Q => ∃ (p c : Addr) (m : Int), ds = [.ptr p, .int m] ∧ Bx M p c ∧ 0 < m ∧ m < 1000000000 ∧ ∀ r M', 0 ≤ r → r < m → Bx M' p c → Els M M' p c → Q (.int r) M'
theorem d_draw (F : Df K mg "_law_draw" s_law_draw ["box", "many"]) (B : Blt mg) (C1 : Cal P w K mg base 1 "_law_load" 1 S_load) : Cal P w K mg base 2 "_law_draw" 2 S_draw := by
  refine dfn' F sc_law_draw rfl fun f cdv A outer s H E ds M Q hr hl hs => ?_
  obtain ⟨p, c, m, rfl, hB, m0, m1, q⟩ := hs
  have nd := sc_law_draw.nd
  have rest : ∀ (M1 : Mem), Bx M1 p c → Els M M1 p c → WSs (cxOf CX0 P w K mg base ["box", "many", "digit"] "_law_draw" (defScope s_law_draw) f cdv A outer s H E).nox ((defBody s_law_draw).drop 1) [some (.ptr p), some (.int m), none] M1 { nx := fun _ M' => Q .non M', rt := Q } := fun M1 hB1 hE => by
    obtain ⟨cs, a, b, hp, hc, ne, ha, hb, hb2⟩ := hB1
    refine wss_cons (ws_set 2 nd (EE.to (ee_mod (ee_ct call_int1 B.int bi_int (ea_cons (ee_ix ix_list (ee_v 0 rfl) ee_int (od_ixL (.inr ⟨p, rfl, hp⟩) rfl ⟨rfl, rfl⟩)) ea_nil) (cd_int ⟨rfl, rfl⟩)) (ee_v 1 rfl) m0) ?_))
    refine wss_cons (ws_sub set_list (EE.to (ee_fdiv (ee_ix ix_list (ee_v 0 rfl) ee_int (od_ixL (.inr ⟨p, rfl, hp⟩) rfl ⟨rfl, rfl⟩)) (ee_v 1 rfl) ⟨m0, by omega⟩) (EE.to (ee_v 0 rfl) (EE.to ee_int (sd_setL hp rfl ?_)))))
    exact wss_one (ws_ret (EE.to (ee_v 2 rfl) (q _ _ (Int.emod_nonneg _ (by omega)) (Int.emod_lt_of_pos _ m0) ⟨cs, a / m, b, updM_same, by rw [updM_ne ne.symm]; exact hc, ne, Int.ediv_nonneg ha (by omega), hb, hb2⟩ (hE.trans fun x h1 h2 => updM_ne h1))))
  obtain ⟨cs, a, b, hp, hc, ne, ha, hb, hb2⟩ := id hB
  refine wss_cons (ws_ifE (et_lt (ee_ix ix_list (ee_v 0 rfl) ee_int (od_ixL (.inr ⟨p, rfl, hp⟩) rfl ⟨rfl, rfl⟩)) (ee_v 1 rfl)) (fun _ => ?_) fun _ => wss_nil (rest M hB (Els.refl _ _ _)))
  refine wss_one (ws_sub set_list (we_call C1 hr (EA.to (ea_cons (ee_v 0 rfl) ea_nil) ⟨rfl, p, c, rfl, hB, fun r M1 r0 hB1 hE => ?_⟩)))
  obtain ⟨cs1, a1, b1, hp1, hc1, ne1, ha1, hb1, hb21⟩ := hB1
  refine EE.to (ee_v 0 rfl) (EE.to ee_int (sd_setL hp1 rfl ?_))
  exact rest _ ⟨cs1, r, b1, updM_same, by rw [updM_ne ne1.symm]; exact hc1, ne1, r0, hb1, hb21⟩ (hE.trans fun x h1 h2 => updM_ne h1)
end
end K46
set_option Elab.async false
set_option linter.all false
set_option maxRecDepth 100000
set_option maxHeartbeats 4000000
namespace K46
open PySem L2 PyProof.Rows DL
section
variable {P : Program} {w : World} {K : PySem.W.Frag} {mg : Str → Option Value} {base : Heap}
/-! ### _law_same -/
def S_same (n : Nat) : SpD := fun ds M Q => ∃ a b, ds = [a, b] ∧ wf 900 n a = true ∧ wf 900 n b = true ∧ Q (.bl (eqD a b)) M
theorem d_same_step {n : Nat} (F : Df K mg "_law_same" s_law_same ["a", "b"]) (B : Blt mg) (C : Cal P w K mg base n "_law_same" 2 (S_same n)) : Cal P w K mg base (n + 1) "_law_same" 2 (S_same (n + 1)) := by
  refine dfn' F sc_law_same rfl fun f cdv A outer s H E ds M Q hr hl hs => ?_
  obtain ⟨a, b, rfl, ha, hb, q⟩ := hs
  have nd := sc_law_same.nd
  have la := pl_lk M (wf_pl ha)
  have lb := pl_lk M (wf_pl hb)
  refine wss_cons (ws_ifE (ww_pt (ew_or (ww_pt (ew_and (et_val (ee_isT B.isinstance B.tuple (ee_v 0 rfl) la)) fun _ => ww_and1 (et_val (ee_isT B.isinstance B.tuple (ee_v 1 rfl) lb)))) fun _ => ww_or1 (ww_pt (ew_and (et_val (ee_isL B.isinstance B.list (ee_v 0 rfl) la)) fun _ => ww_and1 (et_val (ee_isL B.isinstance B.list (ee_v 1 rfl) lb)))))) (fun h => ?_) fun h1 => wss_nil ?_)
  · -- two tuples, two lists
    rcases Bool.or_eq_true_iff.mp h with h | h
    · obtain ⟨h1, h2⟩ := Bool.and_eq_true_iff.mp h
      obtain ⟨as, rfl⟩ := isT_of h1
      obtain ⟨bs, rfl⟩ := isT_of h2
      obtain ⟨za, wa⟩ := wf_tup ha
      obtain ⟨zb, wb⟩ := wf_tup hb
      have e : eqD (.tup as) (.tup bs) = (decide ((as.length : Int) = (bs.length : Int)) && ((List.range as.length).map fun j => eqD (as.getD j .non) (bs.getD j .non)).all id) := (eqD_of ⟨fun h => congrArg _ (eq_lists.mp h), fun h => eq_lists.mpr (D.tup.inj h)⟩).symm
      rw [e] at q
      refine wss_one (ws_ret (EE.to (ee_and (ee_eqI (ee_cb call_len B.len bi_len (ea_cons (ee_v 0 rfl) ea_nil) (cd_lenT ⟨rfl, rfl⟩)) (ee_cb call_len B.len bi_len (ea_cons (ee_v 1 rfl) ea_nil) (cd_lenT ⟨rfl, rfl⟩))) fun hl => we_one ?_) q))
      have hl' : as.length = bs.length := by have := of_decide_eq_true hl; omega
      refine ee_cb (cr_all rfl) B.all bi_all (ea_cons (ee_lc1 2 (ds := rngD 0 as.length) (fun d => .bl (eqD (as.getD (intOf d).toNat .non) (bs.getD (intOf d).toNat .non))) rfl nd (wi_rng1 B.range (EA.to (ea_cons (ee_cb call_len B.len bi_len (ea_cons (ee_v 0 rfl) ea_nil) (cd_lenT ⟨rfl, rfl⟩)) ea_nil) ⟨_, rfl, by omega, by omega, rfl, rfl, trivial⟩)) (by rw [rngD_len]; exact lt1000 (by omega)) fun j d hd s H C' cl fp => ?_) ea_nil) (cd_all (bs := (List.range as.length).map fun j => eqD (as.getD j .non) (bs.getD j .non)) (.inl ?_) ⟨rfl, rfl⟩)
      · obtain ⟨hj, rfl⟩ := rngD_at hd
        have ej : (intOf (.int (0 + (j : Int)))).toNat = j := by show (0 + (j : Int)).toNat = j; omega
        rw [ej]
        refine we_call C hr (EA.to (ea_cons (ee_ix ix_tup (ee_v 0 rfl) (ee_v 2 rfl) (od_ixT (atI_of hj) ⟨rfl, rfl⟩)) (ea_cons (ee_ix ix_tup (ee_v 1 rfl) (ee_v 2 rfl) (od_ixT (atI_of (by omega)) ⟨rfl, rfl⟩)) ea_nil)) ⟨rfl, _, _, rfl, wa _ ?_, wb _ ?_, rfl, rfl⟩)
        · rw [DL.getD_at hj]; exact List.getElem_mem hj
        · rw [DL.getD_at (by omega)]; exact List.getElem_mem _
      · unfold rngD
        rw [List.map_map, List.map_map]
        congr 1
        apply List.map_congr_left
        intro j _
        show D.bl (eqD (as.getD (0 + (j : Int)).toNat .non) (bs.getD (0 + (j : Int)).toNat .non)) = D.bl (eqD (as.getD j .non) (bs.getD j .non))
        rw [show (0 + (j : Int)).toNat = j by omega]
    · obtain ⟨h1, h2⟩ := Bool.and_eq_true_iff.mp h
      have h1' : ∃ as, a = .lst as := by cases a <;> first | exact ⟨_, rfl⟩ | exact absurd (show false = true from h1) Bool.false_ne_true | exact absurd (show false = true from ha) Bool.false_ne_true
      have h2' : ∃ bs, b = .lst bs := by cases b <;> first | exact ⟨_, rfl⟩ | exact absurd (show false = true from h2) Bool.false_ne_true | exact absurd (show false = true from hb) Bool.false_ne_true
      obtain ⟨as, rfl⟩ := h1'
      obtain ⟨bs, rfl⟩ := h2'
      obtain ⟨za, wa⟩ := wf_lst ha
      obtain ⟨zb, wb⟩ := wf_lst hb
      have e : eqD (.lst as) (.lst bs) = (decide ((as.length : Int) = (bs.length : Int)) && ((List.range as.length).map fun j => eqD (as.getD j .non) (bs.getD j .non)).all id) := (eqD_of ⟨fun h => congrArg _ (eq_lists.mp h), fun h => eq_lists.mpr (D.lst.inj h)⟩).symm
      rw [e] at q
      refine wss_one (ws_ret (EE.to (ee_and (ee_eqI (ee_cb call_len B.len bi_len (ea_cons (ee_v 0 rfl) ea_nil) (cd_lenL (.inl rfl) ⟨rfl, rfl⟩)) (ee_cb call_len B.len bi_len (ea_cons (ee_v 1 rfl) ea_nil) (cd_lenL (.inl rfl) ⟨rfl, rfl⟩))) fun hl => we_one ?_) q))
      have hl' : as.length = bs.length := by have := of_decide_eq_true hl; omega
      refine ee_cb (cr_all rfl) B.all bi_all (ea_cons (ee_lc1 2 (ds := rngD 0 as.length) (fun d => .bl (eqD (as.getD (intOf d).toNat .non) (bs.getD (intOf d).toNat .non))) rfl nd (wi_rng1 B.range (EA.to (ea_cons (ee_cb call_len B.len bi_len (ea_cons (ee_v 0 rfl) ea_nil) (cd_lenL (.inl rfl) ⟨rfl, rfl⟩)) ea_nil) ⟨_, rfl, by omega, by omega, rfl, rfl, trivial⟩)) (by rw [rngD_len]; exact lt1000 (by omega)) fun j d hd s H C' cl fp => ?_) ea_nil) (cd_all (bs := (List.range as.length).map fun j => eqD (as.getD j .non) (bs.getD j .non)) (.inl ?_) ⟨rfl, rfl⟩)
      · obtain ⟨hj, rfl⟩ := rngD_at hd
        have ej : (intOf (.int (0 + (j : Int)))).toNat = j := by show (0 + (j : Int)).toNat = j; omega
        rw [ej]
        refine we_call C hr (EA.to (ea_cons (ee_ix ix_list (ee_v 0 rfl) (ee_v 2 rfl) (od_ixL (.inl rfl) (atI_of hj) ⟨rfl, rfl⟩)) (ea_cons (ee_ix ix_list (ee_v 1 rfl) (ee_v 2 rfl) (od_ixL (.inl rfl) (atI_of (by omega)) ⟨rfl, rfl⟩)) ea_nil)) ⟨rfl, _, _, rfl, wa _ ?_, wb _ ?_, rfl, rfl⟩)
        · rw [DL.getD_at hj]; exact List.getElem_mem hj
        · rw [DL.getD_at (by omega)]; exact List.getElem_mem _
      · unfold rngD
        rw [List.map_map, List.map_map]
        congr 1
        apply List.map_congr_left
        intro j _
        show D.bl (eqD (as.getD (0 + (j : Int)).toNat .non) (bs.getD (0 + (j : Int)).toNat .non)) = D.bl (eqD (as.getD j .non) (bs.getD j .non))
        rw [show (0 + (j : Int)).toNat = j by omega]
  refine wss_cons (ws_ifE (ww_pt (ew_or (et_val (ee_isB B.isinstance B.bool (ee_v 0 rfl) la)) fun _ => ww_or1 (et_val (ee_isB B.isinstance B.bool (ee_v 1 rfl) lb)))) (fun h => ?_) fun h2 => wss_nil ?_)
  · rw [← same_leaf2 h] at q
    refine wss_one (ws_ret (EE.to (ee_and (ee_isB B.isinstance B.bool (ee_v 0 rfl) la) fun k1 => ee_and (ee_isB B.isinstance B.bool (ee_v 1 rfl) lb) fun k2 => we_one ?_) q))
    obtain ⟨x, rfl⟩ := isB_of k1
    obtain ⟨y, rfl⟩ := isB_of k2
    refine ee_cmp op_eq (ee_v 0 rfl) (ee_v 1 rfl) (od_eqB ⟨?_, rfl⟩)
    exact congrArg D.bl (eqD_of ⟨fun h => congrArg _ (of_decide_eq_true h), fun h => decide_eq_true (D.bl.inj h)⟩)
  refine wss_cons (ws_ifE (ww_pt (ew_or (ww_pt (ew_and (et_val (ee_isI B.isinstance B.int (ee_v 0 rfl) la)) fun _ => ww_and1 (et_val (ee_isI B.isinstance B.int (ee_v 1 rfl) lb)))) fun _ => ww_or1 (ww_pt (ew_and (et_val (ee_isS B.isinstance B.str (ee_v 0 rfl) la)) fun _ => ww_and1 (et_val (ee_isS B.isinstance B.str (ee_v 1 rfl) lb)))))) (fun h => ?_) fun h3 => wss_nil ?_)
  · obtain ⟨k1, k2⟩ := Bool.or_eq_false_iff.mp h2
    rcases Bool.or_eq_true_iff.mp h with h | h
    · obtain ⟨j1, j2⟩ := Bool.and_eq_true_iff.mp h
      obtain ⟨x, rfl⟩ := isI_of (d := a) (by rw [j1, k1]; rfl)
      obtain ⟨y, rfl⟩ := isI_of (d := b) (by rw [j2, k2]; rfl)
      refine wss_one (ws_ret (EE.to (ee_eqI (ee_v 0 rfl) (ee_v 1 rfl)) ?_))
      rw [eqD_of (a := .int x) (b := .int y) ⟨fun h => congrArg _ (of_decide_eq_true h), fun h => decide_eq_true (D.int.inj h)⟩]
      exact q
    · obtain ⟨j1, j2⟩ := Bool.and_eq_true_iff.mp h
      obtain ⟨x, rfl⟩ := isS_of j1
      obtain ⟨y, rfl⟩ := isS_of j2
      refine wss_one (ws_ret (ee_cmp op_eq (ee_v 0 rfl) (ee_v 1 rfl) (od_eqS ?_)))
      rw [eqD_of (a := .str x) (b := .str y) ⟨fun h => congrArg _ (of_decide_eq_true h), fun h => decide_eq_true (D.str.inj h)⟩]
      exact q
  · rw [← same_leaf4 (wf_pl ha) (wf_pl hb) h1 h2 h3] at q
    exact wss_one (ws_ret (EE.to (ee_and (ee_cmp op_isN (ee_v 0 rfl) ee_non (od_isN ⟨rfl, rfl⟩)) fun _ => we_one (ee_cmp op_isN (ee_v 1 rfl) ee_non (od_isN ⟨rfl, rfl⟩))) q))
theorem d_same0 (F : Df K mg "_law_same" s_law_same ["a", "b"]) : Cal P w K mg base 0 "_law_same" 2 (S_same 0) := by
  obtain ⟨f, fd, F, hm, hb⟩ := F
  have no : ∀ vs H R E, ¬ spD K 2 (S_same 0) vs H R E := fun vs H R E h => by
    obtain ⟨_, _, _, _, _, _, _, ⟨_, _, _, z, _⟩, _⟩ := h
    cases z
  exact ⟨f, fd, ["a", "b"], ⟨fun vs H R E h => absurd h (no vs H R E), fun A outer s H args us vs R E _ _ _ _ h => absurd h (no vs H R E)⟩, hm, F.kp, hb⟩
theorem d_same (F : Df K mg "_law_same" s_law_same ["a", "b"]) (B : Blt mg) : ∀ n : Nat, Cal P w K mg base n "_law_same" 2 (S_same n)
  | 0 => d_same0 F
  | n + 1 => d_same_step F B (d_same F B n)
end
end K46
set_option Elab.async false
set_option linter.all false
set_option maxRecDepth 100000
set_option maxHeartbeats 4000000
namespace K46
open PySem L2 PyProof.Rows DL
/-! ### marks, moments as data; is_number, with_moment, can_be_next -/
def mkD (μ : Mk) : D := .tup [.int (μ.s : Int), .int (μ.m : Int), .int (μ.o : Int), .int (μ.t : Int)]
def msD (ms : List Mk) : D := .tup (ms.map mkD)
def moI (n : Nat) (h : Mo) : List Int := (List.range n).map fun j => (h j : Int)
def moD (n : Nat) (h : Mo) : D := .tup ((moI n h).map .int)
theorem units65 {k : Nat} {A : Around} (r : Room k A) : A.units + 65 < cLine := by have := r.un; omega
theorem moI_len (n : Nat) (h : Mo) : (moI n h).length = n := by unfold moI; rw [List.length_map, List.length_range]
theorem moI_at {n : Nat} {h : Mo} {j : Nat} (hj : j < n) : (moI n h)[j]? = some (h j : Int) := by unfold moI; rw [List.getElem?_map, List.getElem?_range hj]; rfl
theorem moD_at {n : Nat} {h : Mo} {j : Nat} (hj : j < n) : atI ((moI n h).map D.int) (j : Int) = some (.int (h j : Int)) := atI_nat (by rw [List.getElem?_map, moI_at hj]; rfl)
theorem small_i {n : Nat} (h : n < 100000) : n ≤ sizeLine := Nat.le_trans (show n ≤ 200000 by omega) (by decide)
theorem lt_i {n : Nat} (h : n < 100000) : n < sizeLine := Nat.lt_of_lt_of_le (show n < 200000 by omega) (by decide)
def wm (h : Mo) (s m : Nat) : Mo := fun j => if j = s then m else h j
theorem moI_wm {n : Nat} {h : Mo} {s m : Nat} (hs : s < n) : (moI n h).take s ++ [(m : Int)] ++ (moI n h).drop (s + 1) = moI n (wm h s m) := by
  apply List.ext_getElem?
  intro i
  have ll : ((moI n h).take s).length = s := by rw [List.length_take, moI_len]; omega
  by_cases h1 : i < s
  · rw [List.append_assoc, List.getElem?_append_left (by omega), List.getElem?_take, if_pos h1, moI_at (by omega), moI_at (by omega)]
    unfold wm
    rw [if_neg (by omega)]
  · by_cases h2 : i = s
    · subst h2
      rw [List.append_assoc, List.getElem?_append_right (by omega), ll, Nat.sub_self, moI_at hs]
      unfold wm
      rw [if_pos rfl]
      rfl
    · rw [List.getElem?_append_right (by rw [List.length_append, ll]; show s + 1 ≤ i; omega), List.length_append, ll, List.getElem?_drop]
      show (moI n h)[s + 1 + (i - (s + 1))]? = _
      rw [show s + 1 + (i - (s + 1)) = i by omega]
      by_cases h3 : i < n
      · rw [moI_at h3, moI_at h3]
        unfold wm
        rw [if_neg h2]
      · rw [List.getElem?_eq_none (by rw [moI_len]; omega), List.getElem?_eq_none (by rw [moI_len]; omega)]
theorem eqv_two (a b c d : Int) : PyData.eqv (.tuple [.int a, .int b]) (.tuple [.int c, .int d]) = (decide (a = c) && decide (b = d)) := by
  have e : ∀ x y : Int, PyData.eqv (.int x) (.int y) = decide (x = y) := eqv_int
  simp only [PyData.eqv, PyData.eqvAll, Bool.and_true] at *
  try rw [e, e]
section
variable {P : Program} {w : World} {K : PySem.W.Frag} {mg : Str → Option Value} {base : Heap}
def S_num : SpD := fun ds M Q => ∃ x lo hi, ds = [x, .int lo, .int hi] ∧ pl x = true ∧ Q (.bl (wholeB x lo hi)) M
theorem d_number (F : Df K mg "is_number" s_is_number ["value", "least", "most"]) (B : Blt mg) : Cal P w K mg base 1 "is_number" 3 S_num := by
  refine dfn' F sc_is_number rfl fun f cdv A outer s H E ds M Q hr hl hs => ?_
  obtain ⟨x, lo, hi, rfl, hp, q⟩ := hs
  refine wss_one (ws_ret (EE.to ((ee_and (ee_isI B.isinstance B.int (ee_v 0 rfl) (pl_lk M hp)) fun h1 => ee_and (q := decide (lo ≤ intOf x) && decide (intOf x ≤ hi)) (ee_not (ee_isB B.isinstance B.bool (ee_v 0 rfl) (pl_lk M hp))) fun h2 => we_one ?_).is (congrArg D.bl (Bool.and_assoc _ _ _).symm)) q))
  obtain ⟨i, rfl⟩ := isI_of (d := x) (by rw [h1, h2]; rfl)
  exact ee_le_le (ee_v 1 rfl) (ee_v 0 rfl) (ee_v 2 rfl)
def S_wm : SpD := fun ds M Q => ∃ (n : Nat) (h : Mo) (s m : Nat), ds = [moD n h, .int (s : Int), .int (m : Int)] ∧ s < n ∧ n < 1000 ∧ Q (moD n (wm h s m)) M
theorem d_wm (F : Df K mg "with_moment" s_with_moment ["moments", "source", "moment"]) : Cal P w K mg base 1 "with_moment" 3 S_wm := by
  refine dfn' F sc_with_moment rfl fun f cdv A outer s H E ds M Q hr hl hs => ?_
  obtain ⟨n, h, so, m, rfl, h1, h2, q⟩ := hs
  have ln : ((moI n h).map D.int).length = n := by rw [List.length_map, moI_len]
  have c1 := cut_len ((moI n h).map D.int) none (some (so : Int))
  have c2 := cut_len ((moI n h).map D.int) (some ((so : Int) + 1)) none
  refine wss_one (ws_ret (EE.to (EE.is (ee_op op_catA (ee_op op_catA (ee_sl sl_tupA (ee_v 0 rfl) eo_none (eo_some (ee_v 1 rfl)) (sd_tup ⟨rfl, rfl⟩)) (ee_tup (ea_cons (ee_v 2 rfl) ea_nil)) (od_catT (small_i (show _ + 1 < 100000 by omega)) ⟨rfl, rfl⟩)) (ee_sl sl_tupA (ee_v 0 rfl) (eo_some (ee_add (ee_v 1 rfl) ee_int)) eo_none (sd_tup ⟨rfl, rfl⟩)) (od_catT (by rw [List.length_append]; exact small_i (show _ + 1 + _ < 100000 by omega)) ⟨rfl, rfl⟩)) ?_) q))
  rw [show (so : Int) + 1 = ((so + 1 : Nat) : Int) by omega, cut_toN, cut_fromN]
  unfold moD
  rw [← moI_wm h1, List.map_append, List.map_append, List.map_take, List.map_drop]
  rfl
def S_next : SpD := fun ds M Q => ∃ (n : Nat) (ms : List Mk) (h : Mo) (k : Nat), ds = [msD ms, moD n h, .int (k : Int)] ∧ Ms n ms ∧ k < n ∧ ms.length < 9000 ∧ Q (.bl (decide (nxt ms h k))) M
theorem d_next (F : Df K mg "can_be_next" s_can_be_next ["marks", "here", "source"]) (B : Blt mg) : Cal P w K mg base 1 "can_be_next" 3 S_next := by
  refine dfn' F sc_can_be_next rfl fun f cdv A outer s H E ds M Q hr hl hs => ?_
  obtain ⟨n, ms, h, k, rfl, v, hk, hz, q⟩ := hs
  have nd := sc_can_be_next.nd
  refine wss_cons (ws_set 3 nd (EE.to (ee_add (ee_ix ix_tup (ee_v 1 rfl) (ee_v 2 rfl) (od_ixT (moD_at hk) ⟨rfl, rfl⟩)) ee_int) ?_))
  refine wss_one (ws_ret (EE.to (ee_cb (cr_all rfl) B.all bi_all (ea_cons (ee_lc4if 4 5 6 7 (ds := ms.map mkD) (fun d => decide (intOf (d4 0 d) = (k : Int)) && decide (intOf (d4 1 d) = (h k : Int) + 1)) (fun d => .bl (decide (intOf (d4 3 d) ≤ (h (intOf (d4 2 d)).toNat : Int)))) rfl nd (wi_tup (EE.to (ee_v 0 rfl) ⟨_, rfl, rfl, rfl, trivial⟩)) (by rw [List.length_map]; exact lt_i (by omega)) fun m d hd => ?_) ea_nil) (cd_all (bs := (ms.filter fun μ => decide (μ.s = k) && decide (μ.m = h k + 1)).map fun μ => decide (μ.t ≤ h μ.o)) (.inl ?_) ⟨?_, rfl⟩)) q))
  · obtain ⟨μ, hμ, rfl⟩ := List.mem_map.mp (List.mem_of_getElem? hd)
    refine ⟨_, _, _, _, rfl, fun s H C cl fp => ?_, fun _ s H C cl fp => ?_⟩
    · exact ET.is (et_cmp (op_eqD hr.units) (ee_tup (ea_cons (ee_v 4 rfl) (ea_cons (ee_v 5 rfl) ea_nil))) (ee_tup (ea_cons (ee_v 2 rfl) (ea_cons (ee_v 3 rfl) ea_nil))) (od_eqD (d := .tuple [.int (μ.s : Int), .int (μ.m : Int)]) (e := .tuple [.int (k : Int), .int ((h k : Int) + 1)]) (.inl ⟨rfl, rfl⟩) (.inl ⟨rfl, rfl⟩) rfl rfl ⟨_, rfl, rfl, rfl⟩)) (eqv_two _ _ _ _)
    · have ho := v.o_ μ hμ
      refine EE.is (ee_ge (ee_ix ix_tup (ee_v 1 rfl) (ee_v 6 rfl) (od_ixT (moD_at ho) ⟨rfl, rfl⟩)) (ee_v 7 rfl)) ?_
      show D.bl (decide ((μ.t : Int) ≤ (h μ.o : Int))) = D.bl (decide ((μ.t : Int) ≤ (h ((μ.o : Int)).toNat : Int)))
      rw [Int.toNat_natCast]
  · rw [List.filter_map, List.map_map, List.map_map]
    congr 1
    have e : ms.filter ((fun d => decide (intOf (d4 0 d) = (k : Int)) && decide (intOf (d4 1 d) = (h k : Int) + 1)) ∘ mkD) = ms.filter fun μ => decide (μ.s = k) && decide (μ.m = h k + 1) := List.filter_congr fun μ _ => by
      show (decide ((μ.s : Int) = (k : Int)) && decide ((μ.m : Int) = (h k : Int) + 1)) = _
      congr 1
      · exact decide_eq_decide.mpr (by omega)
      · exact decide_eq_decide.mpr (by omega)
    rw [e]
    refine List.map_congr_left fun μ _ => ?_
    show D.bl (decide ((μ.t : Int) ≤ (h ((μ.o : Int)).toNat : Int))) = D.bl (decide (μ.t ≤ h μ.o))
    rw [Int.toNat_natCast]
    congr 1
    exact decide_eq_decide.mpr (by omega)
  · congr 1
    rw [Bool.eq_iff_iff, List.all_eq_true, decide_eq_true_iff]
    constructor
    · intro a μ hμ h1 h2
      exact of_decide_eq_true (a _ (List.mem_map.mpr ⟨μ, List.mem_filter.mpr ⟨hμ, by rw [decide_eq_true h1, decide_eq_true h2]; rfl⟩, rfl⟩))
    · intro a b hb
      obtain ⟨μ, hμ, rfl⟩ := List.mem_map.mp hb
      obtain ⟨h1, h2⟩ := List.mem_filter.mp hμ
      simp only [Bool.and_eq_true, decide_eq_true_eq] at h2
      exact decide_eq_true (a μ h1 h2.1 h2.2)
end
end K46
set_option Elab.async false
set_option linter.all false
set_option maxRecDepth 100000
set_option maxHeartbeats 4000000
namespace K46
open PySem L2 PyProof.Rows DL
/-! ### tuples of ints compared; order_between -/
theorem shapedT_int (ns : List Int) : SeqAt.shaped (.tuple (ns.map PyData.int)) = true := by
  refine Bool.and_eq_true_iff.mpr ⟨lay_int ns, decide_eq_true ?_⟩
  show PyData.depthAll (ns.map PyData.int) + 1 ≤ 64
  rw [depth_int]
  decide
theorem eqvA_int : ∀ a b : List Int, PyData.eqvAll (a.map PyData.int) (b.map PyData.int) = decide (a = b)
  | [], [] => rfl
  | [], _ :: _ => by simp [PyData.eqvAll]
  | _ :: _, [] => by simp [PyData.eqvAll]
  | x :: a, y :: b => by
    rw [List.map_cons, List.map_cons, PyData.eqvAll, eqvA_int a b]
    simp [PyData.eqv]
    rfl
theorem eqvT_int (a b : List Int) : PyData.eqv (.tuple (a.map PyData.int)) (.tuple (b.map PyData.int)) = decide (a = b) := by rw [PyData.eqv, eqvA_int]
theorem pydT {M : Mem} (ns : List Int) : PyD M (.tup (ns.map .int)) (.tuple (ns.map PyData.int)) := .inl ⟨plA_int ns, by show _ = PyData.tuple (toPyA (ns.map D.int)); rw [toPyA_int]⟩
theorem moI_eq {n : Nat} {h t : Mo} : moI n h = moI n t ↔ eqm n h t = true := by
  rw [eqm_iff]
  constructor
  · intro e j hj
    have := congrArg (fun l => l[j]?) e
    simp only [moI_at hj] at this
    have := Option.some.inj this
    omega
  · intro e
    unfold moI
    exact List.map_congr_left fun j hj => by rw [e j (List.mem_range.mp hj)]
def nI (ks : List Nat) : List Int := ks.map fun (i : Nat) => (i : Int)
def ordD : Option (List Nat) → D
  | none => .non
  | some ks => .tup ((nI ks).map .int)
theorem nI_app (a b : List Nat) : nI (a ++ b) = nI a ++ nI b := by unfold nI; rw [List.map_append]
theorem ready_D {n : Nat} {ms : List Mk} {h t : Mo} : ((rngD 0 n).filter fun d => decide (h (intOf d).toNat < t (intOf d).toNat) && decide (nxt ms h (intOf d).toNat)).map (fun d => d) = (nI (ready ms n h t)).map D.int := by
  rw [List.map_id']
  unfold ready rngD nI
  rw [List.filter_map, List.map_map]
  have e : (List.range n).filter ((fun d => decide (h (intOf d).toNat < t (intOf d).toNat) && decide (nxt ms h (intOf d).toNat)) ∘ fun (i : Nat) => D.int (0 + (i : Int))) = (List.range n).filter fun k => decide (h k < t k) && decide (nxt ms h k) := List.filter_congr fun k _ => by
    show (decide (h (0 + (k : Int)).toNat < t (0 + (k : Int)).toNat) && decide (nxt ms h (0 + (k : Int)).toNat)) = _
    rw [show (0 + (k : Int)).toNat = k by omega]
  rw [e]
  refine List.map_congr_left fun k _ => ?_
  show D.int (0 + (k : Int)) = D.int (k : Int)
  rw [Int.zero_add]
theorem left_pos {n : Nat} {h t : Mo} {k : Nat} (hk : k < n) (hl : h k < t k) : 0 < left n h t := Nat.lt_of_le_of_lt (Nat.zero_le _) (left_stp hk hl)
theorem wm_stp (h : Mo) (k : Nat) : wm h k (h k + 1) = stp h k := by
  funext j
  unfold wm stp
  by_cases e : j = k
  · rw [if_pos e, if_pos e, e]
  · rw [if_neg e, if_neg e]
section
variable {P : Program} {w : World} {K : PySem.W.Frag} {mg : Str → Option Value} {base : Heap}
def S_between : SpD := fun ds M Q => ∃ (n : Nat) (ms : List Mk) (h t : Mo), ds = [msD ms, moD n h, moD n t] ∧ Ms n ms ∧ n < 100 ∧ ms.length < 9000 ∧ left n h t < 9000 ∧ Q (ordD (greedy ms n (left n h t) h t)) M
theorem d_between (F : Df K mg "order_between" s_order_between ["marks", "here", "there"]) (B : Blt mg) (C1 : Cal P w K mg base 1 "can_be_next" 3 S_next) (C2 : Cal P w K mg base 1 "with_moment" 3 S_wm) : Cal P w K mg base 2 "order_between" 3 S_between := by
  refine dfn' F sc_order_between rfl fun f cdv A outer s H E ds M Q hr hl hs => ?_
  obtain ⟨n, ms, h, t, rfl, v, hn, hz, hL, q⟩ := hs
  have nd := sc_order_between.nd
  refine wss_cons (ws_set 3 nd (EE.to (ee_tup ea_nil) ?_))
  refine wss_cons (ws_while PassesOwn.never (fun m sg1 M1 => ∃ (h' : Mo) (done : List Nat) (o4 o5 : Option D), left n h' t ≤ m ∧ m + done.length ≤ left n h t ∧ (greedy ms n (left n h t) h t = (greedy ms n m h' t).map (done ++ ·)) ∧ M1 = M ∧ sg1 = [some (msD ms), some (moD n h'), some (moD n t), some (.tup ((nI done).map .int)), o4, o5]) ⟨left n h t, h, [], none, none, Nat.le_refl _, Nat.le_refl _, ?_, rfl, rfl⟩ fun m sg1 M1 ⟨h', done, o4, o5, e0, e1, e2, e3, e4⟩ => ?_)
  · show _ = Option.map (fun x => [] ++ x) _
    cases greedy ms n (left n h t) h t <;> rfl
  subst e3; subst e4
  refine ET.to (et_cmp (op_neD hr.units) (ee_v 1 rfl) (ee_v 2 rfl) (od_neD (pydT (moI n h')) (pydT (moI n t)) (shapedT_int _) (shapedT_int _) ⟨_, rfl, rfl, rfl⟩)) ⟨fun hb => ?_, fun hb => ?_⟩
  · rw [eqvT_int] at hb
    have hne : ¬ eqm n h' t = true := fun z => by
      rw [decide_eq_true (moI_eq.mpr z)] at hb
      cases hb
    have lr : (rngD 0 n).length < sizeLine := by rw [rngD_len]; exact lt_i (by omega)
    refine wss_cons (ws_setLcE 4 [("k", 5)] rfl nd (wi_rng1 B.range (EA.to (ea_cons (ee_cb call_len B.len bi_len (ea_cons (ee_v 1 rfl) ea_nil) (cd_lenT ⟨rfl, rfl⟩)) ea_nil) ⟨(((moI n h').map D.int).length : Int), rfl, by omega, by rw [List.length_map, moI_len]; omega, by rw [List.length_map, moI_len, Int.toNat_natCast], rfl, trivial⟩)) (LcOk.to (ok_lc1if (ds := rngD 0 n) 5 (fun d => decide (h' (intOf d).toNat < t (intOf d).toNat) && decide (nxt ms h' (intOf d).toNat)) (fun d => d) rfl nd lr (fun j d hd s H C cl fp => ?_) fun j d hd _ s H C cl fp => ee_v 5 rfl) ?_))
    · obtain ⟨hj, rfl⟩ := rngD_at hd
      rw [Int.zero_add]
      show ET _ _ _ _ (decide (h' ((j : Int)).toNat < t ((j : Int)).toNat) && decide (nxt ms h' ((j : Int)).toNat))
      rw [Int.toNat_natCast]
      refine ww_pt (ew_and (ET.is (et_lt (ee_ix ix_tup (ee_v 1 rfl) (ee_v 5 rfl) (od_ixT (moD_at hj) ⟨rfl, rfl⟩)) (ee_ix ix_tup (ee_v 2 rfl) (ee_v 5 rfl) (od_ixT (moD_at hj) ⟨rfl, rfl⟩))) (decide_eq_decide.mpr (by omega))) fun _ => ww_and1 (et_val (we_call C1 (hr.mono (by omega)) (EA.to (ea_cons (ee_v 0 rfl) (ea_cons (ee_v 1 rfl) (ea_cons (ee_v 5 rfl) ea_nil))) ⟨rfl, n, ms, h', j, rfl, v, hj, hz, rfl, rfl⟩))))
    · rw [ready_D]
      cases er : ready ms n h' t with
      | nil =>
        refine wss_cons (ws_ifE (k := true) (ET.is (et_not (et_truL (x := .lst ((nI ([] : List Nat)).map .int)) (ds := (nI ([] : List Nat)).map .int) (ee_v 4 rfl) (.inl rfl))) rfl) (fun _ => wss_one (ws_ret (EE.to ee_non ?_))) fun h => Bool.noConfusion h)
        have : greedy ms n m h' t = none := by
          cases m with
          | zero => unfold greedy; rw [if_neg hne]
          | succ m => unfold greedy; rw [if_neg hne, er]
        rw [e2, this] at q
        exact q
      | cons k rest =>
        have hk := ready_mem.mp (show k ∈ ready ms n h' t by rw [er]; exact List.mem_cons_self ..)
        have hlp := left_pos hk.1 hk.2.1
        have hls := left_stp hk.1 hk.2.1
        obtain ⟨m, rfl⟩ : ∃ m', m = m' + 1 := ⟨m - 1, by omega⟩
        refine wss_cons (ws_ifE (k := false) (ET.is (et_not (et_truL (x := .lst ((nI (k :: rest)).map .int)) (ds := (nI (k :: rest)).map .int) (ee_v 4 rfl) (.inl rfl))) rfl) (fun h => Bool.noConfusion h) fun _ => wss_nil ?_)
        have rk : ∀ {p1 p2 p3 : Pos} {j : Nat} {o5 : Option D} {hh : Mo} {M : Mem}, EE (cxOf CX0 P w K mg base ["marks", "here", "there", "found", "ready", "k"] "order_between" (defScope s_order_between) f cdv A outer s H E).nox (.Subscript (.Name "ready" p1) (.Constant (.int 0) j p2) p3) [some (msD ms), some (moD n hh), some (moD n t), some (.tup ((nI done).map .int)), some (.lst ((nI (k :: rest)).map .int)), o5] M (.int (k : Int)) := ee_ix ix_list (ee_v 4 rfl) ee_int (od_ixL (d := .int (k : Int)) (.inl rfl) (show atI _ ((0 : Nat) : Int) = _ from atI_nat rfl) ⟨rfl, rfl⟩)
        refine wss_one (ws_asg (EE.to (d := .tup [moD n (stp h' k), .tup ((nI (done ++ [k])).map .int)]) (ee_tup (ea_cons (we_call C2 (hr.mono (by omega)) (EA.to (ea_cons (ee_v 1 rfl) (ea_cons rk (ea_cons (ee_add (ee_ix ix_tup (ee_v 1 rfl) rk (od_ixT (moD_at hk.1) ⟨rfl, rfl⟩)) ee_int) ea_nil))) ⟨rfl, n, h', k, h' k + 1, rfl, hk.1, by omega, congrArg (moD n) (wm_stp h' k), rfl⟩)) (ea_cons (EE.is (ee_op op_catA (ee_v 3 rfl) (ee_tup (ea_cons rk ea_nil)) (od_catT ?_ ⟨rfl, rfl⟩)) ?_) ea_nil))) ⟨_, _, wg_tup rfl (wgs_cons (wg_name 1 nd) (wgs_cons (wg_name 3 nd) wgs_nil)), ?_⟩))
        · rw [List.length_map]
          unfold nI
          rw [List.length_map]
          exact small_i (show _ + 1 < 100000 by omega)
        · rw [nI_app, List.map_append]
          rfl
        · refine ⟨m, by omega, stp h' k, done ++ [k], _, _, by omega, by rw [List.length_append]; show m + (done.length + 1) ≤ _; omega, ?_, rfl, rfl⟩
          rw [e2]
          have : greedy ms n (m + 1) h' t = (greedy ms n m (stp h' k) t).map (k :: ·) := by
            show (if eqm n h' t = true then some [] else match ready ms n h' t with | [] => none | k :: _ => (greedy ms n m (stp h' k) t).map (k :: ·)) = _
            rw [if_neg hne, er]
          rw [this]
          cases greedy ms n m (stp h' k) t with
          | none => rfl
          | some ks => show some (done ++ k :: ks) = some (done ++ [k] ++ ks); rw [List.append_assoc]; rfl
  · rw [eqvT_int] at hb
    have heq : eqm n h' t = true := by
      refine moI_eq.mp ?_
      by_cases z : moI n h' = moI n t
      · exact z
      · rw [decide_eq_false z] at hb
        cases hb
    have : greedy ms n m h' t = some [] := by
      cases m with
      | zero => unfold greedy; rw [if_pos heq]
      | succ m => unfold greedy; rw [if_pos heq]
    rw [e2, this] at q
    refine wss_one (ws_ret (EE.to (ee_v 3 rfl) ?_))
    have e : done ++ [] = done := List.append_nil _
    show Q (.tup ((nI done).map .int)) M1
    rw [← e]
    exact q
end
end K46
set_option Elab.async false
set_option linter.all false
set_option maxRecDepth 100000
set_option maxHeartbeats 4000000
namespace K46
open PySem L2 PyProof.Rows DL
/-! ### order_of_all, is_broken, do_fit; the greatest and the least fit -/
def z0 : Mo := fun _ => 0
def brk (x : Mo) (μ : Mk) : Bool := decide (μ.m ≤ x μ.s) && decide (x μ.o < μ.t)
def fitB (ms : List Mk) (x : Mo) : Bool := !(ms.any (brk x))
theorem fitB_iff {ms : List Mk} {x : Mo} : fitB ms x = true ↔ fits ms x := by
  unfold fitB
  rw [Bool.not_eq_true', List.any_eq_false]
  constructor
  · intro a μ hμ hm
    have := a μ hμ
    unfold brk at this
    rw [decide_eq_true hm, Bool.true_and] at this
    simp only [decide_eq_true_eq] at this
    omega
  · intro a μ hμ hb
    unfold brk at hb
    simp only [Bool.and_eq_true, decide_eq_true_eq] at hb
    have := a μ hμ hb.1
    omega
theorem rep_moI (n : Nat) : (List.replicate n [D.int 0]).flatten = (moI n z0).map D.int := by
  have e : ∀ n : Nat, (List.replicate n [D.int 0]).flatten = List.replicate n (D.int 0) := by
    intro n
    induction n with
    | zero => rfl
    | succ n ih => rw [List.replicate_succ, List.flatten_cons, ih, List.replicate_succ]; rfl
  rw [e]
  apply List.ext_getElem?
  intro i
  rw [List.getElem?_replicate, List.getElem?_map]
  by_cases h : i < n
  · rw [if_pos h, moI_at h]; rfl
  · rw [if_neg h, List.getElem?_eq_none (by rw [moI_len]; omega)]; rfl
def msum (n : Nat) (x : Mo) : Nat := left n z0 x
def unD (d : D) : Mk := ⟨(intOf (d4 0 d)).toNat, (intOf (d4 1 d)).toNat, (intOf (d4 2 d)).toNat, (intOf (d4 3 d)).toNat⟩
theorem unD_mk (μ : Mk) : unD (mkD μ) = μ := by
  show Mk.mk ((μ.s : Int)).toNat ((μ.m : Int)).toNat ((μ.o : Int)).toNat ((μ.t : Int)).toNat = μ
  simp only [Int.toNat_natCast]
/-- marks undone from above -/
def gf (ms : List Mk) : Nat → Mo → Mo
  | 0, x => x
  | f + 1, x => match ms.filter (brk x) with
    | [] => x
    | μ :: _ => gf ms f (wm x μ.s (μ.m - 1))
theorem brk_of {ms : List Mk} {x : Mo} {μ : Mk} {l : List Mk} (h : ms.filter (brk x) = μ :: l) : μ ∈ ms ∧ μ.m ≤ x μ.s ∧ x μ.o < μ.t := by
  have hm : μ ∈ ms.filter (brk x) := by rw [h]; exact List.mem_cons_self ..
  obtain ⟨a, b⟩ := List.mem_filter.mp hm
  unfold brk at b
  simp only [Bool.and_eq_true, decide_eq_true_eq] at b
  exact ⟨a, b⟩
theorem fits_of_nil {ms : List Mk} {x : Mo} (h : ms.filter (brk x) = []) : fits ms x := fitB_iff.mp (by
  unfold fitB
  rw [Bool.not_eq_true', List.any_eq_false]
  exact List.filter_eq_nil_iff.mp h)
theorem msum_down {n : Nat} {x : Mo} {s m : Nat} (hs : s < n) (h1 : 1 ≤ m) (h : m ≤ x s) : msum n (wm x s (m - 1)) < msum n x := by
  unfold msum left
  refine sum_lt _ _ _ s (List.mem_range.mpr hs) (fun j _ => ?_) ?_
  · show wm x s (m - 1) j - 0 ≤ x j - 0
    unfold wm
    by_cases e : j = s
    · rw [if_pos e, e]; omega
    · rw [if_neg e]; exact Nat.le_refl _
  · show wm x s (m - 1) s - 0 < x s - 0
    unfold wm
    rw [if_pos rfl]
    omega
theorem gf_ok {n : Nat} {ms : List Mk} (v : Ms n ms) : ∀ (f : Nat) (x : Mo), msum n x ≤ f → fits ms (gf ms f x) ∧ (∀ j, gf ms f x j ≤ x j) ∧ ∀ y, fits ms y → (∀ j, j < n → y j ≤ x j) → ∀ j, j < n → y j ≤ gf ms f x j
  | 0, x, hf => by
    have hz : ∀ j, j < n → x j = 0 := fun j hj => by
      by_cases e : x j = 0
      · exact e
      · have := left_pos (n := n) (h := z0) (t := x) hj (by show 0 < x j; omega)
        unfold msum at hf
        omega
    refine ⟨fun μ hμ hm => ?_, fun j => Nat.le_refl _, fun y _ h j hj => h j hj⟩
    have a := v.m_ μ hμ
    have hm : μ.m ≤ x μ.s := hm
    rw [hz _ (v.s_ μ hμ)] at hm
    omega
  | f + 1, x, hf => by
    unfold gf
    cases e : ms.filter (brk x) with
    | nil => exact ⟨fits_of_nil e, fun j => Nat.le_refl _, fun y _ h j hj => h j hj⟩
    | cons μ l =>
      obtain ⟨a, b, c⟩ := brk_of e
      have d := msum_down (x := x) (v.s_ μ a) (v.m_ μ a) b
      obtain ⟨g1, g2, g3⟩ := gf_ok v f (wm x μ.s (μ.m - 1)) (by omega)
      refine ⟨g1, fun j => Nat.le_trans (g2 j) ?_, fun y fy hy j hj => g3 y fy (fun i hi => ?_) j hj⟩
      · unfold wm
        by_cases e2 : j = μ.s
        · rw [if_pos e2, e2]; omega
        · rw [if_neg e2]; exact Nat.le_refl _
      · unfold wm
        by_cases e2 : i = μ.s
        · rw [if_pos e2]
          have h1 := hy μ.o (v.o_ μ a)
          by_cases h2 : μ.m ≤ y μ.s
          · have := fy μ a h2
            omega
          · rw [e2]; omega
        · rw [if_neg e2]; exact hy i hi
/-- .. from below, up to where all has been seen -/
def lf (ms : List Mk) : Nat → Mo → Mo
  | 0, x => x
  | f + 1, x => match ms.filter (brk x) with
    | [] => x
    | μ :: _ => lf ms f (wm x μ.o μ.t)
theorem left_up {n : Nat} {x L : Mo} {s m : Nat} (hs : s < n) (h : x s < m) (hL : m ≤ L s) : left n (wm x s m) L < left n x L := by
  unfold left
  refine sum_lt _ _ _ s (List.mem_range.mpr hs) (fun j _ => ?_) ?_
  · show L j - wm x s m j ≤ L j - x j
    unfold wm
    by_cases e : j = s
    · rw [if_pos e, e]; omega
    · rw [if_neg e]; exact Nat.le_refl _
  · show L s - wm x s m s < L s - x s
    unfold wm
    rw [if_pos rfl]
    omega
theorem lf_ok {n : Nat} {ms : List Mk} (v : Ms n ms) {L : Mo} (hL : ∀ μ ∈ ms, μ.t ≤ L μ.o) : ∀ (f : Nat) (x : Mo), left n x L ≤ f → (∀ j, j < n → x j ≤ L j) → fits ms (lf ms f x) ∧ (∀ j, x j ≤ lf ms f x j) ∧ (∀ j, j < n → lf ms f x j ≤ L j) ∧ ∀ y, fits ms y → (∀ j, j < n → x j ≤ y j) → ∀ j, j < n → lf ms f x j ≤ y j
  | 0, x, hf, hx => by
    have hz : ∀ j, j < n → x j = L j := fun j hj => by
      have h1 := hx j hj
      by_cases e : x j = L j
      · exact e
      · have := left_pos (n := n) (h := x) (t := L) hj (by omega)
        omega
    refine ⟨fun μ hμ _ => ?_, fun j => Nat.le_refl _, hx, fun y _ h j hj => h j hj⟩
    show μ.t ≤ x μ.o
    rw [hz _ (v.o_ μ hμ)]
    exact hL μ hμ
  | f + 1, x, hf, hx => by
    unfold lf
    cases e : ms.filter (brk x) with
    | nil => exact ⟨fits_of_nil e, fun j => Nat.le_refl _, hx, fun y _ h j hj => h j hj⟩
    | cons μ l =>
      obtain ⟨a, b, c⟩ := brk_of e
      have d := left_up (x := x) (v.o_ μ a) c (hL μ a)
      have up : ∀ j, x j ≤ wm x μ.o μ.t j := fun j => by
        unfold wm
        by_cases e2 : j = μ.o
        · rw [if_pos e2, e2]; omega
        · rw [if_neg e2]; exact Nat.le_refl _
      obtain ⟨g1, g2, g4, g3⟩ := lf_ok v hL f (wm x μ.o μ.t) (by omega) fun j hj => by
        unfold wm
        by_cases e2 : j = μ.o
        · rw [if_pos e2, e2]; exact hL μ a
        · rw [if_neg e2]; exact hx j hj
      refine ⟨g1, fun j => Nat.le_trans (up j) (g2 j), g4, fun y fy hy j hj => g3 y fy (fun i hi => ?_) j hj⟩
      unfold wm
      by_cases e2 : i = μ.o
      · rw [if_pos e2, e2]
        exact fy μ a (Nat.le_trans b (hy _ (v.s_ μ a)))
      · rw [if_neg e2]; exact hy i hi
section
variable {P : Program} {w : World} {K : PySem.W.Frag} {mg : Str → Option Value} {base : Heap}
def S_all : SpD := fun ds M Q => ∃ (n : Nat) (ms : List Mk) (L : Mo), ds = [moD n L, msD ms] ∧ Ms n ms ∧ 1 ≤ n ∧ n < 100 ∧ ms.length < 9000 ∧ msum n L < 9000 ∧ Q (ordD (greedy ms n (msum n L) z0 L)) M
theorem d_all (F : Df K mg "order_of_all" s_order_of_all ["lasts", "marks"]) (B : Blt mg) (C1 : Cal P w K mg base 2 "order_between" 3 S_between) : Cal P w K mg base 3 "order_of_all" 2 S_all := by
  refine dfn' F sc_order_of_all rfl fun f cdv A outer s H E ds M Q hr hl hs => ?_
  obtain ⟨n, ms, L, rfl, v, h1, h2, h3, h4, q⟩ := hs
  have ln : ((moI n L).map D.int).length = n := by rw [List.length_map, moI_len]
  refine wss_one (ws_ret (we_call C1 hr (EA.to (ea_cons (ee_v 1 rfl) (ea_cons (EE.is (d' := moD n z0) (ee_op op_repA (ee_tup (ea_cons ee_int ea_nil)) (ee_cb call_len B.len bi_len (ea_cons (ee_v 0 rfl) ea_nil) (cd_lenT ⟨rfl, rfl⟩)) (od_repA (by omega) (by omega) (by exact Nat.le_of_ble_eq_true rfl) ⟨rfl, rfl⟩)) ?_) (ea_cons (ee_ct call_tuple_of B.tuple bi_tuple (ea_cons (ee_v 0 rfl) ea_nil) (cd_tupT ⟨rfl, rfl⟩)) ea_nil))) ⟨rfl, n, ms, z0, L, rfl, v, h2, h3, h4, q⟩)))
  rw [ln, Int.toNat_natCast, rep_moI]
  rfl
def S_broken : SpD := fun ds M Q => ∃ (n : Nat) (x : Mo) (μ : Mk), ds = [moD n x, mkD μ] ∧ μ.s < n ∧ μ.o < n ∧ Q (.bl (brk x μ)) M
theorem d_broken (F : Df K mg "is_broken" s_is_broken ["moments", "mark"]) : Cal P w K mg base 1 "is_broken" 2 S_broken := by
  refine dfn' F sc_is_broken rfl fun f cdv A outer s H E ds M Q hr hl hs => ?_
  obtain ⟨n, x, μ, rfl, h1, h2, q⟩ := hs
  have nd := sc_is_broken.nd
  refine wss_cons (ws_asg (EE.to (ee_v 1 rfl) ⟨_, _, wg_tup rfl (wgs_cons (wg_name 2 nd) (wgs_cons (wg_name 3 nd) (wgs_cons (wg_name 4 nd) (wgs_cons (wg_name 5 nd) wgs_nil)))), ?_⟩))
  refine wss_one (ws_ret (EE.to (EE.is (ee_and (ee_ge (ee_ix ix_tup (ee_v 0 rfl) (ee_v 2 rfl) (od_ixT (moD_at h1) ⟨rfl, rfl⟩)) (ee_v 3 rfl)) fun _ => we_one (ee_lt (ee_ix ix_tup (ee_v 0 rfl) (ee_v 4 rfl) (od_ixT (moD_at h2) ⟨rfl, rfl⟩)) (ee_v 5 rfl))) ?_) q))
  unfold brk
  congr 2
  · exact decide_eq_decide.mpr (by omega)
  · exact decide_eq_decide.mpr (by omega)
def S_fit : SpD := fun ds M Q => ∃ (n : Nat) (ms : List Mk) (x : Mo), ds = [msD ms, moD n x] ∧ Ms n ms ∧ ms.length < 9000 ∧ Q (.bl (fitB ms x)) M
theorem d_fit (F : Df K mg "do_fit" s_do_fit ["marks", "moments"]) (B : Blt mg) (C1 : Cal P w K mg base 1 "is_broken" 2 S_broken) : Cal P w K mg base 2 "do_fit" 2 S_fit := by
  refine dfn' F sc_do_fit rfl fun f cdv A outer s H E ds M Q hr hl hs => ?_
  obtain ⟨n, ms, x, rfl, v, hz, q⟩ := hs
  have nd := sc_do_fit.nd
  refine wss_one (ws_ret (EE.to (ee_not (ee_cb (cr_any rfl) B.any bi_any (ea_cons (ee_lc1 2 (ds := ms.map mkD) (fun d => .bl (brk x (unD d))) rfl nd (wi_tup (EE.to (ee_v 0 rfl) ⟨_, rfl, rfl, rfl, trivial⟩)) (by rw [List.length_map]; exact lt_i (by omega)) fun j d hd => ?_) ea_nil) (cd_any (bs := ms.map (brk x)) (.inl ?_) ⟨by rw [List.any_map]; rfl, rfl⟩))) q))
  · obtain ⟨μ, hμ, rfl⟩ := at_map hd
    have hm := List.mem_of_getElem? hμ
    rw [unD_mk]
    exact fun s H C cl fp => we_call C1 hr (EA.to (ea_cons (ee_v 1 rfl) (ea_cons (ee_v 2 rfl) ea_nil)) ⟨rfl, n, x, μ, rfl, v.s_ μ hm, v.o_ μ hm, rfl, rfl⟩)
  · rw [List.map_map, List.map_map]
    exact congrArg D.lst (List.map_congr_left fun μ _ => by show D.bl (brk x (unD (mkD μ))) = D.bl (brk x μ); rw [unD_mk])
end
end K46
set_option Elab.async false
set_option linter.all false
set_option maxRecDepth 100000
set_option maxHeartbeats 4000000
namespace K46
open PySem L2 PyProof.Rows DL
/-! ### greatest_fit, least_fit -/
theorem filt_mk (p : Mk → Bool) : ∀ ms : List Mk, ((ms.map mkD).filter fun d => p (unD d)).map (fun d => d) = (ms.filter p).map mkD
  | [] => rfl
  | μ :: ms => by
    have ih := filt_mk p ms
    rw [List.map_id'] at ih ⊢
    rw [List.map_cons, List.filter_cons, List.filter_cons, unD_mk, ih]
    split <;> rfl
theorem msum_le {n : Nat} {x y : Mo} (h : ∀ j, j < n → x j ≤ y j) : msum n x ≤ msum n y := by
  have : ∀ l : List Nat, (∀ j ∈ l, x j ≤ y j) → (l.map fun j => x j - z0 j).sum ≤ (l.map fun j => y j - z0 j).sum := by
    intro l
    induction l with
    | nil => intro _; exact Nat.le_refl _
    | cons b l ih =>
      intro h
      have a1 := h b (List.mem_cons_self ..)
      have a2 := ih fun j hj => h j (List.mem_cons_of_mem _ hj)
      simp only [List.map_cons, List.sum_cons]
      have : x b - z0 b = x b := rfl
      have : y b - z0 b = y b := rfl
      omega
  exact this _ fun j hj => h j (List.mem_range.mp hj)
section
variable {P : Program} {w : World} {K : PySem.W.Frag} {mg : Str → Option Value} {base : Heap}
def S_great : SpD := fun ds M Q => ∃ (n : Nat) (ms : List Mk) (x : Mo), ds = [msD ms, moD n x] ∧ Ms n ms ∧ n < 1000 ∧ ms.length < 9000 ∧ Q (moD n (gf ms (msum n x) x)) M
theorem d_great (F : Df K mg "greatest_fit" s_greatest_fit ["marks", "moments"]) (C1 : Cal P w K mg base 1 "is_broken" 2 S_broken) (C2 : Cal P w K mg base 1 "with_moment" 3 S_wm) : Cal P w K mg base 2 "greatest_fit" 2 S_great := by
  refine dfn' F sc_greatest_fit rfl fun f cdv A outer s H E ds M Q hr hl hs => ?_
  obtain ⟨n, ms, x, rfl, v, hn, hz, q⟩ := hs
  have nd := sc_greatest_fit.nd
  have lz : (ms.map mkD).length < sizeLine := by rw [List.length_map]; exact lt_i (by omega)
  refine wss_cons (ws_setLcE 2 [("mark", 3)] rfl nd (wi_tup (EE.to (ee_v 0 rfl) ⟨_, rfl, rfl, rfl, trivial⟩)) (LcOk.to (ok_lc1if (ds := ms.map mkD) 3 (fun d => brk x (unD d)) (fun d => d) rfl nd lz (fun j d hd => ?_) fun j d hd _ s H C cl fp => ee_v 3 rfl) ?_))
  · obtain ⟨μ, hμ, rfl⟩ := at_map hd
    have hm := List.mem_of_getElem? hμ
    rw [unD_mk]
    exact fun s H C cl fp => et_val (we_call C1 (hr.mono (by omega)) (EA.to (ea_cons (ee_v 1 rfl) (ea_cons (ee_v 3 rfl) ea_nil)) ⟨rfl, n, x, μ, rfl, v.s_ μ hm, v.o_ μ hm, rfl, rfl⟩))
  rw [filt_mk]
  refine wss_cons (ws_while PassesOwn.never (fun m sg1 M1 => ∃ (y : Mo), msum n y ≤ m ∧ gf ms (msum n x) x = gf ms m y ∧ M1 = M ∧ sg1 = [some (msD ms), some (moD n y), some (.lst ((ms.filter (brk y)).map mkD)), none]) ⟨msum n x, x, Nat.le_refl _, rfl, rfl, rfl⟩ fun m sg1 M1 ⟨y, e0, e1, e2, e3⟩ => ?_)
  subst e2; subst e3
  refine ET.to (et_truL (x := .lst ((ms.filter (brk y)).map mkD)) (ds := (ms.filter (brk y)).map mkD) (ee_v 2 rfl) (.inl rfl)) ⟨fun hb => ?_, fun hb => ?_⟩
  · cases er : ms.filter (brk y) with
    | nil => rw [er] at hb; cases hb
    | cons μ l =>
      obtain ⟨a, b, c⟩ := brk_of er
      have d := msum_down (x := y) (v.s_ μ a) (v.m_ μ a) b
      have hm1 := v.m_ μ a
      obtain ⟨m, rfl⟩ : ∃ m', m = m' + 1 := ⟨m - 1, by omega⟩
      have b0 : ∀ {i : Nat} {dd : D} {p1 p2 p3 p4 p5 : Pos} {j1 j2 : Nat} {M : Mem}, atI [D.int (μ.s : Int), .int (μ.m : Int), .int (μ.o : Int), .int (μ.t : Int)] (i : Int) = some dd → EE (cxOf CX0 P w K mg base ["marks", "moments", "broken", "mark"] "greatest_fit" (defScope s_greatest_fit) f cdv A outer s H E).nox (.Subscript (.Subscript (.Name "broken" p1) (.Constant (.int 0) j1 p2) p3) (.Constant (.int i) j2 p4) p5) [some (msD ms), some (moD n y), some (.lst ((μ :: l).map mkD)), none] M dd := fun h => ee_ix ix_tup (ee_ix ix_list (ee_v 2 rfl) ee_int (od_ixL (d := mkD μ) (.inl rfl) (show atI _ ((0 : Nat) : Int) = _ from atI_nat rfl) ⟨rfl, rfl⟩)) ee_int (od_ixT h ⟨rfl, rfl⟩)
      refine wss_cons (ws_set 1 nd (we_call C2 (hr.mono (by omega)) (EA.to (ea_cons (ee_v 1 rfl) (ea_cons (b0 (i := 0) rfl) (ea_cons (EE.is (d' := .int ((μ.m - 1 : Nat) : Int)) (ee_sub (b0 (i := 1) rfl) ee_int) (congrArg D.int (by omega))) ea_nil))) ⟨rfl, n, y, μ.s, μ.m - 1, rfl, v.s_ μ a, hn, ?_⟩)))
      have hg : gf ms (m + 1) y = gf ms m (wm y μ.s (μ.m - 1)) := by
        show (match ms.filter (brk y) with | [] => y | μ :: _ => gf ms m (wm y μ.s (μ.m - 1))) = _
        rw [er]
      generalize hy : wm y μ.s (μ.m - 1) = y2 at *
      refine wss_one (ws_setLcE 2 [("mark", 3)] rfl nd (wi_tup (EE.to (ee_v 0 rfl) ⟨_, rfl, rfl, rfl, trivial⟩)) (LcOk.to (d := .lst ((ms.filter (brk y2)).map mkD)) (LcOk.imp (ok_lc1if (ds := ms.map mkD) 3 (fun d => brk y2 (unD d)) (fun d => d) rfl nd lz (fun j d hd => ?_) fun j d hd _ s H C cl fp => ee_v 3 rfl) fun z M' ⟨e1, e2⟩ => ⟨e1.trans (congrArg D.lst (filt_mk (brk y2) ms)), e2⟩) ⟨m, by omega, y2, by omega, e1.trans hg, rfl, rfl⟩))
      obtain ⟨μ', hμ, rfl⟩ := at_map hd
      have hm := List.mem_of_getElem? hμ
      rw [unD_mk]
      exact fun s H C cl fp => et_val (we_call C1 (hr.mono (by omega)) (EA.to (ea_cons (ee_v 1 rfl) (ea_cons (ee_v 3 rfl) ea_nil)) ⟨rfl, n, y2, μ', rfl, v.s_ μ' hm, v.o_ μ' hm, rfl, rfl⟩))
  · have er : ms.filter (brk y) = [] := by
      cases er : ms.filter (brk y) with
      | nil => rfl
      | cons μ l => rw [er] at hb; cases hb
    have hg : gf ms m y = y := by
      cases m with
      | zero => rfl
      | succ m => unfold gf; rw [er]
    rw [e1, hg] at q
    exact wss_one (ws_ret (EE.to (ee_v 1 rfl) q))
end
end K46
set_option Elab.async false
set_option linter.all false
set_option maxRecDepth 100000
set_option maxHeartbeats 4000000
namespace K46
open PySem L2 PyProof.Rows DL
/-! ### least_fit, order_through, agree, fit_paper -/
theorem isN_ord (o : Option (List Nat)) : isNon (ordD o) = o.isNone := by cases o <;> rfl
section
variable {P : Program} {w : World} {K : PySem.W.Frag} {mg : Str → Option Value} {base : Heap}
def S_least : SpD := fun ds M Q => ∃ (n : Nat) (ms : List Mk) (x L : Mo), ds = [msD ms, moD n x] ∧ Ms n ms ∧ n < 1000 ∧ ms.length < 9000 ∧ (∀ μ ∈ ms, μ.t ≤ L μ.o) ∧ Q (moD n (lf ms (left n x L) x)) M
theorem d_least (F : Df K mg "least_fit" s_least_fit ["marks", "moments"]) (C1 : Cal P w K mg base 1 "is_broken" 2 S_broken) (C2 : Cal P w K mg base 1 "with_moment" 3 S_wm) : Cal P w K mg base 2 "least_fit" 2 S_least := by
  refine dfn' F sc_least_fit rfl fun f cdv A outer s H E ds M Q hr hl hs => ?_
  obtain ⟨n, ms, x, L, rfl, v, hn, hz, hL, q⟩ := hs
  have nd := sc_least_fit.nd
  have lz : (ms.map mkD).length < sizeLine := by rw [List.length_map]; exact lt_i (by omega)
  refine wss_cons (ws_setLcE 2 [("mark", 3)] rfl nd (wi_tup (EE.to (ee_v 0 rfl) ⟨_, rfl, rfl, rfl, trivial⟩)) (LcOk.to (ok_lc1if (ds := ms.map mkD) 3 (fun d => brk x (unD d)) (fun d => d) rfl nd lz (fun j d hd => ?_) fun j d hd _ s H C cl fp => ee_v 3 rfl) ?_))
  · obtain ⟨μ, hμ, rfl⟩ := at_map hd
    have hm := List.mem_of_getElem? hμ
    rw [unD_mk]
    exact fun s H C cl fp => et_val (we_call C1 (hr.mono (by omega)) (EA.to (ea_cons (ee_v 1 rfl) (ea_cons (ee_v 3 rfl) ea_nil)) ⟨rfl, n, x, μ, rfl, v.s_ μ hm, v.o_ μ hm, rfl, rfl⟩))
  rw [filt_mk]
  refine wss_cons (ws_while PassesOwn.never (fun m sg1 M1 => ∃ (y : Mo), left n y L ≤ m ∧ lf ms (left n x L) x = lf ms m y ∧ M1 = M ∧ sg1 = [some (msD ms), some (moD n y), some (.lst ((ms.filter (brk y)).map mkD)), none]) ⟨left n x L, x, Nat.le_refl _, rfl, rfl, rfl⟩ fun m sg1 M1 ⟨y, e0, e1, e2, e3⟩ => ?_)
  subst e2; subst e3
  refine ET.to (et_truL (x := .lst ((ms.filter (brk y)).map mkD)) (ds := (ms.filter (brk y)).map mkD) (ee_v 2 rfl) (.inl rfl)) ⟨fun hb => ?_, fun hb => ?_⟩
  · cases er : ms.filter (brk y) with
    | nil => rw [er] at hb; cases hb
    | cons μ l =>
      obtain ⟨a, b, c⟩ := brk_of er
      have d := left_up (x := y) (v.o_ μ a) c (hL μ a)
      obtain ⟨m, rfl⟩ : ∃ m', m = m' + 1 := ⟨m - 1, by omega⟩
      have b0 : ∀ {i : Nat} {dd : D} {p1 p2 p3 p4 p5 : Pos} {j1 j2 : Nat} {M : Mem}, atI [D.int (μ.s : Int), .int (μ.m : Int), .int (μ.o : Int), .int (μ.t : Int)] (i : Int) = some dd → EE (cxOf CX0 P w K mg base ["marks", "moments", "broken", "mark"] "least_fit" (defScope s_least_fit) f cdv A outer s H E).nox (.Subscript (.Subscript (.Name "broken" p1) (.Constant (.int 0) j1 p2) p3) (.Constant (.int i) j2 p4) p5) [some (msD ms), some (moD n y), some (.lst ((μ :: l).map mkD)), none] M dd := fun h => ee_ix ix_tup (ee_ix ix_list (ee_v 2 rfl) ee_int (od_ixL (d := mkD μ) (.inl rfl) (show atI _ ((0 : Nat) : Int) = _ from atI_nat rfl) ⟨rfl, rfl⟩)) ee_int (od_ixT h ⟨rfl, rfl⟩)
      refine wss_cons (ws_set 1 nd (we_call C2 (hr.mono (by omega)) (EA.to (ea_cons (ee_v 1 rfl) (ea_cons (b0 (i := 2) rfl) (ea_cons (b0 (i := 3) rfl) ea_nil))) ⟨rfl, n, y, μ.o, μ.t, rfl, v.o_ μ a, hn, ?_⟩)))
      have hg : lf ms (m + 1) y = lf ms m (wm y μ.o μ.t) := by
        show (match ms.filter (brk y) with | [] => y | μ :: _ => lf ms m (wm y μ.o μ.t)) = _
        rw [er]
      generalize hy : wm y μ.o μ.t = y2 at *
      refine wss_one (ws_setLcE 2 [("mark", 3)] rfl nd (wi_tup (EE.to (ee_v 0 rfl) ⟨_, rfl, rfl, rfl, trivial⟩)) (LcOk.to (d := .lst ((ms.filter (brk y2)).map mkD)) (LcOk.imp (ok_lc1if (ds := ms.map mkD) 3 (fun d => brk y2 (unD d)) (fun d => d) rfl nd lz (fun j d hd => ?_) fun j d hd _ s H C cl fp => ee_v 3 rfl) fun z M' ⟨e1, e2⟩ => ⟨e1.trans (congrArg D.lst (filt_mk (brk y2) ms)), e2⟩) ⟨m, by omega, y2, by omega, e1.trans hg, rfl, rfl⟩))
      obtain ⟨μ', hμ, rfl⟩ := at_map hd
      have hm := List.mem_of_getElem? hμ
      rw [unD_mk]
      exact fun s H C cl fp => et_val (we_call C1 (hr.mono (by omega)) (EA.to (ea_cons (ee_v 1 rfl) (ea_cons (ee_v 3 rfl) ea_nil)) ⟨rfl, n, y2, μ', rfl, v.s_ μ' hm, v.o_ μ' hm, rfl, rfl⟩))
  · have er : ms.filter (brk y) = [] := by
      cases er : ms.filter (brk y) with
      | nil => rfl
      | cons μ l => rw [er] at hb; cases hb
    have hg : lf ms m y = y := by
      cases m with
      | zero => rfl
      | succ m => unfold lf; rw [er]
    rw [e1, hg] at q
    exact wss_one (ws_ret (EE.to (ee_v 1 rfl) q))
/-- an order by way of some moments -/
def S_through : SpD := fun ds M Q => ∃ (n : Nat) (ms : List Mk) (L x : Mo), ds = [moD n L, msD ms, moD n x] ∧ Ms n ms ∧ 1 ≤ n ∧ n < 100 ∧ ms.length < 9000 ∧ msum n x < 9000 ∧ left n x L < 9000 ∧ (∀ a, greedy ms n (msum n x) z0 x = some a → ∃ b, greedy ms n (left n x L) x L = some b ∧ a.length < 9000 ∧ b.length < 9000 ∧ Q (ordD (some (a ++ b))) M) ∧ (greedy ms n (msum n x) z0 x = none → Q .non M)
theorem d_through (F : Df K mg "order_through" s_order_through ["lasts", "marks", "moments"]) (B : Blt mg) (C1 : Cal P w K mg base 2 "order_between" 3 S_between) : Cal P w K mg base 3 "order_through" 3 S_through := by
  refine dfn' F sc_order_through rfl fun f cdv A outer s H E ds M Q hr hl hs => ?_
  obtain ⟨n, ms, L, x, rfl, v, h1, h2, h3, h4, h5, q1, q0⟩ := hs
  have nd := sc_order_through.nd
  have ln : ((moI n L).map D.int).length = n := by rw [List.length_map, moI_len]
  refine wss_cons (ws_set 3 nd (we_call C1 hr (EA.to (ea_cons (ee_v 1 rfl) (ea_cons (EE.is (d' := moD n z0) (ee_op op_repA (ee_tup (ea_cons ee_int ea_nil)) (ee_cb call_len B.len bi_len (ea_cons (ee_v 0 rfl) ea_nil) (cd_lenT ⟨rfl, rfl⟩)) (od_repA (by omega) (by omega) (by exact Nat.le_of_ble_eq_true rfl) ⟨rfl, rfl⟩)) ?_) (ea_cons (ee_ct call_tuple_of B.tuple bi_tuple (ea_cons (ee_v 2 rfl) ea_nil) (cd_tupT ⟨rfl, rfl⟩)) ea_nil))) ⟨rfl, n, ms, z0, x, rfl, v, h2, h3, h4, ?_⟩)))
  · rw [ln, Int.toNat_natCast, rep_moI]
    rfl
  · cases e : greedy ms n (left n z0 x) z0 x with
    | none =>
      have e : greedy ms n (msum n x) z0 x = none := e
      exact wss_one (ws_ret (we_if (ET.to (et_cmp op_isN (ee_v 3 rfl) ee_non (od_isN ⟨true, rfl, rfl, rfl⟩)) ⟨fun _ => EE.to ee_non (q0 e), fun h => Bool.noConfusion h⟩)))
    | some a =>
      have e : greedy ms n (msum n x) z0 x = some a := e
      obtain ⟨b, hb, la, lb, q⟩ := q1 a e
      have l1 : ((nI a).map D.int).length = a.length := by unfold nI; rw [List.length_map, List.length_map]
      have l2 : ((nI b).map D.int).length = b.length := by unfold nI; rw [List.length_map, List.length_map]
      refine wss_one (ws_ret (we_if (ET.to (et_cmp op_isN (ee_v 3 rfl) ee_non (od_isN ⟨false, rfl, rfl, rfl⟩)) ⟨fun h => Bool.noConfusion h, fun _ => ?_⟩)))
      refine EE.to (d := ordD (some (a ++ b))) (EE.is (ee_op op_catA (ee_v 3 rfl) (EE.is (d' := .tup ((nI b).map .int)) (we_call C1 hr (EA.to (ea_cons (ee_v 1 rfl) (ea_cons (ee_ct call_tuple_of B.tuple bi_tuple (ea_cons (ee_v 2 rfl) ea_nil) (cd_tupT ⟨rfl, rfl⟩)) (ea_cons (ee_ct call_tuple_of B.tuple bi_tuple (ea_cons (ee_v 0 rfl) ea_nil) (cd_tupT ⟨rfl, rfl⟩)) ea_nil))) ⟨rfl, n, ms, x, L, rfl, v, h2, h3, h5, rfl, rfl⟩)) (by rw [hb]; rfl)) (od_catT (by rw [l1, l2]; exact small_i (by omega)) ⟨rfl, rfl⟩)) ?_) q
      show _ = D.tup ((nI (a ++ b)).map .int)
      rw [nI_app, List.map_append]
end
end K46
set_option Elab.async false
set_option linter.all false
set_option maxRecDepth 100000
set_option maxHeartbeats 4000000
namespace DL
open PySem L2 PyProof.Rows
section
variable {X : Cx} {sg : Sg} {M : Mem} {pos : Pos} {Qi : List D → (Mem → Prop) → Mem → Prop}
/-- zip of two tuples -/
theorem wi_zipT {e e2 : Expr} {p tpos : Pos} {elts : List Expr} {kk : Nat} (hm : X.mg "zip" = none) (h : WA X [e, e2] sg M fun xs M1 => ∃ ds es, xs = [.tup ds, .tup es] ∧ Qi (List.zipWith (fun a b => .tup [a, b]) ds es) (fun _ => True) M1) (hg : Gl X "zip" := by rfl) (hs : starEach [e, e2] X.env = (false, eval e X.env) :: starEach [e2] X.env := by exact star1 rfl) (hpl : (backTo pos (starEach [e2] X.env)).any (·.1) = false := by exact starN rfl) : WI X (.Tuple elts kk tpos) (.Call (.Name "zip" p) [e, e2] [] pos) sg M Qi := ⟨_, RZ.pi_zipA hg hm pa_w hs hpl, fun σ H G R w s k => (h σ H G w s).imp fun vs H1 ⟨xs, G1, M1, st, w1, r1, ds, es, e, q⟩ => by
  subst e
  obtain ⟨v, u, rfl, rv, ru⟩ := r1.two
  cases rv with
  | @tup a ys _ h1 rx =>
    cases ru with
    | @tup b zs _ h2 ry =>
      refine ⟨a, b, ys, zs, rfl, .inr ⟨SqT.of (w1.sub _ _ h1), SqT.of (w1.sub _ _ h2), k _ _ _ _ G1 M1 st w1 (fun G2 M2 H2 gx w2 _ i => ?_) q⟩⟩
      have g1 : SqT X.K H2 a ys := SqT.of (w2.sub _ _ (gx _ _ h1))
      have g2 : SqT X.K H2 b zs := SqT.of (w2.sub _ _ (gx _ _ h2))
      have rx2 := rx.mono gx
      have ry2 := ry.mono gx
      refine ⟨fun hi => ⟨ys, zs, g1, g2, ?_⟩, fun d hd => ?_⟩
      · rw [List.length_zipWith] at hi
        rw [rx2.length, ry2.length]
        omega
      · rw [List.getElem?_zipWith] at hd
        cases ea : ds[i]? with
        | none => rw [ea] at hd; cases hd
        | some c =>
          cases eb : es[i]? with
          | none => rw [ea, eb] at hd; cases hd
          | some c' =>
            rw [ea, eb] at hd
            have ed := (Option.some.inj hd).symm
            subst ed
            obtain ⟨z, hz, rd⟩ := rx2.get ea
            obtain ⟨z', hz', rd'⟩ := ry2.get eb
            refine ⟨⟨ys, zs, z, z', g1, g2, hz, hz'⟩, fun t H' ⟨T, y1, y2, e1, e2, e3, e4, e5⟩ => ?_⟩
            subst e1; subst e3
            have q1 := (e4 ys g1).symm.trans hz
            have q2 := (e5 zs g2).symm.trans hz'
            cases q1; cases q2
            exact new_pair w2 e2 rd rd'⟩
end
end DL
namespace K46
open PySem L2 PyProof.Rows DL
/-! ### agree, fit_paper -/
def mn (x y : Mo) : Mo := fun j => min (x j) (y j)
/-- the marks undone, from above -/
def fpp (ms : List Mk) : Nat → Mo → List Mk
  | 0, _ => []
  | f + 1, x => match ms.filter (brk x) with
    | [] => []
    | μ :: _ => μ :: fpp ms f (wm x μ.s (μ.m - 1))
section
variable {P : Program} {w : World} {K : PySem.W.Frag} {mg : Str → Option Value} {base : Heap}
def S_agree : SpD := fun ds M Q => ∃ (n : Nat) (ms : List Mk) (x y : Mo), ds = [msD ms, moD n x, moD n y] ∧ Ms n ms ∧ n < 1000 ∧ ms.length < 9000 ∧ Q (moD n (gf ms (msum n (mn x y)) (mn x y))) M
theorem d_agree (F : Df K mg "agree" s_agree ["marks", "one", "other"]) (B : Blt mg) (C1 : Cal P w K mg base 2 "greatest_fit" 2 S_great) : Cal P w K mg base 3 "agree" 3 S_agree := by
  refine dfn' F sc_agree rfl fun f cdv A outer s H E ds M Q hr hl hs => ?_
  obtain ⟨n, ms, x, y, rfl, v, hn, hz, q⟩ := hs
  have nd := sc_agree.nd
  have ez : List.zipWith (fun a b => D.tup [a, b]) ((moI n x).map D.int) ((moI n y).map D.int) = (List.range n).map fun j => D.tup [.int (x j : Int), .int (y j : Int)] := by
    unfold moI
    rw [List.map_map, List.map_map, List.zipWith_map_left, List.zipWith_map_right]
    rw [List.zipWith_self]
    rfl
  have lz : ((List.range n).map fun j => D.tup [.int (x j : Int), .int (y j : Int)]).length < sizeLine := by rw [List.length_map, List.length_range]; exact lt_i (by omega)
  refine wss_one (ws_ret (we_call C1 hr (EA.to (ea_cons (ee_v 0 rfl) (ea_cons (EE.is (d' := moD n (mn x y)) (ee_ct call_tuple_of B.tuple bi_tuple (ea_cons (ee_lc2 3 4 (ds := (List.range n).map fun j => D.tup [.int (x j : Int), .int (y j : Int)]) (fun a b => .int (if intOf b < intOf a then intOf b else intOf a)) rfl nd (wi_zipT B.zip (EA.to (ea_cons (ee_v 1 rfl) (ea_cons (ee_v 2 rfl) ea_nil)) ⟨_, _, rfl, ez, rfl, trivial⟩)) lz fun l d hd => ?_) ea_nil) (cd_tupL (.inl rfl) ⟨rfl, rfl⟩)) ?_) ea_nil)) ⟨rfl, n, ms, mn x y, rfl, v, hn, hz, q⟩)))
  · obtain ⟨j, _, rfl⟩ := at_map hd
    exact ⟨_, _, rfl, fun s H C cl fp => ee_cb (call_min2 rfl) B.min bi_min (ea_cons (ee_v 3 rfl) (ea_cons (ee_v 4 rfl) ea_nil)) (cd_min2 ⟨rfl, rfl⟩)⟩
  · unfold moD moI
    rw [List.map_map, List.map_map]
    refine congrArg D.tup (List.map_congr_left fun j _ => ?_)
    show D.int (if (y j : Int) < (x j : Int) then (y j : Int) else (x j : Int)) = D.int ((min (x j) (y j) : Nat) : Int)
    congr 1
    split <;> omega
def S_paper : SpD := fun ds M Q => ∃ (n : Nat) (ms : List Mk) (x : Mo), ds = [msD ms, moD n x] ∧ Ms n ms ∧ n < 1000 ∧ ms.length < 9000 ∧ msum n x < 9000 ∧ Q (msD (fpp ms (msum n x) x)) M
theorem d_paper (F : Df K mg "fit_paper" s_fit_paper ["marks", "moments"]) (C1 : Cal P w K mg base 1 "is_broken" 2 S_broken) (C2 : Cal P w K mg base 1 "with_moment" 3 S_wm) (C3 : Cal P w K mg base 2 "do_fit" 2 S_fit) : Cal P w K mg base 3 "fit_paper" 2 S_paper := by
  refine dfn' F sc_fit_paper rfl fun f cdv A outer s H E ds M Q hr hl hs => ?_
  obtain ⟨n, ms, x, rfl, v, hn, hz, hx, q⟩ := hs
  have nd := sc_fit_paper.nd
  have lz : (ms.map mkD).length < sizeLine := by rw [List.length_map]; exact lt_i (by omega)
  refine wss_cons (ws_set 2 nd (EE.to (ee_tup ea_nil) ?_))
  refine wss_cons (ws_while PassesOwn.never (fun m sg1 M1 => ∃ (y : Mo) (done : List Mk) (o : Option D), msum n y ≤ m ∧ m + done.length ≤ msum n x ∧ fpp ms (msum n x) x = done ++ fpp ms m y ∧ M1 = M ∧ sg1 = [some (msD ms), some (moD n y), some (.tup (done.map mkD)), o]) ⟨msum n x, x, [], none, Nat.le_refl _, Nat.le_refl _, rfl, rfl, rfl⟩ fun m sg1 M1 ⟨y, done, o, e0, e01, e1, e2, e3⟩ => ?_)
  subst e2; subst e3
  refine ET.to (et_not (et_val (we_call C3 hr (EA.to (ea_cons (ee_v 0 rfl) (ea_cons (ee_v 1 rfl) ea_nil)) ⟨rfl, n, ms, y, rfl, v, hz, rfl, rfl⟩)))) ⟨fun hb => ?_, fun hb => ?_⟩
  · cases er : ms.filter (brk y) with
    | nil =>
      have := fitB_iff.mpr (fits_of_nil er)
      rw [this] at hb
      cases hb
    | cons μ l =>
      obtain ⟨a, b, c⟩ := brk_of er
      have d := msum_down (x := y) (v.s_ μ a) (v.m_ μ a) b
      have hm1 := v.m_ μ a
      obtain ⟨m, rfl⟩ : ∃ m', m = m' + 1 := ⟨m - 1, by omega⟩
      have hfm := filt_mk (brk y) ms
      rw [er] at hfm
      refine wss_cons (ws_set 3 nd (EE.to (d := mkD μ) (ee_ix ix_list (EE.is (d' := .lst ((μ :: l).map mkD)) (ee_lc1if (ds := ms.map mkD) 3 (fun d => brk y (unD d)) (fun d => d) rfl nd (wi_tup (EE.to (ee_v 0 rfl) ⟨_, rfl, rfl, rfl, trivial⟩)) lz (fun j d hd => ?_) fun j d hd _ s H C cl fp => ee_v 3 rfl) (congrArg D.lst hfm)) ee_int (od_ixL (d := mkD μ) (.inl rfl) (show atI _ ((0 : Nat) : Int) = _ from atI_nat rfl) ⟨rfl, rfl⟩)) ?_))
      · obtain ⟨μ', hμ, rfl⟩ := at_map hd
        have hm := List.mem_of_getElem? hμ
        rw [unD_mk]
        exact fun s H C cl fp => et_val (we_call C1 (hr.mono (by omega)) (EA.to (ea_cons (ee_v 1 rfl) (ea_cons (ee_v 3 rfl) ea_nil)) ⟨rfl, n, y, μ', rfl, v.s_ μ' hm, v.o_ μ' hm, rfl, rfl⟩))
      · have b0 : ∀ {i : Nat} {dd : D} {p1 p4 p5 : Pos} {j2 : Nat} {M : Mem}, atI [D.int (μ.s : Int), .int (μ.m : Int), .int (μ.o : Int), .int (μ.t : Int)] (i : Int) = some dd → EE (cxOf CX0 P w K mg base ["marks", "moments", "found", "mark"] "fit_paper" (defScope s_fit_paper) f cdv A outer s H E).nox (.Subscript (.Name "mark" p1) (.Constant (.int i) j2 p4) p5) [some (msD ms), some (moD n y), some (.tup (done.map mkD)), some (mkD μ)] M dd := fun h => ee_ix ix_tup (ee_v 3 rfl) ee_int (od_ixT h ⟨rfl, rfl⟩)
        refine wss_one (ws_asg (EE.to (d := .tup [moD n (wm y μ.s (μ.m - 1)), .tup ((done ++ [μ]).map mkD)]) (ee_tup (ea_cons (we_call C2 (hr.mono (by omega)) (EA.to (ea_cons (ee_v 1 rfl) (ea_cons (b0 (i := 0) rfl) (ea_cons (EE.is (d' := .int ((μ.m - 1 : Nat) : Int)) (ee_sub (b0 (i := 1) rfl) ee_int) (congrArg D.int (by omega))) ea_nil))) ⟨rfl, n, y, μ.s, μ.m - 1, rfl, v.s_ μ a, hn, rfl, rfl⟩)) (ea_cons (EE.is (ee_op op_catA (ee_v 2 rfl) (ee_tup (ea_cons (ee_v 3 rfl) ea_nil)) (od_catT (by rw [List.length_map]; exact small_i (show _ + 1 < 100000 by omega)) ⟨rfl, rfl⟩)) (by rw [List.map_append]; rfl)) ea_nil))) ⟨_, _, wg_tup rfl (wgs_cons (wg_name 1 nd) (wgs_cons (wg_name 2 nd) wgs_nil)), m, by omega, wm y μ.s (μ.m - 1), done ++ [μ], _, by omega, by rw [List.length_append]; show m + (done.length + 1) ≤ _; omega, ?_, rfl, rfl⟩))
        rw [e1]
        have : fpp ms (m + 1) y = μ :: fpp ms m (wm y μ.s (μ.m - 1)) := by
          show (match ms.filter (brk y) with | [] => [] | μ :: _ => μ :: fpp ms m (wm y μ.s (μ.m - 1))) = _
          rw [er]
        rw [this, List.append_assoc]
        rfl
  · have er : ms.filter (brk y) = [] := by
      have hb : fitB ms y = true := by simpa using hb
      unfold fitB at hb
      rw [Bool.not_eq_true', List.any_eq_false] at hb
      exact List.filter_eq_nil_iff.mpr hb
    have hg : fpp ms m y = [] := by
      cases m with
      | zero => rfl
      | succ m => unfold fpp; rw [er]
    rw [e1, hg, List.append_nil] at q
    exact wss_one (ws_ret (EE.to (ee_v 2 rfl) q))
end
end K46
set_option Elab.async false
set_option linter.all false
set_option maxRecDepth 100000
set_option maxHeartbeats 4000000
namespace K46
open PySem L2 PyProof.Rows DL
/-! ### is_mark, are_marks: over any plain value -/
theorem ew_is {X : Cx} {e : Expr} {sg : Sg} {M : Mem} {k k' : Bool} (h : EW X e sg M k) (he : k = k') : EW X e sg M k' := by rw [← he]; exact h
theorem four_of {ds : List D} (h : ds.length = 4) : ∃ a b c d, ds = [a, b, c, d] := by
  match ds, h with
  | [a, b, c, d], _ => exact ⟨a, b, c, d, rfl⟩
def Lat (L : Mo) (d : D) : Int := (L (intOf d).toNat : Int)
def four (n : Nat) (L : Mo) : List D → Bool
  | [a, b, c, d] => wholeB a 0 ((n : Int) - 1) && (wholeB c 0 ((n : Int) - 1) && (!decide (intOf a = intOf c) && (wholeB b 1 (Lat L a) && wholeB d 1 (Lat L c))))
  | _ => false
def markB (n : Nat) (L : Mo) (x : D) : Bool := isT x && (decide ((itemsD x).length = 4) && four n L (itemsD x))
theorem whole_of {x : D} {lo hi : Int} (h : wholeB x lo hi = true) (h0 : 0 ≤ lo) : ∃ i : Nat, x = .int (i : Int) ∧ lo ≤ (i : Int) ∧ (i : Int) ≤ hi := by
  unfold wholeB at h
  simp only [Bool.and_eq_true, decide_eq_true_eq] at h
  obtain ⟨a, b, c⟩ := h
  obtain ⟨i, rfl⟩ := isI_of (d := x) a
  have b : lo ≤ i := b
  have c : i ≤ hi := c
  exact ⟨i.toNat, by rw [Int.toNat_of_nonneg (by omega)], by omega, by omega⟩
/-- what is taken as a mark is one -/
theorem mark_of {n : Nat} {L : Mo} {x : D} (h : markB n L x = true) : ∃ μ : Mk, x = mkD μ ∧ μ.s < n ∧ μ.o < n ∧ μ.s ≠ μ.o ∧ 1 ≤ μ.m ∧ μ.m ≤ L μ.s ∧ 1 ≤ μ.t ∧ μ.t ≤ L μ.o := by
  unfold markB at h
  simp only [Bool.and_eq_true, decide_eq_true_eq] at h
  obtain ⟨h1, h2, h3⟩ := h
  obtain ⟨ds, rfl⟩ := isT_of h1
  obtain ⟨a, b, c, d, rfl⟩ := four_of h2
  have h3 : (wholeB a 0 ((n : Int) - 1) && (wholeB c 0 ((n : Int) - 1) && (!decide (intOf a = intOf c) && (wholeB b 1 (Lat L a) && wholeB d 1 (Lat L c))))) = true := h3
  simp only [Bool.and_eq_true, Bool.not_eq_true', decide_eq_false_iff_not] at h3
  obtain ⟨ha, hc, hne, hb, hd⟩ := h3
  obtain ⟨i, rfl, i0, i1⟩ := whole_of ha (by decide)
  obtain ⟨j, rfl, j0, j1⟩ := whole_of hc (by decide)
  obtain ⟨m, rfl, m0, m1⟩ := whole_of hb (by decide)
  obtain ⟨t, rfl, t0, t1⟩ := whole_of hd (by decide)
  have hne : ¬ ((i : Int) = (j : Int)) := hne
  have m1 : (m : Int) ≤ (L ((i : Int)).toNat : Int) := m1
  have t1 : (t : Int) ≤ (L ((j : Int)).toNat : Int) := t1
  rw [Int.toNat_natCast] at m1 t1
  exact ⟨⟨i, m, j, t⟩, rfl, by show i < n; omega, by show j < n; omega, by show i ≠ j; omega, by show 1 ≤ m; omega, by show m ≤ L i; omega, by show 1 ≤ t; omega, by show t ≤ L j; omega⟩
section
variable {P : Program} {w : World} {K : PySem.W.Frag} {mg : Str → Option Value} {base : Heap}
theorem wf_it {ds : List D} {n i : Nat} {d : D} (h : wf 900 (n + 1) (.tup ds) = true) (hd : ds[i]? = some d) : wf 900 n d = true := (wf_tup h).2 d (List.mem_of_getElem? hd)
def S_mark : SpD := fun ds M Q => ∃ (n : Nat) (L : Mo) (x : D), ds = [moD n L, x] ∧ wf 900 6 x = true ∧ Q (.bl (markB n L x)) M
theorem d_mark (F : Df K mg "is_mark" s_is_mark ["lasts", "value"]) (B : Blt mg) (C1 : Cal P w K mg base 1 "is_number" 3 S_num) : Cal P w K mg base 2 "is_mark" 2 S_mark := by
  refine dfn' F sc_is_mark rfl fun f cdv A outer s H E ds M Q hr hl hs => ?_
  obtain ⟨n, L, x, rfl, hw, q⟩ := hs
  have nd := sc_is_mark.nd
  have ln : ((moI n L).map D.int).length = n := by rw [List.length_map, moI_len]
  refine wss_cons (ws_ifE (k := !(isT x && decide ((itemsD x).length = 4))) (ET.is (ww_pt (ew_or (q := !decide ((itemsD x).length = 4)) (et_not (et_val (ee_isT B.isinstance B.tuple (ee_v 1 rfl) (pl_lk M (wf_pl hw))))) fun h => ww_or1 ?_)) (by simp only [Bool.not_and])) (fun h => ?_) fun h => wss_nil ?_)
  · obtain ⟨ds, rfl⟩ := isT_of (by simpa using h)
    refine ET.is (et_neI (ee_cb call_len B.len bi_len (ea_cons (ee_v 1 rfl) ea_nil) (cd_lenT ⟨rfl, rfl⟩)) ee_int) ?_
    congr 1
    exact decide_eq_decide.mpr (by show ((ds.length : Int) = 4) ↔ (ds.length = 4); omega)
  · have e : markB n L x = false := by
      unfold markB
      simp only [Bool.not_and, Bool.or_eq_true, Bool.not_eq_true'] at h
      rcases h with h | h <;> simp [h]
    rw [e] at q
    exact wss_one (ws_ret (EE.to ee_bl q))
  simp only [Bool.not_eq_false', Bool.and_eq_true, decide_eq_true_eq] at h
  obtain ⟨h1, h2⟩ := h
  obtain ⟨ds, rfl⟩ := isT_of h1
  obtain ⟨a, b, c, d, rfl⟩ := four_of h2
  have wa : pl a = true := wf_pl (wf_it (i := 0) hw rfl)
  have wb : pl b = true := wf_pl (wf_it (i := 1) hw rfl)
  have wc : pl c = true := wf_pl (wf_it (i := 2) hw rfl)
  have wd : pl d = true := wf_pl (wf_it (i := 3) hw rfl)
  have em : markB n L (.tup [a, b, c, d]) = (wholeB a 0 ((n : Int) - 1) && (wholeB c 0 ((n : Int) - 1) && (!decide (intOf a = intOf c) && (wholeB b 1 (Lat L a) && wholeB d 1 (Lat L c))))) := rfl
  rw [em] at q
  have nm : ∀ {sg : Sg} {M : Mem} {p1 p2 p3 p4 p5 : Pos} {j : Nat}, sg[0]? = some (some (moD n L)) → EE (cxOf CX0 P w K mg base ["lasts", "value"] "is_mark" (defScope s_is_mark) f cdv A outer s H E).nox (.BinOp (.Call (.Name "len" p1) [.Name "lasts" p2] [] p3) .Sub (.Constant (.int 1) j p4) p5) sg M (.int ((n : Int) - 1)) := fun hs => EE.is (ee_sub (ee_cb call_len B.len bi_len (ea_cons (ee_v 0 hs) ea_nil) (cd_lenT ⟨rfl, rfl⟩)) ee_int) (by rw [ln])
  refine wss_cons (ws_ifE (k := !(wholeB a 0 ((n : Int) - 1) && (wholeB c 0 ((n : Int) - 1) && !decide (intOf a = intOf c)))) (ET.is (ww_pt (ew_or (q := !(wholeB c 0 ((n : Int) - 1) && !decide (intOf a = intOf c))) (et_not (et_val (we_call C1 (hr.mono (by omega)) (EA.to (ea_cons (ee_ix ix_tup (ee_v 1 rfl) ee_int (od_ixT rfl ⟨rfl, rfl⟩)) (ea_cons ee_int (ea_cons (nm rfl) ea_nil))) ⟨rfl, a, 0, _, rfl, wa, rfl, rfl⟩)))) fun h => ?_)) (by simp only [Bool.not_and])) (fun h => ?_) fun h => wss_nil ?_)
  · obtain ⟨i, rfl, i0, i1⟩ := whole_of (by simpa using h) (by decide)
    refine ew_is (ew_or (q := decide (intOf (D.int (i : Int)) = intOf c)) (et_not (et_val (we_call C1 (hr.mono (by omega)) (EA.to (ea_cons (ee_ix ix_tup (ee_v 1 rfl) ee_int (od_ixT rfl ⟨rfl, rfl⟩)) (ea_cons ee_int (ea_cons (nm rfl) ea_nil))) ⟨rfl, c, 0, _, rfl, wc, rfl, rfl⟩)))) fun h => ww_or1 ?_) (by simp only [Bool.not_and, Bool.not_not])
    obtain ⟨j, rfl, j0, j1⟩ := whole_of (by simpa using h) (by decide)
    exact et_eqI (ee_ix ix_tup (ee_v 1 rfl) ee_int (od_ixT rfl ⟨rfl, rfl⟩)) (ee_ix ix_tup (ee_v 1 rfl) ee_int (od_ixT rfl ⟨rfl, rfl⟩))
  · have e : (wholeB a 0 ((n : Int) - 1) && (wholeB c 0 ((n : Int) - 1) && (!decide (intOf a = intOf c) && (wholeB b 1 (Lat L a) && wholeB d 1 (Lat L c))))) = false := by
      simp only [Bool.not_and, Bool.or_eq_true, Bool.not_eq_true', Bool.not_not] at h
      rcases h with h | h | h <;> simp [h]
    rw [e] at q
    exact wss_one (ws_ret (EE.to ee_bl q))
  simp only [Bool.not_eq_false', Bool.and_eq_true] at h
  obtain ⟨g1, g2, g3⟩ := h
  obtain ⟨i, rfl, i0, i1⟩ := whole_of g1 (by decide)
  obtain ⟨j, rfl, j0, j1⟩ := whole_of g2 (by decide)
  rw [g1, g2, g3, Bool.true_and, Bool.true_and, Bool.true_and] at q
  refine wss_one (ws_ret (EE.to (ee_and (we_call C1 (hr.mono (by omega)) (EA.to (ea_cons (ee_ix ix_tup (ee_v 1 rfl) ee_int (od_ixT rfl ⟨rfl, rfl⟩)) (ea_cons ee_int (ea_cons (ee_ix ix_tup (ee_v 0 rfl) (ee_ix ix_tup (ee_v 1 rfl) ee_int (od_ixT rfl ⟨rfl, rfl⟩)) (od_ixT (moD_at (j := i) (by omega)) ⟨rfl, rfl⟩)) ea_nil))) ⟨rfl, b, 1, (L i : Int), rfl, wb, rfl, rfl⟩)) fun _ => we_one (we_call C1 (hr.mono (by omega)) (EA.to (ea_cons (ee_ix ix_tup (ee_v 1 rfl) ee_int (od_ixT rfl ⟨rfl, rfl⟩)) (ea_cons ee_int (ea_cons (ee_ix ix_tup (ee_v 0 rfl) (ee_ix ix_tup (ee_v 1 rfl) ee_int (od_ixT rfl ⟨rfl, rfl⟩)) (od_ixT (moD_at (j := j) (by omega)) ⟨rfl, rfl⟩)) ea_nil))) ⟨rfl, d, 1, (L j : Int), rfl, wd, rfl, rfl⟩))) ?_))
  have e1 : Lat L (.int (i : Int)) = (L i : Int) := by show (L ((i : Int)).toNat : Int) = _; rw [Int.toNat_natCast]
  have e2 : Lat L (.int (j : Int)) = (L j : Int) := by show (L ((j : Int)).toNat : Int) = _; rw [Int.toNat_natCast]
  rw [e1, e2] at q
  exact q
end
end K46
set_option Elab.async false
set_option linter.all false
set_option maxRecDepth 100000
set_option maxHeartbeats 4000000
namespace K46
open PySem L2 PyProof.Rows DL
/-! ### are_marks; _law_flat -/
def marksB (n : Nat) (L : Mo) (x : D) : Bool := isT x && ((itemsD x).all (markB n L) && (greedy ((itemsD x).map unD) n (msum n L) z0 L).isSome)
theorem marks_of {n : Nat} {L : Mo} {ds : List D} (h : ds.all (markB n L) = true) : ds = (ds.map unD).map mkD ∧ Ms n (ds.map unD) ∧ (∀ μ ∈ ds.map unD, μ.m ≤ L μ.s ∧ 1 ≤ μ.t ∧ μ.t ≤ L μ.o) := by
  have key : ∀ d ∈ ds, mkD (unD d) = d ∧ (unD d).s < n ∧ (unD d).o < n ∧ (unD d).s ≠ (unD d).o ∧ 1 ≤ (unD d).m ∧ (unD d).m ≤ L (unD d).s ∧ 1 ≤ (unD d).t ∧ (unD d).t ≤ L (unD d).o := fun d hd => by
    obtain ⟨μ, rfl, r⟩ := mark_of (List.all_eq_true.mp h d hd)
    rw [unD_mk]
    exact ⟨rfl, r⟩
  refine ⟨?_, ⟨fun μ hμ => ?_, fun μ hμ => ?_, fun μ hμ => ?_, fun μ hμ => ?_⟩, fun μ hμ => ?_⟩
  · rw [List.map_map]
    have : ds.map (mkD ∘ unD) = ds.map id := List.map_congr_left fun d hd => (key d hd).1
    rw [this, List.map_id]
  all_goals obtain ⟨d, hd, rfl⟩ := List.mem_map.mp hμ
  · exact (key d hd).2.1
  · exact (key d hd).2.2.1
  · exact (key d hd).2.2.2.1
  · exact (key d hd).2.2.2.2.1
  · exact ⟨(key d hd).2.2.2.2.2.1, (key d hd).2.2.2.2.2.2⟩
section
variable {P : Program} {w : World} {K : PySem.W.Frag} {mg : Str → Option Value} {base : Heap}
def S_are : SpD := fun ds M Q => ∃ (n : Nat) (L : Mo) (x : D), ds = [moD n L, x] ∧ wf 900 7 x = true ∧ 1 ≤ n ∧ n < 100 ∧ msum n L < 9000 ∧ Q (.bl (marksB n L x)) M
theorem d_are (F : Df K mg "are_marks" s_are_marks ["lasts", "value"]) (B : Blt mg) (C1 : Cal P w K mg base 2 "is_mark" 2 S_mark) (C2 : Cal P w K mg base 3 "order_of_all" 2 S_all) : Cal P w K mg base 4 "are_marks" 2 S_are := by
  refine dfn' F sc_are_marks rfl fun f cdv A outer s H E ds M Q hr hl hs => ?_
  obtain ⟨n, L, x, rfl, hw, n0, n1, hL, q⟩ := hs
  have nd := sc_are_marks.nd
  refine wss_cons (ws_ifE (k := !(isT x && (itemsD x).all (markB n L))) (ET.is (ww_pt (ew_or (q := !(itemsD x).all (markB n L)) (et_not (et_val (ee_isT B.isinstance B.tuple (ee_v 1 rfl) (pl_lk M (wf_pl hw))))) fun h => ww_or1 ?_)) (by simp only [Bool.not_and])) (fun h => ?_) fun h => wss_nil ?_)
  · obtain ⟨ds, rfl⟩ := isT_of (by simpa using h)
    refine et_not (et_val (ee_cb (cr_all rfl) B.all bi_all (ea_cons (ee_lc1 2 (ds := ds) (fun d => .bl (markB n L d)) rfl nd (wi_tup (EE.to (ee_v 1 rfl) ⟨_, rfl, rfl, rfl, trivial⟩)) (lt1000 (Nat.lt_of_le_of_lt (wf_tup hw).1 (by decide))) fun j d hd => fun s H C cl fp => ?_) ea_nil) (cd_all (bs := ds.map (markB n L)) (.inl (by rw [List.map_map]; rfl)) ⟨by rw [List.all_map]; rfl, rfl⟩)))
    exact we_call C1 (hr.mono (by omega)) (EA.to (ea_cons (ee_v 0 rfl) (ea_cons (ee_v 2 rfl) ea_nil)) ⟨rfl, n, L, d, rfl, wf_it hw hd, rfl, rfl⟩)
  · have e : marksB n L x = false := by
      unfold marksB
      simp only [Bool.not_and, Bool.or_eq_true, Bool.not_eq_true'] at h
      rcases h with h | h <;> simp [h]
    rw [e] at q
    exact wss_one (ws_ret (EE.to ee_bl q))
  simp only [Bool.not_eq_false', Bool.and_eq_true] at h
  obtain ⟨h1, h2⟩ := h
  obtain ⟨ds, rfl⟩ := isT_of h1
  have h2 : ds.all (markB n L) = true := h2
  obtain ⟨e1, v, _⟩ := marks_of h2
  have lds := (wf_tup hw).1
  have eq : marksB n L (.tup ds) = (greedy (ds.map unD) n (msum n L) z0 L).isSome := by
    show (true && (ds.all (markB n L) && (greedy (ds.map unD) n (msum n L) z0 L).isSome)) = _
    rw [h2]
    rfl
  rw [eq] at q
  have ev : ∀ {p1 : Pos}, EE (cxOf CX0 P w K mg base ["lasts", "value", "mark"] "are_marks" (defScope s_are_marks) f cdv A outer s H E).nox (.Name "value" p1) [some (moD n L), some (.tup ds), none] M (msD (ds.map unD)) := EE.is (ee_v 1 rfl) (congrArg D.tup e1)
  refine wss_one (ws_ret (EE.to (EE.is (ee_cmp op_notN (we_call C2 hr (EA.to (ea_cons (ee_v 0 rfl) (ea_cons ev ea_nil)) ⟨rfl, n, ds.map unD, L, rfl, v, n0, n1, by rw [List.length_map]; omega, hL, rfl, rfl⟩)) ee_non (od_notN ⟨rfl, rfl⟩)) ?_) q))
  cases greedy (ds.map unD) n (msum n L) z0 L <;> rfl
def S_flat : SpD := fun ds M Q => ∃ lss : List (List D), ds = [.lst (lss.map .lst)] ∧ lss.length < 1000 ∧ lss.flatten.length < 90000 ∧ Q (.lst lss.flatten) M
theorem d_flat (F : Df K mg "_law_flat" s_law_flat ["rows"]) : Cal P w K mg base 1 "_law_flat" 1 S_flat := by
  refine dfn' F sc_law_flat rfl fun f cdv A outer s H E ds M Q hr hl hs => ?_
  obtain ⟨lss, rfl, h1, h2, q⟩ := hs
  have nd := sc_law_flat.nd
  refine wss_cons (ws_set 1 nd (we_lstM (wa_nil ⟨by exact small30, fun p hp => ?_⟩)))
  refine wss_cons (ws_for PassesOwn.never rfl (Qi := fun es C M0 => es = lss.map .lst ∧ M0 = updM M p (some (.lst [])) ∧ ∀ M1, C M1) (wi_lst (EE.to (ee_v 0 rfl) ⟨_, .inl rfl, rfl, rfl, fun _ => .inl rfl⟩)) fun es C M0 ⟨e1, e2, hC⟩ => ?_)
  subst e1; subst e2
  refine ⟨fun i sg1 M1 => M1 = updM M p (some (.lst (lss.take i).flatten)) ∧ Fg [none, some (.ptr p), none] sg1, ⟨rfl, ⟨rfl, trivial⟩⟩, fun i sg1 M1 _ => hC _, fun i d sg1 M1 he ⟨e, hg⟩ => ?_, fun sg1 M1 ⟨e, hg⟩ => ?_⟩
  · subst e
    rw [List.getElem?_map] at he
    cases e : lss[i]? with
    | none => rw [e] at he; cases he
    | some l =>
      rw [e] at he
      have he := Option.some.inj he
      subst he
      have hT : (lss.take (i + 1)).flatten = (lss.take i).flatten ++ l := by rw [List.take_add_one, e, List.flatten_append]; simp
      have hz : (lss.take (i + 1)).flatten.length ≤ lss.flatten.length := by
        have := congrArg (fun l => (List.flatten l).length) (List.take_append_drop (i + 1) lss)
        simp only [List.flatten_append, List.length_append] at this
        omega
      rw [hT] at hz
      refine ⟨_, _, wg_name 2 nd, wss_fg (fg_set hg 2 _) ?_⟩
      refine wss_one (ws_expr (we_bm PySem.F.plainAttrs_list PySem.F.slot_list_extend PySem.F.type_list_extend mt_extend (EE.to (ee_v 1 rfl) ⟨ty_lst (.inr ⟨p, rfl, updM_same⟩), EA.to (ea_cons (ee_v 2 rfl) ea_nil) (md_extend updM_same (.inl rfl) (by rw [← List.length_append]; exact small_i (by omega)) ?_)⟩)))
      rw [updM_upd]
      exact ⟨by rw [hT], ⟨rfl, trivial⟩⟩
  · subst e
    rw [List.length_map, List.take_length]
    refine wss_fg hg ?_
    refine wss_freeze (i := 1) updM_same rfl ?_
    rw [updM_upd, updM_id hp]
    exact wss_one (ws_ret (EE.to (ee_v 1 rfl) q))
end
end K46
set_option Elab.async false
set_option linter.all false
set_option maxRecDepth 100000
set_option maxHeartbeats 4000000
namespace K46
open PySem L2 PyProof.Rows DL
/-! ### words of one length, by the order of words; the last step of an order -/
theorem lex_app : ∀ {a b : List Int} (x y : List Int), a.length = b.length → HT.lexLt a b = true → HT.lexLt (a ++ x) (b ++ y) = true
  | [], [], _, _, _, h => by cases h
  | [], _ :: _, _, _, h, _ => by cases h
  | _ :: _, [], _, _, h, _ => by cases h
  | p :: a, q :: b, x, y, hl, h => by
    rw [HT.lexLt_cons] at h
    show HT.lexLt (p :: (a ++ x)) (q :: (b ++ y)) = true
    rw [HT.lexLt_cons]
    by_cases e : p = q
    · rw [if_pos e] at h ⊢
      exact lex_app x y (Nat.succ.inj hl) h
    · rw [if_neg e] at h ⊢
      exact h
theorem lex_irr : ∀ a : List Int, HT.lexLt a a = false
  | [] => rfl
  | p :: a => by rw [HT.lexLt_cons, if_pos rfl]; exact lex_irr a
theorem lex_asym : ∀ {a b : List Int}, HT.lexLt a b = true → HT.lexLt b a = false
  | [], [], h => by cases h
  | [], _ :: _, _ => rfl
  | _ :: _, [], h => by cases h
  | p :: a, q :: b, h => by
    rw [HT.lexLt_cons] at h ⊢
    by_cases e : p = q
    · rw [if_pos e] at h
      rw [if_pos e.symm]
      exact lex_asym h
    · rw [if_neg e] at h
      rw [if_neg fun z => e z.symm]
      have := of_decide_eq_true h
      exact decide_eq_false (by omega)
theorem lex_tri : ∀ {a b : List Int}, a.length = b.length → a = b ∨ HT.lexLt a b = true ∨ HT.lexLt b a = true
  | [], [], _ => .inl rfl
  | [], _ :: _, h => by cases h
  | _ :: _, [], h => by cases h
  | p :: a, q :: b, h => by
    rw [HT.lexLt_cons, HT.lexLt_cons]
    by_cases e : p = q
    · rw [if_pos e, if_pos e.symm]
      rcases lex_tri (Nat.succ.inj h) with z | z | z
      · exact .inl (by rw [e, z])
      · exact .inr (.inl z)
      · exact .inr (.inr z)
    · rw [if_neg e, if_neg fun z => e z.symm]
      right
      by_cases c : p < q
      · exact .inl (decide_eq_true c)
      · exact .inr (decide_eq_true (by omega))
section
variable {ms : List Mk} {n : Nat}
/-- an order one step longer, by its last step -/
theorem Run.snoc (v : Ms n ms) {h h' : Mo} {ks : List Nat} (r : Run ms n h ks h') : ∀ {k : Nat}, k < n → nxt ms h' k → Run ms n h (ks ++ [k]) (stp h' k) := by
  induction r with
  | nil e =>
    intro k hk nx
    refine .cons hk (nxt_ext v hk (fun j hj => (e j hj).symm) nx) (.nil fun j hj => ?_)
    unfold stp
    rw [e j hj]
  | cons hk0 nx0 r ih =>
    intro k hk nx
    exact .cons hk0 nx0 (ih hk nx)
theorem Run.last (v : Ms n ms) : ∀ {ks : List Nat} {h x : Mo} {k : Nat}, Run ms n h (ks ++ [k]) x → ∃ h', Run ms n h ks h' ∧ k < n ∧ nxt ms h' k ∧ ∀ j, j < n → stp h' k j = x j
  | [], h, x, k, r => by
    obtain ⟨a, b, c, d⟩ := r.lt
    refine ⟨h, .nil fun _ _ => rfl, a, b, ?_⟩
    cases d with
    | nil e => exact e
  | k0 :: ks, h, x, k, r => by
    cases r with
    | cons hk0 nx0 r =>
      obtain ⟨h', r', rest⟩ := Run.last v r
      exact ⟨h', .cons hk0 nx0 r', rest⟩
theorem left_one {h t : Mo} {k : Nat} (hk : k < n) (hl : h k < t k) : left n (stp h k) t + 1 = left n h t := by
  unfold left
  have : ∀ l : List Nat, l.Nodup → k ∈ l → (l.map fun j => t j - stp h k j).sum + 1 = (l.map fun j => t j - h j).sum := by
    intro l
    induction l with
    | nil => intro _ hm; cases hm
    | cons a l ih =>
      intro nd hm
      simp only [List.map_cons, List.sum_cons]
      rw [List.nodup_cons] at nd
      by_cases e : a = k
      · subst e
        have same : (l.map fun j => t j - stp h a j) = l.map fun j => t j - h j := List.map_congr_left fun j hj => by
          rw [stp_ne fun z => nd.1 (by rw [← z]; exact hj)]
        rw [same, stp_same]
        omega
      · rcases List.mem_cons.mp hm with z | z
        · exact absurd z.symm e
        · have := ih nd.2 z
          rw [stp_ne e]
          omega
  exact this _ List.nodup_range (List.mem_range.mpr hk)
/-- how long an order is, its ends tell -/
theorem Run.len {h t : Mo} {ks : List Nat} (r : Run ms n h ks t) : ks.length = left n h t := by
  induction r with
  | nil e =>
    unfold left
    rw [List.map_congr_left (g := fun _ => 0) fun j hj => by rw [e j (List.mem_range.mp hj), Nat.sub_self]]
    have z : ∀ l : List Nat, 0 = (l.map fun _ => 0).sum := by
      intro l
      induction l with
      | nil => rfl
      | cons a l ih => rw [List.map_cons, List.sum_cons, ← ih]
    exact z _
  | @cons h t k ks hk nx r ih =>
    have hl := r.le k hk
    rw [stp_same] at hl
    have := left_one (n := n) (h := h) (t := t) hk (by omega)
    rw [List.length_cons, ih]
    exact this
end
end K46
set_option Elab.async false
set_option linter.all false
set_option maxRecDepth 100000
set_option maxHeartbeats 4000000
namespace K46
open PySem L2 PyProof.Rows DL
/-! ### _law_all, _law_whole -/
abbrev rD (r : List Int) : D := .tup (r.map .int)
def addR (c : Nat) (rows : List (List Int)) : List (List Int) := rows.flatMap fun r => (List.range (c + 1)).map fun (m : Nat) => r ++ [(m : Int)]
def allR (L : Mo) : Nat → List (List Int)
  | 0 => [[]]
  | i + 1 => addR (L i) (allR L i)
theorem addR_len (c : Nat) : ∀ rows : List (List Int), (addR c rows).length = rows.length * (c + 1)
  | [] => by unfold addR; simp
  | r :: rows => by
    have ih := addR_len c rows
    unfold addR at ih ⊢
    rw [List.flatMap_cons, List.length_append, ih, List.length_map, List.length_range, List.length_cons, Nat.succ_mul, Nat.add_comm]
theorem allR_len {L : Mo} {n : Nat} (h : ∀ j, j < n → L j ≤ 4) : ∀ i, i ≤ n → (allR L i).length ≤ 5 ^ i
  | 0, _ => Nat.le_refl _
  | i + 1, hi => by
    have ih := allR_len h i (by omega)
    have := h i (by omega)
    unfold allR
    rw [addR_len, Nat.pow_succ]
    exact Nat.mul_le_mul ih (by omega)
theorem allR_row {L : Mo} : ∀ i, ∀ r ∈ allR L i, r.length = i
  | 0, r, hr => by rw [List.mem_singleton.mp hr]; rfl
  | i + 1, r, hr => by
    unfold allR addR at hr
    obtain ⟨r0, h0, h1⟩ := List.mem_flatMap.mp hr
    obtain ⟨m, _, rfl⟩ := List.mem_map.mp h1
    rw [List.length_append, allR_row i r0 h0]
    rfl
theorem flat_rows (c : Nat) : ∀ rows : List (List Int), (rows.map fun r => (rngD 0 (c + 1)).map fun e => D.tup (r.map D.int ++ [e])).flatten = (addR c rows).map rD
  | [] => rfl
  | r :: rows => by
    rw [List.map_cons, List.flatten_cons, flat_rows c rows]
    show _ = ((r :: rows).flatMap fun r => (List.range (c + 1)).map fun (m : Nat) => r ++ [(m : Int)]).map rD
    rw [List.flatMap_cons, List.map_append, List.map_map]
    congr 1
    unfold rngD
    rw [List.map_map]
    refine List.map_congr_left fun m _ => ?_
    show D.tup (r.map D.int ++ [D.int (0 + (m : Int))]) = D.tup ((r ++ [(m : Int)]).map D.int)
    rw [Int.zero_add, List.map_append]
    rfl
section
variable {P : Program} {w : World} {K : PySem.W.Frag} {mg : Str → Option Value} {base : Heap}
theorem d_lwhole (F : Df K mg "_law_whole" s_law_whole ["value", "low", "high"]) (B : Blt mg) : Cal P w K mg base 1 "_law_whole" 3 S_num := by
  refine dfn' F sc_law_whole rfl fun f cdv A outer s H E ds M Q hr hl hs => ?_
  obtain ⟨x, lo, hi, rfl, hp, q⟩ := hs
  refine wss_one (ws_ret (EE.to (EE.is (ee_and (q := !isB x && (decide (lo ≤ intOf x) && decide (intOf x ≤ hi))) (ee_isI B.isinstance B.int (ee_v 0 rfl) (pl_lk M hp)) fun h1 => ee_and (q := decide (lo ≤ intOf x) && decide (intOf x ≤ hi)) (ee_not (ee_isB B.isinstance B.bool (ee_v 0 rfl) (pl_lk M hp))) fun h2 => ?_) (congrArg D.bl (Bool.and_assoc _ _ _).symm)) q))
  obtain ⟨i, rfl⟩ := isI_of (d := x) (by rw [h1, h2]; rfl)
  exact ee_and (ee_le (ee_v 1 rfl) (ee_v 0 rfl)) fun _ => we_one (ee_le (ee_v 0 rfl) (ee_v 2 rfl))
def S_allm : SpD := fun ds M Q => ∃ (n : Nat) (L : Mo), ds = [moD n L] ∧ n ≤ 4 ∧ (∀ j, j < n → L j ≤ 4) ∧ Q (.lst ((allR L n).map rD)) M
theorem d_allm (F : Df K mg "_law_all" s_law_all ["lasts"]) (B : Blt mg) (C1 : Cal P w K mg base 1 "_law_flat" 1 S_flat) : Cal P w K mg base 2 "_law_all" 1 S_allm := by
  refine dfn' F sc_law_all rfl fun f cdv A outer s H E ds M Q hr hl hs => ?_
  obtain ⟨n, L, rfl, hn, hL, q⟩ := hs
  have nd := sc_law_all.nd
  refine wss_cons (ws_set 1 nd (EE.to (ee_lst (ea_cons (ee_tup ea_nil) ea_nil)) ?_))
  refine wss_cons (ws_for PassesOwn.never rfl (Qi := fun es C M0 => es = (moI n L).map .int ∧ M0 = M ∧ ∀ M1, C M1) (wi_tup (EE.to (ee_v 0 rfl) ⟨_, rfl, rfl, rfl, fun _ => trivial⟩)) fun es C M0 ⟨e1, e2, hC⟩ => ?_)
  subst e1; subst e2
  refine ⟨fun i sg1 M1 => i ≤ n ∧ M1 = M0 ∧ Fg [none, some (.lst ((allR L i).map rD)), none, none, none] sg1, ⟨Nat.zero_le _, rfl, ⟨rfl, trivial⟩⟩, fun i sg1 M1 _ => hC _, fun i d sg1 M1 he ⟨hi, e, hg⟩ => ?_, fun sg1 M1 ⟨hi, e, hg⟩ => ?_⟩
  · subst e
    rw [List.getElem?_map] at he
    have hin : i < n := by
      by_cases h : i < n
      · exact h
      · rw [List.getElem?_eq_none (by rw [moI_len]; omega)] at he; cases he
    rw [moI_at hin] at he
    have he := (Option.some.inj he).symm
    have he : d = .int (L i : Int) := he
    subst he
    have hLi := hL i hin
    have hlen := allR_len hL i (by omega)
    have h5 : 5 ^ i ≤ 5 ^ 3 := Nat.pow_le_pow_right (by decide) (by omega)
    have lr : ((allR L i).map rD).length < sizeLine := by rw [List.length_map]; exact lt_i (by omega)
    refine ⟨_, _, wg_name 2 nd, wss_fg (fg_set hg 2 _) ?_⟩
    refine wss_one (ws_set 1 nd (we_call C1 hr (EA.to (ea_cons (ee_lc1 3 (ds := (allR L i).map rD) (fun d => .lst ((rngD 0 (L i + 1)).map fun e => D.tup (itemsD d ++ [e]))) rfl nd (wi_lst (EE.to (ee_v 1 rfl) ⟨_, .inl rfl, rfl, rfl, .inl rfl⟩)) lr (fun j d hd s H C cl fp => ?_)) ea_nil) ⟨rfl, (allR L i).map fun r => (rngD 0 (L i + 1)).map fun e => D.tup (r.map D.int ++ [e]), ?_, ?_, ?_, ?_⟩)))
    · obtain ⟨r, hr0, rfl⟩ := at_map hd
      have hrl := allR_row i r (List.mem_of_getElem? hr0)
      refine ee_lc1 4 (ds := rngD 0 (L i + 1)) (fun e => D.tup (r.map D.int ++ [e])) rfl nd (wi_rng1 B.range (EA.to (ea_cons (ee_add (ee_v 2 rfl) ee_int) ea_nil) ⟨(L i : Int) + 1, rfl, by omega, by omega, by rw [show ((L i : Int) + 1).toNat = L i + 1 by omega], rfl, trivial⟩)) (by rw [rngD_len]; exact lt_i (by omega)) fun m e he s H C cl fp => ?_
      exact ee_op op_catA (ee_v 3 rfl) (ee_tup (ea_cons (ee_v 4 rfl) ea_nil)) (od_catT (by rw [List.length_map]; exact small_i (show r.length + 1 < 100000 by omega)) ⟨rfl, rfl⟩)
    · rw [List.map_map, List.map_map]
      rfl
    · rw [List.length_map]; omega
    · rw [flat_rows, List.length_map, addR_len]
      have : (allR L i).length * (L i + 1) ≤ 125 * 5 := Nat.mul_le_mul (by omega) (by omega)
      omega
    · rw [flat_rows]
      exact ⟨by omega, rfl, ⟨rfl, trivial⟩⟩
  · subst e
    rw [List.length_map, moI_len] at hg
    exact wss_fg hg (wss_one (ws_ret (EE.to (ee_v 1 rfl) q)))
end
end K46
set_option Elab.async false
set_option linter.all false
set_option maxRecDepth 100000
set_option maxHeartbeats 4000000
namespace K46
open PySem L2 PyProof.Rows DL
/-! ### is_fit_paper, over rows of marks and over what is no tuple -/
def mkI (μ : Mk) : List Int := [(μ.s : Int), (μ.m : Int), (μ.o : Int), (μ.t : Int)]
theorem mkI_inj {a b : Mk} (h : mkI a = mkI b) : a = b := by
  unfold mkI at h
  simp only [List.cons.injEq, and_true] at h
  obtain ⟨h1, h2, h3, h4⟩ := h
  cases a; cases b
  simp only [Mk.mk.injEq]
  exact ⟨Int.ofNat.inj h1, Int.ofNat.inj h2, Int.ofNat.inj h3, Int.ofNat.inj h4⟩
def inM (ms : List Mk) (p : Mk) : Bool := ms.any fun μ => decide (mkI μ = mkI p)
theorem inM_iff {ms : List Mk} {p : Mk} : inM ms p = true ↔ p ∈ ms := by
  unfold inM
  rw [List.any_eq_true]
  constructor
  · intro ⟨μ, hμ, e⟩
    rw [← mkI_inj (of_decide_eq_true e)]
    exact hμ
  · intro h
    exact ⟨p, h, decide_eq_true rfl⟩
def ifp (ms : List Mk) : Mo → List Mk → Option Mo
  | x, [] => some x
  | x, p :: ps => if inM ms p && brk x p then ifp ms (wm x p.s (p.m - 1)) ps else none
def ifpB (ms : List Mk) (n : Nat) (x t : Mo) (ps : List Mk) : Bool := match ifp ms x ps with
  | none => false
  | some y => eqm n y t && fitB ms y
section
variable {P : Program} {w : World} {K : PySem.W.Frag} {mg : Str → Option Value} {base : Heap}
def S_ifp : SpD := fun ds M Q => ∃ (n : Nat) (ms : List Mk) (x t : Mo) (ps : List Mk), ds = [msD ms, moD n x, moD n t, msD ps] ∧ Ms n ms ∧ n < 1000 ∧ ms.length < 9000 ∧ Q (.bl (ifpB ms n x t ps)) M
theorem d_ifp (F : Df K mg "is_fit_paper" s_is_fit_paper ["marks", "moments", "fitted", "value"]) (B : Blt mg) (C1 : Cal P w K mg base 1 "is_broken" 2 S_broken) (C2 : Cal P w K mg base 1 "with_moment" 3 S_wm) (C3 : Cal P w K mg base 2 "do_fit" 2 S_fit) : Cal P w K mg base 3 "is_fit_paper" 4 S_ifp := by
  refine dfn' F sc_is_fit_paper rfl fun f cdv A outer s H E ds M Q hr hl hs => ?_
  obtain ⟨n, ms, x, t, ps, rfl, v, hn, hz, q⟩ := hs
  have nd := sc_is_fit_paper.nd
  have lz : (ms.map mkD).length < sizeLine := by rw [List.length_map]; exact lt_i (by omega)
  refine wss_cons (ws_ifE (k := false) (ET.is (et_not (et_val (ee_isT B.isinstance B.tuple (ee_v 3 (d := msD ps) rfl) trivial))) rfl) (fun h => Bool.noConfusion h) fun _ => wss_nil ?_)
  refine wss_cons (ws_for PassesOwn.never rfl (Qi := fun es C M0 => es = ps.map mkD ∧ M0 = M ∧ ∀ M1, C M1) (wi_tup (EE.to (ee_v 3 rfl) ⟨_, rfl, rfl, rfl, fun _ => trivial⟩)) fun es C M0 ⟨e1, e2, hC⟩ => ?_)
  subst e1; subst e2
  refine ⟨fun i sg1 M1 => ∃ y : Mo, ifp ms x ps = ifp ms y (ps.drop i) ∧ M1 = M0 ∧ Fg [some (msD ms), some (moD n y), some (moD n t), none, none, none] sg1, ⟨x, rfl, rfl, ⟨rfl, rfl, rfl, trivial⟩⟩, fun i sg1 M1 _ => hC _, fun i d sg1 M1 he ⟨y, e0, e, hg⟩ => ?_, fun sg1 M1 ⟨y, e0, e, hg⟩ => ?_⟩
  · subst e
    obtain ⟨p, hp, rfl⟩ := at_map he
    have hd : ps.drop i = p :: ps.drop (i + 1) := by
      obtain ⟨h1, h2⟩ := List.getElem?_eq_some_iff.mp hp
      rw [List.drop_eq_getElem_cons h1, h2]
    rw [hd] at e0
    refine ⟨_, _, wg_name 4 nd, wss_fg (fg_set hg 4 _) ?_⟩
    refine wss_cons (ws_ifE (k := !(inM ms p && brk y p)) (ET.is (ww_pt (ew_or (p := !inM ms p) (q := !brk y p) (et_not (et_val (ee_cb (cr_any rfl) B.any bi_any (ea_cons (ee_lc1 5 (ds := ms.map mkD) (fun d => .bl (decide (mkI (unD d) = mkI p))) rfl nd (wi_tup (EE.to (ee_v 0 rfl) ⟨_, rfl, rfl, rfl, trivial⟩)) lz (fun j d hd => ?_)) ea_nil) (cd_any (bs := ms.map fun μ => decide (mkI μ = mkI p)) (.inl ?_) ⟨by rw [List.any_map]; rfl, rfl⟩)))) fun h => ww_or1 (et_not (et_val ?_)))) (by simp only [Bool.not_and])) (fun h => ?_) fun h => wss_nil ?_)
    · obtain ⟨μ, hμ, rfl⟩ := at_map hd
      rw [unD_mk]
      exact fun s H C cl fp => EE.is (ee_cmp (op_eqD hr.units) (ee_v 5 rfl) (ee_v 4 rfl) (od_eqD (pydT (mkI μ)) (pydT (mkI p)) (shapedT_int _) (shapedT_int _) ⟨rfl, rfl⟩)) (congrArg D.bl (eqvT_int _ _))
    · rw [List.map_map, List.map_map]
      exact congrArg D.lst (List.map_congr_left fun μ _ => by show D.bl (decide (mkI (unD (mkD μ)) = mkI p)) = D.bl (decide (mkI μ = mkI p)); rw [unD_mk])
    · rw [Bool.not_eq_false'] at h
      have hm := inM_iff.mp h
      exact we_call C1 (hr.mono (by omega)) (EA.to (ea_cons (ee_v 1 rfl) (ea_cons (ee_v 4 rfl) ea_nil)) ⟨rfl, n, y, p, rfl, v.s_ p hm, v.o_ p hm, rfl, rfl⟩)
    · have : ifp ms x ps = none := by
        rw [e0]
        rw [Bool.not_eq_true'] at h
        show (if inM ms p && brk y p then _ else none) = none
        rw [h]
        rfl
      unfold ifpB at q
      rw [this] at q
      exact wss_one (ws_ret (EE.to ee_bl q))
    · rw [Bool.not_eq_false'] at h
      have hc : (inM ms p && brk y p) = true := h
      have hm := inM_iff.mp (Bool.and_eq_true_iff.mp hc).1
      have hm1 := v.m_ p hm
      have e1 : ifp ms x ps = ifp ms (wm y p.s (p.m - 1)) (ps.drop (i + 1)) := by
        rw [e0]
        show (if inM ms p && brk y p then _ else none) = _
        rw [if_pos hc]
      refine wss_one (ws_set 1 nd (we_call C2 (hr.mono (by omega)) (EA.to (ea_cons (ee_v 1 rfl) (ea_cons (ee_ix ix_tup (ee_v 4 rfl) ee_int (od_ixT rfl ⟨rfl, rfl⟩)) (ea_cons (EE.is (d' := .int ((p.m - 1 : Nat) : Int)) (ee_sub (ee_ix ix_tup (ee_v 4 rfl) ee_int (od_ixT (d := .int (p.m : Int)) rfl ⟨rfl, rfl⟩)) ee_int) (congrArg D.int (by omega))) ea_nil))) ⟨rfl, n, y, p.s, p.m - 1, rfl, v.s_ p hm, hn, wm y p.s (p.m - 1), e1, rfl, ⟨rfl, rfl, rfl, trivial⟩⟩)))
  · subst e
    rw [List.length_map, List.drop_length] at e0
    have e1 : ifp ms x ps = some y := e0
    unfold ifpB at q
    rw [e1] at q
    refine wss_fg hg ?_
    refine wss_one (ws_ret (EE.to (ee_and (EE.is (ee_cmp (op_eqD hr.units) (ee_v 1 rfl) (ee_v 2 rfl) (od_eqD (pydT (moI n y)) (pydT (moI n t)) (shapedT_int _) (shapedT_int _) ⟨rfl, rfl⟩)) ?_) fun _ => we_one (we_call C3 hr (EA.to (ea_cons (ee_v 0 rfl) (ea_cons (ee_v 1 rfl) ea_nil)) ⟨rfl, n, ms, y, rfl, v, hz, rfl, rfl⟩))) q))
    rw [eqvT_int]
    congr 1
    rw [Bool.eq_iff_iff, decide_eq_true_iff]
    exact moI_eq
end
end K46
set_option Elab.async false
set_option linter.all false
set_option maxRecDepth 100000
set_option maxHeartbeats 4000000
namespace K46
open PySem L2 PyProof.Rows DL
/-! ### papers: the plain laws -/
section
variable {ms : List Mk} {n : Nat}
theorem mem_inM {ms : List Mk} {p : Mk} (h : p ∈ ms) : inM ms p = true := inM_iff.mpr h
/-- the program's own paper leads to the greatest fit -/
theorem ifp_fpp (v : Ms n ms) : ∀ (f : Nat) (x : Mo), ifp ms x (fpp ms f x) = some (gf ms f x)
  | 0, x => rfl
  | f + 1, x => by
    cases e : ms.filter (brk x) with
    | nil =>
      have a : fpp ms (f + 1) x = [] := by unfold fpp; rw [e]
      have b : gf ms (f + 1) x = x := by unfold gf; rw [e]
      rw [a, b]
      rfl
    | cons μ l =>
      have a : fpp ms (f + 1) x = μ :: fpp ms f (wm x μ.s (μ.m - 1)) := by
        show (match ms.filter (brk x) with | [] => [] | μ :: _ => μ :: fpp ms f (wm x μ.s (μ.m - 1))) = _
        rw [e]
      have b : gf ms (f + 1) x = gf ms f (wm x μ.s (μ.m - 1)) := by
        show (match ms.filter (brk x) with | [] => x | μ :: _ => gf ms f (wm x μ.s (μ.m - 1))) = _
        rw [e]
      have hm : μ ∈ ms.filter (brk x) := by rw [e]; exact List.mem_cons_self ..
      obtain ⟨c, d⟩ := List.mem_filter.mp hm
      rw [a, b]
      show (if inM ms μ && brk x μ then ifp ms (wm x μ.s (μ.m - 1)) (fpp ms f (wm x μ.s (μ.m - 1))) else none) = _
      rw [mem_inM c, d]
      exact ifp_fpp v f _
/-- where all fits no further mark is broken -/
theorem ifp_more (v : Ms n ms) : ∀ (ps : List Mk) (x y : Mo) (q : Mk), ifp ms x ps = some y → fits ms y → ifp ms x (ps ++ [q]) = none
  | [], x, y, q, h, fy => by
    have h : some x = some y := h
    cases h
    show (if inM ms q && brk x q then ifp ms (wm x q.s (q.m - 1)) [] else none) = none
    by_cases c : inM ms q = true
    · have hb : brk x q = false := by
        have := fitB_iff.mpr fy
        unfold fitB at this
        rw [Bool.not_eq_true', List.any_eq_false] at this
        have := this q (inM_iff.mp c)
        simpa using this
      rw [hb, Bool.and_false]
      rfl
    · rw [show inM ms q = false by simpa using c]
      rfl
  | p :: ps, x, y, q, h, fy => by
    have h : (if inM ms p && brk x p then ifp ms (wm x p.s (p.m - 1)) ps else none) = some y := h
    show (if inM ms p && brk x p then ifp ms (wm x p.s (p.m - 1)) (ps ++ [q]) else none) = none
    by_cases c : (inM ms p && brk x p) = true
    · rw [if_pos c] at h ⊢
      exact ifp_more v ps _ y q h fy
    · rw [if_neg c]
/-- a paper is empty just where all fits -/
theorem fpp_nil (v : Ms n ms) {x : Mo} : fpp ms (msum n x) x = [] ↔ fits ms x := by
  constructor
  · intro h
    have e := ifp_fpp v (msum n x) x
    rw [h] at e
    have e : some x = some (gf ms (msum n x) x) := e
    have g := (gf_ok v (msum n x) x (Nat.le_refl _)).1
    rw [← Option.some.inj e] at g
    exact g
  · intro h
    have e : ms.filter (brk x) = [] := by
      have := fitB_iff.mpr h
      unfold fitB at this
      rw [Bool.not_eq_true', List.any_eq_false] at this
      exact List.filter_eq_nil_iff.mpr this
    cases msum n x with
    | zero => rfl
    | succ f => unfold fpp; rw [e]
theorem fits_ext (v : Ms n ms) {x y : Mo} (e : ∀ j, j < n → x j = y j) (f : fits ms x) : fits ms y := fun μ hμ hm => by
  rw [← e _ (v.s_ μ hμ)] at hm
  rw [← e _ (v.o_ μ hμ)]
  exact f μ hμ hm
/-- what fits below is below the greatest fit, which is one -/
theorem gf_most (v : Ms n ms) (x : Mo) : fits ms (gf ms (msum n x) x) ∧ (∀ j, gf ms (msum n x) x j ≤ x j) ∧ ∀ y, fits ms y → (∀ j, j < n → y j ≤ x j) → ∀ j, j < n → y j ≤ gf ms (msum n x) x j := gf_ok v (msum n x) x (Nat.le_refl _)
theorem gf_same (v : Ms n ms) {x : Mo} : (∀ j, j < n → gf ms (msum n x) x j = x j) ↔ fits ms x := by
  constructor
  · intro e
    exact fits_ext v e (gf_most v x).1
  · intro f j hj
    have a := (gf_most v x).2.1 j
    have b := (gf_most v x).2.2 x f (fun _ _ => Nat.le_refl _) j hj
    omega
/-- a paper without its last mark does not come to what fits -/
theorem ifp_init (v : Ms n ms) : ∀ (f : Nat) (x : Mo), fpp ms f x ≠ [] → ∃ y, ifp ms x (fpp ms f x).dropLast = some y ∧ ¬ fits ms y
  | 0, x, h => absurd rfl h
  | f + 1, x, h => by
    cases e : ms.filter (brk x) with
    | nil => exact absurd (by unfold fpp; rw [e]) h
    | cons μ l =>
      have a : fpp ms (f + 1) x = μ :: fpp ms f (wm x μ.s (μ.m - 1)) := by
        show (match ms.filter (brk x) with | [] => [] | μ :: _ => μ :: fpp ms f (wm x μ.s (μ.m - 1))) = _
        rw [e]
      have hm : μ ∈ ms.filter (brk x) := by rw [e]; exact List.mem_cons_self ..
      obtain ⟨c, d⟩ := List.mem_filter.mp hm
      have nf : ¬ fits ms x := fun z => by
        have := fitB_iff.mpr z
        unfold fitB at this
        rw [Bool.not_eq_true', List.any_eq_false] at this
        exact this μ c d
      rw [a]
      by_cases r : fpp ms f (wm x μ.s (μ.m - 1)) = []
      · rw [r]
        exact ⟨x, rfl, nf⟩
      · obtain ⟨y, hy, ny⟩ := ifp_init v f _ r
        refine ⟨y, ?_, ny⟩
        rw [List.dropLast_cons_of_ne_nil r]
        show (if inM ms μ && brk x μ then ifp ms (wm x μ.s (μ.m - 1)) (fpp ms f (wm x μ.s (μ.m - 1))).dropLast else none) = _
        rw [mem_inM c, d]
        exact hy
end
end K46
set_option Elab.async false
set_option linter.all false
set_option maxRecDepth 100000
set_option maxHeartbeats 4000000
namespace K46
open PySem L2 PyProof.Rows DL
/-! ### an order drawn along with its marks: the plain law of _law_course -/
/-- marks between n sources, told of moments up to here -/
structure Told (n : Nat) (ms : List Mk) (h : Mo) : Prop where
  v : Ms n ms
  m_ : ∀ μ ∈ ms, μ.m ≤ h μ.s
  t_ : ∀ μ ∈ ms, 1 ≤ μ.t ∧ μ.t ≤ h μ.o
section
variable {ms ns : List Mk} {n : Nat}
theorem Run.grow {h t : Mo} {ks : List Nat} (r : Run ms n h ks t) : (∀ μ ∈ ns, t μ.s < μ.m) → Run (ms ++ ns) n h ks t := by
  induction r with
  | nil e => intro _; exact .nil e
  | @cons h t k ks hk nx r ih =>
    intro hn
    refine .cons hk (fun μ hμ a b => ?_) (ih hn)
    rcases List.mem_append.mp hμ with c | c
    · exact nx μ c a b
    · have := hn μ c
      have l := r.le k hk
      rw [stp_same] at l
      rw [a] at this
      omega
/-- one step more, with marks of what was there -/
theorem Run.told {h : Mo} {ks : List Nat} {k : Nat} (T : Told n ms h) (r : Run ms n z0 ks h) (hk : k < n) (hs : ∀ μ ∈ ns, μ.s = k ∧ μ.m = h k + 1 ∧ μ.o < n ∧ μ.o ≠ k ∧ 1 ≤ μ.t ∧ μ.t ≤ h μ.o) : Told n (ms ++ ns) (stp h k) ∧ Run (ms ++ ns) n z0 (ks ++ [k]) (stp h k) := by
  have v2 : Ms n (ms ++ ns) := ⟨fun μ hμ => ?_, fun μ hμ => ?_, fun μ hμ => ?_, fun μ hμ => ?_⟩
  · refine ⟨⟨v2, fun μ hμ => ?_, fun μ hμ => ?_⟩, Run.snoc v2 (r.grow fun μ hμ => ?_) hk fun μ hμ a b => ?_⟩
    · rcases List.mem_append.mp hμ with c | c
      · exact Nat.le_trans (T.m_ μ c) (stp_le _)
      · obtain ⟨a1, a2, _⟩ := hs μ c
        rw [a1, stp_same, a2]
        exact Nat.le_refl _
    · rcases List.mem_append.mp hμ with c | c
      · exact ⟨(T.t_ μ c).1, Nat.le_trans (T.t_ μ c).2 (stp_le _)⟩
      · obtain ⟨_, _, _, _, a5, a6⟩ := hs μ c
        exact ⟨a5, Nat.le_trans a6 (stp_le _)⟩
    · obtain ⟨a1, a2, _⟩ := hs μ hμ
      rw [a1, a2]
      exact Nat.lt_succ_self _
    · rcases List.mem_append.mp hμ with c | c
      · have := T.m_ μ c
        rw [a] at this
        omega
      · obtain ⟨_, _, _, _, _, a6⟩ := hs μ c
        exact a6
  · rcases List.mem_append.mp hμ with c | c
    · exact T.v.s_ μ c
    · rw [(hs μ c).1]; exact hk
  · rcases List.mem_append.mp hμ with c | c
    · exact T.v.o_ μ c
    · exact (hs μ c).2.2.1
  · rcases List.mem_append.mp hμ with c | c
    · exact T.v.ne μ c
    · rw [(hs μ c).1]; exact fun z => (hs μ c).2.2.2.1 z.symm
  · rcases List.mem_append.mp hμ with c | c
    · exact T.v.m_ μ c
    · rw [(hs μ c).2.1]; exact Nat.succ_le_succ (Nat.zero_le _)
end
end K46
set_option Elab.async false
set_option linter.all false
set_option maxRecDepth 100000
set_option maxHeartbeats 4000000
namespace K46
open PySem L2 PyProof.Rows DL
/-! ### _law_course -/
def forBody : Stmt → List Stmt
  | .For _ _ b _ _ => b
  | _ => []
theorem sum_moI (n : Nat) (L : Mo) : (moI n L).sum = (msum n L : Int) := by
  unfold moI msum left
  have : ∀ l : List Nat, (l.map fun j => (L j : Int)).sum = ((l.map fun j => L j - z0 j).sum : Nat) := by
    intro l
    induction l with
    | nil => rfl
    | cons a l ih =>
      rw [List.map_cons, List.sum_cons, List.map_cons, List.sum_cons, ih]
      have : L a - z0 a = L a := rfl
      omega
  exact this _
theorem moI_set {n : Nat} {h : Mo} {k : Nat} (hk : k < n) : ((moI n h).map D.int).set k (.int ((h k : Int) + 1)) = (moI n (stp h k)).map D.int := by
  apply List.ext_getElem?
  intro i
  rw [List.getElem?_set, List.length_map, moI_len]
  by_cases e : k = i
  · subst e
    rw [if_pos rfl, if_pos hk, List.getElem?_map, moI_at hk, stp_same]
    show some (D.int ((h k : Int) + 1)) = some (D.int ((h k + 1 : Nat) : Int))
    congr 2
  · rw [if_neg e, List.getElem?_map, List.getElem?_map]
    by_cases hi : i < n
    · rw [moI_at hi, moI_at hi, stp_ne (Ne.symm e)]
    · rw [List.getElem?_eq_none (by rw [moI_len]; omega), List.getElem?_eq_none (by rw [moI_len]; omega)]
theorem ixN_nat {n j : Nat} (h : j < n) : ixN n (j : Int) = some j := by
  unfold ixN
  rw [if_pos (by omega), if_pos (by omega), Int.toNat_natCast]
def rdy (n : Nat) (h L : Mo) : List Nat := (List.range n).filter fun k => decide (h k < L k)
theorem rdy_D {n : Nat} {h t : Mo} : ((rngD 0 n).filter fun d => decide (h (intOf d).toNat < t (intOf d).toNat)).map (fun d => d) = (nI (rdy n h t)).map D.int := by
  rw [List.map_id']
  unfold rdy rngD nI
  rw [List.filter_map, List.map_map]
  have e : (List.range n).filter ((fun d => decide (h (intOf d).toNat < t (intOf d).toNat)) ∘ fun (i : Nat) => D.int (0 + (i : Int))) = (List.range n).filter fun k => decide (h k < t k) := List.filter_congr fun k _ => by
    show decide (h (0 + (k : Int)).toNat < t (0 + (k : Int)).toNat) = _
    rw [show (0 + (k : Int)).toNat = k by omega]
  rw [e]
  refine List.map_congr_left fun k _ => ?_
  show D.int (0 + (k : Int)) = D.int (k : Int)
  rw [Int.zero_add]
theorem rdy_ne {n : Nat} {h L : Mo} (hl : 0 < left n h L) : rdy n h L ≠ [] := fun z => by
  have : ∀ j, j < n → L j - h j = 0 := fun j hj => by
    have := List.filter_eq_nil_iff.mp z j (List.mem_range.mpr hj)
    simp only [decide_eq_true_eq] at this
    omega
  unfold left at hl
  rw [List.map_congr_left (g := fun _ => 0) fun j hj => this j (List.mem_range.mp hj)] at hl
  have z : ∀ l : List Nat, (l.map fun _ => 0).sum = 0 := by
    intro l
    induction l with
    | nil => rfl
    | cons a l ih => rw [List.map_cons, List.sum_cons, ih]
  rw [z] at hl
  exact absurd hl (by decide)
theorem Bx.upd {M : Mem} {p c a : Addr} {o : Option MO} (h : Bx M p c) (h1 : a ≠ p) (h2 : a ≠ c) : Bx (updM M a o) p c := by
  obtain ⟨cs, x, y, hp, hc, r⟩ := h
  exact ⟨cs, x, y, by rw [updM_ne (Ne.symm h1)]; exact hp, by rw [updM_ne (Ne.symm h2)]; exact hc, r⟩
theorem Bx.new {M : Mem} {p c a : Addr} (h : Bx M p c) (ha : M a = none) : a ≠ p ∧ a ≠ c := by
  obtain ⟨cs, x, y, hp, hc, r⟩ := h
  exact ⟨fun z => (by rw [z, hp] at ha; cases ha), fun z => (by rw [z, hc] at ha; cases ha)⟩
/-- what one step adds -/
def NewM (n : Nat) (h : Mo) (k : Nat) (ns : List Mk) : Prop := ∀ μ ∈ ns, μ.s = k ∧ μ.m = h k + 1 ∧ μ.o < n ∧ μ.o ≠ k ∧ 1 ≤ μ.t ∧ μ.t ≤ h μ.o
end K46
set_option Elab.async false
set_option linter.all false
set_option maxRecDepth 100000
set_option maxHeartbeats 4000000
namespace K46
open PySem L2 PyProof.Rows DL
section
variable {P : Program} {w : World} {K : PySem.W.Frag} {mg : Str → Option Value} {base : Heap}
abbrev stepB : List Stmt := forBody ((defBody s_law_course).getD 1 (.Pass ⟨0, 0, 0, 0⟩))
abbrev XC (P : Program) (w : World) (K : PySem.W.Frag) (mg : Str → Option Value) (base : Heap) (f : Addr) (cdv : Value) (A : Around) (outer : List Env) (s : Shared) (H : Hp) (E : XK) : Cx := (cxOf CX0 P w K mg base ["box", "lasts", "here", "marks", "left", "step", "ready", "k", "other"] "_law_course" (defScope s_law_course) f cdv A outer s H E).nox
/-- one step: its transaction, and the marks of what was there -/
theorem c_step {f : Addr} {cdv : Value} {A : Around} {outer : List Env} {s : Shared} {H : Hp} {E : XK} {M : Mem} {ED : EndsD} {n : Nat} {h L : Mo} {ms : List Mk} {p c ph pm : Addr} (B : Blt mg) (C1 : Cal P w K mg base 2 "_law_draw" 2 S_draw) (hr : Room 2 (XC P w K mg base f cdv A outer s H E).A) (hn : n ≤ 4) (hB : Bx M p c) (a1 : ph ≠ p) (a2 : ph ≠ c) (a3 : pm ≠ p) (a4 : pm ≠ c) (a5 : ph ≠ pm) (hh : M ph = some (.lst ((moI n h).map .int))) (hm : M pm = some (.lst (ms.map mkD))) (hml : ms.length < 1000) (hl : 0 < left n h L) (hb4 : ∀ j, j < n → h j ≤ 100)
    (q : ∀ (k : Nat) (ns : List Mk) (M1 : Mem) (sg1 : Sg), k < n → h k < L k → NewM n h k ns → ns.length ≤ n → Bx M1 p c → M1 ph = some (.lst ((moI n (stp h k)).map .int)) → M1 pm = some (.lst ((ms ++ ns).map mkD)) → Fg [some (.ptr p), some (moD n L), some (.ptr ph), some (.ptr pm), none, none, none, none, none] sg1 → ED.nx sg1 M1) :
    WSs (XC P w K mg base f cdv A outer s H E) stepB [some (.ptr p), some (moD n L), some (.ptr ph), some (.ptr pm), none, none, none, none, none] M ED := by
  have nd := sc_law_course.nd
  have lnL : ((moI n L).map D.int).length = n := by rw [List.length_map, moI_len]
  have lr : (rngD 0 n).length < sizeLine := by rw [rngD_len]; exact lt_i (by omega)
  refine wss_cons (ws_setLcE 6 [("k", 7)] rfl nd (wi_rng1 B.range (EA.to (ea_cons (ee_cb call_len B.len bi_len (ea_cons (ee_v 1 rfl) ea_nil) (cd_lenT ⟨rfl, rfl⟩)) ea_nil) ⟨(((moI n L).map D.int).length : Int), rfl, by omega, by omega, by rw [lnL, Int.toNat_natCast], rfl, trivial⟩)) (LcOk.to (ok_lc1if (ds := rngD 0 n) 7 (fun d => decide (h (intOf d).toNat < L (intOf d).toNat)) (fun d => d) rfl nd lr (fun j d hd s H C cl fp => ?_) fun j d hd _ s H C cl fp => ee_v 7 rfl) ?_))
  · obtain ⟨hj, rfl⟩ := rngD_at hd
    rw [Int.zero_add]
    show ET _ _ _ _ (decide (h ((j : Int)).toNat < L ((j : Int)).toNat))
    rw [Int.toNat_natCast]
    exact ET.is (et_lt (ee_ix ix_list (ee_v 2 rfl) (ee_v 7 rfl) (od_ixL (.inr ⟨ph, rfl, hh⟩) (moD_at hj) ⟨rfl, rfl⟩)) (ee_ix ix_tup (ee_v 1 rfl) (ee_v 7 rfl) (od_ixT (moD_at hj) ⟨rfl, rfl⟩))) (decide_eq_decide.mpr (by omega))
  rw [rdy_D]
  have hne := rdy_ne hl
  have lrd : ((nI (rdy n h L)).map D.int).length = (rdy n h L).length := by unfold nI; rw [List.length_map, List.length_map]
  have lrd4 : (rdy n h L).length ≤ n := by unfold rdy; have := List.length_filter_le (fun k => decide (h k < L k)) (List.range n); rw [List.length_range] at this; exact this
  have lrd0 : 0 < (rdy n h L).length := List.length_pos_iff.mpr hne
  refine wss_cons (ws_set 7 nd (we_ix ix_list (Qa := fun d M1 => d = .lst ((nI (rdy n h L)).map .int) ∧ M1 = M) (EE.to (ee_v 6 rfl) ⟨rfl, rfl⟩) fun x M1 ⟨e1, e2⟩ => ?_))
  subst e1; subst e2
  refine we_call C1 hr (EA.to (ea_cons (ee_v 0 rfl) (ea_cons (ee_cb call_len B.len bi_len (ea_cons (ee_v 6 rfl) ea_nil) (cd_lenL (.inl rfl) ⟨rfl, rfl⟩)) ea_nil)) ⟨rfl, p, c, _, rfl, hB, by omega, by omega, fun r M2 r0 r1 hB2 hE2 => ?_⟩)
  obtain ⟨r, rfl⟩ : ∃ j : Nat, r = (j : Int) := ⟨r.toNat, by omega⟩
  have hrl : r < (rdy n h L).length := by omega
  obtain ⟨k, hk⟩ : ∃ k, (rdy n h L)[r]? = some k := ⟨_, List.getElem?_eq_getElem hrl⟩
  have hk2 := List.mem_filter.mp (List.mem_of_getElem? hk)
  have hkn : k < n := List.mem_range.mp hk2.1
  have hkl : h k < L k := of_decide_eq_true hk2.2
  refine od_ixL (d := .int (k : Int)) (.inl rfl) (atI_nat (by unfold nI; rw [List.getElem?_map, List.getElem?_map, hk]; rfl)) ?_
  have hh2 := (hE2 ph a1 a2).trans hh
  have hm2 := (hE2 pm a3 a4).trans hm
  show WSs _ _ [some (.ptr p), some (moD n L), some (.ptr ph), some (.ptr pm), none, none, some (.lst ((nI (rdy n h L)).map .int)), some (.int (k : Int)), none] _ _
  refine wss_cons (ws_sub set_list (EE.to (ee_add (ee_ix ix_list (ee_v 2 rfl) (ee_v 7 rfl) (od_ixL (.inr ⟨ph, rfl, hh2⟩) (moD_at hkn) ⟨rfl, rfl⟩)) ee_int) (EE.to (ee_v 2 rfl) (EE.to (ee_v 7 rfl) (sd_setL hh2 (ixN_nat (by rw [List.length_map, moI_len]; exact hkn)) ?_)))))
  rw [moI_set hkn]
  have hB3 := hB2.upd (o := some (.lst ((moI n (stp h k)).map .int))) a1 a2
  have hh3 : (updM M2 ph (some (.lst ((moI n (stp h k)).map .int)))) ph = some (.lst ((moI n (stp h k)).map .int)) := updM_same
  have hm3 : (updM M2 ph (some (.lst ((moI n (stp h k)).map .int)))) pm = some (.lst (ms.map mkD)) := by rw [updM_ne (Ne.symm a5)]; exact hm2
  generalize updM M2 ph (some (.lst ((moI n (stp h k)).map .int))) = M3 at hB3 hh3 hm3 ⊢
  refine wss_one (ws_for PassesOwn.never rfl (Qi := fun es C M0 => es = rngD 0 n ∧ M0 = M3 ∧ ∀ M1, C M1) (wi_rng1 B.range (EA.to (ea_cons (ee_cb call_len B.len bi_len (ea_cons (ee_v 1 rfl) ea_nil) (cd_lenT ⟨rfl, rfl⟩)) ea_nil) ⟨(((moI n L).map D.int).length : Int), rfl, by omega, by omega, by rw [lnL, Int.toNat_natCast], rfl, fun _ => trivial⟩)) fun es C M0 ⟨e1, e2, hC⟩ => ?_)
  subst e1; subst e2
  refine ⟨fun i sg1 M1 => ∃ ns : List Mk, ns.length ≤ i ∧ i ≤ n ∧ NewM n h k ns ∧ Bx M1 p c ∧ M1 ph = some (.lst ((moI n (stp h k)).map .int)) ∧ M1 pm = some (.lst ((ms ++ ns).map mkD)) ∧ Fg [some (.ptr p), some (moD n L), some (.ptr ph), some (.ptr pm), none, none, none, some (.int (k : Int)), none] sg1, ⟨[], Nat.zero_le _, Nat.zero_le _, fun μ hμ => (by cases hμ), hB3, hh3, by rw [List.append_nil]; exact hm3, ⟨rfl, rfl, rfl, rfl, rfl, trivial⟩⟩, fun i sg1 M1 _ => hC _, fun i d sg1 M1 he ⟨ns, hnl, hi, hN, hB4, hh4, hm4, hg⟩ => ?_, fun sg1 M1 ⟨ns, hnl, hi, hN, hB4, hh4, hm4, hg⟩ => ?_⟩
  · obtain ⟨hj, rfl⟩ := rngD_at he
    refine ⟨_, _, wg_name 8 nd, wss_fg (fg_set hg 8 _) ?_⟩
    rw [Int.zero_add]
    have no : ∀ (M5 : Mem), Bx M5 p c → Els M1 M5 p c → ∃ ns : List Mk, ns.length ≤ i + 1 ∧ i + 1 ≤ n ∧ NewM n h k ns ∧ Bx M5 p c ∧ M5 ph = some (.lst ((moI n (stp h k)).map .int)) ∧ M5 pm = some (.lst ((ms ++ ns).map mkD)) ∧ Fg [some (.ptr p), some (moD n L), some (.ptr ph), some (.ptr pm), none, none, none, some (.int (k : Int)), none] [some (.ptr p), some (moD n L), some (.ptr ph), some (.ptr pm), none, none, none, some (.int (k : Int)), some (.int (i : Int))] := fun M5 hB5 hE5 => ⟨ns, by omega, by omega, hN, hB5, (hE5 ph a1 a2).trans hh4, (hE5 pm a3 a4).trans hm4, ⟨rfl, rfl, rfl, rfl, rfl, trivial⟩⟩
    refine wss_one (ws_if (ww_pt (ww_and ((et_neI (ee_v 8 rfl) (ee_v 7 rfl)).imp fun b M5 ⟨e1, e2⟩ => ?_))))
    subst e1; subst e2
    refine ⟨fun e => ⟨fun h => absurd h Bool.false_ne_true, fun _ => wss_nil (no _ hB4 (Els.refl _ _ _))⟩, fun e => ?_⟩
    have hik : i ≠ k := fun z => by subst z; simp at e
    refine ww_and ((et_gt (ee_ix ix_list (ee_v 2 rfl) (ee_v 8 rfl) (od_ixL (.inr ⟨ph, rfl, hh4⟩) (moD_at hj) ⟨rfl, rfl⟩)) ee_int).imp fun b M6 ⟨e1, e2⟩ => ?_)
    subst e1; subst e2
    refine ⟨fun e => ⟨fun h => absurd h Bool.false_ne_true, fun _ => wss_nil (no _ hB4 (Els.refl _ _ _))⟩, fun e => ?_⟩
    have hpos := of_decide_eq_true e
    rw [stp_ne hik] at hpos
    refine ww_and1 (wt_cmp op_eq (Qa := fun d M7 => ∃ x : Int, d = .int x ∧ Bx M7 p c ∧ Els M6 M7 p c) (we_call C1 hr (EA.to (ea_cons (ee_v 0 rfl) (ea_cons ee_int ea_nil)) ⟨rfl, p, c, 3, rfl, hB4, by decide, by decide, fun x M7 _ _ hB7 hE7 => ⟨x, rfl, hB7, hE7⟩⟩)) fun y M7 ⟨x, e1, hB7, hE7⟩ => EE.to ee_int ?_)
    subst e1
    refine od_eqI ⟨_, rfl, fun _ => ?_, fun _ => wss_nil (no _ hB7 hE7)⟩
    have hh7 := (hE7 ph a1 a2).trans hh4
    have hm7 := (hE7 pm a3 a4).trans hm4
    have hat : atI ((moI n (stp h k)).map D.int) (i : Int) = some (.int (h i : Int)) := by rw [moD_at hj, stp_ne hik]
    refine wss_one (ws_expr (we_bm PySem.F.plainAttrs_list PySem.F.slot_list_append PySem.F.type_list_append mt_append (EE.to (ee_v 3 rfl) ⟨ty_lst (.inr ⟨pm, rfl, hm7⟩), wa_cons (we_tup (wa_cons (EE.to (ee_v 7 rfl) (wa_cons (EE.to (ee_ix ix_list (ee_v 2 rfl) (ee_v 7 rfl) (od_ixL (.inr ⟨ph, rfl, hh7⟩) (moD_at hkn) ⟨rfl, rfl⟩)) (wa_cons (EE.to (ee_v 8 rfl) (wa_cons (we_op op_add (Qa := fun d M8 => d = .int 1 ∧ M8 = M7) ee_int fun x M8 ⟨e1, e2⟩ => ?_)))))))))⟩)))
    subst e1; subst e2
    refine we_call C1 hr (EA.to (ea_cons (ee_v 0 rfl) (ea_cons (ee_ix ix_list (ee_v 2 rfl) (ee_v 8 rfl) (od_ixL (.inr ⟨ph, rfl, hh7⟩) hat ⟨rfl, rfl⟩)) ea_nil)) ⟨rfl, p, c, _, rfl, hB7, hpos, by have := hb4 i hj; omega, fun t M9 t0 t1 hB9 hE9 => od_I0 (wa_nil ⟨by exact small30, wa_nil (md_append ((hE9 pm a3 a4).trans hm7) (by rw [List.length_map, List.length_append]; exact lt_i (by omega)) ?_)⟩)⟩)
    obtain ⟨t, rfl⟩ : ∃ j : Nat, t = (j : Int) := ⟨t.toNat, by omega⟩
    refine ⟨ns ++ [⟨k, h k + 1, i, 1 + t⟩], by rw [List.length_append]; show ns.length + 1 ≤ _; omega, by omega, fun μ hμ => ?_, hB9.upd a3 a4, by rw [updM_ne a5]; exact (hE9 ph a1 a2).trans hh7, ?_, ⟨rfl, rfl, rfl, rfl, rfl, trivial⟩⟩
    · rcases List.mem_append.mp hμ with z | z
      · exact hN μ z
      · rw [List.mem_singleton.mp z]
        exact ⟨rfl, rfl, hj, hik, by show 1 ≤ 1 + t; omega, by show 1 + t ≤ h i; omega⟩
    · rw [updM_same, ← List.append_assoc, List.map_append (l₂ := [_])]
      congr 3
      show [D.tup [.int (k : Int), .int ((stp h k k : Nat) : Int), .int (i : Int), .int (1 + (t : Int))]] = [D.tup [.int (k : Int), .int ((h k + 1 : Nat) : Int), .int (i : Int), .int ((1 + t : Nat) : Int)]]
      rw [stp_same, show (1 : Int) + (t : Int) = ((1 + t : Nat) : Int) by omega]
  · rw [rngD_len] at hnl
    exact q k ns M1 sg1 hkn hkl hN hnl hB4 hh4 hm4 (fg_trans (by exact ⟨rfl, rfl, rfl, rfl, trivial⟩) hg)
end
end K46
set_option Elab.async false
set_option linter.all false
set_option maxRecDepth 100000
set_option maxHeartbeats 4000000
namespace K46
open PySem L2 PyProof.Rows DL
theorem left_zero {n : Nat} {h L : Mo} (hl : left n h L = 0) (hle : ∀ j, j < n → h j ≤ L j) : ∀ j, j < n → h j = L j := fun j hj => by
  by_cases e : h j = L j
  · exact e
  · have := left_pos (n := n) (h := h) (t := L) hj (by have := hle j hj; omega)
    omega
section
variable {P : Program} {w : World} {K : PySem.W.Frag} {mg : Str → Option Value} {base : Heap}
def S_course : SpD := fun ds M Q => ∃ (p c : Addr) (n : Nat) (L : Mo), ds = [.ptr p, moD n L] ∧ Bx M p c ∧ 1 ≤ n ∧ n ≤ 4 ∧ (∀ j, j < n → L j ≤ 4) ∧ msum n L ≤ 16 ∧ ∀ ms M', Told n ms L → (∃ ks, Run ms n z0 ks L) → ms.length ≤ 64 → Bx M' p c → Q (msD ms) M'
theorem d_course (F : Df K mg "_law_course" s_law_course ["box", "lasts"]) (B : Blt mg) (C1 : Cal P w K mg base 2 "_law_draw" 2 S_draw) : Cal P w K mg base 3 "_law_course" 2 S_course := by
  refine dfn' F sc_law_course rfl fun f cdv A outer s H E ds M Q hr hl hs => ?_
  obtain ⟨p, c, n, L, rfl, hB, n0, n1, hL, hS, q⟩ := hs
  have nd := sc_law_course.nd
  have lnL : ((moI n L).map D.int).length = n := by rw [List.length_map, moI_len]
  refine wss_cons (ws_asg (we_tup (wa_cons (ee_op op_rep (ee_lst (ea_cons ee_int ea_nil)) (ee_cb call_len B.len bi_len (ea_cons (ee_v 1 rfl) ea_nil) (cd_lenT ⟨rfl, rfl⟩)) (od_repM (.inl rfl) (by omega) (by omega) (by rw [lnL, Int.toNat_natCast]; exact small_i (show 1 * n < 100000 by omega)) fun ph hph => wa_cons (we_lstM (wa_nil ⟨by exact small30, fun pm hpm => wa_cons (EE.to (ee_ct call_list_of B.list bi_list (ea_cons (ee_v 1 rfl) ea_nil) (cd_lst (.inl rfl) ⟨rfl, rfl⟩)) (wa_nil ⟨by exact small30, _, _, wg_tup rfl (wgs_cons (wg_name 2 nd) (wgs_cons (wg_name 3 nd) (wgs_cons (wg_name 4 nd) wgs_nil))), ?_⟩))⟩)))))))
  rw [lnL, Int.toNat_natCast, rep_moI] at hpm ⊢
  obtain ⟨a1, a2⟩ := hB.new hph
  have hB1 := hB.upd (o := some (.lst ((moI n z0).map .int))) a1 a2
  obtain ⟨a3, a4⟩ := hB1.new hpm
  have a5 : ph ≠ pm := fun z => by subst z; rw [updM_same] at hpm; cases hpm
  have hB2 := hB1.upd (o := some (.lst ([] : List D))) a3 a4
  have hh0 : (updM (updM M ph (some (.lst ((moI n z0).map .int)))) pm (some (.lst []))) ph = some (.lst ((moI n z0).map .int)) := by rw [updM_ne a5, updM_same]
  have hm0 : (updM (updM M ph (some (.lst ((moI n z0).map .int)))) pm (some (.lst []))) pm = some (.lst (([] : List Mk).map mkD)) := updM_same
  generalize updM (updM M ph (some (.lst ((moI n z0).map .int)))) pm (some (.lst [])) = M2 at hB2 hh0 hm0 ⊢
  refine wss_cons (ws_for PassesOwn.never rfl (Qi := fun es C M0 => es = rngD 0 (msum n L) ∧ M0 = M2 ∧ ∀ M1, C M1) (wi_rng1 B.range (EA.to (ea_cons (ee_cb (cr_sumT rfl) B.sum bi_sum (ea_cons (ee_v 1 rfl) ea_nil) (cd_sumT (ns := moI n L) ⟨rfl, rfl⟩)) ea_nil) ⟨(moI n L).sum, rfl, by rw [sum_moI]; omega, by rw [sum_moI]; omega, by rw [sum_moI, Int.toNat_natCast], rfl, fun _ => trivial⟩)) fun es C M0 ⟨e1, e2, hC⟩ => ?_)
  subst e1; subst e2
  refine ⟨fun i sg1 M1 => ∃ (h : Mo) (ms : List Mk), (∀ j, j < n → h j ≤ L j) ∧ left n h L + i = msum n L ∧ Told n ms h ∧ (∃ ks, Run ms n z0 ks h) ∧ ms.length ≤ 4 * i ∧ Bx M1 p c ∧ M1 ph = some (.lst ((moI n h).map .int)) ∧ M1 pm = some (.lst (ms.map mkD)) ∧ Fg [some (.ptr p), some (moD n L), some (.ptr ph), some (.ptr pm), none, none, none, none, none] sg1, ⟨z0, [], fun _ _ => Nat.zero_le _, rfl, ⟨⟨fun μ h => (by cases h), fun μ h => (by cases h), fun μ h => (by cases h), fun μ h => (by cases h)⟩, fun μ h => (by cases h), fun μ h => (by cases h)⟩, ⟨[], .nil fun _ _ => rfl⟩, Nat.zero_le _, hB2, hh0, hm0, ⟨rfl, rfl, rfl, rfl, trivial⟩⟩, fun i sg1 M1 _ => hC _, fun i d sg1 M1 he ⟨h, ms, e1, e2, T, ⟨ks, r⟩, e3, hB3, hh3, hm3, hg⟩ => ?_, fun sg1 M1 ⟨h, ms, e1, e2, T, ⟨ks, r⟩, e3, hB3, hh3, hm3, hg⟩ => ?_⟩
  · obtain ⟨hj, rfl⟩ := rngD_at he
    refine ⟨_, _, wg_name 5 nd, wss_fg (fg_trans (a := [some (.ptr p), some (moD n L), some (.ptr ph), some (.ptr pm), none, none, none, none, none]) (b := [some (.ptr p), some (moD n L), some (.ptr ph), some (.ptr pm), none, some _, none, none, none]) (by exact ⟨rfl, rfl, rfl, rfl, trivial⟩) (fg_set hg 5 _)) ?_⟩
    refine c_step B C1 hr n1 hB3 a1 a2 a3 a4 a5 hh3 hm3 (by omega) (by omega) (fun j hj => by have := e1 j hj; have := hL j hj; omega) fun k ns M4 sg2 hk hkl hN hnl hB4 hh4 hm4 hg2 => ?_
    obtain ⟨T2, r2⟩ := r.told T hk hN
    refine ⟨stp h k, ms ++ ns, fun j hj => ?_, by have := left_one (n := n) hk hkl; omega, T2, ⟨_, r2⟩, by rw [List.length_append]; omega, hB4, hh4, hm4, hg2⟩
    unfold stp
    by_cases z : j = k
    · rw [if_pos z, z]; omega
    · rw [if_neg z]; exact e1 j hj
  · rw [rngD_len] at e2 e3
    have hz := left_zero (n := n) (h := h) (L := L) (by omega) e1
    refine wss_fg hg ?_
    refine wss_one (ws_ret (EE.to (ee_ct call_tuple_of B.tuple bi_tuple (ea_cons (ee_v 3 rfl) ea_nil) (cd_tupL (.inr ⟨pm, rfl, hm3⟩) ⟨rfl, rfl⟩)) (q ms M1 ⟨T.v, fun μ hμ => ?_, fun μ hμ => ?_⟩ ⟨ks, r.ext T.v (fun _ _ => rfl) hz⟩ (by omega) hB3)))
    · rw [← hz _ (T.v.s_ μ hμ)]; exact T.m_ μ hμ
    · rw [← hz _ (T.v.o_ μ hμ)]; exact T.t_ μ hμ
end
end K46
set_option Elab.async false
set_option linter.all false
set_option maxRecDepth 100000
set_option maxHeartbeats 4000000
namespace K46
open PySem L2 PyProof.Rows DL
/-! ### the plain law of _law_reached: by levels, each moment with its least order -/
abbrev tupD (w : List Nat) : D := .tup ((nI w).map .int)
abbrev KW := List (List Int × List Nat)
def dkv (kvs : KW) : List (List Int × D) := kvs.map fun p => (p.1, tupD p.2)
def get (kvs : KW) (k : List Int) : Option (List Nat) := (kvs.find? fun p => decide (p.1 = k)).map (·.2)
def put (kvs : KW) (k : List Int) (w : List Nat) : KW := if kvs.any (fun p => decide (p.1 = k)) then kvs.map fun p => if p.1 = k then (p.1, w) else p else kvs ++ [(k, w)]
theorem get_cons (p : List Int × List Nat) (kvs : KW) (k : List Int) : get (p :: kvs) k = if p.1 = k then some p.2 else get kvs k := by
  unfold get
  rw [List.find?_cons]
  by_cases e : p.1 = k
  · rw [if_pos e, decide_eq_true e]; rfl
  · rw [if_neg e, decide_eq_false e]
theorem gt_dkv (k : List Int) : ∀ kvs : KW, gt (dkv kvs) k = (get kvs k).map tupD
  | [] => rfl
  | p :: kvs => by
    rw [get_cons]
    have ih := gt_dkv k kvs
    unfold gt at ih ⊢
    show Option.map _ (List.find? _ ((p.1, tupD p.2) :: dkv kvs)) = _
    rw [List.find?_cons]
    by_cases e : p.1 = k
    · rw [if_pos e, decide_eq_true e]; rfl
    · rw [if_neg e, decide_eq_false e]
      exact ih
theorem any_get (k : List Int) : ∀ kvs : KW, (kvs.any fun p => decide (p.1 = k)) = (get kvs k).isSome
  | [] => rfl
  | p :: kvs => by
    rw [List.any_cons, get_cons, any_get k kvs]
    by_cases e : p.1 = k
    · rw [if_pos e, decide_eq_true e]; rfl
    · rw [if_neg e, decide_eq_false e, Bool.false_or]
theorem pt_dkv (kvs : KW) (k : List Int) (w : List Nat) : pt (dkv kvs) k (tupD w) = dkv (put kvs k w) := by
  have ha : ((dkv kvs).any fun p => decide (p.1 = k)) = kvs.any fun p => decide (p.1 = k) := by
    unfold dkv
    rw [List.any_map]
    rfl
  unfold pt put
  rw [ha]
  by_cases c : (kvs.any fun p => decide (p.1 = k)) = true
  · rw [if_pos c, if_pos c]
    unfold dkv
    rw [List.map_map, List.map_map]
    refine List.map_congr_left fun p _ => ?_
    show (if p.1 = k then (p.1, tupD w) else (p.1, tupD p.2)) = _
    show _ = ((if p.1 = k then (p.1, w) else p).1, tupD (if p.1 = k then (p.1, w) else p).2)
    by_cases e : p.1 = k
    · rw [if_pos e, if_pos e]
    · rw [if_neg e, if_neg e]
  · rw [if_neg c, if_neg c]
    unfold dkv
    rw [List.map_append]
    rfl
theorem get_rep (k k' : List Int) (w : List Nat) : ∀ kvs : KW, get (kvs.map fun p => if p.1 = k then (p.1, w) else p) k' = if k = k' ∧ (get kvs k').isSome = true then some w else get kvs k'
  | [] => by
    rw [if_neg]
    · rfl
    · intro ⟨_, h⟩; cases h
  | p :: kvs => by
    rw [List.map_cons, get_cons, get_cons, get_rep k k' w kvs]
    by_cases e : p.1 = k
    · rw [if_pos e]
      show (if p.1 = k' then some w else _) = _
      by_cases e2 : p.1 = k'
      · rw [if_pos e2, if_pos e2, if_pos ⟨e.symm.trans e2, rfl⟩]
      · rw [if_neg e2, if_neg e2]
    · rw [if_neg e]
      by_cases e2 : p.1 = k'
      · rw [if_pos e2, if_pos e2, if_neg fun z => e (e2.trans z.1.symm)]
      · rw [if_neg e2, if_neg e2]
theorem get_snoc (k k' : List Int) (w : List Nat) : ∀ kvs : KW, get (kvs ++ [(k, w)]) k' = match get kvs k' with | some x => some x | none => if k = k' then some w else none
  | [] => by
    show get [(k, w)] k' = if k = k' then some w else none
    rw [get_cons]
    rfl
  | p :: kvs => by
    rw [List.cons_append, get_cons, get_cons, get_snoc k k' w kvs]
    by_cases e : p.1 = k'
    · rw [if_pos e, if_pos e]
    · rw [if_neg e, if_neg e]
theorem get_put (kvs : KW) (k k' : List Int) (w : List Nat) : get (put kvs k w) k' = if k = k' then some w else get kvs k' := by
  unfold put
  rw [any_get]
  by_cases c : (get kvs k).isSome = true
  · rw [if_pos c, get_rep]
    by_cases e : k = k'
    · rw [if_pos e, if_pos ⟨e, by rw [← e]; exact c⟩]
    · rw [if_neg e, if_neg fun z => e z.1]
  · rw [if_neg c, get_snoc]
    by_cases e : k = k'
    · rw [if_pos e, if_pos e, ← e]
      cases h : get kvs k with
      | none => rfl
      | some x => rw [h] at c; exact absurd rfl c
    · rw [if_neg e, if_neg e]
      cases get kvs k' <;> rfl
theorem put_len (kvs : KW) (k : List Int) (w : List Nat) : (put kvs k w).length ≤ kvs.length + 1 := by
  unfold put
  split
  · rw [List.length_map]; omega
  · rw [List.length_append]; exact Nat.le_refl _
theorem put_len_old {kvs : KW} {k : List Int} {w w0 : List Nat} (h : get kvs k = some w0) : (put kvs k w).length = kvs.length := by
  unfold put
  rw [any_get, h, if_pos (show (some w0).isSome = true from rfl), List.length_map]
theorem lex_trans : ∀ {a b c : List Int}, HT.lexLt a b = true → HT.lexLt b c = true → HT.lexLt a c = true
  | [], [], _, h, _ => by cases h
  | [], _ :: _, [], _, h => by cases h
  | [], _ :: _, _ :: _, _, _ => rfl
  | _ :: _, [], _, h, _ => by cases h
  | _ :: _, _ :: _, [], _, h => by cases h
  | p :: a, q :: b, r :: c, h1, h2 => by
    rw [HT.lexLt_cons] at h1 h2 ⊢
    by_cases e1 : p = q
    · rw [if_pos e1] at h1
      by_cases e2 : q = r
      · rw [if_pos e2] at h2
        rw [if_pos (e1.trans e2)]
        exact lex_trans h1 h2
      · rw [if_neg e2] at h2
        rw [e1, if_neg e2]
        exact h2
    · rw [if_neg e1] at h1
      have h1 := of_decide_eq_true h1
      by_cases e2 : q = r
      · rw [← e2, if_neg e1]
        exact decide_eq_true h1
      · rw [if_neg e2] at h2
        have h2 := of_decide_eq_true h2
        rw [if_neg (by omega)]
        exact decide_eq_true (by omega)
theorem moI_ext {n : Nat} {h t : Mo} : moI n h = moI n t ↔ ∀ j, j < n → h j = t j := by rw [moI_eq, eqm_iff]
def lexN (a b : List Nat) : Prop := a = b ∨ HT.lexLt (nI a) (nI b) = true
theorem lexN.trans {a b c : List Nat} (h1 : lexN a b) (h2 : lexN b c) : lexN a c := by
  rcases h1 with rfl | h1
  · exact h2
  · rcases h2 with rfl | h2
    · exact .inr h1
    · exact .inr (lex_trans h1 h2)
theorem lexN.anti {a b : List Nat} (h1 : lexN a b) (h2 : lexN b a) : a = b := by
  rcases h1 with h1 | h1
  · exact h1
  · rcases h2 with h2 | h2
    · exact h2.symm
    · rw [lex_asym h1] at h2; cases h2
theorem nI_len (a : List Nat) : (nI a).length = a.length := by unfold nI; rw [List.length_map]
theorem lexN.snoc {a b : List Nat} (k : Nat) (hl : a.length = b.length) (h : lexN a b) : lexN (a ++ [k]) (b ++ [k]) := by
  rcases h with rfl | h
  · exact .inl rfl
  · refine .inr ?_
    rw [nI_app, nI_app]
    exact lex_app _ _ (by rw [nI_len, nI_len]; exact hl) h
theorem nI_inj {a b : List Nat} (h : nI a = nI b) : a = b := by
  unfold nI at h
  exact List.map_inj_right (fun x y e => by have e : (x : Int) = (y : Int) := e; omega) |>.mp h
theorem lexN_or {a b : List Nat} (hl : a.length = b.length) (h : ¬ HT.lexLt (nI a) (nI b) = true) : lexN b a := by
  rcases lex_tri (a := nI a) (b := nI b) (by rw [nI_len, nI_len]; exact hl) with z | z | z
  · exact .inl (nI_inj z).symm
  · exact absurd z h
  · exact .inr z
def leM (n : Nat) (x L : Mo) : Prop := ∀ j, j < n → x j ≤ L j
theorem leM.ext {n : Nat} {x y L : Mo} (h : leM n x L) (e : moI n x = moI n y) : leM n y L := fun j hj => by rw [← moI_ext.mp e j hj]; exact h j hj
section
variable {ms : List Mk} {n : Nat} {z L : Mo}
theorem Run.ext2 (v : Ms n ms) {w : List Nat} {x y : Mo} (r : Run ms n z w x) (e : moI n x = moI n y) : Run ms n z w y := r.ext v (fun _ _ => rfl) (moI_ext.mp e)
def Opt (ms : List Mk) (n : Nat) (z x : Mo) (w : List Nat) : Prop := ∀ w', Run ms n z w' x → lexN w w'
structure LevOk (ms : List Mk) (n : Nat) (z L : Mo) (i : Nat) (lev : List Mo) (kvs : KW) : Prop where
  snd : ∀ {y : Mo} {w}, get kvs (moI n y) = some w → leM n y L ∧ Run ms n z w y ∧ w.length ≤ i
  old : ∀ {y : Mo} {w'}, leM n y L → Run ms n z w' y → w'.length ≤ i → ∃ w, get kvs (moI n y) = some w ∧ Opt ms n z y w
  lv1 : ∀ {x}, x ∈ lev → leM n x L ∧ ∃ w, get kvs (moI n x) = some w ∧ w.length = i
  lv2 : ∀ {y : Mo} {w}, leM n y L → Run ms n z w y → w.length = i → ∃ x ∈ lev, moI n x = moI n y
structure Mid (ms : List Mk) (n : Nat) (z L : Mo) (i : Nat) (D : Mo → Nat → Prop) (kvs : KW) (later : List Mo) : Prop where
  snd : ∀ {y : Mo} {w}, get kvs (moI n y) = some w → leM n y L ∧ Run ms n z w y ∧ w.length ≤ i + 1
  old : ∀ {y : Mo} {w'}, leM n y L → Run ms n z w' y → w'.length ≤ i → ∃ w, get kvs (moI n y) = some w ∧ Opt ms n z y w
  don : ∀ {x k wx}, D x k → k < n → x k < L k → nxt ms x k → get kvs (moI n x) = some wx → wx.length = i → ∃ w, get kvs (moI n (stp x k)) = some w ∧ lexN w (wx ++ [k])
  lat : ∀ {x}, x ∈ later → leM n x L ∧ ∃ w, get kvs (moI n x) = some w ∧ w.length = i + 1
  all : ∀ {y : Mo} {w}, get kvs (moI n y) = some w → w.length = i + 1 → ∃ x ∈ later, moI n x = moI n y
theorem levOk0 (hz : leM n z L) (v : Ms n ms) : LevOk ms n z L 0 [z] (put [] (moI n z) []) := by
  have g : ∀ y : Mo, get (put [] (moI n z) []) (moI n y) = if moI n z = moI n y then some [] else none := fun y => get_put [] _ _ _
  refine ⟨fun {y w} h => ?_, fun {y w'} hy r hl => ?_, fun {x} hx => ?_, fun {y w} hy r hl => ?_⟩
  · rw [g] at h
    by_cases e : moI n z = moI n y
    · rw [if_pos e] at h
      cases h
      exact ⟨hz.ext e, .nil (moI_ext.mp e), Nat.le_refl _⟩
    · rw [if_neg e] at h; cases h
  · have : w' = [] := List.length_eq_zero_iff.mp (by omega)
    subst this
    cases r with
    | nil e =>
      refine ⟨[], by rw [g, if_pos (moI_ext.mpr e)], fun w'' r'' => ?_⟩
      have h1 := r''.len
      have h2 := (Run.nil (ms := ms) e).len
      exact .inl (List.length_eq_zero_iff.mp (by rw [h1, ← h2]; rfl)).symm
  · rw [List.mem_singleton.mp hx]
    exact ⟨hz, [], by rw [g, if_pos rfl], rfl⟩
  · have : w = [] := List.length_eq_zero_iff.mp hl
    subst this
    cases r with
    | nil e => exact ⟨z, List.mem_singleton.mpr rfl, moI_ext.mpr e⟩
theorem LevOk.mid {i : Nat} {lev : List Mo} {kvs : KW} (h : LevOk ms n z L i lev kvs) : Mid ms n z L i (fun _ _ => False) kvs [] :=
  ⟨fun {y w} g => let ⟨a, b, c⟩ := h.snd g; ⟨a, b, by omega⟩, h.old, fun hD => hD.elim, fun hx => (by cases hx), fun {y w} g hl => by have := (h.snd g).2.2; omega⟩
theorem Mid.imp {i : Nat} {D D' : Mo → Nat → Prop} {kvs : KW} {later : List Mo} (h : Mid ms n z L i D kvs later) (f : ∀ {x k}, k < n → D' x k → D x k) : Mid ms n z L i D' kvs later :=
  ⟨h.snd, h.old, fun hD hk => h.don (f hk hD) hk, h.lat, h.all⟩
/-- a step that is not taken -/
theorem Mid.skip {i : Nat} {D : Mo → Nat → Prop} {kvs : KW} {later : List Mo} (h : Mid ms n z L i D kvs later) {x : Mo} {k : Nat} (hc : ¬ (x k < L k ∧ nxt ms x k)) : Mid ms n z L i (fun y k' => D y k' ∨ (y = x ∧ k' = k)) kvs later :=
  ⟨h.snd, h.old, fun hD hk h1 h2 => hD.elim (fun hD => h.don hD hk h1 h2) (fun e => absurd (by rw [← e.1, ← e.2]; exact ⟨h1, h2⟩) hc), h.lat, h.all⟩
theorem stp_leM {x : Mo} {k : Nat} (hx : leM n x L) (hl : x k < L k) : leM n (stp x k) L := fun j hj => by
  unfold stp
  by_cases e : j = k
  · rw [if_pos e, e]; omega
  · rw [if_neg e]; exact hx j hj
/-- what is found there already has a word as long -/
theorem Mid.same_len (v : Ms n ms) {i : Nat} {D : Mo → Nat → Prop} {kvs : KW} {later : List Mo} (h : Mid ms n z L i D kvs later) {x : Mo} {k : Nat} {wx w0 : List Nat} (hk : k < n) (gx : get kvs (moI n x) = some wx) (hw : wx.length = i) (hl : x k < L k) (nx : nxt ms x k) (g0 : get kvs (moI n (stp x k)) = some w0) : w0.length = i + 1 := by
  have r := ((h.snd gx).2.1).snoc v hk nx
  have := r.len
  rw [(h.snd g0).2.1.len, ← this, List.length_append, hw]
  rfl
/-- what is found there already is no worse -/
theorem Mid.keep (v : Ms n ms) {i : Nat} {D : Mo → Nat → Prop} {kvs : KW} {later : List Mo} (h : Mid ms n z L i D kvs later) {x : Mo} {k : Nat} {wx w0 : List Nat} (hk : k < n) (gx : get kvs (moI n x) = some wx) (hw : wx.length = i) (hl : x k < L k) (nx : nxt ms x k) (g0 : get kvs (moI n (stp x k)) = some w0) (hb : ¬ HT.lexLt (nI (wx ++ [k])) (nI w0) = true) : Mid ms n z L i (fun y k' => D y k' ∨ (y = x ∧ k' = k)) kvs later := by
  have hl0 := h.same_len v hk gx hw hl nx g0
  refine ⟨h.snd, h.old, fun hD hk h1 h2 g hlen => ?_, h.lat, h.all⟩
  rcases hD with hD | ⟨rfl, rfl⟩
  · exact h.don hD hk h1 h2 g hlen
  · rw [gx] at g
    cases g
    exact ⟨w0, g0, lexN_or (by rw [List.length_append, hw, hl0]; rfl) hb⟩
/-- what is put there -/
theorem Mid.put (v : Ms n ms) {i : Nat} {D : Mo → Nat → Prop} {kvs : KW} {later later' : List Mo} (h : Mid ms n z L i D kvs later) {x : Mo} {k : Nat} {wx : List Nat} (hk : k < n) (gx : get kvs (moI n x) = some wx) (hw : wx.length = i) (hl : x k < L k) (nx : nxt ms x k) (g0 : get kvs (moI n (stp x k)) = none ∧ later' = later ++ [stp x k] ∨ ∃ w0, get kvs (moI n (stp x k)) = some w0 ∧ HT.lexLt (nI (wx ++ [k])) (nI w0) = true ∧ later' = later) : Mid ms n z L i (fun y k' => D y k' ∨ (y = x ∧ k' = k)) (K46.put kvs (moI n (stp x k)) (wx ++ [k])) later' := by
  obtain ⟨hx, r0, _⟩ := h.snd gx
  have r := r0.snoc v hk nx
  have hs := stp_leM hx hl
  have rl : (wx ++ [k]).length = i + 1 := by rw [List.length_append, hw]; rfl
  have sub : ∀ y ∈ later, y ∈ later' := by
    rcases g0 with ⟨_, e⟩ | ⟨_, _, _, e⟩
    · intro y hy; rw [e]; exact List.mem_append_left _ hy
    · intro y hy; rw [e]; exact hy
  have mem : ∃ y ∈ later', moI n y = moI n (stp x k) := by
    rcases g0 with ⟨_, e⟩ | ⟨w0, g0, _, e⟩
    · exact ⟨stp x k, by rw [e]; exact List.mem_append_right _ (List.mem_singleton.mpr rfl), rfl⟩
    · obtain ⟨y, hy, e2⟩ := h.all g0 (h.same_len v hk gx hw hl nx g0)
      exact ⟨y, sub y hy, e2⟩
  -- a word there is as long as this one
  have len : ∀ {y : Mo} {w : List Nat}, moI n (stp x k) = moI n y → Run ms n z w y → w.length = i + 1 := fun e r2 => by
    rw [r2.len, ← (r.ext2 v e).len, rl]
  refine ⟨fun {y w} g => ?_, fun {y w'} hy r' hl' => ?_, fun {x' k' wx'} hD hk' h1 h2 g hlen => ?_, fun {y} hy => ?_, fun {y w} g hlen => ?_⟩
  · rw [get_put] at g
    by_cases e : moI n (stp x k) = moI n y
    · rw [if_pos e] at g
      cases g
      exact ⟨hs.ext e, r.ext2 v e, by rw [rl]; exact Nat.le_refl _⟩
    · rw [if_neg e] at g
      exact h.snd g
  · rw [get_put, if_neg fun e => by have := len e r'; omega]
    exact h.old hy r' hl'
  · have g1 : get kvs (moI n x') = some wx' := by
      rw [get_put] at g
      by_cases e : moI n (stp x k) = moI n x'
      · rw [if_pos e] at g
        cases g
        rw [rl] at hlen
        omega
      · rw [if_neg e] at g
        exact g
    rw [get_put]
    by_cases e : moI n (stp x k) = moI n (stp x' k')
    · rw [if_pos e]
      refine ⟨_, rfl, ?_⟩
      rcases hD with hD | ⟨rfl, rfl⟩
      · obtain ⟨w, gw, o⟩ := h.don hD hk' h1 h2 g1 hlen
        rw [← e] at gw
        rcases g0 with ⟨g0, _⟩ | ⟨w0, g0, b, _⟩
        · rw [g0] at gw; cases gw
        · rw [g0] at gw
          cases gw
          exact lexN.trans (.inr b) o
      · rw [gx] at g1
        cases g1
        exact .inl rfl
    · rw [if_neg e]
      rcases hD with hD | ⟨rfl, rfl⟩
      · exact h.don hD hk' h1 h2 g1 hlen
      · exact absurd rfl e
  · rw [get_put]
    by_cases e : moI n (stp x k) = moI n y
    · rw [if_pos e]
      exact ⟨hs.ext e, _, rfl, rl⟩
    · rw [if_neg e]
      refine h.lat ?_
      rcases g0 with ⟨_, e2⟩ | ⟨_, _, _, e2⟩
      · rw [e2] at hy
        rcases List.mem_append.mp hy with q | q
        · exact q
        · rw [List.mem_singleton.mp q] at e
          exact absurd rfl e
      · rw [e2] at hy; exact hy
  · rw [get_put] at g
    by_cases e : moI n (stp x k) = moI n y
    · obtain ⟨u, hu, eu⟩ := mem
      exact ⟨u, hu, eu.trans e⟩
    · rw [if_neg e] at g
      obtain ⟨u, hu, eu⟩ := h.all g hlen
      exact ⟨u, sub u hu, eu⟩
/-- the next level -/
theorem Mid.next (v : Ms n ms) {i : Nat} {D : Mo → Nat → Prop} {kvs kvs0 : KW} {lev later : List Mo} (h : Mid ms n z L i D kvs later) (h0 : LevOk ms n z L i lev kvs0) (hD : ∀ x k, x ∈ lev → k < n → D x k) : LevOk ms n z L (i + 1) later kvs := by
  have cl : ∀ {y : Mo} {w'}, leM n y L → Run ms n z w' y → w'.length = i + 1 → ∃ w, get kvs (moI n y) = some w ∧ lexN w w' := fun {y w'} hy r hl => by
    obtain ⟨ws, k, rfl⟩ : ∃ ws k, w' = ws ++ [k] := by
      rcases List.eq_nil_or_concat w' with e | ⟨ws, k, e⟩
      · rw [e] at hl; cases hl
      · exact ⟨ws, k, by rw [e, List.concat_eq_append]⟩
    obtain ⟨h', r', hk, nx, es⟩ := r.last v
    have hws : ws.length = i := by rw [List.length_append] at hl; exact Nat.succ.inj hl
    have hh' : leM n h' L := fun j hj => Nat.le_trans (stp_le (k := k) j) (by rw [es j hj]; exact hy j hj)
    have hlt : h' k < L k := by have := es k hk; rw [stp_same] at this; have := hy k hk; omega
    obtain ⟨x, hx, ex⟩ := h0.lv2 hh' r' hws
    have ex2 := moI_ext.mp ex
    obtain ⟨wh, gh, oh⟩ := h.old hh' r' (by omega)
    have hwh : wh.length = i := by rw [(h.snd gh).2.1.len, ← r'.len, hws]
    obtain ⟨w, gw, ow⟩ := h.don (hD x k hx hk) hk (by rw [ex2 k hk]; exact hlt) (nxt_ext v hk (fun j hj => (ex2 j hj).symm) nx) (by rw [ex]; exact gh) hwh
    have e : moI n (stp x k) = moI n y := moI_ext.mpr fun j hj => by
      rw [← es j hj]
      unfold stp
      rw [ex2 j hj]
    rw [e] at gw
    exact ⟨w, gw, ow.trans (lexN.snoc k (by omega) (oh ws r'))⟩
  have od : ∀ {y : Mo} {w'}, leM n y L → Run ms n z w' y → w'.length ≤ i + 1 → ∃ w, get kvs (moI n y) = some w ∧ Opt ms n z y w := fun {y w'} hy r hl => by
    by_cases c : w'.length ≤ i
    · exact h.old hy r c
    · obtain ⟨w, gw, _⟩ := cl hy r (by omega)
      refine ⟨w, gw, fun w'' r'' => ?_⟩
      obtain ⟨w2, gw2, o2⟩ := cl hy r'' (by rw [r''.len, ← r.len]; omega)
      rw [gw] at gw2
      cases gw2
      exact o2
  refine ⟨h.snd, od, h.lat, fun {y w} hy r hl => ?_⟩
  obtain ⟨w2, gw, _⟩ := od hy r (by omega)
  exact h.all gw (by rw [(h.snd gw).2.1.len, ← r.len, hl])
theorem left_le_msum {n : Nat} {z y L : Mo} (h : leM n y L) : left n z y ≤ msum n L := by
  have a : left n z y ≤ msum n y := by
    unfold left msum left
    have : ∀ l : List Nat, (l.map fun j => y j - z j).sum ≤ (l.map fun j => y j - z0 j).sum := by
      intro l
      induction l with
      | nil => exact Nat.le_refl _
      | cons b l ih =>
        simp only [List.map_cons, List.sum_cons]
        have : y b - z0 b = y b := rfl
        omega
    exact this _
  exact Nat.le_trans a (msum_le h)
/-- all that is found in the end -/
theorem LevOk.found (v : Ms n ms) {i : Nat} {lev : List Mo} {kvs : KW} (h : LevOk ms n z L i lev kvs) (hi : msum n L ≤ i) {y : Mo} (hy : leM n y L) : get kvs (moI n y) = greedy ms n (left n z y) z y := by
  cases g : get kvs (moI n y) with
  | some w =>
    obtain ⟨_, r, _⟩ := h.snd g
    obtain ⟨ks, g2, r2, m⟩ := greedy_ok v (left n z y) (Nat.le_refl _) ⟨w, r⟩
    obtain ⟨w2, g3, o⟩ := h.old hy r (by rw [r.len]; exact Nat.le_trans (left_le_msum hy) hi)
    rw [g] at g3
    cases g3
    rw [g2, lexN.anti (o ks r2) (m w r)]
  | none =>
    cases g2 : greedy ms n (left n z y) z y with
    | none => rfl
    | some ks =>
      have r := greedy_none v _ g2
      obtain ⟨w2, g3, o⟩ := h.old hy r (by rw [r.len]; exact Nat.le_trans (left_le_msum hy) hi)
      rw [g] at g3
      cases g3
/-- nothing is found but below all -/
theorem LevOk.below {i : Nat} {lev : List Mo} {kvs : KW} (h : LevOk ms n z L i lev kvs) {y : Mo} {w : List Nat} (g : get kvs (moI n y) = some w) : leM n y L := (h.snd g).1
end
end K46
set_option Elab.async false
set_option linter.all false
set_option maxRecDepth 100000
set_option maxHeartbeats 4000000
namespace K46
open PySem L2 PyProof.Rows DL
/-! ### _law_reached -/
def RM (M0 : Mem) (p pl : Addr) (n : Nat) (kvs : KW) (later : List Mo) : Mem := updM (updM M0 p (some (.dit (dkv kvs)))) pl (some (.lst (later.map (moD n))))
section
variable {M0 : Mem} {p pl : Addr} {n : Nat} {kvs : KW} {later : List Mo}
theorem RM_p (h : p ≠ pl) : RM M0 p pl n kvs later p = some (.dit (dkv kvs)) := by unfold RM; rw [updM_ne h, updM_same]
theorem RM_pl : RM M0 p pl n kvs later pl = some (.lst (later.map (moD n))) := updM_same
theorem RM_put (h : p ≠ pl) {kvs' : KW} : updM (RM M0 p pl n kvs later) p (some (.dit (dkv kvs'))) = RM M0 p pl n kvs' later := by unfold RM; rw [updM_comm (Ne.symm h), updM_upd]
theorem RM_app {y : Mo} : updM (RM M0 p pl n kvs later) pl (some (.lst (later.map (moD n) ++ [moD n y]))) = RM M0 p pl n kvs (later ++ [y]) := by
  unfold RM
  rw [updM_upd, List.map_append]
  rfl
theorem dkv_len : (dkv kvs).length = kvs.length := by unfold dkv; rw [List.length_map]
end
abbrev rB1 : List Stmt := forBody ((defBody s_law_reached).getD 1 (.Pass ⟨0, 0, 0, 0⟩))
abbrev rB2 : List Stmt := forBody (rB1.getD 1 (.Pass ⟨0, 0, 0, 0⟩))
abbrev rB3 : List Stmt := forBody (rB2.getD 0 (.Pass ⟨0, 0, 0, 0⟩))
section
variable {P : Program} {w : World} {K : PySem.W.Frag} {mg : Str → Option Value} {base : Heap}
abbrev XR (P : Program) (w : World) (K : PySem.W.Frag) (mg : Str → Option Value) (base : Heap) (f : Addr) (cdv : Value) (A : Around) (outer : List Env) (s : Shared) (H : Hp) (E : XK) : Cx := (cxOf CX0 P w K mg base ["lasts", "marks", "first", "found", "level", "step", "later", "here", "k", "one", "at", "other", "met", "there"] "_law_reached" (defScope s_law_reached) f cdv A outer s H E).nox
theorem r_step {f : Addr} {cdv : Value} {A : Around} {outer : List Env} {s : Shared} {H : Hp} {E : XK} {M0 : Mem} {ED : EndsD} {n i k : Nat} {ms : List Mk} {z L x : Mo} {Dn : Mo → Nat → Prop} {kvs : KW} {later : List Mo} {wx : List Nat} {p pl : Addr} (B : Blt mg) (hr : Room 0 (XR P w K mg base f cdv A outer s H E).A) (v : Ms n ms) (hz : ms.length < 9000) (hn : n ≤ 3) (hi : i < 90) (hk : k < n) (hne : p ≠ pl) (hm : Mid ms n z L i Dn kvs later) (gx : get kvs (moI n x) = some wx) (hw : wx.length = i) (hl1 : kvs.length < 9000000) (hl2 : later.length < 9000000)
    (q : ∀ (kvs' : KW) (later' : List Mo) (sg1 : Sg), Mid ms n z L i (fun y k' => Dn y k' ∨ (y = x ∧ k' = k)) kvs' later' → kvs'.length + later.length ≤ kvs.length + later'.length → later'.length ≤ later.length + 1 → Fg [some (moD n L), some (msD ms), none, some (.ptr p), none, none, some (.ptr pl), some (moD n x), none, none, none, none, none, none] sg1 → ED.nx sg1 (RM M0 p pl n kvs' later')) :
    WSs (XR P w K mg base f cdv A outer s H E) rB3 [some (moD n L), some (msD ms), none, some (.ptr p), none, none, some (.ptr pl), some (moD n x), some (.int (k : Int)), none, none, none, none, none] (RM M0 p pl n kvs later) ED := by
  have nd := sc_law_reached.nd
  have hu : (XR P w K mg base f cdv A outer s H E).A.units + 1 < cLine := by have := units65 hr; omega
  have ln : ((moI n x).map D.int).length = n := by rw [List.length_map, moI_len]
  have c1 := cut_len ((moI n x).map D.int) none (some (k : Int))
  have c2 := cut_len ((moI n x).map D.int) (some ((k : Int) + 1)) none
  refine wss_one (ws_ifE (k := decide (x k < L k) && decide (nxt ms x k)) (ww_pt (ew_and (ET.is (et_lt (ee_ix ix_tup (ee_v 7 rfl) (ee_v 8 rfl) (od_ixT (moD_at hk) ⟨rfl, rfl⟩)) (ee_ix ix_tup (ee_v 0 rfl) (ee_v 8 rfl) (od_ixT (moD_at hk) ⟨rfl, rfl⟩))) (decide_eq_decide.mpr (by omega))) fun _ => ww_and1 (et_val (ee_cb (cr_all rfl) B.all bi_all (ea_cons (ee_lc4if 9 10 11 12 (ds := ms.map mkD) (fun d => decide (intOf (d4 0 d) = (k : Int)) && decide (intOf (d4 1 d) = (x k : Int) + 1)) (fun d => .bl (decide (intOf (d4 3 d) ≤ (x (intOf (d4 2 d)).toNat : Int)))) rfl nd (wi_tup (EE.to (ee_v 1 rfl) ⟨_, rfl, rfl, rfl, trivial⟩)) (by rw [List.length_map]; exact lt_i (by omega)) fun m d hd => ?_) ea_nil) (cd_all (bs := (ms.filter fun μ => decide (μ.s = k) && decide (μ.m = x k + 1)).map fun μ => decide (μ.t ≤ x μ.o)) (.inl ?_) ⟨?_, rfl⟩))))) (fun hc => ?_) fun hc => ?_)
  · obtain ⟨μ, hμ, rfl⟩ := List.mem_map.mp (List.mem_of_getElem? hd)
    refine ⟨_, _, _, _, rfl, fun s H C cl fp => ?_, fun _ s H C cl fp => ?_⟩
    · exact ww_pt (ew_and (et_eqI (ee_v 9 rfl) (ee_v 8 rfl)) fun _ => ww_and1 (et_eqI (ee_v 10 rfl) (ee_add (ee_ix ix_tup (ee_v 7 rfl) (ee_v 8 rfl) (od_ixT (moD_at hk) ⟨rfl, rfl⟩)) ee_int)))
    · have ho := v.o_ μ hμ
      refine EE.is (ee_ge (ee_ix ix_tup (ee_v 7 rfl) (ee_v 11 rfl) (od_ixT (moD_at ho) ⟨rfl, rfl⟩)) (ee_v 12 rfl)) ?_
      show D.bl (decide ((μ.t : Int) ≤ (x μ.o : Int))) = D.bl (decide ((μ.t : Int) ≤ (x ((μ.o : Int)).toNat : Int)))
      rw [Int.toNat_natCast]
  · rw [List.filter_map, List.map_map, List.map_map]
    congr 1
    have e : ms.filter ((fun d => decide (intOf (d4 0 d) = (k : Int)) && decide (intOf (d4 1 d) = (x k : Int) + 1)) ∘ mkD) = ms.filter fun μ => decide (μ.s = k) && decide (μ.m = x k + 1) := List.filter_congr fun μ _ => by
      show (decide ((μ.s : Int) = (k : Int)) && decide ((μ.m : Int) = (x k : Int) + 1)) = _
      congr 1
      · exact decide_eq_decide.mpr (by omega)
      · exact decide_eq_decide.mpr (by omega)
    rw [e]
    refine List.map_congr_left fun μ _ => ?_
    show D.bl (decide ((μ.t : Int) ≤ (x ((μ.o : Int)).toNat : Int))) = D.bl (decide (μ.t ≤ x μ.o))
    rw [Int.toNat_natCast]
    congr 1
    exact decide_eq_decide.mpr (by omega)
  · congr 1
    rw [Bool.eq_iff_iff, List.all_eq_true, decide_eq_true_iff]
    constructor
    · intro a μ hμ h1 h2
      exact of_decide_eq_true (a _ (List.mem_map.mpr ⟨μ, List.mem_filter.mpr ⟨hμ, by rw [decide_eq_true h1, decide_eq_true h2]; rfl⟩, rfl⟩))
    · intro a b hb
      obtain ⟨μ, hμ, rfl⟩ := List.mem_map.mp hb
      obtain ⟨h1, h2⟩ := List.mem_filter.mp hμ
      simp only [Bool.and_eq_true, decide_eq_true_eq] at h2
      exact decide_eq_true (a μ h1 h2.1 h2.2)
  · rw [Bool.and_eq_true, decide_eq_true_iff, decide_eq_true_iff] at hc
    obtain ⟨hl, nx⟩ := hc
    refine wss_cons (ws_set 13 nd (EE.to (d := moD n (stp x k)) (EE.is (ee_op op_catA (ee_op op_catA (ee_sl sl_tupA (ee_v 7 rfl) eo_none (eo_some (ee_v 8 rfl)) (sd_tup ⟨rfl, rfl⟩)) (ee_tup (ea_cons (ee_add (ee_ix ix_tup (ee_v 7 rfl) (ee_v 8 rfl) (od_ixT (moD_at hk) ⟨rfl, rfl⟩)) ee_int) ea_nil)) (od_catT (small_i (show _ + 1 < 100000 by omega)) ⟨rfl, rfl⟩)) (ee_sl sl_tupA (ee_v 7 rfl) (eo_some (ee_add (ee_v 8 rfl) ee_int)) eo_none (sd_tup ⟨rfl, rfl⟩)) (od_catT (by rw [List.length_append]; exact small_i (show _ + 1 + _ < 100000 by omega)) ⟨rfl, rfl⟩)) ?_) ?_))
    · rw [show (k : Int) + 1 = ((k + 1 : Nat) : Int) by omega, cut_toN, cut_fromN]
      unfold moD
      rw [← wm_stp, ← moI_wm hk, List.map_append, List.map_append, List.map_take, List.map_drop]
      rfl
    show WSs _ _ [some (moD n L), some (msD ms), none, some (.ptr p), none, none, some (.ptr pl), some (moD n x), some (.int (k : Int)), none, none, none, none, some (moD n (stp x k))] _ _
    have gd : ∀ {y : Mo} {u : List Nat}, get kvs (moI n y) = some u → gt (dkv kvs) (moI n y) = some (tupD u) := fun g => by rw [gt_dkv, g]; rfl
    have fh : ∀ {p1 p2 p3 p4 p5 p6 : Pos} {j : Nat} {la : List Mo}, EE (XR P w K mg base f cdv A outer s H E) (.BinOp (.Subscript (.Name "found" p1) (.Name "here" p2) p3) .Add (.Tuple [.Name "k" p4] j p5) p6) [some (moD n L), some (msD ms), none, some (.ptr p), none, none, some (.ptr pl), some (moD n x), some (.int (k : Int)), none, none, none, none, some (moD n (stp x k))] (RM M0 p pl n kvs la) (tupD (wx ++ [k])) := EE.is (ee_op op_catA (x := tupD wx) (we_dget hu (EE.to (ee_v 3 rfl) (EE.to (ee_v 7 rfl) ⟨p, dkv kvs, moI n x, tupD wx, rfl, rfl, RM_p hne, gd gx, rfl, rfl⟩))) (ee_tup (ea_cons (ee_v 8 rfl) ea_nil)) (od_catT (by rw [List.length_map, nI_len, hw]; exact small_i (show _ + 1 < 100000 by omega)) ⟨rfl, rfl⟩)) (by
        show D.tup ((nI wx).map D.int ++ [D.int (k : Int)]) = D.tup ((nI (wx ++ [k])).map D.int)
        rw [nI_app, List.map_append]
        rfl)
    have gs : ∀ {o : Option (List Nat)}, get kvs (moI n (stp x k)) = o → (gt (dkv kvs) (moI n (stp x k))).isSome = o.isSome := fun g => by rw [gt_dkv, g]; cases ‹Option (List Nat)› <;> rfl
    refine wss_one (ws_if (ww_pt (ww_or (wt_dnin hu (EE.to (ee_v 13 rfl) (EE.to (ee_v 3 rfl) ⟨p, dkv kvs, moI n (stp x k), rfl, rfl, RM_p hne, ?_⟩))))))
    cases g0 : get kvs (moI n (stp x k)) with
    | none =>
      rw [gs g0]
      refine ⟨fun _ => ⟨fun _ => wss_cons (ws_if (wt_dnin hu (EE.to (ee_v 13 rfl) (EE.to (ee_v 3 rfl) ⟨p, dkv kvs, moI n (stp x k), rfl, rfl, RM_p hne, ?_⟩)))), fun h => (by cases h)⟩, fun h => (by cases h)⟩
      rw [gs g0]
      refine ⟨fun _ => wss_one (ws_expr (we_bm PySem.F.plainAttrs_list PySem.F.slot_list_append PySem.F.type_list_append mt_append (EE.to (ee_v 6 rfl) ⟨ty_lst (.inr ⟨pl, rfl, RM_pl⟩), EA.to (ea_cons (ee_v 13 rfl) ea_nil) (md_append RM_pl (by rw [List.length_map]; exact lt_big hl2) ?_)⟩))), fun h => (by cases h)⟩
      rw [RM_app]
      refine wss_one (ws_dput hu (EE.to fh (EE.to (ee_v 3 rfl) (EE.to (ee_v 13 rfl) ⟨p, dkv kvs, moI n (stp x k), rfl, rfl, RM_p hne, by rw [dkv_len]; exact lt_big hl1, ?_⟩))))
      rw [pt_dkv, RM_put hne]
      refine q _ _ _ (hm.put v hk gx hw hl nx (.inl ⟨g0, rfl⟩)) ?_ (by rw [List.length_append]; exact Nat.le_refl _) (by exact ⟨rfl, rfl, rfl, rfl, rfl, trivial⟩)
      have := put_len kvs (moI n (stp x k)) (wx ++ [k])
      rw [List.length_append]
      show _ ≤ _ + (_ + 1)
      omega
    | some w0 =>
      rw [gs g0]
      refine ⟨fun h => (by cases h), fun _ => ww_or1 (wt_cmp (op_ltT (by omega)) (Qa := fun d M1 => d = tupD (wx ++ [k]) ∧ M1 = RM M0 p pl n kvs later) fh fun d M1 ⟨e1, e2⟩ => ?_)⟩
      subst e1; subst e2
      refine we_dget hu (EE.to (ee_v 3 rfl) (EE.to (ee_v 13 rfl) ⟨p, dkv kvs, moI n (stp x k), tupD w0, rfl, rfl, RM_p hne, gd g0, od_ltT ⟨_, rfl, fun hb => ?_, fun hb => ?_⟩⟩))
      · refine wss_cons (ws_if (wt_dnin hu (EE.to (ee_v 13 rfl) (EE.to (ee_v 3 rfl) ⟨p, dkv kvs, moI n (stp x k), rfl, rfl, RM_p hne, ?_⟩))))
        rw [gs g0]
        refine ⟨fun h => (by cases h), fun _ => wss_nil ?_⟩
        refine wss_one (ws_dput hu (EE.to fh (EE.to (ee_v 3 rfl) (EE.to (ee_v 13 rfl) ⟨p, dkv kvs, moI n (stp x k), rfl, rfl, RM_p hne, by rw [dkv_len]; exact lt_big hl1, ?_⟩))))
        rw [pt_dkv, RM_put hne]
        exact q _ _ _ (hm.put v hk gx hw hl nx (.inr ⟨w0, g0, hb, rfl⟩)) (by rw [put_len_old g0]; exact Nat.le_refl _) (Nat.le_succ _) (by exact ⟨rfl, rfl, rfl, rfl, rfl, trivial⟩)
      · exact wss_nil (q _ _ _ (hm.keep v hk gx hw hl nx g0 (by rw [hb]; exact Bool.false_ne_true)) (Nat.le_refl _) (Nat.le_succ _) (by exact ⟨rfl, rfl, rfl, rfl, rfl, trivial⟩))
  · refine wss_nil (q _ _ _ (hm.skip fun hc' => ?_) (Nat.le_refl _) (Nat.le_succ _) (by exact ⟨rfl, rfl, rfl, rfl, rfl, trivial⟩))
    rw [decide_eq_true hc'.1, decide_eq_true hc'.2] at hc
    cases hc
end
end K46
set_option Elab.async false
set_option linter.all false
set_option maxRecDepth 100000
set_option maxHeartbeats 4000000
namespace K46
open PySem L2 PyProof.Rows DL
section
variable {P : Program} {w : World} {K : PySem.W.Frag} {mg : Str → Option Value} {base : Heap}
def S_reached : SpD := fun ds M Q => ∃ (n : Nat) (ms : List Mk) (z L : Mo), ds = [moD n L, msD ms, moD n z] ∧ Ms n ms ∧ leM n z L ∧ 1 ≤ n ∧ n ≤ 3 ∧ msum n L ≤ 12 ∧ ms.length < 9000 ∧ ∀ (p : Addr) (kvs : KW), M p = none → (∀ y, leM n y L → get kvs (moI n y) = greedy ms n (left n z y) z y) → Q (.ptr p) (updM M p (some (.dit (dkv kvs))))
theorem pow3 {i : Nat} (h : i < 13) : 3 ^ i ≤ 531441 := Nat.le_trans (Nat.pow_le_pow_right (n := 3) (j := 12) (by decide) (by omega)) (by decide)
/-- one level -/
theorem r_level {f : Addr} {cdv : Value} {A : Around} {outer : List Env} {s : Shared} {H : Hp} {E : XK} {M0 : Mem} {ED : EndsD} {n i : Nat} {ms : List Mk} {z L : Mo} {lev : List Mo} {kvs : KW} {p : Addr} {o5 : Option D} (B : Blt mg) (hr : Room 0 (XR P w K mg base f cdv A outer s H E).A) (v : Ms n ms) (hz : ms.length < 9000) (hn : n ≤ 3) (hi : i < 12) (hp0 : M0 p = none) (h0 : LevOk ms n z L i lev kvs) (hl1 : lev.length ≤ 3 ^ i) (hl2 : kvs.length ≤ 3 ^ (i + 1))
    (q : ∀ (kvs' : KW) (lev' : List Mo) (sg1 : Sg), LevOk ms n z L (i + 1) lev' kvs' → lev'.length ≤ 3 ^ (i + 1) → kvs'.length ≤ 3 ^ (i + 2) → Fg [some (moD n L), some (msD ms), none, some (.ptr p), some (.lst (lev'.map (moD n))), none, none, none, none, none, none, none, none, none] sg1 → ED.nx sg1 (updM M0 p (some (.dit (dkv kvs'))))) :
    WSs (XR P w K mg base f cdv A outer s H E) rB1 [some (moD n L), some (msD ms), none, some (.ptr p), some (.lst (lev.map (moD n))), none, none, none, none, none, none, none, none, none] (updM M0 p (some (.dit (dkv kvs)))) ED := by
  have nd := sc_law_reached.nd
  have lnL : ((moI n L).map D.int).length = n := by rw [List.length_map, moI_len]
  have b1 := pow3 (i := i) (by omega)
  have b2 : 3 ^ (i + 1) = 3 * 3 ^ i := by rw [Nat.pow_succ]; omega
  have b3 : 3 ^ (i + 2) = 9 * 3 ^ i := by rw [Nat.pow_succ, Nat.pow_succ]; omega
  refine wss_cons (ws_set 6 nd (we_lstM (wa_nil ⟨by exact small30, fun pl hpl => ?_⟩)))
  have hne : p ≠ pl := fun e => by subst e; rw [updM_same] at hpl; cases hpl
  have hpl0 : M0 pl = none := by rw [updM_ne (Ne.symm hne)] at hpl; exact hpl
  show WSs _ _ [some (moD n L), some (msD ms), none, some (.ptr p), some (.lst (lev.map (moD n))), none, some (.ptr pl), none, none, none, none, none, none, none] (RM M0 p pl n kvs []) _
  refine wss_cons (ws_for PassesOwn.never rfl (Qi := fun es C M1 => es = lev.map (moD n) ∧ M1 = RM M0 p pl n kvs [] ∧ ∀ M1, C M1) (wi_lst (EE.to (ee_v 4 rfl) ⟨_, .inl rfl, rfl, rfl, fun _ => .inl rfl⟩)) fun es C M1 ⟨e1, e2, hC⟩ => ?_)
  subst e1; subst e2
  refine ⟨fun a sg1 M1 => ∃ (kvs1 : KW) (later : List Mo), a ≤ lev.length ∧ Mid ms n z L i (fun y _ => y ∈ lev.take a) kvs1 later ∧ later.length ≤ 3 * a ∧ kvs1.length ≤ 3 ^ (i + 1) + later.length ∧ M1 = RM M0 p pl n kvs1 later ∧ Fg [some (moD n L), some (msD ms), none, some (.ptr p), none, none, some (.ptr pl), none, none, none, none, none, none, none] sg1, ⟨kvs, [], Nat.zero_le _, h0.mid.imp fun _ hx => (by cases hx), Nat.zero_le _, hl2, rfl, ⟨rfl, rfl, rfl, rfl, trivial⟩⟩, fun _ sg1 M1 _ => hC _, fun a d sg1 M1 he ⟨kvs1, later, ha, hm, e1, e2, e3, hg⟩ => ?_, fun sg1 M1 ⟨kvs1, later, ha, hm, e1, e2, e3, hg⟩ => ?_⟩
  · subst e3
    obtain ⟨x, hx0, rfl⟩ := at_map he
    have hxl : x ∈ lev := List.mem_of_getElem? hx0
    have hal : a < lev.length := (List.getElem?_eq_some_iff.mp hx0).1
    refine ⟨_, _, wg_name 7 nd, wss_fg (fg_set hg 7 _) ?_⟩
    show WSs _ _ [some (moD n L), some (msD ms), none, some (.ptr p), none, none, some (.ptr pl), some (moD n x), none, none, none, none, none, none] _ _
    refine wss_one (ws_for PassesOwn.never rfl (Qi := fun es C M1 => es = rngD 0 n ∧ M1 = RM M0 p pl n kvs1 later ∧ ∀ M1, C M1) (wi_rng1 B.range (EA.to (ea_cons (ee_cb call_len B.len bi_len (ea_cons (ee_v 0 rfl) ea_nil) (cd_lenT ⟨rfl, rfl⟩)) ea_nil) ⟨(((moI n L).map D.int).length : Int), rfl, by omega, by omega, by rw [lnL, Int.toNat_natCast], rfl, fun _ => trivial⟩)) fun es C M1 ⟨e3, e4, hC2⟩ => ?_)
    subst e3; subst e4
    refine ⟨fun b sg1 M1 => ∃ (kvs2 : KW) (la2 : List Mo), b ≤ n ∧ Mid ms n z L i (fun y k' => y ∈ lev.take a ∨ (y = x ∧ k' < b)) kvs2 la2 ∧ la2.length ≤ 3 * a + b ∧ kvs2.length ≤ 3 ^ (i + 1) + la2.length ∧ M1 = RM M0 p pl n kvs2 la2 ∧ Fg [some (moD n L), some (msD ms), none, some (.ptr p), none, none, some (.ptr pl), some (moD n x), none, none, none, none, none, none] sg1, ⟨kvs1, later, Nat.zero_le _, hm.imp fun _ hx => ?_, e1, e2, rfl, ⟨rfl, rfl, rfl, rfl, rfl, trivial⟩⟩, fun _ sg1 M1 _ => hC2 _, fun b d sg1 M1 he ⟨kvs2, la2, hb, hm2, f1, f2, f3, hg2⟩ => ?_, fun sg1 M1 ⟨kvs2, la2, hb, hm2, f1, f2, f3, hg2⟩ => ?_⟩
    · rcases hx with hx | ⟨_, hx⟩
      · exact hx
      · exact absurd hx (Nat.not_lt_zero _)
    · subst f3
      obtain ⟨hbn, rfl⟩ := rngD_at he
      rw [Int.zero_add]
      refine ⟨_, _, wg_name 8 nd, wss_fg (fg_set hg2 8 _) ?_⟩
      obtain ⟨hxL, w0, g0, hw0⟩ := h0.lv1 hxl
      have r0 := (h0.snd g0).2.1
      obtain ⟨wx, gx, _⟩ := hm2.old hxL r0 (by omega)
      have hwx : wx.length = i := by rw [(hm2.snd gx).2.1.len, ← r0.len, hw0]
      refine r_step B hr v hz hn (by omega) hbn hne hm2 gx hwx (by omega) (by omega) fun kvs3 la3 sg3 hm3 g1 g2 hg3 => ?_
      refine ⟨kvs3, la3, hbn, hm3.imp fun {y k'} _ hx => ?_, by omega, by omega, rfl, hg3⟩
      rcases hx with hx | ⟨hx, hx2⟩
      · exact .inl (.inl hx)
      · by_cases e : k' = b
        · exact .inr ⟨hx, e⟩
        · exact .inl (.inr ⟨hx, by omega⟩)
    · subst f3
      rw [rngD_len] at hm2 f1
      refine ⟨kvs2, la2, hal, hm2.imp fun {y k'} hk hx => ?_, by omega, f2, rfl, fg_trans (by exact ⟨rfl, rfl, rfl, rfl, trivial⟩) hg2⟩
      rw [List.take_add_one, hx0, List.mem_append] at hx
      rcases hx with hx | hx
      · exact .inl hx
      · exact .inr ⟨by simpa using hx, hk⟩
  · subst e3
    rw [List.length_map] at hm e1
    rw [List.take_length] at hm
    refine wss_fg hg ?_
    refine wss_freeze (i := 6) RM_pl rfl ?_
    have em : updM (RM M0 p pl n kvs1 later) pl none = updM M0 p (some (.dit (dkv kvs1))) := by
      unfold RM
      rw [updM_upd]
      exact updM_id (by rw [updM_ne (Ne.symm hne)]; exact hpl0)
    rw [em]
    refine wss_one (ws_set 4 nd (EE.to (ee_v 6 rfl) (q kvs1 later _ (hm.next v h0 fun _ _ hx _ => hx) (by omega) (by omega) (by exact ⟨rfl, rfl, rfl, rfl, trivial⟩))))
theorem d_reached (F : Df K mg "_law_reached" s_law_reached ["lasts", "marks", "first"]) (B : Blt mg) : Cal P w K mg base 1 "_law_reached" 3 S_reached := by
  refine dfn' F sc_law_reached rfl fun f cdv A outer s H E ds M Q hr hl hs => ?_
  obtain ⟨n, ms, z, L, rfl, v, hzL, n0, n1, hS, hz, q⟩ := hs
  have nd := sc_law_reached.nd
  have hu : (XR P w K mg base f cdv A outer s H E).A.units + 1 < cLine := Nat.lt_of_le_of_lt (Nat.add_le_add_left (show 1 ≤ 65 by decide) _) (units65 hr)
  refine wss_cons (ws_par 3 4 rfl nd (wa_cons (we_dnew hu fun p hp => EE.to (ee_v 2 rfl) (EE.to (ee_tup ea_nil) ⟨moI n z, rfl, updM_same, wa_cons (EE.to (ee_lst (ea_cons (ee_v 2 rfl) ea_nil)) (wa_nil ⟨_, _, rfl, ?_⟩))⟩))))
  rw [updM_upd]
  show WSs _ _ [some (moD n L), some (msD ms), some (moD n z), some (.ptr p), some (.lst ([z].map (moD n))), none, none, none, none, none, none, none, none, none] (updM M p (some (.dit (dkv (put [] (moI n z) []))))) _
  refine wss_cons (ws_for PassesOwn.never rfl (Qi := fun es C M1 => es = rngD 0 (msum n L) ∧ M1 = updM M p (some (.dit (dkv (put [] (moI n z) [])))) ∧ ∀ M1, C M1) (wi_rng1 B.range (EA.to (ea_cons (ee_cb (cr_sumT rfl) B.sum bi_sum (ea_cons (ee_v 0 rfl) ea_nil) (cd_sumT (ns := moI n L) ⟨rfl, rfl⟩)) ea_nil) ⟨(moI n L).sum, rfl, by rw [sum_moI]; omega, by rw [sum_moI]; omega, by rw [sum_moI, Int.toNat_natCast], rfl, fun _ => trivial⟩)) fun es C M1 ⟨e1, e2, hC⟩ => ?_)
  subst e1; subst e2
  refine ⟨fun i sg1 M1 => ∃ (kvs : KW) (lev : List Mo), i ≤ msum n L ∧ LevOk ms n z L i lev kvs ∧ lev.length ≤ 3 ^ i ∧ kvs.length ≤ 3 ^ (i + 1) ∧ M1 = updM M p (some (.dit (dkv kvs))) ∧ Fg [some (moD n L), some (msD ms), none, some (.ptr p), some (.lst (lev.map (moD n))), none, none, none, none, none, none, none, none, none] sg1, ⟨_, _, Nat.zero_le _, levOk0 hzL v, Nat.le_refl 1, (show 1 ≤ 3 by decide), rfl, ⟨rfl, rfl, rfl, rfl, trivial⟩⟩, fun _ sg1 M1 _ => hC _, fun i d sg1 M1 he ⟨kvs, lev, hi, h0, e1, e2, e3, hg⟩ => ?_, fun sg1 M1 ⟨kvs, lev, hi, h0, e1, e2, e3, hg⟩ => ?_⟩
  · subst e3
    obtain ⟨hj, rfl⟩ := rngD_at he
    refine ⟨_, _, wg_name 5 nd, wss_fg (fg_trans (a := [some (moD n L), some (msD ms), none, some (.ptr p), some (.lst (lev.map (moD n))), none, none, none, none, none, none, none, none, none]) (b := [some (moD n L), some (msD ms), none, some (.ptr p), some (.lst (lev.map (moD n))), some _, none, none, none, none, none, none, none, none]) (by exact ⟨rfl, rfl, rfl, rfl, trivial⟩) (fg_set hg 5 _)) ?_⟩
    exact r_level (o5 := none) B hr v hz n1 (by omega) hp h0 e1 e2 fun kvs1 lev1 sg2 h1 f1 f2 hg2 => ⟨kvs1, lev1, hj, h1, f1, f2, rfl, hg2⟩
  · subst e3
    rw [rngD_len] at h0
    refine wss_fg hg ?_
    exact wss_one (ws_ret (EE.to (ee_v 3 rfl) (q p kvs hp fun y hy => h0.found v (Nat.le_refl _) hy)))
end
end K46
set_option Elab.async false
set_option linter.all false
set_option maxRecDepth 100000
set_option maxHeartbeats 4000000
namespace K46
open PySem L2 PyProof.Rows DL
/-! ### is_fit_paper over what is no paper; _law_are_marks -/
def Up (M M' : Mem) : Prop := ∀ a o, M a = some o → M' a = some o
theorem Up.refl (M : Mem) : Up M M := fun _ _ h => h
theorem Up.new {M : Mem} {p : Addr} {o : Option MO} (hp : M p = none) : Up M (updM M p o) := fun a o' h => by
  rw [updM_ne fun e => by rw [e, hp] at h; cases h]
  exact h
theorem four_is (n : Nat) (L : Mo) (d : D) : markB n L d = true → isT d = true ∧ (itemsD d).length = 4 := fun h => by
  unfold markB at h
  simp only [Bool.and_eq_true, decide_eq_true_eq] at h
  exact ⟨h.1, h.2.1⟩
section
variable {P : Program} {w : World} {K : PySem.W.Frag} {mg : Str → Option Value} {base : Heap}
def S_ifpN : SpD := fun ds M Q => ∃ (n : Nat) (ms : List Mk) (x : Mo) (t v : D), ds = [msD ms, moD n x, t, v] ∧ ms.length < 9000 ∧ (v = .non ∨ v = .int 0 ∨ v = .tup [.int 0]) ∧ Q (.bl false) M
theorem d_ifpN (F : Df K mg "is_fit_paper" s_is_fit_paper ["marks", "moments", "fitted", "value"]) (B : Blt mg) : Cal P w K mg base 3 "is_fit_paper" 4 S_ifpN := by
  refine dfn' F sc_is_fit_paper rfl fun f cdv A outer s H E ds M Q hr hl hs => ?_
  obtain ⟨n, ms, x, t, v, rfl, hz, hv, q⟩ := hs
  have nd := sc_is_fit_paper.nd
  have lz : (ms.map mkD).length < sizeLine := by rw [List.length_map]; exact lt_i (by omega)
  rcases hv with rfl | rfl | rfl
  · exact wss_cons (ws_ifE (k := true) (ET.is (et_not (et_val (ee_isT B.isinstance B.tuple (ee_v 3 (d := .non) rfl) trivial))) rfl) (fun _ => wss_one (ws_ret (EE.to ee_bl q))) fun h => Bool.noConfusion h)
  · exact wss_cons (ws_ifE (k := true) (ET.is (et_not (et_val (ee_isT B.isinstance B.tuple (ee_v 3 (d := .int 0) rfl) trivial))) rfl) (fun _ => wss_one (ws_ret (EE.to ee_bl q))) fun h => Bool.noConfusion h)
  refine wss_cons (ws_ifE (k := false) (ET.is (et_not (et_val (ee_isT B.isinstance B.tuple (ee_v 3 (d := .tup [.int 0]) rfl) trivial))) rfl) (fun h => Bool.noConfusion h) fun _ => wss_nil ?_)
  refine wss_cons (ws_for PassesOwn.never rfl (Qi := fun es C M0 => es = [.int 0] ∧ M0 = M ∧ ∀ M1, C M1) (wi_tup (EE.to (ee_v 3 rfl) ⟨_, rfl, rfl, rfl, fun _ => trivial⟩)) fun es C M0 ⟨e1, e2, hC⟩ => ?_)
  subst e1; subst e2
  refine ⟨fun i sg1 M1 => i = 0 ∧ M1 = M0 ∧ sg1 = [some (msD ms), some (moD n x), some t, some (.tup [.int 0]), none, none], ⟨rfl, rfl, rfl⟩, fun i sg1 M1 _ => hC _, fun i d sg1 M1 he ⟨e0, e, hg⟩ => ?_, fun sg1 M1 ⟨e0, e, hg⟩ => (by cases e0)⟩
  subst e0; subst e; subst hg
  have he := Option.some.inj he
  subst he
  refine ⟨_, _, wg_name 4 nd, wss_cons (ws_ifE (k := true) (ww_pt (ew_is (ew_or (p := true) (q := true) (ET.is (et_not (et_val (ee_cb (cr_any rfl) B.any bi_any (ea_cons (ee_lc1 5 (ds := ms.map mkD) (fun d => .bl false) rfl nd (wi_tup (EE.to (ee_v 0 rfl) ⟨_, rfl, rfl, rfl, trivial⟩)) lz (fun j d hd => ?_)) ea_nil) (cd_any (bs := ms.map fun μ => false) (.inl ?_) ⟨rfl, rfl⟩)))) ?_) fun h => Bool.noConfusion h) rfl)) (fun _ => wss_one (ws_ret (EE.to ee_bl q))) fun h => Bool.noConfusion h)⟩
  · obtain ⟨μ, hμ, rfl⟩ := at_map hd
    exact fun s H C cl fp => EE.is (ee_cmp (op_eqD hr.units) (ee_v 5 rfl) (ee_v 4 rfl) (od_eqD (pydT (mkI μ)) (.inl ⟨rfl, rfl⟩) (shapedT_int _) (by decide) ⟨rfl, rfl⟩)) (by show D.bl (PyData.eqv (.tuple ((mkI μ).map PyData.int)) (.int 0)) = D.bl false; simp [PyData.eqv])
  · rw [List.map_map, List.map_map]
    rfl
  · rw [Bool.not_eq_true', List.any_map]
    exact List.any_eq_false.mpr fun _ _ h => Bool.noConfusion h
def S_lare : SpD := fun ds M Q => ∃ (n : Nat) (L : Mo) (x : D), ds = [moD n L, x] ∧ wf 900 7 x = true ∧ 1 ≤ n ∧ n ≤ 3 ∧ msum n L ≤ 12 ∧ ∀ M', Up M M' → Q (.bl (marksB n L x)) M'
theorem d_lare (F : Df K mg "_law_are_marks" s_law_are_marks ["lasts", "value"]) (B : Blt mg) (C1 : Cal P w K mg base 1 "_law_whole" 3 S_num) (C2 : Cal P w K mg base 1 "_law_reached" 3 S_reached) : Cal P w K mg base 2 "_law_are_marks" 2 S_lare := by
  refine dfn' F sc_law_are_marks rfl fun f cdv A outer s H E ds M Q hr hl hs => ?_
  obtain ⟨n, L, x, rfl, hw, n0, n1, hS, q⟩ := hs
  have nd := sc_law_are_marks.nd
  have ln : ((moI n L).map D.int).length = n := by rw [List.length_map, moI_len]
  have q0 := q M (Up.refl M)
  refine wss_cons (ws_ifE (k := !(isT x && (itemsD x).all fun d => isT d && decide ((itemsD d).length = 4))) (ET.is (ww_pt (ew_or (q := !(itemsD x).all fun d => isT d && decide ((itemsD d).length = 4)) (et_not (et_val (ee_isT B.isinstance B.tuple (ee_v 1 rfl) (pl_lk M (wf_pl hw))))) fun h => ww_or1 ?_)) (by simp only [Bool.not_and])) (fun h => ?_) fun h => wss_nil ?_)
  · obtain ⟨ds, rfl⟩ := isT_of (by simpa using h)
    refine et_not (et_val (ee_cb (cr_all rfl) B.all bi_all (ea_cons (ee_lc1 2 (ds := ds) (fun d => .bl (isT d && decide ((itemsD d).length = 4))) rfl nd (wi_tup (EE.to (ee_v 1 rfl) ⟨_, rfl, rfl, rfl, trivial⟩)) (lt1000 (Nat.lt_of_le_of_lt (wf_tup hw).1 (by decide))) fun j d hd => fun s H C cl fp => ?_) ea_nil) (cd_all (bs := ds.map fun d => isT d && decide ((itemsD d).length = 4)) (.inl (by rw [List.map_map]; rfl)) ⟨by rw [List.all_map]; rfl, rfl⟩)))
    refine ee_and (q := decide ((itemsD d).length = 4)) (ee_isT B.isinstance B.tuple (ee_v 2 rfl) (pl_lk M (wf_pl (wf_it hw hd)))) fun h => we_one ?_
    obtain ⟨es, rfl⟩ := isT_of h
    exact EE.is (ee_eqI (ee_cb call_len B.len bi_len (ea_cons (ee_v 2 rfl) ea_nil) (cd_lenT ⟨rfl, rfl⟩)) ee_int) (congrArg D.bl (decide_eq_decide.mpr (by show ((es.length : Int) = 4) ↔ (es.length = 4); omega)))
  · have e : marksB n L x = false := by
      cases c : marksB n L x with
      | false => rfl
      | true =>
        unfold marksB at c
        simp only [Bool.and_eq_true] at c
        rw [c.1, Bool.true_and, Bool.not_eq_true'] at h
        rw [← h]
        refine (List.all_eq_true.mpr fun d hd => ?_).symm
        obtain ⟨a, b⟩ := four_is n L d (List.all_eq_true.mp c.2.1 d hd)
        rw [a, b]
        rfl
    rw [e] at q0
    exact wss_one (ws_ret (EE.to ee_bl q0))
  simp only [Bool.not_eq_false', Bool.and_eq_true] at h
  obtain ⟨h1, h2⟩ := h
  obtain ⟨ds, rfl⟩ := isT_of h1
  have h2 : ∀ d ∈ ds, (isT d && decide ((itemsD d).length = 4)) = true := List.all_eq_true.mp h2
  refine wss_cons (ws_for PassesOwn.never rfl (Qi := fun es C M0 => es = ds ∧ M0 = M ∧ ∀ M1, C M1) (wi_tup (EE.to (ee_v 1 rfl) ⟨_, rfl, rfl, rfl, fun _ => trivial⟩)) fun es C M0 ⟨e1, e2, hC⟩ => ?_)
  subst e1; subst e2
  refine ⟨fun i sg1 M1 => (es.take i).all (markB n L) = true ∧ M1 = M0 ∧ Fg [some (moD n L), some (.tup es), none, none, none, none, none] sg1, ⟨rfl, rfl, ⟨rfl, rfl, trivial⟩⟩, fun i sg1 M1 _ => hC _, fun i d sg1 M1 he ⟨e0, e, hg⟩ => ?_, fun sg1 M1 ⟨e0, e, hg⟩ => ?_⟩
  · subst e
    have hm := h2 d (List.mem_of_getElem? he)
    simp only [Bool.and_eq_true, decide_eq_true_eq] at hm
    obtain ⟨as, rfl⟩ := isT_of hm.1
    obtain ⟨a, b, c, d, rfl⟩ := four_of hm.2
    have hwd := wf_it hw he
    have wa : pl a = true := wf_pl (wf_it (i := 0) hwd rfl)
    have wb : pl b = true := wf_pl (wf_it (i := 1) hwd rfl)
    have wc : pl c = true := wf_pl (wf_it (i := 2) hwd rfl)
    have wd : pl d = true := wf_pl (wf_it (i := 3) hwd rfl)
    have em : markB n L (.tup [a, b, c, d]) = (wholeB a 0 ((n : Int) - 1) && (wholeB c 0 ((n : Int) - 1) && (!decide (intOf a = intOf c) && (wholeB b 1 (Lat L a) && wholeB d 1 (Lat L c))))) := rfl
    refine ⟨_, _, wg_tup rfl (wgs_cons (wg_name 3 nd) (wgs_cons (wg_name 4 nd) (wgs_cons (wg_name 5 nd) (wgs_cons (wg_name 6 nd) wgs_nil)))), wss_fg (fg_set (fg_set (fg_set (fg_set hg 3 _) 4 _) 5 _) 6 _) ?_⟩
    show WSs _ _ [some (moD n L), some (.tup es), none, some a, some b, some c, some d] _ _
    have nm : ∀ {sg : Sg} {M : Mem} {p1 p2 p3 p4 p5 : Pos} {j : Nat}, sg[0]? = some (some (moD n L)) → EE (cxOf CX0 P w K mg base ["lasts", "value", "mark", "one", "at", "other", "met"] "_law_are_marks" (defScope s_law_are_marks) f cdv A outer s H E).nox (.BinOp (.Call (.Name "len" p1) [.Name "lasts" p2] [] p3) .Sub (.Constant (.int 1) j p4) p5) sg M (.int ((n : Int) - 1)) := fun hs => EE.is (ee_sub (ee_cb call_len B.len bi_len (ea_cons (ee_v 0 hs) ea_nil) (cd_lenT ⟨rfl, rfl⟩)) ee_int) (by rw [ln])
    refine wss_one (ws_ifE (k := !markB n L (.tup [a, b, c, d])) (ET.is (ww_pt (ew_or (q := !(wholeB c 0 ((n : Int) - 1) && (!decide (intOf a = intOf c) && (wholeB b 1 (Lat L a) && wholeB d 1 (Lat L c))))) (et_not (et_val (we_call C1 (hr.mono (by omega)) (EA.to (ea_cons (ee_v 3 rfl) (ea_cons ee_int (ea_cons (nm rfl) ea_nil))) ⟨rfl, a, 0, _, rfl, wa, rfl, rfl⟩)))) fun h => ?_)) (by rw [em]; simp only [Bool.not_and])) (fun h => ?_) fun h => wss_nil ?_)
    · obtain ⟨i', rfl, i0, i1⟩ := whole_of (by simpa using h) (by decide)
      refine ew_is (ew_or (q := !(!decide (intOf (D.int (i' : Int)) = intOf c) && (wholeB b 1 (Lat L (.int (i' : Int))) && wholeB d 1 (Lat L c)))) (et_not (et_val (we_call C1 (hr.mono (by omega)) (EA.to (ea_cons (ee_v 5 rfl) (ea_cons ee_int (ea_cons (nm rfl) ea_nil))) ⟨rfl, c, 0, _, rfl, wc, rfl, rfl⟩)))) fun h => ?_) (by rw [← Bool.not_and])
      obtain ⟨j', rfl, j0, j1⟩ := whole_of (by simpa using h) (by decide)
      have e1 : Lat L (.int (i' : Int)) = (L i' : Int) := by show (L ((i' : Int)).toNat : Int) = _; rw [Int.toNat_natCast]
      have e2 : Lat L (.int (j' : Int)) = (L j' : Int) := by show (L ((j' : Int)).toNat : Int) = _; rw [Int.toNat_natCast]
      rw [e1, e2]
      refine ew_is (ew_or (q := !(wholeB b 1 (L i' : Int) && wholeB d 1 (L j' : Int))) (et_eqI (ee_v 3 rfl) (ee_v 5 rfl)) fun _ => ew_is (ew_or (q := !wholeB d 1 (L j' : Int)) (et_not (et_val (we_call C1 (hr.mono (by omega)) (EA.to (ea_cons (ee_v 4 rfl) (ea_cons ee_int (ea_cons (ee_ix ix_tup (ee_v 0 rfl) (ee_v 3 rfl) (od_ixT (moD_at (j := i') (by omega)) ⟨rfl, rfl⟩)) ea_nil))) ⟨rfl, b, 1, (L i' : Int), rfl, wb, rfl, rfl⟩)))) fun _ => ww_or1 (et_not (et_val (we_call C1 (hr.mono (by omega)) (EA.to (ea_cons (ee_v 6 rfl) (ea_cons ee_int (ea_cons (ee_ix ix_tup (ee_v 0 rfl) (ee_v 5 rfl) (od_ixT (moD_at (j := j') (by omega)) ⟨rfl, rfl⟩)) ea_nil))) ⟨rfl, d, 1, (L j' : Int), rfl, wd, rfl, rfl⟩))))) (by rw [← Bool.not_and])) ?_
      show (decide ((i' : Int) = (j' : Int)) || !(wholeB b 1 (L i' : Int) && wholeB d 1 (L j' : Int))) = !(!decide ((i' : Int) = (j' : Int)) && (wholeB b 1 (L i' : Int) && wholeB d 1 (L j' : Int)))
      simp only [Bool.not_and, Bool.not_not]
    · have e : marksB n L (.tup es) = false := by
        cases c : marksB n L (.tup es) with
        | false => rfl
        | true =>
          unfold marksB at c
          simp only [Bool.and_eq_true] at c
          have := List.all_eq_true.mp c.2.1 _ (List.mem_of_getElem? he)
          rw [this] at h
          cases h
      rw [e] at q0
      exact wss_one (ws_ret (EE.to ee_bl q0))
    · refine ⟨?_, rfl, ⟨rfl, rfl, trivial⟩⟩
      rw [List.take_add_one, he, List.all_append, e0]
      rw [Bool.not_eq_false'] at h
      simp [h]
  · subst e
    rw [List.take_length] at e0
    refine wss_fg hg ?_
    obtain ⟨e1, v, _⟩ := marks_of e0
    have lds := (wf_tup hw).1
    have eq : marksB n L (.tup es) = (greedy (es.map unD) n (msum n L) z0 L).isSome := by
      show (true && (es.all (markB n L) && (greedy (es.map unD) n (msum n L) z0 L).isSome)) = _
      rw [e0]
      rfl
    rw [eq] at q
    have hu : (cxOf CX0 P w K mg base ["lasts", "value", "mark", "one", "at", "other", "met"] "_law_are_marks" (defScope s_law_are_marks) f cdv A outer s H E).nox.A.units + 1 < cLine := Nat.lt_of_le_of_lt (Nat.add_le_add_left (show 1 ≤ 65 by decide) _) (units65 hr)
    have ev : ∀ {p1 : Pos}, EE (cxOf CX0 P w K mg base ["lasts", "value", "mark", "one", "at", "other", "met"] "_law_are_marks" (defScope s_law_are_marks) f cdv A outer s H E).nox (.Name "value" p1) [some (moD n L), some (.tup es), none, none, none, none, none] M1 (msD (es.map unD)) := EE.is (ee_v 1 rfl) (congrArg D.tup e1)
    refine wss_one (ws_ret (we_din hu (EE.to (ee_ct call_tuple_of B.tuple bi_tuple (ea_cons (ee_v 0 rfl) ea_nil) (cd_tupT ⟨rfl, rfl⟩)) (we_call C2 (hr.mono (by omega)) (EA.to (ea_cons (ee_v 0 rfl) (ea_cons ev (ea_cons (EE.is (d' := moD n z0) (ee_op op_repA (ee_tup (ea_cons ee_int ea_nil)) (ee_cb call_len B.len bi_len (ea_cons (ee_v 0 rfl) ea_nil) (cd_lenT ⟨rfl, rfl⟩)) (od_repA (by omega) (by omega) (by exact Nat.le_of_ble_eq_true rfl) ⟨rfl, rfl⟩)) ?_) ea_nil))) ⟨rfl, n, es.map unD, z0, L, rfl, v, fun _ _ => Nat.zero_le _, n0, n1, hS, by rw [List.length_map]; omega, fun p kvs hp hk => ⟨p, dkv kvs, moI n L, rfl, rfl, updM_same, ?_⟩⟩)))))
    · rw [ln, Int.toNat_natCast, rep_moI]
      rfl
    · rw [gt_dkv, hk L fun _ _ => Nat.le_refl _]
      have e3 : ((greedy (es.map unD) n (left n z0 L) z0 L).map tupD).isSome = (greedy (es.map unD) n (msum n L) z0 L).isSome := by
        show _ = (greedy (es.map unD) n (left n z0 L) z0 L).isSome
        cases greedy (es.map unD) n (left n z0 L) z0 L <;> rfl
      rw [e3]
      exact q _ (Up.new hp)
end
end K46
set_option Elab.async false
set_option linter.all false
set_option maxRecDepth 100000
set_option maxHeartbeats 4000000
namespace DL
open PySem L2 PyProof.Rows
/-- str(i) -/
theorem cd_strI {K : PySem.W.Frag} {i : Int} {M : Mem} {Q : D → Mem → Prop} (h : i.natAbs.log2 < 1920) (q : Q (.str (toString i)) M) : ClD K (fun xs H Q => ∃ i, xs = [V.int i] ∧ i.natAbs.log2 < 1920 ∧ Q (.str (toString i)) H) [.int i] M Q := fun G H vs R w r k => by
  obtain ⟨v, rfl, rv⟩ := r.one
  cases rv
  exact ⟨i, rfl, h, k _ _ (PV.here w (.str _) q)⟩
end DL
namespace K46
open PySem L2 PyProof.Rows DL
/-! ### _law_bent: of ints and tuples -/
def bp (L : Nat) : Nat → D → Bool
  | 0, _ => false
  | n + 1, .tup ds => decide (ds.length ≤ L) && ds.all (bp L n)
  | _ + 1, .int i => decide (0 ≤ i) && decide (i ≤ 999999)
  | _ + 1, _ => false
theorem bp_wf {L : Nat} : ∀ {n : Nat} {d : D}, bp L n d = true → wf L n d = true
  | 0, _, h => by cases h
  | n + 1, .tup ds, h => by
    have q := Bool.and_eq_true_iff.mp h
    exact tup_wf (of_decide_eq_true q.1) fun d hd => bp_wf (List.all_eq_true.mp q.2 d hd)
  | n + 1, .int i, h => rfl
  | n + 1, .non, h => by cases h
  | n + 1, .bl _, h => by cases h
  | n + 1, .str _, h => by cases h
  | n + 1, .lst _, h => by cases h
  | n + 1, .ptr _, h => by cases h
  | n + 1, .scr _, h => by cases h
section
variable {P : Program} {w : World} {K : PySem.W.Frag} {mg : Str → Option Value} {base : Heap}
def S_bent (L n : Nat) : SpD := fun ds M Q => ∃ (p c : Addr) (v : D), ds = [.ptr p, v] ∧ Bx M p c ∧ bp L n v = true ∧ ∀ d M', wf (L + 1) (n + 3) d = true → Bx M' p c → Els M M' p c → Q d M'
theorem d_bent_step {L n : Nat} (hL : 2 ≤ L) (hL2 : L ≤ 800) (F : Df K mg "_law_bent" s_law_bent ["box", "value"]) (B : Blt mg) (C1 : Cal P w K mg base 2 "_law_draw" 2 S_draw) (C2 : Cal P w K mg base (n + 2) "_law_bent" 2 (S_bent L n)) : Cal P w K mg base (n + 3) "_law_bent" 2 (S_bent L (n + 1)) := by
  refine dfn' F sc_law_bent rfl fun f cdv A outer s H E ds M Q hr hl hs => ?_
  obtain ⟨p, c, v, rfl, hB, hv, q⟩ := hs
  have nd := sc_law_bent.nd
  have hr2 : Room 2 (A.deeper (envOfC "_law_bent" (defScope s_law_bent) s.heap.objs.size f cdv)) := hr.mono (by omega)
  have lv : ∀ M, LkD M v := fun M => pl_lk M (wf_pl (bp_wf hv))
  -- one of eight
  have fin : ∀ (o : Option D) (M1 : Mem) (r : Nat) (rs : List D) (e : Expr) (p1 p2 : Pos), Bx M1 p c → Els M M1 p c → r < 8 → rs.length = 8 → (∀ d ∈ rs, wf (L + 1) (n + 1 + 3) d = true) → EE (cxOf CX0 P w K mg base ["box", "value", "at", "pick"] "_law_bent" (defScope s_law_bent) f cdv A outer s H E).nox e [some (.ptr p), some v, o, some (.int (r : Int))] M1 (.lst rs) → WE (cxOf CX0 P w K mg base ["box", "value", "at", "pick"] "_law_bent" (defScope s_law_bent) f cdv A outer s H E).nox (.Subscript e (.Name "pick" p1) p2) [some (.ptr p), some v, o, some (.int (r : Int))] M1 Q := fun o M1 r rs e p1 p2 h1 hE1 hr8 hz hw he => by
    have hlt : r < rs.length := by omega
    exact ee_ix ix_list he (ee_v 3 rfl) (od_ixL (.inl rfl) (atI_nat (List.getElem?_eq_getElem hlt)) (q _ _ (hw _ (List.getElem_mem hlt)) h1 hE1))
  -- behind the first if
  have rest : ∀ (o : Option D) (M1 : Mem), Bx M1 p c → Els M M1 p c → WSs (cxOf CX0 P w K mg base ["box", "value", "at", "pick"] "_law_bent" (defScope s_law_bent) f cdv A outer s H E).nox ((defBody s_law_bent).drop 1) [some (.ptr p), some v, o, none] M1 { nx := fun _ M' => Q .non M', rt := Q } := fun o M0 h0 hE0 => by
    refine wss_cons (ws_set 3 nd (we_call C1 hr2 (EA.to (ea_cons (ee_v 0 rfl) (ea_cons ee_int ea_nil)) ⟨rfl, p, c, 8, rfl, h0, by decide, by decide, fun r M1 r0 r1 h1 hE => ?_⟩)))
    obtain ⟨r, rfl⟩ : ∃ j : Nat, r = (j : Int) := ⟨r.toNat, by omega⟩
    have hE1 := hE0.trans hE
    have r8 : r < 8 := by omega
    refine wss_cons (ws_ifE (et_val (ee_isT B.isinstance B.tuple (ee_v 1 rfl) (lv _))) (fun h => ?_) fun j1 => wss_nil ?_)
    · obtain ⟨ds, rfl⟩ := isT_of h
      obtain ⟨hz, hw⟩ := wf_tup (bp_wf hv)
      have c1 := cut_len ds none (some 1)
      have c1' : (DL.cutD ds none (some 1)).length ≤ 1 := by
        rw [show (1 : Int) = ((1 : Nat) : Int) from rfl, cut_toN, List.length_take]
        omega
      have up : ∀ x ∈ ds, wf (L + 1) (n + 3) x = true := fun x hx => wf_mono (by omega) (by omega) (hw x hx)
      have up2 : ∀ x ∈ ds, wf (L + 1) (n + 2) x = true := fun x hx => wf_mono (by omega) (by omega) (hw x hx)
      refine wss_one (ws_ret (fin _ _ r _ _ _ _ h1 hE1 r8 ?_ ?_ (ee_lst (ea_cons (ee_op op_catA (ee_v 1 rfl) (ee_sl sl_tupA (ee_v 1 rfl) eo_none (eo_some ee_int) (sd_tup ⟨rfl, rfl⟩)) (od_catT (Nat.le_trans (show _ ≤ 2000 by omega) (by decide)) ⟨rfl, rfl⟩)) (ea_cons (ee_sl sl_tupA (ee_v 1 rfl) (eo_some ee_int) eo_none (sd_tup ⟨rfl, rfl⟩)) (ea_cons (we_revT (EE.to (ee_v 1 rfl) ⟨ds, rfl, rfl, rfl⟩)) (ea_cons (ee_op op_catA (ee_v 1 rfl) (ee_tup (ea_cons ee_int ea_nil)) (od_catT (Nat.le_trans (show _ + 1 ≤ 2000 by omega) (by decide)) ⟨rfl, rfl⟩)) (ea_cons (ee_tup (ea_cons (ee_v 1 rfl) ea_nil)) (ea_cons (ee_sl sl_tupA (ee_v 1 rfl) eo_none (eo_some (ee_neg ee_int)) (sd_tup ⟨rfl, rfl⟩)) (ea_cons ee_non (ea_cons (ee_op op_catA (ee_v 1 rfl) (ee_tup (ea_cons (ee_tup (ea_cons ee_int (ea_cons ee_int ea_nil))) ea_nil)) (od_catT (Nat.le_trans (show _ + 1 ≤ 2000 by omega) (by decide)) ⟨rfl, rfl⟩)) ea_nil)))))))))))
      · rfl
      · intro d hd
        simp only [List.mem_cons, List.not_mem_nil, or_false] at hd
        rcases hd with rfl | rfl | rfl | rfl | rfl | rfl | rfl | rfl
        · refine tup_wf (by rw [List.length_append]; omega) fun x hx => ?_
          rcases List.mem_append.mp hx with hx | hx
          · exact up x hx
          · exact up x (cut_sub hx)
        · exact tup_wf (by have := cut_len ds (some 1) none; omega) fun x hx => up x (cut_sub hx)
        · exact tup_wf (by rw [List.length_reverse]; omega) fun x hx => up x (List.mem_reverse.mp hx)
        · refine tup_wf (by rw [List.length_append]; show _ + 1 ≤ _; omega) fun x hx => ?_
          rcases List.mem_append.mp hx with hx | hx
          · exact up x hx
          · rw [List.mem_singleton.mp hx]; rfl
        · refine tup_wf (by show 1 ≤ L + 1; omega) fun x hx => ?_
          rw [List.mem_singleton.mp hx]
          exact tup_wf (by omega) up2
        · exact tup_wf (by have := cut_len ds none (some (-1)); omega) fun x hx => up x (cut_sub hx)
        · rfl
        · refine tup_wf (by rw [List.length_append]; show _ + 1 ≤ _; omega) fun x hx => ?_
          rcases List.mem_append.mp hx with hx | hx
          · exact up x hx
          · rw [List.mem_singleton.mp hx]
            refine tup_wf (by show 2 ≤ L + 1; omega) fun y hy => ?_
            simp only [List.mem_cons, List.not_mem_nil, or_false] at hy
            rcases hy with rfl | rfl <;> rfl
    · have hi : ∃ i, v = .int i := by cases v <;> first | exact ⟨_, rfl⟩ | exact absurd (show false = true from hv) Bool.false_ne_true | exact absurd (show false = true from j1.symm) Bool.false_ne_true
      obtain ⟨i, rfl⟩ := hi
      have hi9 : 0 ≤ i ∧ i ≤ 999999 := by
        have := Bool.and_eq_true_iff.mp (show (decide (0 ≤ i) && decide (i ≤ 999999)) = true from hv)
        exact ⟨of_decide_eq_true this.1, of_decide_eq_true this.2⟩
      refine wss_cons (ws_ifE (k := true) (ET.is (ww_pt (ew_and (et_val (ee_isI B.isinstance B.int (ee_v 1 rfl) (lv _))) fun _ => ww_and1 (et_not (et_val (ee_isB B.isinstance B.bool (ee_v 1 rfl) (lv _)))))) rfl) (fun _ => ?_) fun h => Bool.noConfusion h)
      refine wss_one (ws_ret (fin _ _ r _ _ _ _ h1 hE1 r8 ?_ ?_ (ee_lst (ea_cons (ee_add (ee_v 1 rfl) ee_int) (ea_cons (ee_sub (ee_v 1 rfl) ee_int) (ea_cons ee_int (ea_cons (ee_eqI (ee_v 1 rfl) ee_int) (ea_cons ee_non (ea_cons (ee_ct call_str_int B.str bi_str (ea_cons (ee_v 1 rfl) ea_nil) (cd_strI (small_log hi9.1 (by omega)) ⟨rfl, rfl⟩)) (ea_cons (ee_tup (ea_cons (ee_v 1 rfl) ea_nil)) (ea_cons (ee_add (ee_v 1 rfl) ee_int) ea_nil)))))))))))
      · rfl
      · intro d hd
        simp only [List.mem_cons, List.not_mem_nil, or_false] at hd
        rcases hd with rfl | rfl | rfl | rfl | rfl | rfl | rfl | rfl
        · rfl
        · rfl
        · rfl
        · rfl
        · rfl
        · rfl
        · refine tup_wf (by show 1 ≤ L + 1; omega) fun x hx => ?_
          rw [List.mem_singleton.mp hx]
          rfl
        · rfl
  have hr3 : Room (n + 2) (A.deeper (envOfC "_law_bent" (defScope s_law_bent) s.heap.objs.size f cdv)) := hr
  have R0 := rest none M hB (Els.refl _ _ _)
  refine wss_cons (ws_if (ww_pt (ww_and ((et_val (ee_isT B.isinstance B.tuple (ee_v 1 rfl) (lv _))).imp fun k M1 ⟨e1, e2⟩ => ?_))))
  subst e1; subst e2
  refine ⟨fun e => ⟨fun h => absurd h Bool.false_ne_true, fun _ => wss_nil R0⟩, fun e => ?_⟩
  obtain ⟨ds, rfl⟩ := isT_of e
  obtain ⟨hz, hw⟩ := wf_tup (bp_wf hv)
  refine ww_and ((et_gt (ee_cb call_len B.len bi_len (ea_cons (ee_v 1 rfl) ea_nil) (cd_lenT ⟨rfl, rfl⟩)) ee_int).imp fun k M2 ⟨e1, e2⟩ => ?_)
  subst e1; subst e2
  refine ⟨fun _ => ⟨fun h => absurd h Bool.false_ne_true, fun _ => wss_nil R0⟩, fun e0 => ?_⟩
  have hp0 : (0 : Int) < ds.length := of_decide_eq_true e0
  refine ww_and1 (wt_cmp op_gt (Qa := fun d M3 => ∃ r, d = .int r ∧ Bx M3 p c ∧ Els M2 M3 p c) (we_call C1 hr2 (EA.to (ea_cons (ee_v 0 rfl) (ea_cons ee_int ea_nil)) ⟨rfl, p, c, 5, rfl, hB, by decide, by decide, fun r M3 _ _ hB3 hE3 => ⟨r, rfl, hB3, hE3⟩⟩)) fun x M3 ⟨r, e1, hB3, hE3⟩ => EE.to ee_int ?_)
  subst e1
  refine od_B0 ⟨_, rfl, fun _ => ?_, fun _ => wss_nil (rest none M3 hB3 hE3)⟩
  -- the first if's body
  refine wss_cons (ws_set 2 nd (we_call C1 hr2 (EA.to (ea_cons (ee_v 0 rfl) (ea_cons (ee_cb call_len B.len bi_len (ea_cons (ee_v 1 rfl) ea_nil) (cd_lenT ⟨rfl, rfl⟩)) ea_nil)) ⟨rfl, p, c, _, rfl, hB3, hp0, by omega, fun r M4 r0 r1 hB4 hE4 => ?_⟩)))
  have up : ∀ x ∈ ds, wf (L + 1) (n + 3) x = true := fun x hx => wf_mono (by omega) (by omega) (hw x hx)
  have l1 := cut_len ds none (some r)
  have l2 := cut_len ds (some (r + 1)) none
  have l3 : (DL.cutD ds none (some r)).length + (DL.cutD ds (some (r + 1)) none).length + 1 ≤ ds.length := cut_two r0 r1
  have hE34 := hE3.trans hE4
  have hlt : r.toNat < ds.length := by omega
  have at_ : atI ds ((r.toNat : Nat) : Int) = some ds[r.toNat] := atI_nat (List.getElem?_eq_getElem hlt)
  rw [show ((r.toNat : Nat) : Int) = r by omega] at at_
  have hsp : bp L n ds[r.toNat] = true := List.all_eq_true.mp (Bool.and_eq_true_iff.mp hv).2 _ (List.getElem_mem hlt)
  refine wss_one (ws_ret (we_op op_catA (Qa := fun d M6 => ∃ y, wf (L + 1) (n + 3) y = true ∧ Bx M6 p c ∧ Els M2 M6 p c ∧ d = .tup (DL.cutD ds none (some r) ++ [y])) (we_op op_catA (Qa := fun d M6 => d = .tup (DL.cutD ds none (some r)) ∧ M6 = M4) (ee_sl sl_tupA (ee_v 1 rfl) eo_none (eo_some (ee_v 2 rfl)) (sd_tup ⟨rfl, rfl⟩)) fun x M6 ⟨e1, e2⟩ => ?_) fun x M6 ⟨y, hy, hB6, hE6, e1⟩ => ?_))
  · subst e1; subst e2
    refine we_tup (wa_cons (we_call C2 hr3 (EA.to (ea_cons (ee_v 0 rfl) (ea_cons (ee_ix ix_tup (ee_v 1 rfl) (ee_v 2 rfl) (od_ixT at_ ⟨rfl, rfl⟩)) ea_nil)) ⟨rfl, p, c, _, rfl, hB4, hsp, fun d M7 hd hB7 hE7 => ?_⟩)))
    refine wa_nil ⟨by exact small30, od_catT ?_ ⟨d, hd, hB7, hE34.trans hE7, rfl⟩⟩
    exact Nat.le_trans (show _ ≤ 2000 by show _ + 1 ≤ 2000; omega) (by decide)
  · subst e1
    refine EE.to (ee_sl sl_tupA (ee_v 1 rfl) (eo_some (ee_add (ee_v 2 rfl) ee_int)) eo_none (sd_tup ⟨rfl, rfl⟩)) (od_catT ?_ (q _ _ (tup_wf ?_ fun x hx => ?_) hB6 hE6))
    · rw [List.length_append]
      exact Nat.le_trans (show _ ≤ 2000 by show _ + 1 + _ ≤ 2000; omega) (by decide)
    · rw [List.length_append, List.length_append]; show _ + 1 + _ ≤ _; omega
    · rcases List.mem_append.mp hx with hx | hx
      · rcases List.mem_append.mp hx with hx | hx
        · exact up x (cut_sub hx)
        · rw [List.mem_singleton.mp hx]; exact hy
      · exact up x (cut_sub hx)
theorem d_bent0 {L : Nat} (F : Df K mg "_law_bent" s_law_bent ["box", "value"]) : Cal P w K mg base 2 "_law_bent" 2 (S_bent L 0) := by
  obtain ⟨f, fd, F, hm, hb⟩ := F
  have no : ∀ vs H R E, ¬ spD K 2 (S_bent L 0) vs H R E := fun vs H R E h => by
    obtain ⟨_, _, _, _, _, _, _, ⟨_, _, _, _, _, z, _⟩, _⟩ := h
    cases z
  exact ⟨f, fd, ["box", "value"], ⟨fun vs H R E h => absurd h (no vs H R E), fun A outer s H args us vs R E _ _ _ _ h => absurd h (no vs H R E)⟩, hm, F.kp, hb⟩
theorem d_bent {L : Nat} (hL : 2 ≤ L) (hL2 : L ≤ 800) (F : Df K mg "_law_bent" s_law_bent ["box", "value"]) (B : Blt mg) (C1 : Cal P w K mg base 2 "_law_draw" 2 S_draw) : ∀ n : Nat, Cal P w K mg base (n + 2) "_law_bent" 2 (S_bent L n)
  | 0 => d_bent0 F
  | n + 1 => d_bent_step hL hL2 F B C1 (d_bent hL hL2 F B C1 n)
end
end K46
set_option Elab.async false
set_option linter.all false
set_option maxRecDepth 100000
set_option maxHeartbeats 4000000
namespace K46
open PySem L2 PyProof.Rows DL
/-! ### the law's rows of moments: plain -/
def intsD (d : D) : List Int := (itemsD d).map intOf
def moR (r : List Int) : Mo := fun j => (r.getD j 0).toNat
theorem intsD_r (r : List Int) : intsD (rD r) = r := by
  show ((r.map D.int).map intOf) = r
  rw [List.map_map]
  exact (List.map_congr_left fun x _ => rfl).trans (List.map_id r)
theorem moR_at {n : Nat} {y : Mo} {j : Nat} (hj : j < n) : moR (moI n y) j = y j := by
  unfold moR
  rw [List.getD_eq_getElem?_getD, moI_at hj]
  show ((y j : Int)).toNat = y j
  rw [Int.toNat_natCast]
theorem moI_succ (i : Nat) (y : Mo) : moI (i + 1) y = moI i y ++ [(y i : Int)] := by
  unfold moI
  rw [List.range_succ, List.map_append]
  rfl
theorem all_iff {L : Mo} : ∀ {i : Nat} {r : List Int}, r ∈ allR L i ↔ ∃ y, leM i y L ∧ r = moI i y
  | 0, r => by
    show r ∈ [[]] ↔ _
    rw [List.mem_singleton]
    exact ⟨fun e => ⟨z0, fun j hj => absurd hj (Nat.not_lt_zero _), e⟩, fun ⟨y, _, e⟩ => e⟩
  | i + 1, r => by
    show r ∈ addR (L i) (allR L i) ↔ _
    unfold addR
    rw [List.mem_flatMap]
    constructor
    · intro ⟨r0, h0, h1⟩
      obtain ⟨m, hm, rfl⟩ := List.mem_map.mp h1
      obtain ⟨y, hy, rfl⟩ := all_iff.mp h0
      have hm := List.mem_range.mp hm
      refine ⟨fun j => if j = i then m else y j, fun j hj => ?_, ?_⟩
      · show (if j = i then m else y j) ≤ L j
        by_cases e : j = i
        · rw [if_pos e, e]; omega
        · rw [if_neg e]; exact hy j (by omega)
      · rw [moI_succ]
        have : moI i (fun j => if j = i then m else y j) = moI i y := moI_ext.mpr fun j hj => if_neg (by omega)
        rw [this, if_pos rfl]
    · intro ⟨y, hy, e⟩
      rw [moI_succ] at e
      exact ⟨moI i y, all_iff.mpr ⟨y, fun j hj => hy j (by omega), rfl⟩, List.mem_map.mpr ⟨y i, List.mem_range.mpr (by have := hy i (by omega); omega), e.symm⟩⟩
theorem row_of {n : Nat} {L : Mo} {r : List Int} (h : r ∈ allR L n) : moI n (moR r) = r ∧ leM n (moR r) L := by
  obtain ⟨y, hy, rfl⟩ := all_iff.mp h
  have e : moI n (moR (moI n y)) = moI n y := moI_ext.mpr fun j hj => moR_at hj
  exact ⟨e, hy.ext e.symm⟩
theorem rows_if (q : List Int → Bool) (l : List (List Int)) : ((l.map rD).filter fun d => q (intsD d)).map (fun d => d) = (l.filter q).map rD := by
  rw [List.map_id', List.filter_map]
  congr 1
  exact List.filter_congr fun r _ => by show q (intsD (rD r)) = q r; rw [intsD_r]
def leB (n : Nat) (x y : Mo) : Bool := (List.range n).all fun k => decide (x k ≤ y k)
theorem leB_iff {n : Nat} {x y : Mo} : leB n x y = true ↔ leM n x y := by
  unfold leB leM
  rw [List.all_eq_true]
  exact ⟨fun a j hj => of_decide_eq_true (a j (List.mem_range.mpr hj)), fun a j hj => decide_eq_true (a j (List.mem_range.mp hj))⟩
def FR (n : Nat) (ms : List Mk) (L : Mo) : List (List Int) := (allR L n).filter fun r => fitB ms (moR r)
def BR (n : Nat) (ms : List Mk) (L x : Mo) : List (List Int) := (FR n ms L).filter fun r => leB n (moR r) x
def AR (n : Nat) (ms : List Mk) (L x : Mo) : List (List Int) := (FR n ms L).filter fun r => leB n x (moR r)
section
variable {n : Nat} {ms : List Mk} {L x : Mo}
theorem FR_mem (v : Ms n ms) {r : List Int} : r ∈ FR n ms L ↔ ∃ y, leM n y L ∧ fits ms y ∧ r = moI n y := by
  unfold FR
  rw [List.mem_filter, fitB_iff]
  constructor
  · intro ⟨h, f⟩
    obtain ⟨e, hl⟩ := row_of h
    exact ⟨moR r, hl, f, e.symm⟩
  · intro ⟨y, hy, f, e⟩
    subst e
    exact ⟨all_iff.mpr ⟨y, hy, rfl⟩, fits_ext v (fun j hj => (moR_at hj).symm) f⟩
theorem FR_len (hL : ∀ j, j < n → L j ≤ 4) (hn : n ≤ 3) : (FR n ms L).length ≤ 125 := by
  unfold FR
  refine Nat.le_trans (List.length_filter_le _ _) (Nat.le_trans (allR_len hL n (Nat.le_refl _)) ?_)
  exact Nat.le_trans (Nat.pow_le_pow_right (n := 5) (j := 3) (by decide) hn) (by decide)
theorem BR_mem (v : Ms n ms) {r : List Int} : r ∈ BR n ms L x ↔ ∃ y, leM n y L ∧ fits ms y ∧ leM n y x ∧ r = moI n y := by
  unfold BR
  rw [List.mem_filter, FR_mem v, leB_iff]
  constructor
  · intro ⟨⟨y, a, b, e⟩, h⟩
    subst e
    exact ⟨y, a, b, fun j hj => by rw [← moR_at (y := y) hj]; exact h j hj, rfl⟩
  · intro ⟨y, a, b, h, e⟩
    subst e
    exact ⟨⟨y, a, b, rfl⟩, fun j hj => by rw [moR_at hj]; exact h j hj⟩
theorem AR_mem (v : Ms n ms) {r : List Int} : r ∈ AR n ms L x ↔ ∃ y, leM n y L ∧ fits ms y ∧ leM n x y ∧ r = moI n y := by
  unfold AR
  rw [List.mem_filter, FR_mem v, leB_iff]
  constructor
  · intro ⟨⟨y, a, b, e⟩, h⟩
    subst e
    exact ⟨y, a, b, fun j hj => by rw [← moR_at (y := y) hj]; exact h j hj, rfl⟩
  · intro ⟨y, a, b, h, e⟩
    subst e
    exact ⟨⟨y, a, b, rfl⟩, fun j hj => by rw [moR_at hj]; exact h j hj⟩
abbrev gfx (n : Nat) (ms : List Mk) (x : Mo) : Mo := gf ms (msum n x) x
abbrev lfx (n : Nat) (ms : List Mk) (L x : Mo) : Mo := lf ms (left n x L) x
theorem gfx_le (v : Ms n ms) (hx : leM n x L) : leM n (gfx n ms x) L := fun j hj => Nat.le_trans ((gf_most v x).2.1 j) (hx j hj)
theorem gfx_mem (v : Ms n ms) (hx : leM n x L) : moI n (gfx n ms x) ∈ BR n ms L x := (BR_mem v).mpr ⟨_, gfx_le v hx, (gf_most v x).1, fun j _ => (gf_most v x).2.1 j, rfl⟩
theorem lfx_ok (v : Ms n ms) (ht : ∀ μ ∈ ms, μ.t ≤ L μ.o) (hx : leM n x L) : fits ms (lfx n ms L x) ∧ (∀ j, x j ≤ lfx n ms L x j) ∧ (∀ j, j < n → lfx n ms L x j ≤ L j) ∧ ∀ y, fits ms y → (∀ j, j < n → x j ≤ y j) → ∀ j, j < n → lfx n ms L x j ≤ y j := lf_ok v ht (left n x L) x (Nat.le_refl _) hx
theorem lfx_mem (v : Ms n ms) (ht : ∀ μ ∈ ms, μ.t ≤ L μ.o) (hx : leM n x L) : moI n (lfx n ms L x) ∈ AR n ms L x := (AR_mem v).mpr ⟨_, (lfx_ok v ht hx).2.2.1, (lfx_ok v ht hx).1, fun j _ => (lfx_ok v ht hx).2.1 j, rfl⟩
def col (k : Nat) (rs : List (List Int)) : List Int := rs.map fun r => r.getD k 0
theorem col_moI {k : Nat} {y : Mo} (hk : k < n) : (moI n y).getD k 0 = (y k : Int) := by
  rw [List.getD_eq_getElem?_getD, moI_at hk]
  rfl
theorem col_max (v : Ms n ms) (hx : leM n x L) {k : Nat} (hk : k < n) {m : Int} (hm : m ∈ col k (BR n ms L x)) (h : ∀ y ∈ col k (BR n ms L x), y ≤ m) : m = (gfx n ms x k : Int) := by
  obtain ⟨r, hr, rfl⟩ := List.mem_map.mp hm
  obtain ⟨y, a, b, c, rfl⟩ := (BR_mem v).mp hr
  have h1 := h _ (List.mem_map.mpr ⟨_, gfx_mem v hx, rfl⟩)
  rw [col_moI hk, col_moI hk] at h1
  rw [col_moI hk]
  have h2 := (gf_most v x).2.2 y b c k hk
  have : gfx n ms x k = gf ms (msum n x) x k := rfl
  omega
theorem col_min (v : Ms n ms) (ht : ∀ μ ∈ ms, μ.t ≤ L μ.o) (hx : leM n x L) {k : Nat} (hk : k < n) {m : Int} (hm : m ∈ col k (AR n ms L x)) (h : ∀ y ∈ col k (AR n ms L x), m ≤ y) : m = (lfx n ms L x k : Int) := by
  obtain ⟨r, hr, rfl⟩ := List.mem_map.mp hm
  obtain ⟨y, a, b, c, rfl⟩ := (AR_mem v).mp hr
  have h1 := h _ (List.mem_map.mpr ⟨_, lfx_mem v ht hx, rfl⟩)
  rw [col_moI hk, col_moI hk] at h1
  rw [col_moI hk]
  have h2 := (lfx_ok v ht hx).2.2.2 y b c k hk
  have : lfx n ms L x k = lf ms (left n x L) x k := rfl
  omega
/-- what is reached is just what fits -/
theorem reach_fit (v : Ms n ms) (r : ∃ ks, Run ms n z0 ks L) {y : Mo} (hy : leM n y L) : (greedy ms n (left n z0 y) z0 y).isSome = fitB ms y := by
  obtain ⟨ks, r⟩ := r
  rw [Bool.eq_iff_iff, fitB_iff, fit_iff v r hy, Option.isSome_iff_exists]
  constructor
  · intro ⟨a, h⟩
    exact ⟨a, greedy_none v _ h⟩
  · intro h
    obtain ⟨a, g, _⟩ := greedy_ok v (left n z0 y) (Nat.le_refl _) h
    exact ⟨a, g⟩
/-- from what is reached all the rest can be -/
theorem reach_on (v : Ms n ms) (r : ∃ ks, Run ms n z0 ks L) {y : Mo} (hy : leM n y L) : ∃ b, greedy ms n (left n y L) y L = some b := by
  obtain ⟨ks, r⟩ := r
  obtain ⟨ks', r'⟩ := r.onward v (x := y)
  obtain ⟨b, g, _⟩ := greedy_ok v (left n y L) (Nat.le_refl _) ⟨ks', r'.ext v (fun j hj => Nat.zero_max _) fun j hj => Nat.max_eq_left (hy j hj)⟩
  exact ⟨b, g⟩
theorem msum_12 (hn : n ≤ 3) (hL : ∀ j, j < n → L j ≤ 4) : msum n L ≤ 12 := by
  have h := msum_le (n := n) (x := L) (y := fun _ => 4) hL
  have : ∀ m, m ≤ 3 → msum m (fun _ => 4) ≤ 12 := by decide
  exact Nat.le_trans h (this n hn)
theorem moI_list (l : List Nat) : moI l.length (fun j => l.getD j 0) = nI l := by
  apply List.ext_getElem?
  intro i
  unfold nI
  rw [List.getElem?_map]
  by_cases h : i < l.length
  · rw [moI_at h, List.getElem?_eq_getElem h, List.getD_eq_getElem?_getD, List.getElem?_eq_getElem h]
    rfl
  · rw [List.getElem?_eq_none (by rw [moI_len]; omega), List.getElem?_eq_none (by omega)]
    rfl
end
end K46
set_option Elab.async false
set_option linter.all false
set_option maxRecDepth 100000
set_option maxHeartbeats 4000000
namespace K46
open PySem L2 PyProof.Rows DL
/-! ### the law's body: what it calls; lasts, marks, what is reached -/
abbrev NL : List Str := ["script", "box", "turn", "lasts", "source", "marks", "reached", "fits", "moments", "step", "last", "below", "one", "k", "above", "most", "few", "order", "ways", "paper", "bad", "value", "other", "both", "back", "mark"]
structure CL (P : Program) (w : World) (K : PySem.W.Frag) (mg : Str → Option Value) (base : Heap) : Prop where
  B : Blt mg
  box : Cal P w K mg base 1 "_law_box" 1 S_box
  draw : Cal P w K mg base 2 "_law_draw" 2 S_draw
  same : Cal P w K mg base 3 "_law_same" 2 (S_same 3)
  bent : Cal P w K mg base 5 "_law_bent" 2 (S_bent 100 3)
  course : Cal P w K mg base 3 "_law_course" 2 S_course
  allm : Cal P w K mg base 2 "_law_all" 1 S_allm
  reached : Cal P w K mg base 1 "_law_reached" 3 S_reached
  lare : Cal P w K mg base 2 "_law_are_marks" 2 S_lare
  are : Cal P w K mg base 4 "are_marks" 2 S_are
  all_ : Cal P w K mg base 3 "order_of_all" 2 S_all
  fit : Cal P w K mg base 2 "do_fit" 2 S_fit
  great : Cal P w K mg base 2 "greatest_fit" 2 S_great
  least : Cal P w K mg base 2 "least_fit" 2 S_least
  through : Cal P w K mg base 3 "order_through" 3 S_through
  paper : Cal P w K mg base 3 "fit_paper" 2 S_paper
  ifp : Cal P w K mg base 3 "is_fit_paper" 4 S_ifp
  ifpN : Cal P w K mg base 3 "is_fit_paper" 4 S_ifpN
  agree : Cal P w K mg base 3 "agree" 3 S_agree
abbrev XL (P : Program) (w : World) (K : PySem.W.Frag) (mg : Str → Option Value) (base : Heap) (f : Addr) (cdv : Value) (A : Around) (outer : List Env) (s : Shared) (H : Hp) (E : XK) : Cx := (cxOf CX0 P w K mg base NL "law" (defScope s_law) f cdv A outer s H E).nox
abbrev turnB : List Stmt := forBody ((defBody s_law).getD 1 (.Pass ⟨0, 0, 0, 0⟩))
abbrev stepL : List Stmt := forBody (turnB.getD 6 (.Pass ⟨0, 0, 0, 0⟩))
structure Okw (n : Nat) (ms : List Mk) (L : Mo) : Prop where
  n0 : 2 ≤ n
  n1 : n ≤ 3
  l1 : ∀ j, j < n → 1 ≤ L j
  l4 : ∀ j, j < n → L j ≤ 4
  told : Told n ms L
  run : ∃ ks, Run ms n z0 ks L
  len : ms.length ≤ 64
structure St (M : Mem) (p c rp : Addr) (n : Nat) (ms : List Mk) (L : Mo) : Prop where
  bx : Bx M p c
  ne1 : rp ≠ p
  ne2 : rp ≠ c
  kv : ∃ kvs : KW, M rp = some (.dit (dkv kvs)) ∧ ∀ y, leM n y L → get kvs (moI n y) = greedy ms n (left n z0 y) z0 y
theorem St.els {M M' : Mem} {p c rp : Addr} {n : Nat} {ms : List Mk} {L : Mo} (h : St M p c rp n ms L) (hB : Bx M' p c) (hE : Els M M' p c) : St M' p c rp n ms L := ⟨hB, h.ne1, h.ne2, by rw [hE rp h.ne1 h.ne2]; exact h.kv⟩
theorem Bx.up {M M' : Mem} {p c : Addr} (h : Bx M p c) (u : Up M M') : Bx M' p c := by
  obtain ⟨cs, x, y, hp, hc, r⟩ := h
  exact ⟨cs, x, y, u _ _ hp, u _ _ hc, r⟩
theorem St.up {M M' : Mem} {p c rp : Addr} {n : Nat} {ms : List Mk} {L : Mo} (h : St M p c rp n ms L) (u : Up M M') : St M' p c rp n ms L := by
  obtain ⟨kvs, a, b⟩ := h.kv
  exact ⟨h.bx.up u, h.ne1, h.ne2, kvs, u _ _ a, b⟩
section
variable {P : Program} {w : World} {K : PySem.W.Frag} {mg : Str → Option Value} {base : Heap} {f : Addr} {cdv : Value} {A : Around} {outer : List Env} {s : Shared} {H : Hp} {E : XK} {sg : Sg} {M : Mem} {pos pos' : Pos}
theorem ee_same {a b : Expr} {x y : D} (L : CL P w K mg base) (hr : Room 5 (XL P w K mg base f cdv A outer s H E).A) (ha : EE (XL P w K mg base f cdv A outer s H E) a sg M x) (hb : EE (XL P w K mg base f cdv A outer s H E) b sg M y) (hx : wf 900 3 x = true) (hy : wf 900 3 y = true) (na : nst a = true := by rfl) (nb : nst b = true := by rfl) : EE (XL P w K mg base f cdv A outer s H E) (.Call (.Name "_law_same" pos) [a, b] [] pos') sg M (.bl (eqD x y)) :=
  we_call L.same (hr.mono (by omega)) (EA.to (ea_cons ha (ea_cons hb ea_nil (hs := star1 nb)) (hs := star1 na)) ⟨rfl, x, y, rfl, hx, hy, rfl, rfl⟩) (he := star1 na) (hpl := starN (by show (nst b && true) = true; rw [nb]; rfl))
theorem a_draw {a : Expr} {m : Int} {Q : D → Mem → Prop} {p c : Addr} {p1 p2 p4 : Pos} (L : CL P w K mg base) (hr : Room 5 (XL P w K mg base f cdv A outer s H E).A) (hs : sg[1]? = some (some (.ptr p))) (ha : EE (XL P w K mg base f cdv A outer s H E) a sg M (.int m)) (hB : Bx M p c) (h0 : 0 < m) (h1 : m < 1000000000) (q : ∀ r M', 0 ≤ r → r < m → Bx M' p c → Els M M' p c → Q (.int r) M') (na : nst a = true := by rfl) :
    WE (XL P w K mg base f cdv A outer s H E) (.Call (.Name "_law_draw" p1) [.Name "box" p2, a] [] p4) sg M Q :=
  we_call L.draw (hr.mono (by omega)) (EA.to (ea_cons (ee_v 1 hs) (ea_cons ha ea_nil (hs := star1 na))) ⟨rfl, p, c, m, rfl, hB, h0, h1, q⟩) (hpl := starN (by show (nst a && true) = true; rw [na]; rfl))
/-- lasts are drawn, marks, and what is reached -/
theorem a_lasts {ED : EndsD} {p c : Addr} (L : CL P w K mg base) (hr : Room 5 (XL P w K mg base f cdv A outer s H E).A) (hB : Bx M p c)
    (q : ∀ (n : Nat) (ms : List Mk) (Lm : Mo) (rp : Addr) (M1 : Mem), Okw n ms Lm → St M1 p c rp n ms Lm → WSs (XL P w K mg base f cdv A outer s H E) (turnB.drop 3) [none, some (.ptr p), none, some (moD n Lm), none, some (msD ms), some (.ptr rp), none, none, none, none, none, none, none, none, none, none, none, none, none, none, none, none, none, none, none] M1 ED) :
    WSs (XL P w K mg base f cdv A outer s H E) turnB [none, some (.ptr p), none, none, none, none, none, none, none, none, none, none, none, none, none, none, none, none, none, none, none, none, none, none, none, none] M ED := by
  have nd := sc_law.nd
  have B := L.B
  refine wss_cons (ws_set 3 nd (we_ct call_tuple_of B.tuple bi_tuple (wa_cons (we_lc [("source", 4)] rfl nd (blkOk_by (by with_unfolding_all rfl)) (Qi := fun es C M0 => ∃ m : Nat, es = rngD 0 m ∧ 2 ≤ m ∧ m ≤ 3 ∧ Bx M0 p c ∧ ∀ M1 : Mem, C M1) (wi_rng1 B.range (wa_cons (we_op op_add (Qa := fun d M1 => d = .int 2 ∧ M1 = M) ee_int fun x M1 ⟨e1, e2⟩ => ?_) (hs := star1n rfl))) (fun ds C M0 ⟨m, e1, m0, m1, hB0, hC⟩ => ?_) (Nat.zero_le _)))))
  · subst e1; subst e2
    exact a_draw L hr rfl ee_int hB (by decide) (by decide) fun r M4 r0 r1 hB4 _ => od_I0 (wa_nil ⟨2 + r, rfl, by omega, by omega, (2 + r).toNat, rfl, by omega, by omega, hB4, fun _ => trivial⟩)
  subst e1
  refine ⟨fun i acc M1 => i ≤ m ∧ ∃ l : List Nat, acc = (nI l).map D.int ∧ l.length = i ∧ (∀ x ∈ l, 1 ≤ x ∧ x ≤ 4) ∧ Bx M1 p c, ⟨Nat.zero_le _, [], rfl, rfl, fun b hb => (by cases hb), hB0⟩, fun i acc M1 ⟨hi, l, e, hl, _⟩ => ⟨hC _, lt1000 (by rw [e, List.length_map, nI_len]; omega)⟩, fun i d acc M1 hd ⟨hi, l, e, hl, hb, hB1⟩ => ?_, fun acc M1 ⟨hi, l, e, hl, hb, hB1⟩ => ?_⟩
  · obtain ⟨hj, rfl⟩ := rngD_at hd
    refine turn1 4 (List.mem_singleton.mpr rfl) nd (by first | exact .inl rfl | exact .inr rfl) rfl (fun b M2 => b = true ∧ M2 = M1) (fun _ _ _ _ _ => ⟨rfl, rfl⟩) (fun M2 ⟨_, e2⟩ => ?_) (fun M2 ⟨e, _⟩ => Bool.noConfusion e)
    subst e2
    intro s H C cl fp
    refine we_op op_add (Qa := fun d M3 => ∃ r : Nat, d = .int (r : Int) ∧ r < 4 ∧ Bx M3 p c) (we_call L.draw (hr.mono (by omega)) (EA.to (ea_cons (ee_v 1 rfl) (ea_cons ee_int ea_nil)) ⟨rfl, p, c, 4, rfl, hB1, by omega, by omega, fun a M5 a0 a1 hB5 _ => ⟨a.toNat, by rw [Int.toNat_of_nonneg a0], by omega, hB5⟩⟩)) fun x M3 ⟨r, e1, hr4, hB3⟩ => EE.to ee_int ?_
    subst e1
    refine od_I0 ?_
    subst e
    refine ⟨by omega, l ++ [r + 1], by rw [nI_app, List.map_append]; rfl, by rw [List.length_append, hl]; rfl, fun x hx => ?_, hB3⟩
    rcases List.mem_append.mp hx with hx | hx
    · exact hb x hx
    · rw [List.mem_singleton.mp hx]; omega
  subst e
  rw [rngD_len] at hl
  subst hl
  refine wa_nil (cd_tupL (.inl rfl) ?_)
  have eL := moI_list l
  generalize hLm : (fun j => l.getD j 0 : Mo) = Lm at eL
  have hL : ∀ j, j < l.length → 1 ≤ Lm j ∧ Lm j ≤ 4 := fun j hj => by
    rw [← hLm]
    show 1 ≤ l.getD j 0 ∧ l.getD j 0 ≤ 4
    rw [List.getD_eq_getElem?_getD, List.getElem?_eq_getElem hj]
    exact hb _ (List.getElem_mem hj)
  generalize l.length = n at *
  rw [← eL]
  have hS := msum_12 m1 fun j hj => (hL j hj).2
  have ln : ((moI n Lm).map D.int).length = n := by rw [List.length_map, moI_len]
  show WSs _ _ [none, some (.ptr p), none, some (moD n Lm), none, none, none, none, none, none, none, none, none, none, none, none, none, none, none, none, none, none, none, none, none, none] _ _
  refine wss_cons (ws_set 5 nd (we_call L.course (hr.mono (by omega)) (EA.to (ea_cons (ee_v 1 rfl) (ea_cons (ee_v 3 rfl) ea_nil)) ⟨rfl, p, c, n, Lm, rfl, hB1, by omega, by omega, fun j hj => (hL j hj).2, by omega, fun ms M2 T r hz hB2 => ?_⟩)))
  refine wss_cons (ws_set 6 nd (we_call L.reached (hr.mono (by omega)) (EA.to (ea_cons (ee_v 3 rfl) (ea_cons (ee_v 5 rfl) (ea_cons (EE.is (d' := moD n z0) (ee_op op_repA (ee_tup (ea_cons ee_int ea_nil)) (ee_cb call_len B.len bi_len (ea_cons (ee_v 3 rfl) ea_nil) (cd_lenT ⟨rfl, rfl⟩)) (od_repA (by omega) (by omega) (by exact Nat.le_of_ble_eq_true rfl) ⟨rfl, rfl⟩)) ?_) ea_nil))) ⟨rfl, n, ms, z0, Lm, rfl, T.v, fun _ _ => Nat.zero_le _, by omega, m1, hS, by omega, fun rp kvs hp hk => ?_⟩)))
  · rw [ln, Int.toNat_natCast, rep_moI]
    rfl
  obtain ⟨a1, a2⟩ := hB2.new hp
  exact q n ms Lm rp _ ⟨m0, m1, fun j hj => (hL j hj).1, fun j hj => (hL j hj).2, T, r, hz⟩ ⟨hB2.up (Up.new hp), a1, a2, kvs, updM_same, hk⟩
end
end K46
set_option Elab.async false
set_option linter.all false
set_option maxRecDepth 100000
set_option maxHeartbeats 4000000
namespace K46
open PySem L2 PyProof.Rows DL
/-! ### the law's body: all that fits, and the judge of marks -/
theorem msD_wf {ms : List Mk} (h : ms.length ≤ 900) (k : Nat) : wf 900 (k + 3) (msD ms) = true := by
  refine tup_wf (by rw [List.length_map]; exact h) fun d hd => ?_
  obtain ⟨μ, _, rfl⟩ := List.mem_map.mp hd
  rfl
theorem ints_wf {ns : List Int} (h : ns.length ≤ 900) (k : Nat) : wf 900 (k + 2) (.tup (ns.map .int)) = true := by
  refine tup_wf (by rw [List.length_map]; exact h) fun d hd => ?_
  obtain ⟨i, _, rfl⟩ := List.mem_map.mp hd
  rfl
theorem moD_wf {n : Nat} {x : Mo} (h : n ≤ 900) (k : Nat) : wf 900 (k + 2) (moD n x) = true := ints_wf (by rw [moI_len]; exact h) k
theorem mkD_is {n : Nat} {L : Mo} {μ : Mk} (h1 : μ.s < n) (h2 : μ.o < n) (h3 : μ.s ≠ μ.o) (h4 : 1 ≤ μ.m) (h5 : μ.m ≤ L μ.s) (h6 : 1 ≤ μ.t) (h7 : μ.t ≤ L μ.o) : markB n L (mkD μ) = true := by
  show (wholeB (.int (μ.s : Int)) 0 ((n : Int) - 1) && (wholeB (.int (μ.o : Int)) 0 ((n : Int) - 1) && (!decide ((μ.s : Int) = (μ.o : Int)) && (wholeB (.int (μ.m : Int)) 1 (L ((μ.s : Int)).toNat : Int) && wholeB (.int (μ.t : Int)) 1 (L ((μ.o : Int)).toNat : Int))))) = true
  have wh : ∀ {a b : Int} {i : Int}, a ≤ i → i ≤ b → wholeB (.int i) a b = true := fun h h' => by
    exact Bool.and_eq_true_iff.mpr ⟨rfl, Bool.and_eq_true_iff.mpr ⟨decide_eq_true h, decide_eq_true h'⟩⟩
  rw [Int.toNat_natCast, Int.toNat_natCast, wh (by omega) (by omega), wh (by omega) (by omega), wh (by omega) (by omega), wh (by omega) (by omega), decide_eq_false (by omega)]
  rfl
section
variable {n : Nat} {ms : List Mk} {L : Mo}
theorem Okw.gr (O : Okw n ms L) {y : Mo} {a : List Nat} (h : greedy ms n (left n z0 y) z0 y = some a) : a.length = left n z0 y := (greedy_none O.told.v _ h).len
theorem Okw.order (O : Okw n ms L) : ∃ a, greedy ms n (left n z0 L) z0 L = some a ∧ a.length ≤ 12 := by
  obtain ⟨a, g, r, _⟩ := greedy_ok O.told.v (left n z0 L) (Nat.le_refl _) O.run
  have := msum_12 O.n1 O.l4
  exact ⟨a, g, by rw [r.len]; exact this⟩
theorem Okw.marks (O : Okw n ms L) : marksB n L (msD ms) = true := by
  show (true && ((ms.map mkD).all (markB n L) && (greedy ((ms.map mkD).map unD) n (msum n L) z0 L).isSome)) = true
  have e : (ms.map mkD).map unD = ms := by
    rw [List.map_map]
    exact (List.map_congr_left fun μ _ => unD_mk μ).trans (List.map_id ms)
  obtain ⟨a, g, _⟩ := O.order
  have g : greedy ms n (msum n L) z0 L = some a := g
  rw [e, g]
  have : (ms.map mkD).all (markB n L) = true := List.all_eq_true.mpr fun d hd => by
    obtain ⟨μ, hμ, rfl⟩ := List.mem_map.mp hd
    exact mkD_is (O.told.v.s_ μ hμ) (O.told.v.o_ μ hμ) (O.told.v.ne μ hμ) (O.told.v.m_ μ hμ) (O.told.m_ μ hμ) (O.told.t_ μ hμ).1 (O.told.t_ μ hμ).2
  rw [this]
  rfl
theorem in_reached (O : Okw n ms L) {kvs : KW} (kv : ∀ y, leM n y L → get kvs (moI n y) = greedy ms n (left n z0 y) z0 y) {r : List Int} (hr : r ∈ allR L n) : (gt (dkv kvs) r).isSome = fitB ms (moR r) := by
  obtain ⟨e, hl⟩ := row_of hr
  have h := kv (moR r) hl
  rw [e] at h
  rw [gt_dkv, h, ← reach_fit O.told.v O.run hl]
  cases greedy ms n (left n z0 (moR r)) z0 (moR r) <;> rfl
theorem in_reached2 (O : Okw n ms L) {kvs : KW} (kv : ∀ y, leM n y L → get kvs (moI n y) = greedy ms n (left n z0 y) z0 y) {y : Mo} (hy : leM n y L) : (gt (dkv kvs) (moI n y)).isSome = fitB ms y := by
  rw [gt_dkv, kv y hy, ← reach_fit O.told.v O.run hy]
  cases greedy ms n (left n z0 y) z0 y <;> rfl
end
abbrev sgT (p rp : Addr) (n : Nat) (ms : List Mk) (L : Mo) : Sg := [none, some (.ptr p), none, some (moD n L), none, some (msD ms), some (.ptr rp), some (.lst ((FR n ms L).map rD)), none, none, none, none, none, none, none, none, none, none, none, none, none, none, none, none, none, none]
section
variable {P : Program} {w : World} {K : PySem.W.Frag} {mg : Str → Option Value} {base : Heap} {f : Addr} {cdv : Value} {A : Around} {outer : List Env} {s : Shared} {H : Hp} {E : XK} {sg : Sg} {M : Mem} {pos pos' : Pos}
theorem a_fits {ED : EndsD} {p c rp : Addr} {n : Nat} {ms : List Mk} {Lm : Mo} (L : CL P w K mg base) (hr : Room 5 (XL P w K mg base f cdv A outer s H E).A) (O : Okw n ms Lm) (hS : St M p c rp n ms Lm)
    (q : WSs (XL P w K mg base f cdv A outer s H E) (turnB.drop 6) (sgT p rp n ms Lm) M ED) :
    WSs (XL P w K mg base f cdv A outer s H E) (turnB.drop 3) [none, some (.ptr p), none, some (moD n Lm), none, some (msD ms), some (.ptr rp), none, none, none, none, none, none, none, none, none, none, none, none, none, none, none, none, none, none, none] M ED := by
  have nd := sc_law.nd
  have B := L.B
  have hu : (XL P w K mg base f cdv A outer s H E).A.units + 1 < cLine := Nat.lt_of_le_of_lt (Nat.add_le_add_left (show 1 ≤ 65 by decide) _) (units65 hr)
  obtain ⟨kvs, hrp, kv⟩ := hS.kv
  have n1 := O.n1
  have lall : (allR Lm n).length ≤ 125 := Nat.le_trans (allR_len O.l4 n (Nat.le_refl _)) (Nat.le_trans (Nat.pow_le_pow_right (n := 5) (j := 3) (by decide) n1) (by decide))
  refine wss_cons (ws_setLcE 7 [("moments", 8)] rfl nd (wi_lst (we_call L.allm (hr.mono (by omega)) (EA.to (ea_cons (ee_v 3 rfl) ea_nil) ⟨rfl, n, Lm, rfl, by omega, O.l4, _, .inl rfl, rfl, rfl, .inl rfl⟩))) (LcOk.to (d := .lst ((FR n ms Lm).map rD)) (LcOk.imp (ok_lc1if (ds := (allR Lm n).map rD) 8 (fun d => fitB ms (moR (intsD d))) (fun d => d) rfl nd (lt1000 (by rw [List.length_map]; omega)) (fun j d hd => ?_) fun j d hd _ s H C cl fp => ee_v 8 rfl) fun z M' ⟨e1, e2⟩ => ⟨e1.trans (congrArg D.lst (rows_if (fun r => fitB ms (moR r)) (allR Lm n))), e2⟩) ?_))
  · obtain ⟨r, hr0, rfl⟩ := at_map hd
    rw [intsD_r]
    exact fun s H C cl fp => wt_din hu (EE.to (ee_v 8 rfl) (EE.to (ee_v 6 rfl) ⟨rp, dkv kvs, r, rfl, rfl, hrp, in_reached O kv (List.mem_of_getElem? hr0), rfl⟩))
  show WSs _ _ (sgT p rp n ms Lm) _ _
  obtain ⟨a, ga, la⟩ := O.order
  refine wss_cons (ws_ifE (k := false) (ww_pt (ew_is (ew_or (p := false) (q := false) (ET.is (et_cmp op_notBl (we_call L.are (hr.mono (by omega)) (EA.to (ea_cons (ee_v 3 rfl) (ea_cons (ee_v 5 rfl) ea_nil)) ⟨rfl, n, Lm, msD ms, rfl, msD_wf (by have := O.len; omega) 4, by have := O.n0; omega, by omega, by have := msum_12 n1 O.l4; omega, rfl, rfl⟩)) ee_bl (od_notB ⟨_, rfl, rfl, rfl⟩)) (by rw [O.marks]; rfl)) fun _ => ww_or1 (ET.is (et_not (et_val (ee_same L hr (x := tupD a) (y := tupD a) (EE.is (we_call L.all_ (hr.mono (by omega)) (EA.to (ea_cons (ee_v 3 rfl) (ea_cons (ee_v 5 rfl) ea_nil)) ⟨rfl, n, ms, Lm, rfl, O.told.v, by have := O.n0; omega, by omega, by have := O.len; omega, by have := msum_12 n1 O.l4; omega, rfl, rfl⟩)) (by show ordD (greedy ms n (left n z0 Lm) z0 Lm) = _; rw [ga]; rfl)) (we_dget hu (EE.to (ee_v 6 rfl) (EE.to (ee_v 3 rfl) ⟨rp, dkv kvs, moI n Lm, tupD a, rfl, rfl, hrp, by rw [gt_dkv, kv Lm fun _ _ => Nat.le_refl _, ga]; rfl, rfl, rfl⟩))) (ints_wf (by rw [nI_len]; omega) 1) (ints_wf (by rw [nI_len]; omega) 1)))) (not_eqD rfl))) rfl)) (fun h => Bool.noConfusion h) fun _ => wss_nil ?_)
  refine wss_cons (ws_for PassesOwn.never rfl (Qi := fun es C M0 => es = (allR Lm n).map rD ∧ M0 = M ∧ ∀ M1, C M1) (wi_lst (we_call L.allm (hr.mono (by omega)) (EA.to (ea_cons (ee_v 3 rfl) ea_nil) ⟨rfl, n, Lm, rfl, by omega, O.l4, _, .inl rfl, rfl, rfl, fun _ => .inl rfl⟩))) fun es C M0 ⟨e1, e2, hC⟩ => ?_)
  subst e1; subst e2
  refine ⟨fun i sg1 M1 => M1 = M0 ∧ Fg (sgT p rp n ms Lm) sg1, ⟨rfl, ⟨rfl, rfl, rfl, rfl, rfl, trivial⟩⟩, fun i sg1 M1 _ => hC _, fun i d sg1 M1 he ⟨e, hg⟩ => ?_, fun sg1 M1 ⟨e, hg⟩ => ?_⟩
  · subst e
    obtain ⟨r, hr0, rfl⟩ := at_map he
    have hm := List.mem_of_getElem? hr0
    obtain ⟨er, hl⟩ := row_of hm
    refine ⟨_, _, wg_name 8 nd, wss_fg (fg_set hg 8 _) ?_⟩
    refine wss_one (ws_ifE (k := false) (ET.is (et_not (et_val (ee_same L hr (x := .bl (fitB ms (moR r))) (y := .bl (fitB ms (moR r))) (we_call L.fit (hr.mono (by omega)) (EA.to (ea_cons (ee_v 5 rfl) (ea_cons (ee_v 8 rfl) ea_nil)) ⟨rfl, n, ms, moR r, by rw [show moD n (moR r) = rD r from congrArg rD er], O.told.v, by have := O.len; omega, rfl, rfl⟩)) (we_din hu (EE.to (ee_v 8 rfl) (EE.to (ee_v 6 rfl) ⟨rp, dkv kvs, r, rfl, rfl, hrp, congrArg D.bl (in_reached O kv hm), rfl⟩))) rfl rfl))) (not_eqD rfl)) (fun h => Bool.noConfusion h) fun _ => wss_nil ⟨rfl, ⟨rfl, rfl, rfl, rfl, rfl, trivial⟩⟩)
  · subst e
    exact wss_fg hg q
end
end K46
set_option Elab.async false
set_option linter.all false
set_option maxRecDepth 100000
set_option maxHeartbeats 4000000
namespace K46
open PySem L2 PyProof.Rows DL
/-! ### the law's body: a step's moments, what fits below and above, most and few -/
theorem rng_map (n : Nat) (h : Nat → D) : ((rngD 0 n).map fun e => h (intOf e).toNat) = (List.range n).map h := by
  unfold rngD
  rw [List.map_map]
  refine List.map_congr_left fun k _ => ?_
  show h (0 + (k : Int)).toNat = h k
  rw [show (0 + (k : Int)).toNat = k by omega]
theorem rng_bl (n : Nat) (g : Nat → Bool) : D.lst ((rngD 0 n).map fun e => D.bl (g (intOf e).toNat)) = D.lst (((List.range n).map g).map D.bl) := by
  rw [rng_map n fun k => D.bl (g k), List.map_map]
  rfl
theorem rng_mo (n : Nat) (y : Mo) : D.tup ((rngD 0 n).map fun e => D.int (y (intOf e).toNat : Int)) = moD n y := by
  rw [rng_map n fun k => D.int (y k : Int)]
  unfold moD moI
  rw [List.map_map]
  rfl
theorem leB_all (n : Nat) (x y : Mo) : (((List.range n).map fun k => decide (x k ≤ y k)).all id) = leB n x y := by
  rw [List.all_map]
  rfl
def lcScope : Expr → Scope
  | .Call _ [.ListComp _ _ sc _] _ _ => sc
  | _ => default
def asgE : Stmt → Expr
  | .Assign _ e _ => e
  | _ => .Constant .none 0 ⟨0, 0, 0, 0⟩
section
variable {n : Nat} {ms : List Mk} {L x : Mo}
theorem FR_row (v : Ms n ms) {r : List Int} (h : r ∈ FR n ms L) : moI n (moR r) = r ∧ leM n (moR r) L ∧ fits ms (moR r) := by
  obtain ⟨h1, h2⟩ := List.mem_filter.mp h
  obtain ⟨a, b⟩ := row_of h1
  exact ⟨a, b, fitB_iff.mp h2⟩
theorem BR_row (v : Ms n ms) {r : List Int} (h : r ∈ BR n ms L x) : moI n (moR r) = r := (FR_row v (List.mem_filter.mp h).1).1
theorem AR_row (v : Ms n ms) {r : List Int} (h : r ∈ AR n ms L x) : moI n (moR r) = r := (FR_row v (List.mem_filter.mp h).1).1
end
section
variable {P : Program} {w : World} {K : PySem.W.Frag} {mg : Str → Option Value} {base : Heap} {f : Addr} {cdv : Value} {A : Around} {outer : List Env} {s : Shared} {H : Hp} {E : XK} {sg : Sg} {M : Mem} {pos pos' : Pos}
/-- tuple([_law_draw(box, last + 1) for last in lasts]) -/
theorem a_moment {p c : Addr} {n : Nat} {Lm : Mo} {Q : D → Mem → Prop} {o0 o2 o4 o5 o6 o7 o8 o9 o10 o11 o12 o13 o14 o15 o16 o17 o18 o19 o20 o21 o22 o23 o24 o25 : Option D} {p1 p2 p3 p4 p5 p6 p7 p8 p9 p10 p11 : Pos} {j : Nat} (L : CL P w K mg base) (hr : Room 5 (XL P w K mg base f cdv A outer s H E).A) (hn : n ≤ 3) (h4 : ∀ j, j < n → Lm j ≤ 4) (hB : Bx M p c) (q : ∀ x M', leM n x Lm → Bx M' p c → Els M M' p c → Q (moD n x) M') :
    WE (XL P w K mg base f cdv A outer s H E) (.Call (.Name "tuple" p1) [.ListComp (.Call (.Name "_law_draw" p2) [.Name "box" p3, .BinOp (.Name "last" p4) .Add (.Constant (.int 1) j p5) p6] [] p7) [⟨.Name "last" p8, .Name "lasts" p9, [], 0⟩] (lcScope (asgE (stepL.getD 0 (.Pass ⟨0, 0, 0, 0⟩)))) p10] [] p11) [o0, some (.ptr p), o2, some (moD n Lm), o4, o5, o6, o7, o8, o9, o10, o11, o12, o13, o14, o15, o16, o17, o18, o19, o20, o21, o22, o23, o24, o25] M Q := by
  have nd := sc_law.nd
  have B := L.B
  refine we_ct call_tuple_of B.tuple bi_tuple (wa_cons (we_lc [("last", 10)] rfl nd (blkOk_by (by with_unfolding_all rfl)) (Qi := fun es C M0 => es = (moI n Lm).map .int ∧ M0 = M ∧ ∀ M1 : Mem, C M1) (wi_tup (EE.to (ee_v 3 rfl) ⟨_, rfl, rfl, rfl, fun _ => trivial⟩)) (fun ds C M0 ⟨e1, e2, hC⟩ => ?_) (Nat.zero_le _)))
  subst e1; subst e2
  refine ⟨fun i acc M1 => i ≤ n ∧ ∃ l : List Nat, acc = (nI l).map D.int ∧ l.length = i ∧ (∀ j, j < i → l.getD j 0 ≤ Lm j) ∧ Bx M1 p c ∧ Els M0 M1 p c, ⟨Nat.zero_le _, [], rfl, rfl, fun b hb => absurd hb (Nat.not_lt_zero _), hB, Els.refl _ _ _⟩, fun i acc M1 ⟨hi, l, e, hl, _⟩ => ⟨hC _, lt1000 (by rw [e, List.length_map, nI_len]; omega)⟩, fun i d acc M1 hd ⟨hi, l, e, hl, hb, hB1, hE1⟩ => ?_, fun acc M1 ⟨hi, l, e, hl, hb, hB1, hE1⟩ => ?_⟩
  · rw [List.getElem?_map] at hd
    have hin : i < n := by
      by_cases h : i < n
      · exact h
      · rw [List.getElem?_eq_none (by rw [moI_len]; omega)] at hd; cases hd
    rw [moI_at hin] at hd
    have hd := (Option.some.inj hd).symm
    have hd : d = .int (Lm i : Int) := hd
    subst hd
    have h4i := h4 i hin
    refine turn1 10 (List.mem_singleton.mpr rfl) nd (by first | exact .inl rfl | exact .inr rfl) rfl (fun b M2 => b = true ∧ M2 = M1) (fun _ _ _ _ _ => ⟨rfl, rfl⟩) (fun M2 ⟨_, e2⟩ => ?_) (fun M2 ⟨e, _⟩ => Bool.noConfusion e)
    subst e2
    intro s H C cl fp
    refine we_call L.draw (hr.mono (by omega)) (EA.to (ea_cons (ee_v 1 rfl) (ea_cons (ee_add (ee_v 10 rfl) ee_int) ea_nil)) ⟨rfl, p, c, (Lm i : Int) + 1, rfl, hB1, by omega, by omega, fun a M5 a0 a1 hB5 hE5 => ?_⟩)
    obtain ⟨a, rfl⟩ : ∃ k : Nat, a = (k : Int) := ⟨a.toNat, by omega⟩
    subst e
    refine ⟨hin, l ++ [a], by rw [nI_app, List.map_append]; rfl, by rw [List.length_append, hl]; rfl, fun j hj => ?_, hB5, hE1.trans hE5⟩
    by_cases e : j < i
    · have := hb j e
      rw [List.getD_eq_getElem?_getD] at this ⊢
      rw [List.getElem?_append_left (by omega)]
      exact this
    · have e : j = i := by omega
      subst e
      rw [List.getD_eq_getElem?_getD, List.getElem?_append_right (by omega), hl, Nat.sub_self]
      show a ≤ Lm j
      omega
  · subst e
    rw [List.length_map, moI_len] at hl hb
    subst hl
    refine wa_nil (cd_tupL (.inl rfl) ?_)
    have eL := moI_list l
    rw [← eL]
    exact q _ M1 (fun j hj => hb j hj) hB1 hE1
abbrev sgS (p rp : Addr) (n : Nat) (ms : List Mk) (L x : Mo) : Sg := [none, some (.ptr p), none, some (moD n L), none, some (msD ms), some (.ptr rp), some (.lst ((FR n ms L).map rD)), some (moD n x), none, none, some (.lst ((BR n ms L x).map rD)), none, none, some (.lst ((AR n ms L x).map rD)), some (moD n (gfx n ms x)), some (moD n (lfx n ms L x)), none, none, none, none, none, none, none, none, none]
theorem a_most {ED : EndsD} {p c rp : Addr} {n : Nat} {ms : List Mk} {Lm : Mo} (L : CL P w K mg base) (hr : Room 5 (XL P w K mg base f cdv A outer s H E).A) (O : Okw n ms Lm) (hS : St M p c rp n ms Lm)
    (q : ∀ (x : Mo) (M1 : Mem), leM n x Lm → St M1 p c rp n ms Lm → WSs (XL P w K mg base f cdv A outer s H E) (stepL.drop 4) (sgS p rp n ms Lm x) M1 ED) :
    WSs (XL P w K mg base f cdv A outer s H E) stepL (sgT p rp n ms Lm) M ED := by
  have nd := sc_law.nd
  have B := L.B
  have v := O.told.v
  have n1 := O.n1
  have lF := FR_len (ms := ms) O.l4 n1
  have ln : ((moI n Lm).map D.int).length = n := by rw [List.length_map, moI_len]
  have lr : (rngD 0 n).length < sizeLine := by rw [rngD_len]; exact lt_i (by omega)
  refine wss_cons (ws_set 8 nd (a_moment L hr n1 O.l4 hS.bx fun x M1 hx hB1 hE1 => ?_))
  have hS1 := hS.els hB1 hE1
  show WSs _ _ [none, some (.ptr p), none, some (moD n Lm), none, some (msD ms), some (.ptr rp), some (.lst ((FR n ms Lm).map rD)), some (moD n x), none, none, none, none, none, none, none, none, none, none, none, none, none, none, none, none, none] _ _
  refine wss_cons (ws_set 11 nd (EE.to (EE.is (ee_lc1if 12 (ds := (FR n ms Lm).map rD) (fun d => leB n (moR (intsD d)) x) (fun d => d) rfl nd (wi_lst (EE.to (ee_v 7 rfl) ⟨_, .inl rfl, rfl, rfl, .inl rfl⟩)) (lt1000 (by rw [List.length_map]; omega)) (fun j d hd s H C cl fp => ?_) fun j d hd _ s H C cl fp => ee_v 12 rfl) (congrArg D.lst (rows_if (fun r => leB n (moR r) x) (FR n ms Lm)))) ?_))
  · obtain ⟨r, hr0, rfl⟩ := at_map hd
    obtain ⟨er, _, _⟩ := FR_row v (List.mem_of_getElem? hr0)
    rw [intsD_r, show rD r = moD n (moR r) from congrArg rD er.symm]
    refine et_val (ee_cb (cr_all rfl) B.all bi_all (ea_cons (ee_lc1 13 (ds := rngD 0 n) (fun e => .bl (decide (moR r (intOf e).toNat ≤ x (intOf e).toNat))) rfl nd (wi_rng1 B.range (EA.to (ea_cons (ee_cb call_len B.len bi_len (ea_cons (ee_v 3 rfl) ea_nil) (cd_lenT ⟨rfl, rfl⟩)) ea_nil) ⟨(((moI n Lm).map D.int).length : Int), rfl, by omega, by omega, by rw [ln, Int.toNat_natCast], rfl, trivial⟩)) lr fun m e he s H C cl fp => ?_) ea_nil) (cd_all (bs := (List.range n).map fun k => decide (moR r k ≤ x k)) (.inl (rng_bl n fun k => decide (moR r k ≤ x k))) ⟨by rw [leB_all], rfl⟩))
    obtain ⟨hm, rfl⟩ := rngD_at he
    rw [Int.zero_add]
    refine EE.is (ee_le (ee_ix ix_tup (ee_v 12 rfl) (ee_v 13 rfl) (od_ixT (moD_at hm) ⟨rfl, rfl⟩)) (ee_ix ix_tup (ee_v 8 rfl) (ee_v 13 rfl) (od_ixT (moD_at hm) ⟨rfl, rfl⟩))) (congrArg D.bl ?_)
    show decide ((moR r m : Int) ≤ (x m : Int)) = decide (moR r ((m : Int)).toNat ≤ x ((m : Int)).toNat)
    rw [Int.toNat_natCast]
    exact decide_eq_decide.mpr (by omega)
  show WSs _ _ [none, some (.ptr p), none, some (moD n Lm), none, some (msD ms), some (.ptr rp), some (.lst ((FR n ms Lm).map rD)), some (moD n x), none, none, some (.lst ((BR n ms Lm x).map rD)), none, none, none, none, none, none, none, none, none, none, none, none, none, none] _ _
  refine wss_cons (ws_set 14 nd (EE.to (EE.is (ee_lc1if 12 (ds := (FR n ms Lm).map rD) (fun d => leB n x (moR (intsD d))) (fun d => d) rfl nd (wi_lst (EE.to (ee_v 7 rfl) ⟨_, .inl rfl, rfl, rfl, .inl rfl⟩)) (lt1000 (by rw [List.length_map]; omega)) (fun j d hd s H C cl fp => ?_) fun j d hd _ s H C cl fp => ee_v 12 rfl) (congrArg D.lst (rows_if (fun r => leB n x (moR r)) (FR n ms Lm)))) ?_))
  · obtain ⟨r, hr0, rfl⟩ := at_map hd
    obtain ⟨er, _, _⟩ := FR_row v (List.mem_of_getElem? hr0)
    rw [intsD_r, show rD r = moD n (moR r) from congrArg rD er.symm]
    refine et_val (ee_cb (cr_all rfl) B.all bi_all (ea_cons (ee_lc1 13 (ds := rngD 0 n) (fun e => .bl (decide (x (intOf e).toNat ≤ moR r (intOf e).toNat))) rfl nd (wi_rng1 B.range (EA.to (ea_cons (ee_cb call_len B.len bi_len (ea_cons (ee_v 3 rfl) ea_nil) (cd_lenT ⟨rfl, rfl⟩)) ea_nil) ⟨(((moI n Lm).map D.int).length : Int), rfl, by omega, by omega, by rw [ln, Int.toNat_natCast], rfl, trivial⟩)) lr fun m e he s H C cl fp => ?_) ea_nil) (cd_all (bs := (List.range n).map fun k => decide (x k ≤ moR r k)) (.inl (rng_bl n fun k => decide (x k ≤ moR r k))) ⟨by rw [leB_all], rfl⟩))
    obtain ⟨hm, rfl⟩ := rngD_at he
    rw [Int.zero_add]
    refine EE.is (ee_ge (ee_ix ix_tup (ee_v 12 rfl) (ee_v 13 rfl) (od_ixT (moD_at hm) ⟨rfl, rfl⟩)) (ee_ix ix_tup (ee_v 8 rfl) (ee_v 13 rfl) (od_ixT (moD_at hm) ⟨rfl, rfl⟩))) (congrArg D.bl ?_)
    show decide ((x m : Int) ≤ (moR r m : Int)) = decide (x ((m : Int)).toNat ≤ moR r ((m : Int)).toNat)
    rw [Int.toNat_natCast]
    exact decide_eq_decide.mpr (by omega)
  show WSs _ _ [none, some (.ptr p), none, some (moD n Lm), none, some (msD ms), some (.ptr rp), some (.lst ((FR n ms Lm).map rD)), some (moD n x), none, none, some (.lst ((BR n ms Lm x).map rD)), none, none, some (.lst ((AR n ms Lm x).map rD)), none, none, none, none, none, none, none, none, none, none, none] _ _
  have lB : (BR n ms Lm x).length ≤ 125 := Nat.le_trans (List.length_filter_le _ _) lF
  have lA : (AR n ms Lm x).length ≤ 125 := Nat.le_trans (List.length_filter_le _ _) lF
  have pB : 0 < (BR n ms Lm x).length := List.length_pos_iff.mpr fun e => by have := gfx_mem v hx; rw [e] at this; cases this
  have pA : 0 < (AR n ms Lm x).length := List.length_pos_iff.mpr fun e => by have := lfx_mem v (fun μ hμ => (O.told.t_ μ hμ).2) hx; rw [e] at this; cases this
  refine wss_cons (ws_asg (EE.to (d := .tup [moD n (gfx n ms x), moD n (lfx n ms Lm x)]) (ee_tup (ea_cons (EE.is (ee_ct call_tuple_of B.tuple bi_tuple (ea_cons (ee_lc1 13 (ds := rngD 0 n) (fun e => .int (gfx n ms x (intOf e).toNat : Int)) rfl nd (wi_rng1 B.range (EA.to (ea_cons (ee_cb call_len B.len bi_len (ea_cons (ee_v 3 rfl) ea_nil) (cd_lenT ⟨rfl, rfl⟩)) ea_nil) ⟨(((moI n Lm).map D.int).length : Int), rfl, by omega, by omega, by rw [ln, Int.toNat_natCast], rfl, trivial⟩)) lr fun m e he s H C cl fp => ?_) ea_nil) (cd_tupL (.inl rfl) ⟨rfl, rfl⟩)) (rng_mo n _)) (ea_cons (EE.is (ee_ct call_tuple_of B.tuple bi_tuple (ea_cons (ee_lc1 13 (ds := rngD 0 n) (fun e => .int (lfx n ms Lm x (intOf e).toNat : Int)) rfl nd (wi_rng1 B.range (EA.to (ea_cons (ee_cb call_len B.len bi_len (ea_cons (ee_v 3 rfl) ea_nil) (cd_lenT ⟨rfl, rfl⟩)) ea_nil) ⟨(((moI n Lm).map D.int).length : Int), rfl, by omega, by omega, by rw [ln, Int.toNat_natCast], rfl, trivial⟩)) lr fun m e he s H C cl fp => ?_) ea_nil) (cd_tupL (.inl rfl) ⟨rfl, rfl⟩)) (rng_mo n _)) ea_nil))) ⟨_, _, wg_tup rfl (wgs_cons (wg_name 15 nd) (wgs_cons (wg_name 16 nd) wgs_nil)), q x M1 hx hS1⟩))
  · obtain ⟨hm, rfl⟩ := rngD_at he
    rw [Int.zero_add]
    show EE _ _ _ _ (.int (gfx n ms x ((m : Int)).toNat : Int))
    rw [Int.toNat_natCast]
    refine ee_cb (cr_max rfl) B.max bi_max (ea_cons (ee_lc1 12 (ds := (BR n ms Lm x).map rD) (fun d => .int ((intsD d).getD m 0)) rfl nd (wi_lst (EE.to (ee_v 11 rfl) ⟨_, .inl rfl, rfl, rfl, .inl rfl⟩)) (lt1000 (by rw [List.length_map]; omega)) (fun j d hd s H C cl fp => ?_)) ea_nil) (cd_max (ns := col m (BR n ms Lm x)) (.inl ?_) (by unfold col; rw [List.length_map]; exact pB) fun t h1 h2 => ⟨congrArg D.int (col_max v hx hm h1 h2), rfl⟩)
    · obtain ⟨r, hr0, rfl⟩ := at_map hd
      have er := BR_row v (List.mem_of_getElem? hr0)
      rw [intsD_r, show rD r = moD n (moR r) from congrArg rD er.symm, ← er, col_moI hm, er]
      exact ee_ix ix_tup (ee_v 12 rfl) (ee_v 13 rfl) (od_ixT (moD_at hm) ⟨rfl, rfl⟩)
    · rw [List.map_map]
      unfold col
      rw [List.map_map]
      exact congrArg D.lst (List.map_congr_left fun r _ => by show D.int ((intsD (rD r)).getD m 0) = D.int (r.getD m 0); rw [intsD_r])
  · obtain ⟨hm, rfl⟩ := rngD_at he
    rw [Int.zero_add]
    show EE _ _ _ _ (.int (lfx n ms Lm x ((m : Int)).toNat : Int))
    rw [Int.toNat_natCast]
    refine ee_cb (cr_min rfl) B.min bi_min (ea_cons (ee_lc1 12 (ds := (AR n ms Lm x).map rD) (fun d => .int ((intsD d).getD m 0)) rfl nd (wi_lst (EE.to (ee_v 14 rfl) ⟨_, .inl rfl, rfl, rfl, .inl rfl⟩)) (lt1000 (by rw [List.length_map]; omega)) (fun j d hd s H C cl fp => ?_)) ea_nil) (cd_min (ns := col m (AR n ms Lm x)) (.inl ?_) (by unfold col; rw [List.length_map]; exact pA) fun t h1 h2 => ⟨congrArg D.int (col_min v (fun μ hμ => (O.told.t_ μ hμ).2) hx hm h1 h2), rfl⟩)
    · obtain ⟨r, hr0, rfl⟩ := at_map hd
      have er := AR_row v (List.mem_of_getElem? hr0)
      rw [intsD_r, show rD r = moD n (moR r) from congrArg rD er.symm, ← er, col_moI hm, er]
      exact ee_ix ix_tup (ee_v 12 rfl) (ee_v 13 rfl) (od_ixT (moD_at hm) ⟨rfl, rfl⟩)
    · rw [List.map_map]
      unfold col
      rw [List.map_map]
      exact congrArg D.lst (List.map_congr_left fun r _ => by show D.int ((intsD (rD r)).getD m 0) = D.int (r.getD m 0); rw [intsD_r])
end
end K46
set_option Elab.async false
set_option linter.all false
set_option maxRecDepth 100000
set_option maxHeartbeats 4000000
namespace DL
open PySem L2 PyProof.Rows
/-- x not in a list -/
theorem od_nin {K : PySem.W.Frag} {M : Mem} {Q : D → Mem → Prop} {x y : D} {d : PyData} {ds : List PyData} (hx : PyD M x d) (hy : PyD M y (.list ds)) (sd : SeqAt.shaped d = true) (se : SeqAt.shaped (.list ds) = true) (q : Q (.bl (!ds.any fun z => PyData.eqv z d)) M) : OpD K (rNotInD K) x y M Q := fun G H v u R w rx ry k =>
  ⟨d, ds, hx.dp w rx, hy.dp w ry, sd, se, k _ _ (PV.here w (.bl _) q)⟩
end DL
namespace K46
open PySem L2 PyProof.Rows DL
/-! ### rows of ints as data that are compared -/
def rowsPy (rs : List (List Int)) : List PyData := rs.map fun r => .tuple (r.map PyData.int)
theorem toPy_row (r : List Int) : toPy (rD r) = .tuple (r.map PyData.int) := by show PyData.tuple (toPyA (r.map D.int)) = _; rw [toPyA_int]
theorem toPyA_rows : ∀ rs : List (List Int), toPyA (rs.map rD) = rowsPy rs
  | [] => rfl
  | r :: rs => by
    show toPy (rD r) :: toPyA (rs.map rD) = _
    rw [toPyA_rows rs, toPy_row]
    rfl
theorem plA_rows : ∀ rs : List (List Int), plA (rs.map rD) = true
  | [] => rfl
  | r :: rs => by
    show (pl (rD r) && plA (rs.map rD)) = true
    rw [plA_rows rs, show pl (rD r) = true from plA_int r]
    rfl
theorem lay_rows : ∀ rs : List (List Int), PyData.canLayAll0 (rowsPy rs) = true
  | [] => rfl
  | r :: rs => by
    show (PyData.canLay0 (.tuple (r.map PyData.int)) && PyData.canLayAll0 (rowsPy rs)) = true
    rw [lay_rows rs, show PyData.canLay0 (.tuple (r.map PyData.int)) = true from lay_int r]
    rfl
theorem depth_rows : ∀ rs : List (List Int), PyData.depthAll (rowsPy rs) ≤ 1
  | [] => Nat.zero_le _
  | r :: rs => by
    show max (PyData.depth (.tuple (r.map PyData.int))) (PyData.depthAll (rowsPy rs)) ≤ 1
    have h := depth_rows rs
    have e : PyData.depth (.tuple (r.map PyData.int)) = 1 := by show PyData.depthAll (r.map PyData.int) + 1 = 1; rw [depth_int]
    omega
theorem shapedL_rows (rs : List (List Int)) : SeqAt.shaped (.list (rowsPy rs)) = true := by
  refine Bool.and_eq_true_iff.mpr ⟨lay_rows rs, decide_eq_true ?_⟩
  have := depth_rows rs
  show PyData.depthAll (rowsPy rs) + 1 ≤ 64
  omega
theorem shapedT_rows (rs : List (List Int)) : SeqAt.shaped (.tuple (rowsPy rs)) = true := by
  refine Bool.and_eq_true_iff.mpr ⟨lay_rows rs, decide_eq_true ?_⟩
  have := depth_rows rs
  show PyData.depthAll (rowsPy rs) + 1 ≤ 64
  omega
theorem any_rows (r : List Int) : ∀ rs : List (List Int), ((rowsPy rs).any fun z => PyData.eqv z (.tuple (r.map PyData.int))) = decide (r ∈ rs)
  | [] => rfl
  | a :: rs => by
    show (PyData.eqv (.tuple (a.map PyData.int)) (.tuple (r.map PyData.int)) || (rowsPy rs).any fun z => PyData.eqv z (.tuple (r.map PyData.int))) = _
    rw [any_rows r rs, eqvT_int, Bool.eq_iff_iff]
    simp only [Bool.or_eq_true, decide_eq_true_eq, List.mem_cons]
    exact ⟨fun h => h.imp Eq.symm id, fun h => h.imp Eq.symm id⟩
theorem eqvA_rows : ∀ a b : List (List Int), PyData.eqvAll (rowsPy a) (rowsPy b) = decide (a = b)
  | [], [] => rfl
  | [], _ :: _ => by simp [PyData.eqvAll, rowsPy]
  | _ :: _, [] => by simp [PyData.eqvAll, rowsPy]
  | x :: a, y :: b => by
    show PyData.eqvAll (.tuple (x.map PyData.int) :: rowsPy a) (.tuple (y.map PyData.int) :: rowsPy b) = _
    rw [PyData.eqvAll, eqvA_rows a b, eqvT_int]
    rw [Bool.eq_iff_iff]
    simp only [Bool.and_eq_true, decide_eq_true_eq, List.cons.injEq]
theorem pydL_rows {M : Mem} (rs : List (List Int)) : PyD M (.lst (rs.map rD)) (.list (rowsPy rs)) := .inl ⟨plA_rows rs, by show _ = PyData.list (toPyA (rs.map rD)); rw [toPyA_rows]⟩
theorem pydT_rows {M : Mem} (rs : List (List Int)) : PyD M (.tup (rs.map rD)) (.tuple (rowsPy rs)) := .inl ⟨plA_rows rs, by show _ = PyData.tuple (toPyA (rs.map rD)); rw [toPyA_rows]⟩
section
variable {P : Program} {w : World} {K : PySem.W.Frag} {mg : Str → Option Value} {base : Heap} {f : Addr} {cdv : Value} {A : Around} {outer : List Env} {s : Shared} {H : Hp} {E : XK} {sg : Sg} {M : Mem} {pos pos' : Pos}
/-- the greatest and the least fit; the order through the moments -/
theorem a_order {ED : EndsD} {p c rp : Addr} {n : Nat} {ms : List Mk} {Lm x : Mo} (L : CL P w K mg base) (hr : Room 5 (XL P w K mg base f cdv A outer s H E).A) (O : Okw n ms Lm) (hx : leM n x Lm) (hS : St M p c rp n ms Lm)
    (q : ∀ (M1 : Mem), St M1 p c rp n ms Lm → WSs (XL P w K mg base f cdv A outer s H E) (stepL.drop 8) (sgS p rp n ms Lm x) M1 ED) :
    WSs (XL P w K mg base f cdv A outer s H E) (stepL.drop 4) (sgS p rp n ms Lm x) M ED := by
  have nd := sc_law.nd
  have B := L.B
  have v := O.told.v
  have n0 := O.n0
  have n1 := O.n1
  have lm := O.len
  have h12 := msum_12 n1 O.l4
  have hu : (XL P w K mg base f cdv A outer s H E).A.units + 1 < cLine := Nat.lt_of_le_of_lt (Nat.add_le_add_left (show 1 ≤ 65 by decide) _) (units65 hr)
  obtain ⟨kvs, hrp, kv⟩ := hS.kv
  have ht : ∀ μ ∈ ms, μ.t ≤ Lm μ.o := fun μ hμ => (O.told.t_ μ hμ).2
  have gF : moI n (gfx n ms x) ∈ FR n ms Lm := (List.mem_filter.mp (gfx_mem v hx)).1
  have lF : moI n (lfx n ms Lm x) ∈ FR n ms Lm := (List.mem_filter.mp (lfx_mem v ht hx)).1
  have two : wf 900 3 (.tup [moD n (gfx n ms x), moD n (lfx n ms Lm x)]) = true := by
    refine tup_wf (by show 2 ≤ 900; decide) fun d hd => ?_
    simp only [List.mem_cons, List.not_mem_nil, or_false] at hd
    rcases hd with rfl | rfl <;> exact moD_wf (by omega) 0
  refine wss_cons (ws_ifE (k := false) (ww_pt (ew_is (ew_or (p := false) (q := false) (ET.is (et_not (et_val (ee_same L hr (x := .tup [moD n (gfx n ms x), moD n (lfx n ms Lm x)]) (y := .tup [moD n (gfx n ms x), moD n (lfx n ms Lm x)]) (ee_tup (ea_cons (we_call L.great (hr.mono (by omega)) (EA.to (ea_cons (ee_v 5 rfl) (ea_cons (ee_v 8 rfl) ea_nil)) ⟨rfl, n, ms, x, rfl, v, by omega, by omega, rfl, rfl⟩)) (ea_cons (we_call L.least (hr.mono (by omega)) (EA.to (ea_cons (ee_v 5 rfl) (ea_cons (ee_v 8 rfl) ea_nil)) ⟨rfl, n, ms, x, Lm, rfl, v, by omega, by omega, ht, rfl, rfl⟩)) ea_nil))) (ee_tup (ea_cons (ee_v 15 rfl) (ea_cons (ee_v 16 rfl) ea_nil))) two two))) (not_eqD rfl)) fun _ => ew_is (ew_or (p := false) (q := false) (ET.is (et_cmp (op_notInD (units65 hr)) (ee_v 15 rfl) (ee_v 7 rfl) (od_nin (pydT (moI n (gfx n ms x))) (pydL_rows (FR n ms Lm)) (shapedT_int _) (shapedL_rows _) ⟨_, rfl, rfl, rfl⟩)) (by rw [any_rows, decide_eq_true gF]; rfl)) fun _ => ww_or1 (ET.is (et_cmp (op_notInD (units65 hr)) (ee_v 16 rfl) (ee_v 7 rfl) (od_nin (pydT (moI n (lfx n ms Lm x))) (pydL_rows (FR n ms Lm)) (shapedT_int _) (shapedL_rows _) ⟨_, rfl, rfl, rfl⟩)) (by rw [any_rows, decide_eq_true lF]; rfl))) rfl) rfl)) (fun h => Bool.noConfusion h) fun _ => wss_nil ?_)
  have hlx : left n x Lm ≤ 12 := by
    have a := left_le_msum (n := n) (z := x) (y := Lm) (L := Lm) fun _ _ => Nat.le_refl _
    omega
  have hmx : msum n x ≤ 12 := Nat.le_trans (msum_le hx) h12
  obtain ⟨b, gb⟩ := reach_on v O.run hx
  have lb : b.length ≤ 12 := by rw [(greedy_none v _ gb).len]; exact hlx
  cases g : greedy ms n (left n z0 x) z0 x with
  | none =>
    have hin : (gt (dkv kvs) (moI n x)).isSome = false := by rw [gt_dkv, kv x hx, g]; rfl
    refine wss_cons (ws_set 17 nd (we_call L.through (hr.mono (by omega)) (EA.to (ea_cons (ee_v 3 rfl) (ea_cons (ee_v 5 rfl) (ea_cons (ee_v 8 rfl) ea_nil))) ⟨rfl, n, ms, Lm, x, rfl, v, by omega, by omega, by omega, by omega, by omega, fun a ga => absurd (ga.symm.trans g) (by simp), fun _ => ?_⟩)))
    show WSs _ _ [none, some (.ptr p), none, some (moD n Lm), none, some (msD ms), some (.ptr rp), some (.lst ((FR n ms Lm).map rD)), some (moD n x), none, none, some (.lst ((BR n ms Lm x).map rD)), none, none, some (.lst ((AR n ms Lm x).map rD)), some (moD n (gfx n ms x)), some (moD n (lfx n ms Lm x)), some .non, none, none, none, none, none, none, none, none] _ _
    refine wss_cons (ws_ifE (k := false) (ET.is (et_cmp (op_neD hr.units) (ee_cmp op_isN (ee_v 17 rfl) ee_non (od_isN ⟨rfl, rfl⟩)) (we_dnin hu (EE.to (ee_v 8 rfl) (EE.to (ee_v 6 rfl) ⟨rp, dkv kvs, moI n x, rfl, rfl, hrp, by rw [hin], rfl⟩))) (od_neD (d := .bool true) (e := .bool true) (.inl ⟨rfl, rfl⟩) (.inl ⟨rfl, rfl⟩) rfl rfl ⟨_, rfl, rfl, rfl⟩)) (by simp [PyData.eqv])) (fun h => Bool.noConfusion h) fun _ => wss_nil ?_)
    refine wss_cons (ws_ifE (k := false) (et_cmp op_notN (ee_v 17 rfl) ee_non (od_notN ⟨_, rfl, rfl, rfl⟩)) (fun h => Bool.noConfusion h) fun _ => wss_nil ?_)
    exact wss_fg (by exact ⟨rfl, rfl, rfl, rfl, rfl, rfl, rfl, rfl, rfl, rfl, trivial⟩) (q M hS)
  | some a =>
    have la : a.length ≤ 12 := by rw [O.gr g]; exact hmx
    have hin : (gt (dkv kvs) (moI n x)).isSome = true := by rw [gt_dkv, kv x hx, g]; rfl
    refine wss_cons (ws_set 17 nd (we_call L.through (hr.mono (by omega)) (EA.to (ea_cons (ee_v 3 rfl) (ea_cons (ee_v 5 rfl) (ea_cons (ee_v 8 rfl) ea_nil))) ⟨rfl, n, ms, Lm, x, rfl, v, by omega, by omega, by omega, by omega, by omega, fun a' ga => ⟨b, gb, ?_, by omega, ?_⟩, fun h => absurd (h.symm.trans g) (by simp)⟩)))
    · have : some a' = some a := ga.symm.trans g
      cases this
      omega
    have ea : a' = a := Option.some.inj (ga.symm.trans g)
    subst ea
    show WSs _ _ [none, some (.ptr p), none, some (moD n Lm), none, some (msD ms), some (.ptr rp), some (.lst ((FR n ms Lm).map rD)), some (moD n x), none, none, some (.lst ((BR n ms Lm x).map rD)), none, none, some (.lst ((AR n ms Lm x).map rD)), some (moD n (gfx n ms x)), some (moD n (lfx n ms Lm x)), some (tupD (a' ++ b)), none, none, none, none, none, none, none, none] _ _
    refine wss_cons (ws_ifE (k := false) (ET.is (et_cmp (op_neD hr.units) (ee_cmp op_isN (ee_v 17 rfl) ee_non (od_isN ⟨rfl, rfl⟩)) (we_dnin hu (EE.to (ee_v 8 rfl) (EE.to (ee_v 6 rfl) ⟨rp, dkv kvs, moI n x, rfl, rfl, hrp, by rw [hin], rfl⟩))) (od_neD (d := .bool false) (e := .bool false) (.inl ⟨rfl, rfl⟩) (.inl ⟨rfl, rfl⟩) rfl rfl ⟨_, rfl, rfl, rfl⟩)) (by simp [PyData.eqv])) (fun h => Bool.noConfusion h) fun _ => wss_nil ?_)
    refine wss_cons (ws_ifE (k := true) (et_cmp op_notN (ee_v 17 rfl) ee_non (od_notN ⟨_, rfl, rfl, rfl⟩)) (fun _ => ?_) fun h => Bool.noConfusion h)
    refine wss_cons (ws_set 18 nd (we_call L.reached (hr.mono (by omega)) (EA.to (ea_cons (ee_v 3 rfl) (ea_cons (ee_v 5 rfl) (ea_cons (ee_v 8 rfl) ea_nil))) ⟨rfl, n, ms, x, Lm, rfl, v, hx, by omega, n1, h12, by omega, fun wp kvs2 hp hk => ?_⟩)))
    have up := Up.new (o := some (.dit (dkv kvs2))) hp
    have hwp : (updM M wp (some (.dit (dkv kvs2)))) wp = some (.dit (dkv kvs2)) := updM_same
    have hrp2 := up _ _ hrp
    have hS2 := hS.up up
    generalize updM M wp (some (.dit (dkv kvs2))) = M2 at hwp hrp2 hS2 ⊢
    show WSs _ _ [none, some (.ptr p), none, some (moD n Lm), none, some (msD ms), some (.ptr rp), some (.lst ((FR n ms Lm).map rD)), some (moD n x), none, none, some (.lst ((BR n ms Lm x).map rD)), none, none, some (.lst ((AR n ms Lm x).map rD)), some (moD n (gfx n ms x)), some (moD n (lfx n ms Lm x)), some (tupD (a' ++ b)), some (.ptr wp), none, none, none, none, none, none, none] _ _
    refine wss_one (ws_ifE (k := false) (ET.is (et_not (et_val (ee_same L hr (x := tupD (a' ++ b)) (y := tupD (a' ++ b)) (ee_v 17 rfl) (EE.is (ee_op op_catA (x := tupD a') (y := tupD b) (we_dget hu (EE.to (ee_v 6 rfl) (EE.to (ee_v 8 rfl) ⟨rp, dkv kvs, moI n x, tupD a', rfl, rfl, hrp2, by rw [gt_dkv, kv x hx, g]; rfl, rfl, rfl⟩))) (we_dget hu (EE.to (ee_v 18 rfl) (EE.to (ee_v 3 rfl) ⟨wp, dkv kvs2, moI n Lm, tupD b, rfl, rfl, hwp, by rw [gt_dkv, hk Lm fun _ _ => Nat.le_refl _, gb]; rfl, rfl, rfl⟩))) (od_catT (by rw [List.length_map, List.length_map, nI_len, nI_len]; exact small_i (by omega)) ⟨rfl, rfl⟩)) ?_) (ints_wf (by rw [nI_len, List.length_append]; omega) 1) (ints_wf (by rw [nI_len, List.length_append]; omega) 1)))) (not_eqD rfl)) (fun h => Bool.noConfusion h) fun _ => wss_nil ?_)
    · show D.tup ((nI a').map D.int ++ (nI b).map D.int) = D.tup ((nI (a' ++ b)).map D.int)
      rw [nI_app, List.map_append]
    · exact wss_fg (by exact ⟨rfl, rfl, rfl, rfl, rfl, rfl, rfl, rfl, rfl, rfl, trivial⟩) (q M2 hS2)
end
end K46
set_option Elab.async false
set_option linter.all false
set_option maxRecDepth 100000
set_option maxHeartbeats 4000000
namespace K46
open PySem L2 PyProof.Rows DL
/-! ### the law's body: papers -/
theorem cut_init {α : Type} (l : List α) : DL.cutD l none (some (-1)) = l.dropLast := by
  unfold DL.cutD
  rw [HT.sIx_none, List.drop_zero, Nat.sub_zero, List.dropLast_eq_take]
  congr 1
  unfold HT.sIx
  simp only []
  split <;> omega
theorem fpp_len (ms : List Mk) : ∀ (f : Nat) (x : Mo), (fpp ms f x).length ≤ f
  | 0, _ => Nat.le_refl _
  | f + 1, x => by
    unfold fpp
    cases ms.filter (brk x) with
    | nil => exact Nat.zero_le _
    | cons μ l => exact Nat.succ_le_succ (fpp_len ms f _)
theorem msD_rows (ps : List Mk) : msD ps = .tup ((ps.map mkI).map rD) := by
  unfold msD
  rw [List.map_map]
  rfl
theorem pyd_ms {M : Mem} (ps : List Mk) : PyD M (msD ps) (.tuple (rowsPy (ps.map mkI))) := by
  rw [msD_rows]
  exact pydT_rows _
theorem pl_ms (ps : List Mk) : pl (msD ps) = true := by
  rw [msD_rows]
  exact plA_rows _
theorem toPy_ms (ps : List Mk) : toPy (msD ps) = .tuple (rowsPy (ps.map mkI)) := by
  rw [msD_rows]
  show PyData.tuple (toPyA ((ps.map mkI).map rD)) = _
  rw [toPyA_rows]
/-- what is no paper of these moments -/
def BadP (n : Nat) (ms : List Mk) (x : Mo) (d : D) : Prop := (d = .non ∨ d = .int 0 ∨ d = .tup [.int 0]) ∨ ∃ qs, d = msD qs ∧ ifpB ms n x (gfx n ms x) qs = false
theorem BadP.pl {n : Nat} {ms : List Mk} {x : Mo} {d : D} (h : BadP n ms x d) : DL.pl d = true := by
  rcases h with (rfl | rfl | rfl) | ⟨qs, rfl, _⟩
  · rfl
  · rfl
  · rfl
  · exact pl_ms qs
theorem BadP.shaped {n : Nat} {ms : List Mk} {x : Mo} {d : D} (h : BadP n ms x d) : SeqAt.shaped (toPy d) = true := by
  rcases h with (rfl | rfl | rfl) | ⟨qs, rfl, _⟩
  · rfl
  · rfl
  · exact shapedT_int [0]
  · rw [toPy_ms]; exact shapedT_rows _
section
variable {n : Nat} {ms : List Mk} {L x : Mo}
theorem paper_ok (v : Ms n ms) : ifpB ms n x (gfx n ms x) (fpp ms (msum n x) x) = true := by
  unfold ifpB
  rw [ifp_fpp v]
  exact Bool.and_eq_true_iff.mpr ⟨eqm_iff.mpr fun _ _ => rfl, fitB_iff.mpr (gf_most v x).1⟩
theorem paper_more (v : Ms n ms) (q : Mk) : ifpB ms n x (gfx n ms x) (fpp ms (msum n x) x ++ [q]) = false := by
  unfold ifpB
  rw [ifp_more v _ x _ q (ifp_fpp v (msum n x) x) (gf_most v x).1]
theorem paper_init (v : Ms n ms) (h : fpp ms (msum n x) x ≠ []) : ifpB ms n x (gfx n ms x) (fpp ms (msum n x) x).dropLast = false := by
  obtain ⟨y, e, nf⟩ := ifp_init v (msum n x) x h
  unfold ifpB
  rw [e]
  have : fitB ms y = false := by
    cases c : fitB ms y with
    | false => rfl
    | true => exact absurd (fitB_iff.mp c) nf
  show (eqm n y _ && fitB ms y) = false
  rw [this, Bool.and_false]
theorem paper_other (v : Ms n ms) {t : Mo} (h : ¬ moI n (gfx n ms x) = moI n t) : ifpB ms n x t (fpp ms (msum n x) x) = false := by
  unfold ifpB
  rw [ifp_fpp v]
  have : eqm n (gf ms (msum n x) x) t = false := by
    cases c : eqm n (gf ms (msum n x) x) t with
    | false => rfl
    | true => exact absurd (moI_eq.mpr c) h
  show (eqm n _ t && _) = false
  rw [this, Bool.false_and]
theorem paper_nil (v : Ms n ms) : decide (((fpp ms (msum n x) x).map mkI) = ([] : List (List Int))) = decide (moI n (gfx n ms x) = moI n x) := by
  refine decide_eq_decide.mpr ?_
  rw [List.map_eq_nil_iff, fpp_nil v, ← gf_same v, moI_ext]
end
abbrev sgP (p rp : Addr) (n : Nat) (ms : List Mk) (L x : Mo) : Sg := [none, some (.ptr p), none, some (moD n L), none, some (msD ms), some (.ptr rp), some (.lst ((FR n ms L).map rD)), some (moD n x), none, none, some (.lst ((BR n ms L x).map rD)), none, none, none, some (moD n (gfx n ms x)), none, none, none, some (msD (fpp ms (msum n x) x)), none, none, none, none, none, none]
section
variable {P : Program} {w : World} {K : PySem.W.Frag} {mg : Str → Option Value} {base : Heap} {f : Addr} {cdv : Value} {A : Around} {outer : List Env} {s : Shared} {H : Hp} {E : XK} {sg : Sg} {M : Mem} {pos pos' : Pos}
theorem a_paper {ED : EndsD} {p c rp : Addr} {n : Nat} {ms : List Mk} {Lm x : Mo} (L : CL P w K mg base) (hr : Room 5 (XL P w K mg base f cdv A outer s H E).A) (O : Okw n ms Lm) (hx : leM n x Lm)
    (q : WSs (XL P w K mg base f cdv A outer s H E) (stepL.drop 13) (sgP p rp n ms Lm x) M ED) :
    WSs (XL P w K mg base f cdv A outer s H E) (stepL.drop 8) (sgS p rp n ms Lm x) M ED := by
  have nd := sc_law.nd
  have B := L.B
  have v := O.told.v
  have n0 := O.n0
  have n1 := O.n1
  have lm := O.len
  have h12 := msum_12 n1 O.l4
  have hmx : msum n x ≤ 12 := Nat.le_trans (msum_le hx) h12
  have lp := fpp_len ms (msum n x) x
  refine wss_cons (ws_set 19 nd (we_call L.paper (hr.mono (by omega)) (EA.to (ea_cons (ee_v 5 rfl) (ea_cons (ee_v 8 rfl) ea_nil)) ⟨rfl, n, ms, x, rfl, v, by omega, by omega, by omega, ?_⟩)))
  refine wss_fg (sg1 := sgP p rp n ms Lm x) (by exact ⟨rfl, rfl, rfl, rfl, rfl, rfl, rfl, rfl, rfl, trivial⟩) ?_
  -- the paper is taken, and empty if and only if all fits
  refine wss_cons (ws_ifE (k := false) (ww_pt (ew_is (ew_or (p := false) (q := false) (ET.is (et_cmp op_notBl (we_call L.ifp (hr.mono (by omega)) (EA.to (ea_cons (ee_v 5 rfl) (ea_cons (ee_v 8 rfl) (ea_cons (ee_v 15 rfl) (ea_cons (ee_v 19 rfl) ea_nil)))) ⟨rfl, n, ms, x, gfx n ms x, fpp ms (msum n x) x, rfl, v, by omega, by omega, rfl, rfl⟩)) ee_bl (od_notB ⟨_, rfl, rfl, rfl⟩)) (by rw [paper_ok v]; rfl)) fun _ => ww_or1 (ET.is (et_cmp (op_neD hr.units) (EE.is (ee_cmp (op_eqD hr.units) (ee_v 19 rfl) (ee_tup ea_nil) (od_eqD (pyd_ms (fpp ms (msum n x) x)) (e := .tuple (rowsPy [])) (.inl ⟨rfl, rfl⟩) (shapedT_rows _) (shapedT_rows _) ⟨rfl, rfl⟩)) (d' := .bl (decide (moI n (gfx n ms x) = moI n x))) ?_) (EE.is (ee_cmp (op_eqD hr.units) (ee_v 15 rfl) (ee_v 8 rfl) (od_eqD (pydT (moI n (gfx n ms x))) (pydT (moI n x)) (shapedT_int _) (shapedT_int _) ⟨rfl, rfl⟩)) (d' := .bl (decide (moI n (gfx n ms x) = moI n x))) ?_) (od_neD (d := .bool (decide (moI n (gfx n ms x) = moI n x))) (e := .bool (decide (moI n (gfx n ms x) = moI n x))) (.inl ⟨rfl, rfl⟩) (.inl ⟨rfl, rfl⟩) rfl rfl ⟨_, rfl, rfl, rfl⟩)) ?_)) rfl)) (fun h => Bool.noConfusion h) fun _ => wss_nil ?_)
  · refine congrArg D.bl ?_
    show PyData.eqvAll _ _ = _
    rw [eqvA_rows, paper_nil v]
  · rw [eqvT_int]
  · simp [PyData.eqv]
  -- what is no paper
  obtain ⟨b0, hb0, k0⟩ : ∃ b0 : D, (∀ (sg : Sg) (M : Mem), True) ∧ b0 = (if 0 < ms.length then msD (fpp ms (msum n x) x ++ ms.take 1) else .non) := ⟨_, fun _ _ => trivial, rfl⟩
  obtain ⟨b4, k4⟩ : ∃ b4 : D, b4 = (if 0 < (fpp ms (msum n x) x).length then msD (fpp ms (msum n x) x).dropLast else .non) := ⟨_, rfl⟩
  have bad0 : BadP n ms x b0 := by
    rw [k0]
    split
    · rename_i h
      cases e : ms with
      | nil => rw [e] at h; exact absurd h (by decide)
      | cons m rest =>
        rw [e] at v
        exact .inr ⟨_, rfl, paper_more v m⟩
    · exact .inl (.inl rfl)
  have bad4 : BadP n ms x b4 := by
    rw [k4]
    split
    · rename_i h
      exact .inr ⟨_, rfl, paper_init v fun e => by rw [e] at h; exact absurd h (by decide)⟩
    · exact .inl (.inl rfl)
  have hbad : ∀ d ∈ [b0, .non, .int 0, .tup [.int 0], b4], BadP n ms x d := fun d hd => by
    simp only [List.mem_cons, List.not_mem_nil, or_false] at hd
    rcases hd with rfl | rfl | rfl | rfl | rfl
    · exact bad0
    · exact .inl (.inl rfl)
    · exact .inl (.inr (.inl rfl))
    · exact .inl (.inr (.inr rfl))
    · exact bad4
  refine wss_cons (ws_set 20 nd (EE.to (ee_lst (ea_cons (x := b0) (ee_if (k := decide (0 < ms.length)) (ET.is (et_gt (ee_cb call_len B.len bi_len (ea_cons (ee_v 5 rfl) ea_nil) (cd_lenT ⟨rfl, rfl⟩)) ee_int) ?_) (fun h => ?_) fun h => ?_) (ea_cons ee_non (ea_cons ee_int (ea_cons (ee_tup (ea_cons ee_int ea_nil)) (ea_cons (x := b4) (ee_if (k := decide (0 < (fpp ms (msum n x) x).length)) (ET.is (et_gt (ee_cb call_len B.len bi_len (ea_cons (ee_v 19 rfl) ea_nil) (cd_lenT ⟨rfl, rfl⟩)) ee_int) ?_) (fun h => ?_) fun h => ?_) ea_nil)))))) ?_))
  · rw [List.length_map]
    exact decide_eq_decide.mpr (by omega)
  · have h := of_decide_eq_true h
    rw [k0, if_pos h]
    refine EE.is (ee_op op_catA (ee_v 19 rfl) (ee_sl sl_tupA (ee_v 5 rfl) eo_none (eo_some ee_int) (sd_tup ⟨rfl, rfl⟩)) (od_catT ?_ ⟨rfl, rfl⟩)) ?_
    · have := cut_len (ms.map mkD) none (some 1)
      rw [List.length_map] at this ⊢
      exact small_i (by omega)
    · rw [show (1 : Int) = ((1 : Nat) : Int) from rfl, cut_toN]
      unfold msD
      rw [List.map_append, List.map_take]
  · rw [k0, if_neg (of_decide_eq_false h)]
    exact ee_non
  · rw [List.length_map]
    exact decide_eq_decide.mpr (by omega)
  · have h := of_decide_eq_true h
    rw [k4, if_pos h]
    refine EE.is (ee_sl sl_tupA (ee_v 19 rfl) eo_none (eo_some (ee_neg ee_int)) (sd_tup ⟨rfl, rfl⟩)) ?_
    show D.tup (DL.cutD ((fpp ms (msum n x) x).map mkD) none (some (-1))) = _
    rw [cut_init]
    unfold msD
    rw [List.map_dropLast]
  · rw [k4, if_neg (of_decide_eq_false h)]
    exact ee_non
  have hlen : [b0, .non, .int 0, .tup [.int 0], b4].length < 1000 := (by decide : 5 < 1000)
  generalize [b0, .non, .int 0, .tup [.int 0], b4] = bs at hbad hlen ⊢
  refine wss_cons (ws_ifE (k := false) (ET.is (et_val (ee_cb (cr_any rfl) B.any bi_any (ea_cons (ee_lc1if 21 (ds := bs) (fun d => !PyData.eqv (toPy d) (.tuple (rowsPy ((fpp ms (msum n x) x).map mkI))) || isNon d) (fun _ => .bl false) rfl nd (wi_lst (EE.to (ee_v 20 rfl) ⟨_, .inl rfl, rfl, rfl, .inl rfl⟩)) (lt1000 hlen) (fun j d hd s H C cl fp => ?_) fun j d hd _ s H C cl fp => ?_) ea_nil) (cd_any (bs := (bs.filter fun d => !PyData.eqv (toPy d) (.tuple (rowsPy ((fpp ms (msum n x) x).map mkI))) || isNon d).map fun _ => false) (.inl ?_) ⟨rfl, rfl⟩))) ?_) (fun h => Bool.noConfusion h) fun _ => wss_nil ?_)
  · have hb := hbad d (List.mem_of_getElem? hd)
    exact ww_pt (ew_or (q := isNon d) (et_cmp (op_neD hr.units) (ee_v 21 rfl) (ee_v 19 rfl) (od_neD (.inl ⟨hb.pl, rfl⟩) (pyd_ms (fpp ms (msum n x) x)) hb.shaped (shapedT_rows _) ⟨_, rfl, rfl, rfl⟩)) fun _ => ww_or1 (et_cmp op_isN (ee_v 21 rfl) ee_non (od_isN ⟨_, rfl, rfl, rfl⟩)))
  · have hb := hbad d (List.mem_of_getElem? hd)
    rcases hb with h | ⟨qs, rfl, hq⟩
    · exact EE.is (ee_cmp op_notBl (we_call L.ifpN (hr.mono (by omega)) (EA.to (ea_cons (ee_v 5 rfl) (ea_cons (ee_v 8 rfl) (ea_cons (ee_v 15 rfl) (ea_cons (ee_v 21 rfl) ea_nil)))) ⟨rfl, n, ms, x, moD n (gfx n ms x), d, rfl, by omega, h, rfl, rfl⟩)) ee_bl (od_notB ⟨rfl, rfl⟩)) rfl
    · exact EE.is (ee_cmp op_notBl (we_call L.ifp (hr.mono (by omega)) (EA.to (ea_cons (ee_v 5 rfl) (ea_cons (ee_v 8 rfl) (ea_cons (ee_v 15 rfl) (ea_cons (ee_v 21 rfl) ea_nil)))) ⟨rfl, n, ms, x, gfx n ms x, qs, rfl, v, by omega, by omega, congrArg D.bl hq, rfl⟩)) ee_bl (od_notB ⟨rfl, rfl⟩)) rfl
  · rw [List.map_map]
    rfl
  · rw [List.any_map]
    exact List.any_eq_false.mpr fun _ _ h => Bool.noConfusion h
  obtain ⟨r0, h0⟩ : ∃ r0, (BR n ms Lm x)[0]? = some r0 := by
    cases e : BR n ms Lm x with
    | nil => have := gfx_mem v hx; rw [e] at this; cases this
    | cons r _ => exact ⟨r, rfl⟩
  have er := BR_row v (List.mem_of_getElem? h0)
  have fst : ∀ {p1 p2 p3 : Pos} {j : Nat} {sg : Sg}, sg[11]? = some (some (.lst ((BR n ms Lm x).map rD))) → EE (XL P w K mg base f cdv A outer s H E) (.Subscript (.Name "below" p1) (.Constant (.int 0) j p2) p3) sg M (rD r0) := fun hs => ee_ix ix_list (ee_v 11 hs) ee_int (od_ixL (d := rD r0) (.inl rfl) (show atI _ ((0 : Nat) : Int) = _ from atI_nat (by rw [List.getElem?_map, h0]; rfl)) ⟨rfl, rfl⟩)
  refine wss_cons (ws_ifE (k := false) (ww_pt (ew_is (ew_and (p := !decide (r0 = moI n (gfx n ms x))) (q := false) (ET.is (et_cmp (op_neD hr.units) (fst rfl) (ee_v 15 rfl) (od_neD (pydT r0) (pydT (moI n (gfx n ms x))) (shapedT_int _) (shapedT_int _) ⟨_, rfl, rfl, rfl⟩)) (by rw [eqvT_int])) fun h => ww_and1 (ET.is (et_cmp op_notBl (we_call L.ifp (hr.mono (by omega)) (EA.to (ea_cons (ee_v 5 rfl) (ea_cons (ee_v 8 rfl) (ea_cons (fst rfl) (ea_cons (ee_v 19 rfl) ea_nil)))) ⟨rfl, n, ms, x, moR r0, fpp ms (msum n x) x, by rw [show rD r0 = moD n (moR r0) from congrArg rD er.symm], v, by omega, by omega, rfl, rfl⟩)) ee_bl (od_notB ⟨_, rfl, rfl, rfl⟩)) ?_)) (Bool.and_false _))) (fun h => Bool.noConfusion h) fun _ => wss_nil ?_)
  · rw [paper_other v]
    · rfl
    · intro e
      rw [er] at e
      rw [e, decide_eq_true rfl] at h
      cases h
  · exact wss_fg (by exact ⟨rfl, rfl, rfl, rfl, rfl, rfl, rfl, rfl, rfl, trivial⟩) q
end
end K46
set_option Elab.async false
set_option linter.all false
set_option maxRecDepth 100000
set_option maxHeartbeats 4000000
namespace K46
open PySem L2 PyProof.Rows DL
/-! ### the law's body: what two viewers agree on -/
section
variable {P : Program} {w : World} {K : PySem.W.Frag} {mg : Str → Option Value} {base : Heap} {f : Addr} {cdv : Value} {A : Around} {outer : List Env} {s : Shared} {H : Hp} {E : XK} {sg : Sg} {M : Mem} {pos pos' : Pos}
theorem a_agree {ED : EndsD} {p c rp : Addr} {n : Nat} {ms : List Mk} {Lm x : Mo} (L : CL P w K mg base) (hr : Room 5 (XL P w K mg base f cdv A outer s H E).A) (O : Okw n ms Lm) (hx : leM n x Lm) (hS : St M p c rp n ms Lm)
    (q : ∀ (M1 : Mem) (sg1 : Sg), St M1 p c rp n ms Lm → Fg (sgT p rp n ms Lm) sg1 → ED.nx sg1 M1) :
    WSs (XL P w K mg base f cdv A outer s H E) (stepL.drop 13) (sgP p rp n ms Lm x) M ED := by
  have nd := sc_law.nd
  have B := L.B
  have v := O.told.v
  have n1 := O.n1
  have lm := O.len
  have lF := FR_len (ms := ms) O.l4 n1
  have ln : ((moI n Lm).map D.int).length = n := by rw [List.length_map, moI_len]
  have lr : (rngD 0 n).length < sizeLine := by rw [rngD_len]; exact lt_i (by omega)
  refine wss_cons (ws_set 22 nd (a_moment L hr n1 O.l4 hS.bx fun y M1 hy hB1 hE1 => ?_))
  have hS1 := hS.els hB1 hE1
  have hz : leM n (mn x y) Lm := fun j hj => Nat.le_trans (Nat.min_le_left _ _) (hx j hj)
  show WSs _ _ [none, some (.ptr p), none, some (moD n Lm), none, some (msD ms), some (.ptr rp), some (.lst ((FR n ms Lm).map rD)), some (moD n x), none, none, some (.lst ((BR n ms Lm x).map rD)), none, none, none, some (moD n (gfx n ms x)), none, none, none, some (msD (fpp ms (msum n x) x)), none, none, some (moD n y), none, none, none] _ _
  refine wss_cons (ws_set 23 nd (EE.to (EE.is (ee_lc1if 12 (ds := (FR n ms Lm).map rD) (fun d => leB n (moR (intsD d)) (mn x y)) (fun d => d) rfl nd (wi_lst (EE.to (ee_v 7 rfl) ⟨_, .inl rfl, rfl, rfl, .inl rfl⟩)) (lt1000 (by rw [List.length_map]; omega)) (fun j d hd s H C cl fp => ?_) fun j d hd _ s H C cl fp => ee_v 12 rfl) (congrArg D.lst (rows_if (fun r => leB n (moR r) (mn x y)) (FR n ms Lm)))) ?_))
  · obtain ⟨r, hr0, rfl⟩ := at_map hd
    obtain ⟨er, _, _⟩ := FR_row v (List.mem_of_getElem? hr0)
    rw [intsD_r, show rD r = moD n (moR r) from congrArg rD er.symm]
    refine et_val (ee_cb (cr_all rfl) B.all bi_all (ea_cons (ee_lc1 13 (ds := rngD 0 n) (fun e => .bl (decide (moR r (intOf e).toNat ≤ mn x y (intOf e).toNat))) rfl nd (wi_rng1 B.range (EA.to (ea_cons (ee_cb call_len B.len bi_len (ea_cons (ee_v 3 rfl) ea_nil) (cd_lenT ⟨rfl, rfl⟩)) ea_nil) ⟨(((moI n Lm).map D.int).length : Int), rfl, by omega, by omega, by rw [ln, Int.toNat_natCast], rfl, trivial⟩)) lr fun m e he s H C cl fp => ?_) ea_nil) (cd_all (bs := (List.range n).map fun k => decide (moR r k ≤ mn x y k)) (.inl (rng_bl n fun k => decide (moR r k ≤ mn x y k))) ⟨by rw [leB_all], rfl⟩))
    obtain ⟨hm, rfl⟩ := rngD_at he
    rw [Int.zero_add]
    refine EE.is (ee_le (ee_ix ix_tup (ee_v 12 rfl) (ee_v 13 rfl) (od_ixT (moD_at hm) ⟨rfl, rfl⟩)) (EE.is (d' := .int (mn x y m : Int)) (ee_cb (call_min2 rfl) B.min bi_min (ea_cons (ee_ix ix_tup (ee_v 8 rfl) (ee_v 13 rfl) (od_ixT (moD_at hm) ⟨rfl, rfl⟩)) (ea_cons (ee_ix ix_tup (ee_v 22 rfl) (ee_v 13 rfl) (od_ixT (moD_at hm) ⟨rfl, rfl⟩)) ea_nil)) (cd_min2 ⟨rfl, rfl⟩)) ?_)) (congrArg D.bl ?_)
    · refine congrArg D.int ?_
      show (if (y m : Int) < (x m : Int) then (y m : Int) else (x m : Int)) = ((min (x m) (y m) : Nat) : Int)
      split <;> omega
    · show decide ((moR r m : Int) ≤ (mn x y m : Int)) = decide (moR r ((m : Int)).toNat ≤ mn x y ((m : Int)).toNat)
      rw [Int.toNat_natCast]
      exact decide_eq_decide.mpr (by omega)
  show WSs _ _ [none, some (.ptr p), none, some (moD n Lm), none, some (msD ms), some (.ptr rp), some (.lst ((FR n ms Lm).map rD)), some (moD n x), none, none, some (.lst ((BR n ms Lm x).map rD)), none, none, none, some (moD n (gfx n ms x)), none, none, none, some (msD (fpp ms (msum n x) x)), none, none, some (moD n y), some (.lst ((BR n ms Lm (mn x y)).map rD)), none, none] _ _
  have lB : (BR n ms Lm (mn x y)).length ≤ 125 := Nat.le_trans (List.length_filter_le _ _) lF
  have pB : 0 < (BR n ms Lm (mn x y)).length := List.length_pos_iff.mpr fun e => by have := gfx_mem v hz; rw [e] at this; cases this
  refine wss_one (ws_ifE (k := false) (ET.is (et_not (et_val (ee_same L hr (x := moD n (gfx n ms (mn x y))) (y := moD n (gfx n ms (mn x y))) (we_call L.agree (hr.mono (by omega)) (EA.to (ea_cons (ee_v 5 rfl) (ea_cons (ee_v 8 rfl) (ea_cons (ee_v 22 rfl) ea_nil))) ⟨rfl, n, ms, x, y, rfl, v, by omega, by omega, rfl, rfl⟩)) (EE.is (ee_ct call_tuple_of B.tuple bi_tuple (ea_cons (ee_lc1 13 (ds := rngD 0 n) (fun e => .int (gfx n ms (mn x y) (intOf e).toNat : Int)) rfl nd (wi_rng1 B.range (EA.to (ea_cons (ee_cb call_len B.len bi_len (ea_cons (ee_v 3 rfl) ea_nil) (cd_lenT ⟨rfl, rfl⟩)) ea_nil) ⟨(((moI n Lm).map D.int).length : Int), rfl, by omega, by omega, by rw [ln, Int.toNat_natCast], rfl, trivial⟩)) lr fun m e he s H C cl fp => ?_) ea_nil) (cd_tupL (.inl rfl) ⟨rfl, rfl⟩)) (rng_mo n _)) (moD_wf (by omega) 1) (moD_wf (by omega) 1)))) (not_eqD rfl)) (fun h => Bool.noConfusion h) fun _ => wss_nil (q M1 _ hS1 (by exact ⟨rfl, rfl, rfl, rfl, rfl, trivial⟩)))
  obtain ⟨hm, rfl⟩ := rngD_at he
  rw [Int.zero_add]
  show EE _ _ _ _ (.int (gfx n ms (mn x y) ((m : Int)).toNat : Int))
  rw [Int.toNat_natCast]
  refine ee_cb (cr_max rfl) B.max bi_max (ea_cons (ee_lc1 12 (ds := (BR n ms Lm (mn x y)).map rD) (fun d => .int ((intsD d).getD m 0)) rfl nd (wi_lst (EE.to (ee_v 23 rfl) ⟨_, .inl rfl, rfl, rfl, .inl rfl⟩)) (lt1000 (by rw [List.length_map]; omega)) (fun j d hd s H C cl fp => ?_)) ea_nil) (cd_max (ns := col m (BR n ms Lm (mn x y))) (.inl ?_) (by unfold col; rw [List.length_map]; exact pB) fun t h1 h2 => ⟨congrArg D.int (col_max v hz hm h1 h2), rfl⟩)
  · obtain ⟨r, hr0, rfl⟩ := at_map hd
    have er := BR_row v (List.mem_of_getElem? hr0)
    rw [intsD_r, show rD r = moD n (moR r) from congrArg rD er.symm, ← er, col_moI hm, er]
    exact ee_ix ix_tup (ee_v 12 rfl) (ee_v 13 rfl) (od_ixT (moD_at hm) ⟨rfl, rfl⟩)
  · rw [List.map_map]
    unfold col
    rw [List.map_map]
    exact congrArg D.lst (List.map_congr_left fun r _ => by show D.int ((intsD (rD r)).getD m 0) = D.int (r.getD m 0); rw [intsD_r])
/-- a step -/
theorem a_step {ED : EndsD} {p c rp : Addr} {n : Nat} {ms : List Mk} {Lm : Mo} (L : CL P w K mg base) (hr : Room 5 (XL P w K mg base f cdv A outer s H E).A) (O : Okw n ms Lm) (hS : St M p c rp n ms Lm)
    (q : ∀ (M1 : Mem) (sg1 : Sg), St M1 p c rp n ms Lm → Fg (sgT p rp n ms Lm) sg1 → ED.nx sg1 M1) :
    WSs (XL P w K mg base f cdv A outer s H E) stepL (sgT p rp n ms Lm) M ED :=
  a_most L hr O hS fun x M1 hx hS1 => a_order L hr O hx hS1 fun M2 hS2 => a_paper (c := c) L hr O hx (a_agree L hr O hx hS2 q)
end
end K46
set_option Elab.async false
set_option linter.all false
set_option maxRecDepth 100000
set_option maxHeartbeats 4000000
namespace K46
open PySem L2 PyProof.Rows DL
/-! ### the law's body: all steps; the judge of marks over any value -/
def swp (μ : Mk) : Mk := ⟨μ.o, μ.t, μ.s, μ.m⟩
theorem bp_ms {n : Nat} {ms : List Mk} {L : Mo} (O : Okw n ms L) : bp 100 3 (msD ms) = true := by
  have n1 := O.n1
  have lm := O.len
  refine Bool.and_eq_true_iff.mpr ⟨decide_eq_true (by rw [List.length_map]; omega), List.all_eq_true.mpr fun d hd => ?_⟩
  obtain ⟨μ, hμ, rfl⟩ := List.mem_map.mp hd
  have a := O.told.v.s_ μ hμ
  have b := O.told.v.o_ μ hμ
  have c := O.told.m_ μ hμ
  have d := (O.told.t_ μ hμ).2
  have e := O.l4 _ a
  have g := O.l4 _ b
  have one : ∀ {k : Nat}, k ≤ 100 → bp 100 1 (.int (k : Int)) = true := fun hk => Bool.and_eq_true_iff.mpr ⟨decide_eq_true (by omega), decide_eq_true (by omega)⟩
  refine Bool.and_eq_true_iff.mpr ⟨rfl, List.all_eq_true.mpr fun x hx => ?_⟩
  simp only [List.mem_cons, List.not_mem_nil, or_false] at hx
  rcases hx with rfl | rfl | rfl | rfl <;> exact one (by omega)
section
variable {P : Program} {w : World} {K : PySem.W.Frag} {mg : Str → Option Value} {base : Heap} {f : Addr} {cdv : Value} {A : Around} {outer : List Env} {s : Shared} {H : Hp} {E : XK} {sg : Sg} {M : Mem} {pos pos' : Pos}
theorem a_values {ED : EndsD} {p c rp : Addr} {n : Nat} {ms : List Mk} {Lm : Mo} (L : CL P w K mg base) (hr : Room 5 (XL P w K mg base f cdv A outer s H E).A) (O : Okw n ms Lm) (hS : St M p c rp n ms Lm)
    (q : ∀ (M1 : Mem) (sg1 : Sg), Bx M1 p c → Fg [none, some (.ptr p), none, none, none, none, none, none, none, none, none, none, none, none, none, none, none, none, none, none, none, none, none, none, none, none] sg1 → ED.nx sg1 M1) :
    WSs (XL P w K mg base f cdv A outer s H E) (turnB.drop 6) (sgT p rp n ms Lm) M ED := by
  have nd := sc_law.nd
  have B := L.B
  have n0 := O.n0
  have n1 := O.n1
  have lm := O.len
  have h12 := msum_12 n1 O.l4
  refine wss_cons (ws_for PassesOwn.never rfl (Qi := fun es C M0 => es = rngD 0 5 ∧ M0 = M ∧ ∀ M1, C M1) (wi_rng1 B.range (EA.to (ea_cons ee_int ea_nil) ⟨5, rfl, by decide, by decide, rfl, rfl, fun _ => trivial⟩)) fun es C M0 ⟨e1, e2, hC⟩ => ?_)
  subst e1; subst e2
  refine ⟨fun i sg1 M1 => St M1 p c rp n ms Lm ∧ Fg (sgT p rp n ms Lm) sg1, ⟨hS, ⟨rfl, rfl, rfl, rfl, rfl, trivial⟩⟩, fun i sg1 M1 _ => hC _, fun i d sg1 M1 he ⟨hS1, hg⟩ => ?_, fun sg1 M1 ⟨hS1, hg⟩ => ?_⟩
  · obtain ⟨hi, rfl⟩ := rngD_at he
    refine ⟨_, _, wg_name 9 nd, wss_fg (fg_trans (a := sgT p rp n ms Lm) (by exact ⟨rfl, rfl, rfl, rfl, rfl, trivial⟩) (fg_set hg 9 _)) ?_⟩
    exact a_step L hr O hS1 fun M2 sg2 hS2 hg2 => ⟨hS2, hg2⟩
  refine wss_fg hg ?_
  have hB := hS1.bx
  clear hg hS hC
  refine wss_cons (ws_set 24 nd (EE.to (d := msD (ms ++ (ms.take 1).map swp)) (EE.is (ee_op op_catA (ee_v 5 rfl) (EE.is (d' := msD ((ms.take 1).map swp)) (ee_ct call_tuple_of B.tuple bi_tuple (ea_cons (ee_lc1 25 (ds := (ms.take 1).map mkD) (fun d => mkD (swp (unD d))) rfl nd (wi_tup (EE.to (EE.is (d' := .tup ((ms.take 1).map mkD)) (ee_sl sl_tupA (ee_v 5 rfl) eo_none (eo_some ee_int) (sd_tup ⟨rfl, rfl⟩)) ?_) ⟨_, rfl, rfl, rfl, trivial⟩)) (lt1000 (by rw [List.length_map, List.length_take]; omega)) (fun j d hd s H C cl fp => ?_)) ea_nil) (cd_tupL (.inl rfl) ⟨rfl, rfl⟩)) ?_) (od_catT ?_ ⟨rfl, rfl⟩)) ?_) ?_))
  · rw [show (1 : Int) = ((1 : Nat) : Int) from rfl, cut_toN, List.map_take]
  · obtain ⟨μ, hμ, rfl⟩ := at_map hd
    rw [unD_mk]
    exact ee_tup (ea_cons (ee_ix ix_tup (ee_v 25 rfl) ee_int (od_ixT rfl ⟨rfl, rfl⟩)) (ea_cons (ee_ix ix_tup (ee_v 25 rfl) ee_int (od_ixT rfl ⟨rfl, rfl⟩)) (ea_cons (ee_ix ix_tup (ee_v 25 rfl) ee_int (od_ixT rfl ⟨rfl, rfl⟩)) (ea_cons (ee_ix ix_tup (ee_v 25 rfl) ee_int (od_ixT rfl ⟨rfl, rfl⟩)) ea_nil))))
  · unfold msD
    rw [List.map_map, List.map_map]
    exact congrArg D.tup (List.map_congr_left fun μ _ => by show mkD (swp (unD (mkD μ))) = mkD (swp μ); rw [unD_mk])
  · rw [List.length_map, List.length_map, List.length_map, List.length_take]
    exact small_i (by omega)
  · unfold msD
    rw [List.map_append]
  have hback : (ms ++ (ms.take 1).map swp).length ≤ 900 := by rw [List.length_append, List.length_map, List.length_take]; omega
  generalize ms ++ (ms.take 1).map swp = bk at hback ⊢
  show WSs _ _ [none, some (.ptr p), none, some (moD n Lm), none, some (msD ms), some (.ptr rp), some (.lst ((FR n ms Lm).map rD)), none, none, none, none, none, none, none, none, none, none, none, none, none, none, none, none, some (msD bk), none] _ _
  have hl1 : atI ((moI n Lm).map D.int) (1 : Int) = some (.int (Lm 1 : Int)) := moD_at (j := 1) (by omega)
  obtain ⟨vs, hvs⟩ : ∃ vs : List D, vs = [msD ms, .tup (DL.cutD (ms.map mkD) (some 1) none), msD bk, .tup [.tup [.int 0, .int 1, .int 0, .int 1]], .tup [.tup [.int 0, .int 0, .int 1, .int 1]], .tup [.tup [.int 0, .int 1, .int 1, .int ((Lm 1 : Int) + 1)]], .tup [.tup [.bl true, .int 1, .int 0, .int 1]], .non, .int 0, .tup []] := ⟨_, rfl⟩
  have hw : ∀ d ∈ vs, wf 900 7 d = true := by
    rw [hvs]
    intro d hd
    simp only [List.mem_cons, List.not_mem_nil, or_false] at hd
    rcases hd with rfl | rfl | rfl | rfl | rfl | rfl | rfl | rfl | rfl | rfl
    · exact msD_wf (by omega) 4
    · have h0 := wf_tup (msD_wf (ms := ms) (by omega) 4)
      refine tup_wf (Nat.le_trans (cut_len _ _ _) h0.1) fun x hx => h0.2 x (cut_sub hx)
    · exact msD_wf hback 4
    · rfl
    · rfl
    · rfl
    · rfl
    · rfl
    · rfl
    · rfl
  have lvs : vs.length = 10 := by rw [hvs]; rfl
  refine wss_one (ws_for PassesOwn.never rfl (Qi := fun es C M0 => (∀ x ∈ es, wf 900 7 x = true) ∧ Bx M0 p c ∧ ∀ M1 : Mem, C M1) (wi_lst (we_op op_cat (Qa := fun d M2 => d = .lst vs ∧ M2 = M1) (EE.is (ee_lst (ea_cons (ee_v 5 rfl) (ea_cons (ee_sl sl_tupA (ee_v 5 rfl) (eo_some ee_int) eo_none (sd_tup ⟨rfl, rfl⟩)) (ea_cons (ee_v 24 rfl) (ea_cons (ee_tup (ea_cons (ee_tup (ea_cons ee_int (ea_cons ee_int (ea_cons ee_int (ea_cons ee_int ea_nil))))) ea_nil)) (ea_cons (ee_tup (ea_cons (ee_tup (ea_cons ee_int (ea_cons ee_int (ea_cons ee_int (ea_cons ee_int ea_nil))))) ea_nil)) (ea_cons (ee_tup (ea_cons (ee_tup (ea_cons ee_int (ea_cons ee_int (ea_cons ee_int (ea_cons (ee_add (ee_ix ix_tup (ee_v 3 rfl) ee_int (od_ixT hl1 ⟨rfl, rfl⟩)) ee_int) ea_nil))))) ea_nil)) (ea_cons (ee_tup (ea_cons (ee_tup (ea_cons ee_bl (ea_cons ee_int (ea_cons ee_int (ea_cons ee_int ea_nil))))) ea_nil)) (ea_cons ee_non (ea_cons ee_int (ea_cons (ee_tup ea_nil) ea_nil))))))))))) (by rw [hvs])) fun x M2 ⟨e1, e2⟩ => ?_)) fun es C M0 ⟨hes, hB0, hC⟩ => ?_)
  · subst e1; subst e2
    refine we_lc [("step", 9)] rfl nd (blkOk_by (by with_unfolding_all rfl)) (Qi := fun es C M0 => es = rngD 0 6 ∧ M0 = M2 ∧ ∀ M1 : Mem, C M1) (wi_rng1 B.range (EA.to (ea_cons ee_int ea_nil) ⟨6, rfl, by decide, by decide, rfl, rfl, fun _ => trivial⟩)) (fun ds C M0 ⟨e1, e2, hC⟩ => ?_) (Nat.zero_le _)
    subst e1; subst e2
    refine ⟨fun i acc M1 => acc.length = i ∧ i ≤ 6 ∧ (∀ x ∈ acc, wf 900 7 x = true) ∧ Bx M1 p c, ⟨rfl, Nat.zero_le _, fun b hb => (by cases hb), hB⟩, fun i acc M1 ⟨e, hi, _⟩ => ⟨hC _, lt1000 (by omega)⟩, fun i d acc M1 hd ⟨e, hi, hb, hB1⟩ => ?_, fun acc M1 ⟨e, hi, hb, hB1⟩ => ?_⟩
    · obtain ⟨hj, rfl⟩ := rngD_at hd
      refine turn1 9 (List.mem_singleton.mpr rfl) nd (by first | exact .inl rfl | exact .inr rfl) rfl (fun b M2 => b = true ∧ M2 = M1) (fun _ _ _ _ _ => ⟨rfl, rfl⟩) (fun M2 ⟨_, e2⟩ => ?_) (fun M2 ⟨e, _⟩ => Bool.noConfusion e)
      subst e2
      intro s H C cl fp
      refine we_call L.bent hr (EA.to (ea_cons (ee_v 1 rfl) (ea_cons (ee_v 5 rfl) ea_nil)) ⟨rfl, p, c, _, rfl, hB1, bp_ms O, fun d M3 hd hB3 _ => ?_⟩)
      refine ⟨by rw [List.length_append, e]; rfl, hj, fun x hx => ?_, hB3⟩
      rcases List.mem_append.mp hx with hx | hx
      · exact hb x hx
      · rw [List.mem_singleton.mp hx]
        exact wf_mono (by decide) (by decide) hd
    · rw [rngD_len] at e
      refine od_cat (.inl rfl) (.inl rfl) (by rw [lvs, e]; exact small30) ⟨_, .inl rfl, fun x hx => ?_, hB1, fun _ => .inl rfl⟩
      rcases List.mem_append.mp hx with hx | hx
      · exact hw x hx
      · exact hb x hx
  · refine ⟨fun i sg1 M1 => Bx M1 p c ∧ Fg [none, some (.ptr p), none, some (moD n Lm), none, none, none, none, none, none, none, none, none, none, none, none, none, none, none, none, none, none, none, none, none, none] sg1, ⟨hB0, ⟨rfl, rfl, trivial⟩⟩, fun i sg1 M1 _ => hC _, fun i d sg1 M1 he ⟨hB1, hg⟩ => ?_, fun sg1 M1 ⟨hB1, hg⟩ => q M1 sg1 hB1 (fg_trans (by exact ⟨rfl, trivial⟩) hg)⟩
    have hwd := hes d (List.mem_of_getElem? he)
    refine ⟨_, _, wg_name 21 nd, wss_fg (fg_set hg 21 _) ?_⟩
    refine wss_one (ws_if (wt_not (wt_val (we_call L.same (hr.mono (by omega)) (wa_cons (EE.to (we_call L.are (hr.mono (by omega)) (EA.to (ea_cons (ee_v 3 rfl) (ea_cons (ee_v 21 rfl) ea_nil)) ⟨rfl, n, Lm, d, rfl, hwd, by omega, by omega, by omega, rfl, rfl⟩)) (wa_cons (we_call L.lare (hr.mono (by omega)) (EA.to (ea_cons (ee_v 3 rfl) (ea_cons (ee_v 21 rfl) ea_nil)) ⟨rfl, n, Lm, d, rfl, hwd, by omega, n1, h12, fun M' up => wa_nil ⟨rfl, _, _, rfl, rfl, rfl, ?_⟩⟩)))))))))
    refine ⟨_, rfl, fun h => ?_, fun _ => wss_nil ⟨hB1.up up, ⟨rfl, rfl, trivial⟩⟩⟩
    rw [not_eqD rfl] at h
    cases h
end
end K46
set_option Elab.async false
set_option linter.all false
set_option maxRecDepth 100000
set_option maxHeartbeats 4000000
namespace K46
open PySem L2 PyProof.Rows DL
/-! ### the law's body, whole -/
def km : List Mk := [⟨1, 1, 0, 2⟩, ⟨0, 3, 1, 1⟩]
def pr (a b : Nat) : Mo := fun j => if j = 0 then a else b
theorem km_v : Ms 2 km := ⟨by decide, by decide, by decide, by decide⟩
theorem km_great : moD 2 (gf km (msum 2 (pr 1 2)) (pr 1 2)) = .tup [.int 1, .int 0] := congrArg (fun l : List Int => D.tup (l.map D.int)) (show moI 2 (gf km (msum 2 (pr 1 2)) (pr 1 2)) = [1, 0] by decide +kernel)
theorem km_least : moD 2 (lf km (left 2 (pr 3 0) (pr 3 2)) (pr 3 0)) = .tup [.int 3, .int 1] := congrArg (fun l : List Int => D.tup (l.map D.int)) (show moI 2 (lf km (left 2 (pr 3 0) (pr 3 2)) (pr 3 0)) = [3, 1] by decide +kernel)
theorem km_a : greedy km 2 (msum 2 (pr 2 1)) z0 (pr 2 1) = some [0, 0, 1] := by decide +kernel
theorem km_b : greedy km 2 (left 2 (pr 2 1) (pr 3 2)) (pr 2 1) (pr 3 2) = some [0, 1] := by decide +kernel
theorem km_no : marksB 2 (pr 2 2) (.tup [.tup [.int 0, .int 1, .int 1, .int 1], .tup [.int 1, .int 1, .int 0, .int 1]]) = false := by decide +kernel
section
variable {P : Program} {w : World} {K : PySem.W.Frag} {mg : Str → Option Value} {base : Heap}
theorem law_body (L : CL P w K mg base) : ∀ (f : Addr) (cdv : Value) (A : Around) (outer : List Env) (s : Shared) (H : Hp) (E : XK) (ds : List D) (M : Mem) (Q : D → Mem → Prop), Room 5 (A.deeper (envOfC "law" (defScope s_law) s.heap.objs.size f cdv)) → ds.length = 1 → S_script ds M Q →
    WSs (cxOf CX0 P w K mg base NL "law" (defScope s_law) f cdv A outer s H E).nox (defBody s_law) (startD NL ds) M { nx := fun _ M' => Q .non M', rt := Q } := by
  intro f cdv A outer s H E ds M Q hr hl hs
  obtain ⟨ns, rfl, hn, q⟩ := hs
  have nd := sc_law.nd
  have B := L.B
  refine wss_cons (ws_set 1 nd (we_call L.box (hr.mono (by omega)) (EA.to (ea_cons (ee_v 0 rfl) ea_nil) ⟨rfl, ns, rfl, hn, fun p c M1 hp0 hc0 hB _ => ?_⟩)))
  refine wss_cons (ws_for PassesOwn.never rfl (Qi := fun es C M0 => es = rngD 0 4 ∧ M0 = M1 ∧ ∀ M1, C M1) (wi_rng1 B.range (EA.to (ea_cons ee_int ea_nil) ⟨4, rfl, by decide, by decide, rfl, rfl, fun _ => trivial⟩)) fun es C M0 ⟨e1, e2, hC⟩ => ?_)
  subst e1; subst e2
  refine ⟨fun i sg1 M1 => Bx M1 p c ∧ Fg [none, some (.ptr p), none, none, none, none, none, none, none, none, none, none, none, none, none, none, none, none, none, none, none, none, none, none, none, none] sg1, ⟨hB, ⟨rfl, trivial⟩⟩, fun i sg1 M1 _ => hC _, fun i d sg1 M1 he ⟨hB1, hg⟩ => ?_, fun sg1 M1 ⟨hB1, hg⟩ => ?_⟩
  · obtain ⟨hi, rfl⟩ := rngD_at he
    refine ⟨_, _, wg_name 2 nd, wss_fg (fg_trans (a := [none, some (.ptr p), none, none, none, none, none, none, none, none, none, none, none, none, none, none, none, none, none, none, none, none, none, none, none, none]) (by exact ⟨rfl, trivial⟩) (fg_set hg 2 _)) ?_⟩
    exact a_lasts L hr hB1 fun n ms Lm rp M2 O hS => a_fits L hr O hS (a_values L hr O hS fun M3 sg3 hB3 hg3 => ⟨hB3, hg3⟩)
  refine wss_fg hg ?_
  refine wss_cons (ws_set 5 nd (EE.to (d := msD km) (ee_tup (ea_cons (ee_tup (ea_cons ee_int (ea_cons ee_int (ea_cons ee_int (ea_cons ee_int ea_nil))))) (ea_cons (ee_tup (ea_cons ee_int (ea_cons ee_int (ea_cons ee_int (ea_cons ee_int ea_nil))))) ea_nil))) ?_))
  show WSs _ _ [none, some (.ptr p), none, none, none, some (msD km), none, none, none, none, none, none, none, none, none, none, none, none, none, none, none, none, none, none, none, none] _ _
  have w3 : wf 900 3 (.tup [.tup [.int 1, .int 0], .tup [.int 3, .int 1], .tup [.int 0, .int 0, .int 1, .int 0, .int 1]]) = true := by decide +kernel
  have two : ∀ {a b : Nat} {sg : Sg} {M : Mem} {p1 p2 p3 : Pos} {j1 j2 j3 : Nat}, EE (XL P w K mg base f cdv A outer s H E) (.Tuple [.Constant (.int (a : Int)) j1 p1, .Constant (.int (b : Int)) j2 p2] j3 p3) sg M (moD 2 (pr a b)) := ee_tup (ea_cons ee_int (ea_cons ee_int ea_nil))
  refine wss_cons (ws_ifE (k := false) (ET.is (et_not (et_val (ee_same L hr (x := .tup [.tup [.int 1, .int 0], .tup [.int 3, .int 1], .tup [.int 0, .int 0, .int 1, .int 0, .int 1]]) (y := .tup [.tup [.int 1, .int 0], .tup [.int 3, .int 1], .tup [.int 0, .int 0, .int 1, .int 0, .int 1]])
    (ee_tup (ea_cons (EE.is (we_call L.great (hr.mono (by omega)) (EA.to (ea_cons (ee_v 5 rfl) (ea_cons (two (a := 1) (b := 2)) ea_nil)) ⟨rfl, 2, km, pr 1 2, rfl, km_v, by decide, by decide, rfl, rfl⟩)) km_great)
      (ea_cons (EE.is (we_call L.least (hr.mono (by omega)) (EA.to (ea_cons (ee_v 5 rfl) (ea_cons (two (a := 3) (b := 0)) ea_nil)) ⟨rfl, 2, km, pr 3 0, pr 3 2, rfl, km_v, by decide, by decide, by decide, rfl, rfl⟩)) km_least)
      (ea_cons (we_call L.through (hr.mono (by omega)) (EA.to (ea_cons (two (a := 3) (b := 2)) (ea_cons (ee_v 5 rfl) (ea_cons (two (a := 2) (b := 1)) ea_nil))) ⟨rfl, 2, km, pr 3 2, pr 2 1, rfl, km_v, by decide, by decide, by decide, by decide, by decide, fun a ha => ⟨[0, 1], km_b, ?_, by decide, ?_⟩, fun h => absurd (h.symm.trans km_a) (by simp)⟩)) ea_nil))))
    (ee_tup (ea_cons (ee_tup (ea_cons ee_int (ea_cons ee_int ea_nil))) (ea_cons (ee_tup (ea_cons ee_int (ea_cons ee_int ea_nil))) (ea_cons (ee_tup (ea_cons ee_int (ea_cons ee_int (ea_cons ee_int (ea_cons ee_int (ea_cons ee_int ea_nil)))))) ea_nil)))) w3 w3))) (not_eqD rfl)) (fun h => Bool.noConfusion h) fun _ => wss_nil ?_)
  · have e : a = [0, 0, 1] := Option.some.inj (ha.symm.trans km_a)
    rw [e]; decide
  · have e : a = [0, 0, 1] := Option.some.inj (ha.symm.trans km_a)
    subst e
    exact ⟨rfl, rfl⟩
  refine wss_one (ws_ret (EE.to (EE.is (ee_cmp op_isBl (we_call L.are (hr.mono (by omega)) (EA.to (ea_cons (two (a := 2) (b := 2)) (ea_cons (ee_tup (ea_cons (ee_tup (ea_cons ee_int (ea_cons ee_int (ea_cons ee_int (ea_cons ee_int ea_nil))))) (ea_cons (ee_tup (ea_cons ee_int (ea_cons ee_int (ea_cons ee_int (ea_cons ee_int ea_nil))))) ea_nil))) ea_nil)) ⟨rfl, 2, pr 2 2, _, rfl, by decide +kernel, by decide, by decide, by decide, congrArg D.bl km_no, rfl⟩)) ee_bl (od_isB ⟨rfl, rfl⟩)) (show D.bl (decide (false = false)) = D.bl true from rfl)) (q M1)))
end
end K46
set_option Elab.async false
set_option linter.all false
set_option maxRecDepth 100000
set_option maxHeartbeats 4000000
namespace K46
open PySem L2 PyProof.Rows DL
section
variable {w : World} {K : PySem.W.Frag} {mg : Str → Option Value}
theorem all_mk {P : Program} {h : Heap} {fa : Addr} (X : K.In h) (G : h.Ns mainGlobals mg) (hfa : mg "law" = some (.ref fa)) {f0 : Addr} {od0 an0 : Option Addr} {sl0 : Array (Option Value)} {oc0 kV0 dc0 pm0 cd0 ct0 : Value} {f1 : Addr} {od1 an1 : Option Addr} {sl1 : Array (Option Value)} {oc1 kV1 dc1 pm1 cd1 ct1 : Value} {f2 : Addr} {od2 an2 : Option Addr} {sl2 : Array (Option Value)} {oc2 kV2 dc2 pm2 cd2 ct2 : Value} {f3 : Addr} {od3 an3 : Option Addr} {sl3 : Array (Option Value)} {oc3 kV3 dc3 pm3 cd3 ct3 : Value} {f4 : Addr} {od4 an4 : Option Addr} {sl4 : Array (Option Value)} {oc4 kV4 dc4 pm4 cd4 ct4 : Value} {f5 : Addr} {od5 an5 : Option Addr} {sl5 : Array (Option Value)} {oc5 kV5 dc5 pm5 cd5 ct5 : Value} {f6 : Addr} {od6 an6 : Option Addr} {sl6 : Array (Option Value)} {oc6 kV6 dc6 pm6 cd6 ct6 : Value} {f7 : Addr} {od7 an7 : Option Addr} {sl7 : Array (Option Value)} {oc7 kV7 dc7 pm7 cd7 ct7 : Value} {f8 : Addr} {od8 an8 : Option Addr} {sl8 : Array (Option Value)} {oc8 kV8 dc8 pm8 cd8 ct8 : Value} {f9 : Addr} {od9 an9 : Option Addr} {sl9 : Array (Option Value)} {oc9 kV9 dc9 pm9 cd9 ct9 : Value} {f10 : Addr} {od10 an10 : Option Addr} {sl10 : Array (Option Value)} {oc10 kV10 dc10 pm10 cd10 ct10 : Value} {f11 : Addr} {od11 an11 : Option Addr} {sl11 : Array (Option Value)} {oc11 kV11 dc11 pm11 cd11 ct11 : Value} {f12 : Addr} {od12 an12 : Option Addr} {sl12 : Array (Option Value)} {oc12 kV12 dc12 pm12 cd12 ct12 : Value} {f13 : Addr} {od13 an13 : Option Addr} {sl13 : Array (Option Value)} {oc13 kV13 dc13 pm13 cd13 ct13 : Value} {f14 : Addr} {od14 an14 : Option Addr} {sl14 : Array (Option Value)} {oc14 kV14 dc14 pm14 cd14 ct14 : Value} {f15 : Addr} {od15 an15 : Option Addr} {sl15 : Array (Option Value)} {oc15 kV15 dc15 pm15 cd15 ct15 : Value} {f16 : Addr} {od16 an16 : Option Addr} {sl16 : Array (Option Value)} {oc16 kV16 dc16 pm16 cd16 ct16 : Value} {f17 : Addr} {od17 an17 : Option Addr} {sl17 : Array (Option Value)} {oc17 kV17 dc17 pm17 cd17 ct17 : Value} {f18 : Addr} {od18 an18 : Option Addr} {sl18 : Array (Option Value)} {oc18 kV18 dc18 pm18 cd18 ct18 : Value} {f19 : Addr} {od19 an19 : Option Addr} {sl19 : Array (Option Value)} {oc19 kV19 dc19 pm19 cd19 ct19 : Value} {f20 : Addr} {od20 an20 : Option Addr} {sl20 : Array (Option Value)} {oc20 kV20 dc20 pm20 cd20 ct20 : Value} {f21 : Addr} {od21 an21 : Option Addr} {sl21 : Array (Option Value)} {oc21 kV21 dc21 pm21 cd21 ct21 : Value} {f22 : Addr} {od22 an22 : Option Addr} {sl22 : Array (Option Value)} {oc22 kV22 dc22 pm22 cd22 ct22 : Value} {f23 : Addr} {od23 an23 : Option Addr} {sl23 : Array (Option Value)} {oc23 kV23 dc23 pm23 cd23 ct23 : Value} {f24 : Addr} {od24 an24 : Option Addr} {sl24 : Array (Option Value)} {oc24 kV24 dc24 pm24 cd24 ct24 : Value} {f25 : Addr} {od25 an25 : Option Addr} {sl25 : Array (Option Value)} {oc25 kV25 dc25 pm25 cd25 ct25 : Value} {f26 : Addr} {od26 an26 : Option Addr} {sl26 : Array (Option Value)} {oc26 kV26 dc26 pm26 cd26 ct26 : Value}  
    (a0 : PySem.W.nsIn K mainGlobals "is_number" = some (some (.ref f0))) (l0 : K.lookup f0 = some ⟨oc0, od0, .func (PySem.W.fnOf "is_number" "is_number" (defArgs s_is_number) (defBody s_is_number) (defScope s_is_number) .none kV0 dc0 pm0 an0 cd0 ct0), sl0⟩) (c0 : PySem.W.codeIn K cd0 "is_number" = true) (k0 : PySem.W.keepIn K (.ref f0) = true)
    (a1 : PySem.W.nsIn K mainGlobals "are_marks" = some (some (.ref f1))) (l1 : K.lookup f1 = some ⟨oc1, od1, .func (PySem.W.fnOf "are_marks" "are_marks" (defArgs s_are_marks) (defBody s_are_marks) (defScope s_are_marks) .none kV1 dc1 pm1 an1 cd1 ct1), sl1⟩) (c1 : PySem.W.codeIn K cd1 "are_marks" = true) (k1 : PySem.W.keepIn K (.ref f1) = true)
    (a2 : PySem.W.nsIn K mainGlobals "is_mark" = some (some (.ref f2))) (l2 : K.lookup f2 = some ⟨oc2, od2, .func (PySem.W.fnOf "is_mark" "is_mark" (defArgs s_is_mark) (defBody s_is_mark) (defScope s_is_mark) .none kV2 dc2 pm2 an2 cd2 ct2), sl2⟩) (c2 : PySem.W.codeIn K cd2 "is_mark" = true) (k2 : PySem.W.keepIn K (.ref f2) = true)
    (a3 : PySem.W.nsIn K mainGlobals "can_be_next" = some (some (.ref f3))) (l3 : K.lookup f3 = some ⟨oc3, od3, .func (PySem.W.fnOf "can_be_next" "can_be_next" (defArgs s_can_be_next) (defBody s_can_be_next) (defScope s_can_be_next) .none kV3 dc3 pm3 an3 cd3 ct3), sl3⟩) (c3 : PySem.W.codeIn K cd3 "can_be_next" = true) (k3 : PySem.W.keepIn K (.ref f3) = true)
    (a4 : PySem.W.nsIn K mainGlobals "with_moment" = some (some (.ref f4))) (l4 : K.lookup f4 = some ⟨oc4, od4, .func (PySem.W.fnOf "with_moment" "with_moment" (defArgs s_with_moment) (defBody s_with_moment) (defScope s_with_moment) .none kV4 dc4 pm4 an4 cd4 ct4), sl4⟩) (c4 : PySem.W.codeIn K cd4 "with_moment" = true) (k4 : PySem.W.keepIn K (.ref f4) = true)
    (a5 : PySem.W.nsIn K mainGlobals "order_between" = some (some (.ref f5))) (l5 : K.lookup f5 = some ⟨oc5, od5, .func (PySem.W.fnOf "order_between" "order_between" (defArgs s_order_between) (defBody s_order_between) (defScope s_order_between) .none kV5 dc5 pm5 an5 cd5 ct5), sl5⟩) (c5 : PySem.W.codeIn K cd5 "order_between" = true) (k5 : PySem.W.keepIn K (.ref f5) = true)
    (a6 : PySem.W.nsIn K mainGlobals "order_of_all" = some (some (.ref f6))) (l6 : K.lookup f6 = some ⟨oc6, od6, .func (PySem.W.fnOf "order_of_all" "order_of_all" (defArgs s_order_of_all) (defBody s_order_of_all) (defScope s_order_of_all) .none kV6 dc6 pm6 an6 cd6 ct6), sl6⟩) (c6 : PySem.W.codeIn K cd6 "order_of_all" = true) (k6 : PySem.W.keepIn K (.ref f6) = true)
    (a7 : PySem.W.nsIn K mainGlobals "is_broken" = some (some (.ref f7))) (l7 : K.lookup f7 = some ⟨oc7, od7, .func (PySem.W.fnOf "is_broken" "is_broken" (defArgs s_is_broken) (defBody s_is_broken) (defScope s_is_broken) .none kV7 dc7 pm7 an7 cd7 ct7), sl7⟩) (c7 : PySem.W.codeIn K cd7 "is_broken" = true) (k7 : PySem.W.keepIn K (.ref f7) = true)
    (a8 : PySem.W.nsIn K mainGlobals "do_fit" = some (some (.ref f8))) (l8 : K.lookup f8 = some ⟨oc8, od8, .func (PySem.W.fnOf "do_fit" "do_fit" (defArgs s_do_fit) (defBody s_do_fit) (defScope s_do_fit) .none kV8 dc8 pm8 an8 cd8 ct8), sl8⟩) (c8 : PySem.W.codeIn K cd8 "do_fit" = true) (k8 : PySem.W.keepIn K (.ref f8) = true)
    (a9 : PySem.W.nsIn K mainGlobals "greatest_fit" = some (some (.ref f9))) (l9 : K.lookup f9 = some ⟨oc9, od9, .func (PySem.W.fnOf "greatest_fit" "greatest_fit" (defArgs s_greatest_fit) (defBody s_greatest_fit) (defScope s_greatest_fit) .none kV9 dc9 pm9 an9 cd9 ct9), sl9⟩) (c9 : PySem.W.codeIn K cd9 "greatest_fit" = true) (k9 : PySem.W.keepIn K (.ref f9) = true)
    (a10 : PySem.W.nsIn K mainGlobals "least_fit" = some (some (.ref f10))) (l10 : K.lookup f10 = some ⟨oc10, od10, .func (PySem.W.fnOf "least_fit" "least_fit" (defArgs s_least_fit) (defBody s_least_fit) (defScope s_least_fit) .none kV10 dc10 pm10 an10 cd10 ct10), sl10⟩) (c10 : PySem.W.codeIn K cd10 "least_fit" = true) (k10 : PySem.W.keepIn K (.ref f10) = true)
    (a11 : PySem.W.nsIn K mainGlobals "fit_paper" = some (some (.ref f11))) (l11 : K.lookup f11 = some ⟨oc11, od11, .func (PySem.W.fnOf "fit_paper" "fit_paper" (defArgs s_fit_paper) (defBody s_fit_paper) (defScope s_fit_paper) .none kV11 dc11 pm11 an11 cd11 ct11), sl11⟩) (c11 : PySem.W.codeIn K cd11 "fit_paper" = true) (k11 : PySem.W.keepIn K (.ref f11) = true)
    (a12 : PySem.W.nsIn K mainGlobals "is_fit_paper" = some (some (.ref f12))) (l12 : K.lookup f12 = some ⟨oc12, od12, .func (PySem.W.fnOf "is_fit_paper" "is_fit_paper" (defArgs s_is_fit_paper) (defBody s_is_fit_paper) (defScope s_is_fit_paper) .none kV12 dc12 pm12 an12 cd12 ct12), sl12⟩) (c12 : PySem.W.codeIn K cd12 "is_fit_paper" = true) (k12 : PySem.W.keepIn K (.ref f12) = true)
    (a13 : PySem.W.nsIn K mainGlobals "order_through" = some (some (.ref f13))) (l13 : K.lookup f13 = some ⟨oc13, od13, .func (PySem.W.fnOf "order_through" "order_through" (defArgs s_order_through) (defBody s_order_through) (defScope s_order_through) .none kV13 dc13 pm13 an13 cd13 ct13), sl13⟩) (c13 : PySem.W.codeIn K cd13 "order_through" = true) (k13 : PySem.W.keepIn K (.ref f13) = true)
    (a14 : PySem.W.nsIn K mainGlobals "agree" = some (some (.ref f14))) (l14 : K.lookup f14 = some ⟨oc14, od14, .func (PySem.W.fnOf "agree" "agree" (defArgs s_agree) (defBody s_agree) (defScope s_agree) .none kV14 dc14 pm14 an14 cd14 ct14), sl14⟩) (c14 : PySem.W.codeIn K cd14 "agree" = true) (k14 : PySem.W.keepIn K (.ref f14) = true)
    (a15 : PySem.W.nsIn K mainGlobals "_law_flat" = some (some (.ref f15))) (l15 : K.lookup f15 = some ⟨oc15, od15, .func (PySem.W.fnOf "_law_flat" "_law_flat" (defArgs s_law_flat) (defBody s_law_flat) (defScope s_law_flat) .none kV15 dc15 pm15 an15 cd15 ct15), sl15⟩) (c15 : PySem.W.codeIn K cd15 "_law_flat" = true) (k15 : PySem.W.keepIn K (.ref f15) = true)
    (a16 : PySem.W.nsIn K mainGlobals "_law_box" = some (some (.ref f16))) (l16 : K.lookup f16 = some ⟨oc16, od16, .func (PySem.W.fnOf "_law_box" "_law_box" (defArgs s_law_box) (defBody s_law_box) (defScope s_law_box) .none kV16 dc16 pm16 an16 cd16 ct16), sl16⟩) (c16 : PySem.W.codeIn K cd16 "_law_box" = true) (k16 : PySem.W.keepIn K (.ref f16) = true)
    (a17 : PySem.W.nsIn K mainGlobals "_law_load" = some (some (.ref f17))) (l17 : K.lookup f17 = some ⟨oc17, od17, .func (PySem.W.fnOf "_law_load" "_law_load" (defArgs s_law_load) (defBody s_law_load) (defScope s_law_load) .none kV17 dc17 pm17 an17 cd17 ct17), sl17⟩) (c17 : PySem.W.codeIn K cd17 "_law_load" = true) (k17 : PySem.W.keepIn K (.ref f17) = true)
    (a18 : PySem.W.nsIn K mainGlobals "_law_draw" = some (some (.ref f18))) (l18 : K.lookup f18 = some ⟨oc18, od18, .func (PySem.W.fnOf "_law_draw" "_law_draw" (defArgs s_law_draw) (defBody s_law_draw) (defScope s_law_draw) .none kV18 dc18 pm18 an18 cd18 ct18), sl18⟩) (c18 : PySem.W.codeIn K cd18 "_law_draw" = true) (k18 : PySem.W.keepIn K (.ref f18) = true)
    (a19 : PySem.W.nsIn K mainGlobals "_law_same" = some (some (.ref f19))) (l19 : K.lookup f19 = some ⟨oc19, od19, .func (PySem.W.fnOf "_law_same" "_law_same" (defArgs s_law_same) (defBody s_law_same) (defScope s_law_same) .none kV19 dc19 pm19 an19 cd19 ct19), sl19⟩) (c19 : PySem.W.codeIn K cd19 "_law_same" = true) (k19 : PySem.W.keepIn K (.ref f19) = true)
    (a20 : PySem.W.nsIn K mainGlobals "_law_bent" = some (some (.ref f20))) (l20 : K.lookup f20 = some ⟨oc20, od20, .func (PySem.W.fnOf "_law_bent" "_law_bent" (defArgs s_law_bent) (defBody s_law_bent) (defScope s_law_bent) .none kV20 dc20 pm20 an20 cd20 ct20), sl20⟩) (c20 : PySem.W.codeIn K cd20 "_law_bent" = true) (k20 : PySem.W.keepIn K (.ref f20) = true)
    (a21 : PySem.W.nsIn K mainGlobals "_law_course" = some (some (.ref f21))) (l21 : K.lookup f21 = some ⟨oc21, od21, .func (PySem.W.fnOf "_law_course" "_law_course" (defArgs s_law_course) (defBody s_law_course) (defScope s_law_course) .none kV21 dc21 pm21 an21 cd21 ct21), sl21⟩) (c21 : PySem.W.codeIn K cd21 "_law_course" = true) (k21 : PySem.W.keepIn K (.ref f21) = true)
    (a22 : PySem.W.nsIn K mainGlobals "_law_all" = some (some (.ref f22))) (l22 : K.lookup f22 = some ⟨oc22, od22, .func (PySem.W.fnOf "_law_all" "_law_all" (defArgs s_law_all) (defBody s_law_all) (defScope s_law_all) .none kV22 dc22 pm22 an22 cd22 ct22), sl22⟩) (c22 : PySem.W.codeIn K cd22 "_law_all" = true) (k22 : PySem.W.keepIn K (.ref f22) = true)
    (a23 : PySem.W.nsIn K mainGlobals "_law_reached" = some (some (.ref f23))) (l23 : K.lookup f23 = some ⟨oc23, od23, .func (PySem.W.fnOf "_law_reached" "_law_reached" (defArgs s_law_reached) (defBody s_law_reached) (defScope s_law_reached) .none kV23 dc23 pm23 an23 cd23 ct23), sl23⟩) (c23 : PySem.W.codeIn K cd23 "_law_reached" = true) (k23 : PySem.W.keepIn K (.ref f23) = true)
    (a24 : PySem.W.nsIn K mainGlobals "_law_whole" = some (some (.ref f24))) (l24 : K.lookup f24 = some ⟨oc24, od24, .func (PySem.W.fnOf "_law_whole" "_law_whole" (defArgs s_law_whole) (defBody s_law_whole) (defScope s_law_whole) .none kV24 dc24 pm24 an24 cd24 ct24), sl24⟩) (c24 : PySem.W.codeIn K cd24 "_law_whole" = true) (k24 : PySem.W.keepIn K (.ref f24) = true)
    (a25 : PySem.W.nsIn K mainGlobals "_law_are_marks" = some (some (.ref f25))) (l25 : K.lookup f25 = some ⟨oc25, od25, .func (PySem.W.fnOf "_law_are_marks" "_law_are_marks" (defArgs s_law_are_marks) (defBody s_law_are_marks) (defScope s_law_are_marks) .none kV25 dc25 pm25 an25 cd25 ct25), sl25⟩) (c25 : PySem.W.codeIn K cd25 "_law_are_marks" = true) (k25 : PySem.W.keepIn K (.ref f25) = true)
    (a26 : PySem.W.nsIn K mainGlobals "law" = some (some (.ref f26))) (l26 : K.lookup f26 = some ⟨oc26, od26, .func (PySem.W.fnOf "law" "law" (defArgs s_law) (defBody s_law) (defScope s_law) .none kV26 dc26 pm26 an26 cd26 ct26), sl26⟩) (c26 : PySem.W.codeIn K cd26 "law" = true) (k26 : PySem.W.keepIn K (.ref f26) = true)
    (z0 : PySem.W.nsIn K mainGlobals "isinstance" = some none)
    (z1 : PySem.W.nsIn K mainGlobals "int" = some none)
    (z2 : PySem.W.nsIn K mainGlobals "bool" = some none)
    (z3 : PySem.W.nsIn K mainGlobals "str" = some none)
    (z4 : PySem.W.nsIn K mainGlobals "tuple" = some none)
    (z5 : PySem.W.nsIn K mainGlobals "list" = some none)
    (z6 : PySem.W.nsIn K mainGlobals "len" = some none)
    (z7 : PySem.W.nsIn K mainGlobals "all" = some none)
    (z8 : PySem.W.nsIn K mainGlobals "any" = some none)
    (z9 : PySem.W.nsIn K mainGlobals "sum" = some none)
    (z10 : PySem.W.nsIn K mainGlobals "max" = some none)
    (z11 : PySem.W.nsIn K mainGlobals "min" = some none)
    (z12 : PySem.W.nsIn K mainGlobals "sorted" = some none)
    (z13 : PySem.W.nsIn K mainGlobals "range" = some none)
    (z14 : PySem.W.nsIn K mainGlobals "enumerate" = some none)
    (z15 : PySem.W.nsIn K mainGlobals "zip" = some none)
    : ∃ fd : FuncData, (∀ (s : Shared) (v : Value), BindsTo s fd ⟨[v], []⟩ [("script", v)]) ∧ ∀ base : Heap, K.In base → base.Ns mainGlobals mg → FnOk P w K mg base CX0 6 fa fd ["script"] (spLaw K) := by
  have e := hfa.symm.trans (PySem.W.mg_of X G a26)
  cases e
  have B : Blt mg := ⟨PySem.W.mg_none_of X G z0, PySem.W.mg_none_of X G z1, PySem.W.mg_none_of X G z2, PySem.W.mg_none_of X G z3, PySem.W.mg_none_of X G z4, PySem.W.mg_none_of X G z5, PySem.W.mg_none_of X G z6, PySem.W.mg_none_of X G z7, PySem.W.mg_none_of X G z8, PySem.W.mg_none_of X G z9, PySem.W.mg_none_of X G z10, PySem.W.mg_none_of X G z11, PySem.W.mg_none_of X G z12, PySem.W.mg_none_of X G z13, PySem.W.mg_none_of X G z14, PySem.W.mg_none_of X G z15⟩
  have F_is_number : Df K mg "is_number" s_is_number ["value", "least", "most"] := df_mk X G a0 l0 c0 k0 fun _ _ _ _ _ _ us hl => match us, hl with | [_, _, _], _ => rfl
  have F_are_marks : Df K mg "are_marks" s_are_marks ["lasts", "value"] := df_mk X G a1 l1 c1 k1 fun _ _ _ _ _ _ us hl => match us, hl with | [_, _], _ => rfl
  have F_is_mark : Df K mg "is_mark" s_is_mark ["lasts", "value"] := df_mk X G a2 l2 c2 k2 fun _ _ _ _ _ _ us hl => match us, hl with | [_, _], _ => rfl
  have F_can_be_next : Df K mg "can_be_next" s_can_be_next ["marks", "here", "source"] := df_mk X G a3 l3 c3 k3 fun _ _ _ _ _ _ us hl => match us, hl with | [_, _, _], _ => rfl
  have F_with_moment : Df K mg "with_moment" s_with_moment ["moments", "source", "moment"] := df_mk X G a4 l4 c4 k4 fun _ _ _ _ _ _ us hl => match us, hl with | [_, _, _], _ => rfl
  have F_order_between : Df K mg "order_between" s_order_between ["marks", "here", "there"] := df_mk X G a5 l5 c5 k5 fun _ _ _ _ _ _ us hl => match us, hl with | [_, _, _], _ => rfl
  have F_order_of_all : Df K mg "order_of_all" s_order_of_all ["lasts", "marks"] := df_mk X G a6 l6 c6 k6 fun _ _ _ _ _ _ us hl => match us, hl with | [_, _], _ => rfl
  have F_is_broken : Df K mg "is_broken" s_is_broken ["moments", "mark"] := df_mk X G a7 l7 c7 k7 fun _ _ _ _ _ _ us hl => match us, hl with | [_, _], _ => rfl
  have F_do_fit : Df K mg "do_fit" s_do_fit ["marks", "moments"] := df_mk X G a8 l8 c8 k8 fun _ _ _ _ _ _ us hl => match us, hl with | [_, _], _ => rfl
  have F_greatest_fit : Df K mg "greatest_fit" s_greatest_fit ["marks", "moments"] := df_mk X G a9 l9 c9 k9 fun _ _ _ _ _ _ us hl => match us, hl with | [_, _], _ => rfl
  have F_least_fit : Df K mg "least_fit" s_least_fit ["marks", "moments"] := df_mk X G a10 l10 c10 k10 fun _ _ _ _ _ _ us hl => match us, hl with | [_, _], _ => rfl
  have F_fit_paper : Df K mg "fit_paper" s_fit_paper ["marks", "moments"] := df_mk X G a11 l11 c11 k11 fun _ _ _ _ _ _ us hl => match us, hl with | [_, _], _ => rfl
  have F_is_fit_paper : Df K mg "is_fit_paper" s_is_fit_paper ["marks", "moments", "fitted", "value"] := df_mk X G a12 l12 c12 k12 fun _ _ _ _ _ _ us hl => match us, hl with | [_, _, _, _], _ => rfl
  have F_order_through : Df K mg "order_through" s_order_through ["lasts", "marks", "moments"] := df_mk X G a13 l13 c13 k13 fun _ _ _ _ _ _ us hl => match us, hl with | [_, _, _], _ => rfl
  have F_agree : Df K mg "agree" s_agree ["marks", "one", "other"] := df_mk X G a14 l14 c14 k14 fun _ _ _ _ _ _ us hl => match us, hl with | [_, _, _], _ => rfl
  have F_law_flat : Df K mg "_law_flat" s_law_flat ["rows"] := df_mk X G a15 l15 c15 k15 fun _ _ _ _ _ _ us hl => match us, hl with | [_], _ => rfl
  have F_law_box : Df K mg "_law_box" s_law_box ["script"] := df_mk X G a16 l16 c16 k16 fun _ _ _ _ _ _ us hl => match us, hl with | [_], _ => rfl
  have F_law_load : Df K mg "_law_load" s_law_load ["box"] := df_mk X G a17 l17 c17 k17 fun _ _ _ _ _ _ us hl => match us, hl with | [_], _ => rfl
  have F_law_draw : Df K mg "_law_draw" s_law_draw ["box", "many"] := df_mk X G a18 l18 c18 k18 fun _ _ _ _ _ _ us hl => match us, hl with | [_, _], _ => rfl
  have F_law_same : Df K mg "_law_same" s_law_same ["a", "b"] := df_mk X G a19 l19 c19 k19 fun _ _ _ _ _ _ us hl => match us, hl with | [_, _], _ => rfl
  have F_law_bent : Df K mg "_law_bent" s_law_bent ["box", "value"] := df_mk X G a20 l20 c20 k20 fun _ _ _ _ _ _ us hl => match us, hl with | [_, _], _ => rfl
  have F_law_course : Df K mg "_law_course" s_law_course ["box", "lasts"] := df_mk X G a21 l21 c21 k21 fun _ _ _ _ _ _ us hl => match us, hl with | [_, _], _ => rfl
  have F_law_all : Df K mg "_law_all" s_law_all ["lasts"] := df_mk X G a22 l22 c22 k22 fun _ _ _ _ _ _ us hl => match us, hl with | [_], _ => rfl
  have F_law_reached : Df K mg "_law_reached" s_law_reached ["lasts", "marks", "first"] := df_mk X G a23 l23 c23 k23 fun _ _ _ _ _ _ us hl => match us, hl with | [_, _, _], _ => rfl
  have F_law_whole : Df K mg "_law_whole" s_law_whole ["value", "low", "high"] := df_mk X G a24 l24 c24 k24 fun _ _ _ _ _ _ us hl => match us, hl with | [_, _, _], _ => rfl
  have F_law_are_marks : Df K mg "_law_are_marks" s_law_are_marks ["lasts", "value"] := df_mk X G a25 l25 c25 k25 fun _ _ _ _ _ _ us hl => match us, hl with | [_, _], _ => rfl
  refine ⟨PySem.W.fnOf "law" "law" (defArgs s_law) (defBody s_law) (defScope s_law) .none kV26 dc26 pm26 an26 cd26 ct26, fun s v => .of_eq rfl, fun base _ _ => ?_⟩
  have load := d_load (P := P) (w := w) (base := base) F_law_load B
  have draw := d_draw F_law_draw B load
  have num := d_number (P := P) (w := w) (base := base) F_is_number B
  have wm_ := d_wm (P := P) (w := w) (base := base) F_with_moment
  have nx := d_next (P := P) (w := w) (base := base) F_can_be_next B
  have btw := d_between F_order_between B nx wm_
  have bro := d_broken (P := P) (w := w) (base := base) F_is_broken
  have fit := d_fit F_do_fit B bro
  have gre := d_great F_greatest_fit bro wm_
  have mar := d_mark F_is_mark B num
  have oal := d_all F_order_of_all B btw
  have fla := d_flat (P := P) (w := w) (base := base) F_law_flat
  have lwh := d_lwhole (P := P) (w := w) (base := base) F_law_whole B
  have rea := d_reached (P := P) (w := w) (base := base) F_law_reached B
  have LL : CL P w K mg base := { B := B, box := d_box F_law_box B, draw := draw, same := d_same F_law_same B 3, bent := d_bent (by decide) (by decide) F_law_bent B draw 3, course := d_course F_law_course B draw, allm := d_allm F_law_all B fla, reached := rea, lare := d_lare F_law_are_marks B lwh rea, are := d_are F_are_marks B mar oal, all_ := oal, fit := fit, great := gre, least := d_least F_least_fit bro wm_, through := d_through F_order_through B btw, paper := d_paper F_fit_paper bro wm_ fit, ifp := d_ifp F_is_fit_paper B bro wm_ fit, ifpN := d_ifpN F_is_fit_paper B, agree := d_agree F_agree B gre }
  exact (dfnF (fun_mk l26 c26 k26) sc_law rfl (law_body LL)).imp fun _ _ _ _ h => spLaw_spD h
end
end K46
open PySem PySem.W PyProof.Rows
set_option maxHeartbeats 0 in
theorem PySem.Challenge.cw_changestold_k46_whole_fitted_moments_holds : PySem.Challenge.rw_changestold_k46_whole_fitted_moments.Holds := by
  w_on; o_law; k_head; (case hw => w_witness2)
  k_fill
  refine L2.walk_of (l := PySem.Challenge.rw_changestold_k46_whole_fitted_moments) (n := 63) (k := 6) (x := "script") (CX := fun _ => L2.CX0) (sp := fun w => DL.spLaw _) rfl (by decide) rfl ⟨rfl, by decide, by decide⟩ (fun w h Y => PySem.W.kIn_of Y) ?F (fun _ _ a ns hl _ hS => ⟨a, ns, rfl, hS, hl, fun _ => rfl⟩) (fun _ _ _ _ _ h => h)
  case F =>
    intro w mg fa h KX G hmg
    refine' K46.all_mk KX G hmg ?a0 ?l0 ?c0 ?k0 ?a1 ?l1 ?c1 ?k1 ?a2 ?l2 ?c2 ?k2 ?a3 ?l3 ?c3 ?k3 ?a4 ?l4 ?c4 ?k4 ?a5 ?l5 ?c5 ?k5 ?a6 ?l6 ?c6 ?k6 ?a7 ?l7 ?c7 ?k7 ?a8 ?l8 ?c8 ?k8 ?a9 ?l9 ?c9 ?k9 ?a10 ?l10 ?c10 ?k10 ?a11 ?l11 ?c11 ?k11 ?a12 ?l12 ?c12 ?k12 ?a13 ?l13 ?c13 ?k13 ?a14 ?l14 ?c14 ?k14 ?a15 ?l15 ?c15 ?k15 ?a16 ?l16 ?c16 ?k16 ?a17 ?l17 ?c17 ?k17 ?a18 ?l18 ?c18 ?k18 ?a19 ?l19 ?c19 ?k19 ?a20 ?l20 ?c20 ?k20 ?a21 ?l21 ?c21 ?k21 ?a22 ?l22 ?c22 ?k22 ?a23 ?l23 ?c23 ?k23 ?a24 ?l24 ?c24 ?k24 ?a25 ?l25 ?c25 ?k25 ?a26 ?l26 ?c26 ?k26 ?z0 ?z1 ?z2 ?z3 ?z4 ?z5 ?z6 ?z7 ?z8 ?z9 ?z10 ?z11 ?z12 ?z13 ?z14 ?z15
    (case a0 => k_is); (case l0 => k_is); (case c0 => k_is); (case k0 => k_is); (case a1 => k_is); (case l1 => k_is); (case c1 => k_is); (case k1 => k_is); (case a2 => k_is); (case l2 => k_is); (case c2 => k_is); (case k2 => k_is); (case a3 => k_is); (case l3 => k_is); (case c3 => k_is); (case k3 => k_is); (case a4 => k_is); (case l4 => k_is); (case c4 => k_is); (case k4 => k_is); (case a5 => k_is); (case l5 => k_is); (case c5 => k_is); (case k5 => k_is); (case a6 => k_is); (case l6 => k_is); (case c6 => k_is); (case k6 => k_is); (case a7 => k_is); (case l7 => k_is); (case c7 => k_is); (case k7 => k_is); (case a8 => k_is); (case l8 => k_is); (case c8 => k_is); (case k8 => k_is); (case a9 => k_is); (case l9 => k_is); (case c9 => k_is); (case k9 => k_is); (case a10 => k_is); (case l10 => k_is); (case c10 => k_is); (case k10 => k_is); (case a11 => k_is); (case l11 => k_is); (case c11 => k_is); (case k11 => k_is); (case a12 => k_is); (case l12 => k_is); (case c12 => k_is); (case k12 => k_is); (case a13 => k_is); (case l13 => k_is); (case c13 => k_is); (case k13 => k_is); (case a14 => k_is); (case l14 => k_is); (case c14 => k_is); (case k14 => k_is); (case a15 => k_is); (case l15 => k_is); (case c15 => k_is); (case k15 => k_is); (case a16 => k_is); (case l16 => k_is); (case c16 => k_is); (case k16 => k_is); (case a17 => k_is); (case l17 => k_is); (case c17 => k_is); (case k17 => k_is); (case a18 => k_is); (case l18 => k_is); (case c18 => k_is); (case k18 => k_is); (case a19 => k_is); (case l19 => k_is); (case c19 => k_is); (case k19 => k_is); (case a20 => k_is); (case l20 => k_is); (case c20 => k_is); (case k20 => k_is); (case a21 => k_is); (case l21 => k_is); (case c21 => k_is); (case k21 => k_is); (case a22 => k_is); (case l22 => k_is); (case c22 => k_is); (case k22 => k_is); (case a23 => k_is); (case l23 => k_is); (case c23 => k_is); (case k23 => k_is); (case a24 => k_is); (case l24 => k_is); (case c24 => k_is); (case k24 => k_is); (case a25 => k_is); (case l25 => k_is); (case c25 => k_is); (case k25 => k_is); (case a26 => k_is); (case l26 => k_is); (case c26 => k_is); (case k26 => k_is); (case z0 => k_is); (case z1 => k_is); (case z2 => k_is); (case z3 => k_is); (case z4 => k_is); (case z5 => k_is); (case z6 => k_is); (case z7 => k_is); (case z8 => k_is); (case z9 => k_is); (case z10 => k_is); (case z11 => k_is); (case z12 => k_is); (case z13 => k_is); (case z14 => k_is); (case z15 => k_is)
