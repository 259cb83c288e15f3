import PyProof.Rows.All
import HandS.ForMost
import HandS.IsInst
import HandS.TupAny
import HandS.TupMul
import HandS.Style
import HandS.Walk
import KE.GoesEnum
import KE.KRevSl
import PyProof.ListRange
import HandS.Sort
import HandS.SortRule
import HandS.Exc
import HandS.ExcOwn
import HandS.WordsExc
import HandS.ExcField
import HandS.CallLocal
import HandS.ExcInit
import HandS.ExcSuper
import HandS.Nested
import KE.KExcSuper
import HandS.Iter
import PySem.Challenge.RW_changestold_k18_whole_bytes_and_seals
import HandS.Wide
set_option Elab.async false
set_option linter.all false
set_option maxRecDepth 100000
set_option maxHeartbeats 4000000
/-! DLa: plain data over the abstract heap: data D, frozen part G, mutable part M; judgements of expressions, tests, statements over data. -/
namespace DL
open PySem L2

/-- no star ahead of it -/
def nst : Expr → Bool
  | .Starred _ _ => false
  | _ => true
theorem star1 {e : Expr} {es : List Expr} {env : Env} (h : nst e = true) : starEach (e :: es) env = (false, eval e env) :: starEach es env := by
  cases e <;> first | rfl | exact absurd (show false = true from h) Bool.false_ne_true
theorem star1n {e : Expr} {env : Env} (h : nst e = true) : starEach [e] env = [(false, eval e env)] := star1 h
theorem star2n {a b : Expr} {env : Env} (h : nst a = true) (h2 : nst b = true) : starEach [a, b] env = [(false, eval a env), (false, eval b env)] := by rw [star1 h, star1n h2]
theorem starN {env : Env} {pos : Pos} : ∀ {es : List Expr}, es.all nst = true → (backTo pos (starEach es env)).any (·.1) = false
  | [], _ => rfl
  | e :: es, h => by
    have q := Bool.and_eq_true_iff.mp h
    rw [star1 q.1]
    show (false || (backTo pos (starEach es env)).any (·.1)) = false
    rw [Bool.false_or]
    exact starN q.2
/-- plain data; ptr: a mutable object by its address; scr: the script -/
inductive D where
  | non | bl (b : Bool) | int (i : Int) | str (x : Str) | tup (ds : List D) | lst (ds : List D) | ptr (a : Addr) | scr (ns : List Int)

mutual
/-- the value v is the datum d, its tuples and lists standing in G -/
inductive Rp (K : PySem.W.Frag) (G : Hp) : V → D → Prop
  | non : Rp K G .non .non
  | bl (b : Bool) : Rp K G (.bl b) (.bl b)
  | int (i : Int) : Rp K G (.int i) (.int i)
  | str (x : Str) : Rp K G (.str x) (.str x)
  | tup {a : Addr} {xs : List V} {ds : List D} : SqT K G a xs → RpA K G xs ds → Rp K G (.ref a) (.tup ds)
  | lst {a : Addr} {xs : List V} {ds : List D} : G a = some (.lst xs) → RpA K G xs ds → Rp K G (.ref a) (.lst ds)
  | ptr (a : Addr) : Rp K G (.ref a) (.ptr a)
  | scr {a : Addr} {ns : List Int} : SqL K G a (ns.map V.int) → Rp K G (.ref a) (.scr ns)
inductive RpA (K : PySem.W.Frag) (G : Hp) : List V → List D → Prop
  | nil : RpA K G [] []
  | cons {v : V} {d : D} {vs : List V} {ds : List D} : Rp K G v d → RpA K G vs ds → RpA K G (v :: vs) (d :: ds)
end

/-- G' knows all that G knows -/
def Gx (G G' : Hp) : Prop := ∀ a o, G a = some o → G' a = some o
theorem Gx.refl (G : Hp) : Gx G G := fun _ _ h => h
theorem Gx.trans {G G1 G2 : Hp} (a : Gx G G1) (b : Gx G1 G2) : Gx G G2 := fun x o h => b x o (a x o h)
section
variable {K : PySem.W.Frag} {G G' : Hp} {a : Addr} {xs : List V}
theorem Gx.rd {u : HO} (e : Gx G G') (h : Rd G a u) : Rd G' a u := by
  rcases h with h | ⟨o, h⟩
  · exact .inl (e _ _ h)
  · exact .inr ⟨o, e _ _ h⟩
theorem Gx.sl (e : Gx G G') (h : SqL K G a xs) : SqL K G' a xs := by
  rcases h with h | h
  · exact .inl (e.rd h)
  · exact .inr h
theorem Gx.st (e : Gx G G') (h : SqT K G a xs) : SqT K G' a xs := by
  rcases h with h | h
  · exact .inl (e.rd h)
  · exact .inr h
mutual
theorem Rp.mono (e : Gx G G') : ∀ {v : V} {d : D}, Rp K G v d → Rp K G' v d
  | _, _, .non => .non
  | _, _, .bl b => .bl b
  | _, _, .int i => .int i
  | _, _, .str x => .str x
  | _, _, .tup h r => .tup (e.st h) (RpA.mono e r)
  | _, _, .lst h r => .lst (e _ _ h) (RpA.mono e r)
  | _, _, .ptr a => .ptr a
  | _, _, .scr h => .scr (e.sl h)
theorem RpA.mono (e : Gx G G') : ∀ {vs : List V} {ds : List D}, RpA K G vs ds → RpA K G' vs ds
  | _, _, .nil => .nil
  | _, _, .cons h r => .cons (Rp.mono e h) (RpA.mono e r)
end
theorem RpA.length : ∀ {vs : List V} {ds : List D}, RpA K G vs ds → vs.length = ds.length
  | _, _, .nil => rfl
  | _, _, .cons _ r => congrArg (· + 1) r.length
theorem RpA.get : ∀ {vs : List V} {ds : List D} {i : Nat} {d : D}, RpA K G vs ds → ds[i]? = some d → ∃ v, vs[i]? = some v ∧ Rp K G v d
  | _, _, i, _, .nil, h => by simp at h
  | _, _, 0, _, .cons h _, e => by
    simp at e
    subst e
    exact ⟨_, rfl, h⟩
  | _, _, i + 1, d, .cons _ r, e => by
    obtain ⟨v, h1, h2⟩ := RpA.get (i := i) (d := d) r (by simpa using e)
    exact ⟨v, by simpa using h1, h2⟩
theorem RpA.getV : ∀ {vs : List V} {ds : List D} {i : Nat} {v : V}, RpA K G vs ds → vs[i]? = some v → ∃ d, ds[i]? = some d ∧ Rp K G v d
  | _, _, i, _, .nil, h => by simp at h
  | _, _, 0, _, .cons h _, e => by
    simp at e
    subst e
    exact ⟨_, rfl, h⟩
  | _, _, i + 1, d, .cons _ r, e => by
    obtain ⟨v, h1, h2⟩ := RpA.getV (i := i) (v := d) r (by simpa using e)
    exact ⟨v, by simpa using h1, h2⟩
theorem RpA.append : ∀ {vs ws : List V} {ds es : List D}, RpA K G vs ds → RpA K G ws es → RpA K G (vs ++ ws) (ds ++ es)
  | _, _, _, _, .nil, s => s
  | _, _, _, _, .cons h r, s => .cons h (RpA.append r s)
theorem RpA.take : ∀ {vs : List V} {ds : List D} (n : Nat), RpA K G vs ds → RpA K G (vs.take n) (ds.take n)
  | _, _, 0, _ => .nil
  | _, _, _ + 1, .nil => .nil
  | _, _, n + 1, .cons h r => .cons h (RpA.take n r)
theorem RpA.drop : ∀ {vs : List V} {ds : List D} (n : Nat), RpA K G vs ds → RpA K G (vs.drop n) (ds.drop n)
  | _, _, 0, r => r
  | _, _, _ + 1, .nil => .nil
  | _, _, n + 1, .cons _ r => RpA.drop n r
theorem RpA.set {v : V} {d : D} (h : Rp K G v d) : ∀ {vs : List V} {ds : List D} (i : Nat), RpA K G vs ds → RpA K G (vs.set i v) (ds.set i d)
  | _, _, _, .nil => .nil
  | _, _, 0, .cons _ r => .cons h r
  | _, _, i + 1, .cons q r => .cons q (RpA.set h i r)
theorem RpA.reverse : ∀ {vs : List V} {ds : List D}, RpA K G vs ds → RpA K G vs.reverse ds.reverse
  | _, _, .nil => .nil
  | _, _, .cons h r => by
    rw [List.reverse_cons, List.reverse_cons]
    exact (RpA.reverse r).append (.cons h .nil)
theorem RpA.erase : ∀ {vs : List V} {ds : List D} (i : Nat), RpA K G vs ds → RpA K G (vs.eraseIdx i) (ds.eraseIdx i)
  | _, _, _, .nil => .nil
  | _, _, 0, .cons _ r => r
  | _, _, i + 1, .cons q r => .cons q (RpA.erase i r)
theorem RpA.rep {vs : List V} {ds : List D} (h : RpA K G vs ds) : ∀ k : Nat, RpA K G (List.replicate k vs).flatten (List.replicate k ds).flatten
  | 0 => .nil
  | k + 1 => by
    rw [List.replicate_succ, List.replicate_succ, List.flatten_cons, List.flatten_cons]
    exact h.append (RpA.rep h k)
theorem RpA.ints : ∀ {vs : List V} {ns : List Int}, RpA K G vs (ns.map D.int) → vs = ns.map V.int
  | _, [], .nil => rfl
  | _, n :: ns, .cons h r => by
    cases h
    rw [RpA.ints r]
    rfl
theorem rpa_ints : ∀ ns : List Int, RpA K G (ns.map V.int) (ns.map D.int)
  | [] => .nil
  | n :: ns => .cons (.int n) (rpa_ints ns)
theorem RpA.bls : ∀ {vs : List V} {bs : List Bool}, RpA K G vs (bs.map D.bl) → vs = bs.map V.bl
  | _, [], .nil => rfl
  | _, n :: ns, .cons h r => by
    cases h
    rw [RpA.bls r]
    rfl
end

/-! ### what may change -/
inductive MO where
  | lst (ds : List D)
  | ins (C : Addr) (fs : List (Str × D))
  | dic (kvs : List (Key × D))
  | xd (fs : List (Str × D))
/-- where an exception's way out is told from -/
structure Base where
  G : Hp
  M : Addr → Option MO
  H : Hp
structure Mem where
  f : Addr → Option MO
  b : Base
instance : CoeFun Mem fun _ => Addr → Option MO := ⟨Mem.f⟩
def updM (M : Mem) (a : Addr) (o : Option MO) : Mem := ⟨fun b => if b = a then o else M b, M.b⟩
/-- another base -/
def Mem.rb (M : Mem) (b : Base) : Mem := ⟨M.f, b⟩
theorem updM_same {M : Mem} {a : Addr} {o : Option MO} : updM M a o a = o := if_pos rfl
theorem updM_ne {M : Mem} {a b : Addr} {o : Option MO} (h : b ≠ a) : updM M a o b = M b := if_neg h
def KVd {κ : Type} (K : PySem.W.Frag) (G : Hp) (vs : List (κ × V)) (ds : List (κ × D)) : Prop := vs.map (·.1) = ds.map (·.1) ∧ RpA K G (vs.map (·.2)) (ds.map (·.2))
def MRp (K : PySem.W.Frag) (G H : Hp) (a : Addr) : MO → Prop
  | .lst ds => ∃ xs, H a = some (.lst xs) ∧ RpA K G xs ds
  | .ins C fs => ∃ dx vs, H a = some (.ins C dx vs) ∧ KVd K G vs fs
  | .dic kvs => ∃ vs, H a = some (.dK vs) ∧ KVd K G vs kvs
  | .xd fs => ∃ vs, H a = some (.xd vs) ∧ KVd K G vs fs
structure Wd (K : PySem.W.Frag) (G : Hp) (M : Mem) (H : Hp) : Prop where
  sub : Gx G H
  mem : ∀ a mo, M a = some mo → G a = none ∧ MRp K G H a mo
  hist : ∀ a o, M.b.H a = some o → M.b.M a = none → H a = some o ∧ G a = M.b.G a ∧ M a = none
structure Stp (G : Hp) (M : Mem) (H : Hp) (G' : Hp) (M' : Mem) (H' : Hp) : Prop where
  keep : ∀ a o, H a = some o → M a = none → H' a = some o ∧ G' a = G a ∧ M' a = none
  base : M'.b = M.b
section
variable {K : PySem.W.Frag} {G G' G1 G2 H H' H1 H2 : Hp} {M M' M1 M2 : Mem} {a p : Addr}
theorem MRp.there {mo : MO} (h : MRp K G H a mo) : ∃ o, H a = some o := by
  cases mo with
  | lst ds => obtain ⟨xs, e, _⟩ := h; exact ⟨_, e⟩
  | ins C fs => obtain ⟨_, _, e, _⟩ := h; exact ⟨_, e⟩
  | dic kvs => obtain ⟨_, e, _⟩ := h; exact ⟨_, e⟩
  | xd fs => obtain ⟨_, e, _⟩ := h; exact ⟨_, e⟩
theorem MRp.carry {mo : MO} (h : MRp K G H a mo) (e : Gx G G') (hh : H' a = H a) : MRp K G' H' a mo := by
  cases mo with
  | lst ds => obtain ⟨xs, q, r⟩ := h; exact ⟨xs, by rw [hh]; exact q, r.mono e⟩
  | ins C fs => obtain ⟨dx, vs, q, k, r⟩ := h; exact ⟨dx, vs, by rw [hh]; exact q, k, r.mono e⟩
  | dic kvs => obtain ⟨vs, q, k, r⟩ := h; exact ⟨vs, by rw [hh]; exact q, k, r.mono e⟩
  | xd fs => obtain ⟨vs, q, k, r⟩ := h; exact ⟨vs, by rw [hh]; exact q, k, r.mono e⟩
theorem Wd.free (w : Wd K G M H) (h : H p = none) : G p = none ∧ M p = none := by
  refine ⟨?_, ?_⟩
  · cases e : G p with
    | none => rfl
    | some o => rw [w.sub _ _ e] at h; cases h
  · cases e : M p with
    | none => rfl
    | some o =>
      obtain ⟨u, q⟩ := (w.mem _ _ e).2.there
      rw [q] at h; cases h
theorem Stp.refl : Stp G M H G M H := ⟨fun _ _ h m => ⟨h, rfl, m⟩, rfl⟩
theorem Stp.trans (a : Stp G M H G1 M1 H1) (b : Stp G1 M1 H1 G2 M2 H2) : Stp G M H G2 M2 H2 := ⟨fun x o h m => by
  obtain ⟨h1, g1, m1⟩ := a.keep x o h m
  obtain ⟨h2, g2, m2⟩ := b.keep x o h1 m1
  exact ⟨h2, g2.trans g1, m2⟩, b.base.trans a.base⟩
/-- the way from the base, one step longer -/
theorem Wd.far (w : Wd K G M H) (s : Stp G M H G' M' H') : ∀ a o, M'.b.H a = some o → M'.b.M a = none → H' a = some o ∧ G' a = M'.b.G a ∧ M' a = none := fun x o h m => by
  rw [s.base] at h m ⊢
  obtain ⟨h1, g1, m1⟩ := w.hist x o h m
  obtain ⟨h2, g2, m2⟩ := s.keep x o h1 m1
  exact ⟨h2, g2.trans g1, m2⟩
theorem Wd.fresh (w : Wd K G M H) (h : H p = none) {o : HO} (e : M.b.H p = some o) (m : M.b.M p = none) : False := by
  rw [(w.hist p o e m).1] at h
  cases h
theorem Stp.gx (s : Stp G M H G' M' H') (w : Wd K G M H) : Gx G G' := fun x o h => by
  have m : M x = none := by
    cases e : M x with
    | none => rfl
    | some mo => rw [(w.mem _ _ e).1] at h; cases h
  rw [(s.keep x o (w.sub _ _ h) m).2.1, h]
theorem gx_new (w : Wd K G M H) (h : H p = none) {o : HO} : Gx G (upd G p o) := fun x u e => by
  rw [upd_ne (ne_of_none e (w.free h).1)]
  exact e
/-- a new frozen object -/
theorem Wd.new (w : Wd K G M H) (h : H p = none) {o : HO} : Wd K (upd G p o) M (upd H p o) ∧ Stp G M H (upd G p o) M (upd H p o) := by
  have g := w.free h
  have st : Stp G M H (upd G p o) M (upd H p o) := ⟨fun x u e m => by
    have hx : x ≠ p := ne_of_none e h
    exact ⟨by rw [upd_ne hx]; exact e, upd_ne hx, m⟩, rfl⟩
  refine ⟨⟨fun x u e => ?_, fun x mo e => ?_, w.far st⟩, st⟩
  · by_cases hx : x = p
    · subst hx; rw [upd_same] at e ⊢; exact e
    · rw [upd_ne hx] at e ⊢; exact w.sub _ _ e
  · have hx : x ≠ p := fun z => by subst z; rw [g.2] at e; cases e
    obtain ⟨h1, h2⟩ := w.mem _ _ e
    exact ⟨by rw [upd_ne hx]; exact h1, h2.carry (gx_new w h) (upd_ne hx)⟩
/-- a new mutable object -/
theorem Wd.newM (w : Wd K G M H) (h : H p = none) {o : HO} {mo : MO} (r : MRp K G (upd H p o) p mo) : Wd K G (updM M p (some mo)) (upd H p o) ∧ Stp G M H G (updM M p (some mo)) (upd H p o) := by
  have g := w.free h
  have st : Stp G M H G (updM M p (some mo)) (upd H p o) := ⟨fun x u e m => by
    have hx : x ≠ p := ne_of_none e h
    exact ⟨by rw [upd_ne hx]; exact e, rfl, by rw [updM_ne hx]; exact m⟩, rfl⟩
  refine ⟨⟨fun x u e => ?_, fun x m e => ?_, w.far st⟩, st⟩
  · rw [upd_ne (ne_of_none (w.sub _ _ e) h)]; exact w.sub _ _ e
  · by_cases hx : x = p
    · subst hx; rw [updM_same] at e; cases e; exact ⟨g.1, r⟩
    · rw [updM_ne hx] at e
      obtain ⟨h1, h2⟩ := w.mem _ _ e
      exact ⟨h1, h2.carry (Gx.refl G) (upd_ne hx)⟩
/-- a mutable object written -/
theorem Wd.write (w : Wd K G M H) {m0 mo : MO} (hm : M p = some m0) {o : HO} (r : MRp K G (upd H p o) p mo) : Wd K G (updM M p (some mo)) (upd H p o) ∧ Stp G M H G (updM M p (some mo)) (upd H p o) := by
  have g := (w.mem _ _ hm).1
  have st : Stp G M H G (updM M p (some mo)) (upd H p o) := ⟨fun x u e m => by
    have hx : x ≠ p := fun z => by subst z; rw [hm] at m; cases m
    exact ⟨by rw [upd_ne hx]; exact e, rfl, by rw [updM_ne hx]; exact m⟩, rfl⟩
  refine ⟨⟨fun x u e => ?_, fun x m e => ?_, w.far st⟩, st⟩
  · rw [upd_ne (ne_of_none e g)]; exact w.sub _ _ e
  · by_cases hx : x = p
    · subst hx; rw [updM_same] at e; cases e; exact ⟨g, r⟩
    · rw [updM_ne hx] at e
      obtain ⟨h1, h2⟩ := w.mem _ _ e
      exact ⟨h1, h2.carry (Gx.refl G) (upd_ne hx)⟩

/-- a mutable list that nobody writes any more -/
theorem Wd.freeze (w : Wd K G M H) {ds : List D} (hm : M p = some (.lst ds)) : ∃ xs, H p = some (.lst xs) ∧ RpA K G xs ds ∧ Wd K (upd G p (.lst xs)) (updM M p none) H ∧ Stp G M H (upd G p (.lst xs)) (updM M p none) H ∧ Gx G (upd G p (.lst xs)) := by
  obtain ⟨g, xs, e, r⟩ := w.mem _ _ hm
  have gx : Gx G (upd G p (.lst xs)) := fun x u q => by rw [upd_ne (ne_of_none q g)]; exact q
  have st : Stp G M H (upd G p (.lst xs)) (updM M p none) H := ⟨fun x u q m => by
    have hx : x ≠ p := fun z => by subst z; rw [hm] at m; cases m
    exact ⟨q, upd_ne hx, by rw [updM_ne hx]; exact m⟩, rfl⟩
  refine ⟨xs, e, r, ⟨fun x u q => ?_, fun x m q => ?_, w.far st⟩, st, gx⟩
  · by_cases hx : x = p
    · subst hx; rw [upd_same] at q; cases q; exact e
    · rw [upd_ne hx] at q; exact w.sub _ _ q
  · have hx : x ≠ p := fun z => by subst z; rw [updM_same] at q; cases q
    rw [updM_ne hx] at q
    obtain ⟨h1, h2⟩ := w.mem _ _ q
    exact ⟨by rw [upd_ne hx]; exact h1, h2.carry gx rfl⟩
end

/-! ### the judgements -/
abbrev Sg := List (Option D)
structure SRp (K : PySem.W.Frag) (G : Hp) (sg : Sg) (σ : L2.St) : Prop where
  len : σ.length = sg.length
  at_ : ∀ (i : Nat) (d : D), sg[i]? = some (some d) → ∃ v, σ[i]? = some (some v) ∧ Rp K G v d
theorem SRp.mono {K : PySem.W.Frag} {G G' : Hp} {sg : Sg} {σ : L2.St} (e : Gx G G') (r : SRp K G sg σ) : SRp K G' sg σ := ⟨r.len, fun i d h => let ⟨v, a, b⟩ := r.at_ i d h; ⟨v, a, b.mono e⟩⟩
theorem SRp.set {K : PySem.W.Frag} {G : Hp} {sg : Sg} {σ : L2.St} {v : V} {d : D} (r : SRp K G sg σ) (i : Nat) (h : Rp K G v d) : SRp K G (sg.set i (some d)) (σ.set i (some v)) := by
  refine ⟨by simp [r.len], fun j e q => ?_⟩
  by_cases hj : i = j
  · subst hj
    by_cases hl : i < sg.length
    · rw [List.getElem?_set_self hl] at q
      cases q
      exact ⟨v, List.getElem?_set_self (by rw [r.len]; exact hl), h⟩
    · rw [List.getElem?_eq_none (by simpa using hl)] at q; cases q
  · rw [List.getElem?_set_ne hj] at q ⊢
    exact r.at_ j e q
/-- the end of an evaluation -/
def PV (K : PySem.W.Frag) (G : Hp) (M : Mem) (H : Hp) (Q : D → Mem → Prop) : VK := fun v H' => ∃ d G' M', Stp G M H G' M' H' ∧ Wd K G' M' H' ∧ Rp K G' v d ∧ Q d M'
def PB (K : PySem.W.Frag) (G : Hp) (M : Mem) (H : Hp) (Q : Bool → Mem → Prop) : Bool → Hp → Prop := fun b H' => ∃ G' M', Stp G M H G' M' H' ∧ Wd K G' M' H' ∧ Q b M'
def PL (K : PySem.W.Frag) (G : Hp) (M : Mem) (H : Hp) (Q : List D → Mem → Prop) : List V → Hp → Prop := fun vs H' => ∃ ds G' M', Stp G M H G' M' H' ∧ Wd K G' M' H' ∧ RpA K G' vs ds ∧ Q ds M'
def PN (K : PySem.W.Frag) (G : Hp) (M : Mem) (H : Hp) (Q : Sg → Mem → Prop) : L2.St → Hp → Prop := fun σ' H' => ∃ sg' G' M', Stp G M H G' M' H' ∧ Wd K G' M' H' ∧ SRp K G' sg' σ' ∧ Q sg' M'
structure EndsD where
  nx : Sg → Mem → Prop
  rt : D → Mem → Prop
  bk : Sg → Mem → Prop := fun _ _ => False
  ct : Sg → Mem → Prop := fun _ _ => False
def toE (K : PySem.W.Frag) (G : Hp) (M : Mem) (H : Hp) (E : EndsD) : Ends := { nx := PN K G M H E.nx, rt := PV K G M H E.rt, bk := PN K G M H E.bk, ct := PN K G M H E.ct }

/-- the weakest readings -/
structure tW (X : Cx) (e : Expr) (σ : L2.St) (H : Hp) (R : VK) : Prop where
  run : ∀ pins s, Inv X pins σ H s → wpAny (model X.prog X.w) X.A (eval e X.env) (EP X pins σ R) X.xe s
structure tWT (X : Cx) (e : Expr) (σ : L2.St) (H : Hp) (R : Bool → Hp → Prop) : Prop where
  run : ∀ pins s, Inv X pins σ H s → wpAny (model X.prog X.w) X.A (isTrue e X.env (eval e X.env)) (TP X pins σ R) X.xe s
structure tWW (X : Cx) (e : Expr) (σ : L2.St) (H : Hp) (R : Bool → Hp → Prop) : Prop where
  run : ∀ whole pins s, Inv X pins σ H s → wpAny (model X.prog X.w) X.A (isTrue e X.env whole) (TP X pins σ R) X.xe s
structure tWA (X : Cx) (es : List Expr) (σ : L2.St) (H : Hp) (R : List V → Hp → Prop) : Prop where
  run : ∀ pos pins s, Inv X pins σ H s → wpAny (model X.prog X.w) X.A (spliced (backTo pos (starEach es X.env))) (AP X pins σ R) X.xe s
structure tWS (X : Cx) (st : Stmt) (D : Ends) (σ : L2.St) (H : Hp) : Prop where
  run : ∀ pins s, Inv X pins σ H s → wpAny (model X.prog X.w) X.A (exec st X.env) (SP X pins D) X.xe s
structure tWSs (X : Cx) (st : List Stmt) (D : Ends) (σ : L2.St) (H : Hp) : Prop where
  run : ∀ pins s, Inv X pins σ H s → wpAny (model X.prog X.w) X.A (execs st X.env) (SP X pins D) X.xe s
structure gW (X : Cx) (tg : Expr) (v : V) (σ : L2.St) (H : Hp) (R : L2.St → Hp → Prop) : Prop where
  run : ∀ pins s u, Inv X pins σ H s → RelV v u → wpAny (model X.prog X.w) X.A (assign tg X.env u) (fun _ s' => ∃ σ' H', Inv X pins σ' H' s' ∧ R σ' H') X.xe s
section
variable {X : Cx}
theorem pe_w {e : Expr} : PE X e (tW X e) := ⟨fun pins s σ H Q I h => h.run pins s I⟩
theorem pt_w {e : Expr} : PT X e (tWT X e) := ⟨fun pins s σ H Q I h => h.run pins s I⟩
theorem pw_w {e : Expr} : PW X e (tWW X e) := ⟨fun wh pins s σ H Q I h => h.run wh pins s I⟩
theorem pa_w {es : List Expr} : PA X es (tWA X es) := ⟨fun pos pins s σ H Q I h => h.run pos pins s I⟩
theorem ps_w {st : Stmt} : PS X st (tWS X st) := ⟨fun pins s σ H Q I h => h.run pins s I⟩
theorem pss_w {st : List Stmt} : PSs X st (tWSs X st) := ⟨fun pins s σ H Q I h => h.run pins s I⟩
theorem pg_w {tg : Expr} : PG X tg (gW X tg) := ⟨fun pins s σ H v u Q I r h => h.run pins s u I r⟩

/-- e evaluates so that Q holds of its datum and the mutable part -/
def WE (X : Cx) (e : Expr) (sg : Sg) (M : Mem) (Q : D → Mem → Prop) : Prop := ∀ σ H G, Wd X.K G M H → SRp X.K G sg σ → tW X e σ H (PV X.K G M H Q)
def WT (X : Cx) (e : Expr) (sg : Sg) (M : Mem) (Q : Bool → Mem → Prop) : Prop := ∀ σ H G, Wd X.K G M H → SRp X.K G sg σ → tWT X e σ H (PB X.K G M H Q)
def WW (X : Cx) (e : Expr) (sg : Sg) (M : Mem) (Q : Bool → Mem → Prop) : Prop := ∀ σ H G, Wd X.K G M H → SRp X.K G sg σ → tWW X e σ H (PB X.K G M H Q)
def WA (X : Cx) (es : List Expr) (sg : Sg) (M : Mem) (Q : List D → Mem → Prop) : Prop := ∀ σ H G, Wd X.K G M H → SRp X.K G sg σ → tWA X es σ H (PL X.K G M H Q)
def WS (X : Cx) (st : Stmt) (sg : Sg) (M : Mem) (E : EndsD) : Prop := ∀ σ H G, Wd X.K G M H → SRp X.K G sg σ → tWS X st (toE X.K G M H E) σ H
def WSs (X : Cx) (st : List Stmt) (sg : Sg) (M : Mem) (E : EndsD) : Prop := ∀ σ H G, Wd X.K G M H → SRp X.K G sg σ → tWSs X st (toE X.K G M H E) σ H
/-- .. to one datum, nothing changing -/
abbrev EE (X : Cx) (e : Expr) (sg : Sg) (M : Mem) (d : D) : Prop := WE X e sg M fun x M' => x = d ∧ M' = M
abbrev ET (X : Cx) (e : Expr) (sg : Sg) (M : Mem) (b : Bool) : Prop := WT X e sg M fun x M' => x = b ∧ M' = M
abbrev EA (X : Cx) (es : List Expr) (sg : Sg) (M : Mem) (ds : List D) : Prop := WA X es sg M fun x M' => x = ds ∧ M' = M

theorem tW.imp {e : Expr} {σ : L2.St} {H : Hp} {R R' : VK} (h : tW X e σ H R) (k : ∀ v H', R v H' → R' v H') : tW X e σ H R' := ⟨fun pins s I => thn (h.run pins s I) fun u s' ⟨v, H', J, r, q⟩ => ⟨v, H', J, r, k v H' q⟩⟩
theorem tWT.imp {e : Expr} {σ : L2.St} {H : Hp} {R R' : Bool → Hp → Prop} (h : tWT X e σ H R) (k : ∀ v H', R v H' → R' v H') : tWT X e σ H R' := ⟨fun pins s I => thn (h.run pins s I) fun u s' ⟨H', J, q⟩ => ⟨H', J, k u H' q⟩⟩
theorem tWW.imp {e : Expr} {σ : L2.St} {H : Hp} {R R' : Bool → Hp → Prop} (h : tWW X e σ H R) (k : ∀ v H', R v H' → R' v H') : tWW X e σ H R' := ⟨fun wh pins s I => thn (h.run wh pins s I) fun u s' ⟨H', J, q⟩ => ⟨H', J, k u H' q⟩⟩
theorem tWA.imp {es : List Expr} {σ : L2.St} {H : Hp} {R R' : List V → Hp → Prop} (h : tWA X es σ H R) (k : ∀ v H', R v H' → R' v H') : tWA X es σ H R' := ⟨fun pos pins s I => thn (h.run pos pins s I) fun u s' ⟨v, H', J, r, q⟩ => ⟨v, H', J, r, k v H' q⟩⟩
theorem SP.imp {pins : List (Addr × Obj)} {D D' : Ends} {f : Flow} {s : Shared} (h : SP X pins D f s) (k1 : ∀ σ H, D.nx σ H → D'.nx σ H) (k2 : ∀ v H, D.rt v H → D'.rt v H) (k3 : ∀ σ H, D.bk σ H → D'.bk σ H) (k4 : ∀ σ H, D.ct σ H → D'.ct σ H) : SP X pins D' f s := by
  cases f with
  | next => obtain ⟨σ, H, I, q⟩ := h; exact ⟨σ, H, I, k1 _ _ q⟩
  | brk => obtain ⟨σ, H, I, q⟩ := h; exact ⟨σ, H, I, k3 _ _ q⟩
  | cont => obtain ⟨σ, H, I, q⟩ := h; exact ⟨σ, H, I, k4 _ _ q⟩
  | ret u => obtain ⟨v, σ, H, I, r, q⟩ := h; exact ⟨v, σ, H, I, r, k2 _ _ q⟩
theorem tWS.imp {st : Stmt} {σ : L2.St} {H : Hp} {D D' : Ends} (h : tWS X st D σ H) (k1 : ∀ σ H, D.nx σ H → D'.nx σ H) (k2 : ∀ v H, D.rt v H → D'.rt v H) (k3 : ∀ σ H, D.bk σ H → D'.bk σ H) (k4 : ∀ σ H, D.ct σ H → D'.ct σ H) : tWS X st D' σ H := ⟨fun pins s I => thn (h.run pins s I) fun f s' q => SP.imp q k1 k2 k3 k4⟩
theorem tWSs.imp {st : List Stmt} {σ : L2.St} {H : Hp} {D D' : Ends} (h : tWSs X st D σ H) (k1 : ∀ σ H, D.nx σ H → D'.nx σ H) (k2 : ∀ v H, D.rt v H → D'.rt v H) (k3 : ∀ σ H, D.bk σ H → D'.bk σ H) (k4 : ∀ σ H, D.ct σ H → D'.ct σ H) : tWSs X st D' σ H := ⟨fun pins s I => thn (h.run pins s I) fun f s' q => SP.imp q k1 k2 k3 k4⟩

section
variable {K : PySem.W.Frag} {G H H' : Hp} {M : Mem}
theorem PV.imp {Q Q' : D → Mem → Prop} {v : V} (h : PV K G M H Q v H') (k : ∀ d M', Q d M' → Q' d M') : PV K G M H Q' v H' := let ⟨d, G', M', s, w, r, q⟩ := h; ⟨d, G', M', s, w, r, k _ _ q⟩
theorem PV.base {Q : D → Mem → Prop} {v : V} {G1 H1 : Hp} {M1 : Mem} (s : Stp G M H G1 M1 H1) (h : PV K G1 M1 H1 Q v H') : PV K G M H Q v H' := let ⟨d, G', M', s', w, r, q⟩ := h; ⟨d, G', M', s.trans s', w, r, q⟩
theorem PB.base {Q : Bool → Mem → Prop} {v : Bool} {G1 H1 : Hp} {M1 : Mem} (s : Stp G M H G1 M1 H1) (h : PB K G1 M1 H1 Q v H') : PB K G M H Q v H' := let ⟨G', M', s', w, q⟩ := h; ⟨G', M', s.trans s', w, q⟩
theorem PL.base {Q : List D → Mem → Prop} {v : List V} {G1 H1 : Hp} {M1 : Mem} (s : Stp G M H G1 M1 H1) (h : PL K G1 M1 H1 Q v H') : PL K G M H Q v H' := let ⟨d, G', M', s', w, r, q⟩ := h; ⟨d, G', M', s.trans s', w, r, q⟩
theorem PN.base {Q : Sg → Mem → Prop} {σ : L2.St} {G1 H1 : Hp} {M1 : Mem} (s : Stp G M H G1 M1 H1) (h : PN K G1 M1 H1 Q σ H') : PN K G M H Q σ H' := let ⟨d, G', M', s', w, r, q⟩ := h; ⟨d, G', M', s.trans s', w, r, q⟩
theorem PV.here {Q : D → Mem → Prop} {v : V} {d : D} (w : Wd K G M H) (r : Rp K G v d) (q : Q d M) : PV K G M H Q v H := ⟨d, G, M, Stp.refl, w, r, q⟩
theorem PB.here {Q : Bool → Mem → Prop} {b : Bool} (w : Wd K G M H) (q : Q b M) : PB K G M H Q b H := ⟨G, M, Stp.refl, w, q⟩
end
theorem WE.imp {e : Expr} {sg : Sg} {M : Mem} {Q Q' : D → Mem → Prop} (h : WE X e sg M Q) (k : ∀ d M', Q d M' → Q' d M') : WE X e sg M Q' := fun σ H G w r => (h σ H G w r).imp fun v H' p => p.imp k
theorem WT.imp {e : Expr} {sg : Sg} {M : Mem} {Q Q' : Bool → Mem → Prop} (h : WT X e sg M Q) (k : ∀ d M', Q d M' → Q' d M') : WT X e sg M Q' := fun σ H G w r => (h σ H G w r).imp fun v H' ⟨G', M', a, b, q⟩ => ⟨G', M', a, b, k _ _ q⟩
theorem WW.imp {e : Expr} {sg : Sg} {M : Mem} {Q Q' : Bool → Mem → Prop} (h : WW X e sg M Q) (k : ∀ d M', Q d M' → Q' d M') : WW X e sg M Q' := fun σ H G w r => (h σ H G w r).imp fun v H' ⟨G', M', a, b, q⟩ => ⟨G', M', a, b, k _ _ q⟩
theorem WA.imp {es : List Expr} {sg : Sg} {M : Mem} {Q Q' : List D → Mem → Prop} (h : WA X es sg M Q) (k : ∀ d M', Q d M' → Q' d M') : WA X es sg M Q' := fun σ H G w r => (h σ H G w r).imp fun v H' ⟨d, G', M', a, b, c, q⟩ => ⟨d, G', M', a, b, c, k _ _ q⟩
structure EndsD.Le (E E' : EndsD) : Prop where
  nx : ∀ sg M, E.nx sg M → E'.nx sg M
  rt : ∀ d M, E.rt d M → E'.rt d M
  bk : ∀ sg M, E.bk sg M → E'.bk sg M
  ct : ∀ sg M, E.ct sg M → E'.ct sg M
theorem PN.imp {K : PySem.W.Frag} {G H H' : Hp} {M : Mem} {Q Q' : Sg → Mem → Prop} {σ : L2.St} (h : PN K G M H Q σ H') (k : ∀ d M', Q d M' → Q' d M') : PN K G M H Q' σ H' := let ⟨d, G', M', s, w, r, q⟩ := h; ⟨d, G', M', s, w, r, k _ _ q⟩
theorem WS.imp {st : Stmt} {sg : Sg} {M : Mem} {E E' : EndsD} (h : WS X st sg M E) (k : E.Le E') : WS X st sg M E' := fun σ H G w r => (h σ H G w r).imp (fun _ _ q => PN.imp q k.nx) (fun _ _ q => PV.imp q k.rt) (fun _ _ q => PN.imp q k.bk) (fun _ _ q => PN.imp q k.ct)
theorem WSs.imp {st : List Stmt} {sg : Sg} {M : Mem} {E E' : EndsD} (h : WSs X st sg M E) (k : E.Le E') : WSs X st sg M E' := fun σ H G w r => (h σ H G w r).imp (fun _ _ q => PN.imp q k.nx) (fun _ _ q => PV.imp q k.rt) (fun _ _ q => PN.imp q k.bk) (fun _ _ q => PN.imp q k.ct)
/-- a rule of the layer below, by its reading -/
theorem WE.of {e : Expr} {t : TE} {sg : Sg} {M : Mem} {Q : D → Mem → Prop} (h : PE X e t) (k : ∀ σ H G, Wd X.K G M H → SRp X.K G sg σ → t σ H (PV X.K G M H Q)) : WE X e sg M Q := fun σ H G w r => ⟨fun pins s I => h.run pins s σ H _ I (k σ H G w r)⟩
theorem WT.of {e : Expr} {t : TT} {sg : Sg} {M : Mem} {Q : Bool → Mem → Prop} (h : PT X e t) (k : ∀ σ H G, Wd X.K G M H → SRp X.K G sg σ → t σ H (PB X.K G M H Q)) : WT X e sg M Q := fun σ H G w r => ⟨fun pins s I => h.run pins s σ H _ I (k σ H G w r)⟩
theorem WW.of {e : Expr} {t : TT} {sg : Sg} {M : Mem} {Q : Bool → Mem → Prop} (h : PW X e t) (k : ∀ σ H G, Wd X.K G M H → SRp X.K G sg σ → t σ H (PB X.K G M H Q)) : WW X e sg M Q := fun σ H G w r => ⟨fun wh pins s I => h.run wh pins s σ H _ I (k σ H G w r)⟩
theorem WA.of {es : List Expr} {t : TA} {sg : Sg} {M : Mem} {Q : List D → Mem → Prop} (h : PA X es t) (k : ∀ σ H G, Wd X.K G M H → SRp X.K G sg σ → t σ H (PL X.K G M H Q)) : WA X es sg M Q := fun σ H G w r => ⟨fun pos pins s I => h.run pos pins s σ H _ I (k σ H G w r)⟩
theorem WS.of {st : Stmt} {t : TS} {sg : Sg} {M : Mem} {E : EndsD} (h : PS X st t) (k : ∀ σ H G, Wd X.K G M H → SRp X.K G sg σ → t (toE X.K G M H E) σ H) : WS X st sg M E := fun σ H G w r => ⟨fun pins s I => h.run pins s σ H _ I (k σ H G w r)⟩
theorem WSs.of {st : List Stmt} {t : TS} {sg : Sg} {M : Mem} {E : EndsD} (h : PSs X st t) (k : ∀ σ H G, Wd X.K G M H → SRp X.K G sg σ → t (toE X.K G M H E) σ H) : WSs X st sg M E := fun σ H G w r => ⟨fun pins s I => h.run pins s σ H _ I (k σ H G w r)⟩
theorem toE_base {K : PySem.W.Frag} {G H G1 H1 : Hp} {M M1 : Mem} {E : EndsD} {st : List Stmt} {σ : L2.St} {H0 : Hp} (s : Stp G M H G1 M1 H1) (h : tWSs X st (toE K G1 M1 H1 E) σ H0) : tWSs X st (toE K G M H E) σ H0 := h.imp (fun _ _ q => PN.base s q) (fun _ _ q => PV.base s q) (fun _ _ q => PN.base s q) (fun _ _ q => PN.base s q)
end
end DL
set_option Elab.async false
set_option linter.all false
set_option maxRecDepth 100000
set_option maxHeartbeats 4000000
/-! DLb: rules for expressions over data. -/
namespace DL
open PySem L2
section
variable {X : Cx} {sg : Sg} {M : Mem} {Q : D → Mem → Prop} {Qb : Bool → Mem → Prop} {pos : Pos} {K : PySem.W.Frag}

/-! ### names, constants -/
theorem we_v (i : Nat) {x : Str} {d : D} (hs : sg[i]? = some (some d)) (q : Q d M) (hN : X.N[i]? = some x := by rfl) (hv : Vis X.env.scope x := by first | exact Or.inl rfl | exact Or.inr (Or.inl rfl) | exact Or.inr (Or.inr rfl))
    (hd : (x == ("__debug__" : Str)) = false := by decide) (hcd : (x == ("__classdict__" : Str)) = false := by decide) : WE X (.Name x pos) sg M Q :=
  WE.of (pe_var hN hv hd hcd) fun σ H G w r => by
    obtain ⟨v, e, rp⟩ := r.at_ i d hs
    exact ⟨v, e, PV.here w rp q⟩
theorem we_int {i : Int} {j : Nat} (q : Q (.int i) M) : WE X (.Constant (.int i) j pos) sg M Q := WE.of pe_int fun σ H G w r => PV.here w (.int i) q
theorem we_bl {b : Bool} {j : Nat} (q : Q (.bl b) M) : WE X (.Constant (.bool b) j pos) sg M Q := WE.of pe_bl fun σ H G w r => PV.here w (.bl b) q
theorem we_non {j : Nat} (q : Q .non M) : WE X (.Constant .none j pos) sg M Q := WE.of pe_non fun σ H G w r => PV.here w .non q
theorem we_str {x : Str} {j : Nat} (q : Q (.str x) M) : WE X (.Constant (.str x) j pos) sg M Q := WE.of pe_str fun σ H G w r => PV.here w (.str x) q
/-- a module's constant int -/
theorem we_gi {x : Str} {i : Int} {t : Tok} (hm : X.mg x = some (.int i t)) (q : Q (.int i) M) (hg : Gl X x := by rfl) (hd : (x == ("__debug__" : Str)) = false := by decide) : WE X (.Name x pos) sg M Q := WE.of (pe_glob (v := .int i) hg hm (show ∃ t', Value.int i t = Value.int i t' from ⟨t, rfl⟩) hd) fun σ H G w r => PV.here w (.int i) q
theorem we_gs {x y : Str} {t : Tok} (hm : X.mg x = some (.str y t)) (q : Q (.str y) M) (hg : Gl X x := by rfl) (hd : (x == ("__debug__" : Str)) = false := by decide) : WE X (.Name x pos) sg M Q := WE.of (pe_glob (v := .str y) hg hm (show ∃ t', Value.str y t = Value.str y t' from ⟨t, rfl⟩) hd) fun σ H G w r => PV.here w (.str y) q

/-! ### two-place operators -/
def OpD (K : PySem.W.Frag) (r : R2) (x y : D) (M : Mem) (Q : D → Mem → Prop) : Prop := ∀ (G H : Hp) (v u : V) (R : VK), Wd K G M H → Rp K G v x → Rp K G u y → (∀ z H', PV K G M H Q z H' → R z H') → r v u H R
theorem two {a b : Expr} {r : R2} {Qa : D → Mem → Prop} (ha : WE X a sg M Qa) (hb : ∀ x M1, Qa x M1 → WE X b sg M1 fun y M2 => OpD X.K r x y M2 Q) {σ : L2.St} {H G : Hp} (w : Wd X.K G M H) (s : SRp X.K G sg σ) : tOp r (tW X a) (tW X b) σ H (PV X.K G M H Q) :=
  (ha σ H G w s).imp fun v H1 ⟨x, G1, M1, st, w1, r1, q1⟩ => (hb x M1 q1 σ H1 G1 w1 (s.mono (st.gx w))).imp fun u H2 ⟨y, G2, M2, st2, w2, r2, q2⟩ => q2 G2 H2 v u _ w2 (r1.mono (st2.gx w1)) r2 fun z H' h => h.base (st.trans st2)
theorem we_op {op : Operator} {a b : Expr} {r : R2} {Qa : D → Mem → Prop} (ho : OpR X (binaryOp op) r) (ha : WE X a sg M Qa) (hb : ∀ x M1, Qa x M1 → WE X b sg M1 fun y M2 => OpD X.K r x y M2 Q) : WE X (.BinOp a op b pos) sg M Q := WE.of (pe_op ho pe_w pe_w) fun σ H G w s => two ha hb w s
theorem ee_op {op : Operator} {a b : Expr} {r : R2} {x y : D} (ho : OpR X (binaryOp op) r) (ha : EE X a sg M x) (hb : EE X b sg M y) (hr : OpD X.K r x y M Q) : WE X (.BinOp a op b pos) sg M Q := we_op ho ha fun x' M1 ⟨e1, e2⟩ => by
  subst e1; subst e2
  exact hb.imp fun y' M2 ⟨e1, e2⟩ => by subst e1; subst e2; exact hr
theorem we_cmp {op : CmpOp} {a b : Expr} {r : R2} {Qa : D → Mem → Prop} (ho : OpR X (compareOp op) r) (ha : WE X a sg M Qa) (hb : ∀ x M1, Qa x M1 → WE X b sg M1 fun y M2 => OpD X.K r x y M2 Q) (hm : behindInMarks op b = false := by first | exact nomark _ | rfl) : WE X (.Compare a [op] [b] pos) sg M Q := WE.of (pe_cmpR ho pe_w pe_w hm) fun σ H G w s => two ha hb w s
theorem ee_cmp {op : CmpOp} {a b : Expr} {r : R2} {x y : D} (ho : OpR X (compareOp op) r) (ha : EE X a sg M x) (hb : EE X b sg M y) (hr : OpD X.K r x y M Q) (hm : behindInMarks op b = false := by first | exact nomark _ | rfl) : WE X (.Compare a [op] [b] pos) sg M Q := we_cmp ho ha (fun x' M1 ⟨e1, e2⟩ => by
  subst e1; subst e2
  exact hb.imp fun y' M2 ⟨e1, e2⟩ => by subst e1; subst e2; exact hr) hm
/-- a comparison as a test -/
theorem wt_cmp {op : CmpOp} {a b : Expr} {r : R2} {Qa : D → Mem → Prop} (ho : OpR X (compareOp op) r) (ha : WE X a sg M Qa) (hb : ∀ x M1, Qa x M1 → WE X b sg M1 fun y M2 => OpD X.K r x y M2 fun z M3 => ∃ k, z = .bl k ∧ Qb k M3) (hm : behindInMarks op b = false := by first | exact nomark _ | rfl) : WT X (.Compare a [op] [b] pos) sg M Qb :=
  WT.of (pt_cmpR ho pe_w pe_w hm) fun σ H G w s => by
    refine (ha σ H G w s).imp fun v H1 ⟨x, G1, M1, st, w1, r1, q1⟩ => (hb x M1 q1 σ H1 G1 w1 (s.mono (st.gx w))).imp fun u H2 ⟨y, G2, M2, st2, w2, r2, q2⟩ => q2 G2 H2 v u _ w2 (r1.mono (st2.gx w1)) r2 fun z H' h => ?_
    obtain ⟨d, G', M', s', w', r', k, rfl, q⟩ := h
    cases r'
    exact ⟨k, rfl, G', M', (st.trans st2).trans s', w', q⟩
theorem et_cmp {op : CmpOp} {a b : Expr} {r : R2} {x y : D} (ho : OpR X (compareOp op) r) (ha : EE X a sg M x) (hb : EE X b sg M y) (hr : OpD X.K r x y M fun z M3 => ∃ k, z = .bl k ∧ Qb k M3) (hm : behindInMarks op b = false := by first | exact nomark _ | rfl) : WT X (.Compare a [op] [b] pos) sg M Qb := wt_cmp ho ha (fun x' M1 ⟨e1, e2⟩ => by
  subst e1; subst e2
  exact hb.imp fun y' M2 ⟨e1, e2⟩ => by subst e1; subst e2; exact hr) hm
/-- a < b < c -/
def tri (X : Cx) (a b c : Expr) (r r' : R2) (sg : Sg) (M : Mem) (Q : Bool → Mem → Prop) : Prop := WE X a sg M fun x M1 => WE X b sg M1 fun y M2 => OpD X.K r x y M2 fun z M3 => ∃ k, z = .bl k ∧ (k = false → Q false M3) ∧ (k = true → WE X c sg M3 fun u M4 => OpD X.K r' y u M4 fun z M5 => ∃ k, z = .bl k ∧ Q k M5)
theorem tri_run {a b c : Expr} {r r' : R2} (h : tri X a b c r r' sg M Qb) {σ : L2.St} {H G : Hp} {R : VK} (w : Wd X.K G M H) (s : SRp X.K G sg σ) (hR : ∀ k H', PB X.K G M H Qb k H' → R (.bl k) H') : tChain r r' (tW X a) (tW X b) (tW X c) σ H R := by
  refine (h σ H G w s).imp fun v H1 ⟨x, G1, M1, st, w1, r1, q1⟩ => (q1 σ H1 G1 w1 (s.mono (st.gx w))).imp fun u H2 ⟨y, G2, M2, st2, w2, r2, q2⟩ => q2 G2 H2 v u _ w2 (r1.mono (st2.gx w1)) r2 fun z H' h => ?_
  obtain ⟨d, G3, M3, st3, w3, r3, k, rfl, q0, q1'⟩ := h
  cases r3
  refine ⟨k, rfl, ?_⟩
  cases k with
  | false => exact hR false H' ⟨G3, M3, (st.trans st2).trans st3, w3, q0 rfl⟩
  | true =>
    refine (q1' rfl σ H' G3 w3 (s.mono (((st.trans st2).trans st3).gx w))).imp fun t H4 ⟨z, G4, M4, st4, w4, r4, q4⟩ => q4 G4 H4 u t _ w4 (r2.mono ((st3.trans st4).gx w2)) r4 fun z' H5 h5 => ?_
    obtain ⟨d, G5, M5, st5, w5, r5, k, rfl, q5⟩ := h5
    cases r5
    exact hR k H5 ⟨G5, M5, (((st.trans st2).trans st3).trans st4).trans st5, w5, q5⟩
theorem we_chain {op op' : CmpOp} {a b c : Expr} {r r' : R2} (ho : OpR X (compareOp op) r) (ho' : OpR X (compareOp op') r') (h : tri X a b c r r' sg M fun k M1 => Q (.bl k) M1) (hm : lastMarks [op, op'] [b, c] = false := by with_unfolding_all rfl) : WE X (.Compare a [op, op'] [b, c] pos) sg M Q :=
  WE.of (pe_chain ho ho' pe_w pe_w pe_w hm) fun σ H G w s => tri_run h w s fun k H' ⟨G', M', st, w', q⟩ => ⟨.bl k, G', M', st, w', .bl k, q⟩
theorem wt_chain {op op' : CmpOp} {a b c : Expr} {r r' : R2} (ho : OpR X (compareOp op) r) (ho' : OpR X (compareOp op') r') (h : tri X a b c r r' sg M Qb) (hm : lastMarks [op, op'] [b, c] = false := by with_unfolding_all rfl) : WT X (.Compare a [op, op'] [b, c] pos) sg M Qb :=
  WT.of (pt_chain ho ho' pe_w pe_w pe_w hm) fun σ H G w s => tri_run h w s fun k H' q => ⟨k, rfl, q⟩
/-- three ints -/
theorem tri_I {a b c : Expr} {p p' : Int → Int → Bool} {i j l : Int} (ha : EE X a sg M (.int i)) (hb : EE X b sg M (.int j)) (hc : EE X c sg M (.int l)) (q : Qb (p i j && p' j l) M) : tri X a b c (rI0 fun i j => .bl (p i j)) (rI0 fun i j => .bl (p' i j)) sg M Qb :=
  ha.imp fun x M1 ⟨e1, e2⟩ => by
    subst e1; subst e2
    exact hb.imp fun y M2 ⟨e1, e2⟩ => by
      subst e1; subst e2
      intro G H v u R w rx ry k
      cases rx; cases ry
      refine ⟨i, j, rfl, rfl, k _ _ (PV.here w (.bl _) ⟨p i j, rfl, fun e => ?_, fun e => hc.imp fun z M3 ⟨e1, e2⟩ => ?_⟩)⟩
      · rw [e] at q; exact q
      · subst e1; subst e2
        intro G H v u R w rx ry k
        cases rx; cases ry
        refine ⟨j, l, rfl, rfl, k _ _ (PV.here w (.bl _) ⟨p' j l, rfl, ?_⟩)⟩
        rw [e, Bool.true_and] at q; exact q
/-! the operators by data -/
theorem od_I0 {f : Int → Int → Int} {i j : Int} (q : Q (.int (f i j)) M) : OpD K (rI0 fun i j => .int (f i j)) (.int i) (.int j) M Q := fun G H v u R w rx ry k => by
  cases rx; cases ry
  exact ⟨i, j, rfl, rfl, k _ _ (PV.here w (.int _) q)⟩
theorem od_I {C : Int → Int → Prop} {f : Int → Int → Int} {i j : Int} (c : C i j) (q : Q (.int (f i j)) M) : OpD K (rI C fun i j => .int (f i j)) (.int i) (.int j) M Q := fun G H v u R w rx ry k => by
  cases rx; cases ry
  exact ⟨i, j, rfl, rfl, c, k _ _ (PV.here w (.int _) q)⟩
theorem od_B0 {f : Int → Int → Bool} {i j : Int} (q : Q (.bl (f i j)) M) : OpD K (rI0 fun i j => .bl (f i j)) (.int i) (.int j) M Q := fun G H v u R w rx ry k => by
  cases rx; cases ry
  exact ⟨i, j, rfl, rfl, k _ _ (PV.here w (.bl _) q)⟩
theorem od_catS {x y : Str} (h : x.length + y.length ≤ sizeLine) (q : Q (.str (x ++ y)) M) : OpD K (fun x y H Q => ∃ i j, x = .str i ∧ y = .str j ∧ i.length + j.length ≤ sizeLine ∧ Q (.str (i ++ j)) H) (.str x) (.str y) M Q := fun G H v u R w rx ry k => by
  cases rx; cases ry
  exact ⟨x, y, rfl, rfl, h, k _ _ (PV.here w (.str _) q)⟩
theorem new_tup {G H : Hp} {p : Addr} {xs : List V} {ds : List D} (w : Wd K G M H) (hp : H p = none) (r : RpA K G xs ds) (q : Q (.tup ds) M) : PV K G M H Q (.ref p) (upd H p (.tup xs)) := by
  obtain ⟨w', st⟩ := w.new hp (o := .tup xs)
  exact ⟨_, _, _, st, w', .tup (SqT.of upd_same) (r.mono (gx_new w hp)), q⟩
theorem new_lst {G H : Hp} {p : Addr} {xs : List V} {ds : List D} (w : Wd K G M H) (hp : H p = none) (r : RpA K G xs ds) (q : Q (.lst ds) M) : PV K G M H Q (.ref p) (upd H p (.lst xs)) := by
  obtain ⟨w', st⟩ := w.new hp (o := .lst xs)
  exact ⟨_, _, _, st, w', .lst upd_same (r.mono (gx_new w hp)), q⟩
/-- .. that may change -/
theorem new_lstM {G H : Hp} {p : Addr} {xs : List V} {ds : List D} (w : Wd K G M H) (hp : H p = none) (r : RpA K G xs ds) (q : ∀ p, M p = none → Q (.ptr p) (updM M p (some (.lst ds)))) : PV K G M H Q (.ref p) (upd H p (.lst xs)) := by
  obtain ⟨w', st⟩ := w.newM hp (o := .lst xs) (mo := .lst ds) ⟨xs, upd_same, r⟩
  exact ⟨_, _, _, st, w', .ptr p, q p (w.free hp).2⟩
theorem od_catT {ds es : List D} (h : ds.length + es.length ≤ sizeLine) (q : Q (.tup (ds ++ es)) M) : OpD K (rCatA K) (.tup ds) (.tup es) M Q := fun G H v u R w rx ry k => by
  cases rx with
  | tup h1 r1 =>
    cases ry with
    | tup h2 r2 =>
      refine ⟨_, _, _, _, rfl, rfl, w.sub.st h1, w.sub.st h2, by rw [r1.length, r2.length]; exact h, fun e => ?_, fun e e2 => ?_, fun e e2 p hp => ?_⟩
      · subst e
        cases r1
        exact k _ _ (PV.here w (.tup h2 r2) q)
      · subst e2
        cases r2
        rw [List.append_nil] at q
        exact k _ _ (PV.here w (.tup h1 r1) q)
      · exact k _ _ (new_tup w hp (r1.append r2) q)
/-- a list as it stands: frozen, or one that may change -/
def LsD (M : Mem) (x : D) (ds : List D) : Prop := x = .lst ds ∨ ∃ p, x = .ptr p ∧ M p = some (.lst ds)
theorem LsD.at {x : D} {ds : List D} {v : V} {G H : Hp} (h : LsD M x ds) (w : Wd K G M H) (r : Rp K G v x) : ∃ a xs, v = .ref a ∧ H a = some (.lst xs) ∧ RpA K G xs ds := by
  rcases h with rfl | ⟨p, rfl, e⟩
  · cases r with
    | lst h1 r1 => exact ⟨_, _, rfl, w.sub _ _ h1, r1⟩
  · cases r
    obtain ⟨_, xs, h1, r1⟩ := w.mem _ _ e
    exact ⟨_, _, rfl, h1, r1⟩
theorem od_cat {x y : D} {ds es : List D} (hx : LsD M x ds) (hy : LsD M y es) (h : ds.length + es.length ≤ sizeLine) (q : Q (.lst (ds ++ es)) M) : OpD K rCat x y M Q := fun G H v u R w rx ry k => by
  obtain ⟨a, xs, rfl, h1, r1⟩ := hx.at w rx
  obtain ⟨b, ys, rfl, h2, r2⟩ := hy.at w ry
  exact ⟨a, b, xs, ys, rfl, rfl, h1, h2, by rw [r1.length, r2.length]; exact h, fun p hp => k _ _ (new_lst w hp (r1.append r2) q)⟩
theorem od_repT {ds : List D} {i : Int} (h0 : ds ≠ []) (h1 : 2 ≤ i) (h2 : i ≤ 1000) (h3 : ds.length ≤ 1000) (q : Q (.tup (List.replicate i.toNat ds).flatten) M) : OpD K (rRepT K) (.tup ds) (.int i) M Q := fun G H v u R w rx ry k => by
  cases ry
  cases rx with
  | tup e1 r1 => exact ⟨_, _, _, rfl, rfl, w.sub.st e1, fun e => h0 (by subst e; cases r1; rfl), h1, h2, by rw [r1.length]; exact h3, fun p hp => k _ _ (new_tup w hp (r1.rep _) q)⟩
theorem od_rep {x : D} {ds : List D} {i : Int} (hx : LsD M x ds) (h1 : -(2 ^ 63) ≤ i) (h2 : i < 2 ^ 63) (h3 : ds.length * i.toNat ≤ sizeLine) (q : Q (.lst (List.replicate i.toNat ds).flatten) M) : OpD K rRep x (.int i) M Q := fun G H v u R w rx ry k => by
  cases ry
  obtain ⟨a, xs, rfl, e1, r1⟩ := hx.at w rx
  exact ⟨a, i, xs, rfl, rfl, e1, h1, h2, by rw [r1.length]; exact h3, fun p hp => k _ _ (new_lst w hp (r1.rep _) q)⟩
/-- is None, is not None -/
def isNon : D → Bool
  | .non => true
  | _ => false
theorem Rp.non_iff {G : Hp} {v : V} {d : D} (r : Rp K G v d) : decide (v = .non) = isNon d := by cases r <;> rfl
theorem od_isN {x : D} (q : Q (.bl (isNon x)) M) : OpD K (fun x y H Q => y = .non ∧ Q (.bl (decide (x = .non))) H) x .non M Q := fun G H v u R w rx ry k => by
  cases ry
  refine ⟨rfl, k _ _ ?_⟩
  rw [rx.non_iff]
  exact PV.here w (.bl _) q
theorem od_notN {x : D} (q : Q (.bl (!isNon x)) M) : OpD K (fun x y H Q => y = .non ∧ Q (.bl (!decide (x = .non))) H) x .non M Q := fun G H v u R w rx ry k => by
  cases ry
  refine ⟨rfl, k _ _ ?_⟩
  rw [rx.non_iff]
  exact PV.here w (.bl _) q
/-- is, is not of two bools -/
theorem od_isB {a b : Bool} (q : Q (.bl (decide (a = b))) M) : OpD K rIsB (.bl a) (.bl b) M Q := fun G H v u R w rx ry k => by
  cases rx; cases ry
  exact ⟨a, b, rfl, rfl, k _ _ (PV.here w (.bl _) q)⟩
theorem od_notB {a b : Bool} (q : Q (.bl (!decide (a = b))) M) : OpD K rNotB (.bl a) (.bl b) M Q := fun G H v u R w rx ry k => by
  cases rx; cases ry
  exact ⟨a, b, rfl, rfl, k _ _ (PV.here w (.bl _) q)⟩
/-- == of ints, of texts -/
theorem od_eqI {i j : Int} (q : Q (.bl (decide (i = j))) M) : OpD K rEq (.int i) (.int j) M Q := fun G H v u R w rx ry k => by
  cases rx; cases ry
  have e : decide (V.int i = V.int j) = decide (i = j) := decide_eq_decide.mpr ⟨V.int.inj, congrArg _⟩
  refine ⟨rfl, k _ _ ?_⟩
  rw [e]
  exact PV.here w (.bl _) q
theorem od_neI {i j : Int} (q : Q (.bl (!decide (i = j))) M) : OpD K rNe (.int i) (.int j) M Q := fun G H v u R w rx ry k => by
  cases rx; cases ry
  have e : decide (V.int i = V.int j) = decide (i = j) := decide_eq_decide.mpr ⟨V.int.inj, congrArg _⟩
  refine ⟨rfl, k _ _ ?_⟩
  rw [e]
  exact PV.here w (.bl _) q
theorem od_eqS {i j : Str} (q : Q (.bl (decide (i = j))) M) : OpD K rEq (.str i) (.str j) M Q := fun G H v u R w rx ry k => by
  cases rx; cases ry
  have e : decide (V.str i = V.str j) = decide (i = j) := decide_eq_decide.mpr ⟨V.str.inj, congrArg _⟩
  refine ⟨rfl, k _ _ ?_⟩
  rw [e]
  exact PV.here w (.bl _) q
theorem od_neS {i j : Str} (q : Q (.bl (!decide (i = j))) M) : OpD K rNe (.str i) (.str j) M Q := fun G H v u R w rx ry k => by
  cases rx; cases ry
  have e : decide (V.str i = V.str j) = decide (i = j) := decide_eq_decide.mpr ⟨V.str.inj, congrArg _⟩
  refine ⟨rfl, k _ _ ?_⟩
  rw [e]
  exact PV.here w (.bl _) q
theorem od_eqB {i j : Bool} (q : Q (.bl (decide (i = j))) M) : OpD K rEq (.bl i) (.bl j) M Q := fun G H v u R w rx ry k => by
  cases rx; cases ry
  have e : decide (V.bl i = V.bl j) = decide (i = j) := decide_eq_decide.mpr ⟨V.bl.inj, congrArg _⟩
  refine ⟨rfl, k _ _ ?_⟩
  rw [e]
  exact PV.here w (.bl _) q

/-! ### == of data at any depth -/
mutual
def toPy : D → PyData
  | .non => .none
  | .bl b => .bool b
  | .int i => .int i
  | .str x => .str x
  | .tup ds => .tuple (toPyA ds)
  | .lst ds => .list (toPyA ds)
  | .ptr _ => .none
  | .scr ns => .list (ns.map .int)
def toPyA : List D → List PyData
  | [] => []
  | d :: ds => toPy d :: toPyA ds
end
mutual
/-- no mutable object within -/
def pl : D → Bool
  | .tup ds => plA ds
  | .lst ds => plA ds
  | .ptr _ => false
  | .scr _ => false
  | _ => true
def plA : List D → Bool
  | [] => true
  | d :: ds => pl d && plA ds
end
theorem dp_ints {H : Hp} : ∀ ns : List Int, DpAll K H (ns.map V.int) (ns.map PyData.int)
  | [] => .nil
  | n :: ns => .cons (.int n) (dp_ints ns)
mutual
theorem dp_of {G H : Hp} (e : Gx G H) : ∀ {v : V} {d : D}, Rp K G v d → pl d = true → Dp K H v (toPy d)
  | _, _, .non, _ => .non
  | _, _, .bl b, _ => .bl b
  | _, _, .int i, _ => .int i
  | _, _, .str x, _ => .str x
  | _, _, .tup h r, p => .tup (e.st h) (dp_all e r p)
  | _, _, .lst h r, p => .lst (SqL.of (e _ _ h)) (dp_all e r p)
  | _, _, .ptr _, p => Bool.noConfusion (show false = true from p)
  | _, _, .scr _, p => Bool.noConfusion (show false = true from p)
theorem dp_all {G H : Hp} (e : Gx G H) : ∀ {vs : List V} {ds : List D}, RpA K G vs ds → plA ds = true → DpAll K H vs (toPyA ds)
  | _, _, .nil, _ => .nil
  | _, _, .cons h r, p => by
    have q := Bool.and_eq_true_iff.mp p
    exact .cons (dp_of e h q.1) (dp_all e r q.2)
end
/-- what a datum is told by, lists that may change at the top included -/
def PyD (M : Mem) (x : D) (d : PyData) : Prop := (pl x = true ∧ d = toPy x) ∨ ∃ ds, LsD M x ds ∧ plA ds = true ∧ d = .list (toPyA ds)
theorem PyD.dp {x : D} {d : PyData} {v : V} {G H : Hp} (h : PyD M x d) (w : Wd K G M H) (r : Rp K G v x) : Dp K H v d := by
  rcases h with ⟨p, rfl⟩ | ⟨ds, l, p, rfl⟩
  · exact dp_of w.sub r p
  · obtain ⟨a, xs, rfl, h1, r1⟩ := l.at w r
    exact .lst (SqL.of h1) (dp_all w.sub r1 p)
theorem od_eqD {x y : D} {d e : PyData} (hx : PyD M x d) (hy : PyD M y e) (sd : SeqAt.shaped d = true) (se : SeqAt.shaped e = true) (q : Q (.bl (PyData.eqv d e)) M) : OpD K (rEqD K) x y M Q := fun G H v u R w rx ry k =>
  ⟨d, e, hx.dp w rx, hy.dp w ry, sd, se, k _ _ (PV.here w (.bl _) q)⟩
theorem od_neD {x y : D} {d e : PyData} (hx : PyD M x d) (hy : PyD M y e) (sd : SeqAt.shaped d = true) (se : SeqAt.shaped e = true) (q : Q (.bl (!PyData.eqv d e)) M) : OpD K (rNeD K) x y M Q := fun G H v u R w rx ry k =>
  ⟨d, e, hx.dp w rx, hy.dp w ry, sd, se, k _ _ (PV.here w (.bl _) q)⟩

/-! ### truth, and, or, not, if -/
theorem wt_val {e : Expr} (h : WE X e sg M fun x M1 => ∃ k, x = .bl k ∧ Qb k M1) (he : ∀ whole, isTrue e X.env whole = (do let v ← whole; standAt e.pos; holding [v] (truthy v)) := by intro _; rfl) : WT X e sg M Qb := WT.of (pt_val pe_w he) fun σ H G w s =>
  (h σ H G w s).imp fun v H1 ⟨d, G', M', st, w', r, k, e, q⟩ => by
    subst e
    cases r
    exact ⟨k, rfl, G', M', st, w', q⟩
theorem wt_not {e : Expr} (h : WT X e sg M fun b M1 => Qb (!b) M1) : WT X (.UnaryOp .Not e pos) sg M Qb := WT.of (pt_not pt_w) fun σ H G w s => (h σ H G w s).imp fun v H1 ⟨G', M', st, w', q⟩ => ⟨G', M', st, w', q⟩
theorem ww_pt {e : Expr} (h : WW X e sg M Qb) : WT X e sg M Qb := fun σ H G w s => ⟨fun pins t I => (h σ H G w s).run _ pins t I⟩
theorem ww_and1 {e : Expr} (h : WT X e sg M Qb) : WW X (.BoolOp .And [e] pos) sg M Qb := WW.of (pw_and1 pt_w) fun σ H G w s => h σ H G w s
theorem ww_or1 {e : Expr} (h : WT X e sg M Qb) : WW X (.BoolOp .Or [e] pos) sg M Qb := WW.of (pw_or1 pt_w) fun σ H G w s => h σ H G w s
theorem ww_and {a b : Expr} {rest : List Expr} (h : WT X a sg M fun k M1 => (k = false → Qb false M1) ∧ (k = true → WW X (.BoolOp .And (b :: rest) pos) sg M1 Qb)) : WW X (.BoolOp .And (a :: b :: rest) pos) sg M Qb := WW.of (pw_and pt_w pw_w) fun σ H G w s => by
  refine (h σ H G w s).imp fun k H1 ⟨G1, M1, st, w1, q0, q1⟩ => ?_
  cases k with
  | true => exact (q1 rfl σ H1 G1 w1 (s.mono (st.gx w))).imp fun _ _ p => p.base st
  | false => exact ⟨G1, M1, st, w1, q0 rfl⟩
theorem ww_or {a b : Expr} {rest : List Expr} (h : WT X a sg M fun k M1 => (k = true → Qb true M1) ∧ (k = false → WW X (.BoolOp .Or (b :: rest) pos) sg M1 Qb)) : WW X (.BoolOp .Or (a :: b :: rest) pos) sg M Qb := WW.of (pw_or pt_w pw_w) fun σ H G w s => by
  refine (h σ H G w s).imp fun k H1 ⟨G1, M1, st, w1, q0, q1⟩ => ?_
  cases k with
  | false => exact (q1 rfl σ H1 G1 w1 (s.mono (st.gx w))).imp fun _ _ p => p.base st
  | true => exact ⟨G1, M1, st, w1, q0 rfl⟩
/-- as values: all but the last True or False -/
theorem we_one {op : BoolOp} {e : Expr} (h : WE X e sg M Q) : WE X (.BoolOp op [e] pos) sg M Q := WE.of (pe_one pe_w) fun σ H G w s => h σ H G w s
theorem we_and {a b : Expr} {rest : List Expr} (h : WE X a sg M fun x M1 => ∃ k, x = .bl k ∧ (k = false → Q (.bl false) M1) ∧ (k = true → WE X (.BoolOp .And (b :: rest) pos) sg M1 Q)) : WE X (.BoolOp .And (a :: b :: rest) pos) sg M Q := WE.of (pe_and pe_w pe_w) fun σ H G w s => by
  refine (h σ H G w s).imp fun v H1 ⟨d, G1, M1, st, w1, r1, k, e, q0, q1⟩ => ?_
  subst e
  cases r1
  refine ⟨k, rfl, ?_⟩
  cases k with
  | true => exact (q1 rfl σ H1 G1 w1 (s.mono (st.gx w))).imp fun _ _ p => p.base st
  | false => exact ⟨_, G1, M1, st, w1, .bl false, q0 rfl⟩
theorem we_or {a b : Expr} {rest : List Expr} (h : WE X a sg M fun x M1 => ∃ k, x = .bl k ∧ (k = true → Q (.bl true) M1) ∧ (k = false → WE X (.BoolOp .Or (b :: rest) pos) sg M1 Q)) : WE X (.BoolOp .Or (a :: b :: rest) pos) sg M Q := WE.of (pe_or pe_w pe_w) fun σ H G w s => by
  refine (h σ H G w s).imp fun v H1 ⟨d, G1, M1, st, w1, r1, k, e, q0, q1⟩ => ?_
  subst e
  cases r1
  refine ⟨k, rfl, ?_⟩
  cases k with
  | false => exact (q1 rfl σ H1 G1 w1 (s.mono (st.gx w))).imp fun _ _ p => p.base st
  | true => exact ⟨_, G1, M1, st, w1, .bl true, q0 rfl⟩
theorem we_not {e : Expr} (h : WE X e sg M fun x M1 => ∃ k, x = .bl k ∧ Q (.bl (!k)) M1) : WE X (.UnaryOp .Not e pos) sg M Q := WE.of (pe_not pe_w) fun σ H G w s => (h σ H G w s).imp fun v H1 ⟨d, G1, M1, st, w1, r1, k, e, q⟩ => by
  subst e
  cases r1
  exact ⟨k, rfl, _, G1, M1, st, w1, .bl _, q⟩
theorem we_if {c a b : Expr} (h : WT X c sg M fun k M1 => (k = true → WE X a sg M1 Q) ∧ (k = false → WE X b sg M1 Q)) : WE X (.IfExp c a b pos) sg M Q := WE.of (pe_ifExp pt_w pe_w pe_w) fun σ H G w s => by
  refine (h σ H G w s).imp fun k H1 ⟨G1, M1, st, w1, q1, q0⟩ => ?_
  cases k with
  | true => exact (q1 rfl σ H1 G1 w1 (s.mono (st.gx w))).imp fun _ _ p => p.base st
  | false => exact (q0 rfl σ H1 G1 w1 (s.mono (st.gx w))).imp fun _ _ p => p.base st
/-! .. where nothing changes -/
theorem ee_and {a b : Expr} {rest : List Expr} {p q : Bool} (ha : EE X a sg M (.bl p)) (hb : p = true → EE X (.BoolOp .And (b :: rest) pos) sg M (.bl q)) : EE X (.BoolOp .And (a :: b :: rest) pos) sg M (.bl (p && q)) := we_and (ha.imp fun x M1 ⟨e1, e2⟩ => by
  subst e1; subst e2
  refine ⟨p, rfl, fun e => by rw [e]; exact ⟨rfl, rfl⟩, fun e => ?_⟩
  rw [e, Bool.true_and]
  exact hb e)
theorem ee_or {a b : Expr} {rest : List Expr} {p q : Bool} (ha : EE X a sg M (.bl p)) (hb : p = false → EE X (.BoolOp .Or (b :: rest) pos) sg M (.bl q)) : EE X (.BoolOp .Or (a :: b :: rest) pos) sg M (.bl (p || q)) := we_or (ha.imp fun x M1 ⟨e1, e2⟩ => by
  subst e1; subst e2
  refine ⟨p, rfl, fun e => by rw [e]; exact ⟨rfl, rfl⟩, fun e => ?_⟩
  rw [e, Bool.false_or]
  exact hb e)
theorem ee_not {a : Expr} {p : Bool} (ha : EE X a sg M (.bl p)) : EE X (.UnaryOp .Not a pos) sg M (.bl (!p)) := we_not (ha.imp fun x M1 ⟨e1, e2⟩ => by
  subst e1; subst e2
  exact ⟨p, rfl, rfl, rfl⟩)
theorem ee_if {c a b : Expr} {k : Bool} {x : D} (hc : ET X c sg M k) (ha : k = true → EE X a sg M x) (hb : k = false → EE X b sg M x) : EE X (.IfExp c a b pos) sg M x := we_if (hc.imp fun b M1 ⟨e1, e2⟩ => by
  subst e1; subst e2
  exact ⟨ha, hb⟩)
theorem et_val {e : Expr} {k : Bool} (h : EE X e sg M (.bl k)) (he : ∀ whole, isTrue e X.env whole = (do let v ← whole; standAt e.pos; holding [v] (truthy v)) := by intro _; rfl) : ET X e sg M k := wt_val (h.imp fun x M1 ⟨e1, e2⟩ => ⟨k, e1, rfl, e2⟩) he
theorem et_not {e : Expr} {k : Bool} (h : ET X e sg M k) : ET X (.UnaryOp .Not e pos) sg M (!k) := wt_not (h.imp fun x M1 ⟨e1, e2⟩ => ⟨by rw [e1], e2⟩)
abbrev EW (X : Cx) (e : Expr) (sg : Sg) (M : Mem) (b : Bool) : Prop := WW X e sg M fun x M' => x = b ∧ M' = M
theorem ew_and {a b : Expr} {rest : List Expr} {p q : Bool} (ha : ET X a sg M p) (hb : p = true → EW X (.BoolOp .And (b :: rest) pos) sg M q) : EW X (.BoolOp .And (a :: b :: rest) pos) sg M (p && q) := ww_and (ha.imp fun x M1 ⟨e1, e2⟩ => by
  subst e1; subst e2
  refine ⟨fun e => by rw [e]; exact ⟨rfl, rfl⟩, fun e => ?_⟩
  rw [e, Bool.true_and]
  exact hb e)
theorem ew_or {a b : Expr} {rest : List Expr} {p q : Bool} (ha : ET X a sg M p) (hb : p = false → EW X (.BoolOp .Or (b :: rest) pos) sg M q) : EW X (.BoolOp .Or (a :: b :: rest) pos) sg M (p || q) := ww_or (ha.imp fun x M1 ⟨e1, e2⟩ => by
  subst e1; subst e2
  refine ⟨fun e => by rw [e]; exact ⟨rfl, rfl⟩, fun e => ?_⟩
  rw [e, Bool.false_or]
  exact hb e)
end
end DL
set_option Elab.async false
set_option linter.all false
set_option maxRecDepth 100000
set_option maxHeartbeats 4000000
/-! DLc: displays, subscripts, calls, statements, loops, comprehensions over data. -/
namespace DL
open PySem L2
section
variable {X : Cx} {sg : Sg} {M : Mem} {Q : D → Mem → Prop} {Qb : Bool → Mem → Prop} {Ql : List D → Mem → Prop} {pos : Pos} {K : PySem.W.Frag}

/-! ### arguments, displays -/
theorem wa_nil (q : Ql [] M) : WA X [] sg M Ql := WA.of pa_nil fun σ H G w s => ⟨[], G, M, Stp.refl, w, .nil, q⟩
theorem wa_cons {e : Expr} {es : List Expr} (h : WE X e sg M fun x M1 => WA X es sg M1 fun xs M2 => Ql (x :: xs) M2) (hs : starEach (e :: es) X.env = (false, eval e X.env) :: starEach es X.env := by exact star1 rfl) : WA X (e :: es) sg M Ql := WA.of (pa_cons pe_w pa_w hs) fun σ H G w s =>
  (h σ H G w s).imp fun v H1 ⟨x, G1, M1, st, w1, r1, q1⟩ => (q1 σ H1 G1 w1 (s.mono (st.gx w))).imp fun vs H2 ⟨xs, G2, M2, st2, w2, r2, q2⟩ => ⟨x :: xs, G2, M2, st.trans st2, w2, .cons (r1.mono (st2.gx w1)) r2, q2⟩
theorem ea_cons {e : Expr} {es : List Expr} {x : D} {xs : List D} (h : EE X e sg M x) (hr : EA X es sg M xs) (hs : starEach (e :: es) X.env = (false, eval e X.env) :: starEach es X.env := by exact star1 rfl) : EA X (e :: es) sg M (x :: xs) := wa_cons (h.imp fun y M1 ⟨e1, e2⟩ => by
  subst e1; subst e2
  exact hr.imp fun ys M2 ⟨e1, e2⟩ => by subst e1; subst e2; exact ⟨rfl, rfl⟩) hs
theorem ea_nil : EA X [] sg M [] := wa_nil ⟨rfl, rfl⟩
theorem we_tup {es : List Expr} {k : Nat} (h : WA X es sg M fun ds M1 => ds.length ≤ sizeLine ∧ Q (.tup ds) M1) : WE X (.Tuple es k pos) sg M Q := WE.of (pe_tup pa_w) fun σ H G w s =>
  (h σ H G w s).imp fun vs H1 ⟨ds, G1, M1, st, w1, r1, z, q1⟩ => ⟨by rw [r1.length]; exact z, fun p hp => (new_tup w1 hp r1 q1).base st⟩
theorem we_lst {es : List Expr} (h : WA X es sg M fun ds M1 => ds.length ≤ sizeLine ∧ Q (.lst ds) M1) : WE X (.List es pos) sg M Q := WE.of (pe_lst pa_w) fun σ H G w s =>
  (h σ H G w s).imp fun vs H1 ⟨ds, G1, M1, st, w1, r1, z, q1⟩ => ⟨by rw [r1.length]; exact z, fun p hp => (new_lst w1 hp r1 q1).base st⟩
theorem we_lstM {es : List Expr} (h : WA X es sg M fun ds M1 => ds.length ≤ sizeLine ∧ ∀ p, M1 p = none → Q (.ptr p) (updM M1 p (some (.lst ds)))) : WE X (.List es pos) sg M Q := WE.of (pe_lst pa_w) fun σ H G w s =>
  (h σ H G w s).imp fun vs H1 ⟨ds, G1, M1, st, w1, r1, z, q1⟩ => ⟨by rw [r1.length]; exact z, fun p hp => (new_lstM w1 hp r1 q1).base st⟩
theorem small30 {n : Nat} (h : n ≤ 1000 := by exact Nat.le_of_ble_eq_true rfl) : n ≤ sizeLine := Nat.le_trans h (by decide)
theorem ee_tup {es : List Expr} {k : Nat} {ds : List D} (h : EA X es sg M ds) (hz : ds.length ≤ sizeLine := by exact small30) : EE X (.Tuple es k pos) sg M (.tup ds) := we_tup (h.imp fun x M1 ⟨e1, e2⟩ => ⟨by rw [e1]; exact hz, by rw [e1], e2⟩)
theorem ee_lst {es : List Expr} {ds : List D} (h : EA X es sg M ds) (hz : ds.length ≤ sizeLine := by exact small30) : EE X (.List es pos) sg M (.lst ds) := we_lst (h.imp fun x M1 ⟨e1, e2⟩ => ⟨by rw [e1]; exact hz, by rw [e1], e2⟩)

/-! ### subscripts -/
theorem we_ix {a b : Expr} {r : R2} {Qa : D → Mem → Prop} (hr : IxR X r) (ha : WE X a sg M Qa) (hb : ∀ x M1, Qa x M1 → WE X b sg M1 fun y M2 => OpD X.K r x y M2 Q) (hp : PlainIx b := by exact fun _ _ => rfl) : WE X (.Subscript a b pos) sg M Q := WE.of (pe_ix hr pe_w pe_w hp) fun σ H G w s => two ha hb w s
theorem ee_ix {a b : Expr} {r : R2} {x y : D} (hr : IxR X r) (ha : EE X a sg M x) (hb : EE X b sg M y) (ho : OpD X.K r x y M Q) (hp : PlainIx b := by exact fun _ _ => rfl) : WE X (.Subscript a b pos) sg M Q := we_ix hr ha (fun x' M1 ⟨e1, e2⟩ => by
  subst e1; subst e2
  exact hb.imp fun y' M2 ⟨e1, e2⟩ => by subst e1; subst e2; exact ho) hp
theorem at_rp {G : Hp} {vs : List V} {ds : List D} {i : Int} {d : D} (r : RpA K G vs ds) (h : atI ds i = some d) : ∃ v, atI vs i = some v ∧ Rp K G v d := by
  unfold atI at h ⊢
  rw [r.length]
  cases e : ixN ds.length i with
  | none => rw [e] at h; cases h
  | some j =>
    rw [e] at h
    exact r.get h
theorem od_ixT {ds : List D} {i : Int} {d : D} (h : atI ds i = some d) (q : Q d M) : OpD K (rIxT K) (.tup ds) (.int i) M Q := fun G H v u R w rx ry k => by
  cases ry
  cases rx with
  | tup h1 r1 =>
    obtain ⟨z, h2, h3⟩ := at_rp r1 h
    exact ⟨_, _, _, _, rfl, rfl, w.sub.st h1, h2, k _ _ (PV.here w h3 q)⟩
theorem od_ixL {x : D} {ds : List D} {i : Int} {d : D} (hx : LsD M x ds) (h : atI ds i = some d) (q : Q d M) : OpD K (rIxL K) x (.int i) M Q := fun G H v u R w rx ry k => by
  cases ry
  obtain ⟨a, xs, rfl, h1, r1⟩ := hx.at w rx
  obtain ⟨z, h2, h3⟩ := at_rp r1 h
  exact ⟨_, _, _, _, rfl, rfl, SqL.of h1, h2, k _ _ (PV.here w h3 q)⟩
theorem od_ixS {z : Str} {i : Int} {c : Nat} (hz : z.length ≤ sizeLine) (h : atI z.cps.toList i = some c) (q : Q (.str ⟨#[c]⟩) M) : OpD K rIxS (.str z) (.int i) M Q := fun G H v u R w rx ry k => by
  cases rx; cases ry
  exact ⟨_, _, _, rfl, rfl, hz, h, k _ _ (PV.here w (.str _) q)⟩
/-- a slice's bounds -/
def tWO (X : Cx) (e : Option Expr) : TO := fun σ H R => ∀ (t : TO), PO X e t → True → R none H
def WO (X : Cx) (e : Option Expr) (sg : Sg) (M : Mem) (Qo : Option Int → Mem → Prop) : Prop := match e with
  | none => Qo none M
  | some e => WE X e sg M fun x M1 => ∃ i, x = .int i ∧ Qo (some i) M1
def tO (X : Cx) : Option Expr → TO
  | none => tNoPart
  | some e => tPart (tW X e)
theorem po_w {e : Option Expr} : PO X e (tO X e) := by
  cases e with
  | none => exact po_none
  | some e => exact po_some pe_w
theorem WO.run {e : Option Expr} {Qo : Option Int → Mem → Prop} (h : WO X e sg M Qo) {σ : L2.St} {H G : Hp} {R : Option Int → Hp → Prop} (w : Wd X.K G M H) (s : SRp X.K G sg σ) (k : ∀ o G1 M1 H1, Stp G M H G1 M1 H1 → Wd X.K G1 M1 H1 → Qo o M1 → R o H1) : tO X e σ H R := by
  cases e with
  | none => exact k none G M H Stp.refl w h
  | some e =>
    refine (h σ H G w s).imp fun v H1 ⟨x, G1, M1, st, w1, r1, i, e1, q⟩ => ?_
    subst e1
    cases r1
    exact ⟨i, rfl, k _ _ _ _ st w1 q⟩
def SlD (K : PySem.W.Frag) (r : V → Option Int → Option Int → Hp → VK → Prop) (x : D) (lo hi : Option Int) (M : Mem) (Q : D → Mem → Prop) : Prop := ∀ (G H : Hp) (v : V) (R : VK), Wd K G M H → Rp K G v x → (∀ z H', PV K G M H Q z H' → R z H') → r v lo hi H R
theorem we_sl {a : Expr} {lo hi : Option Expr} {p2 : Pos} {r : V → Option Int → Option Int → Hp → VK → Prop} (hr : SlR X r) (h : WE X a sg M fun x M1 => WO X lo sg M1 fun l M2 => WO X hi sg M2 fun u M3 => SlD X.K r x l u M3 Q) : WE X (.Subscript a (.Slice lo hi none p2) pos) sg M Q := WE.of (pe_slice hr pe_w po_w po_w) fun σ H G w s =>
  (h σ H G w s).imp fun v H1 ⟨x, G1, M1, st, w1, r1, q1⟩ => q1.run w1 (s.mono (st.gx w)) fun l G2 M2 H2 st2 w2 q2 => q2.run w2 (s.mono ((st.trans st2).gx w)) fun u G3 M3 H3 st3 w3 q3 => q3 G3 H3 v _ w3 (r1.mono ((st2.trans st3).gx w1)) fun z H' p => p.base ((st.trans st2).trans st3)
abbrev EO (X : Cx) (e : Option Expr) (sg : Sg) (M : Mem) (o : Option Int) : Prop := WO X e sg M fun x M' => x = o ∧ M' = M
theorem eo_none : EO X none sg M none := ⟨rfl, rfl⟩
theorem eo_some {e : Expr} {i : Int} (h : EE X e sg M (.int i)) : EO X (some e) sg M (some i) := h.imp fun x M1 ⟨e1, e2⟩ => ⟨i, e1, rfl, e2⟩
theorem WO.imp {e : Option Expr} {Qo Qo' : Option Int → Mem → Prop} (h : WO X e sg M Qo) (k : ∀ o M', Qo o M' → Qo' o M') : WO X e sg M Qo' := by
  cases e with
  | none => exact k _ _ h
  | some e => exact WE.imp h fun x M1 ⟨i, e1, q⟩ => ⟨i, e1, k _ _ q⟩
theorem ee_sl {a : Expr} {lo hi : Option Expr} {p2 : Pos} {r : V → Option Int → Option Int → Hp → VK → Prop} {x : D} {l u : Option Int} (hr : SlR X r) (h : EE X a sg M x) (h1 : EO X lo sg M l) (h2 : EO X hi sg M u) (k : SlD X.K r x l u M Q) : WE X (.Subscript a (.Slice lo hi none p2) pos) sg M Q := we_sl hr (h.imp fun y M1 ⟨e1, e2⟩ => by
  subst e1; subst e2
  exact WO.imp h1 fun o M2 ⟨e1, e2⟩ => by
    subst e1; subst e2
    exact WO.imp h2 fun o M3 ⟨e1, e2⟩ => by subst e1; subst e2; exact k)
def cutD {α : Type} (xs : List α) (lo hi : Option Int) : List α := (xs.drop (HT.sIx xs.length 0 lo)).take (HT.sIx xs.length xs.length hi - HT.sIx xs.length 0 lo)
theorem cut_rp {G : Hp} {vs : List V} {ds : List D} (r : RpA K G vs ds) (lo hi : Option Int) : RpA K G (cutV vs lo hi) (cutD ds lo hi) := by
  unfold cutV cutD
  rw [r.length]
  exact (r.drop _).take _
theorem sd_tup {ds : List D} {lo hi : Option Int} (q : Q (.tup (cutD ds lo hi)) M) : SlD K (rSlA K) (.tup ds) lo hi M Q := fun G H v R w rx k => by
  cases rx with
  | @tup a xs _ h1 r1 =>
    refine ⟨a, xs, rfl, w.sub.st h1, fun e => ?_, fun _ p hp => k _ _ (new_tup w hp (cut_rp r1 lo hi) q)⟩
    have e2 : cutD ds lo hi = ds := by
      unfold cutD
      rw [← r1.length, e.1, e.2, List.drop_zero, Nat.sub_zero, r1.length, List.take_length]
    rw [e2] at q
    exact k _ _ (PV.here w (.tup h1 r1) q)
theorem sd_lst {x : D} {ds : List D} {lo hi : Option Int} (hx : LsD M x ds) (q : Q (.lst (cutD ds lo hi)) M) : SlD K (rSlL K) x lo hi M Q := fun G H v R w rx k => by
  obtain ⟨a, xs, rfl, h1, r1⟩ := hx.at w rx
  exact ⟨a, xs, rfl, SqL.of h1, fun p hp => k _ _ (new_lst w hp (cut_rp r1 lo hi) q)⟩
theorem cut_map (f : Int → V) (ns : List Int) (lo hi : Option Int) : cutV (ns.map f) lo hi = (cutD ns lo hi).map f := by
  unfold cutV cutD
  rw [List.length_map, List.map_take, List.map_drop]
theorem sd_scr {ns : List Int} {lo hi : Option Int} (q : Q (.lst ((cutD ns lo hi).map .int)) M) : SlD K (rSlL K) (.scr ns) lo hi M Q := fun G H v R w rx k => by
  cases rx with
  | @scr a _ h1 =>
    refine ⟨a, _, rfl, w.sub.sl h1, fun p hp => ?_⟩
    rw [cut_map]
    exact k _ _ (new_lst w hp (rpa_ints _) q)

/-! ### calls of built-ins -/
def ClD (K : PySem.W.Frag) (r : List V → Hp → VK → Prop) (xs : List D) (M : Mem) (Q : D → Mem → Prop) : Prop := ∀ (G H : Hp) (vs : List V) (R : VK), Wd K G M H → RpA K G vs xs → (∀ z H', PV K G M H Q z H' → R z H') → r vs H R
theorem we_cb {id : String} {r : List V → Hp → VK → Prop} {x : Str} {p : Pos} {e : Expr} {es : List Expr} (hc : CallR X (.builtin id) r) (hm : X.mg x = none) (hv : bootBuiltins x = some (.builtin id)) (h : WA X (e :: es) sg M fun ds M1 => ClD X.K r ds M1 Q) (hg : Gl X x := by rfl) (hn : x ≠ "__name__" := by decide) (hdb : (x == ("__debug__" : Str)) = false := by decide)
    (he : starEach (e :: es) X.env = (false, eval e X.env) :: starEach es X.env := by exact star1 rfl) (hpl : (backTo pos (starEach es X.env)).any (·.1) = false := by exact starN rfl) : WE X (.Call (.Name x p) (e :: es) [] pos) sg M Q := WE.of (pe_callB hc hg hm hv pa_w hn hdb he hpl) fun σ H G w s =>
  (h σ H G w s).imp fun vs H1 ⟨xs, G1, M1, st, w1, r1, q1⟩ => q1 G1 H1 vs _ w1 r1 fun z H' p => p.base st
theorem we_ct {T : String} {r : List V → Hp → VK → Prop} {x : Str} {p : Pos} {e : Expr} {es : List Expr} (hc : CallR X (.type T) r) (hm : X.mg x = none) (hv : bootBuiltins x = some (.type T)) (h : WA X (e :: es) sg M fun ds M1 => ClD X.K r ds M1 Q) (hg : Gl X x := by rfl) (hn : x ≠ "__name__" := by decide) (hdb : (x == ("__debug__" : Str)) = false := by decide)
    (he : starEach (e :: es) X.env = (false, eval e X.env) :: starEach es X.env := by exact star1 rfl) (hpl : (backTo pos (starEach es X.env)).any (·.1) = false := by exact starN rfl) : WE X (.Call (.Name x p) (e :: es) [] pos) sg M Q := WE.of (pe_callTy hc hg hm hv pa_w hn hdb he hpl) fun σ H G w s =>
  (h σ H G w s).imp fun vs H1 ⟨xs, G1, M1, st, w1, r1, q1⟩ => q1 G1 H1 vs _ w1 r1 fun z H' p => p.base st
theorem RpA.one {G : Hp} {vs : List V} {d : D} (r : RpA K G vs [d]) : ∃ v, vs = [v] ∧ Rp K G v d := by
  cases r with
  | cons h t => cases t; exact ⟨_, rfl, h⟩
theorem RpA.two {G : Hp} {vs : List V} {d e : D} (r : RpA K G vs [d, e]) : ∃ v u, vs = [v, u] ∧ Rp K G v d ∧ Rp K G u e := by
  cases r with
  | cons h t => obtain ⟨u, rfl, h2⟩ := t.one; exact ⟨_, _, rfl, h, h2⟩
theorem cd_len {x : D} {n : Nat} {ds' : List D} (h : x = .tup ds' ∧ ds'.length = n ∨ LsD M x ds' ∧ ds'.length = n) (q : Q (.int n) M) : ClD K (fun xs H Q => ∃ x n, xs = [x] ∧ LenV K x H n ∧ Q (.int n) H) [x] M Q := fun G H vs R w r k => by
  obtain ⟨v, rfl, rv⟩ := r.one
  rcases h with ⟨rfl, rfl⟩ | ⟨l, rfl⟩
  · cases rv with
    | tup h1 r1 =>
      rw [← r1.length] at q
      exact ⟨_, _, rfl, .inr ⟨_, w.sub.st h1, rfl⟩, k _ _ (PV.here w (.int _) q)⟩
  · obtain ⟨a, xs, rfl, h1, r1⟩ := l.at w rv
    rw [← r1.length] at q
    exact ⟨_, _, rfl, .inl ⟨_, SqL.of h1, rfl⟩, k _ _ (PV.here w (.int _) q)⟩
theorem cd_lenT {ds : List D} (q : Q (.int ds.length) M) : ClD K (fun xs H Q => ∃ x n, xs = [x] ∧ LenV K x H n ∧ Q (.int n) H) [.tup ds] M Q := cd_len (.inl ⟨rfl, rfl⟩) q
theorem cd_lenL {x : D} {ds : List D} (h : LsD M x ds) (q : Q (.int ds.length) M) : ClD K (fun xs H Q => ∃ x n, xs = [x] ∧ LenV K x H n ∧ Q (.int n) H) [x] M Q := cd_len (.inr ⟨h, rfl⟩) q
theorem cd_lenC {ns : List Int} (q : Q (.int ns.length) M) : ClD K (fun xs H Q => ∃ x n, xs = [x] ∧ LenV K x H n ∧ Q (.int n) H) [.scr ns] M Q := fun G H vs R w r k => by
  obtain ⟨v, rfl, rv⟩ := r.one
  cases rv with
  | scr h1 => exact ⟨_, _, rfl, .inl ⟨_, w.sub.sl h1, by rw [List.length_map]⟩, k _ _ (PV.here w (.int _) q)⟩
theorem cd_lenS {z : Str} (hz : z.length ≤ sizeLine) (q : Q (.int z.length) M) : ClD K (fun xs H Q => ∃ x n, xs = [x] ∧ LenV K x H n ∧ Q (.int n) H) [.str z] M Q := fun G H vs R w r k => by
  obtain ⟨v, rfl, rv⟩ := r.one
  cases rv
  exact ⟨_, _, rfl, ⟨hz, rfl⟩, k _ _ (PV.here w (.int _) q)⟩
theorem LsD.bls {x : D} {bs : List Bool} {v : V} {G H : Hp} (h : LsD M x (bs.map .bl)) (w : Wd K G M H) (r : Rp K G v x) : ∃ a, v = .ref a ∧ SqL K H a (bs.map V.bl) := by
  obtain ⟨a, xs, rfl, h1, r1⟩ := h.at w r
  rw [r1.bls] at h1
  exact ⟨a, rfl, SqL.of h1⟩
theorem LsD.ints {x : D} {ns : List Int} {v : V} {G H : Hp} (h : LsD M x (ns.map .int)) (w : Wd K G M H) (r : Rp K G v x) : ∃ a, v = .ref a ∧ SqL K H a (ns.map V.int) := by
  obtain ⟨a, xs, rfl, h1, r1⟩ := h.at w r
  rw [r1.ints] at h1
  exact ⟨a, rfl, SqL.of h1⟩
theorem cd_all {x : D} {bs : List Bool} (h : LsD M x (bs.map .bl)) (q : Q (.bl (bs.all id)) M) : ClD K (rAll K) [x] M Q := fun G H vs R w r k => by
  obtain ⟨v, rfl, rv⟩ := r.one
  obtain ⟨a, rfl, e⟩ := h.bls w rv
  exact ⟨a, bs, rfl, e, k _ _ (PV.here w (.bl _) q)⟩
theorem cd_any {x : D} {bs : List Bool} (h : LsD M x (bs.map .bl)) (q : Q (.bl (bs.any id)) M) : ClD K (rAny K) [x] M Q := fun G H vs R w r k => by
  obtain ⟨v, rfl, rv⟩ := r.one
  obtain ⟨a, rfl, e⟩ := h.bls w rv
  exact ⟨a, bs, rfl, e, k _ _ (PV.here w (.bl _) q)⟩
theorem cd_sum {x : D} {ns : List Int} (h : LsD M x (ns.map .int)) (q : Q (.int ns.sum) M) : ClD K (rSum K) [x] M Q := fun G H vs R w r k => by
  obtain ⟨v, rfl, rv⟩ := r.one
  obtain ⟨a, rfl, e⟩ := h.ints w rv
  exact ⟨a, ns, rfl, e, k _ _ (PV.here w (.int _) q)⟩
theorem cd_max {x : D} {ns : List Int} (h : LsD M x (ns.map .int)) (hl : 0 < ns.length) (q : ∀ m, m ∈ ns → (∀ y, y ∈ ns → y ≤ m) → Q (.int m) M) : ClD K (rMax K) [x] M Q := fun G H vs R w r k => by
  obtain ⟨v, rfl, rv⟩ := r.one
  obtain ⟨a, rfl, e⟩ := h.ints w rv
  exact ⟨a, ns, rfl, e, hl, fun m h1 h2 => k _ _ (PV.here w (.int _) (q m h1 h2))⟩
theorem cd_min {x : D} {ns : List Int} (h : LsD M x (ns.map .int)) (hl : 0 < ns.length) (q : ∀ m, m ∈ ns → (∀ y, y ∈ ns → m ≤ y) → Q (.int m) M) : ClD K (rMin K) [x] M Q := fun G H vs R w r k => by
  obtain ⟨v, rfl, rv⟩ := r.one
  obtain ⟨a, rfl, e⟩ := h.ints w rv
  exact ⟨a, ns, rfl, e, hl, fun m h1 h2 => k _ _ (PV.here w (.int _) (q m h1 h2))⟩
theorem cd_max2 {i j : Int} (q : Q (.int (if j > i then j else i)) M) : ClD K (fun xs H Q => ∃ i j, xs = [.int i, .int j] ∧ Q (.int (if j > i then j else i)) H) [.int i, .int j] M Q := fun G H vs R w r k => by
  obtain ⟨v, u, rfl, rv, ru⟩ := r.two
  cases rv; cases ru
  exact ⟨i, j, rfl, k _ _ (PV.here w (.int _) q)⟩
theorem cd_min2 {i j : Int} (q : Q (.int (if j < i then j else i)) M) : ClD K (fun xs H Q => ∃ i j, xs = [.int i, .int j] ∧ Q (.int (if j < i then j else i)) H) [.int i, .int j] M Q := fun G H vs R w r k => by
  obtain ⟨v, u, rfl, rv, ru⟩ := r.two
  cases rv; cases ru
  exact ⟨i, j, rfl, k _ _ (PV.here w (.int _) q)⟩
theorem cd_int {i : Int} (q : Q (.int i) M) : ClD K (fun xs H Q => (∃ i, xs = [.int i] ∧ Q (.int i) H) ∨ ∃ k, xs = [.bl k] ∧ Q (.int (if k then 1 else 0)) H) [.int i] M Q := fun G H vs R w r k => by
  obtain ⟨v, rfl, rv⟩ := r.one
  cases rv
  exact .inl ⟨i, rfl, k _ _ (PV.here w (.int _) q)⟩
theorem cd_tupT {ds : List D} (q : Q (.tup ds) M) : ClD K (fun xs H Q => ∃ p ys, xs = [.ref p] ∧ ((SqL K H p ys ∧ ∀ l, H l = none → Q (.ref l) (upd H l (.tup ys))) ∨ (SqT K H p ys ∧ Q (.ref p) H))) [.tup ds] M Q := fun G H vs R w r k => by
  obtain ⟨v, rfl, rv⟩ := r.one
  cases rv with
  | tup h1 r1 => exact ⟨_, _, rfl, .inr ⟨w.sub.st h1, k _ _ (PV.here w (.tup h1 r1) q)⟩⟩
theorem cd_tupL {x : D} {ds : List D} (h : LsD M x ds) (q : Q (.tup ds) M) : ClD K (fun xs H Q => ∃ p ys, xs = [.ref p] ∧ ((SqL K H p ys ∧ ∀ l, H l = none → Q (.ref l) (upd H l (.tup ys))) ∨ (SqT K H p ys ∧ Q (.ref p) H))) [x] M Q := fun G H vs R w r k => by
  obtain ⟨v, rfl, rv⟩ := r.one
  obtain ⟨a, xs, rfl, h1, r1⟩ := h.at w rv
  exact ⟨_, _, rfl, .inl ⟨SqL.of h1, fun p hp => k _ _ (new_tup w hp r1 q)⟩⟩
def rList (K : PySem.W.Frag) : List V → Hp → VK → Prop := fun xs H Q => ∃ p ys, xs = [.ref p] ∧ (SqL K H p ys ∨ SqT K H p ys) ∧ ∀ l, H l = none → Q (.ref l) (upd H l (.lst ys))
theorem seq_of {x : D} {ds : List D} {v : V} {G H : Hp} (h : x = .tup ds ∨ LsD M x ds) (w : Wd K G M H) (r : Rp K G v x) : ∃ p ys, v = .ref p ∧ (SqL K H p ys ∨ SqT K H p ys) ∧ RpA K G ys ds := by
  rcases h with rfl | h
  · cases r with
    | tup h1 r1 => exact ⟨_, _, rfl, .inr (w.sub.st h1), r1⟩
  · obtain ⟨a, xs, rfl, h1, r1⟩ := h.at w r
    exact ⟨_, _, rfl, .inl (SqL.of h1), r1⟩
theorem cd_lst {x : D} {ds : List D} (h : x = .tup ds ∨ LsD M x ds) (q : Q (.lst ds) M) : ClD K (rList K) [x] M Q := fun G H vs R w r k => by
  obtain ⟨v, rfl, rv⟩ := r.one
  obtain ⟨p, ys, rfl, e, r1⟩ := seq_of h w rv
  exact ⟨p, ys, rfl, e, fun l hl => k _ _ (new_lst w hl r1 q)⟩
theorem cd_lstM {x : D} {ds : List D} (h : x = .tup ds ∨ LsD M x ds) (q : ∀ p, M p = none → Q (.ptr p) (updM M p (some (.lst ds)))) : ClD K (rList K) [x] M Q := fun G H vs R w r k => by
  obtain ⟨v, rfl, rv⟩ := r.one
  obtain ⟨p, ys, rfl, e, r1⟩ := seq_of h w rv
  exact ⟨p, ys, rfl, e, fun l hl => k _ _ (new_lstM w hl r1 q)⟩

/-! ### isinstance -/
def tyD : D → String
  | .non => "NoneType"
  | .bl _ => "bool"
  | .int _ => "int"
  | .str _ => "str"
  | .tup _ => "tuple"
  | .lst _ => "list"
  | .ptr _ => "list"
  | .scr _ => "list"
/-- not an object of an own class -/
def LkD (M : Mem) : D → Prop
  | .ptr p => ∃ ds, M p = some (.lst ds)
  | _ => True
theorem ty_of {x : D} {v : V} {G H : Hp} (h : LkD M x) (w : Wd K G M H) (r : Rp K G v x) : TyX K H v (.type (tyD x)) := by
  cases r with
  | non => exact .base .non
  | bl b => exact .base (.bl b)
  | int i => exact .base (.int i)
  | str x => exact .base (.str x)
  | tup h1 r1 =>
    rcases w.sub.st h1 with (h2 | ⟨o, h2⟩) | ⟨o, its, n, h2, h3, _⟩
    · exact .base (.tup h2)
    · exact .fTuple h2
    · exact .kTuple h2 h3
  | lst h1 r1 => exact .base (.lst (w.sub _ _ h1))
  | ptr a =>
    obtain ⟨ds, e⟩ := h
    obtain ⟨_, xs, h1, _⟩ := w.mem _ _ e
    exact .base (.lst h1)
  | scr h1 =>
    rcases w.sub.sl h1 with (h2 | ⟨o, h2⟩) | ⟨o, its, n, h2, h3, _⟩
    · exact .base (.lst h2)
    · exact .base (.frz h2)
    · exact .kList h2 h3
/-- isinstance(e, T), T a built-in type -/
theorem we_isi {e : Expr} {T : String} {y : Str} {p p2 : Pos} (hm : X.mg "isinstance" = none) (hmT : X.mg y = none) (hv : bootBuiltins y = some (.type T)) (h : WE X e sg M fun x M1 => LkD M1 x ∧ ∃ b, kitB (tyD x) T = some b ∧ Q (.bl b) M1) (hg : Gl X "isinstance" := by rfl) (hgT : Gl X y := by rfl) (hn : y ≠ "__name__" := by decide) (hdb : (y == ("__debug__" : Str)) = false := by decide)
    (hs : starEach [e, .Name y p2] X.env = (false, eval e X.env) :: starEach [.Name y p2] X.env := by exact star1 rfl) (hs2 : starEach [.Name y p2] X.env = (false, eval (.Name y p2) X.env) :: starEach [] X.env := by exact star1 rfl) (hpl : (backTo pos (starEach [.Name y p2] X.env)).any (·.1) = false := by exact starN rfl) : WE X (.Call (.Name "isinstance" p) [e, .Name y p2] [] pos) sg M Q :=
  WE.of (pe_callB call_isi hg hm (by decide +kernel) (pa_cons pe_w (pa_cons (pe_bltn (v := .ty T) hgT hmT hv rfl hn hdb) pa_nil hs2) hs) (by decide) (by decide) hs hpl) fun σ H G w s =>
    (h σ H G w s).imp fun v H1 ⟨x, G1, M1, st, w1, r1, lk, b, e1, q1⟩ => ⟨v, .ty T, .type (tyD x), .type T, b, rfl, .ty T, ty_of lk w1 r1, kit_ty e1, (PV.here w1 (.bl b) q1).base st⟩
end
end DL
set_option Elab.async false
set_option linter.all false
set_option maxRecDepth 100000
set_option maxHeartbeats 4000000
/-! DLd: statements, loops, comprehensions, defs over data. -/
namespace DL
open PySem L2
section
variable {X : Cx} {sg : Sg} {M : Mem} {E : EndsD} {Q : D → Mem → Prop} {pos : Pos} {K : PySem.W.Frag}
/-! ### blocks and small statements -/
theorem wss_nil (q : E.nx sg M) : WSs X [] sg M E := WSs.of pss_nil fun σ H G w s => ⟨sg, G, M, Stp.refl, w, s, q⟩
theorem wss_cons {st : Stmt} {rest : List Stmt} (h : WS X st sg M { E with nx := fun sg' M' => WSs X rest sg' M' E }) : WSs X (st :: rest) sg M E := WSs.of (pss_cons ps_w pss_w) fun σ H G w s =>
  (h σ H G w s).imp (fun σ' H' ⟨sg', G1, M1, st1, w1, s1, q⟩ => toE_base st1 (q σ' H' G1 w1 s1)) (fun _ _ q => q) (fun _ _ q => q) (fun _ _ q => q)
theorem wss_one {st : Stmt} (h : WS X st sg M E) : WSs X [st] sg M E := WSs.of (pss_one ps_w) fun σ H G w s => h σ H G w s
theorem ws_pass (q : E.nx sg M) : WS X (.Pass pos) sg M E := WS.of ps_pass fun σ H G w s => ⟨sg, G, M, Stp.refl, w, s, q⟩
theorem ws_break (q : E.bk sg M) : WS X (.Break pos) sg M E := WS.of ps_break fun σ H G w s => ⟨sg, G, M, Stp.refl, w, s, q⟩
theorem ws_cont (q : E.ct sg M) : WS X (.Continue pos) sg M E := WS.of ps_continue fun σ H G w s => ⟨sg, G, M, Stp.refl, w, s, q⟩
theorem ws_expr {e : Expr} (h : WE X e sg M fun _ M1 => E.nx sg M1) (hs : swapsWith e none pos.line X.env = pure false := by rfl) : WS X (.Expr e pos) sg M E := WS.of (ps_expr pe_w hs) fun σ H G w s =>
  (h σ H G w s).imp fun v H1 ⟨d, G1, M1, st, w1, r1, q⟩ => ⟨sg, G1, M1, st, w1, s.mono (st.gx w), q⟩
theorem ws_doc {x : Str} {j : Nat} {pos' : Pos} (q : E.nx sg M) : WS X (.Expr (.Constant (.str x) j pos) pos') sg M E := WS.of ps_doc fun σ H G w s => ⟨sg, G, M, Stp.refl, w, s, q⟩
theorem ws_ret {e : Expr} (h : WE X e sg M E.rt) : WS X (.Return (some e) pos) sg M E := WS.of (ps_ret pe_w) fun σ H G w s => h σ H G w s
theorem ws_retN (q : E.rt .non M) : WS X (.Return none pos) sg M E := WS.of ps_retN fun σ H G w s => PV.here w .non q
theorem ws_if {c : Expr} {a b : List Stmt} (h : WT X c sg M fun k M1 => (k = true → WSs X a sg M1 E) ∧ (k = false → WSs X b sg M1 E)) : WS X (.If c a b pos) sg M E := WS.of (ps_if pt_w pss_w pss_w) fun σ H G w s => by
  refine (h σ H G w s).imp fun k H1 ⟨G1, M1, st, w1, q1, q0⟩ => ?_
  cases k with
  | true => exact toE_base st (q1 rfl σ H1 G1 w1 (s.mono (st.gx w)))
  | false => exact toE_base st (q0 rfl σ H1 G1 w1 (s.mono (st.gx w)))
theorem ws_ifE {c : Expr} {a b : List Stmt} {k : Bool} (h : ET X c sg M k) (h1 : k = true → WSs X a sg M E) (h0 : k = false → WSs X b sg M E) : WS X (.If c a b pos) sg M E := ws_if (h.imp fun k' M1 ⟨e1, e2⟩ => by
  subst e1; subst e2
  exact ⟨h1, h0⟩)
theorem ws_set (i : Nat) {x : Str} {e : Expr} {pos' : Pos} (hN : X.N.Nodup) (h : WE X e sg M fun d M1 => E.nx (sg.set i (some d)) M1) (hi : X.N[i]? = some x := by rfl) (hx : Loc X.env.scope x := by first | exact Or.inl rfl | exact Or.inr rfl) (hs : swapsWith e (some (.Name x pos')) pos.line X.env = pure false := by rfl) (hf : X.fn x = true ∨ X.env.scope.names.lookup x = some .local := by first | exact .inl rfl | exact .inr rfl) : WS X (.Assign [.Name x pos'] e pos) sg M E :=
  WS.of (ps_set hN hi hx pe_w hs hf) fun σ H G w s => (h σ H G w s).imp fun v H1 ⟨d, G1, M1, st, w1, r1, q⟩ => ⟨_, G1, M1, st, w1, (s.mono (st.gx w)).set i r1, q⟩
theorem ws_par (i j : Nat) {x y : Str} {a b : Expr} {px py pt : Pos} {kt k2 : Nat} {pt2 : Pos} (hc : X.calm = true) (hN : X.N.Nodup) (h : WA X [a, b] sg M fun ds M1 => ∃ c d, ds = [c, d] ∧ E.nx ((sg.set i (some c)).set j (some d)) M1) (hi : X.N[i]? = some x := by rfl) (hj : X.N[j]? = some y := by rfl) (hij : i ≠ j := by decide)
    (hx : X.env.scope.names.lookup x = some .local := by rfl) (hy : X.env.scope.names.lookup y = some .local := by rfl) (hw : swappedStores [.Tuple [.Name x px, .Name y py] kt pt] (.Tuple [a, b] k2 pt2) X.env = pure (some [x, y]) := by rfl) (hs : swapsWithSole [.Tuple [.Name x px, .Name y py] kt pt] (.Tuple [a, b] k2 pt2) pos.line X.env = pure false := by rfl) : WS X (.Assign [.Tuple [.Name x px, .Name y py] kt pt] (.Tuple [a, b] k2 pt2) pos) sg M E :=
  WS.of (ps_par hc hN hi hj hij hx hy pa_w hw hs) fun σ H G w s => (h σ H G w s).imp fun vs H1 ⟨ds, G1, M1, st, w1, r1, c, d, e, q⟩ => by
    subst e
    obtain ⟨v, u, rfl, rv, ru⟩ := r1.two
    exact ⟨v, u, rfl, _, G1, M1, st, w1, ((s.mono (st.gx w)).set i rv).set j ru, q⟩
theorem ws_aug (i : Nat) {x : Str} {e : Expr} {op : Operator} {f : Int → Int → Int} {pos' : Pos} {a : Int} (hN : X.N.Nodup) (ho : PIp X op (ipI f)) (hv : sg[i]? = some (some (.int a))) (h : WE X e sg M fun d M1 => ∃ b, d = .int b ∧ E.nx (sg.set i (some (.int (f a b)))) M1) (hi : X.N[i]? = some x := by rfl) (hx : Loc X.env.scope x := by first | exact Or.inl rfl | exact Or.inr rfl) (hf : X.fn x = true ∨ X.env.scope.names.lookup x = some .local := by first | exact .inl rfl | exact .inr rfl) : WS X (.AugAssign (.Name x pos') op e pos) sg M E :=
  WS.of (ps_aug hN hi hx pe_w ho hf) fun σ H G w s => by
    obtain ⟨v, e1, rv⟩ := s.at_ i _ hv
    cases rv
    refine ⟨_, e1, (h σ H G w s).imp fun u H1 ⟨d, G1, M1, st, w1, r1, b, e, q⟩ => ?_⟩
    subst e
    cases r1
    exact ⟨a, b, rfl, rfl, _, G1, M1, st, w1, (s.mono (st.gx w)).set i (.int _), q⟩
/-- a list that may change is taken as it stands from now on -/
theorem wss_freeze {i : Nat} {p : Addr} {ds : List D} {sts : List Stmt} (hm : M p = some (.lst ds)) (hi : sg[i]? = some (some (.ptr p))) (h : WSs X sts (sg.set i (some (.lst ds))) (updM M p none) E) : WSs X sts sg M E := fun σ H G w s => by
  obtain ⟨xs, e, r, w1, st, gx⟩ := w.freeze hm
  obtain ⟨v, e1, rv⟩ := s.at_ i _ hi
  cases rv
  have e2 : σ.set i (some (.ref p)) = σ := by
    obtain ⟨h1, h2⟩ := List.getElem?_eq_some_iff.mp e1
    rw [← h2]
    exact List.set_getElem_self h1
  have s1 := (s.mono gx).set i (Rp.lst (K := X.K) (a := p) upd_same (r.mono gx))
  rw [e2] at s1
  exact toE_base st (h σ H _ w1 s1)
/-- names that nobody asks for any more -/
theorem SRp.forget {G : Hp} {sg sg' : Sg} {σ : L2.St} (s : SRp K G sg σ) (hl : sg'.length = sg.length) (h : ∀ (i : Nat) (d : D), sg'[i]? = some (some d) → sg[i]? = some (some d)) : SRp K G sg' σ := ⟨s.len.trans hl.symm, fun i d e => s.at_ i d (h i d e)⟩

/-! ### targets -/
def WG (X : Cx) (tg : Expr) (is : List Nat) (d : D) (sg sg' : Sg) : Prop := ∀ (σ : L2.St) (H G : Hp) (M : Mem) (v : V) (R : L2.St → Hp → Prop), Wd X.K G M H → SRp X.K G sg σ → Rp X.K G v d → (∀ σ', SRp X.K G sg' σ' → σ'.length = σ.length → (∀ j, j ∉ is → σ'[j]? = σ[j]?) → R σ' H) → gW X tg v σ H R
theorem wg_name (i : Nat) {x : Str} {d : D} (hN : X.N.Nodup) (hi : X.N[i]? = some x := by rfl) (hx : Loc X.env.scope x := by first | exact Or.inl rfl | exact Or.inr rfl) (hf : X.fn x = true ∨ X.env.scope.names.lookup x = some .local := by first | exact .inl rfl | exact .inr rfl) : WG X (.Name x pos) [i] d sg (sg.set i (some d)) := fun σ H G M v R w s r k => ⟨fun pins t u I ru =>
  (pg_name hN hi hx hf).run pins t σ H v u _ I ru (k _ (s.set i r) (by simp) fun j hj => List.getElem?_set_ne fun e => hj (by simp [e]))⟩
def WGs (X : Cx) (tgs : List Expr) (is : List Nat) (ds : List D) (sg sg' : Sg) : Prop := ∃ g, PGs X tgs g ∧ ∀ (σ : L2.St) (H G : Hp) (M : Mem) (vs : List V) (R : L2.St → Hp → Prop), Wd X.K G M H → SRp X.K G sg σ → RpA X.K G vs ds → (∀ σ', SRp X.K G sg' σ' → σ'.length = σ.length → (∀ j, j ∉ is → σ'[j]? = σ[j]?) → R σ' H) → g vs σ H R
theorem wgs_nil : WGs X [] [] [] sg sg := ⟨_, pgs_nil, fun σ H G M vs R w s r k => by
  cases r
  exact ⟨rfl, k σ s rfl fun _ _ => rfl⟩⟩
theorem wgs_cons {tg : Expr} {tgs : List Expr} {is js : List Nat} {d : D} {ds : List D} {sg1 sg2 : Sg} (h : WG X tg is d sg sg1) (hr : WGs X tgs js ds sg1 sg2) (hs : (assignEach (tg :: tgs) X.env).map (·.2) = assign tg X.env :: (assignEach tgs X.env).map (·.2) := by rfl) : WGs X (tg :: tgs) (is ++ js) (d :: ds) sg sg2 := by
  obtain ⟨g, pg, hg⟩ := hr
  refine ⟨_, pgs_cons pg_w pg hs, fun σ H G M vs R w s r k => ?_⟩
  cases r with
  | cons r1 r2 =>
    refine ⟨_, _, rfl, h σ H G M _ _ w s r1 fun σ1 s1 l1 o1 => hg σ1 H G M _ _ w s1 r2 fun σ2 s2 l2 o2 => k σ2 s2 (l2.trans l1) fun j hj => ?_⟩
    rw [List.mem_append, not_or] at hj
    exact (o2 j hj.2).trans (o1 j hj.1)
theorem wg_tup {tgs : List Expr} {n : Nat} {is : List Nat} {ds : List D} {sg1 : Sg} (hc : X.calm = true) (h : WGs X tgs is ds sg sg1) (hn : (assignEach tgs X.env).length = ds.length := by rfl) (hst : (assignEach tgs X.env).findIdx? (·.1) = none := by rfl) : WG X (.Tuple tgs n pos) is (.tup ds) sg sg1 := by
  obtain ⟨g, pg, hg⟩ := h
  intro σ H G M v R w s r k
  refine ⟨fun pins t u I ru => (pg_tup hc pg hn hst).run pins t σ H v u _ I ru ?_⟩
  cases r with
  | tup h1 r1 => exact ⟨_, _, rfl, w.sub.st h1, r1.length, hg σ H G M _ R w s r1 k⟩
/-- target = e -/
theorem ws_asg {tg e : Expr} (h : WE X e sg M fun d M1 => ∃ is sg1, WG X tg is d sg sg1 ∧ E.nx sg1 M1) (hs : swapsWithSole [tg] e pos.line X.env = pure false := by rfl) (hw : swappedStores [tg] e X.env = pure none := by rfl) (h1 : (assignEach [tg] X.env).map (·.2) = [assign tg X.env] := by rfl) : WS X (.Assign [tg] e pos) sg M E :=
  WS.of (ps_asg pe_w pg_w hs hw h1) fun σ H G w s => (h σ H G w s).imp fun v H1 ⟨d, G1, M1, st, w1, r1, is, sg1, hg, q⟩ => hg σ H1 G1 M1 v _ w1 (s.mono (st.gx w)) r1 fun σ' s' _ _ => ⟨sg1, G1, M1, st, w1, s', q⟩

/-! ### what a loop walks -/
def ItD (K : PySem.W.Frag) (G : Hp) (J : It) (ds : List D) (C : Mem → Prop) : Prop := ∀ (G1 : Hp) (M1 : Mem) (H1 : Hp), Gx G G1 → Wd K G1 M1 H1 → C M1 → ∀ i : Nat, (i = ds.length → J.stop i H1) ∧ ∀ d, ds[i]? = some d → J.go i H1 ∧ ∀ x H', J.yld i H1 x H' → ∃ G', Stp G1 M1 H1 G' M1 H' ∧ Wd K G' M1 H' ∧ Rp K G' x d
def WI (X : Cx) (tg iter : Expr) (sg : Sg) (M : Mem) (Qi : List D → (Mem → Prop) → Mem → Prop) : Prop := ∃ wi, PI X tg iter wi ∧ ∀ (σ : L2.St) (H G : Hp) (R : It → Hp → Prop), Wd X.K G M H → SRp X.K G sg σ → (∀ J H' ds C G' M', Stp G M H G' M' H' → Wd X.K G' M' H' → ItD X.K G' J ds C → Qi ds C M' → R J H') → wi σ H R
section
variable {tg : Expr} {Qi : List D → (Mem → Prop) → Mem → Prop}
theorem wi_lst {l : Expr} (h : WE X l sg M fun x M1 => ∃ ds, LsD M1 x ds ∧ Qi ds (fun M => LsD M x ds) M1) : WI X tg l sg M Qi := ⟨_, pi_list pe_w, fun σ H G R w s k => (h σ H G w s).imp fun v H1 ⟨x, G1, M1, st, w1, r1, ds, l1, q⟩ => by
  obtain ⟨a, xs, rfl, h1, rx⟩ := l1.at w1 r1
  refine ⟨a, rfl, ⟨xs, SqL.of h1⟩, k _ _ ds _ G1 M1 st w1 (fun G2 M2 H2 gx w2 l2 i => ?_) q⟩
  obtain ⟨b, ys, e, h2, ry⟩ := l2.at w2 (r1.mono gx)
  cases e
  refine ⟨fun hi => ⟨ys, SqL.of h2, by rw [ry.length, hi]; exact Nat.le_refl _⟩, fun d hd => ?_⟩
  obtain ⟨y, hy, rd⟩ := ry.get hd
  refine ⟨⟨ys, y, SqL.of h2, hy⟩, fun z H' ⟨e, hz⟩ => ?_⟩
  subst e
  have e := (hz ys (SqL.of h2)).symm.trans hy
  cases e
  exact ⟨G2, Stp.refl, w2, rd⟩⟩
theorem wi_tup {l : Expr} (h : WE X l sg M fun x M1 => ∃ ds, x = .tup ds ∧ Qi ds (fun _ => True) M1) : WI X tg l sg M Qi := ⟨_, pi_tup pe_w, fun σ H G R w s k => (h σ H G w s).imp fun v H1 ⟨x, G1, M1, st, w1, r1, ds, l1, q⟩ => by
  subst l1
  cases r1 with
  | @tup a xs _ h1 rx =>
    refine ⟨a, rfl, ⟨xs, w1.sub.st h1⟩, k _ _ ds _ G1 M1 st w1 (fun G2 M2 H2 gx w2 _ i => ?_) q⟩
    have h2 : SqT X.K H2 a xs := w2.sub.st (gx.st h1)
    have ry := rx.mono gx
    refine ⟨fun hi => ⟨xs, h2, by rw [ry.length, hi]; exact Nat.le_refl _⟩, fun d hd => ?_⟩
    obtain ⟨y, hy, rd⟩ := ry.get hd
    refine ⟨⟨xs, y, h2, hy⟩, fun z H' ⟨e, hz⟩ => ?_⟩
    subst e
    have e := (hz xs h2).symm.trans hy
    cases e
    exact ⟨G2, Stp.refl, w2, rd⟩⟩
def rngD (lo : Int) (n : Nat) : List D := (List.range n).map fun (i : Nat) => D.int (lo + (i : Int))
theorem itd_rng {G : Hp} {lo : Int} {n : Nat} : ItD K G (Itr lo n) (rngD lo n) fun _ => True := fun G1 M1 H1 gx w _ i => by
  have hl : (rngD lo n).length = n := by unfold rngD; rw [List.length_map, List.length_range]
  refine ⟨fun h => by rw [hl] at h; exact Nat.le_of_eq h.symm, fun d hd => ?_⟩
  have hi : i < n := by
    have := (List.getElem?_eq_some_iff.mp hd).1
    rw [hl] at this; exact this
  have e : d = .int (lo + (i : Int)) := by
    unfold rngD at hd
    rw [List.getElem?_map, List.getElem?_range hi] at hd
    exact (Option.some.inj hd).symm
  subst e
  refine ⟨hi, fun x H' ⟨e1, e2⟩ => ?_⟩
  subst e1; subst e2
  exact ⟨G1, Stp.refl, w, .int _⟩
theorem wi_rng1 {a : Expr} {p : Pos} (hm : X.mg "range" = none) (h : WA X [a] sg M fun ds M1 => ∃ j : Int, ds = [.int j] ∧ -(2 ^ 62) ≤ j ∧ j < 2 ^ 62 ∧ Qi (rngD 0 j.toNat) (fun _ => True) M1) (hg : Gl X "range" := by rfl) (hs : starEach [a] X.env = [(false, eval a X.env)] := by exact star1n rfl) : WI X tg (.Call (.Name "range" p) [a] [] pos) sg M Qi := ⟨_, pi_range1 hg hm pa_w hs, fun σ H G R w s k => (h σ H G w s).imp fun vs H1 ⟨ds, G1, M1, st, w1, r1, j, e, b1, b2, q⟩ => by
  subst e
  obtain ⟨v, rfl, rv⟩ := r1.one
  cases rv
  exact ⟨j, rfl, b1, b2, k _ _ _ _ G1 M1 st w1 itd_rng q⟩⟩
theorem wi_rng2 {a b : Expr} {p : Pos} (hm : X.mg "range" = none) (h : WA X [a, b] sg M fun ds M1 => ∃ i j : Int, ds = [.int i, .int j] ∧ (-(2 ^ 62) ≤ i ∧ i < 2 ^ 62 ∧ -(2 ^ 62) ≤ j ∧ j < 2 ^ 62) ∧ Qi (rngD i (j - i).toNat) (fun _ => True) M1) (hg : Gl X "range" := by rfl) (hs : starEach [a, b] X.env = [(false, eval a X.env), (false, eval b X.env)] := by exact star2n rfl rfl) (hs2 : starEach [b] X.env = [(false, eval b X.env)] := by exact star1n rfl) : WI X tg (.Call (.Name "range" p) [a, b] [] pos) sg M Qi := ⟨_, pi_range2 hg hm pa_w hs hs2, fun σ H G R w s k => (h σ H G w s).imp fun vs H1 ⟨ds, G1, M1, st, w1, r1, i, j, e, b1, q⟩ => by
  subst e
  obtain ⟨v, u, rfl, rv, ru⟩ := r1.two
  cases rv; cases ru
  exact ⟨i, j, rfl, b1, k _ _ _ _ G1 M1 st w1 itd_rng q⟩⟩
def enumD (ds : List D) : List D := ds.mapIdx fun i d => .tup [.int (i : Int), d]
theorem new_pair {G1 H1 : Hp} {M1 : Mem} {T : Addr} {x y : V} {d e : D} (w : Wd K G1 M1 H1) (hT : H1 T = none) (rx : Rp K G1 x d) (ry : Rp K G1 y e) : ∃ G', Stp G1 M1 H1 G' M1 (upd H1 T (.tup [x, y])) ∧ Wd K G' M1 (upd H1 T (.tup [x, y])) ∧ Rp K G' (.ref T) (.tup [d, e]) := by
  obtain ⟨w', st⟩ := w.new hT (o := .tup [x, y])
  exact ⟨_, st, w', .tup (SqT.of upd_same) (RpA.mono (gx_new w hT) (.cons rx (.cons ry .nil)))⟩
theorem wi_enum {e : Expr} {p tpos : Pos} {elts : List Expr} {kk : Nat} (hm : X.mg "enumerate" = none) (h : WA X [e] sg M fun xs M1 => ∃ x ds, xs = [x] ∧ LsD M1 x ds ∧ Qi (enumD ds) (fun M => LsD M x ds) M1) (hg : Gl X "enumerate" := by rfl) (hs : starEach [e] X.env = [(false, eval e X.env)] := by exact star1n rfl) : WI X (.Tuple elts kk tpos) (.Call (.Name "enumerate" p) [e] [] pos) sg M Qi := ⟨_, pi_enum hg hm pa_w hs, fun σ H G R w s k => (h σ H G w s).imp fun vs H1 ⟨xs, G1, M1, st, w1, r1, x, ds, e, l1, q⟩ => by
  subst e
  obtain ⟨v, rfl, rv⟩ := r1.one
  obtain ⟨a, ys, rfl, h1, rx⟩ := l1.at w1 rv
  refine ⟨a, ys, rfl, SqL.of h1, k _ _ _ _ G1 M1 st w1 (fun G2 M2 H2 gx w2 l2 i => ?_) q⟩
  obtain ⟨b, zs, e, h2, rz⟩ := l2.at w2 (rv.mono gx)
  cases e
  have hl : (enumD ds).length = ds.length := by unfold enumD; rw [List.length_mapIdx]
  refine ⟨fun hi => ⟨zs, SqL.of h2, by rw [rz.length]; rw [hl] at hi; exact Nat.le_of_eq hi.symm⟩, fun d hd => ?_⟩
  obtain ⟨c, hc, ec⟩ : ∃ c, ds[i]? = some c ∧ d = .tup [.int (i : Int), c] := by
    unfold enumD at hd
    rw [List.getElem?_mapIdx] at hd
    cases e : ds[i]? with
    | none => rw [e] at hd; cases hd
    | some c => rw [e] at hd; exact ⟨c, rfl, (Option.some.inj hd).symm⟩
  subst ec
  obtain ⟨z, hz, rd⟩ := rz.get hc
  refine ⟨⟨zs, z, SqL.of h2, hz⟩, fun t H' ⟨T, y, e1, e2, e3, e4⟩ => ?_⟩
  subst e1; subst e3
  have e := (e4 zs (SqL.of h2)).symm.trans hz
  cases e
  exact new_pair w2 e2 (.int _) rd⟩
theorem wi_zip {e e2 : Expr} {p tpos : Pos} {elts : List Expr} {kk : Nat} (hm : X.mg "zip" = none) (h : WA X [e, e2] sg M fun xs M1 => ∃ x y ds es, xs = [x, y] ∧ LsD M1 x ds ∧ LsD M1 y es ∧ Qi (List.zipWith (fun a b => .tup [a, b]) ds es) (fun M => LsD M x ds ∧ LsD M y es) M1) (hg : Gl X "zip" := by rfl) (hs : starEach [e, e2] X.env = (false, eval e X.env) :: starEach [e2] X.env := by exact star1 rfl) (hpl : (backTo pos (starEach [e2] X.env)).any (·.1) = false := by exact starN rfl) : WI X (.Tuple elts kk tpos) (.Call (.Name "zip" p) [e, e2] [] pos) sg M Qi := ⟨_, pi_zip hg hm pa_w hs hpl, fun σ H G R w s k => (h σ H G w s).imp fun vs H1 ⟨xs, G1, M1, st, w1, r1, x, y, ds, es, e, l1, m1, q⟩ => by
  subst e
  obtain ⟨v, u, rfl, rv, ru⟩ := r1.two
  obtain ⟨a, ys, rfl, h1, rx⟩ := l1.at w1 rv
  obtain ⟨b, zs, rfl, h1', ry⟩ := m1.at w1 ru
  refine ⟨a, b, ys, zs, rfl, SqL.of h1, SqL.of h1', k _ _ _ _ G1 M1 st w1 (fun G2 M2 H2 gx w2 ⟨l2, m2⟩ i => ?_) q⟩
  obtain ⟨a', ys', e, h2, rx2⟩ := l2.at w2 (rv.mono gx)
  cases e
  obtain ⟨b', zs', e, h3, ry2⟩ := m2.at w2 (ru.mono gx)
  cases e
  refine ⟨fun hi => ⟨ys', zs', SqL.of h2, SqL.of h3, ?_⟩, fun d hd => ?_⟩
  · rw [List.length_zipWith] at hi
    rw [rx2.length, ry2.length]
    omega
  · rw [List.getElem?_zipWith] at hd
    cases ea : ds[i]? with
    | none => rw [ea] at hd; cases hd
    | some c =>
      cases eb : es[i]? with
      | none => rw [ea, eb] at hd; cases hd
      | some c' =>
        rw [ea, eb] at hd
        have ed := (Option.some.inj hd).symm
        subst ed
        obtain ⟨z, hz, rd⟩ := rx2.get ea
        obtain ⟨z', hz', rd'⟩ := ry2.get eb
        refine ⟨⟨ys', zs', z, z', SqL.of h2, SqL.of h3, hz, hz'⟩, fun t H' ⟨T, y1, y2, e1, e2, e3, e4, e5⟩ => ?_⟩
        subst e1; subst e3
        have q1 := (e4 ys' (SqL.of h2)).symm.trans hz
        have q2 := (e5 zs' (SqL.of h3)).symm.trans hz'
        cases q1; cases q2
        exact new_pair w2 e2 rd rd'⟩

/-! ### for -/
theorem ws_for {iter : Expr} {body : List Stmt} (hp : PassesOwn (model X.prog X.w) X.A X.env X.xe) (hc : X.calm = true) (hi : WI X tg iter sg M Qi)
    (h : ∀ ds C M0, Qi ds C M0 → ∃ Pv : Nat → Sg → Mem → Prop, Pv 0 sg M0 ∧ (∀ i sg1 M1, Pv i sg1 M1 → C M1) ∧ (∀ i d sg1 M1, ds[i]? = some d → Pv i sg1 M1 → ∃ is sg2, WG X tg is d sg1 sg2 ∧ WSs X body sg2 M1 { E with nx := Pv (i + 1), ct := Pv (i + 1), bk := E.nx }) ∧ ∀ sg1 M1, Pv ds.length sg1 M1 → E.nx sg1 M1)
    (hs : ∀ x, foldedSetIterable iter X.env x = pure x := by intro _; rfl) : WS X (.For tg iter body [] pos) sg M E := by
  obtain ⟨wi, pi, hw⟩ := hi
  refine WS.of (ps_for hp hc pi pg_w pss_w hs) fun σ H G w s => hw σ H G _ w s fun J H0 ds C G0 M0 st0 w0 it q => ?_
  obtain ⟨Pv, p0, pC, turn, fin⟩ := h ds C M0 q
  refine ⟨fun i m σ1 H1 => m = ds.length - i ∧ i ≤ ds.length ∧ ∃ sg1 G1 M1, Stp G M H G1 M1 H1 ∧ Gx G0 G1 ∧ Wd X.K G1 M1 H1 ∧ SRp X.K G1 sg1 σ1 ∧ Pv i sg1 M1, ⟨ds.length, rfl, Nat.zero_le _, sg, G0, M0, st0, Gx.refl _, w0, s.mono (st0.gx w), p0⟩, ?_⟩
  rintro i m σ1 H1 ⟨rfl, hle, sg1, G1, M1, st1, gx1, w1, s1, p1⟩
  obtain ⟨stop, go⟩ := it G1 M1 H1 gx1 w1 (pC _ _ _ p1) i
  by_cases hlt : i < ds.length
  · obtain ⟨g1, yld⟩ := go ds[i] (List.getElem?_eq_getElem hlt)
    refine .inr ⟨g1, fun σ2 H2 => ∃ sg2 G2 M2, Stp G M H G2 M2 H2 ∧ Gx G0 G2 ∧ Wd X.K G2 M2 H2 ∧ SRp X.K G2 sg2 σ2 ∧ Pv (i + 1) sg2 M2, fun σ2 H2 n => ⟨ds.length - (i + 1), by omega, rfl, hlt, n⟩, fun x H' hy => ?_⟩
    obtain ⟨G2, st2, w2, rx⟩ := yld x H' hy
    obtain ⟨is, sg2, hg, hb⟩ := turn i ds[i] sg1 M1 (List.getElem?_eq_getElem hlt) p1
    have gx2 : Gx G0 G2 := gx1.trans (st2.gx w1)
    refine hg σ1 H' G2 M1 x _ w2 (s1.mono (st2.gx w1)) rx fun σ3 s3 _ _ => ?_
    have again : ∀ {σ4 : L2.St} {H4 : Hp}, PN X.K G2 M1 H' (Pv (i + 1)) σ4 H4 → ∃ sg2 G2 M2, Stp G M H G2 M2 H4 ∧ Gx G0 G2 ∧ Wd X.K G2 M2 H4 ∧ SRp X.K G2 sg2 σ4 ∧ Pv (i + 1) sg2 M2 := fun {σ4 H4} ⟨sg4, G4, M4, st4, w4, s4, p4⟩ => ⟨sg4, G4, M4, (st1.trans st2).trans st4, gx2.trans (st4.gx w2), w4, s4, p4⟩
    exact (hb σ3 H' G2 w2 s3).imp (fun _ _ q => again q) (fun _ _ q => PV.base (st1.trans st2) q) (fun _ _ q => PN.base (st1.trans st2) q) (fun _ _ q => again q)
  · have e : i = ds.length := by omega
    subst e
    exact .inl ⟨stop rfl, sg1, G1, M1, st1, w1, s1, fin sg1 M1 p1⟩
/-- while: by a word and a measure -/
theorem ws_while {c : Expr} {body : List Stmt} (hp : PassesOwn (model X.prog X.w) X.A X.env X.xe) (Pv : Nat → Sg → Mem → Prop) (h0 : ∃ m, Pv m sg M) (h : ∀ m sg1 M1, Pv m sg1 M1 → WT X c sg1 M1 fun k M2 => (k = true → WSs X body sg1 M2 { E with nx := fun sg2 M3 => ∃ m', m' < m ∧ Pv m' sg2 M3, ct := fun sg2 M3 => ∃ m', m' < m ∧ Pv m' sg2 M3, bk := E.nx }) ∧ (k = false → E.nx sg1 M2)) : WS X (.While c body [] pos) sg M E := by
  obtain ⟨m0, p0⟩ := h0
  refine WS.of (ps_while hp pt_w pss_w) fun σ H G w s => ⟨fun m σ1 H1 => ∃ sg1 G1 M1, Stp G M H G1 M1 H1 ∧ Wd X.K G1 M1 H1 ∧ SRp X.K G1 sg1 σ1 ∧ Pv m sg1 M1, ⟨m0, sg, G, M, Stp.refl, w, s, p0⟩, ?_⟩
  rintro m σ1 H1 ⟨sg1, G1, M1, st1, w1, s1, p1⟩
  refine (h m sg1 M1 p1 σ1 H1 G1 w1 s1).imp fun k H2 ⟨G2, M2, st2, w2, q1, q0⟩ => ?_
  have s2 := s1.mono (st2.gx w1)
  cases k with
  | true =>
    rw [if_pos rfl]
    refine ⟨fun σ3 H3 => ∃ m', m' < m ∧ ∃ sg1 G1 M1, Stp G M H G1 M1 H3 ∧ Wd X.K G1 M1 H3 ∧ SRp X.K G1 sg1 σ3 ∧ Pv m' sg1 M1, fun σ3 H3 n => n, ?_⟩
    have again : ∀ {σ4 : L2.St} {H4 : Hp}, PN X.K G2 M2 H2 (fun sg2 M3 => ∃ m', m' < m ∧ Pv m' sg2 M3) σ4 H4 → ∃ m', m' < m ∧ ∃ sg1 G1 M1, Stp G M H G1 M1 H4 ∧ Wd X.K G1 M1 H4 ∧ SRp X.K G1 sg1 σ4 ∧ Pv m' sg1 M1 := fun {σ4 H4} ⟨sg4, G4, M4, st4, w4, s4, m', hm, p4⟩ => ⟨m', hm, sg4, G4, M4, (st1.trans st2).trans st4, w4, s4, p4⟩
    exact (q1 rfl σ1 H2 G2 w2 s2).imp (fun _ _ q => again q) (fun _ _ q => PV.base (st1.trans st2) q) (fun _ _ q => PN.base (st1.trans st2) q) (fun _ _ q => again q)
  | false =>
    rw [if_neg Bool.false_ne_true]
    exact ⟨sg1, G2, M2, st1.trans st2, w2, s2, q0 rfl⟩
end
end
end DL
set_option Elab.async false
set_option linter.all false
set_option maxRecDepth 100000
set_option maxHeartbeats 4000000
/-! DLe: comprehensions, methods of lists, defs over data. -/
namespace DL
open PySem L2 PyProof.Rows
section
variable {X : Cx} {sg : Sg} {M : Mem} {E : EndsD} {Q : D → Mem → Prop} {pos : Pos} {K : PySem.W.Frag}
def wipeD (sg : Sg) : List Nat → Sg
  | [] => sg
  | v :: vs => (wipeD sg vs).set v none
theorem wipe_rp {G : Hp} {σ : L2.St} (s : SRp K G sg σ) : ∀ vs : List Nat, SRp K G (wipeD sg vs) (wipe σ vs)
  | [] => s
  | v :: vs => by
    have ih := wipe_rp s vs
    refine ⟨by show ((wipe σ vs).set v none).length = ((wipeD sg vs).set v none).length; rw [List.length_set, List.length_set, ih.len], fun i d e => ?_⟩
    have e' : ((wipeD sg vs).set v none)[i]? = some (some d) := e
    show ∃ x, ((wipe σ vs).set v none)[i]? = some (some x) ∧ Rp K G x d
    by_cases hv : v = i
    · subst hv
      by_cases hl : v < (wipeD sg vs).length
      · rw [List.getElem?_set_self hl] at e'; cases e'
      · rw [List.getElem?_eq_none (by simpa using hl)] at e'; cases e'
    · rw [List.getElem?_set_ne hv] at e' ⊢
      exact ih.at_ i d e'
theorem wipe_in {σ : L2.St} {i : Nat} : ∀ {vs : List Nat}, i ∈ vs → i < σ.length → (wipe σ vs)[i]? = some none
  | v :: vs, h, hl => by
    show ((wipe σ vs).set v none)[i]? = some none
    by_cases hv : v = i
    · subst hv
      exact List.getElem?_set_self (by rw [wipe_length]; exact hl)
    · rw [List.getElem?_set_ne hv]
      exact wipe_in ((List.mem_cons.mp h).resolve_left fun e => hv e.symm) hl
/-- a state that differs at the block's own names alone -/
theorem wipe_same {σ σ' : L2.St} {is vs : List Nat} (hv : ∀ j, j ∈ is → j ∈ vs) (hl : σ'.length = (wipe σ vs).length) (h : ∀ j, j ∉ is → σ'[j]? = (wipe σ vs)[j]?) : wipe σ' vs = wipe σ vs := by
  apply List.ext_getElem?
  intro j
  rw [wipe_length] at hl
  by_cases hj : j ∈ vs
  · by_cases hjl : j < σ.length
    · rw [wipe_in hj hjl, wipe_in hj (by rw [hl]; exact hjl)]
    · rw [List.getElem?_eq_none (by rw [wipe_length, hl]; omega), List.getElem?_eq_none (by rw [wipe_length]; omega)]
  · rw [wipe_out hj, h j fun e => hj (hv j e)]
theorem Wd.other {G H : Hp} {p : Addr} {o : HO} (w : Wd K G M H) (g : G p = none) (m : M p = none) (hb : ∀ u, M.b.H p = some u → M.b.M p = none → False) : Wd K G M (upd H p o) := ⟨fun x u e => by rw [upd_ne (ne_of_none e g)]; exact w.sub _ _ e, fun x mo e => by
  obtain ⟨h1, h2⟩ := w.mem _ _ e
  exact ⟨h1, h2.carry (Gx.refl G) (upd_ne fun z => by subst z; rw [m] at e; cases e)⟩, fun x u e e2 => by
  have hx : x ≠ p := fun z => by subst z; exact hb u e e2
  obtain ⟨h1, h2⟩ := w.hist x u e e2
  exact ⟨by rw [upd_ne hx]; exact h1, h2⟩⟩
theorem Wd.adopt {G H : Hp} {p : Addr} {o : HO} (w : Wd K G M H) (h : H p = some o) (g : G p = none) (m : M p = none) (hb : ∀ u, M.b.H p = some u → M.b.M p = none → False) : Wd K (upd G p o) M H ∧ Gx G (upd G p o) := by
  have gx : Gx G (upd G p o) := fun x u e => by rw [upd_ne (ne_of_none e g)]; exact e
  refine ⟨⟨fun x u e => ?_, fun x mo e => ?_, fun x u e e2 => ?_⟩, gx⟩
  · by_cases hx : x = p
    · subst hx; rw [upd_same] at e; cases e; exact h
    · rw [upd_ne hx] at e; exact w.sub _ _ e
  · obtain ⟨h1, h2⟩ := w.mem _ _ e
    have hx : x ≠ p := fun z => by subst z; rw [m] at e; cases e
    exact ⟨by rw [upd_ne hx]; exact h1, h2.carry gx rfl⟩
  · have hx : x ≠ p := fun z => by subst z; exact hb u e e2
    obtain ⟨h1, h2, h3⟩ := w.hist x u e e2
    exact ⟨h1, by rw [upd_ne hx]; exact h2, h3⟩

/-- the blocks of a comprehension in X -/
abbrev Blk (X : Cx) (scope : Scope) (P : Cx → Prop) : Prop := ∀ (s : Shared) (H : Hp) (C : Addr) (cl : List (Str × Addr)) (fp : List Addr), P (X.blk s H scope (compEnvC scope cl C X.env) fp)
def teB (X : Cx) (scope : Scope) (e : Expr) : TE := fun σ H R => Blk X scope fun Y => tW Y e σ H R
def ttB (X : Cx) (scope : Scope) (e : Expr) : TT := fun σ H R => Blk X scope fun Y => tWT Y e σ H R
def gB (X : Cx) (scope : Scope) (tg : Expr) : TG := fun v σ H R => Blk X scope fun Y => gW Y tg v σ H R
/-- none or one test -/
def testsB (X : Cx) (scope : Scope) : List Expr → TT
  | [c] => ttB X scope c
  | _ => tYes
def WTs (Y : Cx) (ifs : List Expr) (sg : Sg) (M : Mem) (Q : Bool → Mem → Prop) : Prop := match ifs with
  | [] => Q true M
  | [c] => WT Y c sg M Q
  | _ => False
variable {tg : Expr} {Qi : List D → (Mem → Prop) → Mem → Prop}
/-- a turn of a comprehension -/
def LcTurn (X : Cx) (scope : Scope) (vs : List Nat) (tg elt : Expr) (ifs : List Expr) (sg : Sg) (d : D) (M1 : Mem) (QT : D → Mem → Prop) (QF : Mem → Prop) : Prop :=
  ∃ is sg2, (∀ j, j ∈ is → j ∈ vs) ∧ (Blk X scope fun Y => WG Y tg is d (wipeD sg vs) sg2) ∧ ∃ QB : Bool → Mem → Prop, (Blk X scope fun Y => WTs Y ifs sg2 M1 QB) ∧ (∀ M2, QB true M2 → Blk X scope fun Y => WE Y elt sg2 M2 QT) ∧ ∀ M2, QB false M2 → QF M2
theorem lc_run {elt : Expr} {ifs : List Expr} {scope : Scope} {vs : List Nat} {wi : TI} (hw : ∀ (σ : L2.St) (H G : Hp) (R : It → Hp → Prop), Wd X.K G M H → SRp X.K G sg σ → (∀ J H' ds C G' M', Stp G M H G' M' H' → Wd X.K G' M' H' → ItD X.K G' J ds C → Qi ds C M' → R J H') → wi σ H R)
    (hif : ifs.length ≤ 1) (h : ∀ ds C M0, Qi ds C M0 → ∃ Pv : Nat → List D → Mem → Prop, Pv 0 [] M0 ∧ (∀ i acc M1, Pv i acc M1 → C M1 ∧ acc.length < sizeLine) ∧ (∀ i d acc M1, ds[i]? = some d → Pv i acc M1 → LcTurn X scope vs tg elt ifs sg d M1 (fun y M3 => Pv (i + 1) (acc ++ [y]) M3) (fun M3 => Pv (i + 1) acc M3)) ∧ ∀ acc M1, Pv ds.length acc M1 → Q (.lst acc) M1)
    {σ : L2.St} {H G : Hp} {R : VK} (w : Wd X.K G M H) (s : SRp X.K G sg σ) (k : ∀ v H', PV X.K G M H Q v H' → R v H') : tLc wi (gB X scope tg) (testsB X scope ifs) (teB X scope elt) vs σ H R := by
  refine hw σ H G _ w s fun J H0 ds C G0 M0 st0 w0 it q => fun p hp => ?_
  obtain ⟨Pv, p0, pC, turn, fin⟩ := h ds C M0 q
  obtain ⟨g0, m0⟩ := w0.free hp
  have s0 := s.mono (st0.gx w)
  have st1 : Stp G0 M0 H0 G0 M0 (upd H0 p (.lst [])) := ⟨fun x o e m => ⟨by rw [upd_ne (ne_of_none e hp)]; exact e, rfl, m⟩, rfl⟩
  have hf0 : ∀ u, M0.b.H p = some u → M0.b.M p = none → False := fun u e m => w0.fresh hp e m
  refine ⟨fun i m H1 => m = ds.length - i ∧ i ≤ ds.length ∧ ∃ G1 M1 acc xs, Stp G0 M0 H0 G1 M1 H1 ∧ Gx G0 G1 ∧ Wd X.K G1 M1 H1 ∧ H1 p = some (.lst xs) ∧ G1 p = none ∧ M1 p = none ∧ RpA X.K G1 xs acc ∧ Pv i acc M1, ⟨ds.length, rfl, Nat.zero_le _, G0, M0, [], [], st1, Gx.refl _, w0.other g0 m0 hf0, upd_same, g0, m0, .nil, p0⟩, ?_⟩
  rintro i m H1 ⟨rfl, hle, G1, M1, acc, xs, st1, gx1, w1, h1, g1, m1, ra, p1⟩
  obtain ⟨stop, go⟩ := it G1 M1 H1 gx1 w1 (pC _ _ _ p1).1 i
  by_cases hlt : i < ds.length
  · obtain ⟨go1, yld⟩ := go ds[i] (List.getElem?_eq_getElem hlt)
    refine .inr ⟨go1, fun H2 => ∃ G2 M2 acc2 xs2, Stp G0 M0 H0 G2 M2 H2 ∧ Gx G0 G2 ∧ Wd X.K G2 M2 H2 ∧ H2 p = some (.lst xs2) ∧ G2 p = none ∧ M2 p = none ∧ RpA X.K G2 xs2 acc2 ∧ Pv (i + 1) acc2 M2, fun H2 n => ⟨ds.length - (i + 1), by omega, rfl, hlt, n⟩, fun x H' hy => ?_⟩
    obtain ⟨G2, st2, w2, rx⟩ := yld x H' hy
    obtain ⟨h2, g2, _⟩ := st2.keep p _ h1 m1
    obtain ⟨is, sg2, hv, hg, QB, ht, he, hf⟩ := turn i ds[i] acc M1 (List.getElem?_eq_getElem hlt) p1
    have gx2 : Gx G1 G2 := st2.gx w1
    have sw : SRp X.K G2 (wipeD sg vs) (wipe σ vs) := wipe_rp (s0.mono (gx1.trans gx2)) vs
    have body : ∀ σ2 : L2.St, SRp X.K G2 sg2 σ2 → ∀ b H3, PB X.K G2 M1 H' QB b H3 → if b = true then teB X scope elt σ2 H3 (fun y H4 => ∃ acc, H4 p = some (.lst acc) ∧ acc.length < sizeLine ∧ ∃ G2 M2 acc2 xs2, Stp G0 M0 H0 G2 M2 (upd H4 p (.lst (acc ++ [y]))) ∧ Gx G0 G2 ∧ Wd X.K G2 M2 (upd H4 p (.lst (acc ++ [y]))) ∧ (upd H4 p (.lst (acc ++ [y]))) p = some (.lst xs2) ∧ G2 p = none ∧ M2 p = none ∧ RpA X.K G2 xs2 acc2 ∧ Pv (i + 1) acc2 M2)
        else ∃ G2 M2 acc2 xs2, Stp G0 M0 H0 G2 M2 H3 ∧ Gx G0 G2 ∧ Wd X.K G2 M2 H3 ∧ H3 p = some (.lst xs2) ∧ G2 p = none ∧ M2 p = none ∧ RpA X.K G2 xs2 acc2 ∧ Pv (i + 1) acc2 M2 := fun σ2 s2 b H3 ⟨G3, M3, st3, w3, q3⟩ => by
      obtain ⟨h3, g3, m3⟩ := st3.keep p _ h2 m1
      have gx3 : Gx G2 G3 := st3.gx w2
      cases b with
      | true =>
        rw [if_pos rfl]
        intro t H5 C5 cl fp
        refine (he M3 q3 t H5 C5 cl fp σ2 H3 G3 w3 (s2.mono gx3)).imp fun y H4 ⟨d, G4, M4, st4, w4, r4, q4⟩ => ?_
        obtain ⟨h4, g4, m4⟩ := st4.keep p _ h3 m3
        have gx4 : Gx G3 G4 := st4.gx w3
        have g4' : G4 p = none := by rw [g4, g3, g2, g1]
        have stA := ((st1.trans st2).trans st3).trans st4
        refine ⟨xs, h4, by rw [ra.length]; exact (pC _ _ _ p1).2, G4, M4, acc ++ [d], xs ++ [y], ⟨fun z o e m => ?_, stA.base⟩, gx1.trans (gx2.trans (gx3.trans gx4)), w4.other g4' m4 (by rw [stA.base]; exact hf0), upd_same, g4', m4, (ra.mono (gx2.trans (gx3.trans gx4))).append (.cons r4 .nil), q4⟩
        obtain ⟨a1, a2, a3⟩ := stA.keep z o e m
        exact ⟨by rw [upd_ne (ne_of_none e hp)]; exact a1, a2, a3⟩
      | false =>
        rw [if_neg Bool.false_ne_true]
        exact ⟨G3, M3, acc, xs, (st1.trans st2).trans st3, gx1.trans (gx2.trans gx3), w3, h3, by rw [g3, g2, g1], m3, ra.mono (gx2.trans gx3), hf M3 q3⟩
    intro t H5 C5 cl fp
    refine hg t H5 C5 cl fp (wipe σ vs) H' G2 M1 x _ w2 sw rx fun σ2 s2 l2 o2 => ⟨wipe_same hv l2 o2, ?_⟩
    match ifs, hif, ht with
    | [], _, ht => exact body σ2 s2 true H' ⟨G2, M1, Stp.refl, w2, ht t H5 C5 cl fp⟩
    | [c], _, ht => exact fun t H5 C5 cl fp => (ht t H5 C5 cl fp σ2 H' G2 w2 s2).imp fun b H3 q => body σ2 s2 b H3 q
    | _ :: _ :: _, hif, _ => exact absurd hif (by simp)
  · have e : i = ds.length := by omega
    subst e
    obtain ⟨w2, gx2⟩ := w1.adopt h1 g1 m1 (by rw [st1.base]; exact hf0)
    refine .inl ⟨stop rfl, k _ _ (PV.base st0 ⟨.lst acc, _, M1, ⟨fun z o e m => ?_, st1.base⟩, w2, .lst upd_same (ra.mono gx2), fin acc M1 p1⟩)⟩
    obtain ⟨a1, a2, a3⟩ := st1.keep z o e m
    exact ⟨a1, by rw [upd_ne (ne_of_none e hp)]; exact a2, a3⟩
theorem blk_pg {scope : Scope} {tg : Expr} : ∀ (s : Shared) (H : Hp) (C : Addr) (cl : List (Str × Addr)) (fp : List Addr), PG (X.blk s H scope (compEnvC scope cl C X.env) fp) tg (gB X scope tg) := fun s H C cl fp => ⟨fun pins t σ H1 v u R I r h => (h s H C cl fp).run pins t u I r⟩
theorem blk_pe {scope : Scope} {e : Expr} : ∀ (s : Shared) (H : Hp) (C : Addr) (cl : List (Str × Addr)) (fp : List Addr), PE (X.blk s H scope (compEnvC scope cl C X.env) fp) e (teB X scope e) := fun s H C cl fp => ⟨fun pins t σ H1 R I h => (h s H C cl fp).run pins t I⟩
theorem blk_pts {scope : Scope} {ifs : List Expr} (hif : ifs.length ≤ 1) : ∀ (s : Shared) (H : Hp) (C : Addr) (cl : List (Str × Addr)) (fp : List Addr), PTs (X.blk s H scope (compEnvC scope cl C X.env) fp) ifs (testsB X scope ifs) := fun s H C cl fp => by
  match ifs, hif with
  | [], _ => exact pts_nil
  | [c], _ => exact pts_one ⟨fun pins t σ H1 R I h => (h s H C cl fp).run pins t I⟩
  | _ :: _ :: _, hif => exact absurd hif (by simp)
abbrev LcOk (X : Cx) (scope : Scope) (vs : List Nat) (tg elt : Expr) (ifs : List Expr) (sg : Sg) (Qi : List D → (Mem → Prop) → Mem → Prop) (Q : D → Mem → Prop) : Prop :=
  ∀ ds C M0, Qi ds C M0 → ∃ Pv : Nat → List D → Mem → Prop, Pv 0 [] M0 ∧ (∀ i acc M1, Pv i acc M1 → C M1 ∧ acc.length < sizeLine) ∧ (∀ i d acc M1, ds[i]? = some d → Pv i acc M1 → LcTurn X scope vs tg elt ifs sg d M1 (fun y M3 => Pv (i + 1) (acc ++ [y]) M3) (fun M3 => Pv (i + 1) acc M3)) ∧ ∀ acc M1, Pv ds.length acc M1 → Q (.lst acc) M1
theorem we_lc {iter elt : Expr} {ifs : List Expr} {scope : Scope} (own : List (Str × Nat)) (hc : X.calm = true) (hN : X.N.Nodup) (ok : BlkOk X.N X.env.scope scope own) (hi : WI X tg iter sg M Qi) (h : LcOk X scope (own.map (·.2)) tg elt ifs sg Qi Q) (hif : ifs.length ≤ 1 := by decide) (hs : ∀ x, foldedSetIterable iter X.env x = pure x := by intro _; rfl) : WE X (.ListComp elt [⟨tg, iter, ifs, 0⟩] scope pos) sg M Q := by
  obtain ⟨wi, pi, hw⟩ := hi
  exact WE.of (pe_lc hc hN pi ok blk_pg (blk_pts hif) blk_pe hs) fun σ H G w s => lc_run hw hif h w s fun v H' q => q
theorem ws_setLc (i : Nat) {y : Str} {py : Pos} {iter elt : Expr} {ifs : List Expr} {scope : Scope} {spos : Pos} (own : List (Str × Nat)) (hc : X.calm = true) (hN : X.N.Nodup) (ok : BlkOk X.N X.env.scope scope own) (hi : WI X tg iter sg M Qi) (h : LcOk X scope (own.map (·.2)) tg elt ifs sg Qi fun d M1 => E.nx (sg.set i (some d)) M1) (hif : ifs.length ≤ 1 := by decide)
    (hy : X.N[i]? = some y := by rfl) (hyl : X.env.scope.names.lookup y = some .local := by rfl) (hsw : swapsWith (.ListComp elt [⟨tg, iter, ifs, 0⟩] scope pos) (some (.Name y py)) spos.line X.env = pure true := by exact sw_true rfl rfl rfl (by decide +kernel)) (hs : ∀ x, foldedSetIterable iter X.env x = pure x := by intro _; rfl) : WS X (.Assign [.Name y py] (.ListComp elt [⟨tg, iter, ifs, 0⟩] scope pos) spos) sg M E := by
  obtain ⟨wi, pi, hw⟩ := hi
  refine WS.of (ps_setLc hc hN hy hyl hsw pi ok blk_pg (blk_pts hif) blk_pe hs) fun σ H G w s => lc_run (Q := fun d M1 => E.nx (sg.set i (some d)) M1) hw hif h w s fun v H' q => ?_
  obtain ⟨d, G1, M1, st, w1, r1, q⟩ := q
  exact ⟨_, G1, M1, st, w1, (s.mono (st.gx w)).set i r1, q⟩
/-- a comprehension that changes nothing, over ds: the items that pass, their images -/
theorem lc_pure {elt : Expr} {ifs : List Expr} {scope : Scope} {vs : List Nat} {ds : List D} {C : Mem → Prop} {M0 : Mem} (p : D → Bool) (f : D → D) (hC : C M0) (hz : ds.length < sizeLine)
    (h : ∀ (i : Nat) (d : D), ds[i]? = some d → ∃ is sg2, (∀ j, j ∈ is → j ∈ vs) ∧ (Blk X scope fun Y => WG Y tg is d (wipeD sg vs) sg2) ∧ (Blk X scope fun Y => WTs Y ifs sg2 M0 fun b M2 => b = p d ∧ M2 = M0) ∧ (p d = true → Blk X scope fun Y => EE Y elt sg2 M0 (f d))) :
    ∃ Pv : Nat → List D → Mem → Prop, Pv 0 [] M0 ∧ (∀ i acc M1, Pv i acc M1 → C M1 ∧ acc.length < sizeLine) ∧ (∀ i d acc M1, ds[i]? = some d → Pv i acc M1 → LcTurn X scope vs tg elt ifs sg d M1 (fun y M3 => Pv (i + 1) (acc ++ [y]) M3) (fun M3 => Pv (i + 1) acc M3)) ∧ ∀ acc M1, Pv ds.length acc M1 → acc = (ds.filter p).map f ∧ M1 = M0 := by
  refine ⟨fun i acc M1 => i ≤ ds.length ∧ acc = ((ds.take i).filter p).map f ∧ M1 = M0, ⟨Nat.zero_le _, rfl, rfl⟩, fun i acc M1 ⟨hi, e1, e2⟩ => ?_, fun i d acc M1 hd ⟨hi, e1, e2⟩ => ?_, fun acc M1 ⟨_, e1, e2⟩ => ?_⟩
  · subst e1; subst e2
    refine ⟨hC, ?_⟩
    rw [List.length_map]
    have a1 := List.length_filter_le p (ds.take i)
    rw [List.length_take] at a1
    omega
  · subst e1; subst e2
    obtain ⟨is, sg2, hv, hg, ht, he⟩ := h i d hd
    have hlt := (List.getElem?_eq_some_iff.mp hd).1
    have tk : ds.take (i + 1) = ds.take i ++ [d] := by rw [List.take_add_one, hd]; rfl
    refine ⟨is, sg2, hv, hg, fun b M2 => b = p d ∧ M2 = M1, ht, fun M2 ⟨e1, e2⟩ => ?_, fun M2 ⟨e1, e2⟩ => ?_⟩
    · subst e2
      intro s H C' cl fp
      refine (he e1.symm s H C' cl fp).imp fun y M3 ⟨e3, e4⟩ => ⟨hlt, ?_, e4⟩
      rw [e3, tk, List.filter_append, List.map_append, List.filter_cons_of_pos e1.symm]
      rfl
    · subst e2
      refine ⟨hlt, ?_, rfl⟩
      rw [tk, List.filter_append, List.filter_cons_of_neg (by rw [← e1]; decide), List.filter_nil, List.append_nil]
  · subst e1; subst e2
    rw [List.take_length]
    exact ⟨rfl, rfl⟩

/-! ### methods of lists that may change -/
def MtD (K : PySem.W.Frag) (r : V → List V → Hp → VK → Prop) (x : D) (xs : List D) (M : Mem) (Q : D → Mem → Prop) : Prop := ∀ (G H : Hp) (v : V) (vs : List V) (R : VK), Wd K G M H → Rp K G v x → RpA K G vs xs → (∀ z H', PV K G M H Q z H' → R z H') → r v vs H R
theorem we_bm {o e : Expr} {es : List Expr} {name : Str} {apos cpos : Pos} {T id : String} {r : V → List V → Hp → VK → Prop} (pa : PlainAttrs T) (slot : Slot T name id) (hty : typeOf (.builtin id) = pure (.type "method_descriptor")) (hm : MtR X id r)
    (h : WE X o sg M fun x M1 => (∀ G H v, Wd X.K G M1 H → Rp X.K G v x → tyV X.K T v H) ∧ WA X (e :: es) sg M1 fun xs M2 => MtD X.K r x xs M2 Q) (hbase : attributeBase o name X.env (eval o X.env) = eval o X.env := by rfl)
    (hfew : ((backTo cpos (starEach (e :: es) X.env)).all (fun x => !x.1) && (backToKw cpos (keywordEach [] X.env)).all (fun x => x.1.isSome) && decide ((e :: es).length + ([] : List Keyword).length + (if ([] : List Keyword).isEmpty then 0 else 1) < 30)) = true := by rfl)
    (hline : (apos.endLine == cpos.line) = true := by rfl) (hs : starEach (e :: es) X.env = (false, eval e X.env) :: starEach es X.env := by exact star1 rfl) (hplain : (backTo cpos (starEach es X.env)).any (·.1) = false := by exact starN rfl) : WE X (.Call (.Attribute o name apos) (e :: es) [] cpos) sg M Q :=
  WE.of (pe_bm pa slot hty hm pe_w pa_w hbase hfew hline hs hplain) fun σ H G w s => (h σ H G w s).imp fun v H1 ⟨x, G1, M1, st, w1, r1, ty, q1⟩ => ⟨ty G1 H1 v w1 r1, (q1 σ H1 G1 w1 (s.mono (st.gx w))).imp fun vs H2 ⟨xs, G2, M2, st2, w2, r2, q2⟩ => q2 G2 H2 v vs _ w2 (r1.mono (st2.gx w1)) r2 fun z H' p => p.base (st.trans st2)⟩
theorem we_bm0 {o : Expr} {name : Str} {apos cpos : Pos} {T id : String} {r : V → List V → Hp → VK → Prop} (pa : PlainAttrs T) (slot : Slot T name id) (hty : typeOf (.builtin id) = pure (.type "method_descriptor")) (hm : MtR X id r)
    (h : WE X o sg M fun x M1 => (∀ G H v, Wd X.K G M1 H → Rp X.K G v x → tyV X.K T v H) ∧ MtD X.K r x [] M1 Q) (hbase : attributeBase o name X.env (eval o X.env) = eval o X.env := by rfl) (hline : (apos.endLine == cpos.line) = true := by rfl) : WE X (.Call (.Attribute o name apos) [] [] cpos) sg M Q :=
  WE.of (pe_bm0 pa slot hty hm pe_w hbase hline) fun σ H G w s => (h σ H G w s).imp fun v H1 ⟨x, G1, M1, st, w1, r1, ty, q1⟩ => ⟨ty G1 H1 v w1 r1, q1 G1 H1 v [] _ w1 r1 .nil fun z H' p => p.base st⟩
theorem ty_lst {x : D} {ds : List D} (l : LsD M x ds) : ∀ G H v, Wd K G M H → Rp K G v x → tyV K "list" v H := fun G H v w r => by
  obtain ⟨a, xs, rfl, h1, _⟩ := l.at w r
  exact .inl ⟨rfl, xs, SqL.of h1⟩
theorem md_append {p : Addr} {ds : List D} {d : D} (hm : M p = some (.lst ds)) (hz : ds.length < sizeLine) (q : Q .non (updM M p (some (.lst (ds ++ [d]))))) : MtD K rAppend (.ptr p) [d] M Q := fun G H v vs R w rv rs k => by
  cases rv
  obtain ⟨u, rfl, ru⟩ := rs.one
  obtain ⟨g, xs, h1, r1⟩ := w.mem _ _ hm
  refine ⟨p, xs, u, rfl, rfl, h1, by rw [r1.length]; exact hz, k _ _ ?_⟩
  obtain ⟨w', st⟩ := w.write hm (o := .lst (xs ++ [u])) (mo := .lst (ds ++ [d])) ⟨_, upd_same, r1.append (.cons ru .nil)⟩
  exact ⟨_, _, _, st, w', .non, q⟩
theorem md_extend {p : Addr} {ds es : List D} {y : D} (hm : M p = some (.lst ds)) (hy : LsD M y es) (hz : ds.length + es.length ≤ sizeLine) (q : Q .non (updM M p (some (.lst (ds ++ es))))) : MtD K rExtend (.ptr p) [y] M Q := fun G H v vs R w rv rs k => by
  cases rv
  obtain ⟨u, rfl, ru⟩ := rs.one
  obtain ⟨b, ys, rfl, h2, r2⟩ := hy.at w ru
  obtain ⟨g, xs, h1, r1⟩ := w.mem _ _ hm
  refine ⟨p, b, xs, ys, rfl, rfl, h1, h2, by rw [r1.length, r2.length]; exact hz, k _ _ ?_⟩
  obtain ⟨w', st⟩ := w.write hm (o := .lst (xs ++ ys)) (mo := .lst (ds ++ es)) ⟨_, upd_same, r1.append r2⟩
  exact ⟨_, _, _, st, w', .non, q⟩
/-- xs[i] = e -/
def StD (K : PySem.W.Frag) (t : TSet) (o i v : D) (M : Mem) (Q : Mem → Prop) : Prop := ∀ (G H : Hp) (ov iv vv : V) (R : Hp → Prop), Wd K G M H → Rp K G ov o → Rp K G iv i → Rp K G vv v → (∀ G' M' H', Stp G M H G' M' H' → Wd K G' M' H' → Q M' → R H') → t ov iv vv H R
theorem ws_sub {o i e : Expr} {t : TSet} {tpos : Pos} (hp : PSet X t) (h : WE X e sg M fun z M1 => WE X o sg M1 fun x M2 => WE X i sg M2 fun y M3 => StD X.K t x y z M3 fun M4 => E.nx sg M4)
    (ha : ∀ v, assign (.Subscript o i tpos) X.env v = (do
      let ov ← holding [v] (eval o X.env)
      let iv ← holding [v, ov] (eval i X.env)
      standAt tpos
      holding [v, ov, iv] (setItem ov iv v)
      release [v, ov, iv] []) := by intro _; rfl) (hs : swapsWithSole [.Subscript o i tpos] e pos.line X.env = pure false := by rfl) (hw : swappedStores [.Subscript o i tpos] e X.env = pure none := by rfl) (h1 : (assignEach [.Subscript o i tpos] X.env).map (·.2) = [assign (.Subscript o i tpos) X.env] := by rfl) : WS X (.Assign [.Subscript o i tpos] e pos) sg M E :=
  WS.of (ps_asg pe_w (pg_sub pe_w pe_w hp ha) hs hw h1) fun σ H G w s => (h σ H G w s).imp fun z H1 ⟨dz, G1, M1, st1, w1, r1, q1⟩ => (q1 σ H1 G1 w1 (s.mono (st1.gx w))).imp fun x H2 ⟨dx, G2, M2, st2, w2, r2, q2⟩ => (q2 σ H2 G2 w2 (s.mono ((st1.trans st2).gx w))).imp fun y H3 ⟨dy, G3, M3, st3, w3, r3, q3⟩ =>
    q3 G3 H3 x y z _ w3 (r2.mono (st3.gx w2)) r3 (r1.mono ((st2.trans st3).gx w1)) fun G4 M4 H4 st4 w4 q4 => ⟨sg, G4, M4, ((st1.trans st2).trans st3).trans st4, w4, s.mono ((((st1.trans st2).trans st3).trans st4).gx w), q4⟩
theorem sd_setL {p : Addr} {ds : List D} {i : Int} {j : Nat} {d : D} {Qm : Mem → Prop} (hm : M p = some (.lst ds)) (hj : ixN ds.length i = some j) (q : Qm (updM M p (some (.lst (ds.set j d))))) : StD K rSetL (.ptr p) (.int i) d M Qm := fun G H ov iv vv R w ro ri rv k => by
  cases ro; cases ri
  obtain ⟨g, xs, h1, r1⟩ := w.mem _ _ hm
  refine ⟨p, xs, i, j, rfl, rfl, h1, by rw [r1.length]; exact hj, ?_⟩
  obtain ⟨w', st⟩ := w.write hm (o := .lst (xs.set j vv)) (mo := .lst (ds.set j d)) ⟨_, upd_same, r1.set rv j⟩
  exact k _ _ _ st w' q

/-! ### defs -/
abbrev SpD := List D → Mem → (D → Mem → Prop) → Prop
def spD (K : PySem.W.Frag) (n : Nat) (S : SpD) : Sp := fun vs H R _ => ∃ (G : Hp) (M : Mem) (ds : List D) (Q : D → Mem → Prop), Wd K G M H ∧ RpA K G vs ds ∧ ds.length = n ∧ S ds M Q ∧ ∀ v H', PV K G M H Q v H' → R v H'
/-- the name x calls a def that keeps S, by at most level k -/
def Cal (P : Program) (w : World) (K : PySem.W.Frag) (mg : Str → Option Value) (base : Heap) (k : Nat) (x : Str) (n : Nat) (S : SpD) : Prop :=
  ∃ f fd ps, FnOk P w K mg base CX0 k f fd ps (spD K n S) ∧ mg x = some (.ref f) ∧ PySem.W.keepIn K (.ref f) = true ∧ Binds K fd ps []
theorem Cal.mono {P : Program} {w : World} {mg : Str → Option Value} {base : Heap} {j k n : Nat} {x : Str} {S : SpD} (h : Cal P w K mg base j x n S) (hj : j ≤ k) : Cal P w K mg base k x n S := let ⟨f, fd, ps, F, a, b, c⟩ := h; ⟨f, fd, ps, F.mono hj, a, b, c⟩
theorem Cal.imp {P : Program} {w : World} {mg : Str → Option Value} {base : Heap} {k n : Nat} {x : Str} {S S' : SpD} (h : Cal P w K mg base k x n S) (hs : ∀ ds M Q, S' ds M Q → S ds M Q) : Cal P w K mg base k x n S' :=
  let ⟨f, fd, ps, F, a, b, c⟩ := h; ⟨f, fd, ps, F.imp fun _ _ _ _ ⟨G, M, ds, Q, w, r, l, s, q⟩ => ⟨G, M, ds, Q, w, r, l, hs _ _ _ s, q⟩, a, b, c⟩
theorem we_call {k n : Nat} {x : Str} {S : SpD} {p : Pos} {e : Expr} {es : List Expr} (C : Cal X.prog X.w X.K X.mg X.base k x n S) (hr : Room k X.A) (h : WA X (e :: es) sg M fun ds M1 => ds.length = n ∧ S ds M1 Q) (hg : Gl X x := by rfl) (hd : (x == ("__debug__" : Str)) = false := by decide)
    (he : starEach (e :: es) X.env = (false, eval e X.env) :: starEach es X.env := by exact star1 rfl) (hpl : (backTo pos (starEach es X.env)).any (·.1) = false := by exact starN rfl) : WE X (.Call (.Name x p) (e :: es) [] pos) sg M Q := by
  obtain ⟨f, fd, ps, F, hm, kp, b⟩ := C
  refine WE.of (pe_call F hr hg hm kp b .nil pass0 pa_w hd he hpl) fun σ H G w s => (h σ H G w s).imp fun vs H1 ⟨ds, G1, M1, st, w1, r1, l, q⟩ => ?_
  show spD _ _ _ (vs ++ []) _ _ _
  rw [List.append_nil]
  exact ⟨G1, M1, ds, Q, w1, r1, l, q, fun v H' p => p.base st⟩
def startD (N : List Str) (ds : List D) : Sg := ds.map some ++ List.replicate (N.length - ds.length) none
theorem start_rp {G : Hp} {N : List Str} {vs : List V} {ds : List D} (r : RpA K G vs ds) : SRp K G (startD N ds) (L2.start N vs) := by
  have hl := r.length
  refine ⟨by unfold L2.start startD; simp [hl], fun i d e => ?_⟩
  unfold startD at e
  unfold L2.start
  by_cases hi : i < ds.length
  · rw [List.getElem?_append_left (by simpa using hi), List.getElem?_map] at e
    rw [List.getElem?_append_left (by simpa [hl] using hi), List.getElem?_map]
    cases ed : ds[i]? with
    | none => rw [ed] at e; cases e
    | some c =>
      rw [ed] at e
      cases e
      obtain ⟨v, hv, rv⟩ := r.get ed
      exact ⟨v, by rw [hv]; rfl, rv⟩
  · rw [List.getElem?_append_right (by simpa using hi), List.getElem?_replicate] at e
    split at e <;> cases e
section
variable {P : Program} {w : World} {mg : Str → Option Value} {base : Heap}
/-- a def of the text keeps S -/
theorem dfn {x qual : Str} {st : Stmt} {f : Addr} {fd : FuncData} {N ps : List Str} {k n : Nat} {S : SpD} (F : Fun K x qual st f fd) (sc : FnScope N ps (defScope st)) (hn : ps.length = n) (hm : mg x = some (.ref f)) (hb : Binds K fd ps [])
    (body : ∀ (cdv : Value) (A : Around) (outer : List Env) (s : Shared) (H : Hp) (E : XK) (ds : List D) (M : Mem) (Q : D → Mem → Prop), Room k (A.deeper (envOfC qual (defScope st) s.heap.objs.size f cdv)) → ds.length = n → S ds M Q →
      WSs (cxOf CX0 P w K mg base N qual (defScope st) f cdv A outer s H E).nox (defBody st) (startD N ds) M { nx := fun _ M' => Q .non M', rt := Q }) : Cal P w K mg base (k + 1) x n S := by
  refine ⟨f, fd, ps, F.ok sc (fun vs H R E h => ?_) (fun cdv A outer s H vs R E hr h => ?_), hm, F.kp, hb⟩
  · obtain ⟨G, M, ds, Q, _, r, l, _⟩ := h
    rw [r.length, l, hn]
  · obtain ⟨G, M, ds, Q, wd, r, l, hs, q⟩ := h
    refine ⟨tWSs _ (defBody st), pss_w, (body cdv A outer s H E ds M Q hr l hs _ H G wd (start_rp r)).imp (fun σ' H' ⟨sg', G', M', st', w', s', q'⟩ => q _ _ ⟨.non, G', M', st', w', .non, q'⟩) (fun v H' p => q v H' p) (fun _ _ p => ?_) (fun _ _ p => ?_)⟩
    · obtain ⟨_, _, _, _, _, _, z⟩ := p; exact z
    · obtain ⟨_, _, _, _, _, _, z⟩ := p; exact z
end
end
end DL
set_option Elab.async false
set_option linter.all false
set_option maxRecDepth 100000
set_option maxHeartbeats 4000000
/-! DLf: what the layer below lacks: enumerate over a tuple, a tuple back to front, list(range(n)). -/
namespace DL
open PySem L2 PyProof.Rows HT
section
variable {prog : Program} {w : World} {A : Around} {E : Value → Shared → Prop} {s : Shared}
/-! ### t[::-1] -/
theorem rev_applied {sl : Addr} {vl vu vs : Value} {n : Nat} {Q : Int × Int × Nat → Shared → Prop} (hs : s.heap.IsSliceOf sl vl vu vs) (a : IsPart vl none) (b : IsPart vu none) (c : IsPart vs (some (-1)))
    (h : Q ((n : Int) - 1, -1, n) s) : wpAny (model prog w) A (Builtin.Slice.sliceApplied (.ref sl) (pure (n : Int))) Q E s := by
  obtain ⟨o, ho, _, hd⟩ := id hs
  unfold Builtin.Slice.sliceApplied Builtin.Slice.sliceFields
  refine wpAny_bind (wpAny_bind (wpAny_field ho hd (x := vl) rfl (wpAny_bind (wpAny_field ho hd (x := vu) rfl (wpAny_bind (wpAny_field ho hd (x := vs) rfl (wpAny_pure ?_)))))))
  refine wpAny_bind (slicePart_ c ?_)
  show wpAny _ _ (if ((-1 : Int) == 0) = true then _ else _) _ _ s
  rw [if_neg (by decide)]
  refine wpAny_bind (slicePart_ a (wpAny_bind (slicePart_ b (wpAny_bind (wpAny_pure ?_)))))
  show wpAny _ _ (pure ((n : Int) - 1, (-1 : Int), Builtin.Slice.slicePlaces ((n : Int) - 1) (-1) (-1))) _ _ s
  have e : Builtin.Slice.slicePlaces ((n : Int) - 1) (-1) (-1) = n := by
    unfold Builtin.Slice.slicePlaces
    have h1 : ¬ ((-1 : Int) > 0) := by decide
    simp only [h1, if_false]
    by_cases h2 : (n : Int) - 1 > -1
    · rw [if_pos h2, show (- -1 : Int) = 1 by decide, Int.ediv_one]
      omega
    · rw [if_neg h2]
      omega
  rw [e]
  exact wpAny_pure h
theorem rev_pick (xs : Array Value) : ((List.range xs.size).filterMap fun (m : Nat) => xs[(((xs.size : Nat) : Int) - 1 + (m : Int) * -1).toNat]?).toArray = xs.toList.reverse.toArray := by
  have f : (fun (m : Nat) => xs[(((xs.size : Nat) : Int) - 1 + (m : Int) * -1).toNat]?) = (fun i => xs[i]?) ∘ fun m => xs.size - 1 - m := by
    funext m
    show xs[(((xs.size : Nat) : Int) - 1 + (m : Int) * -1).toNat]? = xs[xs.size - 1 - m]?
    rw [show (((xs.size : Nat) : Int) - 1 + (m : Int) * -1).toNat = xs.size - 1 - m by omega]
  rw [f, ← List.filterMap_map, PySem.W.krv_range, List.filterMap_reverse, PySem.W.krv_all]
theorem getItem_rev {t sl : Addr} {items : Array Value} {vl vu vs : Value} {Q : Value → Shared → Prop} (ht : IsTup s.heap t items) (hs : s.heap.IsSliceOf sl vl vu vs) (a : IsPart vl none) (b : IsPart vu none) (c : IsPart vs (some (-1))) (hz : items.size ≤ sizeLine)
    (h : Q (.ref s.heap.objs.size) { s with heap := s.heap.push { cls := .type "tuple", data := .seq items.toList.reverse.toArray } }) : wpAny (model prog w) A (getItem (.ref t) (.ref sl)) Q E s := by
  have hok : sizeOk (.seq items.toList.reverse.toArray) := by
    show items.toList.reverse.toArray.size ≤ sizeLine
    rw [List.size_toArray, List.length_reverse, Array.length_toList]
    exact hz
  obtain ⟨o, ho, hc, hd⟩ := id hs
  have hT : s.TypeIs (.ref sl) "slice" := ⟨o, ho, hc⟩
  unfold getItem
  try with_reducible refine wpAny_holding ?_
  first | refine wpAny_bind (wpAny_pure ?_) | skip
  refine wpAny_bind (wpAny_sequenceKey ht.typeIs (by decide) ?_)
  refine wpAny_bind (wpAny_callSpecial?_slot (name := Str.ofString "__getitem__") ht.typeIs slot_tuple_getitem (wpAny_call_entry slot_tuple_getitem ht.typeIs entry_tuple_getitem ?_ (args_tuple_getitem _ _)))
  show wpAny _ _ (Builtin.Tuple.tupleItemsOf (.ref t) >>= _) _ _ s
  refine wpAny_bind (tupleItemsOf_ ht (wpAny_bind (wpAny_typeOf hT ?_)))
  rw [if_pos (by decide)]
  refine wpAny_bind (rev_applied hs a b c ?_)
  have hno : ¬ ((((items.size : Nat) : Int) - 1 == 0 && (-1 : Int) == 1 && items.size == items.size) = true) := by
    rw [show ((-1 : Int) == 1) = false by decide, Bool.and_false, Bool.false_and]
    exact Bool.false_ne_true
  show wpAny _ _ (if ((((items.size : Nat) : Int) - 1 == 0 && (-1 : Int) == 1 && items.size == items.size) = true) then _ else _) _ _ s
  rw [if_neg hno, rev_pick]
  first
    | exact wpAny_bind (m := Builtin.Tuple.tupleExact _) (wpAny_newObj_type (wpAny_pure ⟨_, rfl, wpAny_pure h⟩) hok)
    | exact wpAny_bind (m := Builtin.Tuple.tupleExact _) (wpAny_newObj_type (wpAny_bind (wpAny_pure (wpAny_pure ⟨_, rfl, wpAny_pure h⟩))) hok)
    | exact wpAny_bind (wpAny_bind (m := Builtin.Tuple.tupleExact _) (wpAny_newObj_type (wpAny_pure (wpAny_pure ⟨_, rfl, wpAny_pure h⟩)) hok))
    | exact wpAny_bind (wpAny_bind (m := Builtin.Tuple.tupleExact _) (wpAny_newObj_type (wpAny_pure ⟨_, rfl, wpAny_pure h⟩) hok))
end
section
variable {X : Cx} {sg : Sg} {M : Mem} {E : EndsD} {Q : D → Mem → Prop} {pos : Pos} {K : PySem.W.Frag}
def tRevT (K : PySem.W.Frag) (te : TE) : TE := fun σ H R => te σ H fun x H1 => ∃ a xs, x = .ref a ∧ SqT K H1 a xs ∧ ∀ p, H1 p = none → R (.ref p) (upd H1 p (.tup xs.reverse))
theorem pe_revT {e : Expr} {te : TE} {k : Nat} {p1 p2 p3 : Pos} (he : PE X e te) : PE X (.Subscript e (.Slice none none (some (.UnaryOp .USub (.Constant (.int 1) k p1) p2)) p3) pos) (tRevT X.K te) := by
  refine ⟨fun pins s σ H R I h => ?_⟩
  refine Subscript_ (thn (he.run pins s σ H _ I h) fun v s1 ⟨x, H1, I1, r1, a, xs, ex, hx, q⟩ => ?_)
  subst ex
  cases r1
  have hst : PO X (some (.UnaryOp .USub (.Constant (.int 1) k p1) p2)) (tPart (tUn (rU fun i => .int (-i)) (tC (.int 1)))) := po_some (pe_un un_neg pe_int)
  refine wpAny_Slice (thn (po_none.run pins s1 σ H1 (fun o H2 => o = none ∧ H2 = H1) I1 ⟨rfl, rfl⟩) fun vl s2 ⟨l, H2, I2, pl, el, e2⟩ => ?_)
  subst el e2
  refine thn (po_none.run pins s2 σ H2 (fun o H3 => o = none ∧ H3 = H2) I2 ⟨rfl, rfl⟩) fun vu s3 ⟨u, H3, I3, pu, eu, e3⟩ => ?_
  subst eu e3
  refine thn (hst.run pins s3 σ H3 (fun o H4 => o = some (-1) ∧ H4 = H3) I3 ⟨1, rfl, -1, rfl, rfl, rfl⟩) fun vs s4 ⟨o, H4, I4, ps, eo, e4⟩ => ?_
  subst eo e4
  have I5 : Inv X pins σ H4 { s4 with heap := s4.heap.push { cls := .type "slice", data := .fields #[vl, vu, vs] } } := I4.kept (t' := s4.toks) fun b ob z => Heap.get?_push_of_some _ z
  obtain ⟨its, r, ht, hz⟩ := I5.tuple hx
  have hlen := r.length
  show wpAny _ X.A (subscriptTail e (.Slice none none (some (.UnaryOp .USub (.Constant (.int 1) k p1) p2)) p3) (.ref a) (.ref s4.heap.objs.size)) _ X.xe { s4 with heap := s4.heap.push { cls := .type "slice", data := .fields #[vl, vu, vs] } }
  refine tail_any (ops := [.ref a, .ref s4.heap.objs.size]) ht.typeIs slot_tuple_getitem.lookup ?_ (by with_unfolding_all rfl)
  refine getItem_rev ht (Heap.IsSliceOf.new _ vl vu vs) pl pu ps (by rw [List.size_toArray]; omega) ?_
  refine ⟨.ref _, _, I5.laid (t' := s4.toks) (o := .tup xs.reverse) (fun b ob z => Heap.get?_push_of_some _ z) (Nat.le_refl _) ?_, rfl, q _ (I5.hok.fresh (Nat.le_refl _))⟩
  exact ⟨by rw [List.length_reverse]; exact hz, _, r.reverse, ⟨_, Heap.get?_push_size _ rfl, rfl, _, rfl⟩⟩
theorem we_revT {e : Expr} {k : Nat} {p1 p2 p3 : Pos} (h : WE X e sg M fun x M1 => ∃ ds, x = .tup ds ∧ Q (.tup ds.reverse) M1) : WE X (.Subscript e (.Slice none none (some (.UnaryOp .USub (.Constant (.int 1) k p1) p2)) p3) pos) sg M Q := WE.of (pe_revT pe_w) fun σ H G w s => (h σ H G w s).imp fun v H1 ⟨x, G1, M1, st, w1, r1, ds, e1, q⟩ => by
  subst e1
  cases r1 with
  | tup h1 rx => exact ⟨_, _, rfl, w1.sub.st h1, fun p hp => (new_tup w1 hp rx.reverse q).base st⟩

/-! ### enumerate(t): its beginning -/
abbrev tupIt (t : Addr) : Obj := { cls := .type "tuple_iterator", data := .fields #[.ref t, .int 0 0] }
abbrev enumO (i : Addr) : Obj := { cls := .type "enumerate", data := .fields #[.none, .bool false, .ref i, rawInt 0, .none, .none] }
set_option maxHeartbeats 1000000 in
theorem meets_enumT (t : Addr) (items : Array Value) :
    Meets (Builtin.«enumerate.__new__» ⟨[.type "enumerate", .ref t], []⟩) (fun _ R s => s.heap.IsTuple t items ∧ R (.ok (.ret (.ref (s.heap.push (tupIt t)).objs.size))) { s with heap := (s.heap.push (tupIt t)).push (enumO s.heap.objs.size) }) :=
  .of_wp fun prog w A R s h => by
    obtain ⟨hp, g, d, tk, os⟩ := s
    obtain ⟨hL, h⟩ := h
    have hsub := sub_enumerate
    replace hL : Heap.IsTuple (Shared.heap ⟨hp, g, d, tk, os⟩) t items := hL
    have q1 : ∀ {A' : Around} {E : Value → Shared → Prop} {Q : Value → Shared → Prop}, Q (.ref hp.objs.size) ⟨hp.push (tupIt t), g, d, tk, os⟩ → wpAny (model prog w) A' (pyIter (.ref t)) Q E ⟨hp, g, d, tk, os⟩ := fun q => wpAny_pyIter_tuple hL q
    wp_walk using q1
    refine wpAny_stack_any fun st => wpAny_pure ?_
    split
    · rename_i c _ _ _ _ _
      cases (c == Value.type "enumerate")
      · wp_walk using q1
        exact ⟨_, rfl, h⟩
      · wp_walk using q1
        exact ⟨_, rfl, h⟩
    · wp_walk using q1
      exact ⟨_, rfl, h⟩
theorem call_enumT {prog : Program} {w : World} {A : Around} {E : Value → Shared → Prop} {s : Shared} {t : Addr} {items : Array Value} {Q : Value → Shared → Prop} (hL : s.heap.IsTuple t items)
    (h : ∀ h', IsEnum h' (s.heap.objs.size + 1) s.heap.objs.size 0 .none → h'.IsTupleIter s.heap.objs.size t 0 → (∀ b o, s.heap.get? b = some o → h'.get? b = some o) → Q (.ref (s.heap.objs.size + 1)) { s with heap := h' }) :
    wpAny (model prog w) A (call (.type "enumerate") [.ref t]) Q E s := by
  refine callType_new F.called_enumerate (by decide) (F.typeCall_enumerate_1 _) (F.newCall_enumerate_1 _) (fun obj => F.args_object_init_2 obj _) F.entry_enumerate_new (meets_enumT t items) ⟨hL, ?_⟩
  have hz : (s.heap.push (tupIt t)).objs.size = s.heap.objs.size + 1 := Heap.size_push ..
  show _ ∧ _
  rw [hz]
  have he : IsEnum ((s.heap.push (tupIt t)).push (enumO s.heap.objs.size)) (s.heap.objs.size + 1) s.heap.objs.size 0 .none := by
    have q := Heap.get?_push_size (s.heap.push (tupIt t)) (o := enumO s.heap.objs.size) rfl
    rw [hz] at q
    exact q
  exact ⟨⟨_, he, rfl⟩, h _ he ⟨_, Heap.get?_push_of_some _ (Heap.get?_push_size _ rfl), rfl, rfl⟩ fun b o x => Heap.get?_push_of_some _ (Heap.get?_push_of_some _ x)⟩
/-! ### enumerate(t) -/
def Itf (K : PySem.W.Frag) (a : Addr) : It :=
  ⟨fun i H => ∃ (xs : List V) (x : V), SqT K H a xs ∧ xs[i]? = some x, fun i H v H' => ∃ T x, v = .ref T ∧ H T = none ∧ H' = upd H T (.tup [.int (i : Nat), x]) ∧ ∀ xs, SqT K H a xs → xs[i]? = some x, fun i H => ∃ xs : List V, SqT K H a xs ∧ xs.length = i⟩
theorem turn_enumT {P : Program} {w : World} {elts : List Expr} {kk : Nat} {tpos : Pos} (a e it : Addr) :
    Turn P w K (.Tuple elts kk tpos) (Itf K a) [e, it] e (fun i h => (∃ old, IsEnum h e it ((i : Nat) : Int) old) ∧ h.IsTupleIter it a i ∧ e ≠ it) where
  mem := by simp
  obj := fun i h ⟨⟨old, he⟩, ⟨o, ho, hc, hd⟩, _⟩ b hb => by
    rcases (by simpa using hb : b = e ∨ b = it) with z | z
    · rw [z]; exact ⟨_, he, fun v q => nomatch q⟩
    · rw [z]; exact ⟨o, ho, fun v q => by rw [hd] at q; cases q⟩
  keep := fun i h h' ⟨⟨old, he⟩, hi, hne⟩ k => ⟨⟨old, k e (by simp) _ he⟩, hi.at fun o q => k it (by simp) o q, hne⟩
  item := by
    intro X hP hw hK hc i pins s σ H E I hf st hg
    subst hP hw hK
    obtain ⟨⟨old, he⟩, hit, hne⟩ := st
    obtain ⟨xs, x, hq, hx⟩ := hg
    obtain ⟨its, rv, p, hz⟩ := I.tuple hq
    obtain ⟨u, hu, ru⟩ := rv.get hx
    have hil : i < xs.length := (List.getElem?_eq_some_iff.mp hx).1
    have hsz : its.toArray.size = xs.length := by rw [List.size_toArray]; exact rv.length.symm
    have hel : e < s.heap.objs.size := Heap.lt_size he
    have hilt : it < s.heap.objs.size := by obtain ⟨_, q, _⟩ := hit; exact Heap.lt_size q
    have ane : a ≠ it := fun z => by
      obtain ⟨o, q, c, _⟩ := hit
      obtain ⟨o2, q2, c2, _⟩ := p
      rw [z, q] at q2
      cases q2
      rw [c] at c2
      injection c2 with c3
      exact absurd c3 (by decide)
    have eae : e ≠ a := fun z => by
      obtain ⟨o2, q2, c2, _⟩ := p
      have he' := he
      unfold IsEnum at he'
      rw [z, q2] at he'
      cases he'
      injection c2 with c3
      exact absurd c3 (by decide)
    have D := Draws.tuple (prog := X.prog) (w := X.w) (A := X.A.in1) (I.ok.hd hc) it a ane its.toArray
    refine wpAny_pyNext_enum_itemC D he (i := i) ⟨hit, p⟩ (by rw [hsz]; exact hil) hne (by simp [hne, eae]) fun y h' tk hy ho st' hT hsz' hk => ?_
    have ey : y = u := by
      have hy' : its.toArray[i]? = some y := hy
      rw [List.getElem?_toArray, hu] at hy'
      exact (Option.some.inj hy').symm
    subst ey
    refine ⟨_, rfl, wpAny_letOwnedTupleGo_enum (s := { s with heap := h', toks := tk + 1 }) ho fun h'' he' sb => ?_⟩
    have hT2 : h''.get? s.heap.objs.size = some { cls := .type "tuple", data := .seq #[.int i tk, y] } := (sb.2 _ (Nat.ne_of_gt hel)).trans hT
    have new : ObjOk X.prog X.w (upd H s.heap.objs.size (.tup [.int (i : Nat), x])) h'' s.heap.objs.size (.tup [.int (i : Nat), x]) :=
      ⟨by show 2 ≤ sizeLine; decide, [.int i tk, y], .cons ⟨_, rfl⟩ (.cons ru .nil), ⟨_, hT2, rfl, _, rfl⟩⟩
    have I1 : Inv X pins σ (upd H s.heap.objs.size (.tup [.int (i : Nat), x])) { s with heap := h'', toks := tk + 1 } :=
      I.turnedNew (ch := [e, it]) (fun b ob hb q => (sb.2 b (fun z => hb (by simp [z]))).trans (hk b ob (fun z => hb (by simp [z])) (fun z => hb (by simp [z])) q)) hf (Nat.le_refl _) new
    refine ⟨.ref s.heap.objs.size, _, I1, rfl, ⟨_, x, rfl, I.hok.fresh (Nat.le_refl _), rfl, fun ys hy => by rw [I.tuple_inj hy hq]; exact hx⟩, ⟨⟨y, ?_⟩, st'.1.at fun o q => (sb.2 it (Ne.symm hne)).trans q, hne⟩, fun b hb => ?_⟩
    · have e1 : ((i + 1 : Nat) : Int) = (i : Int) + 1 := by omega
      rw [e1]; exact he'
    · have hb' : b < s.heap.objs.size := by
        rcases (by simpa using hb : b = e ∨ b = it) with z | z
        · rw [z]; exact hel
        · rw [z]; exact hilt
      rw [upd_ne (Nat.ne_of_lt hb')]
      exact (hf b hb).1
  done := by
    intro X hP hw hK hc i pins s σ H E I hf st hg
    subst hP hw hK
    obtain ⟨⟨old, he⟩, hit, hne⟩ := st
    obtain ⟨xs, hq, hx⟩ := hg
    obtain ⟨its, rv, p, hz⟩ := I.tuple hq
    obtain ⟨f0, f1, f2, f3, f4, f5⟩ := hf it (by simp)
    have ane : a ≠ it := fun z => by
      obtain ⟨o, q, c, _⟩ := hit
      obtain ⟨o2, q2, c2, _⟩ := p
      rw [z, q] at q2
      cases q2
      rw [c] at c2
      injection c2 with c3
      exact absurd c3 (by decide)
    have D := Draws.tuple (prog := X.prog) (w := X.w) (A := X.A.in1) (I.ok.hd hc) it a ane its.toArray
    have hn : its.toArray.size = i := by rw [List.size_toArray, ← rv.length]; exact hx
    refine wpAny_pyNext_enum_endD D he ⟨by rw [hn]; exact hit, p⟩ fun h' eb => ⟨rfl, I.turned (t' := s.toks) (fun b o hb q => eb b o hb q) f0 f1 f3 f4 f5⟩
  self := fun A i s Q E ⟨⟨_, he⟩, _⟩ h => wpAny_pyIter_enum he h
def iEnumT (K : PySem.W.Frag) (ta : TA) : TI := fun σ H R => ta σ H fun vs H1 => ∃ a xs, vs = [.ref a] ∧ SqT K H1 a xs ∧ R (Itf K a) H1
theorem pi_enumT {e : Expr} {ta : TA} {p tpos : Pos} {elts : List Expr} {kk : Nat} (hg : Gl X "enumerate") (hm : X.mg "enumerate" = none) (ha : PA X [e] ta) (hs : starEach [e] X.env = [(false, eval e X.env)] := by exact star1n rfl) : PI X (.Tuple elts kk tpos) (.Call (.Name "enumerate" p) [e] [] pos) (iEnumT X.K ta) := by
  refine ⟨fun pins s σ H R I h => ?_⟩
  refine Call_ (ld_blt I hg hm boot_enumerate (callWith_type1 (thn (ha.run pos pins s σ H _ I h) fun us s1 ⟨vs, H1, I1, r1, a, xs, ex, hq, q⟩ => ?_) hs rfl))
  subst ex
  cases r1 with
  | cons r rr =>
    cases rr
    cases r
    obtain ⟨its, rv, p', hz⟩ := I1.tuple hq
    refine call_enumT (items := its.toArray) p' fun h' he hit hk => wpAny_pyIter_enum he ?_
    have I2 : Inv X pins σ H1 { s1 with heap := h' } := I1.kept (t' := s1.toks) hk
    refine ⟨s1.heap.objs.size + 1, [s1.heap.objs.size + 1, s1.heap.objs.size], _, _, H1, rfl, I2, turn_enumT a (s1.heap.objs.size + 1) s1.heap.objs.size, ⟨⟨.none, he⟩, hit, Nat.succ_ne_self _⟩, fun b hb => ?_, q⟩
    have hle : s1.heap.objs.size ≤ b := by
      rcases (by simpa using hb : b = s1.heap.objs.size + 1 ∨ b = s1.heap.objs.size) with z | z
      · rw [z]; exact Nat.le_add_right _ _
      · rw [z]; exact Nat.le_refl _
    exact I1.fpOk hle (I1.hok.fresh hle)
theorem wi_enumT {Qi : List D → (Mem → Prop) → Mem → Prop} {e : Expr} {p tpos : Pos} {elts : List Expr} {kk : Nat} (hm : X.mg "enumerate" = none) (h : WA X [e] sg M fun xs M1 => ∃ ds, xs = [.tup ds] ∧ Qi (enumD ds) (fun _ => True) M1) (hg : Gl X "enumerate" := by rfl) (hs : starEach [e] X.env = [(false, eval e X.env)] := by exact star1n rfl) : WI X (.Tuple elts kk tpos) (.Call (.Name "enumerate" p) [e] [] pos) sg M Qi := ⟨_, pi_enumT hg hm pa_w hs, fun σ H G R w s k => (h σ H G w s).imp fun vs H1 ⟨xs, G1, M1, st, w1, r1, ds, e, q⟩ => by
  subst e
  obtain ⟨v, rfl, rv⟩ := r1.one
  cases rv with
  | @tup a ys _ h1 rx =>
    refine ⟨a, ys, rfl, w1.sub.st h1, k _ _ _ _ G1 M1 st w1 (fun G2 M2 H2 gx w2 _ i => ?_) q⟩
    have h2 : SqT X.K H2 a ys := w2.sub.st (gx.st h1)
    have rz := rx.mono gx
    have hl : (enumD ds).length = ds.length := by unfold enumD; rw [List.length_mapIdx]
    refine ⟨fun hi => ⟨ys, h2, by rw [rz.length, hi, hl]⟩, fun d hd => ?_⟩
    obtain ⟨c, hc, ec⟩ : ∃ c, ds[i]? = some c ∧ d = .tup [.int (i : Int), c] := by
      unfold enumD at hd
      rw [List.getElem?_mapIdx] at hd
      cases e : ds[i]? with
      | none => rw [e] at hd; cases hd
      | some c => rw [e] at hd; exact ⟨c, rfl, (Option.some.inj hd).symm⟩
    subst ec
    obtain ⟨z, hz, rd⟩ := rz.get hc
    refine ⟨⟨ys, z, h2, hz⟩, fun t H' ⟨T, y, e1, e2, e3, e4⟩ => ?_⟩
    subst e1; subst e3
    have e := (e4 ys h2).symm.trans hz
    cases e
    exact new_pair w2 e2 (.int _) rd⟩
/-! ### list(range(n)) -/
def rRngE (ta : TA) : TE := fun σ H R => ta σ H fun vs H1 => ∃ j : Int, vs = [.int j] ∧ -(2 ^ 62) ≤ j ∧ j ≤ 1000000 ∧ ∀ p, H1 p = none → R (.ref p) (upd H1 p (.lst ((List.range j.toNat).map fun (i : Nat) => V.int (i : Int))))
end
end DL
set_option Elab.async false
set_option linter.all false
set_option maxRecDepth 100000
set_option maxHeartbeats 4000000
/-! DLg: list(range(n)); sorted of pairs of ints. -/
namespace DL
open PySem L2 PyProof.Rows HT
section
variable {X : Cx} {sg : Sg} {M : Mem} {E : EndsD} {Q : D → Mem → Prop} {pos : Pos} {K : PySem.W.Frag}
theorem cr_rng1 : CallR X (.type "range") (fun vs H Q => ∃ j, vs = [V.int j] ∧ ∀ p, H p = none → Q (.ref p) (upd H p (.rng 0 j))) := by
  intro pins s σ H vs us R I r h
  obtain ⟨j, rfl, q⟩ := h
  obtain ⟨u, rfl, t, rfl⟩ := vals1 r
  refine call_range_1 ⟨.ref s.heap.objs.size, upd H s.heap.objs.size (.rng 0 j), I.laid (t' := s.toks + 1 + 1) (fun b o e => Heap.get?_push_of_some _ e) (Nat.le_refl _) ?_, rfl, q _ (I.hok.fresh (Nat.le_refl _))⟩
  exact ⟨_, _, _, Heap.get?_push_size _ rfl⟩
theorem vals_rng {n : Nat} {acc : Array Value} (h : ItemsOf (fun i v => ∃ t, v = Value.int (0 + (i : Int) * 1) t) acc n) : Vals ((List.range n).map fun (i : Nat) => V.int (i : Int)) acc.toList := by
  obtain ⟨hl, hi⟩ := h
  have key : ∀ (l : List Value) (k : Nat), (∀ (j : Nat) v, l[j]? = some v → ∃ t, v = Value.int (((k + j : Nat) : Int)) t) → Vals ((List.range' k l.length).map fun (i : Nat) => V.int (i : Int)) l := by
    intro l
    induction l with
    | nil => intro k _; exact .nil
    | cons v l ih =>
      intro k h
      refine .cons (h 0 v rfl) (ih (k + 1) fun j u e => ?_)
      obtain ⟨t, e'⟩ := h (j + 1) u (by simpa using e)
      exact ⟨t, by rw [e', show k + (j + 1) = k + 1 + j by omega]⟩
  have q := key acc.toList 0 fun j v e => by
    obtain ⟨t, e'⟩ := hi j v (by rw [← Array.getElem?_toList]; exact e)
    exact ⟨t, by rw [e', show (0 : Int) + (j : Int) * 1 = ((0 + j : Nat) : Int) by omega]⟩
  rw [Array.length_toList, hl, ← List.range_eq_range'] at q
  exact q
theorem cr_listR (hc : X.calm = true) : CallR X (.type "list") (fun vs H Q => ∃ p j, vs = [V.ref p] ∧ H p = some (.rng 0 j) ∧ -(2 ^ 62) ≤ j ∧ j ≤ 1000000 ∧ ∀ l, H l = none → Q (.ref l) (upd H l (.lst ((List.range j.toNat).map fun (i : Nat) => V.int (i : Int))))) := by
  intro pins s σ H vs us R I r h
  obtain ⟨p, j, rfl, hp, b1, b2, q⟩ := h
  obtain ⟨u, rfl, ru⟩ := vals1 r
  obtain rfl : u = Value.ref p := ru
  obtain ⟨t, t2, t3, ho⟩ := (show ObjOk X.prog X.w H s.heap p (.rng 0 j) from I.hok p _ hp)
  have hz : Builtin.Range.rangeSize 0 j 1 = j.toNat := by
    rw [rangeSize_one]
    split <;> omega
  have hs : j.toNat ≤ sizeLine := by rw [sizeLine_eq]; omega
  refine call_list_range (I.ok.hd hc) ho (small_one (by decide) (by decide) b1 (by omega)) hz (by omega) fun h' tk acc c' hk hS hi => ?_
  refine ⟨.ref s.heap.objs.size, _, I.laid (t' := tk) (o := .lst ((List.range j.toNat).map fun (i : Nat) => V.int (i : Int))) hk (Nat.le_refl _) ⟨?_, acc.toList, c', vals_rng hi, by simpa using hS⟩, rfl, q _ (I.hok.fresh (Nat.le_refl _))⟩
  rw [List.length_map, List.length_range]
  exact hs
theorem rpa_rng {G : Hp} : ∀ n : Nat, RpA K G ((List.range n).map fun (i : Nat) => V.int (i : Int)) (rngD 0 n) := fun n => by
  have q := rpa_ints (K := K) (G := G) ((List.range n).map fun (i : Nat) => (i : Int))
  rw [List.map_map, List.map_map] at q
  unfold rngD
  have e : (D.int ∘ fun (i : Nat) => (i : Int)) = fun (i : Nat) => D.int (0 + (i : Int)) := by
    funext i
    show D.int (i : Int) = D.int (0 + (i : Int))
    rw [Int.zero_add]
  rw [e] at q
  exact q
/-- list(range(e)) -/
theorem we_lrng {e : Expr} {p1 p2 pos2 : Pos} (hc : X.calm = true) (hl : X.mg "list" = none) (hr : X.mg "range" = none) (h : WE X e sg M fun x M1 => ∃ j, x = .int j ∧ -(2 ^ 62) ≤ j ∧ j ≤ 1000000 ∧ Q (.lst (rngD 0 j.toNat)) M1) (g1 : Gl X "list" := by rfl) (g2 : Gl X "range" := by rfl)
    (s1 : starEach [.Call (.Name "range" p2) [e] [] pos2] X.env = (false, eval (.Call (.Name "range" p2) [e] [] pos2) X.env) :: starEach [] X.env := by exact star1 rfl) (s2 : starEach [e] X.env = (false, eval e X.env) :: starEach [] X.env := by exact star1 rfl) (t1 : (backTo pos (starEach [] X.env)).any (·.1) = false := by exact starN rfl) (t2 : (backTo pos2 (starEach [] X.env)).any (·.1) = false := by exact starN rfl) :
    WE X (.Call (.Name "list" p1) [.Call (.Name "range" p2) [e] [] pos2] [] pos) sg M Q :=
  WE.of (pe_callTy (cr_listR hc) g1 hl (by decide +kernel) (pa_cons (pe_callTy cr_rng1 g2 hr (by decide +kernel) (pa_cons pe_w pa_nil s2) (by decide) (by decide) s2 t2) pa_nil s1) (by decide) (by decide) s1 t1) fun σ H G w s =>
    (h σ H G w s).imp fun v H1 ⟨x, G1, M1, st, w1, r1, j, e1, b1, b2, q⟩ => by
      subst e1
      cases r1
      refine ⟨j, rfl, fun p hp => ⟨p, j, rfl, upd_same, b1, b2, fun l hl => ?_⟩⟩
      have w2 : Wd X.K G1 M1 (upd H1 p (.rng 0 j)) := w1.other (w1.free hp).1 (w1.free hp).2 fun u e m => w1.fresh hp e m
      have st2 : Stp G1 M1 H1 G1 M1 (upd H1 p (.rng 0 j)) := ⟨fun z o e m => ⟨by rw [upd_ne (ne_of_none e hp)]; exact e, rfl, m⟩, rfl⟩
      exact (new_lst w2 hl (rpa_rng _) q).base (st.trans st2)

/-! ### sorted(xs), xs a list of pairs of ints -/
def PairAt (K : PySem.W.Frag) (H : Hp) (x : V) (p : Int × Int) : Prop := ∃ t, x = V.ref t ∧ SqT K H t [.int p.1, .int p.2]
abbrev SrtP (ps : List (Int × Int)) : Prop := ps.Pairwise fun x y => SrtO.lexB y x = false
def rSrt (K : PySem.W.Frag) : List V → Hp → VK → Prop := fun vs H Q => ∃ (a : Addr) (xs : List V) (ps : List (Int × Int)) (F : V → Int × Int → Prop), vs = [V.ref a] ∧ SqL K H a xs ∧ (∀ x p, F x p → PairAt K H x p) ∧ Paired F xs ps ∧
  ∀ ys ps' p, ps'.Perm ps → SrtP ps' → Paired F ys ps' → H p = none → Q (.ref p) (upd H p (.lst ys))
theorem paired_mem {α β : Type} {F : α → β → Prop} : ∀ {xs : List α} {ys : List β}, Paired F xs ys → ∀ x ∈ xs, ∃ y, F x y
  | _, _, .nil, x, h => by cases h
  | _, _, .cons r t, x, h => by
    rcases List.mem_cons.mp h with e | h
    · subst e; exact ⟨_, r⟩
    · exact paired_mem t x h
theorem paired_map {α β : Type} {F : α → β → Prop} {k : α → β} (u : ∀ x y, F x y → k x = y) : ∀ {xs : List α} {ys : List β}, Paired F xs ys → ys = xs.map k
  | _, _, .nil => rfl
  | _, _, .cons r t => by rw [List.map_cons, ← paired_map u t, u _ _ r]
theorem paired_of {α β : Type} {F : α → β → Prop} {k : α → β} : ∀ {xs : List α}, (∀ x ∈ xs, F x (k x)) → Paired F xs (xs.map k)
  | [], _ => .nil
  | x :: xs, h => .cons (h x List.mem_cons_self) (paired_of fun y hy => h y (List.mem_cons_of_mem _ hy))
open Classical in
theorem cr_srt : CallR X (.builtin "sorted") (rSrt X.K) := by
  intro pins s σ H vs us R I r h
  obtain ⟨a, xs, ps, F, rfl, hs, hF, hp, q⟩ := h
  obtain ⟨its, rv, hl, hz⟩ := I.list hs
  obtain ⟨u, rfl, ru⟩ := vals1 r
  obtain rfl : u = Value.ref a := ru
  let k : V → Int × Int := fun x => if c : ∃ p, F x p then c.choose else (0, 0)
  have kk : ∀ x p, F x p → F x (k x) := fun x p hx => by
    have c : ∃ p, F x p := ⟨p, hx⟩
    show F x (if c : ∃ p, F x p then c.choose else (0, 0))
    rw [dif_pos c]
    exact c.choose_spec
  have ku : ∀ x p, F x p → k x = p := fun x p hx => by
    obtain ⟨t, e, h1⟩ := hF _ _ (kk x p hx)
    obtain ⟨t', e', h2⟩ := hF _ _ hx
    subst e
    cases e'
    have z := I.tuple_inj h1 h2
    injection z with z1 z2
    injection z2 with z3 z4
    injection z1 with z1
    injection z3 with z3
    exact Prod.ext z1 z3
  have hf : ∀ x ∈ xs, F x (k x) := fun x m => by
    obtain ⟨p, hp'⟩ := paired_mem hp x m
    exact kk x p hp'
  have hx : ∀ x ∈ xs, PairAt X.K H x (k x) := fun x m => hF _ _ (hf x m)
  obtain ⟨e1, e2⟩ := refs_back rv fun x m => by
    obtain ⟨t, e, _⟩ := hx x m
    exact ⟨t, e⟩
  refine SrtO.sorted_pairsO (k := fun u => k (backV u)) hl.isList (by rw [← rv.length]; exact hz) (fun v hv => ?_) fun h' d out h1 h2 kp hd hn => ?_
  · obtain ⟨t, rfl⟩ := e2 v hv
    obtain ⟨t', e, ht⟩ := hx (V.ref t) (by rw [e1]; exact List.mem_map.mpr ⟨_, hv, rfl⟩)
    cases e
    obtain ⟨its2, r2, ⟨o, ho, hc, n, hd⟩, _⟩ := I.tuple ht
    obtain ⟨u1, u2, rfl, ri, rj⟩ := vals2 r2
    obtain ⟨t1, rfl⟩ := ri
    obtain ⟨t2, rfl⟩ := rj
    exact ⟨t, o, t1, t2, n, rfl, ho, hc, hd⟩
  · obtain ⟨n, hn⟩ := hn
    have hb : SrtO.Stb (ltP k) (out.map backV) xs := by
      rw [e1]
      exact SrtO.Stb.map (ltP_swo k) backV h2
    have h3 := SrtO.srtd_map (f := backV) (lt := ltP k) h1
    refine ⟨.ref d, upd H d (.lst (out.map backV)), I.laid (t' := s.toks) kp hd ⟨by rw [hb.len]; exact hz, out, n, vals_back fun u hu => e2 u (h2.perm.mem_iff.mp hu), hn⟩, rfl, q _ ((out.map backV).map k) d ?_ ?_ ?_ (I.hok.fresh hd)⟩
    · rw [paired_map ku hp]
      exact hb.perm.map k
    · exact List.pairwise_map.mpr h3
    · exact paired_of fun x m => hf x (hb.perm.mem_iff.mp m)
def pairD (p : Int × Int) : D := .tup [.int p.1, .int p.2]
theorem pairs_of {G : Hp} : ∀ {vs : List V} {ps : List (Int × Int)}, RpA K G vs (ps.map pairD) → Paired (fun v p => Rp K G v (pairD p)) vs ps
  | _, [], .nil => .nil
  | _, _ :: _, .cons h r => .cons h (pairs_of r)
theorem of_pairs {G : Hp} : ∀ {vs : List V} {ps : List (Int × Int)}, Paired (fun v p => Rp K G v (pairD p)) vs ps → RpA K G vs (ps.map pairD)
  | _, _, .nil => .nil
  | _, _, .cons h r => .cons h (of_pairs r)
theorem cd_srt {x : D} {ps : List (Int × Int)} (h : LsD M x (ps.map pairD)) (q : ∀ ps' : List (Int × Int), ps'.Perm ps → SrtP ps' → Q (.lst (ps'.map pairD)) M) : ClD K (rSrt K) [x] M Q := fun G H vs R w r k => by
  obtain ⟨v, rfl, rv⟩ := r.one
  obtain ⟨a, xs, rfl, h1, r1⟩ := h.at w rv
  refine ⟨a, xs, ps, fun v p => Rp K G v (pairD p), rfl, SqL.of h1, fun x p hx => ?_, pairs_of r1, fun ys ps' p hp hs hy hn => k _ _ (new_lst w hn (of_pairs hy) (q ps' hp hs))⟩
  cases hx with
  | tup h1 r1 =>
    obtain ⟨v, u, rfl, rv, ru⟩ := r1.two
    cases rv; cases ru
    exact ⟨_, rfl, w.sub.st h1⟩
end
end DL
set_option Elab.async false
set_option linter.all false
set_option maxRecDepth 100000
set_option maxHeartbeats 4000000
/-! DLh: short forms, for expressions that change nothing. -/
namespace DL
open PySem L2 PyProof.Rows HT
theorem bi_int : bootBuiltins "int" = some (.type "int") := by decide +kernel
theorem bi_bool : bootBuiltins "bool" = some (.type "bool") := by decide +kernel
theorem bi_str : bootBuiltins "str" = some (.type "str") := by decide +kernel
theorem bi_tuple : bootBuiltins "tuple" = some (.type "tuple") := by decide +kernel
theorem bi_list : bootBuiltins "list" = some (.type "list") := by decide +kernel
theorem bi_len : bootBuiltins "len" = some (.builtin "len") := by decide +kernel
theorem bi_all : bootBuiltins "all" = some (.builtin "all") := by decide +kernel
theorem bi_any : bootBuiltins "any" = some (.builtin "any") := by decide +kernel
theorem bi_sum : bootBuiltins "sum" = some (.builtin "sum") := by decide +kernel
theorem bi_max : bootBuiltins "max" = some (.builtin "max") := by decide +kernel
theorem bi_min : bootBuiltins "min" = some (.builtin "min") := by decide +kernel
theorem bi_sorted : bootBuiltins "sorted" = some (.builtin "sorted") := by decide +kernel
section
variable {X : Cx} {sg : Sg} {M : Mem} {E : EndsD} {Q : D → Mem → Prop} {Qb : Bool → Mem → Prop} {pos : Pos} {K : PySem.W.Frag}
theorem EE.to {e : Expr} {d : D} (h : EE X e sg M d) (q : Q d M) : WE X e sg M Q := h.imp fun x M1 ⟨e1, e2⟩ => by subst e1; subst e2; exact q
theorem ET.to {e : Expr} {b : Bool} (h : ET X e sg M b) (q : Qb b M) : WT X e sg M Qb := h.imp fun x M1 ⟨e1, e2⟩ => by subst e1; subst e2; exact q
theorem EA.to {es : List Expr} {ds : List D} {Ql : List D → Mem → Prop} (h : EA X es sg M ds) (q : Ql ds M) : WA X es sg M Ql := h.imp fun x M1 ⟨e1, e2⟩ => by subst e1; subst e2; exact q
theorem EE.is {e : Expr} {d d' : D} (h : EE X e sg M d) (q : d = d') : EE X e sg M d' := by rw [← q]; exact h
theorem ET.is {e : Expr} {d d' : Bool} (h : ET X e sg M d) (q : d = d') : ET X e sg M d' := by rw [← q]; exact h
theorem ee_v (i : Nat) {x : Str} {d : D} (hs : sg[i]? = some (some d)) (hN : X.N[i]? = some x := by rfl) (hv : Vis X.env.scope x := by first | exact Or.inl rfl | exact Or.inr (Or.inl rfl) | exact Or.inr (Or.inr rfl)) (hd : (x == ("__debug__" : Str)) = false := by decide) (hcd : (x == ("__classdict__" : Str)) = false := by decide) : EE X (.Name x pos) sg M d := we_v i hs ⟨rfl, rfl⟩ hN hv hd hcd
theorem ee_int {i : Int} {j : Nat} : EE X (.Constant (.int i) j pos) sg M (.int i) := we_int ⟨rfl, rfl⟩
theorem ee_bl {i : Bool} {j : Nat} : EE X (.Constant (.bool i) j pos) sg M (.bl i) := we_bl ⟨rfl, rfl⟩
theorem ee_non {j : Nat} : EE X (.Constant .none j pos) sg M .non := we_non ⟨rfl, rfl⟩
theorem ee_str {i : Str} {j : Nat} : EE X (.Constant (.str i) j pos) sg M (.str i) := we_str ⟨rfl, rfl⟩
theorem ee_gi {x : Str} {i : Int} {t : Tok} (hm : X.mg x = some (.int i t)) (hg : Gl X x := by rfl) (hd : (x == ("__debug__" : Str)) = false := by decide) : EE X (.Name x pos) sg M (.int i) := we_gi hm ⟨rfl, rfl⟩ hg hd
section
variable {a b : Expr} {i j : Int}
theorem ee_add (ha : EE X a sg M (.int i)) (hb : EE X b sg M (.int j)) : EE X (.BinOp a .Add b pos) sg M (.int (i + j)) := ee_op op_add ha hb (od_I0 ⟨rfl, rfl⟩)
theorem ee_sub (ha : EE X a sg M (.int i)) (hb : EE X b sg M (.int j)) : EE X (.BinOp a .Sub b pos) sg M (.int (i - j)) := ee_op op_sub ha hb (od_I0 ⟨rfl, rfl⟩)
theorem ee_mul (ha : EE X a sg M (.int i)) (hb : EE X b sg M (.int j)) (h : CMul i j) : EE X (.BinOp a .Mult b pos) sg M (.int (i * j)) := ee_op op_mul ha hb (od_I h ⟨rfl, rfl⟩)
theorem ee_fdiv (ha : EE X a sg M (.int i)) (hb : EE X b sg M (.int j)) (h : CDiv i j) : EE X (.BinOp a .FloorDiv b pos) sg M (.int (i / j)) := ee_op op_fdiv ha hb (od_I h ⟨rfl, rfl⟩)
theorem ee_mod (ha : EE X a sg M (.int i)) (hb : EE X b sg M (.int j)) (h : 0 < j) : EE X (.BinOp a .Mod b pos) sg M (.int (i % j)) := ee_op op_mod ha hb (od_I h ⟨rfl, rfl⟩)
theorem ee_neg (ha : EE X a sg M (.int i)) : EE X (.UnaryOp .USub a pos) sg M (.int (-i)) := WE.of (pe_un un_neg pe_w) fun σ H G w s => (ha σ H G w s).imp fun v H1 ⟨d, G1, M1, st, w1, r1, e, e2⟩ => by
  subst e; subst e2
  cases r1
  exact ⟨i, rfl, _, G1, M1, st, w1, .int _, rfl, rfl⟩
theorem ee_lt (ha : EE X a sg M (.int i)) (hb : EE X b sg M (.int j)) : EE X (.Compare a [.Lt] [b] pos) sg M (.bl (decide (i < j))) := ee_cmp op_lt ha hb (od_B0 ⟨rfl, rfl⟩)
theorem ee_le (ha : EE X a sg M (.int i)) (hb : EE X b sg M (.int j)) : EE X (.Compare a [.LtE] [b] pos) sg M (.bl (decide (i ≤ j))) := ee_cmp op_le ha hb (od_B0 ⟨rfl, rfl⟩)
theorem ee_gt (ha : EE X a sg M (.int i)) (hb : EE X b sg M (.int j)) : EE X (.Compare a [.Gt] [b] pos) sg M (.bl (decide (j < i))) := ee_cmp op_gt ha hb (od_B0 ⟨rfl, rfl⟩)
theorem ee_ge (ha : EE X a sg M (.int i)) (hb : EE X b sg M (.int j)) : EE X (.Compare a [.GtE] [b] pos) sg M (.bl (decide (j ≤ i))) := ee_cmp op_ge ha hb (od_B0 ⟨rfl, rfl⟩)
theorem ee_eqI (ha : EE X a sg M (.int i)) (hb : EE X b sg M (.int j)) : EE X (.Compare a [.Eq] [b] pos) sg M (.bl (decide (i = j))) := ee_cmp op_eq ha hb (od_eqI ⟨rfl, rfl⟩)
theorem ee_neI (ha : EE X a sg M (.int i)) (hb : EE X b sg M (.int j)) : EE X (.Compare a [.NotEq] [b] pos) sg M (.bl (!decide (i = j))) := ee_cmp op_ne ha hb (od_neI ⟨rfl, rfl⟩)
theorem et_lt (ha : EE X a sg M (.int i)) (hb : EE X b sg M (.int j)) : ET X (.Compare a [.Lt] [b] pos) sg M (decide (i < j)) := et_cmp op_lt ha hb (od_B0 ⟨_, rfl, rfl, rfl⟩)
theorem et_le (ha : EE X a sg M (.int i)) (hb : EE X b sg M (.int j)) : ET X (.Compare a [.LtE] [b] pos) sg M (decide (i ≤ j)) := et_cmp op_le ha hb (od_B0 ⟨_, rfl, rfl, rfl⟩)
theorem et_gt (ha : EE X a sg M (.int i)) (hb : EE X b sg M (.int j)) : ET X (.Compare a [.Gt] [b] pos) sg M (decide (j < i)) := et_cmp op_gt ha hb (od_B0 ⟨_, rfl, rfl, rfl⟩)
theorem et_ge (ha : EE X a sg M (.int i)) (hb : EE X b sg M (.int j)) : ET X (.Compare a [.GtE] [b] pos) sg M (decide (j ≤ i)) := et_cmp op_ge ha hb (od_B0 ⟨_, rfl, rfl, rfl⟩)
theorem et_eqI (ha : EE X a sg M (.int i)) (hb : EE X b sg M (.int j)) : ET X (.Compare a [.Eq] [b] pos) sg M (decide (i = j)) := et_cmp op_eq ha hb (od_eqI ⟨_, rfl, rfl, rfl⟩)
theorem et_neI (ha : EE X a sg M (.int i)) (hb : EE X b sg M (.int j)) : ET X (.Compare a [.NotEq] [b] pos) sg M (!decide (i = j)) := et_cmp op_ne ha hb (od_neI ⟨_, rfl, rfl, rfl⟩)
theorem ee_le_le {c : Expr} {l : Int} (ha : EE X a sg M (.int i)) (hb : EE X b sg M (.int j)) (hc : EE X c sg M (.int l)) (hm : lastMarks [.LtE, .LtE] [b, c] = false := by with_unfolding_all rfl) : EE X (.Compare a [.LtE, .LtE] [b, c] pos) sg M (.bl (decide (i ≤ j) && decide (j ≤ l))) := we_chain op_le op_le (tri_I (p := fun i j => decide (i ≤ j)) (p' := fun i j => decide (i ≤ j)) ha hb hc ⟨rfl, rfl⟩) hm
theorem et_le_le {c : Expr} {l : Int} (ha : EE X a sg M (.int i)) (hb : EE X b sg M (.int j)) (hc : EE X c sg M (.int l)) (hm : lastMarks [.LtE, .LtE] [b, c] = false := by with_unfolding_all rfl) : ET X (.Compare a [.LtE, .LtE] [b, c] pos) sg M (decide (i ≤ j) && decide (j ≤ l)) := wt_chain op_le op_le (tri_I (p := fun i j => decide (i ≤ j)) (p' := fun i j => decide (i ≤ j)) ha hb hc ⟨rfl, rfl⟩) hm
/-- isinstance of plain data -/
def isIns (T : String) (d : D) : Bool := (kitB (tyD d) T).getD false
theorem isIns_some {T : String} (h : ([("NoneType"), "bool", "int", "str", "tuple", "list"].all fun a => (kitB a T).isSome) = true) (d : D) : kitB (tyD d) T = some (isIns T d) := by
  unfold isIns
  have q : (kitB (tyD d) T).isSome = true := by
    have h' := List.all_eq_true.mp h
    cases d <;> exact h' _ (by simp [tyD])
  obtain ⟨b, e⟩ := Option.isSome_iff_exists.mp q
  rw [e]
  rfl
theorem k_int : ([("NoneType"), "bool", "int", "str", "tuple", "list"].all fun a => (kitB a "int").isSome) = true := by decide +kernel
theorem k_bool : ([("NoneType"), "bool", "int", "str", "tuple", "list"].all fun a => (kitB a "bool").isSome) = true := by decide +kernel
theorem k_str : ([("NoneType"), "bool", "int", "str", "tuple", "list"].all fun a => (kitB a "str").isSome) = true := by decide +kernel
theorem k_tuple : ([("NoneType"), "bool", "int", "str", "tuple", "list"].all fun a => (kitB a "tuple").isSome) = true := by decide +kernel
theorem k_list : ([("NoneType"), "bool", "int", "str", "tuple", "list"].all fun a => (kitB a "list").isSome) = true := by decide +kernel
def isI : D → Bool
  | .int _ => true
  | .bl _ => true
  | _ => false
def isB : D → Bool
  | .bl _ => true
  | _ => false
def isS : D → Bool
  | .str _ => true
  | _ => false
def isT : D → Bool
  | .tup _ => true
  | _ => false
def isL : D → Bool
  | .lst _ => true
  | .ptr _ => true
  | .scr _ => true
  | _ => false
theorem ins_int (d : D) : isIns "int" d = isI d := by cases d <;> rfl
theorem ins_bool (d : D) : isIns "bool" d = isB d := by cases d <;> rfl
theorem ins_str (d : D) : isIns "str" d = isS d := by cases d <;> rfl
theorem ins_tuple (d : D) : isIns "tuple" d = isT d := by cases d <;> rfl
theorem ins_list (d : D) : isIns "list" d = isL d := by cases d <;> rfl
theorem isI_of {d : D} (h : (isI d && !isB d) = true) : ∃ i, d = .int i := by cases d <;> first | exact ⟨_, rfl⟩ | cases h
theorem isB_of {d : D} (h : isB d = true) : ∃ i, d = .bl i := by cases d <;> first | exact ⟨_, rfl⟩ | cases h
theorem isS_of {d : D} (h : isS d = true) : ∃ i, d = .str i := by cases d <;> first | exact ⟨_, rfl⟩ | cases h
theorem isT_of {d : D} (h : isT d = true) : ∃ ds, d = .tup ds := by cases d <;> first | exact ⟨_, rfl⟩ | cases h
section
variable {e : Expr} {d : D} {p p2 : Pos}
theorem ee_isi {y : Str} {T : String} (hm : X.mg "isinstance" = none) (hmT : X.mg y = none) (hv : bootBuiltins y = some (.type T)) (hk : ([("NoneType"), "bool", "int", "str", "tuple", "list"].all fun a => (kitB a T).isSome) = true) (h : EE X e sg M d) (lk : LkD M d) (hg : Gl X "isinstance" := by rfl) (hgT : Gl X y := by rfl) (hn : y ≠ "__name__" := by decide) (hdb : (y == ("__debug__" : Str)) = false := by decide)
    (hs : starEach [e, .Name y p2] X.env = (false, eval e X.env) :: starEach [.Name y p2] X.env := by exact star1 rfl) (hs2 : starEach [.Name y p2] X.env = (false, eval (.Name y p2) X.env) :: starEach [] X.env := by exact star1 rfl) (hpl : (backTo pos (starEach [.Name y p2] X.env)).any (·.1) = false := by exact starN rfl) : EE X (.Call (.Name "isinstance" p) [e, .Name y p2] [] pos) sg M (.bl (isIns T d)) :=
  we_isi hm hmT hv (h.to ⟨lk, _, isIns_some hk d, rfl, rfl⟩) hg hgT hn hdb hs hs2 hpl
theorem ee_isI (hm : X.mg "isinstance" = none) (hmT : X.mg "int" = none) (h : EE X e sg M d) (lk : LkD M d) (hg : Gl X "isinstance" := by rfl) (hgT : Gl X "int" := by rfl)
    (hs : starEach [e, .Name "int" p2] X.env = (false, eval e X.env) :: starEach [.Name "int" p2] X.env := by exact star1 rfl) (hs2 : starEach [.Name "int" p2] X.env = (false, eval (.Name "int" p2) X.env) :: starEach [] X.env := by exact star1 rfl) (hpl : (backTo pos (starEach [.Name "int" p2] X.env)).any (·.1) = false := by exact starN rfl) : EE X (.Call (.Name "isinstance" p) [e, .Name "int" p2] [] pos) sg M (.bl (isI d)) := by
  rw [← ins_int]
  exact ee_isi hm hmT bi_int k_int h lk hg hgT (by decide) (by decide) hs hs2 hpl
theorem ee_isB (hm : X.mg "isinstance" = none) (hmT : X.mg "bool" = none) (h : EE X e sg M d) (lk : LkD M d) (hg : Gl X "isinstance" := by rfl) (hgT : Gl X "bool" := by rfl)
    (hs : starEach [e, .Name "bool" p2] X.env = (false, eval e X.env) :: starEach [.Name "bool" p2] X.env := by exact star1 rfl) (hs2 : starEach [.Name "bool" p2] X.env = (false, eval (.Name "bool" p2) X.env) :: starEach [] X.env := by exact star1 rfl) (hpl : (backTo pos (starEach [.Name "bool" p2] X.env)).any (·.1) = false := by exact starN rfl) : EE X (.Call (.Name "isinstance" p) [e, .Name "bool" p2] [] pos) sg M (.bl (isB d)) := by
  rw [← ins_bool]
  exact ee_isi hm hmT bi_bool k_bool h lk hg hgT (by decide) (by decide) hs hs2 hpl
theorem ee_isS (hm : X.mg "isinstance" = none) (hmT : X.mg "str" = none) (h : EE X e sg M d) (lk : LkD M d) (hg : Gl X "isinstance" := by rfl) (hgT : Gl X "str" := by rfl)
    (hs : starEach [e, .Name "str" p2] X.env = (false, eval e X.env) :: starEach [.Name "str" p2] X.env := by exact star1 rfl) (hs2 : starEach [.Name "str" p2] X.env = (false, eval (.Name "str" p2) X.env) :: starEach [] X.env := by exact star1 rfl) (hpl : (backTo pos (starEach [.Name "str" p2] X.env)).any (·.1) = false := by exact starN rfl) : EE X (.Call (.Name "isinstance" p) [e, .Name "str" p2] [] pos) sg M (.bl (isS d)) := by
  rw [← ins_str]
  exact ee_isi hm hmT bi_str k_str h lk hg hgT (by decide) (by decide) hs hs2 hpl
theorem ee_isT (hm : X.mg "isinstance" = none) (hmT : X.mg "tuple" = none) (h : EE X e sg M d) (lk : LkD M d) (hg : Gl X "isinstance" := by rfl) (hgT : Gl X "tuple" := by rfl)
    (hs : starEach [e, .Name "tuple" p2] X.env = (false, eval e X.env) :: starEach [.Name "tuple" p2] X.env := by exact star1 rfl) (hs2 : starEach [.Name "tuple" p2] X.env = (false, eval (.Name "tuple" p2) X.env) :: starEach [] X.env := by exact star1 rfl) (hpl : (backTo pos (starEach [.Name "tuple" p2] X.env)).any (·.1) = false := by exact starN rfl) : EE X (.Call (.Name "isinstance" p) [e, .Name "tuple" p2] [] pos) sg M (.bl (isT d)) := by
  rw [← ins_tuple]
  exact ee_isi hm hmT bi_tuple k_tuple h lk hg hgT (by decide) (by decide) hs hs2 hpl
theorem ee_isL (hm : X.mg "isinstance" = none) (hmT : X.mg "list" = none) (h : EE X e sg M d) (lk : LkD M d) (hg : Gl X "isinstance" := by rfl) (hgT : Gl X "list" := by rfl)
    (hs : starEach [e, .Name "list" p2] X.env = (false, eval e X.env) :: starEach [.Name "list" p2] X.env := by exact star1 rfl) (hs2 : starEach [.Name "list" p2] X.env = (false, eval (.Name "list" p2) X.env) :: starEach [] X.env := by exact star1 rfl) (hpl : (backTo pos (starEach [.Name "list" p2] X.env)).any (·.1) = false := by exact starN rfl) : EE X (.Call (.Name "isinstance" p) [e, .Name "list" p2] [] pos) sg M (.bl (isL d)) := by
  rw [← ins_list]
  exact ee_isi hm hmT bi_list k_list h lk hg hgT (by decide) (by decide) hs hs2 hpl
end
/-! calls of built-ins on one datum -/
section
variable {e : Expr} {d : D} {p : Pos} {ds : List D}
theorem ee_cb {id : String} {r : List V → Hp → VK → Prop} {x : Str} {es : List Expr} (hc : CallR X (.builtin id) r) (hm : X.mg x = none) (hv : bootBuiltins x = some (.builtin id)) (h : EA X (e :: es) sg M ds) (hcl : ClD X.K r ds M Q) (hg : Gl X x := by rfl) (hn : x ≠ "__name__" := by decide) (hdb : (x == ("__debug__" : Str)) = false := by decide)
    (he : starEach (e :: es) X.env = (false, eval e X.env) :: starEach es X.env := by exact star1 rfl) (hpl : (backTo pos (starEach es X.env)).any (·.1) = false := by exact starN rfl) : WE X (.Call (.Name x p) (e :: es) [] pos) sg M Q := we_cb hc hm hv (h.to hcl) hg hn hdb he hpl
theorem ee_ct {T : String} {r : List V → Hp → VK → Prop} {x : Str} {es : List Expr} (hc : CallR X (.type T) r) (hm : X.mg x = none) (hv : bootBuiltins x = some (.type T)) (h : EA X (e :: es) sg M ds) (hcl : ClD X.K r ds M Q) (hg : Gl X x := by rfl) (hn : x ≠ "__name__" := by decide) (hdb : (x == ("__debug__" : Str)) = false := by decide)
    (he : starEach (e :: es) X.env = (false, eval e X.env) :: starEach es X.env := by exact star1 rfl) (hpl : (backTo pos (starEach es X.env)).any (·.1) = false := by exact starN rfl) : WE X (.Call (.Name x p) (e :: es) [] pos) sg M Q := we_ct hc hm hv (h.to hcl) hg hn hdb he hpl
end
end
end
/-- the names of built-ins that the top leaves alone -/
structure Blt (mg : Str → Option Value) : Prop where
  isinstance : mg "isinstance" = none
  int : mg "int" = none
  bool : mg "bool" = none
  str : mg "str" = none
  tuple : mg "tuple" = none
  list : mg "list" = none
  len : mg "len" = none
  all : mg "all" = none
  any : mg "any" = none
  sum : mg "sum" = none
  max : mg "max" = none
  min : mg "min" = none
  sorted : mg "sorted" = none
  range : mg "range" = none
  enumerate : mg "enumerate" = none
  zip : mg "zip" = none
end DL
namespace DL
open PySem L2 PyProof.Rows HT
/-- the def x of the text stands behind the top -/
def Df (K : PySem.W.Frag) (mg : Str → Option Value) (x : Str) (st : Stmt) (ps : List Str) : Prop := ∃ f fd, Fun K x x st f fd ∧ mg x = some (.ref f) ∧ Binds K fd ps []
theorem dfn' {P : Program} {w : World} {K : PySem.W.Frag} {mg : Str → Option Value} {base : Heap} {x : Str} {st : Stmt} {N ps : List Str} {k n : Nat} {S : SpD} (F : Df K mg x st ps) (sc : FnScope N ps (defScope st)) (hn : ps.length = n)
    (body : ∀ (f : Addr) (cdv : Value) (A : Around) (outer : List Env) (s : Shared) (H : Hp) (E : XK) (ds : List D) (M : Mem) (Q : D → Mem → Prop), Room k (A.deeper (envOfC x (defScope st) s.heap.objs.size f cdv)) → ds.length = n → S ds M Q →
      WSs (cxOf CX0 P w K mg base N x (defScope st) f cdv A outer s H E).nox (defBody st) (startD N ds) M { nx := fun _ M' => Q .non M', rt := Q }) : Cal P w K mg base (k + 1) x n S := by
  obtain ⟨f, fd, F, hm, hb⟩ := F
  exact dfn F sc hn hm hb (body f)
end DL
set_option Elab.async false
set_option linter.all false
set_option maxRecDepth 100000
set_option maxHeartbeats 4000000
/-! DLi: comprehensions in short. -/
namespace DL
open PySem L2 PyProof.Rows HT
section
variable {X : Cx} {sg : Sg} {M : Mem} {E : EndsD} {Q : D → Mem → Prop} {pos : Pos} {K : PySem.W.Frag}
abbrev ItQ (ds : List D) (M : Mem) : List D → (Mem → Prop) → Mem → Prop := fun ds' C M0 => ds' = ds ∧ M0 = M ∧ C M
section
variable {elt iter : Expr} {scope : Scope} {x y : Str} {px py pt : Pos} {kt : Nat} {ds : List D}
theorem blk_kind {C : Addr} {cl : List (Str × Addr)} {k : NameKind} {x : Str} {scope : Scope} (hk : k ≠ .free) (h : scope.names.lookup x = some k) : (compEnvC scope cl C X.env).scope.names.lookup x = some k := lookup_relS_keep (sc := X.env.scope) hk h
theorem blk_name (i : Nat) {vs : List Nat} {sg1 : Sg} {d : D} (hN : X.N.Nodup) (hx : scope.names.lookup x = some .local ∨ scope.names.lookup x = some .cell) (hi : X.N[i]? = some x) : Blk X scope fun Y => WG Y (.Name x px) [i] d sg1 (sg1.set i (some d)) := fun s H C cl fp => by
  rcases hx with h | h
  · exact wg_name i hN hi (.inl (blk_kind (by decide) h)) (.inr (blk_kind (by decide) h))
  · refine wg_name i hN hi (.inr (blk_kind (by decide) h)) (.inl ?_)
    show (scope.names.lookup x == some .cell) = true
    rw [h]
    rfl
/-- a turn whose target is one name -/
theorem turn1 (i : Nat) {ifs : List Expr} {vs : List Nat} {d : D} {M1 : Mem} {QT : D → Mem → Prop} {QF : Mem → Prop} (hv : i ∈ vs) (hN : X.N.Nodup) (hx : scope.names.lookup x = some .local ∨ scope.names.lookup x = some .cell) (hi : X.N[i]? = some x)
    (QB : Bool → Mem → Prop) (ht : Blk X scope fun Y => WTs Y ifs ((wipeD sg vs).set i (some d)) M1 QB) (he : ∀ M2, QB true M2 → Blk X scope fun Y => WE Y elt ((wipeD sg vs).set i (some d)) M2 QT) (hf : ∀ M2, QB false M2 → QF M2) : LcTurn X scope vs (.Name x px) elt ifs sg d M1 QT QF :=
  ⟨[i], _, fun j hj => by rw [List.mem_singleton.mp hj]; exact hv, blk_name (vs := vs) i hN hx hi, QB, ht, he, hf⟩
/-- .. two names -/
theorem turn2 (i j : Nat) {ifs : List Expr} {vs : List Nat} {a b : D} {M1 : Mem} {QT : D → Mem → Prop} {QF : Mem → Prop} (hv : i ∈ vs) (hw : j ∈ vs) (hc : X.calm = true) (hN : X.N.Nodup) (hx : scope.names.lookup x = some .local ∨ scope.names.lookup x = some .cell) (hi : X.N[i]? = some x) (hy : scope.names.lookup y = some .local ∨ scope.names.lookup y = some .cell) (hj : X.N[j]? = some y)
    (QB : Bool → Mem → Prop) (ht : Blk X scope fun Y => WTs Y ifs (((wipeD sg vs).set i (some a)).set j (some b)) M1 QB) (he : ∀ M2, QB true M2 → Blk X scope fun Y => WE Y elt (((wipeD sg vs).set i (some a)).set j (some b)) M2 QT) (hf : ∀ M2, QB false M2 → QF M2) : LcTurn X scope vs (.Tuple [.Name x px, .Name y py] kt pt) elt ifs sg (.tup [a, b]) M1 QT QF := by
  refine ⟨[i] ++ ([j] ++ []), ((wipeD sg vs).set i (some a)).set j (some b), fun l hl => ?_, fun s H C cl fp => wg_tup hc (wgs_cons (blk_name (vs := vs) i hN hx hi s H C cl fp) (wgs_cons (blk_name (vs := vs) j hN hy hj s H C cl fp) wgs_nil)), QB, ht, he, hf⟩
  rcases List.mem_append.mp hl with h | h
  · rw [List.mem_singleton.mp h]; exact hv
  · rcases List.mem_append.mp h with h | h
    · rw [List.mem_singleton.mp h]; exact hw
    · cases h
/-- [elt for x in iter], nothing changing -/
theorem ok_lc1 (i : Nat) (f : D → D) (hc : X.calm = true) (hN : X.N.Nodup) (hz : ds.length < sizeLine) (h : ∀ (j : Nat) (d : D), ds[j]? = some d → Blk X scope fun Y => EE Y elt ((wipeD sg [i]).set i (some d)) M (f d))
    (ok : BlkOk X.N X.env.scope scope [(x, i)] := by exact blkOk_by (by with_unfolding_all rfl)) (hx : scope.names.lookup x = some .local ∨ scope.names.lookup x = some .cell := by first | exact Or.inl rfl | exact Or.inr rfl) : LcOk X scope [i] (.Name x px) elt [] sg (ItQ ds M) fun x M' => x = (.lst (ds.map f)) ∧ M' = M :=
  fun ds' C M0 ⟨e1, e2, hC⟩ => by
    subst e1; subst e2
    refine ⟨fun j acc M1 => j ≤ ds'.length ∧ acc = (ds'.take j).map f ∧ M1 = M0, ⟨Nat.zero_le _, rfl, rfl⟩, fun j acc M1 ⟨hj, e1, e2⟩ => ?_, fun j d acc M1 hd ⟨hj, e1, e2⟩ => ?_, fun acc M1 ⟨_, e1, e2⟩ => ?_⟩
    · subst e1; subst e2
      refine ⟨hC, ?_⟩
      rw [List.length_map, List.length_take]
      omega
    · subst e1; subst e2
      refine turn1 i (List.mem_singleton.mpr rfl) hN hx (ok.ix _ (List.mem_singleton.mpr rfl)) (fun b M2 => b = true ∧ M2 = M1) (fun _ _ _ _ _ => ⟨rfl, rfl⟩) (fun M2 ⟨_, e⟩ => ?_) (fun M2 ⟨e, _⟩ => Bool.noConfusion e)
      subst e
      exact fun s H C cl fp => (h j d hd s H C cl fp).imp fun z M3 ⟨e3, e4⟩ => ⟨(List.getElem?_eq_some_iff.mp hd).1, by rw [e3, List.take_add_one, hd, List.map_append]; rfl, e4⟩
    · rw [List.take_length] at e1
      subst e1
      exact ⟨rfl, e2⟩
theorem ee_lc1 (i : Nat) (f : D → D) (hc : X.calm = true) (hN : X.N.Nodup) (hi : WI X (.Name x px) iter sg M (ItQ ds M)) (hz : ds.length < sizeLine) (h : ∀ (j : Nat) (d : D), ds[j]? = some d → Blk X scope fun Y => EE Y elt ((wipeD sg [i]).set i (some d)) M (f d))
    (ok : BlkOk X.N X.env.scope scope [(x, i)] := by exact blkOk_by (by with_unfolding_all rfl)) (hx : scope.names.lookup x = some .local ∨ scope.names.lookup x = some .cell := by first | exact Or.inl rfl | exact Or.inr rfl) (hs : ∀ x, foldedSetIterable iter X.env x = pure x := by intro _; rfl) : EE X (.ListComp elt [⟨.Name x px, iter, [], 0⟩] scope pos) sg M (.lst (ds.map f)) :=
  we_lc [(x, i)] hc hN ok hi (ok_lc1 i f hc hN hz h ok hx) (Nat.zero_le _) hs
/-- [elt for x in iter if c] -/
theorem ok_lc1if {c : Expr} (i : Nat) (p : D → Bool) (f : D → D) (hc : X.calm = true) (hN : X.N.Nodup) (hz : ds.length < sizeLine) (ht : ∀ (j : Nat) (d : D), ds[j]? = some d → Blk X scope fun Y => ET Y c ((wipeD sg [i]).set i (some d)) M (p d)) (h : ∀ (j : Nat) (d : D), ds[j]? = some d → p d = true → Blk X scope fun Y => EE Y elt ((wipeD sg [i]).set i (some d)) M (f d))
    (ok : BlkOk X.N X.env.scope scope [(x, i)] := by exact blkOk_by (by with_unfolding_all rfl)) (hx : scope.names.lookup x = some .local ∨ scope.names.lookup x = some .cell := by first | exact Or.inl rfl | exact Or.inr rfl) : LcOk X scope [i] (.Name x px) elt [c] sg (ItQ ds M) fun x M' => x = (.lst ((ds.filter p).map f)) ∧ M' = M :=
  fun ds' C M0 ⟨e1, e2, hC⟩ => by
    subst e1; subst e2
    refine ⟨fun j acc M1 => j ≤ ds'.length ∧ acc = ((ds'.take j).filter p).map f ∧ M1 = M0, ⟨Nat.zero_le _, rfl, rfl⟩, fun j acc M1 ⟨hj, e1, e2⟩ => ?_, fun j d acc M1 hd ⟨hj, e1, e2⟩ => ?_, fun acc M1 ⟨_, e1, e2⟩ => ?_⟩
    · subst e1; subst e2
      refine ⟨hC, ?_⟩
      rw [List.length_map]
      have a1 := List.length_filter_le p (ds'.take j)
      rw [List.length_take] at a1
      omega
    · subst e1; subst e2
      have hlt := (List.getElem?_eq_some_iff.mp hd).1
      have tk : ds'.take (j + 1) = ds'.take j ++ [d] := by rw [List.take_add_one, hd]; rfl
      refine turn1 i (List.mem_singleton.mpr rfl) hN hx (ok.ix _ (List.mem_singleton.mpr rfl)) (fun b M2 => b = p d ∧ M2 = M1) (ht j d hd) (fun M2 ⟨e3, e⟩ => ?_) (fun M2 ⟨e3, e⟩ => ⟨hlt, ?_, e⟩)
      · subst e
        refine fun s H C cl fp => (h j d hd e3.symm s H C cl fp).imp fun z M3 ⟨e5, e4⟩ => ⟨hlt, ?_, e4⟩
        rw [e5, tk, List.filter_append, List.map_append, List.filter_cons_of_pos e3.symm]
        rfl
      · rw [tk, List.filter_append, List.filter_cons_of_neg (by rw [← e3]; exact Bool.false_ne_true), List.filter_nil, List.append_nil]
    · rw [List.take_length] at e1
      subst e1
      exact ⟨rfl, e2⟩
theorem ee_lc1if {c : Expr} (i : Nat) (p : D → Bool) (f : D → D) (hc : X.calm = true) (hN : X.N.Nodup) (hi : WI X (.Name x px) iter sg M (ItQ ds M)) (hz : ds.length < sizeLine) (ht : ∀ (j : Nat) (d : D), ds[j]? = some d → Blk X scope fun Y => ET Y c ((wipeD sg [i]).set i (some d)) M (p d)) (h : ∀ (j : Nat) (d : D), ds[j]? = some d → p d = true → Blk X scope fun Y => EE Y elt ((wipeD sg [i]).set i (some d)) M (f d))
    (ok : BlkOk X.N X.env.scope scope [(x, i)] := by exact blkOk_by (by with_unfolding_all rfl)) (hx : scope.names.lookup x = some .local ∨ scope.names.lookup x = some .cell := by first | exact Or.inl rfl | exact Or.inr rfl) (hs : ∀ x, foldedSetIterable iter X.env x = pure x := by intro _; rfl) : EE X (.ListComp elt [⟨.Name x px, iter, [c], 0⟩] scope pos) sg M (.lst ((ds.filter p).map f)) :=
  we_lc [(x, i)] hc hN ok hi (ok_lc1if i p f hc hN hz ht h ok hx) (Nat.le_refl _) hs
def fstD : D → D
  | .tup (a :: _) => a
  | _ => .non
def sndD : D → D
  | .tup (_ :: b :: _) => b
  | _ => .non
/-- [elt for x, y in iter] -/
theorem ok_lc2 (i j : Nat) (f : D → D → D) (hc : X.calm = true) (hN : X.N.Nodup) (hz : ds.length < sizeLine) (h : ∀ (l : Nat) (d : D), ds[l]? = some d → ∃ a b, d = .tup [a, b] ∧ Blk X scope fun Y => EE Y elt (((wipeD sg [i, j]).set i (some a)).set j (some b)) M (f a b))
    (ok : BlkOk X.N X.env.scope scope [(x, i), (y, j)] := by exact blkOk_by (by with_unfolding_all rfl)) (hx : scope.names.lookup x = some .local ∨ scope.names.lookup x = some .cell := by first | exact Or.inl rfl | exact Or.inr rfl) (hy : scope.names.lookup y = some .local ∨ scope.names.lookup y = some .cell := by first | exact Or.inl rfl | exact Or.inr rfl) : LcOk X scope [i, j] (.Tuple [.Name x px, .Name y py] kt pt) elt [] sg (ItQ ds M) fun x M' => x = (.lst (ds.map fun d => f (fstD d) (sndD d))) ∧ M' = M :=
  fun ds' C M0 ⟨e1, e2, hC⟩ => by
    subst e1; subst e2
    refine ⟨fun l acc M1 => l ≤ ds'.length ∧ acc = (ds'.take l).map (fun d => f (fstD d) (sndD d)) ∧ M1 = M0, ⟨Nat.zero_le _, rfl, rfl⟩, fun l acc M1 ⟨hj, e1, e2⟩ => ?_, fun l d acc M1 hd ⟨hj, e1, e2⟩ => ?_, fun acc M1 ⟨_, e1, e2⟩ => ?_⟩
    · subst e1; subst e2
      refine ⟨hC, ?_⟩
      rw [List.length_map, List.length_take]
      omega
    · subst e1; subst e2
      obtain ⟨a, b, ed, hb⟩ := h l d hd
      subst ed
      refine turn2 i j (by simp) (by simp) hc hN hx (ok.ix (x, i) (by simp)) hy (ok.ix (y, j) (by simp)) (fun b M2 => b = true ∧ M2 = M1) (fun _ _ _ _ _ => ⟨rfl, rfl⟩) (fun M2 ⟨_, e⟩ => ?_) (fun M2 ⟨e, _⟩ => Bool.noConfusion e)
      subst e
      exact fun s H C cl fp => (hb s H C cl fp).imp fun z M3 ⟨e3, e4⟩ => ⟨(List.getElem?_eq_some_iff.mp hd).1, by rw [e3, List.take_add_one, hd, List.map_append]; rfl, e4⟩
    · rw [List.take_length] at e1
      subst e1
      exact ⟨rfl, e2⟩
theorem ee_lc2 (i j : Nat) (f : D → D → D) (hc : X.calm = true) (hN : X.N.Nodup) (hi : WI X (.Tuple [.Name x px, .Name y py] kt pt) iter sg M (ItQ ds M)) (hz : ds.length < sizeLine) (h : ∀ (l : Nat) (d : D), ds[l]? = some d → ∃ a b, d = .tup [a, b] ∧ Blk X scope fun Y => EE Y elt (((wipeD sg [i, j]).set i (some a)).set j (some b)) M (f a b))
    (ok : BlkOk X.N X.env.scope scope [(x, i), (y, j)] := by exact blkOk_by (by with_unfolding_all rfl)) (hx : scope.names.lookup x = some .local ∨ scope.names.lookup x = some .cell := by first | exact Or.inl rfl | exact Or.inr rfl) (hy : scope.names.lookup y = some .local ∨ scope.names.lookup y = some .cell := by first | exact Or.inl rfl | exact Or.inr rfl) (hs : ∀ x, foldedSetIterable iter X.env x = pure x := by intro _; rfl) : EE X (.ListComp elt [⟨.Tuple [.Name x px, .Name y py] kt pt, iter, [], 0⟩] scope pos) sg M (.lst (ds.map fun d => f (fstD d) (sndD d))) :=
  we_lc [(x, i), (y, j)] hc hN ok hi (ok_lc2 i j f hc hN hz h ok hx hy) (Nat.zero_le _) hs
/-- [elt for x, y in iter if c] -/
theorem ok_lc2if {c : Expr} (i j : Nat) (p : D → D → Bool) (f : D → D → D) (hc : X.calm = true) (hN : X.N.Nodup) (hz : ds.length < sizeLine) (h : ∀ (l : Nat) (d : D), ds[l]? = some d → ∃ a b, d = .tup [a, b] ∧ (Blk X scope fun Y => ET Y c (((wipeD sg [i, j]).set i (some a)).set j (some b)) M (p a b)) ∧ (p a b = true → Blk X scope fun Y => EE Y elt (((wipeD sg [i, j]).set i (some a)).set j (some b)) M (f a b)))
    (ok : BlkOk X.N X.env.scope scope [(x, i), (y, j)] := by exact blkOk_by (by with_unfolding_all rfl)) (hx : scope.names.lookup x = some .local ∨ scope.names.lookup x = some .cell := by first | exact Or.inl rfl | exact Or.inr rfl) (hy : scope.names.lookup y = some .local ∨ scope.names.lookup y = some .cell := by first | exact Or.inl rfl | exact Or.inr rfl) : LcOk X scope [i, j] (.Tuple [.Name x px, .Name y py] kt pt) elt [c] sg (ItQ ds M) fun x M' => x = (.lst ((ds.filter fun d => p (fstD d) (sndD d)).map fun d => f (fstD d) (sndD d))) ∧ M' = M :=
  fun ds' C M0 ⟨e1, e2, hC⟩ => by
    subst e1; subst e2
    refine ⟨fun l acc M1 => l ≤ ds'.length ∧ acc = ((ds'.take l).filter fun d => p (fstD d) (sndD d)).map (fun d => f (fstD d) (sndD d)) ∧ M1 = M0, ⟨Nat.zero_le _, rfl, rfl⟩, fun l acc M1 ⟨hj, e1, e2⟩ => ?_, fun l d acc M1 hd ⟨hj, e1, e2⟩ => ?_, fun acc M1 ⟨_, e1, e2⟩ => ?_⟩
    · subst e1; subst e2
      refine ⟨hC, ?_⟩
      rw [List.length_map]
      have a1 := List.length_filter_le (fun d => p (fstD d) (sndD d)) (ds'.take l)
      rw [List.length_take] at a1
      omega
    · subst e1; subst e2
      obtain ⟨a, b, ed, ht, hb⟩ := h l d hd
      subst ed
      have hlt := (List.getElem?_eq_some_iff.mp hd).1
      have tk : ds'.take (l + 1) = ds'.take l ++ [D.tup [a, b]] := by rw [List.take_add_one, hd]; rfl
      refine turn2 i j (by simp) (by simp) hc hN hx (ok.ix (x, i) (by simp)) hy (ok.ix (y, j) (by simp)) (fun k M2 => k = p a b ∧ M2 = M1) ht (fun M2 ⟨e3, e⟩ => ?_) (fun M2 ⟨e3, e⟩ => ⟨hlt, ?_, e⟩)
      · subst e
        refine fun s H C cl fp => (hb e3.symm s H C cl fp).imp fun z M3 ⟨e5, e4⟩ => ⟨hlt, ?_, e4⟩
        have e6 : (fun d => p (fstD d) (sndD d)) (.tup [a, b]) = true := e3.symm
        rw [e5, tk, List.filter_append, List.map_append, List.filter_cons_of_pos (p := fun d => p (fstD d) (sndD d)) e6]
        rfl
      · have e6 : ¬ (fun d => p (fstD d) (sndD d)) (.tup [a, b]) = true := by
          show ¬ p a b = true
          rw [← e3]
          exact Bool.false_ne_true
        rw [tk, List.filter_append, List.filter_cons_of_neg (p := fun d => p (fstD d) (sndD d)) e6, List.filter_nil, List.append_nil]
    · rw [List.take_length] at e1
      subst e1
      exact ⟨rfl, e2⟩
theorem ee_lc2if {c : Expr} (i j : Nat) (p : D → D → Bool) (f : D → D → D) (hc : X.calm = true) (hN : X.N.Nodup) (hi : WI X (.Tuple [.Name x px, .Name y py] kt pt) iter sg M (ItQ ds M)) (hz : ds.length < sizeLine) (h : ∀ (l : Nat) (d : D), ds[l]? = some d → ∃ a b, d = .tup [a, b] ∧ (Blk X scope fun Y => ET Y c (((wipeD sg [i, j]).set i (some a)).set j (some b)) M (p a b)) ∧ (p a b = true → Blk X scope fun Y => EE Y elt (((wipeD sg [i, j]).set i (some a)).set j (some b)) M (f a b)))
    (ok : BlkOk X.N X.env.scope scope [(x, i), (y, j)] := by exact blkOk_by (by with_unfolding_all rfl)) (hx : scope.names.lookup x = some .local ∨ scope.names.lookup x = some .cell := by first | exact Or.inl rfl | exact Or.inr rfl) (hy : scope.names.lookup y = some .local ∨ scope.names.lookup y = some .cell := by first | exact Or.inl rfl | exact Or.inr rfl) (hs : ∀ x, foldedSetIterable iter X.env x = pure x := by intro _; rfl) : EE X (.ListComp elt [⟨.Tuple [.Name x px, .Name y py] kt pt, iter, [c], 0⟩] scope pos) sg M (.lst ((ds.filter fun d => p (fstD d) (sndD d)).map fun d => f (fstD d) (sndD d))) :=
  we_lc [(x, i), (y, j)] hc hN ok hi (ok_lc2if i j p f hc hN hz h ok hx hy) (Nat.le_refl _) hs
end
theorem LcOk.imp {scope : Scope} {vs : List Nat} {tg elt : Expr} {ifs : List Expr} {Qi : List D → (Mem → Prop) → Mem → Prop} {Q' : D → Mem → Prop} (h : LcOk X scope vs tg elt ifs sg Qi Q) (k : ∀ d M', Q d M' → Q' d M') : LcOk X scope vs tg elt ifs sg Qi Q' := fun ds C M0 q => let ⟨Pv, a, b, c, d⟩ := h ds C M0 q; ⟨Pv, a, b, c, fun acc M1 z => k _ _ (d acc M1 z)⟩
theorem LcOk.to {scope : Scope} {vs : List Nat} {tg elt : Expr} {ifs : List Expr} {Qi : List D → (Mem → Prop) → Mem → Prop} {d : D} (h : LcOk X scope vs tg elt ifs sg Qi fun x M' => x = d ∧ M' = M) (q : Q d M) : LcOk X scope vs tg elt ifs sg Qi Q := h.imp fun x M' ⟨e1, e2⟩ => by subst e1; subst e2; exact q
/-- an expression assigned to a name by a comprehension on one line: the rule for the plain one serves, where it changes nothing -/
theorem ws_setLcE (i : Nat) {y : Str} {py : Pos} {iter elt tg : Expr} {ifs : List Expr} {scope : Scope} {spos : Pos} (own : List (Str × Nat)) {Qi : List D → (Mem → Prop) → Mem → Prop} (hc : X.calm = true) (hN : X.N.Nodup) (hi : WI X tg iter sg M Qi) (h : LcOk X scope (own.map (·.2)) tg elt ifs sg Qi fun d M1 => E.nx (sg.set i (some d)) M1)
    (ok : BlkOk X.N X.env.scope scope own := by exact blkOk_by (by with_unfolding_all rfl)) (hif : ifs.length ≤ 1 := by decide) (hy : X.N[i]? = some y := by rfl) (hyl : X.env.scope.names.lookup y = some .local := by rfl) (hsw : swapsWith (.ListComp elt [⟨tg, iter, ifs, 0⟩] scope pos) (some (.Name y py)) spos.line X.env = pure true := by exact sw_true rfl rfl rfl (by decide +kernel)) (hs : ∀ x, foldedSetIterable iter X.env x = pure x := by intro _; rfl) : WS X (.Assign [.Name y py] (.ListComp elt [⟨tg, iter, ifs, 0⟩] scope pos) spos) sg M E := ws_setLc i own hc hN ok hi h hif hy hyl hsw hs
end
end DL
set_option Elab.async false
set_option linter.all false
set_option maxRecDepth 100000
set_option maxHeartbeats 4000000
/-! DLj: what the first law had of its own and every law can use. -/
namespace DL
open PySem L2 PyProof.Rows HT
def isW (d : D) : Bool := isI d && !isB d
theorem pl_lk {x : D} (M : Mem) (h : pl x = true) : LkD M x := by cases x <;> first | exact trivial | cases h
theorem plA_at : ∀ {ds : List D} {i : Nat} {d : D}, plA ds = true → ds[i]? = some d → pl d = true
  | [], i, _, _, h => by simp at h
  | d :: ds, 0, _, h, e => by
    simp at e
    subst e
    exact (Bool.and_eq_true_iff.mp h).1
  | d :: ds, i + 1, _, h, e => plA_at (Bool.and_eq_true_iff.mp h).2 (by simpa using e)
def itemsD : D → List D
  | .tup ds => ds
  | _ => []
def intOf : D → Int
  | .int i => i
  | _ => 0
def Ok (x : D) : Prop := pl x = true ∧ (itemsD x).length < 1000
theorem enumD_at {ds : List D} {i : Nat} {d : D} (hd : (enumD ds)[i]? = some d) : ∃ c, ds[i]? = some c ∧ d = .tup [.int (i : Int), c] := by
  unfold enumD at hd
  rw [List.getElem?_mapIdx] at hd
  cases e : ds[i]? with
  | none => rw [e] at hd; cases hd
  | some c => rw [e] at hd; exact ⟨c, rfl, (Option.some.inj hd).symm⟩
theorem mapIdx_map {α β γ : Type} (f : Nat → α → β) (g : β → γ) (l : List α) : (l.mapIdx f).map g = l.mapIdx fun i a => g (f i a) := by
  apply List.ext_getElem?
  intro i
  rw [List.getElem?_map, List.getElem?_mapIdx, List.getElem?_mapIdx, Option.map_map]
  rfl
theorem lt1000 {n : Nat} (h : n < 1000) : n < sizeLine := Nat.lt_of_lt_of_le h (by decide)
theorem getD_at {α : Type} {l : List α} {i : Nat} {d : α} (h : i < l.length) : l.getD i d = l[i] := by simp [List.getD, h]
abbrev tI (ps : List Int) : D := .tup (ps.map .int)
theorem enumD_ints (ps : List Int) : enumD (ps.map D.int) = ps.zipIdx.map fun q => .tup [.int (q.2 : Int), .int q.1] := by
  unfold enumD
  apply List.ext_getElem?
  intro i
  rw [List.getElem?_mapIdx, List.getElem?_map, List.getElem?_map, List.getElem?_zipIdx, Option.map_map, Option.map_map]
  simp only [Nat.zero_add]
  rfl
theorem atI_ints {ps : List Int} {i : Int} (h0 : 0 ≤ i) (h1 : i < ps.length) : atI (ps.map D.int) i = some (.int (ps.getD i.toNat 0)) := by
  have e : i = ((i.toNat : Nat) : Int) := by omega
  have hl : i.toNat < ps.length := by omega
  rw [e]
  refine atI_nat ?_
  rw [List.getElem?_map, List.getElem?_eq_getElem hl, getD_at (by omega)]
  rfl
theorem cut_to {α : Type} {xs : List α} {k : Int} (h0 : 0 ≤ k) (h1 : k ≤ xs.length) : DL.cutD xs none (some k) = xs.take k.toNat := by
  unfold DL.cutD
  have e : k = ((k.toNat : Nat) : Int) := by omega
  rw [e, HT.sIx_nat, HT.sIx_none, List.drop_zero, Nat.sub_zero, ← e, Nat.min_eq_left (by omega)]
theorem cut_from {α : Type} {xs : List α} {k : Int} (h0 : 0 ≤ k) (h1 : k ≤ xs.length) : DL.cutD xs (some k) none = xs.drop k.toNat := by
  unfold DL.cutD
  have e : k = ((k.toNat : Nat) : Int) := by omega
  rw [e, HT.sIx_nat, HT.sIx_none, ← e, Nat.min_eq_left (by omega), ← List.length_drop, List.take_length]
theorem at_map {α β : Type} {f : α → β} {l : List α} {i : Nat} {d : β} (h : (l.map f)[i]? = some d) : ∃ a, l[i]? = some a ∧ d = f a := by
  rw [List.getElem?_map] at h
  cases e : l[i]? with
  | none => rw [e] at h; cases h
  | some a => rw [e] at h; exact ⟨a, rfl, (Option.some.inj h).symm⟩
theorem dec_not (p : Prop) [Decidable p] : (!decide p) = decide (¬ p) := by by_cases h : p <;> simp [h]
theorem Mem.ext {M M' : Mem} (h : M.f = M'.f) (h' : M.b = M'.b) : M = M' := by
  cases M; cases M'
  cases h; cases h'
  rfl
theorem updM_upd {M : Mem} {p : Addr} {a b : Option MO} : updM (updM M p a) p b = updM M p b := by
  refine Mem.ext ?_ rfl
  funext q
  show (if q = p then b else if q = p then a else M.f q) = if q = p then b else M.f q
  split <;> rfl
theorem updM_id {M : Mem} {p : Addr} {a : Option MO} (h : M p = a) : updM M p a = M := by
  refine Mem.ext ?_ rfl
  funext q
  show (if q = p then a else M.f q) = M.f q
  split
  · rename_i e; rw [e, ← h]
  · rfl
def wf (L : Nat) : Nat → D → Bool
  | 0, _ => false
  | n + 1, .tup ds => decide (ds.length ≤ L) && ds.all (wf L n)
  | n + 1, .lst ds => decide (ds.length ≤ L) && ds.all (wf L n)
  | _ + 1, .ptr _ => false
  | _ + 1, .scr _ => false
  | _ + 1, _ => true
theorem plA_all : ∀ {ds : List D}, (∀ d ∈ ds, pl d = true) → plA ds = true
  | [], _ => rfl
  | d :: ds, h => Bool.and_eq_true_iff.mpr ⟨h d List.mem_cons_self, plA_all fun x hx => h x (List.mem_cons_of_mem _ hx)⟩
theorem wf_pl {L : Nat} : ∀ {n : Nat} {d : D}, wf L n d = true → pl d = true
  | 0, _, h => by cases h
  | n + 1, .tup ds, h => plA_all fun d hd => wf_pl (List.all_eq_true.mp (Bool.and_eq_true_iff.mp h).2 d hd)
  | n + 1, .lst ds, h => plA_all fun d hd => wf_pl (List.all_eq_true.mp (Bool.and_eq_true_iff.mp h).2 d hd)
  | n + 1, .ptr _, h => by cases h
  | n + 1, .scr _, h => by cases h
  | n + 1, .non, _ => rfl
  | n + 1, .bl _, _ => rfl
  | n + 1, .int _, _ => rfl
  | n + 1, .str _, _ => rfl
theorem wf_mono {L L' : Nat} (hL : L ≤ L') : ∀ {n m : Nat} {d : D}, n ≤ m → wf L n d = true → wf L' m d = true
  | 0, _, _, _, h => by cases h
  | n + 1, 0, _, hm, _ => absurd hm (by omega)
  | n + 1, m + 1, .tup ds, hm, h => by
    have q := Bool.and_eq_true_iff.mp h
    have q1 := of_decide_eq_true q.1
    exact Bool.and_eq_true_iff.mpr ⟨decide_eq_true (by omega), List.all_eq_true.mpr fun d hd => wf_mono hL (by omega) (List.all_eq_true.mp q.2 d hd)⟩
  | n + 1, m + 1, .lst ds, hm, h => by
    have q := Bool.and_eq_true_iff.mp h
    have q1 := of_decide_eq_true q.1
    exact Bool.and_eq_true_iff.mpr ⟨decide_eq_true (by omega), List.all_eq_true.mpr fun d hd => wf_mono hL (by omega) (List.all_eq_true.mp q.2 d hd)⟩
  | n + 1, m + 1, .ptr _, _, h => by cases h
  | n + 1, m + 1, .scr _, _, h => by cases h
  | n + 1, m + 1, .non, _, _ => rfl
  | n + 1, m + 1, .bl _, _, _ => rfl
  | n + 1, m + 1, .int _, _, _ => rfl
  | n + 1, m + 1, .str _, _, _ => rfl
theorem wf_tup {L n : Nat} {ds : List D} (h : wf L (n + 1) (.tup ds) = true) : ds.length ≤ L ∧ ∀ d ∈ ds, wf L n d = true := by
  have q := Bool.and_eq_true_iff.mp h
  exact ⟨of_decide_eq_true q.1, List.all_eq_true.mp q.2⟩
theorem wf_lst {L n : Nat} {ds : List D} (h : wf L (n + 1) (.lst ds) = true) : ds.length ≤ L ∧ ∀ d ∈ ds, wf L n d = true := by
  have q := Bool.and_eq_true_iff.mp h
  exact ⟨of_decide_eq_true q.1, List.all_eq_true.mp q.2⟩
theorem tup_wf {L n : Nat} {ds : List D} (h : ds.length ≤ L) (h2 : ∀ d ∈ ds, wf L n d = true) : wf L (n + 1) (.tup ds) = true := Bool.and_eq_true_iff.mpr ⟨decide_eq_true h, List.all_eq_true.mpr h2⟩
theorem wf_pos {L n : Nat} {d : D} (h : wf L n d = true) : 0 < n := by cases n with | zero => cases h | succ n => omega
theorem wf_tI {L n : Nat} {ps : List Int} (h : ps.length ≤ L) : wf L (n + 2) (tI ps) = true := tup_wf (by rw [List.length_map]; exact h) fun d hd => by
  obtain ⟨p, _, rfl⟩ := List.mem_map.mp hd
  rfl
noncomputable def eqD (a b : D) : Bool := @decide (a = b) (Classical.propDecidable _)
theorem eqD_iff {a b : D} : eqD a b = true ↔ a = b := @decide_eq_true_iff (a = b) (Classical.propDecidable _)
theorem eqD_false {a b : D} : eqD a b = false ↔ ¬ a = b := @decide_eq_false_iff_not (a = b) (Classical.propDecidable _)
theorem eqD_of {a b : D} {r : Bool} (h : r = true ↔ a = b) : r = eqD a b := by
  rw [Bool.eq_iff_iff, h, eqD_iff]
theorem eq_lists {as bs : List D} : (decide ((as.length : Int) = (bs.length : Int)) && ((List.range as.length).map fun j => eqD (as.getD j .non) (bs.getD j .non)).all id) = true ↔ as = bs := by
  rw [Bool.and_eq_true, decide_eq_true_eq]
  constructor
  · intro ⟨hl, h⟩
    have hl' : as.length = bs.length := by omega
    apply List.ext_getElem hl'
    intro i h1 h2
    rw [List.all_map, List.all_eq_true] at h
    have q := eqD_iff.mp (h i (List.mem_range.mpr h1))
    rw [getD_at h1, getD_at h2] at q
    exact q
  · intro e
    subst e
    refine ⟨rfl, ?_⟩
    rw [List.all_map, List.all_eq_true]
    intro i _
    exact eqD_iff.mpr rfl
theorem rngD_at {lo : Int} {n j : Nat} {d : D} (h : (rngD lo n)[j]? = some d) : j < n ∧ d = .int (lo + (j : Int)) := by
  unfold rngD at h
  obtain ⟨a, ha, rfl⟩ := at_map h
  rw [List.getElem?_range (by
    have := (List.getElem?_eq_some_iff.mp ha).1
    rw [List.length_range] at this
    exact this)] at ha
  have e := Option.some.inj ha
  subst e
  have := (List.getElem?_eq_some_iff.mp h).1
  rw [List.length_map, List.length_range] at this
  exact ⟨this, rfl⟩
theorem rngD_len {lo : Int} {n : Nat} : (rngD lo n).length = n := by unfold rngD; rw [List.length_map, List.length_range]
theorem atI_of {ds : List D} {j : Nat} (h : j < ds.length) : atI ds (0 + (j : Int)) = some (ds.getD j .non) := by
  rw [Int.zero_add, getD_at h]
  exact atI_nat (List.getElem?_eq_getElem h)
theorem same_leaf2 {a b : D} (h : (isB a || isB b) = true) : (isB a && (isB b && eqD a b)) = eqD a b := by
  cases h1 : isB a with
  | true =>
    cases h2 : isB b with
    | true => rfl
    | false =>
      refine (eqD_false.mpr fun e => ?_).symm
      rw [e, h2] at h1
      cases h1
  | false =>
    refine (eqD_false.mpr fun e => ?_).symm
    rw [e] at h1
    rw [e, h1] at h
    cases h
theorem same_leaf4 {a b : D} (ha : pl a = true) (hb : pl b = true) (h1 : (isT a && isT b || isL a && isL b) = false) (h2 : (isB a || isB b) = false) (h3 : (isI a && isI b || isS a && isS b) = false) : (isNon a && isNon b) = eqD a b := by
  refine eqD_of ⟨fun h => ?_, fun e => ?_⟩
  · cases a <;> cases b <;> first | rfl | exact absurd (show false = true from h) Bool.false_ne_true
  · subst e
    cases a <;> first | rfl | exact absurd (show false = true from ha) Bool.false_ne_true | exact absurd (show false = true from h1.symm) Bool.false_ne_true | exact absurd (show false = true from h2.symm) Bool.false_ne_true | exact absurd (show false = true from h3.symm) Bool.false_ne_true
def wholeB (x : D) (lo hi : Int) : Bool := isW x && (decide (lo ≤ intOf x) && decide (intOf x ≤ hi))
theorem cut_sub {α : Type} {l : List α} {lo hi : Option Int} {d : α} (h : d ∈ DL.cutD l lo hi) : d ∈ l := by
  unfold DL.cutD at h
  exact List.mem_of_mem_drop (List.mem_of_mem_take h)
theorem cut_len {α : Type} (l : List α) (lo hi : Option Int) : (DL.cutD l lo hi).length ≤ l.length := by
  unfold DL.cutD
  rw [List.length_take, List.length_drop]
  omega
theorem cut_last {α : Type} (l : List α) : (DL.cutD l (some (-1)) none).length ≤ 1 := by
  unfold DL.cutD
  rw [List.length_take, List.length_drop, HT.sIx_none]
  have : HT.sIx l.length 0 (some (-1)) = l.length - 1 := by
    unfold HT.sIx
    simp
    omega
  omega
theorem cut_two {α : Type} {l : List α} {r : Int} (h0 : 0 ≤ r) (h1 : r < l.length) : (DL.cutD l none (some r)).length + (DL.cutD l (some (r + 1)) none).length + 1 ≤ l.length := by
  unfold DL.cutD
  simp only [List.length_take, List.length_drop, HT.sIx_none]
  have e1 : HT.sIx l.length l.length (some r) = r.toNat := by unfold HT.sIx; simp only []; split <;> omega
  have e2 : HT.sIx l.length 0 (some (r + 1)) = r.toNat + 1 := by unfold HT.sIx; simp only []; split <;> omega
  omega
def sk (a i : Nat) : Nat := if i < a then i else i + 1
theorem range_skip {a n : Nat} (h : a < n) : (List.range n).filter (fun i => !decide (i = a)) = (List.range (n - 1)).map (sk a) := by
  obtain ⟨m, rfl⟩ : ∃ m, n = a + 1 + m := ⟨n - (a + 1), by omega⟩
  have e1 : (List.range a).filter (fun i => !decide (i = a)) = (List.range a).map (sk a) := by
    rw [List.filter_eq_self.mpr fun i hi => by have := List.mem_range.mp hi; simp; omega]
    have : (List.range a).map (sk a) = (List.range a).map id := List.map_congr_left fun i hi => by
      have := List.mem_range.mp hi
      exact if_pos this
    rw [this, List.map_id]
  have e2 : ((List.range m).map (a + 1 + ·)).filter (fun i => !decide (i = a)) = (List.range m).map (fun i => sk a (a + i)) := by
    rw [List.filter_eq_self.mpr fun i hi => by
      obtain ⟨j, _, rfl⟩ := List.mem_map.mp hi
      simp; omega]
    refine List.map_congr_left fun i hi => ?_
    show a + 1 + i = if a + i < a then a + i else a + i + 1
    rw [if_neg (by omega)]
    omega
  rw [List.range_add, List.range_succ, List.filter_append, List.filter_append, e1, e2, show a + 1 + m - 1 = a + m by omega, List.range_add, List.map_append, List.map_map]
  have e3 : ([a].filter fun i => !decide (i = a)) = [] := by simp
  rw [e3, List.append_nil]
  rfl
theorem as_range {α : Type} (d : α) (ps : List α) : ps = (List.range ps.length).map fun i => ps.getD i d := by
  apply List.ext_getElem
  · simp
  · intro i h1 h2
    rw [List.getElem_map, List.getElem_range, List.getD_eq_getElem?_getD, List.getElem?_eq_getElem h1]
    rfl
theorem zip_range (ps : List Int) : ps.zipIdx = (List.range ps.length).map fun i => (ps.getD i 0, i) := by
  apply List.ext_getElem
  · simp
  · intro i h1 h2
    have hi : i < ps.length := by rw [List.length_zipIdx] at h1; exact h1
    rw [List.getElem_map, List.getElem_range, List.getD_eq_getElem?_getD, List.getElem?_eq_getElem hi, List.getElem_zipIdx]
    simp
theorem getD_map {n i : Nat} {f : Nat → Int} (h : i < n) : ((List.range n).map f).getD i 0 = f i := by
  rw [List.getD_eq_getElem?_getD, List.getElem?_map, List.getElem?_range h]
  rfl
theorem range_split {α : Type} {f : Nat → α} {n a : Nat} (h : a < n) : (List.range n).map f = (List.range a).map f ++ f a :: (List.range (n - a - 1)).map fun i => f (a + 1 + i) := by
  obtain ⟨m, rfl⟩ : ∃ m, n = a + 1 + m := ⟨n - (a + 1), by omega⟩
  rw [show a + 1 + m - a - 1 = m by omega, List.range_add, List.range_succ, List.map_append, List.map_append, List.map_map, List.append_assoc]
  rfl
section
variable {X : Cx} {sg sg1 : Sg} {M : Mem} {E : EndsD}
def Fg : Sg → Sg → Prop
  | [], [] => True
  | none :: a, _ :: b => Fg a b
  | some d :: a, e :: b => e = some d ∧ Fg a b
  | _, _ => False
theorem Fg.len : ∀ {a b : Sg}, Fg a b → a.length = b.length
  | [], [], _ => rfl
  | [], _ :: _, h => h.elim
  | none :: a, _ :: b, h => congrArg Nat.succ (Fg.len (a := a) h)
  | some d :: a, e :: b, h => congrArg Nat.succ (Fg.len h.2)
  | none :: _, [], h => h.elim
  | some _ :: _, [], h => h.elim
theorem Fg.at : ∀ {a b : Sg}, Fg a b → ∀ (i : Nat) (d : D), a[i]? = some (some d) → b[i]? = some (some d)
  | [], [], _, i, d, e => e
  | [], _ :: _, h, _, _, _ => h.elim
  | none :: a, _ :: b, h, 0, d, e => by cases e
  | none :: a, _ :: b, h, i + 1, d, e => Fg.at (a := a) (b := b) h i d e
  | some x :: a, y :: b, h, 0, d, e => by rw [h.1]; exact e
  | some x :: a, y :: b, h, i + 1, d, e => Fg.at h.2 i d e
  | none :: _, [], h, _, _, _ => h.elim
  | some _ :: _, [], h, _, _, _ => h.elim
theorem wss_fg {sts : List Stmt} (f : Fg sg1 sg) (h : WSs X sts sg1 M E) : WSs X sts sg M E := fun σ H G w s => h σ H G w (s.forget f.len f.at)
theorem ws_fg {st : Stmt} (f : Fg sg1 sg) (h : WS X st sg1 M E) : WS X st sg M E := fun σ H G w s => h σ H G w (s.forget f.len f.at)
theorem toPy_pairs_lay : ∀ qs : List (Int × Int), PyData.canLayAll0 (toPyA (qs.map pairD)) = true
  | [] => rfl
  | q :: qs => by
    show (PyData.canLay0 (toPy (pairD q)) && PyData.canLayAll0 (toPyA (qs.map pairD))) = true
    rw [toPy_pairs_lay qs]
    rfl
theorem plA_pairs : ∀ qs : List (Int × Int), plA (qs.map pairD) = true
  | [] => rfl
  | q :: qs => by
    show (pl (pairD q) && plA (qs.map pairD)) = true
    rw [plA_pairs qs]
    rfl
theorem toPy_pairs_depth : ∀ qs : List (Int × Int), PyData.depthAll (toPyA (qs.map pairD)) ≤ 4
  | [] => by decide
  | q :: qs => by
    have := toPy_pairs_depth qs
    show max (PyData.depth (toPy (pairD q))) (PyData.depthAll (toPyA (qs.map pairD))) ≤ 4
    have e : PyData.depth (toPy (pairD q)) ≤ 4 := by
      show PyData.depth (.tuple [.int q.1, .int q.2]) ≤ 4
      exact Nat.le_of_ble_eq_true rfl
    omega
theorem shaped_pairs (qs : List (Int × Int)) : SeqAt.shaped (.list (toPyA (qs.map pairD))) = true := by
  refine Bool.and_eq_true_iff.mpr ⟨toPy_pairs_lay qs, decide_eq_true ?_⟩
  have := toPy_pairs_depth qs
  show PyData.depthAll (toPyA (qs.map pairD)) + 1 ≤ 64
  omega
theorem eqv_pairs (qs : List (Int × Int)) : PyData.eqv (.list (toPyA (qs.map pairD))) (.list (toPyA (qs.map pairD))) = true := SeqAt.eqv_refl _ (toPy_pairs_lay qs)
theorem srt_eq {qs rs : List (Int × Int)} (h1 : SrtP qs) (h2 : SrtP rs) (h : qs.Perm rs) : qs = rs := by
  refine List.Perm.eq_of_pairwise (fun a b _ _ e1 e2 => ?_) h1 h2 h
  have n1 : ¬ SrtO.lexB b a = true := by rw [e1]; exact Bool.false_ne_true
  have n2 : ¬ SrtO.lexB a b = true := by rw [e2]; exact Bool.false_ne_true
  rw [SrtO.lexB_iff] at n1 n2
  have a1 : a.1 = b.1 := by omega
  have a2 : a.2 = b.2 := by omega
  exact Prod.ext a1 a2
end
theorem pairs_if (p : Int × Int → Bool) (g : Int × Int → Int × Int) (qs : List (Int × Int)) : ((qs.map DL.pairD).filter fun d => p (intOf (fstD d), intOf (sndD d))).map (fun d => DL.pairD (g (intOf (fstD d), intOf (sndD d)))) = ((qs.filter p).map g).map DL.pairD := by
  rw [List.filter_map, List.map_map, List.map_map]
  rfl
theorem pairs_all (g : Int × Int → Int × Int) (qs : List (Int × Int)) : (qs.map DL.pairD).map (fun d => DL.pairD (g (intOf (fstD d), intOf (sndD d)))) = (qs.map g).map DL.pairD := by
  rw [List.map_map, List.map_map]
  rfl
theorem not_eqD {x y : D} (h : x = y) : (!eqD x y) = false := by rw [eqD_iff.mpr h]; rfl
theorem LcOk.pick {X : Cx} {scope : Scope} {vs : List Nat} {tg elt : Expr} {ifs : List Expr} {sg : Sg} {Qi : List D → (Mem → Prop) → Mem → Prop} {Q : D → Mem → Prop} (h : ∀ ds C M0, Qi ds C M0 → LcOk X scope vs tg elt ifs sg (ItQ ds M0) Q ∧ C M0) : LcOk X scope vs tg elt ifs sg Qi Q := fun ds C M0 q => (h ds C M0 q).1 ds C M0 ⟨rfl, rfl, (h ds C M0 q).2⟩
theorem fg_set : ∀ {a b : Sg}, Fg a b → ∀ (i : Nat) (d : D), Fg (a.set i (some d)) (b.set i (some d))
  | [], [], h, _, _ => h
  | [], _ :: _, h, _, _ => h.elim
  | none :: a, _ :: b, h, 0, d => ⟨rfl, h⟩
  | none :: a, _ :: b, h, i + 1, d => fg_set (a := a) (b := b) h i d
  | some x :: a, y :: b, h, 0, d => ⟨rfl, h.2⟩
  | some x :: a, y :: b, h, i + 1, d => ⟨h.1, fg_set h.2 i d⟩
  | none :: _, [], h, _, _ => h.elim
  | some _ :: _, [], h, _, _ => h.elim
theorem fg_trans : ∀ {a b c : Sg}, Fg a b → Fg b c → Fg a c
  | [], [], _, _, h => h
  | [], _ :: _, _, h, _ => h.elim
  | none :: a, [], _, h, _ => h.elim
  | some _ :: a, [], _, h, _ => h.elim
  | none :: a, none :: b, [], _, h => h.elim
  | none :: a, some _ :: b, [], _, h => h.elim
  | some _ :: a, none :: b, [], _, h => h.elim
  | some _ :: a, some _ :: b, [], _, h => h.elim
  | none :: a, none :: b, _ :: c, h, h2 => fg_trans (a := a) (b := b) (c := c) h h2
  | none :: a, some _ :: b, _ :: c, h, h2 => fg_trans (a := a) (b := b) (c := c) h h2.2
  | some d :: a, none :: b, _ :: c, h, h2 => by cases h.1
  | some d :: a, some e :: b, z :: c, h, h2 => ⟨h2.1.trans h.1, fg_trans h.2 h2.2⟩
section
variable {P : Program} {w : World} {K : PySem.W.Frag} {mg : Str → Option Value} {base : Heap}
theorem dfnF {x qual : Str} {st : Stmt} {f : Addr} {fd : FuncData} {N ps : List Str} {k n : Nat} {S : SpD} (F : Fun K x qual st f fd) (sc : FnScope N ps (defScope st)) (hn : ps.length = n)
    (body : ∀ (f : Addr) (cdv : Value) (A : Around) (outer : List Env) (s : Shared) (H : Hp) (E : XK) (ds : List D) (M : Mem) (Q : D → Mem → Prop), Room k (A.deeper (envOfC qual (defScope st) s.heap.objs.size f cdv)) → ds.length = n → S ds M Q →
      WSs (cxOf CX0 P w K mg base N qual (defScope st) f cdv A outer s H E).nox (defBody st) (startD N ds) M { nx := fun _ M' => Q .non M', rt := Q }) : FnOk P w K mg base CX0 (k + 1) f fd ps (spD K n S) := by
  refine F.ok sc (fun vs H R E h => ?_) (fun cdv A outer s H vs R E hr h => ?_)
  · obtain ⟨G, M, ds, Q, _, r, l, _⟩ := h
    rw [r.length, l, hn]
  · obtain ⟨G, M, ds, Q, wd, r, l, hs, q⟩ := h
    refine ⟨tWSs _ (defBody st), pss_w, (body f cdv A outer s H E ds M Q hr l hs _ H G wd (start_rp r)).imp (fun σ' H' ⟨sg', G', M', st', w', s', q'⟩ => q _ _ ⟨.non, G', M', st', w', .non, q'⟩) (fun v H' p => q v H' p) (fun _ _ p => ?_) (fun _ _ p => ?_)⟩
    · obtain ⟨_, _, _, _, _, _, z⟩ := p; exact z
    · obtain ⟨_, _, _, _, _, _, z⟩ := p; exact z
theorem df_mk {h : Heap} {x : Str} {st : Stmt} {ps : List Str} {f : Addr} {od an : Option Addr} {sl : Array (Option Value)} {oc kV dc pm cd ct : Value} (X : K.In h) (G : h.Ns mainGlobals mg) (a : PySem.W.nsIn K mainGlobals x = some (some (.ref f))) (l : K.lookup f = some ⟨oc, od, .func (PySem.W.fnOf x x (defArgs st) (defBody st) (defScope st) .none kV dc pm an cd ct), sl⟩) (c : PySem.W.codeIn K cd x = true) (k : PySem.W.keepIn K (.ref f) = true)
    (hb : ∀ (kV doc pm : Value) (an : Option Addr) (cdv ct : Value) (us : List Value), us.length = ps.length → bindArgs (PySem.W.fnOf x x (defArgs st) (defBody st) (defScope st) .none kV doc pm an cdv ct) ⟨us, []⟩ = pure (ps.zip us)) : Df K mg x st ps :=
  ⟨f, _, fun_mk l c k, PySem.W.mg_of X G a, (fun_mk l c k).binds hb⟩
def spLaw (K : PySem.W.Frag) : Sp := fun vs H Q _ => ∃ (a : Addr) (ns : List Int), vs = [.ref a] ∧ SqL K H a (ns.map V.int) ∧ ns.length ≤ 63 ∧ ∀ H', Q (.bl true) H'
def S_script : SpD := fun ds M Q => ∃ ns : List Int, ds = [.scr ns] ∧ ns.length ≤ 63 ∧ ∀ M', Q (.bl true) M'
theorem spLaw_spD {vs : List V} {H : Hp} {R : VK} {E : XK} (h : spLaw K vs H R E) : spD K 1 S_script vs H R E := by
  obtain ⟨a, ns, rfl, hS, hl, q⟩ := h
  refine ⟨H, ⟨fun _ => none, ⟨H, fun _ => none, H⟩⟩, [.scr ns], fun d _ => d = .bl true, ⟨fun x u e => e, (fun x m e => by cases e), fun x u e m => ⟨e, rfl, rfl⟩⟩, .cons (.scr hS) .nil, rfl, ⟨ns, rfl, hl, fun M' => rfl⟩, fun v H' ⟨d, G', M', st, w', r, e⟩ => ?_⟩
  subst e
  cases r
  exact q H'
end
end DL
set_option Elab.async false
set_option linter.all false
set_option maxRecDepth 100000
set_option maxHeartbeats 4000000
/-! DLk: more methods of lists. -/
namespace DL
open PySem L2 PyProof.Rows HT
section
variable {K : PySem.W.Frag} {M : Mem} {Q : D → Mem → Prop}
theorem md_pop0 {p : Addr} {ds : List D} {d : D} (hm : M p = some (.lst (d :: ds))) (q : Q d (updM M p (some (.lst ds)))) : MtD K rPopAt (.ptr p) [.int 0] M Q := fun G H v vs R w rv rs k => by
  cases rv
  obtain ⟨u, rfl, ru⟩ := rs.one
  cases ru
  obtain ⟨g, xs, h1, r1⟩ := w.mem _ _ hm
  cases r1 with
  | @cons y _ ys _ ry r2 =>
    refine ⟨p, _, 0, 0, y, rfl, rfl, h1, by decide, by decide, ?_, rfl, k _ _ ?_⟩
    · simp [seqIndex?, List.length_cons]
    · obtain ⟨w', st⟩ := w.write hm (o := .lst ys) (mo := .lst ds) ⟨_, upd_same, r2⟩
      exact ⟨_, _, _, st, w', ry, q⟩
end
theorem cut_nat {α : Type} (l : List α) (a b : Nat) : cutD l (some (a : Int)) (some (b : Int)) = (l.drop a).take (b - a) := by
  unfold cutD
  rw [HT.sIx_nat, HT.sIx_nat]
  by_cases h : a ≤ l.length
  · rw [Nat.min_eq_left h]
    by_cases h2 : b ≤ l.length
    · rw [Nat.min_eq_left h2]
    · rw [Nat.min_eq_right (show l.length ≤ b by omega), List.take_of_length_le (by rw [List.length_drop]; omega), List.take_of_length_le (by rw [List.length_drop]; omega)]
  · rw [show min a l.length = l.length by omega, List.drop_length, List.drop_of_length_le (show l.length ≤ a by omega), List.take_nil, List.take_nil]
theorem cut_toN {α : Type} (l : List α) (b : Nat) : cutD l none (some (b : Int)) = l.take b := by
  unfold cutD
  rw [HT.sIx_none, HT.sIx_nat, List.drop_zero, Nat.sub_zero]
  by_cases h2 : b ≤ l.length
  · rw [Nat.min_eq_left h2]
  · rw [Nat.min_eq_right (by omega), List.take_of_length_le (Nat.le_refl _), List.take_of_length_le (by omega)]
theorem cut_fromN {α : Type} (l : List α) (a : Nat) : cutD l (some (a : Int)) none = l.drop a := by
  unfold cutD
  rw [HT.sIx_none, HT.sIx_nat]
  by_cases h : a ≤ l.length
  · rw [Nat.min_eq_left h, ← List.length_drop, List.take_length]
  · rw [Nat.min_eq_right (by omega), Nat.sub_self, List.take_zero, List.drop_of_length_le (by omega)]
theorem cut_mapD {α β : Type} (f : α → β) (l : List α) (lo hi : Option Int) : cutD (l.map f) lo hi = (cutD l lo hi).map f := by
  unfold cutD
  rw [List.length_map, List.map_take, List.map_drop]
end DL
set_option Elab.async false
set_option linter.all false
set_option maxRecDepth 100000
set_option maxHeartbeats 4000000
/-! DLx: exceptions by data: what leaves a def, calls that may raise. -/
namespace DL
open PySem L2 PyProof.Rows HT
abbrev QXD := Addr → List (Str × D) → Mem → Prop
abbrev QXS := Addr → List (Str × D) → Sg → Mem → Prop
/-- nobody at the base knows p -/
def New (b : Base) (p : Addr) : Prop := ∀ u, b.H p = some u → b.M p = none → False
/-- an error of the class C leaves, its own dict with these fields -/
def PX (K : PySem.W.Frag) (b : Base) (QX : QXD) : XK := fun cls d H' => ∃ (C dd : Addr) (fs : List (Str × V)) (ds : List (Str × D)) (G' : Hp) (M' : Mem), cls = .ref C ∧ d = some dd ∧ H' dd = some (.xd fs) ∧ KVd K G' fs ds ∧ M'.b = b ∧ Wd K G' M' H' ∧ (G' dd = none ∧ M' dd = none ∧ New b dd) ∧ QX C ds M'
def PXs (K : PySem.W.Frag) (b : Base) (QX : QXS) : WX := fun cls d σ H' => ∃ (C dd : Addr) (fs : List (Str × V)) (ds : List (Str × D)) (G' : Hp) (M' : Mem) (sg : Sg), cls = .ref C ∧ d = some dd ∧ H' dd = some (.xd fs) ∧ KVd K G' fs ds ∧ M'.b = b ∧ Wd K G' M' H' ∧ (G' dd = none ∧ M' dd = none ∧ New b dd) ∧ SRp K G' sg σ ∧ QX C ds sg M'
/-- X lets such errors out -/
def Out (X : Cx) (b : Base) (QX : QXS) : Prop := ∃ W : WX, Takes X W ∧ ∀ cls d σ H', PXs X.K b QX cls d σ H' → W cls d σ H'
section
variable {K : PySem.W.Frag} {G G0 G' H H0 H' : Hp} {M M0 M' : Mem}
theorem Wd.rb (w : Wd K G M H) : Wd K G (M.rb ⟨G, M.f, H⟩) H := ⟨w.sub, w.mem, fun x o h m => ⟨h, rfl, m⟩⟩
theorem Wd.unrb (w0 : Wd K G0 M0 H0) (w : Wd K G' M' H') (hb : M'.b = ⟨G0, M0.f, H0⟩) : Wd K G' (M'.rb M0.b) H' ∧ Stp G0 M0 H0 G' (M'.rb M0.b) H' := by
  have st : Stp G0 M0 H0 G' (M'.rb M0.b) H' := ⟨fun x o h m => by
    have e := w.hist x o
    rw [hb] at e
    exact e h m, rfl⟩
  exact ⟨⟨w.sub, w.mem, w0.far st⟩, st⟩
end
abbrev SpDX := List D → Mem → (D → Mem → Prop) → QXD → Prop
def spDX (K : PySem.W.Frag) (n : Nat) (S : SpDX) : Sp := fun vs H R E => ∃ (G : Hp) (M : Mem) (ds : List D) (Q : D → Mem → Prop) (QX : QXD), Wd K G M H ∧ RpA K G vs ds ∧ ds.length = n ∧ S ds M Q QX ∧ (∀ v H', PV K G M H Q v H' → R v H') ∧ ∀ cls d H', PX K M.b QX cls d H' → E cls d H'
/-- the name x calls a def that keeps S and may raise -/
def CalX (P : Program) (w : World) (K : PySem.W.Frag) (mg : Str → Option Value) (base : Heap) (k : Nat) (x : Str) (n : Nat) (S : SpDX) : Prop :=
  ∃ f fd ps, FnOk P w K mg base (L2.CX P w) k f fd ps (spDX K n S) ∧ mg x = some (.ref f) ∧ PySem.W.keepIn K (.ref f) = true ∧ Binds K fd ps []
section
variable {X : Cx} {sg : Sg} {M : Mem} {Q : D → Mem → Prop} {pos : Pos}
theorem we_callX {k n : Nat} {x : Str} {S : SpDX} {p : Pos} {e : Expr} {es : List Expr} {QX : QXS} (C : CalX X.prog X.w X.K X.mg X.base k x n S) (hr : Room k X.A) (o : Out X M.b QX)
    (h : WA X (e :: es) sg M fun ds M1 => ds.length = n ∧ ∀ b0, S ds (M1.rb b0) (fun d M' => Q d (M'.rb M.b)) (fun C fs M' => QX C fs sg (M'.rb M.b))) (hg : Gl X x := by rfl) (hd : (x == ("__debug__" : Str)) = false := by decide)
    (he : starEach (e :: es) X.env = (false, eval e X.env) :: starEach es X.env := by exact star1 rfl) (hpl : (backTo pos (starEach es X.env)).any (·.1) = false := by exact starN rfl) : DL.WE X (.Call (.Name x p) (e :: es) [] pos) sg M Q := by
  obtain ⟨f, fd, ps, F, hm, kp, hb⟩ := C
  obtain ⟨W, tk, hW⟩ := o
  refine WE.of (pe_callS F hr hg hm kp hb (fun σ => passAt tk σ) pa_w hd he hpl) fun σ H G w s => (h σ H G w s).imp fun vs H1 ⟨ds, G1, M1, st, w1, r1, hl, hS⟩ => ?_
  refine ⟨G1, M1.rb ⟨G1, M1.f, H1⟩, ds, _, _, w1.rb, r1, hl, hS _, fun v H' ⟨d, G', M', st', w', r', q⟩ => ?_, fun cls d H' ⟨C, dd, fs, fds, G', M', e1, e2, e3, kv, hb', w', ⟨f1, f2, f3⟩, qx⟩ => ?_⟩
  · obtain ⟨w2, st2⟩ := w1.unrb w' st'.base
    rw [st.base] at w2 st2
    exact PV.base st ⟨d, G', M'.rb M.b, st2, w2, r', q⟩
  · obtain ⟨w2, st2⟩ := w1.unrb w' hb'
    rw [st.base] at w2 st2
    exact hW _ _ _ _ ⟨C, dd, fs, fds, G', M'.rb M.b, sg, e1, e2, e3, kv, rfl, w2, ⟨f1, f2, fun u k1 k2 => by
      have z := w1.hist dd u
      rw [st.base] at z
      obtain ⟨z1, _, z3⟩ := z k1 k2
      exact f3 u z1 z3⟩, s.mono ((st.trans st2).gx w), qx⟩
end
section
variable {P : Program} {w : World} {K : PySem.W.Frag} {mg : Str → Option Value} {base : Heap}
abbrev cxX (P : Program) (w : World) (K : PySem.W.Frag) (mg : Str → Option Value) (base : Heap) (N : List Str) (x : Str) (st : Stmt) (f : Addr) (cdv : Value) (A : Around) (outer : List Env) (s : Shared) (H : Hp) (E : XK) : Cx := cxOf (L2.CX P w) P w K mg base N x (defScope st) f cdv A outer s H E
theorem dfnX {x : Str} {st : Stmt} {N ps : List Str} {k n : Nat} {S : SpDX} (F : Df K mg x st ps) (sc : FnScope N ps (defScope st)) (hn : ps.length = n)
    (body : ∀ (f : Addr) (cdv : Value) (A : Around) (outer : List Env) (s : Shared) (H : Hp) (E : XK) (ds : List D) (M : Mem) (Q : D → Mem → Prop) (QX : QXD), Room k (A.deeper (envOfC x (defScope st) s.heap.objs.size f cdv)) → ds.length = n → S ds M Q QX →
      Out (cxX P w K mg base N x st f cdv A outer s H E) M.b (fun C fs _ M' => QX C fs M') →
      WSs (cxX P w K mg base N x st f cdv A outer s H E) (defBody st) (startD N ds) M { nx := fun _ M' => Q .non M', rt := Q }) : CalX P w K mg base (k + 1) x n S := by
  obtain ⟨f, fd, F, hm, hb⟩ := F
  refine ⟨f, fd, ps, F.okX sc (fun vs H R E h => ?_) (fun cdv A outer s H vs R E hr h => ?_), hm, F.kp, hb⟩
  · obtain ⟨G, M, ds, Q, QX, _, r, l, _⟩ := h
    rw [r.length, l, hn]
  · obtain ⟨G, M, ds, Q, QX, wd, r, l, hs, q, qx⟩ := h
    have o : Out (cxX P w K mg base N x st f cdv A outer s H E) M.b (fun C fs _ M' => QX C fs M') := ⟨fun cls d _ H => E cls d H, takes_of rfl rfl rfl rfl, fun cls d σ H' ⟨C, dd, fs, fds, G', M', sg, e1, e2, e3, kv, hb', w', fr, _, z⟩ => qx _ _ _ ⟨C, dd, fs, fds, G', M', e1, e2, e3, kv, hb', w', fr, z⟩⟩
    refine ⟨tWSs _ (defBody st), pss_w, (body f cdv A outer s H E ds M Q QX hr l hs o _ H G wd (start_rp r)).imp (fun σ' H' ⟨sg', G', M', st', w', s', q'⟩ => q _ _ ⟨.non, G', M', st', w', .non, q'⟩) (fun v H' p => q v H' p) (fun _ _ p => ?_) (fun _ _ p => ?_)⟩
    · obtain ⟨_, _, _, _, _, _, z⟩ := p; exact z
    · obtain ⟨_, _, _, _, _, _, z⟩ := p; exact z
end
end DL
set_option Elab.async false
set_option linter.all false
set_option maxRecDepth 100000
set_option maxHeartbeats 4000000
/-! DLy: try .. except X as n by data; a caught error's field. -/
namespace DL
open PySem L2 PyProof.Rows HT
theorem SRp.setN {K : PySem.W.Frag} {G : Hp} {sg : Sg} {σ : L2.St} (r : SRp K G sg σ) (i : Nat) : SRp K G (sg.set i none) (σ.set i none) := by
  refine ⟨by simp [r.len], fun j e q => ?_⟩
  by_cases hj : i = j
  · subst hj
    by_cases hl : i < sg.length
    · rw [List.getElem?_set_self hl] at q
      cases q
    · rw [List.getElem?_eq_none (by simpa using hl)] at q; cases q
  · rw [List.getElem?_set_ne hj] at q ⊢
    exact r.at_ j e q
theorem kvd_lookup {K : PySem.W.Frag} {G : Hp} {n : Str} {d : D} : ∀ {vs : List (Str × V)} {ds : List (Str × D)}, KVd K G vs ds → ds.lookup n = some d → ∃ v, vs.lookup n = some v ∧ Rp K G v d
  | [], [], _, h => by cases h
  | [], _ :: _, k, _ => by cases k.1
  | _ :: _, [], k, _ => by cases k.1
  | (a, v) :: vs, (b, e) :: ds, k, h => by
    obtain ⟨k1, k2⟩ := k
    simp only [List.map_cons, List.cons.injEq] at k1
    obtain ⟨k1, k3⟩ := k1
    subst k1
    cases k2 with
    | cons r1 r2 =>
      by_cases hn : n = a
      · subst hn
        simp only [List.lookup_cons, beq_self_eq_true] at h ⊢
        cases h
        exact ⟨v, rfl, r1⟩
      · have e1 : (n == a) = false := by simpa using hn
        simp only [List.lookup_cons, e1] at h ⊢
        exact kvd_lookup ⟨k3, r2⟩ h
section
variable {K : PySem.W.Frag} {G G' H H' : Hp} {M M' : Mem}
/-- an error's dict, taken into the memory -/
theorem Wd.takeX (w : Wd K G M H) (w' : Wd K G' M' H') (st : Stp G M H G' M' H') {dd : Addr} {fs : List (Str × V)} {ds : List (Str × D)} (e : H' dd = some (.xd fs)) (kv : KVd K G' fs ds) (g : G' dd = none) (m : M' dd = none) (nw : ∀ u, H dd = some u → M dd = none → False) :
    Wd K G' (updM M' dd (some (.xd ds))) H' ∧ Stp G M H G' (updM M' dd (some (.xd ds))) H' := by
  have st2 : Stp G M H G' (updM M' dd (some (.xd ds))) H' := ⟨fun x o h hm => by
    have hx : x ≠ dd := fun z => by subst z; exact nw o h hm
    obtain ⟨a1, a2, a3⟩ := st.keep x o h hm
    exact ⟨a1, a2, by rw [updM_ne hx]; exact a3⟩, st.base⟩
  refine ⟨⟨w'.sub, fun x mo q => ?_, w.far st2⟩, st2⟩
  by_cases hx : x = dd
  · subst hx
    rw [updM_same] at q
    cases q
    exact ⟨g, fs, e, kv⟩
  · rw [updM_ne hx] at q
    exact w'.mem x mo q
end
section
variable {X : Cx} {sg : Sg} {M : Mem} {E : EndsD} {Q : D → Mem → Prop} {pos : Pos}
/-- an error's dict that nobody asks for any more -/
theorem wss_dropX {dd : Addr} {fs : List (Str × D)} {sts : List Stmt} (hm : M dd = some (.xd fs)) (h : WSs X sts sg (updM M dd none) E) : WSs X sts sg M E := fun σ H G w s => by
  obtain ⟨g, xs, e, r⟩ := w.mem _ _ hm
  have gx : Gx G (upd G dd (.xd xs)) := fun x u q => by rw [upd_ne (ne_of_none q g)]; exact q
  have st : Stp G M H (upd G dd (.xd xs)) (updM M dd none) H := ⟨fun x u q m => by
    have hx : x ≠ dd := fun z => by subst z; rw [hm] at m; cases m
    exact ⟨q, upd_ne hx, by rw [updM_ne hx]; exact m⟩, rfl⟩
  have w1 : Wd X.K (upd G dd (.xd xs)) (updM M dd none) H := ⟨fun x u q => by
    by_cases hx : x = dd
    · subst hx; rw [upd_same] at q; cases q; exact e
    · rw [upd_ne hx] at q; exact w.sub _ _ q, fun x m q => by
    have hx : x ≠ dd := fun z => by subst z; rw [updM_same] at q; cases q
    rw [updM_ne hx] at q
    obtain ⟨h1, h2⟩ := w.mem _ _ q
    exact ⟨by rw [upd_ne hx]; exact h1, h2.carry gx rfl⟩, w.far st⟩
  exact toE_base st (h σ H _ w1 (s.mono gx))
theorem we_xf {a C dd : Addr} {oe : Obj} {pn : List (Addr × Obj)} {e : Expr} {n : Str} {fs : List (Str × D)} {d : D} (T : XfC X.K C) (hno : PySem.W.findIn X.K (.ref C) n = some none) (hz : Zc (.ref C) (some dd) oe) (hf : ∃ vs, oe.data = .fields vs)
    (hM : M dd = some (.xd fs)) (hl : fs.lookup n = some d) (he : EE (X.suite a ((a, oe) :: pn)) e sg M (.ptr a)) (q : Q d M) (hb : attributeBase e n X.env (eval e X.env) = eval e X.env := by rfl) : DL.WE (X.suite a ((a, oe) :: pn)) (.Attribute e n pos) sg M Q :=
  WE.of (pe_xf T hno hz hf pe_w hb) fun σ H G w s => (he σ H G w s).imp fun v H1 ⟨x, G1, M1, st, w1, r1, e1, e2⟩ => by
    subst e1; subst e2
    cases r1
    obtain ⟨g, vs, hx, kv⟩ := w1.mem _ _ hM
    obtain ⟨u, lu, ru⟩ := kvd_lookup kv hl
    exact ⟨rfl, rfl, dd, vs, u, rfl, hx, lu, (PV.here w1 ru q).base st⟩
theorem ws_try_as (i : Nat) {n x : Str} {c : Value} {body suite : List Stmt} {b₀ : Stmt} {np pos' : Pos} {Wo : WX} {QX : QXS} (hN : X.N.Nodup) (hc : Names X x c) (tk : Takes X Wo)
    (hb : ∀ b0 pn xe, Out (X.tr pn xe) b0 QX → PassesOwn (model X.prog X.w) X.A X.env xe → WSs (X.tr pn xe) body sg (M.rb b0) { nx := fun sg' M' => E.nx sg' (M'.rb M.b), rt := fun d M' => E.rt d (M'.rb M.b), bk := fun sg' M' => E.bk sg' (M'.rb M.b), ct := fun sg' M' => E.ct sg' (M'.rb M.b) })
    (hsu : ∀ C fs sg' M', QX C fs sg' M' → PySem.W.exmOne X.K (.ref C) c = some true ∧ ∀ a dd oe pn, Zc (.ref C) (some dd) oe → (∃ vs, oe.data = .fields vs) → M' dd = none →
      WSs (X.suite a ((a, oe) :: pn)) (b₀ :: suite) (sg'.set i (some (.ptr a))) (updM (M'.rb M.b) dd (some (.xd fs))) { nx := fun sg2 M2 => E.nx (sg2.set i none) M2, rt := E.rt, bk := fun sg2 M2 => E.bk (sg2.set i none) M2, ct := fun sg2 M2 => E.ct (sg2.set i none) M2 })
    (hs : X.stack = X.env :: X.outer := by rfl) (hf : X.env.frame = some X.env.locals := by rfl) (hi : X.N[i]? = some n := by rfl) (hln : X.env.kindOf n = some .local := by rfl) : WS X (.Try body [.ExceptHandler (some (.Name x np)) (some n) (b₀ :: suite) pos'] [] [] pos) sg M E := by
  refine WS.of (ps_try_as (tb := fun W D σ H => ∀ pn xe, Takes (X.tr pn xe) W → PassesOwn (model X.prog X.w) X.A X.env xe → tWSs (X.tr pn xe) body D σ H) (ts := fun a cls d D σ H => ∀ oe pn, Zc cls d oe → (∃ vs, oe.data = .fields vs) → tWSs (X.suite a ((a, oe) :: pn)) (b₀ :: suite) D σ H) hs hf hN hi hln hc tk
    (fun W pn xe t1 t2 => ⟨fun pins s σ H D I h => (h pn xe t1 t2).run pins s I⟩) (fun a oe cls d pn hz hf => ⟨fun pins s σ H D I h => (h oe pn hz hf).run pins s I⟩)) fun σ H G w s => ?_
  intro pn xe t1 t2
  refine (hb ⟨G, M.f, H⟩ pn xe ⟨_, t1, fun cls d σ' H' px => ?_⟩ t2 σ H G w.rb s).imp (fun σ' H' ⟨sg', G', M', st', w', s', q⟩ => ?_) (fun v H' ⟨d, G', M', st', w', r', q⟩ => ?_) (fun σ' H' ⟨sg', G', M', st', w', s', q⟩ => ?_) (fun σ' H' ⟨sg', G', M', st', w', s', q⟩ => ?_)
  · obtain ⟨C, dd, fs, ds, G', M', sg', e1, e2, e3, kv, hb', w', ⟨f1, f2, f3⟩, s', qx⟩ := px
    subst e1; subst e2
    obtain ⟨ex, su⟩ := hsu C ds sg' M' qx
    refine ⟨true, ex, fun _ a ha => fun oe pn2 hz hf2 => ?_, fun z => Bool.noConfusion z⟩
    obtain ⟨w2, st2⟩ := w.unrb w' hb'
    obtain ⟨w3, st3⟩ := w.takeX w2 st2 e3 kv f1 f2 f3
    exact (su a dd oe pn2 hz hf2 f2 _ _ _ w3 (s'.set i (.ptr a))).imp (fun σ2 H2 ⟨sg2, G2, M2, st4, w4, s4, q4⟩ => ⟨sg2.set i none, G2, M2, st3.trans st4, w4, s4.setN i, q4⟩) (fun v H2 p => PV.base st3 p) (fun σ2 H2 ⟨sg2, G2, M2, st4, w4, s4, q4⟩ => ⟨sg2.set i none, G2, M2, st3.trans st4, w4, s4.setN i, q4⟩) (fun σ2 H2 ⟨sg2, G2, M2, st4, w4, s4, q4⟩ => ⟨sg2.set i none, G2, M2, st3.trans st4, w4, s4.setN i, q4⟩)
  · obtain ⟨w2, st2⟩ := w.unrb w' st'.base
    exact ⟨sg', G', M'.rb M.b, st2, w2, s', q⟩
  · obtain ⟨w2, st2⟩ := w.unrb w' st'.base
    exact ⟨d, G', M'.rb M.b, st2, w2, r', q⟩
  · obtain ⟨w2, st2⟩ := w.unrb w' st'.base
    exact ⟨sg', G', M'.rb M.b, st2, w2, s', q⟩
  · obtain ⟨w2, st2⟩ := w.unrb w' st'.base
    exact ⟨sg', G', M'.rb M.b, st2, w2, s', q⟩
end
end DL
set_option Elab.async false
set_option linter.all false
set_option maxRecDepth 100000
set_option maxHeartbeats 4000000
/-! DLz: raise C(e) by data, C an own class with one field, given how it is made. -/
namespace DL
open PySem L2 PyProof.Rows HT
/-- C(e): an error whose own dict, new, has one field -/
def tMkX (C : Addr) (f : Str) (ta : TA) : L2.St → Hp → XK → Prop := fun σ H Q => ta σ H fun vs H1 => ∃ i : Int, vs = [.int i] ∧ i.natAbs.log2 < 1920 ∧ ∀ d, H1 d = none → Q (.ref C) (some d) (upd H1 d (.xd [(f, .int i)]))
theorem small_log {i : Int} (h0 : 0 ≤ i) (h1 : i < 4294967296) : i.natAbs.log2 < 1920 := by
  by_cases h : i.natAbs = 0
  · rw [h]; decide
  · rw [Nat.log2_lt h]
    exact Nat.lt_of_lt_of_le (show i.natAbs < 2 ^ 32 by omega) (Nat.pow_le_pow_right (by decide) (by decide))
section
variable {X : Cx} {sg : Sg} {M : Mem} {E : EndsD} {pos pos2 : Pos}
theorem ws_raise {x f : Str} {C : Addr} {p : Pos} {a : Expr} {QX : QXS} (hc : X.calm = true) (o : Out X M.b QX) (hmk : PMk X (.Call (.Name x p) [a] [] pos) (tMkX C f (tWA X [a]))) (h : WA X [a] sg M fun ds M1 => ∃ i : Int, ds = [.int i] ∧ i.natAbs.log2 < 1920 ∧ QX C [(f, .int i)] sg M1) :
    WS X (.Raise (some (.Call (.Name x p) [a] [] pos)) none pos2) sg M E := by
  obtain ⟨W, tk, hW⟩ := o
  refine WS.of (ps_raise hc tk hmk) fun σ H G w s => (h σ H G w s).imp fun vs H1 ⟨ds, G1, M1, st, w1, r1, i, e, hi, qx⟩ => ?_
  subst e
  obtain ⟨v, rfl, rv⟩ := r1.one
  cases rv
  refine ⟨i, rfl, hi, fun dd hd => hW _ _ _ _ ⟨C, dd, [(f, .int i)], [(f, .int i)], G1, M1, sg, rfl, rfl, upd_same, ⟨rfl, .cons (.int i) .nil⟩, st.base, w1.other (w1.free hd).1 (w1.free hd).2 fun u k1 k2 => w1.fresh hd k1 k2, ⟨(w1.free hd).1, (w1.free hd).2, fun u k1 k2 => ?_⟩, s.mono (st.gx w), qx⟩⟩
  rw [← st.base] at k1 k2
  exact w1.fresh hd k1 k2
end
end DL
set_option Elab.async false
set_option linter.all false
set_option maxRecDepth 100000
set_option maxHeartbeats 4000000
/-! DLv: a def as a value; a call of a local name that holds one. -/
namespace DL
open PySem L2 PyProof.Rows HT
section
variable {X : Cx} {CX : CXT} {k i : Nat} {f : Addr} {fd : FuncData} {ps : List Str} {sp : Sp} {E : L2.St → XK} {x : Str} {p pos : Pos} {e : Expr} {es : List Expr} {t : TA}
def tCallLS (i : Nat) (f : Addr) (sp : Sp) (E : L2.St → XK) (t : TA) : TE := fun σ H Q => σ[i]? = some (some (.ref f)) ∧ t σ H fun vs H1 => sp vs H1 Q (E σ)
theorem pe_callLS (F : FnOk X.prog X.w X.K X.mg X.base CX k f fd ps sp) (hr : Room k X.A) (hN : X.N[i]? = some x) (hv : Vis X.env.scope x) (hk : PySem.W.keepIn X.K (.ref f) = true) (hb : Binds X.K fd ps []) (hx : ∀ σ, PassesAt CX X σ (E σ)) (ha : PA X (e :: es) t)
    (hdb : (x == ("__debug__" : Str)) = false := by decide) (hcd : (x == ("__classdict__" : Str)) = false := by decide)
    (he : starEach (e :: es) X.env = (false, eval e X.env) :: starEach es X.env := by rfl) (hpl : (backTo pos (starEach es X.env)).any (·.1) = false := by rfl) : PE X (.Call (.Name x p) (e :: es) [] pos) (tCallLS i f sp E t) := by
  refine ⟨fun pins s σ H Q I h => ?_⟩
  obtain ⟨hs, ht⟩ := h
  refine wpAny_Call_Name_kw (thn ((pe_var (pos := p) hN hv hdb hcd).run pins s σ H (fun v H1 => v = .ref f ∧ H1 = H) I ⟨.ref f, hs, rfl, rfl⟩) fun u s1 ⟨v, H1, I1, r1, q1⟩ => ?_)
  obtain ⟨rfl, rfl⟩ := q1
  cases r1
  refine PySem.W.callWith_K (h₀ := X.base) I.ok.mod.kin hk (thn (ha.run pos pins s1 σ _ _ I1 ht) fun us s2 ⟨vs, H2, I2, r, q⟩ => ⟨I2.kIn, ?_⟩) he hpl
  exact run_fnS F hr hb (hx σ) I2 r q
end
section
variable {X : Cx} {sg : Sg} {M : Mem} {Q : D → Mem → Prop} {pos : Pos}
/-- the name of a def: its address -/
theorem ee_fn {x : Str} {f : Addr} (hm : X.mg x = some (.ref f)) (hg : Gl X x := by rfl) (hd : (x == ("__debug__" : Str)) = false := by decide) : EE X (.Name x pos) sg M (.ptr f) := WE.of (pe_glob (v := .ref f) hg hm rfl hd) fun σ H G w r => PV.here w (.ptr f) ⟨rfl, rfl⟩
theorem we_callXL (i : Nat) {k n : Nat} {x y : Str} {f : Addr} {S : SpDX} {p : Pos} {e : Expr} {es : List Expr} {QX : QXS} (C : CalX X.prog X.w X.K X.mg X.base k y n S) (hy : X.mg y = some (.ref f)) (hr : Room k X.A) (o : Out X M.b QX) (hs : sg[i]? = some (some (.ptr f)))
    (h : WA X (e :: es) sg M fun ds M1 => ds.length = n ∧ ∀ b0, S ds (M1.rb b0) (fun d M' => Q d (M'.rb M.b)) (fun C fs M' => QX C fs sg (M'.rb M.b))) (hN : X.N[i]? = some x := by rfl) (hv : Vis X.env.scope x := by first | exact Or.inl rfl | exact Or.inr (Or.inl rfl) | exact Or.inr (Or.inr rfl))
    (hd : (x == ("__debug__" : Str)) = false := by decide) (hcd : (x == ("__classdict__" : Str)) = false := by decide)
    (he : starEach (e :: es) X.env = (false, eval e X.env) :: starEach es X.env := by exact star1 rfl) (hpl : (backTo pos (starEach es X.env)).any (·.1) = false := by exact starN rfl) : DL.WE X (.Call (.Name x p) (e :: es) [] pos) sg M Q := by
  obtain ⟨f2, fd, ps, F, hm, kp, hb⟩ := C
  rw [hy] at hm
  cases hm
  obtain ⟨W, tk, hW⟩ := o
  refine WE.of (pe_callLS (i := i) F hr hN hv kp hb (fun σ => passAt tk σ) pa_w hd hcd he hpl) fun σ H G w s => ?_
  obtain ⟨v0, e0, r0⟩ := s.at_ i _ hs
  cases r0
  refine ⟨e0, (h σ H G w s).imp fun vs H1 ⟨ds, G1, M1, st, w1, r1, hl, hS⟩ => ?_⟩
  refine ⟨G1, M1.rb ⟨G1, M1.f, H1⟩, ds, _, _, w1.rb, r1, hl, hS _, fun v H' ⟨d, G', M', st', w', r', q⟩ => ?_, fun cls d H' ⟨C, dd, fs, fds, G', M', e1, e2, e3, kv, hb', w', ⟨f1, f2, f3⟩, qx⟩ => ?_⟩
  · obtain ⟨w2, st2⟩ := w1.unrb w' st'.base
    rw [st.base] at w2 st2
    exact PV.base st ⟨d, G', M'.rb M.b, st2, w2, r', q⟩
  · obtain ⟨w2, st2⟩ := w1.unrb w' hb'
    rw [st.base] at w2 st2
    exact hW _ _ _ _ ⟨C, dd, fs, fds, G', M'.rb M.b, sg, e1, e2, e3, kv, rfl, w2, ⟨f1, f2, fun u k1 k2 => by
      have z := w1.hist dd u
      rw [st.base] at z
      obtain ⟨z1, _, z3⟩ := z k1 k2
      exact f3 u z1 z3⟩, s.mono ((st.trans st2).gx w), qx⟩
end
end DL
set_option Elab.async false
set_option linter.all false
set_option maxRecDepth 100000
set_option maxHeartbeats 4000000
/-! DLu: an own error over ValueError whose __init__ says super().__init__(text), then self.f = n. -/
namespace DL
open PySem L2 PyProof.Rows HT NdefX
section
variable {prog : Program} {w : World} {A : Around} {E : Value → Shared → Prop} {h : Heap} {g : Array GenState} {d : Drawn} {t : Nat} {os : OsState}
variable {nm q : Str} {C N : Addr} {bs bm : List Value} {hdct : Bool} {sn : List Str} {sub : List Value} {ab : Bool} {col : Option Bool} {dd : Option Addr} {k0 k1 k2 k3 k5 : Option Value}
theorem call_mw {u e t0 : Addr} {rest : List Value} {Q : Value → Shared → Prop}
    (hC : h.get? C = some (excClassObj nm q C N bs bm hdct sn sub ab col dd k0 k1 k2 k3 k5 "ValueError.__new__")) (he : h.get? e = some (HandSPX.excO C t0)) (hu : h.get? u = some (PySem.W.kxs_mw "ValueError.__init__" e)) (hrest : rest.length ≤ sizeLine)
    (hq : ∀ h' t1, (∀ b o, b ≠ e → h.get? b = some o → h'.get? b = some o) → h'.get? e = some (HandSPX.excO C t1) → Q .none ⟨h', g, d, t, os⟩) :
    wpAny (model prog w) A (call (.ref u) rest) Q E ⟨h, g, d, t, os⟩ := by
  refine wpAny_call (codeAny_of_tree ?_)
  show wpAny _ A.in1 (callAny (.ref u) ⟨rest, []⟩) _ _ _
  simp only [callAny]
  refine wpAny_bind (wpAny_load hu ?_)
  simp only [PySem.W.kxs_mw, show (Value.type "method-wrapper" == Value.type "method" || Value.type "method-wrapper" == Value.type "builtin_function_or_method" || Value.type "method-wrapper" == Value.type "method-wrapper") = true by decide, if_true]
  refine PySem.W.KFB.if_so (by decide) ?_
  refine wpAny_bind (ESX.check_bound F.excBase_ValueError hC he rfl ?_)
  refine wpAny_bind (wpAny_pure (wpAny_pure ?_))
  refine ⟨Code.quiet_builtin _ (by decide +kernel), codeAny_builtin F.excBase_ValueError.initEntry ?_⟩
  rw [Around.under_plainId F.excBase_ValueError.init.plain _]
  wp_walk
  refine hq _ h.objs.size (fun b o hb ho => ?_) ?_
  · rw [Heap.get?_update_other _ _ (Ne.symm hb)]
    exact Heap.get?_push_of_some _ ho
  · rw [Heap.get?_update_self _ (Heap.get?_push_of_some _ he) rfl]
    rfl
end

abbrev sSelf : Str := "self"
abbrev sCls : Str := "__class__"
/-- what stands of an error class whose __init__ says super().__init__(..), then self.fld = a parameter -/
structure SupX (P : Program) (K : PySem.W.Frag) (mg : Str → Option Value) (C fI cc c : Addr) (F : NF) (fd : FuncData) (fld pn : Str) : Prop where
  oex : OexC K C
  lk : ∃ oc od dV kV doc pm an ct osl, fd = PySem.W.fnX F.name F.qual F.params F.body F.scope F.cl dV kV doc pm an (.ref c) ct ∧ F.c = c ∧ F.cl = [(sCls, cc)] ∧ K.lookup fI = some ⟨oc, od, .func fd, osl⟩
  code : ∃ ccl cdd vs ccs file tf, K.lookup c = some ⟨ccl, cdd, .fields vs, ccs⟩ ∧ vs[2]? = some (.str file tf) ∧ ((P.main.file : Str) == file) = true
  cq : PySem.W.codeIn K (.ref c) F.qual = true
  cell : ∃ cl cld csl, K.lookup cc = some ⟨cl, cld, .cell (some (.ref C)), csl⟩
  sub : PySem.W.mroIn K C (.ref C) = some true
  ve : PySem.W.subIn K (.ref C) (.type "ValueError") = some true
  sup : PySem.W.ks_superIn K C C "__init__" = some (some (.builtin "ValueError.__init__"))
  opq : PySem.W.nsIn K cStatics "thirdparty.any" = some none
  mgS : mg "super" = none
  top : (P.main.scope.names.lookup ("super" : Str)).isSome = false
  sc : NScope [sSelf, pn, sCls] [sSelf, pn] [sCls] F.scope
  hS : F.scope.names.lookup ("super" : Str) = some .globalImplicit
  par : (F.params.posonlyargs ++ F.params.args).head?.map (·.arg) = some sSelf
  no : PySem.W.findIn K (.ref C) fld = some none
  init : PySem.W.findIn K (.ref C) "__init__" = some (some (.ref fI))
  ty : PySem.W.typeIn K (.ref fI) = some (.type "function")
  bind : Binds K fd [sSelf, pn] []
/-- the promise of __init__ -/
def spSup (K : PySem.W.Frag) (C : Addr) (fld : Str) : Sp := fun vs H Q _ => ∃ (a : Addr) (i : Int), vs = [.ref a, .int i] ∧ i.natAbs.log2 < 1920 ∧ H a = some (exo a C none) ∧ ∀ dx, H dx = none → dx ≠ a → Q .non (upd (upd H dx (exd dx [(fld, .int i)])) a (exo a C (some dx)))
section
variable {P : Program} {w : World} {K : PySem.W.Frag} {mg : Str → Option Value} {base : Heap}
theorem sup_init {C fI cc c : Addr} {F : NF} {fd : FuncData} {fld pn : Str} {a : Expr} {p0 p1 p2 p3 p4 p5 p6 p7 p8 : Pos} (T : SupX P K mg C fI cc c F fd fld pn)
    (hbody : F.body = [.Expr (.Call (.Attribute (.Call (.Name "super" p0) [] [] p1) "__init__" p2) [a] [] p3) p4, .Assign [.Attribute (.Name "self" p5) fld p6] (.Name pn p7) p8])
    (hst : nst a = true) (hsw : ∀ env, swapsWith (.Name pn p7) (some (.Attribute (.Name "self" p5) fld p6)) p8.line env = pure false) (hpd : (pn == ("__debug__" : Str)) = false) (hpc : (pn == ("__classdict__" : Str)) = false)
    (hsw2 : ∀ env, swapsWith (.Call (.Attribute (.Call (.Name "super" p0) [] [] p1) "__init__" p2) [a] [] p3) none p4.line env = pure false)
    (hev : ∀ env : Env, ∃ pl : Sem Bool, eval (.Call (.Attribute (.Call (.Name "super" p0) [] [] p1) "__init__" p2) [a] [] p3) env = (do
      let ov ← attributeBase (.Call (.Name "super" p0) [] [] p1) "__init__" env (eval (.Call (.Name "super" p0) [] [] p1) env)
      standAt p2.atName
      let (f, first) ← holding [ov] (getMethod ov "__init__" pl)
      callWith p3 f first (backTo p3 (starEach [a] env)) []))
    (ha : ∀ X : Cx, X.K = K → X.mg = mg → X.N = [sSelf, pn, sCls] → X.env.scope = F.scope → PE X a (fun σ H Q => ∃ i : Int, σ[1]? = some (some (.int i)) ∧ i.natAbs.log2 < 1920 ∧ ∀ t : Str, Q (.str t) H)) :
    FnOk P w K mg base CX0 1 fI fd [sSelf, pn] (spSup K C fld) := by
  obtain ⟨oc, od, dV, kV, doc, pm, an, ct, osl, hfd, hc, hcl, lk⟩ := T.lk
  obtain ⟨nm0, qual, params, body, scope, cl, c0⟩ := F
  have hc : c0 = c := hc
  have hcl : cl = [(sCls, cc)] := hcl
  have hbody : body = _ := hbody
  subst hc; subst hcl
  subst hfd
  have S : NScope [sSelf, pn, sCls] [sSelf, pn] [sCls] scope := T.sc
  refine ⟨fun vs H Q E h => ?_, fun A outer s H args us vs Q E hr e0 hb r hsp => ?_⟩
  · obtain ⟨a, i, e, _⟩ := h
    rw [e]
    rfl
  obtain ⟨x, i, rfl, hi, hx, q⟩ := hsp
  have KX : K.In s.heap := e0.mod.kin.keeps fun b o e => (e0.bs b o e).1
  have lim : s.heap.NoLimit := e0.mod.nolimit.keeps fun b o e => (e0.bs b o e).1
  obtain ⟨cl, cld, csl, hcell⟩ := T.cell
  obtain ⟨ccl, cdd, fvs, ccs, file, tf, hcode, hvs, hfile⟩ := T.code
  refine ks_codeAny_call_defAt hr.depth (KX _ _ lk) rfl lim (PySem.W.codeRec_of KX T.cq) rfl hb S.nocell (fun ⟨n, _⟩ hy => S.par n (List.of_mem_zip hy).1) (fun h₁ hns hk => ?_) S.co S.gen S.kind
  have hcb : H cc = none ∧ s.heap.IsCell cc (some (.ref C)) := ⟨(e0.bs cc _ (e0.mod.kin _ _ hcell)).2, ⟨_, KX _ _ hcell, rfl⟩⟩
  have CA : CellsAt [(sCls, cc)] [sCls] [none] s.heap H := by
    refine ⟨rfl, fun y c1 e => ?_, fun y z c1 e1 e2 => ?_, fun j y e => ?_⟩
    · have : c1 = cc := by
        by_cases hy : (y == sCls) = true
        · simp only [List.lookup, hy] at e
          exact (Option.some.inj e).symm
        · simp only [List.lookup, hy] at e
          cases e
      subst this
      exact ⟨hcb.1, _, hcb.2⟩
    · have h1 : ∀ {y : Str}, List.lookup y [(sCls, cc)] = some c1 → y = sCls := fun {y} e => by
        by_cases hy : (y == sCls) = true
        · exact by simpa using hy
        · simp only [List.lookup, hy] at e
          cases e
      rw [h1 e1, h1 e2]
    · cases j with
      | zero =>
        cases e
        exact ⟨cc, by simp [List.lookup], fun v hv => by cases hv⟩
      | succ j => simp at e
  have I : Inv (ncx CX0 P w K mg base [sSelf, pn, sCls] ⟨nm0, qual, params, body, scope, [(sCls, cc)], c0⟩ fI A outer s H E) [] (startF [sSelf, pn, sCls] [.ref x, .int i] [none]) H { s with heap := h₁, toks := s.toks + ([sSelf, pn].zip us).length } := inv_startN S hr.hd e0 rfl r CA hns hk
  have hKX : ∃ X, X = ncx CX0 P w K mg base [sSelf, pn, sCls] ⟨nm0, qual, params, body, scope, [(sCls, cc)], c0⟩ fI A outer s H E := ⟨_, rfl⟩
  have fin : ∀ {σ' : L2.St} {H' : Hp} {v : V} {u : Value} {s' : Shared}, Inv (ncx CX0 P w K mg base [sSelf, pn, sCls] ⟨nm0, qual, params, body, scope, [(sCls, cc)], c0⟩ fI A outer s H E) [] σ' H' s' → L2.RelV v u → Q v H' → CE outer P w H s Q u s' :=
    fun {σ' H' v u s'} J rv q => ⟨v, H', J.os, J.bare, J.base, J.hok, rv, q⟩
  show PySem.wpAt (model P w) (A.deeper (envF ⟨nm0, qual, params, body, scope, [(sCls, cc)], c0⟩ fI s.heap.objs.size)) (.func body (envF ⟨nm0, qual, params, body, scope, [(sCls, cc)], c0⟩ fI s.heap.objs.size)) (execs body (envF ⟨nm0, qual, params, body, scope, [(sCls, cc)], c0⟩ fI s.heap.objs.size)) _ _ _
  have hks : (envF ⟨nm0, qual, params, body, scope, [(sCls, cc)], c0⟩ fI s.heap.objs.size).kindOf "super" = some .globalImplicit := T.hS
  have hkc : (envF ⟨nm0, qual, params, body, scope, [(sCls, cc)], c0⟩ fI s.heap.objs.size).kindOf "__class__" = some .free := S.frk _ (List.mem_cons_self ..)
  have quiet := I.quiet
  have hsx : ∀ env : Env, execs body env = execs [.Expr (.Call (.Attribute (.Call (.Name "super" p0) [] [] p1) "__init__" p2) [a] [] p3) p4, .Assign [.Attribute (.Name "self" p5) fld p6] (.Name pn p7) p8] env := fun env => congrArg (fun b => execs b env) hbody
  rw [hsx]
  refine ks_wpAt_execs_cons (ks_wpAt_Expr_any ?_ quiet (hsw2 _))
  obtain ⟨pl, hev⟩ := hev (envF ⟨nm0, qual, params, body, scope, [(sCls, cc)], c0⟩ fI s.heap.objs.size)
  refine ks_wpAt_MethodCall (pl := pl) ?_ hev
  obtain ⟨nm, q1, N1, bs1, bm, sn, sub, ab, col, dd, k0, k1, k2, k3, k5, hC, hbm⟩ := T.oex.cls
  have hcls : PySem.W.clsIn K C = some { name := nm, bases := bs1, mro := .ref C :: bm, ns := N1, qualname := q1, hasDict := true, slotNames := sn, subclasses := sub, abstract := ab, collection := col, hasDel := false } := by unfold PySem.W.clsIn; rw [hC] <;> rfl
  obtain ⟨ar, har, harn⟩ : ∃ ar : Arg, (params.posonlyargs ++ params.args).head? = some ar ∧ ar.arg = sSelf := by
    have hp := T.par
    cases e : (params.posonlyargs ++ params.args).head? with
    | none =>
      have hp : ((params.posonlyargs ++ params.args).head?).map (·.arg) = some sSelf := hp
      rw [e] at hp; cases hp
    | some ar =>
      have hp : ((params.posonlyargs ++ params.args).head?).map (·.arg) = some sSelf := hp
      rw [e] at hp
      exact ⟨ar, rfl, Option.some.inj hp⟩
  have K1 : K.In h₁ := KX.keeps hk
  have r0 := r
  obtain ⟨u0, us1, eus, ru0, ru1⟩ : ∃ u0 us1, us = u0 :: us1 ∧ L2.RelV (.ref x) u0 ∧ Vals [.int i] us1 := by
    cases r with
    | cons r1 r2 => exact ⟨_, _, rfl, r1, r2⟩
  obtain rfl : u0 = Value.ref x := ru0
  have nd2 : [sSelf, pn].Nodup := by
    have := S.nd
    exact (List.nodup_append.mp (show ([sSelf, pn] ++ [sCls]).Nodup from this)).1
  obtain ⟨mb, hb1, hb2⟩ := e0.mod.blt
  refine ks_wpAt_super_base hks hkc (by decide) rfl (hk _ _ (KX _ _ lk)) rfl har rfl (hk _ _ (KX _ _ hcode)) rfl hvs hfile T.top ?_
  refine PySem.W.ks_loadName_global S.kind hks (Calls.loadGlobal_builtin (e0.mod.glob.keeps fun b o e => hk _ _ (e0.bs b o e).1) T.mgS (hb1.keeps fun b o e => hk _ _ (e0.bs b o e).1) ((hb2 "super" (by decide)).trans (show bootBuiltins "super" = some (.type "super") by decide +kernel)) ⟨rfl, ?_⟩)
  refine wpAny_loadName_free S.kind hkc (c := cc) (by rfl) ⟨_, K1 _ _ hcell, rfl⟩ ?_
  rw [harn]
  refine wpAny_loadName_local S.kind (S.par _ (List.mem_cons_self ..)) hns (zip_look (i := 0) nd2 rfl (by rw [eus]; rfl)) ?_
  refine ks_wpAny_isType_cls (K1 _ _ hC) rfl ⟨rfl, ?_⟩
  obtain ⟨t1, hxo⟩ := exo_at I.hok hx
  refine ks_wpAny_call_super (K1 _ _ hC) rfl hxo rfl (fun c e => by cases e) (PySem.W.looks_mroIn K1 T.sub) (fun h2 e2 k => ?_)
  have I1 := I.kept (h' := h2) (t' := s.toks + ([sSelf, pn].zip us).length) k
  have K2 : K.In h2 := K1.keeps k
  obtain ⟨t2, hxo2⟩ := exo_at I1.hok hx
  have hxC : x ≠ C := fun e => by
    have y := K2 _ _ hC
    rw [← e] at y
    rw [y] at hxo2
    cases hxo2
  have IA : PySem.W.InstAt h2 x (HandSPX.excO C t2) C none := ⟨hxo2, rfl, rfl, trivial⟩
  refine PySem.W.kxs_getMethod PySem.W.kxs_ValueError e2 (PySem.W.looks_opaque K2 T.opq) (l₀ := .ref C :: bm) ((PySem.W.looks_clsIn K2 hcls).andThen .now) rfl K2 ?_ (IA.type.andThen (PySem.W.looks_subIn K2 T.ve)) hxC (by decide) ?_
  · have := T.sup
    unfold PySem.W.ks_superIn at this
    rw [hcls] at this
    exact this
  have kp : ∀ b o, h2.get? b = some o → (h2.push (PySem.W.kxs_mw "ValueError.__init__" x)).get? b = some o := fun b o e => Heap.get?_push_of_some _ e
  have I2 := (I1.kept (h' := h2.push (PySem.W.kxs_mw "ValueError.__init__" x)) (t' := s.toks + ([sSelf, pn].zip us).length + 1) kp).pins_of (pins' := [(h2.objs.size, PySem.W.kxs_mw "ValueError.__init__" x)]) (fun p hp => by
    rw [List.mem_singleton.mp hp]
    exact ⟨Heap.get?_push_at rfl rfl, I1.hok.fresh (Nat.le_refl _), fun z => absurd I1.lt (by show ¬ _ < h2.objs.size; rw [← z]; exact Nat.lt_irrefl _), I1.nofs (Nat.le_refl _), fun v z => by cases z⟩)
  have he : starEach [a] (envF ⟨nm0, qual, params, body, scope, [(sCls, cc)], c0⟩ fI s.heap.objs.size) = (false, eval a (envF ⟨nm0, qual, params, body, scope, [(sCls, cc)], c0⟩ fI s.heap.objs.size)) :: starEach [] (envF ⟨nm0, qual, params, body, scope, [(sCls, cc)], c0⟩ fI s.heap.objs.size) := star1 hst
  have pa := pa_cons (ha (ncx CX0 P w K mg base [sSelf, pn, sCls] ⟨nm0, qual, params, body, scope, [(sCls, cc)], c0⟩ fI A outer s H E) rfl rfl rfl rfl) pa_nil he
  have pr := pa.run p3 _ _ _ H (fun vs H1 => ∃ t : Str, vs = [.str t] ∧ H1 = H) I2 ⟨i, rfl, hi, fun t => ⟨t, rfl, rfl⟩⟩
  have pr : wpAny (model P w) (A.deeper (envF ⟨nm0, qual, params, body, scope, [(sCls, cc)], c0⟩ fI s.heap.objs.size)) (spliced (backTo p3 (starEach [a] (envF ⟨nm0, qual, params, body, scope, [(sCls, cc)], c0⟩ fI s.heap.objs.size)))) _ _ _ := pr
  rw [he] at pr
  show wpAny _ _ (callWith p3 (.ref h2.objs.size) [] (backTo p3 (starEach [a] (envF ⟨nm0, qual, params, body, scope, [(sCls, cc)], c0⟩ fI s.heap.objs.size))) []) _ _ _
  rw [he]
  refine PySem.W.kxs_callWith (i := "ValueError.__init__") (x := x) rfl (Calls.evalArgs_plain (wpAny_mono pr (fun ws s3 ⟨vs, H3, I3, r3, t, e1, e2⟩ => ?_) fun _ _ z => z))
  subst e1
  rw [e2] at I3
  have pin := (I3.pin (h2.objs.size, PySem.W.kxs_mw "ValueError.__init__" x) (by simp)).1
  refine ⟨pin, ?_⟩
  obtain ⟨t3, hxo3⟩ := exo_at I3.hok hx
  obtain ⟨h3, g3, d3, tk3, os3⟩ := s3
  refine call_mw (I3.kIn _ _ hC) hxo3 pin (by rw [List.nil_append, ← r3.length, sizeLine_eq]; show 1 ≤ 16777216; omega) (fun h4 t4 k4 hxo4 => ?_)
  have J := (I3.write (t' := tk3) (x := x) (e := x) (o := exo x C none) (by rw [hx]; exact True.intro) (.inl rfl) k4 ⟨_, hxo4⟩ (exo_ok hxo4)).pins_of (pins' := []) (fun p hp => by cases hp)
  have eu : upd H x (exo x C none) = H := by
    funext b
    by_cases hb : b = x
    · rw [hb, upd_same, hx]
    · rw [upd_ne hb]
  rw [eu] at J
  refine wpAt_of_wpAny ?_
  have hself : scope.names.lookup sSelf = some .local := S.par _ (List.mem_cons_self ..)
  have ps := pss_cons (ps_ost (X := ncx CX0 P w K mg base [sSelf, pn, sCls] ⟨nm0, qual, params, body, scope, [(sCls, cc)], c0⟩ fI A outer s H E) (f := fld) (pe_var (i := 0) (x := sSelf) (pos := p5) rfl (.inl hself)) (pe_var (i := 1) (x := pn) (pos := p7) rfl (.inl (S.par _ (List.mem_cons_of_mem _ (List.mem_cons_self ..)))) hpd hpc) (hsw _)) pss_nil
  refine thn (ps.run [] _ _ H { nx := fun _ H' => Q .non H', rt := Q } J ⟨.int i, rfl, .ref x, rfl, x, C, rfl, T.oex, T.no, .inl ⟨hx, fun dx hd hne => q dx hd hne⟩⟩) fun f s' hs => ?_
  cases f with
  | ret u =>
    obtain ⟨v, σ', H', J, rv, q⟩ := hs
    exact fin J rv q
  | next =>
    obtain ⟨σ', H', J, q⟩ := hs
    exact fin (v := V.non) (u := Value.none) J rfl q
  | brk =>
    obtain ⟨_, _, _, q⟩ := hs
    exact False.elim q
  | cont =>
    obtain ⟨_, _, _, q⟩ := hs
    exact False.elim q
end
/-- how an error of this class is made, in any frame with room -/
def MkE (P : Program) (w : World) (K : PySem.W.Frag) (mg : Str → Option Value) (base : Heap) (x : Str) (C : Addr) (fld : Str) : Prop := ∀ (X : Cx), X.prog = P → X.w = w → X.K = K → X.mg = mg → X.base = base → Room 2 X.A → Gl X x → ∀ (a : Expr) (p pos : Pos), nst a = true → PMk X (.Call (.Name x p) [a] [] pos) (tMkX C fld (tWA X [a]))
theorem mke {P : Program} {w : World} {K : PySem.W.Frag} {mg : Str → Option Value} {base : Heap} {C fI cc c : Addr} {F : NF} {fd : FuncData} {fld pn x : Str} (T : SupX P K mg C fI cc c F fd fld pn) (F1 : FnOk P w K mg base CX0 1 fI fd [sSelf, pn] (spSup K C fld)) (hm : mg x = some (.ref C)) (hdb : (x == ("__debug__" : Str)) = false) : MkE P w K mg base x C fld := by
  intro X e1 e2 e3 e4 e5 hr hg a p pos hst pins s σ H Q I h
  subst e1; subst e2; subst e3; subst e4; subst e5
  refine pmk_oex T.oex T.init T.ty F1 hr T.bind .nil pass0 hg hm (pa_w (es := [a])) hdb (star1 hst) rfl pins s σ H Q I ?_
  refine tWA.imp h fun vs H1 ⟨i, e, hi, q⟩ => ?_
  subst e
  refine ⟨by show 1 ≤ 1000; omega, fun b hb => ⟨b, i, rfl, hi, upd_same, fun dx hd hne => ⟨rfl, dx, _, upd_same, by rw [upd_ne hne, upd_same], by rw [upd_ne hne] at hd; exact hd, ?_⟩⟩⟩
  have hd1 : H1 dx = none := by rw [upd_ne hne] at hd; exact hd
  have ee : upd (del (upd (upd (upd H1 b (exo b C none)) dx (exd dx [(fld, .int i)])) b (exo b C (some dx))) b) dx (.xd [(fld, .int i)]) = upd H1 dx (.xd [(fld, .int i)]) := by
    funext y
    by_cases h1 : y = dx
    · subst h1; rw [upd_same, upd_same]
    · rw [upd_ne h1, upd_ne h1]
      by_cases h2 : y = b
      · subst h2; rw [del_same, hb]
      · rw [del_ne h2, upd_ne h2, upd_ne h1, upd_ne h2]
  rw [ee]
  exact q dx hd1
end DL
set_option Elab.async false
set_option linter.all false
set_option maxRecDepth 100000
set_option maxHeartbeats 4000000
/-! DLt: tuple * 1; range with a step; a list that changes, out of a sum. -/
namespace DL
open PySem PySem.Spec L2 PyProof.Rows HT
theorem tuple_mul1 (l : Addr) (items : Array Value) (n : Nat) (sl : Array (Option Value)) (dd : Option Addr) (x : Int) (u : Tok) (c0 : (decide (x < -(2 ^ 63)) || decide (x ≥ 2 ^ 63)) = false) (c1 : (items.isEmpty || x == 1) = true) :
    Meets (Builtin.«tuple.__mul__» ⟨[.ref l, .int x u], []⟩) (fun _ R s => s.heap.get? l = some { cls := .type "tuple", dict := dd, data := .seq items n, slots := sl } ∧ R (.ok (.ret (Value.ref l))) s) :=
  .of_wp fun prog w A R s h => by
    obtain ⟨hp, g, d, tk, os⟩ := s
    obtain ⟨hl, h⟩ := h
    have f1 := AutoSeq1.idx_int
    wp_walk using wpAny_loadPart' hl
    repeat (first
      | (refine wpAny_ite_false (decide_eq_false (by rw [c0]; exact Bool.false_ne_true)) ?_; wp_walk using wpAny_loadPart' hl)
      | (refine wpAny_ite_true (decide_eq_true (by rw [c1])) ?_; wp_walk using wpAny_loadPart' hl))
    exact ⟨_, rfl, h⟩
/-- tuple * 1, or of the empty one: itself -/
def rRep1 (K : PySem.W.Frag) : R2 := fun x y H Q => ∃ l k xs, x = .ref l ∧ y = .int k ∧ SqT K H l xs ∧ (xs = [] ∨ k = 1) ∧ -(2 ^ 62) ≤ k ∧ k < 2 ^ 62 ∧ Q (.ref l) H
def rRepA (K : PySem.W.Frag) : R2 := fun x y H Q => rRepT K x y H Q ∨ rRep1 K x y H Q
section
variable {X : Cx}
theorem op_repA : OpR X (binaryOp .Mult) (rRepA X.K) := by
  intro pins s σ H x y v u Q I rx ry h
  rcases h with h | h
  · exact op_repT pins s σ H x y v u Q I rx ry h
  obtain ⟨l, k, xs, rfl, rfl, hT, h1, h2, h3, q⟩ := h
  cases rx
  obtain ⟨t, rfl⟩ := ry
  obtain ⟨its, r, ⟨⟨cls, dd, data, sl⟩, ho, hc, n, hd⟩, hs⟩ := I.tuple hT
  simp only at hc hd
  subst hc hd
  have c0 : (decide (k < -(2 ^ 63)) || decide (k ≥ 2 ^ 63)) = false := by
    rw [decide_eq_false (by omega), decide_eq_false (by omega)] <;> rfl
  have c1 : (its.toArray.isEmpty || k == 1) = true := by
    rcases h1 with h1 | h1
    · subst h1
      cases r
      rfl
    · subst h1
      rw [Bool.or_eq_true]
      exact .inr rfl
  refine wpAny_binaryOp_repeat_ref (T := "tuple") (U := "int") (by decide) ⟨_, ho, rfl⟩ (fun s' => typeIs_int s' k t) noFill_tuple_mul F.fills_int_mul F.slot_int_rmul repeat_tuple F.slot_int_index.lookup
    (call_meets F.slot_int_rmul (typeIs_int s k t) F.entry_int_rmul (F.args_int_rmul_2 _ _) (int_rmul_tuple k t l its.toArray n dd sl)
      ⟨ho, rfl, ⟨_, ho, rfl⟩, call_meets F.slot_tuple_mul ⟨_, ho, rfl⟩ F.entry_tuple_mul (F.args_tuple_mul_2 _ _) (tuple_mul1 l its.toArray n sl dd k t c0 c1) ⟨ho, ?_⟩⟩)
  exact ⟨.ref l, H, I, rfl, q⟩
end
section
variable {K : PySem.W.Frag} {M : Mem} {Q : D → Mem → Prop}
theorem od_repA {ds : List D} {i : Int} (h1 : 1 ≤ i) (h2 : i ≤ 1000) (h3 : ds.length ≤ 1000) (q : Q (.tup (List.replicate i.toNat ds).flatten) M) : OpD K (rRepA K) (.tup ds) (.int i) M Q := fun G H v u R w rx ry k => by
  cases ry
  cases rx with
  | @tup a xs _ e1 r1 =>
    by_cases h0 : xs = [] ∨ i = 1
    · have e : (List.replicate i.toNat ds).flatten = ds := by
        rcases h0 with h0 | h0
        · subst h0
          cases r1
          simp
        · subst h0
          simp
      rw [e] at q
      exact .inr ⟨_, _, xs, rfl, rfl, w.sub.st e1, h0, by omega, by omega, k _ _ (PV.here w (.tup e1 r1) q)⟩
    · have h5 : ¬ xs = [] := fun z => h0 (.inl z)
      have h6 : ¬ i = 1 := fun z => h0 (.inr z)
      exact .inl ⟨_, _, _, rfl, rfl, w.sub.st e1, h5, by omega, h2, by rw [r1.length]; exact h3, fun p hp => k _ _ (new_tup w hp (r1.rep _) q)⟩
/-- a sum of lists that may change -/
theorem od_catM {x y : D} {ds es : List D} (hx : LsD M x ds) (hy : LsD M y es) (h : ds.length + es.length ≤ sizeLine) (q : ∀ p, M p = none → Q (.ptr p) (updM M p (some (.lst (ds ++ es))))) : OpD K rCat x y M Q := fun G H v u R w rx ry k => by
  obtain ⟨a, xs, rfl, h1, r1⟩ := hx.at w rx
  obtain ⟨b, ys, rfl, h2, r2⟩ := hy.at w ry
  exact ⟨a, b, xs, ys, rfl, rfl, h1, h2, by rw [r1.length, r2.length]; exact h, fun p hp => k _ _ (new_lstM w hp (r1.append r2) q)⟩
/-- lo, lo + c, .. -/
def rngC (lo c : Int) (n : Nat) : List D := (List.range n).map fun (i : Nat) => D.int (lo + (i : Int) * c)
theorem rngC_at {lo c : Int} {n j : Nat} {d : D} (h : (rngC lo c n)[j]? = some d) : j < n ∧ d = .int (lo + (j : Int) * c) := by
  unfold rngC at h
  rw [List.getElem?_map] at h
  cases e : (List.range n)[j]? with
  | none => rw [e] at h; cases h
  | some i =>
    rw [e] at h
    have hj := (List.getElem?_eq_some_iff.mp e).1
    rw [List.length_range] at hj
    rw [List.getElem?_range hj] at e
    cases e
    exact ⟨hj, (Option.some.inj h).symm⟩
theorem rngC_len {lo c : Int} {n : Nat} : (rngC lo c n).length = n := by unfold rngC; rw [List.length_map, List.length_range]
theorem itd_rngC {G : Hp} {lo c : Int} {n : Nat} : ItD K G (Itc lo c n) (rngC lo c n) fun _ => True := fun G1 M1 H1 gx w _ i => by
  refine ⟨fun h => by rw [rngC_len] at h; exact Nat.le_of_eq h.symm, fun d hd => ?_⟩
  obtain ⟨hi, e⟩ := rngC_at hd
  subst e
  refine ⟨hi, fun x H' ⟨e1, e2⟩ => ?_⟩
  subst e1; subst e2
  exact ⟨G1, Stp.refl, w, .int _⟩
theorem rgc_up {j c : Int} (h0 : 0 ≤ j) (h1 : j < 2 ^ 30) (c0 : 0 < c) (c1 : c < 2 ^ 29) : ∃ n : Nat, RgC 0 j c n ∧ (n : Int) ≤ j ∧ ∀ i : Nat, i < n → (i : Int) * c < j := by
  have hr : Builtin.Range.rangeSize 0 j c = if 0 < j then (j - 1) / c + 1 else 0 := by
    unfold Builtin.Range.rangeSize
    rw [if_pos c0, Int.sub_zero]
  refine ⟨(if 0 < j then (j - 1) / c + 1 else 0).toNat, ⟨by omega, by omega, ?_, ?_⟩, ?_, ?_⟩
  · unfold Builtin.Range.small
    rw [hr]
    by_cases hj : 0 < j
    · rw [if_pos hj]
      have d0 : 0 ≤ (j - 1) / c := Int.ediv_nonneg (by omega) (by omega)
      have d1 : (j - 1) / c ≤ j - 1 := Int.ediv_le_self _ (by omega)
      have d2 : (j - 1) / c * c ≤ j - 1 := Int.ediv_mul_le _ (by omega)
      simp only [Builtin.Range.rangeFitsLong, Bool.and_eq_true, Bool.or_eq_true, decide_eq_true_eq, beq_iff_eq]
      rw [if_pos c0]
      simp only [Builtin.Range.rangeFitsLong, Bool.and_eq_true, decide_eq_true_eq]
      omega
    · rw [if_neg hj]
      simp [Builtin.Range.rangeFitsLong]
      omega
  · rw [hr]
    split
    · have d0 : 0 ≤ (j - 1) / c := Int.ediv_nonneg (by omega) (by omega)
      omega
    · rfl
  · split
    · have d0 : 0 ≤ (j - 1) / c := Int.ediv_nonneg (by omega) (by omega)
      have d1 : (j - 1) / c ≤ j - 1 := Int.ediv_le_self _ (by omega)
      omega
    · omega
  · intro i hi
    by_cases hj : 0 < j
    · rw [if_pos hj] at hi
      have d0 : 0 ≤ (j - 1) / c := Int.ediv_nonneg (by omega) (by omega)
      have d2 : (j - 1) / c * c ≤ j - 1 := Int.ediv_mul_le _ (by omega)
      have d3 : (i : Int) * c ≤ (j - 1) / c * c := Int.mul_le_mul_of_nonneg_right (by omega) (by omega)
      omega
    · rw [if_neg hj] at hi
      simp at hi
end
section
variable {X : Cx} {sg : Sg} {M : Mem} {tg : Expr} {pos : Pos} {Qi : List D → (Mem → Prop) → Mem → Prop}
theorem wi_rng3 {a b c : Expr} {p : Pos} (hm : X.mg "range" = none) (h : WA X [a, b, c] sg M fun ds M1 => ∃ (i j k : Int) (n : Nat), ds = [.int i, .int j, .int k] ∧ RgC i j k n ∧ Qi (rngC i k n) (fun _ => True) M1) (hg : Gl X "range" := by rfl)
    (hs : starEach [a, b, c] X.env = (false, eval a X.env) :: starEach [b, c] X.env := by exact star1 rfl) (hpl : (backTo pos (starEach [b, c] X.env)).any (·.1) = false := by exact starN rfl) : WI X tg (.Call (.Name "range" p) [a, b, c] [] pos) sg M Qi := ⟨_, pi_range3 hg hm pa_w hs hpl, fun σ H G R w s k => (h σ H G w s).imp fun vs H1 ⟨ds, G1, M1, st, w1, r1, i, j, c, n, e, b1, q⟩ => by
  subst e
  cases r1 with
  | cons r1 r2 =>
    obtain ⟨u1, u2, rfl, rv, ru⟩ := r2.two
    cases r1; cases rv; cases ru
    exact ⟨i, j, c, n, rfl, b1, k _ _ _ _ G1 M1 st w1 itd_rngC q⟩⟩
end
end DL
set_option Elab.async false
set_option linter.all false
set_option maxRecDepth 100000
set_option maxHeartbeats 4000000
namespace K18
open PySem L2 PyProof.Rows DL
def topS (i : Nat) : Stmt := PySem.Challenge.pw_changestold_k18_whole_bytes_and_seals.main.body.getD i (.Pass ⟨0, 0, 0, 0⟩)
abbrev s_digits_of : Stmt := topS 9
theorem sc_digits_of : FnScope ["number", "found"] ["number"] (defScope s_digits_of) := ⟨rfl, rfl, rfl, by decide +kernel, rfl, by decide +kernel, by decide +kernel⟩
-- digits_of: number 0, found 1
abbrev s_number_bytes : Stmt := topS 10
theorem sc_number_bytes : FnScope ["number", "digits"] ["number"] (defScope s_number_bytes) := ⟨rfl, rfl, rfl, by decide +kernel, rfl, by decide +kernel, by decide +kernel⟩
-- number_bytes: number 0, digits 1
abbrev s_byte_at : Stmt := topS 11
theorem sc_byte_at : FnScope ["data", "place"] ["data", "place"] (defScope s_byte_at) := ⟨rfl, rfl, rfl, by decide +kernel, rfl, by decide +kernel, by decide +kernel⟩
-- byte_at: data 0, place 1
abbrev s_read_number : Stmt := topS 12
theorem sc_read_number : FnScope ["data", "place", "many", "found", "k", "byte"] ["data", "place"] (defScope s_read_number) := ⟨rfl, rfl, rfl, by decide +kernel, rfl, by decide +kernel, by decide +kernel⟩
-- read_number: data 0, place 1, many 2, found 3, k 4, byte 5
abbrev s_check_of : Stmt := topS 13
theorem sc_check_of : FnScope ["data", "found", "byte"] ["data"] (defScope s_check_of) := ⟨rfl, rfl, rfl, by decide +kernel, rfl, by decide +kernel, by decide +kernel⟩
-- check_of: data 0, found 1, byte 2
abbrev s_sealed : Stmt := topS 14
theorem sc_sealed : FnScope ["data", "check"] ["data"] (defScope s_sealed) := ⟨rfl, rfl, rfl, by decide +kernel, rfl, by decide +kernel, by decide +kernel⟩
-- sealed: data 0, check 1
abbrev s_opened : Stmt := topS 15
theorem sc_opened : FnScope ["data", "length", "place", "behind", "inside"] ["data"] (defScope s_opened) := ⟨rfl, rfl, rfl, by decide +kernel, rfl, by decide +kernel, by decide +kernel⟩
-- opened: data 0, length 1, place 2, behind 3, inside 4
abbrev s_law_box : Stmt := topS 17
theorem sc_law_box : FnScope ["script"] ["script"] (defScope s_law_box) := ⟨rfl, rfl, rfl, by decide +kernel, rfl, by decide +kernel, by decide +kernel⟩
-- _law_box: script 0
abbrev s_law_load : Stmt := topS 18
theorem sc_law_load : FnScope ["box", "cells", "cell", "size", "first", "second"] ["box"] (defScope s_law_load) := ⟨rfl, rfl, rfl, by decide +kernel, rfl, by decide +kernel, by decide +kernel⟩
-- _law_load: box 0, cells 1, cell 2, size 3, first 4, second 5
abbrev s_law_draw : Stmt := topS 19
theorem sc_law_draw : FnScope ["box", "many", "digit"] ["box", "many"] (defScope s_law_draw) := ⟨rfl, rfl, rfl, by decide +kernel, rfl, by decide +kernel, by decide +kernel⟩
-- _law_draw: box 0, many 1, digit 2
abbrev s_law_same : Stmt := topS 20
theorem sc_law_same : FnScope ["a", "b", "k"] ["a", "b"] (defScope s_law_same) := ⟨rfl, rfl, rfl, by decide +kernel, rfl, by decide +kernel, by decide +kernel⟩
-- _law_same: a 0, b 1, k 2
abbrev s_law_number : Stmt := topS 21
theorem sc_law_number : FnScope ["number", "digits"] ["number"] (defScope s_law_number) := ⟨rfl, rfl, rfl, by decide +kernel, rfl, by decide +kernel, by decide +kernel⟩
-- _law_number: number 0, digits 1
abbrev s_law_check : Stmt := topS 22
theorem sc_law_check : FnScope ["data", "made", "byte"] ["data"] (defScope s_law_check) := ⟨rfl, rfl, rfl, by decide +kernel, rfl, by decide +kernel, by decide +kernel⟩
-- _law_check: data 0, made 1, byte 2
abbrev s_law_seal : Stmt := topS 23
theorem sc_law_seal : FnScope ["data", "check", "made", "k"] ["data"] (defScope s_law_seal) := ⟨rfl, rfl, rfl, by decide +kernel, rfl, by decide +kernel, by decide +kernel⟩
-- _law_seal: data 0, check 1, made 2, k 3
abbrev s_law_read : Stmt := topS 24
theorem sc_law_read : FnScope ["read", "data", "told", "bad", "error"] ["read", "data"] (defScope s_law_read) := ⟨rfl, rfl, rfl, by decide +kernel, rfl, by decide +kernel, by decide +kernel⟩
-- _law_read: read 0, data 1, told 2, bad 3, error 4
abbrev s_law_number_at : Stmt := topS 25
theorem sc_law_number_at : FnScope ["data", "place", "told", "bad", "error"] ["data", "place"] (defScope s_law_number_at) := ⟨rfl, rfl, rfl, by decide +kernel, rfl, by decide +kernel, by decide +kernel⟩
-- _law_number_at: data 0, place 1, told 2, bad 3, error 4
abbrev s_law_bad : Stmt := topS 26
theorem sc_law_bad : FnScope ["data", "place"] ["data", "place"] (defScope s_law_bad) := ⟨rfl, rfl, rfl, by decide +kernel, rfl, by decide +kernel, by decide +kernel⟩
-- _law_bad: data 0, place 1
abbrev s_law : Stmt := topS 27
theorem sc_law : FnScope ["script", "box", "turn", "number", "head", "tail", "k", "plain", "some", "byte", "data", "told", "bad", "due", "inside", "whole", "cuts", "step", "other"] ["script"] (defScope s_law) := ⟨rfl, rfl, rfl, by decide +kernel, rfl, by decide +kernel, by decide +kernel⟩
-- law: script 0, box 1, turn 2, number 3, head 4, tail 5, k 6, plain 7, some 8, byte 9, data 10, told 11, bad 12, due 13, inside 14, whole 15, cuts 16, step 17, other 18
section
variable {P : Program} {w : World} {K : PySem.W.Frag} {mg : Str → Option Value} {base : Heap}
/-! ### the box of draws: a list, its first item a list of its own -/
def Bx (M : Mem) (p c : Addr) : Prop := ∃ (cs : List Int) (a b : Int), M p = some (.lst [.ptr c, .int a, .int b]) ∧ M c = some (.lst (cs.map .int)) ∧ p ≠ c ∧ 0 ≤ a ∧ 0 ≤ b ∧ b < 4294967296
/-- nothing else is changed -/
def Els (M M' : Mem) (p c : Addr) : Prop := ∀ x, x ≠ p → x ≠ c → M' x = M x
theorem Els.refl (M : Mem) (p c : Addr) : Els M M p c := fun _ _ _ => rfl
theorem Els.trans {M M' M'' : Mem} {p c : Addr} (h : Els M M' p c) (h' : Els M' M'' p c) : Els M M'' p c := fun x a b => (h' x a b).trans (h x a b)
def S_box : SpD := fun ds M Q => ∃ ns : List Int, ds = [.scr ns] ∧ ns.length ≤ 63 ∧ ∀ p c M', M p = none → M c = none → Bx M' p c → Els M M' p c → Q (.ptr p) M'
theorem d_box (F : Df K mg "_law_box" s_law_box ["script"]) (B : Blt mg) : Cal P w K mg base 1 "_law_box" 1 S_box := by
  refine dfn' F sc_law_box rfl fun f cdv A outer s H E ds M Q hr hl hs => ?_
  obtain ⟨ns, rfl, hn, q⟩ := hs
  refine wss_one (ws_ret (we_lstM (wa_cons (we_ct call_list_of B.list bi_list (wa_cons (ee_sl sl_list (ee_v 0 rfl) eo_none (eo_some ee_int) (sd_scr (wa_nil (cd_lstM (.inr (.inl rfl)) fun c hc => ?_))))) ))))
  refine wa_cons (EE.to ee_int (wa_cons (EE.to (ee_add ee_int (ee_cb call_len B.len bi_len (ea_cons (ee_v 0 rfl) ea_nil) (cd_lenC ⟨rfl, rfl⟩))) (wa_nil ⟨by exact small30, fun p hp => ?_⟩))))
  have ne : p ≠ c := fun e => by subst e; rw [updM_same] at hp; cases hp
  have hpM : M p = none := by rw [updM_ne ne] at hp; exact hp
  exact q p c _ hpM hc ⟨_, 0, _, updM_same, by rw [updM_ne ne.symm]; exact updM_same, ne, by omega, by omega, by omega⟩ fun x h1 h2 => by rw [updM_ne h1, updM_ne h2]
def S_load : SpD := fun ds M Q => ∃ (p c : Addr), ds = [.ptr p] ∧ Bx M p c ∧ ∀ r M', 0 ≤ r → Bx M' p c → Els M M' p c → Q (.int r) M'
theorem d_load (F : Df K mg "_law_load" s_law_load ["box"]) (B : Blt mg) : Cal P w K mg base 1 "_law_load" 1 S_load := by
  refine dfn' F sc_law_load rfl fun f cdv A outer s H E ds M Q hr hl hs => ?_
  obtain ⟨p, c, rfl, hB, q⟩ := hs
  have nd := sc_law_load.nd
  obtain ⟨cs, a, b, hp, hc, ne, ha, hb, hb2⟩ := id hB
  -- behind the if
  have rest : ∀ (x y : Option D) (M1 : Mem), Bx M1 p c → Els M M1 p c → WSs (cxOf CX0 P w K mg base ["box", "cells", "cell", "size", "first", "second"] "_law_load" (defScope s_law_load) f cdv A outer s H E).nox ((defBody s_law_load).drop 2) [some (.ptr p), some (.ptr c), x, y, none, none] M1 { nx := fun _ M' => Q .non M', rt := Q } := fun x y M1 hB1 hE => by
    obtain ⟨cs, a, b, hp, hc, ne, ha, hb, hb2⟩ := hB1
    refine wss_cons (ws_set 4 nd (EE.to (ee_mod (ee_ct call_int1 B.int bi_int (ea_cons (ee_add (ee_mul (ee_ix ix_list (ee_v 0 rfl) ee_int (od_ixL (.inr ⟨p, rfl, hp⟩) rfl ⟨rfl, rfl⟩)) ee_int (.inr ⟨by decide, by decide⟩)) ee_int) ea_nil) (cd_int ⟨rfl, rfl⟩)) ee_int (by decide)) ?_))
    generalize h1 : (b * 48271 + 17) % 2147483629 = first
    refine wss_cons (ws_set 5 nd (EE.to (ee_mod (ee_ct call_int1 B.int bi_int (ea_cons (ee_add (ee_mul (ee_v 4 rfl) ee_int (.inr ⟨by decide, by decide⟩)) ee_int) ea_nil) (cd_int ⟨rfl, rfl⟩)) ee_int (by decide)) ?_))
    generalize h2 : (first * 69621 + 5) % 2147483587 = second
    refine wss_cons (ws_sub set_list (EE.to (ee_mod (ee_ct call_int1 B.int bi_int (ea_cons (ee_add (ee_mul (ee_v 5 rfl) ee_int (.inr ⟨by decide, by decide⟩)) ee_int) ea_nil) (cd_int ⟨rfl, rfl⟩)) ee_int (by decide)) (EE.to (ee_v 0 rfl) (EE.to ee_int (sd_setL hp rfl ?_)))))
    generalize h3 : (second * 40692 + 3) % 2147483563 = third
    have f0 : 0 ≤ first := by rw [← h1]; exact Int.emod_nonneg _ (by decide)
    have s0 : 0 ≤ second := by rw [← h2]; exact Int.emod_nonneg _ (by decide)
    have t0 : 0 ≤ third := by rw [← h3]; exact Int.emod_nonneg _ (by decide)
    have t1 : third < 2147483563 := by rw [← h3]; exact Int.emod_lt_of_pos _ (by decide)
    refine wss_one (ws_ret (EE.to (ee_add (ee_add (ee_mul (ee_v 4 rfl) ee_int (.inr ⟨by decide, by decide⟩)) (ee_mul (ee_v 5 rfl) ee_int (.inr ⟨by decide, by decide⟩))) (ee_ix ix_list (ee_v 0 rfl) ee_int (od_ixL (.inr ⟨p, rfl, updM_same⟩) rfl ⟨rfl, rfl⟩))) (q _ _ (by omega) ⟨cs, a, third, updM_same, by rw [updM_ne ne.symm]; exact hc, ne, ha, t0, by omega⟩ (hE.trans fun x h1 h2 => updM_ne h1))))
  refine wss_cons (ws_set 1 nd (EE.to (ee_ix ix_list (ee_v 0 rfl) ee_int (od_ixL (.inr ⟨p, rfl, hp⟩) rfl ⟨rfl, rfl⟩)) ?_))
  refine wss_cons (ws_ifE (et_gt (ee_cb call_len B.len bi_len (ea_cons (ee_v 1 rfl) ea_nil) (cd_lenL (.inr ⟨c, rfl, hc⟩) ⟨rfl, rfl⟩)) ee_int) (fun h => ?_) fun _ => wss_nil (rest _ _ M hB (Els.refl _ _ _)))
  cases cs with
  | nil => exact absurd (of_decide_eq_true h) (by decide)
  | cons n cs =>
    refine wss_cons (ws_set 2 nd (we_ct call_int1 B.int bi_int (wa_cons (we_bm PySem.F.plainAttrs_list PySem.F.slot_list_pop PySem.F.type_list_pop mt_popAt (EE.to (ee_v 1 rfl) ⟨ty_lst (.inr ⟨c, rfl, hc⟩), wa_cons (EE.to ee_int (wa_nil (md_pop0 hc (wa_nil (cd_int ?_)))))⟩)))))
    have hB1 : Bx (updM M c (some (.lst (cs.map .int)))) p c := ⟨cs, a, b, by rw [updM_ne ne]; exact hp, updM_same, ne, ha, hb, hb2⟩
    have hE1 : Els M (updM M c (some (.lst (cs.map .int)))) p c := fun x h1 h2 => updM_ne h2
    generalize updM M c (some (.lst (cs.map .int))) = M1 at hB1 hE1 ⊢
    refine wss_cons (ws_set 3 nd (WE.imp (Q := fun d M2 => (∃ z, d = .int z ∧ 0 ≤ z) ∧ M2 = M1) (we_if (ET.to (et_ge (ee_v 2 rfl) ee_int) ⟨fun h => EE.to (ee_mul ee_int (ee_v 2 rfl) (.inl ⟨by decide, by decide⟩)) ⟨⟨_, rfl, by have := of_decide_eq_true h; omega⟩, rfl⟩, fun h => EE.to (ee_sub (ee_mul (ee_neg ee_int) (ee_v 2 rfl) (.inl ⟨by decide, by decide⟩)) ee_int) ⟨⟨_, rfl, by have := of_decide_eq_false h; omega⟩, rfl⟩⟩)) fun d M2 ⟨⟨z, e1, hz⟩, e2⟩ => ?_))
    subst e1; subst e2
    refine wss_cons (ws_ifE (et_ge (ee_v 3 rfl) ee_int) (fun _ => wss_one (ws_ret (EE.to (ee_v 3 rfl) (q _ _ hz hB1 hE1)))) fun _ => wss_nil ?_)
    obtain ⟨cs2, a2, b2, hp2, hc2, ne2, ha2, hb2', hb22⟩ := hB1
    refine wss_one (ws_sub set_list (EE.to (ee_mod (ee_ct call_int1 B.int bi_int (ea_cons (ee_add (ee_add (ee_mul (ee_ix ix_list (ee_v 0 rfl) ee_int (od_ixL (.inr ⟨p, rfl, hp2⟩) rfl ⟨rfl, rfl⟩)) ee_int (.inr ⟨by decide, by decide⟩)) (ee_mul (ee_v 3 rfl) ee_int (.inr ⟨by decide, by decide⟩))) ee_int) ea_nil) (cd_int ⟨rfl, rfl⟩)) ee_int (by decide)) (EE.to (ee_v 0 rfl) (EE.to ee_int (sd_setL hp2 rfl ?_)))))
    generalize h3 : (b2 * 69621 + z * 48271 + 11) % 2147483647 = third
    have t0 : 0 ≤ third := by rw [← h3]; exact Int.emod_nonneg _ (by decide)
    have t1 : third < 2147483647 := by rw [← h3]; exact Int.emod_lt_of_pos _ (by decide)
    exact rest _ _ _ ⟨cs2, a2, third, updM_same, by rw [updM_ne ne2.symm]; exact hc2, ne2, ha2, t0, by omega⟩ (hE1.trans fun x h1 h2 => updM_ne h1)
def S_draw : SpD := fun ds M Q => ∃ (p c : Addr) (m : Int), ds = [.ptr p, .int m] ∧ Bx M p c ∧ 0 < m ∧ m < 1000000000 ∧ ∀ r M', 0 ≤ r → r < m → Bx M' p c → Els M M' p c → Q (.int r) M'
theorem d_draw (F : Df K mg "_law_draw" s_law_draw ["box", "many"]) (B : Blt mg) (C1 : Cal P w K mg base 1 "_law_load" 1 S_load) : Cal P w K mg base 2 "_law_draw" 2 S_draw := by
  refine dfn' F sc_law_draw rfl fun f cdv A outer s H E ds M Q hr hl hs => ?_
  obtain ⟨p, c, m, rfl, hB, m0, m1, q⟩ := hs
  have nd := sc_law_draw.nd
  have rest : ∀ (M1 : Mem), Bx M1 p c → Els M M1 p c → WSs (cxOf CX0 P w K mg base ["box", "many", "digit"] "_law_draw" (defScope s_law_draw) f cdv A outer s H E).nox ((defBody s_law_draw).drop 1) [some (.ptr p), some (.int m), none] M1 { nx := fun _ M' => Q .non M', rt := Q } := fun M1 hB1 hE => by
    obtain ⟨cs, a, b, hp, hc, ne, ha, hb, hb2⟩ := hB1
    refine wss_cons (ws_set 2 nd (EE.to (ee_mod (ee_ct call_int1 B.int bi_int (ea_cons (ee_ix ix_list (ee_v 0 rfl) ee_int (od_ixL (.inr ⟨p, rfl, hp⟩) rfl ⟨rfl, rfl⟩)) ea_nil) (cd_int ⟨rfl, rfl⟩)) (ee_v 1 rfl) m0) ?_))
    refine wss_cons (ws_sub set_list (EE.to (ee_fdiv (ee_ix ix_list (ee_v 0 rfl) ee_int (od_ixL (.inr ⟨p, rfl, hp⟩) rfl ⟨rfl, rfl⟩)) (ee_v 1 rfl) ⟨m0, by omega⟩) (EE.to (ee_v 0 rfl) (EE.to ee_int (sd_setL hp rfl ?_)))))
    exact wss_one (ws_ret (EE.to (ee_v 2 rfl) (q _ _ (Int.emod_nonneg _ (by omega)) (Int.emod_lt_of_pos _ m0) ⟨cs, a / m, b, updM_same, by rw [updM_ne ne.symm]; exact hc, ne, Int.ediv_nonneg ha (by omega), hb, hb2⟩ (hE.trans fun x h1 h2 => updM_ne h1))))
  obtain ⟨cs, a, b, hp, hc, ne, ha, hb, hb2⟩ := id hB
  refine wss_cons (ws_ifE (et_lt (ee_ix ix_list (ee_v 0 rfl) ee_int (od_ixL (.inr ⟨p, rfl, hp⟩) rfl ⟨rfl, rfl⟩)) (ee_v 1 rfl)) (fun _ => ?_) fun _ => wss_nil (rest M hB (Els.refl _ _ _)))
  refine wss_one (ws_sub set_list (we_call C1 hr (EA.to (ea_cons (ee_v 0 rfl) ea_nil) ⟨rfl, p, c, rfl, hB, fun r M1 r0 hB1 hE => ?_⟩)))
  obtain ⟨cs1, a1, b1, hp1, hc1, ne1, ha1, hb1, hb21⟩ := hB1
  refine EE.to (ee_v 0 rfl) (EE.to ee_int (sd_setL hp1 rfl ?_))
  exact rest _ ⟨cs1, r, b1, updM_same, by rw [updM_ne ne1.symm]; exact hc1, ne1, r0, hb1, hb21⟩ (hE.trans fun x h1 h2 => updM_ne h1)
end
end K18
set_option Elab.async false
set_option linter.all false
set_option maxRecDepth 100000
set_option maxHeartbeats 4000000
namespace K18
open PySem L2 PyProof.Rows DL
section
variable {P : Program} {w : World} {K : PySem.W.Frag} {mg : Str → Option Value} {base : Heap}
/-! ### _law_same -/
def S_same (n : Nat) : SpD := fun ds M Q => ∃ a b, ds = [a, b] ∧ wf 900 n a = true ∧ wf 900 n b = true ∧ Q (.bl (eqD a b)) M
theorem d_same_step {n : Nat} (F : Df K mg "_law_same" s_law_same ["a", "b"]) (B : Blt mg) (C : Cal P w K mg base n "_law_same" 2 (S_same n)) : Cal P w K mg base (n + 1) "_law_same" 2 (S_same (n + 1)) := by
  refine dfn' F sc_law_same rfl fun f cdv A outer s H E ds M Q hr hl hs => ?_
  obtain ⟨a, b, rfl, ha, hb, q⟩ := hs
  have nd := sc_law_same.nd
  have la := pl_lk M (wf_pl ha)
  have lb := pl_lk M (wf_pl hb)
  refine wss_cons (ws_ifE (ww_pt (ew_or (ww_pt (ew_and (et_val (ee_isT B.isinstance B.tuple (ee_v 0 rfl) la)) fun _ => ww_and1 (et_val (ee_isT B.isinstance B.tuple (ee_v 1 rfl) lb)))) fun _ => ww_or1 (ww_pt (ew_and (et_val (ee_isL B.isinstance B.list (ee_v 0 rfl) la)) fun _ => ww_and1 (et_val (ee_isL B.isinstance B.list (ee_v 1 rfl) lb)))))) (fun h => ?_) fun h1 => wss_nil ?_)
  · -- two tuples, two lists
    rcases Bool.or_eq_true_iff.mp h with h | h
    · obtain ⟨h1, h2⟩ := Bool.and_eq_true_iff.mp h
      obtain ⟨as, rfl⟩ := isT_of h1
      obtain ⟨bs, rfl⟩ := isT_of h2
      obtain ⟨za, wa⟩ := wf_tup ha
      obtain ⟨zb, wb⟩ := wf_tup hb
      have e : eqD (.tup as) (.tup bs) = (decide ((as.length : Int) = (bs.length : Int)) && ((List.range as.length).map fun j => eqD (as.getD j .non) (bs.getD j .non)).all id) := (eqD_of ⟨fun h => congrArg _ (eq_lists.mp h), fun h => eq_lists.mpr (D.tup.inj h)⟩).symm
      rw [e] at q
      refine wss_one (ws_ret (EE.to (ee_and (ee_eqI (ee_cb call_len B.len bi_len (ea_cons (ee_v 0 rfl) ea_nil) (cd_lenT ⟨rfl, rfl⟩)) (ee_cb call_len B.len bi_len (ea_cons (ee_v 1 rfl) ea_nil) (cd_lenT ⟨rfl, rfl⟩))) fun hl => we_one ?_) q))
      have hl' : as.length = bs.length := by have := of_decide_eq_true hl; omega
      refine ee_cb (cr_all rfl) B.all bi_all (ea_cons (ee_lc1 2 (ds := rngD 0 as.length) (fun d => .bl (eqD (as.getD (intOf d).toNat .non) (bs.getD (intOf d).toNat .non))) rfl nd (wi_rng1 B.range (EA.to (ea_cons (ee_cb call_len B.len bi_len (ea_cons (ee_v 0 rfl) ea_nil) (cd_lenT ⟨rfl, rfl⟩)) ea_nil) ⟨_, rfl, by omega, by omega, rfl, rfl, trivial⟩)) (by rw [rngD_len]; exact lt1000 (by omega)) fun j d hd s H C' cl fp => ?_) ea_nil) (cd_all (bs := (List.range as.length).map fun j => eqD (as.getD j .non) (bs.getD j .non)) (.inl ?_) ⟨rfl, rfl⟩)
      · obtain ⟨hj, rfl⟩ := rngD_at hd
        have ej : (intOf (.int (0 + (j : Int)))).toNat = j := by show (0 + (j : Int)).toNat = j; omega
        rw [ej]
        refine we_call C hr (EA.to (ea_cons (ee_ix ix_tup (ee_v 0 rfl) (ee_v 2 rfl) (od_ixT (atI_of hj) ⟨rfl, rfl⟩)) (ea_cons (ee_ix ix_tup (ee_v 1 rfl) (ee_v 2 rfl) (od_ixT (atI_of (by omega)) ⟨rfl, rfl⟩)) ea_nil)) ⟨rfl, _, _, rfl, wa _ ?_, wb _ ?_, rfl, rfl⟩)
        · rw [DL.getD_at hj]; exact List.getElem_mem hj
        · rw [DL.getD_at (by omega)]; exact List.getElem_mem _
      · unfold rngD
        rw [List.map_map, List.map_map]
        congr 1
        apply List.map_congr_left
        intro j _
        show D.bl (eqD (as.getD (0 + (j : Int)).toNat .non) (bs.getD (0 + (j : Int)).toNat .non)) = D.bl (eqD (as.getD j .non) (bs.getD j .non))
        rw [show (0 + (j : Int)).toNat = j by omega]
    · obtain ⟨h1, h2⟩ := Bool.and_eq_true_iff.mp h
      have h1' : ∃ as, a = .lst as := by cases a <;> first | exact ⟨_, rfl⟩ | exact absurd (show false = true from h1) Bool.false_ne_true | exact absurd (show false = true from ha) Bool.false_ne_true
      have h2' : ∃ bs, b = .lst bs := by cases b <;> first | exact ⟨_, rfl⟩ | exact absurd (show false = true from h2) Bool.false_ne_true | exact absurd (show false = true from hb) Bool.false_ne_true
      obtain ⟨as, rfl⟩ := h1'
      obtain ⟨bs, rfl⟩ := h2'
      obtain ⟨za, wa⟩ := wf_lst ha
      obtain ⟨zb, wb⟩ := wf_lst hb
      have e : eqD (.lst as) (.lst bs) = (decide ((as.length : Int) = (bs.length : Int)) && ((List.range as.length).map fun j => eqD (as.getD j .non) (bs.getD j .non)).all id) := (eqD_of ⟨fun h => congrArg _ (eq_lists.mp h), fun h => eq_lists.mpr (D.lst.inj h)⟩).symm
      rw [e] at q
      refine wss_one (ws_ret (EE.to (ee_and (ee_eqI (ee_cb call_len B.len bi_len (ea_cons (ee_v 0 rfl) ea_nil) (cd_lenL (.inl rfl) ⟨rfl, rfl⟩)) (ee_cb call_len B.len bi_len (ea_cons (ee_v 1 rfl) ea_nil) (cd_lenL (.inl rfl) ⟨rfl, rfl⟩))) fun hl => we_one ?_) q))
      have hl' : as.length = bs.length := by have := of_decide_eq_true hl; omega
      refine ee_cb (cr_all rfl) B.all bi_all (ea_cons (ee_lc1 2 (ds := rngD 0 as.length) (fun d => .bl (eqD (as.getD (intOf d).toNat .non) (bs.getD (intOf d).toNat .non))) rfl nd (wi_rng1 B.range (EA.to (ea_cons (ee_cb call_len B.len bi_len (ea_cons (ee_v 0 rfl) ea_nil) (cd_lenL (.inl rfl) ⟨rfl, rfl⟩)) ea_nil) ⟨_, rfl, by omega, by omega, rfl, rfl, trivial⟩)) (by rw [rngD_len]; exact lt1000 (by omega)) fun j d hd s H C' cl fp => ?_) ea_nil) (cd_all (bs := (List.range as.length).map fun j => eqD (as.getD j .non) (bs.getD j .non)) (.inl ?_) ⟨rfl, rfl⟩)
      · obtain ⟨hj, rfl⟩ := rngD_at hd
        have ej : (intOf (.int (0 + (j : Int)))).toNat = j := by show (0 + (j : Int)).toNat = j; omega
        rw [ej]
        refine we_call C hr (EA.to (ea_cons (ee_ix ix_list (ee_v 0 rfl) (ee_v 2 rfl) (od_ixL (.inl rfl) (atI_of hj) ⟨rfl, rfl⟩)) (ea_cons (ee_ix ix_list (ee_v 1 rfl) (ee_v 2 rfl) (od_ixL (.inl rfl) (atI_of (by omega)) ⟨rfl, rfl⟩)) ea_nil)) ⟨rfl, _, _, rfl, wa _ ?_, wb _ ?_, rfl, rfl⟩)
        · rw [DL.getD_at hj]; exact List.getElem_mem hj
        · rw [DL.getD_at (by omega)]; exact List.getElem_mem _
      · unfold rngD
        rw [List.map_map, List.map_map]
        congr 1
        apply List.map_congr_left
        intro j _
        show D.bl (eqD (as.getD (0 + (j : Int)).toNat .non) (bs.getD (0 + (j : Int)).toNat .non)) = D.bl (eqD (as.getD j .non) (bs.getD j .non))
        rw [show (0 + (j : Int)).toNat = j by omega]
  refine wss_cons (ws_ifE (ww_pt (ew_or (et_val (ee_isB B.isinstance B.bool (ee_v 0 rfl) la)) fun _ => ww_or1 (et_val (ee_isB B.isinstance B.bool (ee_v 1 rfl) lb)))) (fun h => ?_) fun h2 => wss_nil ?_)
  · rw [← same_leaf2 h] at q
    refine wss_one (ws_ret (EE.to (ee_and (ee_isB B.isinstance B.bool (ee_v 0 rfl) la) fun k1 => ee_and (ee_isB B.isinstance B.bool (ee_v 1 rfl) lb) fun k2 => we_one ?_) q))
    obtain ⟨x, rfl⟩ := isB_of k1
    obtain ⟨y, rfl⟩ := isB_of k2
    refine ee_cmp op_eq (ee_v 0 rfl) (ee_v 1 rfl) (od_eqB ⟨?_, rfl⟩)
    exact congrArg D.bl (eqD_of ⟨fun h => congrArg _ (of_decide_eq_true h), fun h => decide_eq_true (D.bl.inj h)⟩)
  refine wss_cons (ws_ifE (ww_pt (ew_or (ww_pt (ew_and (et_val (ee_isI B.isinstance B.int (ee_v 0 rfl) la)) fun _ => ww_and1 (et_val (ee_isI B.isinstance B.int (ee_v 1 rfl) lb)))) fun _ => ww_or1 (ww_pt (ew_and (et_val (ee_isS B.isinstance B.str (ee_v 0 rfl) la)) fun _ => ww_and1 (et_val (ee_isS B.isinstance B.str (ee_v 1 rfl) lb)))))) (fun h => ?_) fun h3 => wss_nil ?_)
  · obtain ⟨k1, k2⟩ := Bool.or_eq_false_iff.mp h2
    rcases Bool.or_eq_true_iff.mp h with h | h
    · obtain ⟨j1, j2⟩ := Bool.and_eq_true_iff.mp h
      obtain ⟨x, rfl⟩ := isI_of (d := a) (by rw [j1, k1]; rfl)
      obtain ⟨y, rfl⟩ := isI_of (d := b) (by rw [j2, k2]; rfl)
      refine wss_one (ws_ret (EE.to (ee_eqI (ee_v 0 rfl) (ee_v 1 rfl)) ?_))
      rw [eqD_of (a := .int x) (b := .int y) ⟨fun h => congrArg _ (of_decide_eq_true h), fun h => decide_eq_true (D.int.inj h)⟩]
      exact q
    · obtain ⟨j1, j2⟩ := Bool.and_eq_true_iff.mp h
      obtain ⟨x, rfl⟩ := isS_of j1
      obtain ⟨y, rfl⟩ := isS_of j2
      refine wss_one (ws_ret (ee_cmp op_eq (ee_v 0 rfl) (ee_v 1 rfl) (od_eqS ?_)))
      rw [eqD_of (a := .str x) (b := .str y) ⟨fun h => congrArg _ (of_decide_eq_true h), fun h => decide_eq_true (D.str.inj h)⟩]
      exact q
  · rw [← same_leaf4 (wf_pl ha) (wf_pl hb) h1 h2 h3] at q
    exact wss_one (ws_ret (EE.to (ee_and (ee_cmp op_isN (ee_v 0 rfl) ee_non (od_isN ⟨rfl, rfl⟩)) fun _ => we_one (ee_cmp op_isN (ee_v 1 rfl) ee_non (od_isN ⟨rfl, rfl⟩))) q))
theorem d_same0 (F : Df K mg "_law_same" s_law_same ["a", "b"]) : Cal P w K mg base 0 "_law_same" 2 (S_same 0) := by
  obtain ⟨f, fd, F, hm, hb⟩ := F
  have no : ∀ vs H R E, ¬ spD K 2 (S_same 0) vs H R E := fun vs H R E h => by
    obtain ⟨_, _, _, _, _, _, _, ⟨_, _, _, z, _⟩, _⟩ := h
    cases z
  exact ⟨f, fd, ["a", "b"], ⟨fun vs H R E h => absurd h (no vs H R E), fun A outer s H args us vs R E _ _ _ _ h => absurd h (no vs H R E)⟩, hm, F.kp, hb⟩
theorem d_same (F : Df K mg "_law_same" s_law_same ["a", "b"]) (B : Blt mg) : ∀ n : Nat, Cal P w K mg base n "_law_same" 2 (S_same n)
  | 0 => d_same0 F
  | n + 1 => d_same_step F B (d_same F B n)
end
end K18
set_option Elab.async false
set_option linter.all false
set_option maxRecDepth 100000
set_option maxHeartbeats 4000000
namespace K18
open PySem L2 PyProof.Rows DL
/-! ### digits, checks: the mirrors -/
/-- the digits of n, before rest -/
def dg : Nat → Nat → List Int → List Int
  | 0, _, rest => rest
  | k + 1, n, rest => if n = 0 then rest else dg k (n / 256) (((n % 256 : Nat) : Int) :: rest)
theorem dg_zero (k : Nat) (rest : List Int) : dg k 0 rest = rest := by cases k <;> rfl
theorem dg_len : ∀ (k n : Nat) (rest : List Int), (dg k n rest).length ≤ k + rest.length
  | 0, n, rest => by show rest.length ≤ 0 + rest.length; omega
  | k + 1, n, rest => by
    show (if n = 0 then rest else dg k (n / 256) (((n % 256 : Nat) : Int) :: rest)).length ≤ k + 1 + rest.length
    by_cases h : n = 0
    · rw [if_pos h]; omega
    · rw [if_neg h]
      have := dg_len k (n / 256) (((n % 256 : Nat) : Int) :: rest)
      rw [List.length_cons] at this
      omega
theorem dg_step {k n : Nat} {rest : List Int} (h : 0 < n) : dg (k + 1) n rest = dg k (n / 256) (((n % 256 : Nat) : Int) :: rest) := if_neg (by omega)
def chk (ds : List Int) : Int := ds.foldl (fun m b => (m * 262147 + b + 1) % 4294967291) 1
/-- the constants of the text -/
structure Cn (mg : Str → Option Value) : Prop where
  byte : ∃ t, mg "BYTE" = some (.int 256 t)
  digits : ∃ t, mg "MOST_DIGITS" = some (.int 60 t)
  round : ∃ t, mg "ROUND" = some (.int 4294967291 t)
  step : ∃ t, mg "STEP" = some (.int 262147 t)
  check : ∃ t, mg "CHECK" = some (.int 4 t)
section
variable {P : Program} {w : World} {K : PySem.W.Frag} {mg : Str → Option Value} {base : Heap}
def S_digits : SpD := fun ds M Q => ∃ n : Nat, ds = [.int (n : Int)] ∧ n < 256 ^ 64 ∧ Q (.lst ((dg 64 n []).map .int)) M
theorem d_digits (F : Df K mg "digits_of" s_digits_of ["number"]) (C : Cn mg) : Cal P w K mg base 1 "digits_of" 1 S_digits := by
  refine dfn' F sc_digits_of rfl fun f cdv A outer s H E ds M Q hr hl hs => ?_
  obtain ⟨n, rfl, hn, q⟩ := hs
  have nd := sc_digits_of.nd
  obtain ⟨t, hb⟩ := C.byte
  refine wss_cons (ws_set 1 nd (EE.to (ee_lst ea_nil) ?_))
  refine wss_cons (ws_while PassesOwn.never (fun m sg1 M1 => ∃ (j : Nat) (rest : List Int), j < 256 ^ m ∧ m ≤ 64 ∧ sg1 = [some (.int (j : Int)), some (.lst (rest.map .int))] ∧ M1 = M ∧ dg m j rest = dg 64 n [] ∧ rest.length + m ≤ 64) ⟨64, n, [], hn, Nat.le_refl _, rfl, rfl, rfl, by decide⟩ fun m sg1 M1 ⟨j, rest, hj, hm, e1, e2, e3, hrl⟩ => ?_)
  subst e1; subst e2
  refine ET.to (et_gt (ee_v 0 rfl) ee_int) ⟨fun h => ?_, fun h => ?_⟩
  · have h0 : 0 < j := by have := of_decide_eq_true h; omega
    cases m with
    | zero => exact absurd hj (by show ¬ j < 1; omega)
    | succ m =>
      have hd := dg_step (k := m) (rest := rest) h0
      have hq : j / 256 < 256 ^ m := by
        rw [Nat.div_lt_iff_lt_mul (by decide)]
        rw [Nat.pow_succ] at hj
        exact hj
      have hlen : rest.length + 1 ≤ 1000 := by omega
      refine wss_cons (ws_set 1 nd (EE.to (ee_op op_cat (ee_lst (ea_cons (ee_mod (ee_v 0 rfl) (ee_gi hb) (by decide)) ea_nil)) (ee_v 1 rfl) (od_cat (.inl rfl) (.inl rfl) ?_ ⟨rfl, rfl⟩)) ?_))
      · rw [List.length_map]
        exact Nat.le_trans (show 1 + rest.length ≤ 1000 by omega) (by decide)
      refine wss_one (ws_set 0 nd (EE.to (ee_fdiv (ee_v 0 rfl) (ee_gi hb) ⟨by decide, by decide⟩) ⟨m, by omega, j / 256, ((j % 256 : Nat) : Int) :: rest, hq, by omega, ?_, rfl, ?_, ?_⟩))
      · rfl
      · rw [← e3, hd]
      · rw [List.length_cons]; omega
  · have h0 : j = 0 := by have := of_decide_eq_false h; omega
    subst h0
    rw [dg_zero] at e3
    subst e3
    exact wss_one (ws_ret (EE.to (ee_v 1 rfl) q))
end
end K18
set_option Elab.async false
set_option linter.all false
set_option maxRecDepth 100000
set_option maxHeartbeats 4000000
namespace K18
open PySem L2 PyProof.Rows DL
/-- a number's bytes -/
def nb (n : Nat) : List Int := ((dg 64 n []).length : Int) :: dg 64 n []
def lst4 (c : Int) : List Int := ([0, 0, 0, 0] ++ dg 64 c.toNat []).drop (dg 64 c.toNat []).length
def sealL (bs : List Int) : List Int := nb bs.length ++ bs ++ lst4 (chk bs)
theorem nb_len (n : Nat) : (nb n).length ≤ 65 := by
  have := dg_len 64 n []
  unfold nb
  rw [List.length_cons]
  simpa using this
theorem lst4_len (c : Int) : (lst4 c).length = 4 := by unfold lst4; simp; omega
theorem sealL_len (bs : List Int) : (sealL bs).length ≤ bs.length + 69 := by
  have := nb_len bs.length
  unfold sealL
  rw [List.length_append, List.length_append, lst4_len]
  omega
theorem chk_snoc (bs : List Int) (b : Int) : chk (bs ++ [b]) = (chk bs * 262147 + b + 1) % 4294967291 := by unfold chk; rw [List.foldl_append]; rfl
theorem chk_range (bs : List Int) : 0 ≤ chk bs ∧ chk bs < 4294967291 := by
  rcases List.eq_nil_or_concat bs with rfl | ⟨l, b, rfl⟩
  · exact ⟨by decide, by decide⟩
  · rw [List.concat_eq_append, chk_snoc]
    exact ⟨Int.emod_nonneg _ (by decide), Int.emod_lt_of_pos _ (by decide)⟩
theorem take_snoc {bs : List Int} {i : Nat} {b : Int} (h : bs[i]? = some b) : bs.take (i + 1) = bs.take i ++ [b] := by rw [List.take_add_one, h]; rfl
section
variable {P : Program} {w : World} {K : PySem.W.Frag} {mg : Str → Option Value} {base : Heap}
def S_nbytes : SpD := fun ds M Q => ∃ n : Nat, ds = [.int (n : Int)] ∧ n < 256 ^ 64 ∧ Q (.lst ((nb n).map .int)) M
theorem d_number_bytes (F : Df K mg "number_bytes" s_number_bytes ["number"]) (B : Blt mg) (C1 : Cal P w K mg base 1 "digits_of" 1 S_digits) : Cal P w K mg base 2 "number_bytes" 1 S_nbytes := by
  refine dfn' F sc_number_bytes rfl fun f cdv A outer s H E ds M Q hr hl hs => ?_
  obtain ⟨n, rfl, hn, q⟩ := hs
  have nd := sc_number_bytes.nd
  have l := dg_len 64 n []
  refine wss_cons (ws_set 1 nd (we_call C1 hr (EA.to (ea_cons (ee_v 0 rfl) ea_nil) ⟨rfl, n, rfl, hn, ?_⟩)))
  refine wss_one (ws_ret (EE.to (ee_op op_cat (ee_lst (ea_cons (ee_cb call_len B.len bi_len (ea_cons (ee_v 1 rfl) ea_nil) (cd_lenL (.inl rfl) ⟨rfl, rfl⟩)) ea_nil)) (ee_v 1 rfl) (od_cat (.inl rfl) (.inl rfl) ?_ ⟨rfl, rfl⟩)) ?_))
  · rw [List.length_map]
    exact Nat.le_trans (show 1 + _ ≤ 1000 by simp at l; omega) (by decide)
  · rw [List.length_map]
    exact q
def S_check_of : SpD := fun ds M Q => ∃ bs : List Int, ds = [tI bs] ∧ Q (.int (chk bs)) M
theorem d_check_of (F : Df K mg "check_of" s_check_of ["data"]) (C : Cn mg) : Cal P w K mg base 1 "check_of" 1 S_check_of := by
  refine dfn' F sc_check_of rfl fun f cdv A outer s H E ds M Q hr hl hs => ?_
  obtain ⟨bs, rfl, q⟩ := hs
  have nd := sc_check_of.nd
  obtain ⟨t1, hr1⟩ := C.round
  obtain ⟨t2, hs1⟩ := C.step
  refine wss_cons (ws_set 1 nd (EE.to ee_int ?_))
  refine wss_cons (ws_for PassesOwn.never rfl (Qi := ItQ (bs.map .int) M) (wi_tup (EE.to (ee_v 0 rfl) ⟨_, rfl, rfl, rfl, trivial⟩)) fun ds C M0 ⟨e1, e2, hC⟩ => ?_)
  subst e1; subst e2
  refine ⟨fun i sg1 M1 => M1 = M0 ∧ ∃ o, sg1 = [some (tI bs), some (.int (chk (bs.take i))), o], ⟨rfl, none, rfl⟩, fun i sg1 M1 ⟨e, _⟩ => by rw [e]; exact hC, fun i d sg1 M1 hd ⟨e1, o, e2⟩ => ?_, fun sg1 M1 ⟨e1, o, e2⟩ => ?_⟩
  · subst e1; subst e2
    obtain ⟨b, hb, rfl⟩ := at_map hd
    refine ⟨_, _, wg_name 2 nd, wss_one (ws_set 1 nd (EE.to (ee_mod (ee_add (ee_add (ee_mul (ee_v 1 rfl) (ee_gi hs1) (.inr ⟨by decide, by decide⟩)) (ee_v 2 rfl)) ee_int) (ee_gi hr1) (by decide)) ⟨rfl, some (.int b), ?_⟩))⟩
    rw [take_snoc hb, chk_snoc]
    rfl
  · subst e1; subst e2
    rw [List.length_map, List.take_length]
    exact wss_one (ws_ret (EE.to (ee_v 1 rfl) q))
def S_sealed : SpD := fun ds M Q => ∃ bs : List Int, ds = [tI bs] ∧ bs.length < 100000 ∧ Q (tI (sealL bs)) M
theorem d_sealed (F : Df K mg "sealed" s_sealed ["data"]) (B : Blt mg) (C : Cn mg) (C1 : Cal P w K mg base 1 "digits_of" 1 S_digits) (C2 : Cal P w K mg base 1 "check_of" 1 S_check_of) (C3 : Cal P w K mg base 2 "number_bytes" 1 S_nbytes) : Cal P w K mg base 3 "sealed" 1 S_sealed := by
  refine dfn' F sc_sealed rfl fun f cdv A outer s H E ds M Q hr hl hs => ?_
  obtain ⟨bs, rfl, hz, q⟩ := hs
  have nd := sc_sealed.nd
  obtain ⟨t1, hc1⟩ := C.check
  obtain ⟨c0, c1⟩ := chk_range bs
  have l := dg_len 64 (chk bs).toNat []
  have ec : ((chk bs).toNat : Int) = chk bs := by omega
  have hlt : (chk bs).toNat < 256 ^ 64 := Nat.lt_of_lt_of_le (show (chk bs).toNat < 256 ^ 4 by omega) (by decide)
  have lm : (bs.map D.int).length = bs.length := List.length_map _
  refine wss_cons (ws_set 1 nd (EE.to (d := .lst (([0, 0, 0, 0] ++ dg 64 (chk bs).toNat []).map .int)) (EE.is (ee_op op_cat (ee_lst (ea_cons ee_int (ea_cons ee_int (ea_cons ee_int (ea_cons ee_int ea_nil))))) (we_call C1 (hr.mono (by omega)) (EA.to (ea_cons (we_call C2 (hr.mono (by omega)) (EA.to (ea_cons (ee_v 0 rfl) ea_nil) ⟨rfl, bs, rfl, rfl, rfl⟩)) ea_nil) ⟨rfl, (chk bs).toNat, by rw [ec], hlt, rfl, rfl⟩)) (od_cat (.inl rfl) (.inl rfl) ?_ ⟨rfl, rfl⟩)) ?_) ?_))
  · rw [List.length_map]
    exact Nat.le_trans (show 4 + _ ≤ 1000 by simp at l; omega) (by decide)
  · rw [List.map_append]; rfl
  have l4 : (([0, 0, 0, 0] ++ dg 64 (chk bs).toNat []).map D.int).length = 4 + (dg 64 (chk bs).toNat []).length := by rw [List.length_map, List.length_append]; rfl
  have hn : bs.length < 256 ^ 64 := Nat.lt_of_lt_of_le hz (by decide)
  have ln := nb_len bs.length
  refine wss_one (ws_ret (EE.to (EE.is (d' := tI (sealL bs)) (ee_op op_catA (ee_op op_catA (ee_ct call_tuple_of B.tuple bi_tuple (ea_cons (we_call C3 (hr.mono (by omega)) (EA.to (ea_cons (ee_cb call_len B.len bi_len (ea_cons (ee_v 0 rfl) ea_nil) (cd_lenT ⟨rfl, rfl⟩)) ea_nil) ⟨rfl, bs.length, by rw [lm], hn, rfl, rfl⟩)) ea_nil) (cd_tupL (.inl rfl) ⟨rfl, rfl⟩)) (ee_ct call_tuple_of B.tuple bi_tuple (ea_cons (ee_v 0 rfl) ea_nil) (cd_tupT ⟨rfl, rfl⟩)) (od_catT ?_ ⟨rfl, rfl⟩)) (ee_ct call_tuple_of B.tuple bi_tuple (ea_cons (ee_sl sl_list (ee_v 1 rfl) (eo_some (ee_sub (ee_cb call_len B.len bi_len (ea_cons (ee_v 1 rfl) ea_nil) (cd_lenL (.inl rfl) ⟨rfl, rfl⟩)) (ee_gi hc1))) eo_none (sd_lst (.inl rfl) ⟨rfl, rfl⟩)) ea_nil) (cd_tupL (.inl rfl) ⟨rfl, rfl⟩)) (od_catT ?_ ⟨rfl, rfl⟩)) ?_) q))
  · rw [List.length_map, lm]
    exact Nat.le_trans (show _ ≤ 200000 by omega) (by decide)
  · refine Nat.le_trans (Nat.add_le_add (Nat.le_refl _) (cut_len _ _ _)) ?_
    rw [l4, List.length_append, List.length_map, lm]
    exact Nat.le_trans (show _ ≤ 200000 by simp at l; omega) (by decide)
  · rw [cut_from (by rw [l4]; omega) (by rw [l4]; omega), l4, show (((4 + (dg 64 (chk bs).toNat []).length : Nat) : Int) - 4).toNat = (dg 64 (chk bs).toNat []).length by omega]
    show D.tup _ = D.tup ((nb bs.length ++ bs ++ ([0, 0, 0, 0] ++ dg 64 (chk bs).toNat []).drop (dg 64 (chk bs).toNat []).length).map .int)
    simp only [List.map_append, List.map_drop]
end
end K18
set_option Elab.async false
set_option linter.all false
set_option maxRecDepth 100000
set_option maxHeartbeats 4000000
namespace K18
open PySem L2 PyProof.Rows DL
/-- the last k digits of n, before rest -/
def mk : Nat → Nat → List Int → List Int
  | 0, _, rest => rest
  | k + 1, n, rest => mk k (n / 256) (((n % 256 : Nat) : Int) :: rest)
theorem mk_lst4 {n : Nat} (h : n < 4294967296) : lst4 (n : Int) = mk 4 n [] := by
  unfold lst4
  rw [Int.toNat_natCast]
  show _ = [((n / 256 / 256 / 256 % 256 : Nat) : Int), ((n / 256 / 256 % 256 : Nat) : Int), ((n / 256 % 256 : Nat) : Int), ((n % 256 : Nat) : Int)]
  by_cases h0 : n = 0
  · subst h0; rfl
  have z : ∀ m, m = 0 → ((m % 256 : Nat) : Int) = 0 := fun m hm => by subst hm; rfl
  rw [show (64 : Nat) = 63 + 1 from rfl, dg_step (by omega)]
  by_cases h1 : n / 256 = 0
  · rw [h1, dg_zero]; rfl
  rw [show (63 : Nat) = 62 + 1 from rfl, dg_step (by omega)]
  by_cases h2 : n / 256 / 256 = 0
  · rw [h2, dg_zero]; rfl
  rw [show (62 : Nat) = 61 + 1 from rfl, dg_step (by omega)]
  by_cases h3 : n / 256 / 256 / 256 = 0
  · rw [h3, dg_zero]; rfl
  rw [show (61 : Nat) = 60 + 1 from rfl, dg_step (by omega)]
  have h4 : n / 256 / 256 / 256 / 256 = 0 := by omega
  rw [h4, dg_zero]
  rfl
def badL (bs : List Int) (pl : Nat) : Option Int :=
  if bs.length ≤ pl then some (bs.length : Int)
  else if 60 < bs.getD pl 0 then some (pl : Int)
  else if 0 < bs.getD pl 0 ∧ pl + 1 < bs.length ∧ bs.getD (pl + 1) 0 = 0 then some ((pl : Int) + 1)
  else if (bs.length : Int) < (pl : Int) + 1 + bs.getD pl 0 then some (bs.length : Int) else none
def optD : Option Int → D
  | some i => .int i
  | none => .non
section
variable {P : Program} {w : World} {K : PySem.W.Frag} {mg : Str → Option Value} {base : Heap}
theorem d_law_number (F : Df K mg "_law_number" s_law_number ["number"]) (B : Blt mg) : Cal P w K mg base 1 "_law_number" 1 S_nbytes := by
  refine dfn' F sc_law_number rfl fun f cdv A outer s H E ds M Q hr hl hs => ?_
  obtain ⟨n, rfl, hn, q⟩ := hs
  have nd := sc_law_number.nd
  have l := dg_len 64 n []
  refine wss_cons (ws_set 1 nd (EE.to (ee_lst ea_nil) ?_))
  refine wss_cons (ws_while PassesOwn.never (fun m sg1 M1 => ∃ (j : Nat) (rest : List Int), j < 256 ^ m ∧ m ≤ 64 ∧ sg1 = [some (.int (j : Int)), some (.lst (rest.map .int))] ∧ M1 = M ∧ dg m j rest = dg 64 n [] ∧ rest.length + m ≤ 64) ⟨64, n, [], hn, Nat.le_refl _, rfl, rfl, rfl, by decide⟩ fun m sg1 M1 ⟨j, rest, hj, hm, e1, e2, e3, hrl⟩ => ?_)
  subst e1; subst e2
  refine ET.to (et_gt (ee_v 0 rfl) ee_int) ⟨fun h => ?_, fun h => ?_⟩
  · have h0 : 0 < j := by have := of_decide_eq_true h; omega
    cases m with
    | zero => exact absurd hj (by show ¬ j < 1; omega)
    | succ m =>
      have hd := dg_step (k := m) (rest := rest) h0
      have hq : j / 256 < 256 ^ m := by
        rw [Nat.div_lt_iff_lt_mul (by decide)]
        rw [Nat.pow_succ] at hj
        exact hj
      refine wss_one (ws_par 1 0 rfl nd (EA.to (ea_cons (ee_op op_cat (ee_lst (ea_cons (ee_sub (ee_v 0 rfl) (ee_mul (ee_fdiv (ee_v 0 rfl) ee_int ⟨by decide, by decide⟩) ee_int (.inr ⟨by decide, by decide⟩))) ea_nil)) (ee_v 1 rfl) (od_cat (.inl rfl) (.inl rfl) ?_ ⟨rfl, rfl⟩)) (ea_cons (ee_fdiv (ee_v 0 rfl) ee_int ⟨by decide, by decide⟩) ea_nil)) ⟨_, _, rfl, m, by omega, j / 256, ((j % 256 : Nat) : Int) :: rest, hq, by omega, ?_, rfl, ?_, ?_⟩))
      · rw [List.length_map]
        exact Nat.le_trans (show 1 + rest.length ≤ 1000 by omega) (by decide)
      · have e : (j : Int) - (j : Int) / 256 * 256 = ((j % 256 : Nat) : Int) := by omega
        rw [e]
        rfl
      · rw [← e3, hd]
      · rw [List.length_cons]; omega
  · have h0 : j = 0 := by have := of_decide_eq_false h; omega
    subst h0
    rw [dg_zero] at e3
    subst e3
    refine wss_one (ws_ret (EE.to (ee_op op_cat (ee_lst (ea_cons (ee_cb call_len B.len bi_len (ea_cons (ee_v 1 rfl) ea_nil) (cd_lenL (.inl rfl) ⟨rfl, rfl⟩)) ea_nil)) (ee_v 1 rfl) (od_cat (.inl rfl) (.inl rfl) ?_ ⟨rfl, rfl⟩)) ?_))
    · rw [List.length_map]
      exact Nat.le_trans (show 1 + _ ≤ 1000 by simp at l; omega) (by decide)
    · rw [List.length_map]
      exact q
theorem d_law_check (F : Df K mg "_law_check" s_law_check ["data"]) : Cal P w K mg base 1 "_law_check" 1 S_check_of := by
  refine dfn' F sc_law_check rfl fun f cdv A outer s H E ds M Q hr hl hs => ?_
  obtain ⟨bs, rfl, q⟩ := hs
  have nd := sc_law_check.nd
  refine wss_cons (ws_set 1 nd (EE.to ee_int ?_))
  refine wss_cons (ws_for PassesOwn.never rfl (Qi := ItQ (bs.map .int) M) (wi_tup (EE.to (ee_v 0 rfl) ⟨_, rfl, rfl, rfl, trivial⟩)) fun ds C M0 ⟨e1, e2, hC⟩ => ?_)
  subst e1; subst e2
  refine ⟨fun i sg1 M1 => M1 = M0 ∧ ∃ o, sg1 = [some (tI bs), some (.int (chk (bs.take i))), o], ⟨rfl, none, rfl⟩, fun i sg1 M1 ⟨e, _⟩ => by rw [e]; exact hC, fun i d sg1 M1 hd ⟨e1, o, e2⟩ => ?_, fun sg1 M1 ⟨e1, o, e2⟩ => ?_⟩
  · subst e1; subst e2
    obtain ⟨b, hb, rfl⟩ := at_map hd
    refine ⟨_, _, wg_name 2 nd, wss_cons (ws_set 1 nd (EE.to (ee_add (ee_add (ee_mul ee_int (ee_v 1 rfl) (.inl ⟨by decide, by decide⟩)) (ee_v 2 rfl)) ee_int) ?_))⟩
    refine wss_one (ws_set 1 nd (EE.to (ee_sub (ee_v 1 rfl) (ee_mul (ee_op op_fdivW (ee_v 1 rfl) ee_int (od_I (wide_div (b := 40) (by decide) (by decide) (by decide) (by decide)) ⟨rfl, rfl⟩)) ee_int (.inr ⟨by decide, by decide⟩))) ⟨rfl, some (.int b), ?_⟩))
    rw [take_snoc hb, chk_snoc]
    have e : 262147 * chk (bs.take i) + b + 1 - (262147 * chk (bs.take i) + b + 1) / 4294967291 * 4294967291 = (chk (bs.take i) * 262147 + b + 1) % 4294967291 := by
      rw [Int.mul_comm 262147, Int.emod_def, Int.mul_comm 4294967291]
    rw [e]
    rfl
  · subst e1; subst e2
    rw [List.length_map, List.take_length]
    exact wss_one (ws_ret (EE.to (ee_v 1 rfl) q))
theorem d_law_seal (F : Df K mg "_law_seal" s_law_seal ["data"]) (B : Blt mg) (C1 : Cal P w K mg base 1 "_law_number" 1 S_nbytes) (C2 : Cal P w K mg base 1 "_law_check" 1 S_check_of) : Cal P w K mg base 2 "_law_seal" 1 S_sealed := by
  refine dfn' F sc_law_seal rfl fun f cdv A outer s H E ds M Q hr hl hs => ?_
  obtain ⟨bs, rfl, hz, q⟩ := hs
  have nd := sc_law_seal.nd
  obtain ⟨c0, c1⟩ := chk_range bs
  have ec : ((chk bs).toNat : Int) = chk bs := by omega
  have lm : (bs.map D.int).length = bs.length := List.length_map _
  refine wss_cons (ws_par 1 2 rfl nd (EA.to (ea_cons (we_call C2 (hr.mono (by omega)) (EA.to (ea_cons (ee_v 0 rfl) ea_nil) ⟨rfl, bs, rfl, rfl, rfl⟩)) (ea_cons (ee_lst ea_nil) ea_nil)) ⟨_, _, rfl, ?_⟩))
  refine wss_cons (ws_for PassesOwn.never rfl (Qi := ItQ (rngD 0 4) M) (wi_rng1 B.range (EA.to (ea_cons ee_int ea_nil) ⟨4, rfl, by decide, by decide, rfl, rfl, trivial⟩)) fun ds C M0 ⟨e1, e2, hC⟩ => ?_)
  subst e1; subst e2
  refine ⟨fun i sg1 M1 => M1 = M0 ∧ ∃ (j : Nat) (made : List Int) (o : Option D), sg1 = [some (tI bs), some (.int (j : Int)), some (.lst (made.map .int)), o] ∧ made.length = i ∧ i ≤ 4 ∧ mk (4 - i) j made = mk 4 (chk bs).toNat [], ⟨rfl, (chk bs).toNat, [], none, by rw [ec]; rfl, rfl, by decide, rfl⟩, fun i sg1 M1 ⟨e, _⟩ => by rw [e]; exact hC, fun i d sg1 M1 hd ⟨e1, j, made, o, e2, hl, hi, e3⟩ => ?_, fun sg1 M1 ⟨e1, j, made, o, e2, hl, hi, e3⟩ => ?_⟩
  · subst e1; subst e2
    obtain ⟨hi4, rfl⟩ := rngD_at hd
    refine ⟨_, _, wg_name 3 nd, wss_one (ws_par 2 1 rfl nd (EA.to (ea_cons (ee_op op_cat (ee_lst (ea_cons (ee_sub (ee_v 1 rfl) (ee_mul (ee_fdiv (ee_v 1 rfl) ee_int ⟨by decide, by decide⟩) ee_int (.inr ⟨by decide, by decide⟩))) ea_nil)) (ee_v 2 rfl) (od_cat (.inl rfl) (.inl rfl) ?_ ⟨rfl, rfl⟩)) (ea_cons (ee_fdiv (ee_v 1 rfl) ee_int ⟨by decide, by decide⟩) ea_nil)) ⟨_, _, rfl, rfl, j / 256, ((j % 256 : Nat) : Int) :: made, some (.int (0 + (i : Int))), ?_, by rw [List.length_cons, hl], by omega, ?_⟩))⟩
    · rw [List.length_map]
      exact Nat.le_trans (show 1 + _ ≤ 1000 by omega) (by decide)
    · have e : (j : Int) - (j : Int) / 256 * 256 = ((j % 256 : Nat) : Int) := by omega
      rw [e]
      rfl
    · rw [← e3, show 4 - i = (4 - (i + 1)) + 1 by omega]
      rfl
  · subst e1; subst e2
    rw [rngD_len] at hl e3
    have e4 : made = lst4 (chk bs) := by
      rw [← ec, mk_lst4 (by omega)]
      exact e3
    subst e4
    have ln := nb_len bs.length
    have l4 := lst4_len (chk bs)
    refine wss_one (ws_ret (EE.to (ee_ct call_tuple_of B.tuple bi_tuple (ea_cons (ee_op op_cat (ee_op op_cat (we_call C1 (hr.mono (by omega)) (EA.to (ea_cons (ee_cb call_len B.len bi_len (ea_cons (ee_v 0 rfl) ea_nil) (cd_lenT ⟨rfl, rfl⟩)) ea_nil) ⟨rfl, bs.length, by rw [lm], Nat.lt_of_lt_of_le hz (by decide), rfl, rfl⟩)) (ee_ct call_list_of B.list bi_list (ea_cons (ee_v 0 rfl) ea_nil) (cd_lst (.inl rfl) ⟨rfl, rfl⟩)) (od_cat (.inl rfl) (.inl rfl) ?_ ⟨rfl, rfl⟩)) (ee_v 2 rfl) (od_cat (.inl rfl) (.inl rfl) ?_ ⟨rfl, rfl⟩)) ea_nil) (cd_tupL (.inl rfl) ⟨rfl, rfl⟩)) ?_))
    · rw [List.length_map, lm]
      exact Nat.le_trans (show _ ≤ 200000 by omega) (by decide)
    · rw [List.length_append, lm, List.length_map, List.length_map]
      exact Nat.le_trans (show _ ≤ 200000 by omega) (by decide)
    · unfold sealL at q
      simp only [tI, List.map_append] at q
      exact q
def S_law_bad : SpD := fun ds M Q => ∃ (bs : List Int) (pl : Nat), ds = [tI bs, .int (pl : Int)] ∧ Q (optD (badL bs pl)) M
theorem d_law_bad (F : Df K mg "_law_bad" s_law_bad ["data", "place"]) (B : Blt mg) : Cal P w K mg base 1 "_law_bad" 2 S_law_bad := by
  refine dfn' F sc_law_bad rfl fun f cdv A outer s H E ds M Q hr hl hs => ?_
  obtain ⟨bs, pl, rfl, q⟩ := hs
  have nd := sc_law_bad.nd
  have lm : (bs.map D.int).length = bs.length := List.length_map _
  unfold badL at q
  refine wss_cons (ws_ifE (et_ge (ee_v 1 rfl) (ee_cb call_len B.len bi_len (ea_cons (ee_v 0 rfl) ea_nil) (cd_lenT ⟨rfl, rfl⟩))) (fun h => ?_) fun h => wss_nil ?_)
  · have h1 := of_decide_eq_true h
    rw [lm] at h1
    rw [if_pos (by omega)] at q
    refine wss_one (ws_ret (EE.to (ee_cb call_len B.len bi_len (ea_cons (ee_v 0 rfl) ea_nil) (cd_lenT ⟨rfl, rfl⟩)) ?_))
    rw [lm]
    exact q
  have h1 := of_decide_eq_false h
  rw [lm] at h1
  rw [if_neg (by omega)] at q
  have at0 : atI (bs.map D.int) (pl : Int) = some (.int (bs.getD pl 0)) := atI_ints (by omega) (by omega)
  refine wss_cons (ws_ifE (et_gt (ee_ix ix_tup (ee_v 0 rfl) (ee_v 1 rfl) (od_ixT at0 ⟨rfl, rfl⟩)) ee_int) (fun h => ?_) fun h => wss_nil ?_)
  · rw [if_pos (of_decide_eq_true h)] at q
    exact wss_one (ws_ret (EE.to (ee_v 1 rfl) q))
  rw [if_neg (of_decide_eq_false h)] at q
  refine wss_cons (ws_ifE (k := decide (0 < bs.getD pl 0 ∧ pl + 1 < bs.length ∧ bs.getD (pl + 1) 0 = 0)) (ET.is (ww_pt (ew_and (et_gt (ee_ix ix_tup (ee_v 0 rfl) (ee_v 1 rfl) (od_ixT at0 ⟨rfl, rfl⟩)) ee_int) fun _ => ew_and (et_lt (ee_add (ee_v 1 rfl) ee_int) (ee_cb call_len B.len bi_len (ea_cons (ee_v 0 rfl) ea_nil) (cd_lenT ⟨rfl, rfl⟩))) fun h2 => ww_and1 (et_eqI (ee_ix ix_tup (ee_v 0 rfl) (ee_add (ee_v 1 rfl) ee_int) (od_ixT (atI_ints (by omega) (by have := of_decide_eq_true h2; rw [lm] at this; omega)) ⟨rfl, rfl⟩)) ee_int))) ?_) (fun h => ?_) fun h => wss_nil ?_)
  · rw [Bool.eq_iff_iff, Bool.and_eq_true_iff, Bool.and_eq_true_iff, decide_eq_true_iff, decide_eq_true_iff, decide_eq_true_iff, decide_eq_true_iff, lm, show ((pl : Int) + 1).toNat = pl + 1 by omega]
    omega
  · rw [if_pos (of_decide_eq_true h)] at q
    exact wss_one (ws_ret (EE.to (ee_add (ee_v 1 rfl) ee_int) q))
  rw [if_neg (of_decide_eq_false h)] at q
  refine wss_one (ws_ret (EE.to (ee_if (et_gt (ee_add (ee_add (ee_v 1 rfl) ee_int) (ee_ix ix_tup (ee_v 0 rfl) (ee_v 1 rfl) (od_ixT at0 ⟨rfl, rfl⟩))) (ee_cb call_len B.len bi_len (ea_cons (ee_v 0 rfl) ea_nil) (cd_lenT ⟨rfl, rfl⟩))) (fun h => EE.is (ee_cb call_len B.len bi_len (ea_cons (ee_v 0 rfl) ea_nil) (cd_lenT ⟨rfl, rfl⟩)) ?_) (fun h => EE.is ee_non ?_)) q))
  · have h2 := of_decide_eq_true h
    rw [lm] at h2 ⊢
    rw [if_pos h2]
    rfl
  · have h2 := of_decide_eq_false h
    rw [lm] at h2
    rw [if_neg h2]
    rfl
end
end K18
set_option Elab.async false
set_option linter.all false
set_option maxRecDepth 100000
set_option maxHeartbeats 4000000
namespace K18
open PySem L2 PyProof.Rows DL
/-! ### the catching defs: _law_number_at -/
/-- the field of a BadBytes -/
def plc (i : Int) : List (Str × D) := [("place", .int i)]
end K18
set_option Elab.async false
set_option linter.all false
set_option maxRecDepth 100000
set_option maxHeartbeats 4000000
namespace K18
open PySem L2 PyProof.Rows DL
/-- how a BadBytes is made, in any frame with room -/
def MkB (P : Program) (w : World) (K : PySem.W.Frag) (mg : Str → Option Value) (base : Heap) (CB : Addr) : Prop := ∀ (X : Cx), X.prog = P → X.w = w → X.K = K → X.mg = mg → X.base = base → Room 3 X.A → Gl X "BadBytes" → ∀ (a : Expr) (p pos : Pos), nst a = true → PMk X (.Call (.Name "BadBytes" p) [a] [] pos) (tMkX CB "place" (tWA X [a]))
section
variable {P : Program} {w : World} {K : PySem.W.Frag} {mg : Str → Option Value} {base : Heap}
def S_byte_at (CB : Addr) : SpDX := fun ds M Q QX => ∃ (bs : List Int) (pl : Nat), ds = [tI bs, .int (pl : Int)] ∧ bs.length < 1000000 ∧ (pl < bs.length → Q (.int (bs.getD pl 0)) M) ∧ (bs.length ≤ pl → QX CB (plc bs.length) M)
theorem d_byte_at {CB : Addr} (F : Df K mg "byte_at" s_byte_at ["data", "place"]) (B : Blt mg) (mkb : MkB P w K mg base CB) : CalX P w K mg base 4 "byte_at" 2 (S_byte_at CB) := by
  refine dfnX F sc_byte_at rfl fun f cdv A outer s H E ds M Q QX hr hl hs o => ?_
  obtain ⟨bs, pl, rfl, hz, q, qx⟩ := hs
  have nd := sc_byte_at.nd
  have lm : (bs.map D.int).length = bs.length := List.length_map _
  refine wss_cons (ws_ifE (et_ge (ee_v 1 rfl) (ee_cb call_len B.len bi_len (ea_cons (ee_v 0 rfl) ea_nil) (cd_lenT ⟨rfl, rfl⟩))) (fun h => ?_) fun h => wss_nil ?_)
  · have h1 := of_decide_eq_true h
    rw [lm] at h1
    refine wss_one (ws_raise rfl o (mkb _ (by rfl) (by rfl) (by rfl) (by rfl) (by rfl) (by exact hr) (by rfl) _ _ _ (by rfl)) (EA.to (ea_cons (ee_cb call_len B.len bi_len (ea_cons (ee_v 0 rfl) ea_nil) (cd_lenT ⟨rfl, rfl⟩)) ea_nil) ⟨_, rfl, ?_, ?_⟩))
    · rw [lm]
      exact small_log (by omega) (by omega)
    · rw [lm]
      exact qx (by omega)
  · have h1 := of_decide_eq_false h
    rw [lm] at h1
    exact wss_one (ws_ret (EE.to (ee_ix ix_tup (ee_v 0 rfl) (ee_v 1 rfl) (od_ixT (atI_ints (by omega) (by omega)) ⟨rfl, rfl⟩)) (q (by omega))))
end
end K18
set_option Elab.async false
set_option linter.all false
set_option maxRecDepth 100000
set_option maxHeartbeats 4000000
namespace K18
open PySem L2 PyProof.Rows DL
def valL (ds : List Int) : Int := ds.foldl (fun v b => v * 256 + b) 0
/-- what read_number tells -/
def gotL (bs : List Int) (pl : Nat) : D := .tup [.int (valL ((List.range (bs.getD pl 0).toNat).map fun i => bs.getD (pl + 1 + i) 0)), .int ((pl : Int) + 1 + bs.getD pl 0)]
theorem val_snoc (f : Nat → Int) (i : Nat) : valL ((List.range (i + 1)).map f) = valL ((List.range i).map f) * 256 + f i := by
  unfold valL
  rw [List.range_succ, List.map_append, List.foldl_append]
  rfl
section
variable {P : Program} {w : World} {K : PySem.W.Frag} {mg : Str → Option Value} {base : Heap}
theorem d_read_number {CB : Addr} (F : Df K mg "read_number" s_read_number ["data", "place"]) (B : Blt mg) (C : Cn mg) (mkb : MkB P w K mg base CB) (C1 : CalX P w K mg base 4 "byte_at" 2 (S_byte_at CB)) : CalX P w K mg base 5 "read_number" 2 (fun ds M Q QX => ∃ (bs : List Int) (pl : Nat), ds = [tI bs, .int (pl : Int)] ∧ pl < 1000000 ∧ bs.length < 1000000 ∧ (∀ b ∈ bs, 0 ≤ b) ∧ (∀ i, badL bs pl = some i → QX CB (plc i) M) ∧ (badL bs pl = none → Q (gotL bs pl) M)) := by
  refine dfnX F sc_read_number rfl fun f cdv A outer s H E ds M Q QX hr hl hs o => ?_
  obtain ⟨bs, pl, rfl, hpl, hz, hbs, qx, q⟩ := hs
  have nd := sc_read_number.nd
  obtain ⟨t1, hb1⟩ := C.byte
  obtain ⟨t2, hb2⟩ := C.digits
  unfold badL at q qx
  refine wss_cons (ws_par 2 3 rfl nd (wa_cons (we_callX C1 hr o (EA.to (ea_cons (ee_v 0 rfl) (ea_cons (ee_v 1 rfl) ea_nil)) ⟨rfl, fun b0 => ⟨bs, pl, rfl, hz, fun h => ?_, fun h => ?_⟩⟩))))
  · refine EA.to (ea_cons ee_int ea_nil) ⟨_, _, rfl, ?_⟩
    show WSs _ _ _ M _
    rw [if_neg (by omega)] at q qx
    refine wss_cons (ws_ifE (et_gt (ee_v 2 rfl) (ee_gi hb2)) (fun h1 => ?_) fun h1 => wss_nil ?_)
    · exact wss_one (ws_raise rfl o (mkb _ (by rfl) (by rfl) (by rfl) (by rfl) (by rfl) (by exact hr.mono (by omega)) (by rfl) _ _ _ (by rfl)) (EA.to (ea_cons (ee_v 1 rfl) ea_nil) ⟨_, rfl, small_log (by omega) (by omega), qx _ (if_pos (of_decide_eq_true h1))⟩))
    · have hm : ¬ 60 < bs.getD pl 0 := of_decide_eq_false h1
      rw [if_neg hm] at q qx
      have m0 : 0 ≤ bs.getD pl 0 := by rw [DL.getD_at h]; exact hbs _ (List.getElem_mem h)
      generalize hmany : bs.getD pl 0 = many at *
      refine wss_cons (ws_for (passes_of rfl) rfl (Qi := ItQ (rngD ((pl : Int) + 1) many.toNat) M) (wi_rng2 B.range (EA.to (ea_cons (ee_add (ee_v 1 rfl) ee_int) (ea_cons (ee_add (ee_add (ee_v 1 rfl) ee_int) (ee_v 2 rfl)) ea_nil)) ⟨_, _, rfl, by omega, by rw [show (pl : Int) + 1 + many - ((pl : Int) + 1) = many by omega], rfl, trivial⟩)) fun ds C M0 ⟨e1, e2, hC⟩ => ?_)
      subst e1; subst e2
      refine ⟨fun i sg1 M1 => M1 = M0 ∧ ∃ o1 o2, sg1 = [some (tI bs), some (.int (pl : Int)), some (.int many), some (.int (valL ((List.range i).map fun i => bs.getD (pl + 1 + i) 0))), o1, o2] ∧ (i = 0 ∨ (pl + 1 < bs.length ∧ bs.getD (pl + 1) 0 ≠ 0 ∧ pl + i < bs.length)), ⟨rfl, none, none, rfl, .inl rfl⟩, fun i sg1 M1 ⟨e, _⟩ => by rw [e]; exact hC, fun i d sg1 M1 hd ⟨e1, o1, o2, e2, hi⟩ => ?_, fun sg1 M1 ⟨e1, o1, o2, e2, hi⟩ => ?_⟩
      · subst e1; subst e2
        obtain ⟨hj, rfl⟩ := rngD_at hd
        have hjm : (i : Int) < many := by omega
        refine ⟨_, _, wg_name 4 nd, ?_⟩
        refine wss_cons (ws_set 5 nd (we_callX C1 hr o (EA.to (ea_cons (ee_v 0 rfl) (ea_cons (ee_v 4 rfl) ea_nil)) ⟨rfl, fun b0 => ⟨bs, pl + 1 + i, by rw [show (pl : Int) + 1 + (i : Int) = ((pl + 1 + i : Nat) : Int) by omega], hz, fun h2 => ?_, fun h2 => ?_⟩⟩)))
        · show WSs _ _ _ M1 _
          refine wss_cons (ws_ifE (k := decide (i = 0 ∧ bs.getD (pl + 1 + i) 0 = 0)) (ET.is (ww_pt (ew_and (et_eqI (ee_v 4 rfl) (ee_add (ee_v 1 rfl) ee_int)) fun _ => ww_and1 (et_eqI (ee_v 5 rfl) ee_int))) ?_) (fun h3 => ?_) fun h3 => wss_nil ?_)
          · rw [Bool.eq_iff_iff, Bool.and_eq_true_iff, decide_eq_true_iff, decide_eq_true_iff, decide_eq_true_iff]
            omega
          · obtain ⟨i0, hz⟩ := of_decide_eq_true h3
            subst i0
            refine wss_one (ws_raise rfl o (mkb _ (by rfl) (by rfl) (by rfl) (by rfl) (by rfl) (by exact hr.mono (by omega)) (by rfl) _ _ _ (by rfl)) (EA.to (ea_cons (ee_v 4 rfl) ea_nil) ⟨_, rfl, small_log (by omega) (by omega), ?_⟩))
            have e : (pl : Int) + 1 + ((0 : Nat) : Int) = (pl : Int) + 1 := by omega
            rw [e]
            exact qx _ (if_pos ⟨by omega, by omega, hz⟩)
          · have h4 := of_decide_eq_false h3
            refine wss_one (ws_set 3 nd (EE.to (ee_add (ee_mul (ee_v 3 rfl) (ee_gi hb1) (.inr ⟨by decide, by decide⟩)) (ee_v 5 rfl)) ⟨rfl, some (.int ((pl : Int) + 1 + (i : Int))), some (.int (bs.getD (pl + 1 + i) 0)), ?_, .inr ?_⟩))
            · rw [val_snoc]; rfl
            · rcases hi with hi | ⟨a1, a2, a3⟩
              · subst hi
                exact ⟨by omega, fun z => h4 ⟨rfl, z⟩, by omega⟩
              · exact ⟨a1, a2, by omega⟩
        · refine qx _ ?_
          rw [if_neg, if_pos (by omega)]
          rintro ⟨a1, a2, a3⟩
          rcases hi with hi | ⟨b1, b2, b3⟩
          · omega
          · exact b2 a3
      · subst e1; subst e2
        rw [rngD_len] at hi ⊢
        refine wss_one (ws_ret (EE.to (ee_tup (ea_cons (ee_v 3 rfl) (ea_cons (ee_add (ee_add (ee_v 1 rfl) ee_int) (ee_v 2 rfl)) ea_nil))) ?_))
        have z := q (by
          rw [if_neg, if_neg]
          · rcases hi with hi | ⟨b1, b2, b3⟩ <;> omega
          · rintro ⟨a1, a2, a3⟩
            rcases hi with hi | ⟨b1, b2, b3⟩
            · omega
            · exact b2 a3)
        unfold gotL at z
        rw [hmany] at z
        exact z
  · exact qx _ (if_pos h)
end
end K18
set_option Elab.async false
set_option linter.all false
set_option maxRecDepth 100000
set_option maxHeartbeats 4000000
namespace K18
open PySem L2 PyProof.Rows DL
theorem toPyA_ints : ∀ ns : List Int, toPyA (ns.map D.int) = ns.map PyData.int
  | [] => rfl
  | n :: ns => congrArg (PyData.int n :: ·) (toPyA_ints ns)
theorem lay_ints : ∀ ns : List Int, PyData.canLayAll0 (ns.map PyData.int) = true
  | [] => rfl
  | n :: ns => by
    show (PyData.canLay0 (.int n) && PyData.canLayAll0 (ns.map PyData.int)) = true
    rw [lay_ints ns]; rfl
theorem depth_ints : ∀ ns : List Int, PyData.depthAll (ns.map PyData.int) = 0
  | [] => rfl
  | n :: ns => by
    show max (PyData.depth (.int n)) (PyData.depthAll (ns.map PyData.int)) = 0
    rw [depth_ints ns]; rfl
theorem shaped_ints (ns : List Int) : SeqAt.shaped (toPy (tI ns)) = true := by
  show SeqAt.shaped (.tuple (toPyA (ns.map D.int))) = true
  rw [toPyA_ints]
  refine Bool.and_eq_true_iff.mpr ⟨lay_ints ns, decide_eq_true ?_⟩
  show PyData.depthAll (ns.map PyData.int) + 1 ≤ 64
  rw [depth_ints]
  decide
theorem eqv_ints : ∀ a b : List Int, PyData.eqvAll (a.map PyData.int) (b.map PyData.int) = decide (a = b)
  | [], [] => rfl
  | [], _ :: _ => by simp [PyData.eqvAll]
  | _ :: _, [] => by simp [PyData.eqvAll]
  | x :: a, y :: b => by
    rw [List.map_cons, List.map_cons, PyData.eqvAll, eqv_ints a b]
    simp [PyData.eqv]
    rfl
end K18
set_option Elab.async false
set_option linter.all false
set_option maxRecDepth 100000
set_option maxHeartbeats 4000000
namespace K18
open PySem L2 PyProof.Rows
/-! ### the plain laws: numbers and seals -/
/-- a byte -/
def Byt (bs : List Int) : Prop := ∀ b ∈ bs, 0 ≤ b ∧ b < 256
theorem dg_app : ∀ (k n : Nat) (rest : List Int), dg k n rest = dg k n [] ++ rest
  | 0, n, rest => rfl
  | k + 1, n, rest => by
    by_cases h : n = 0
    · subst h; rw [dg_zero, dg_zero]; rfl
    · rw [dg_step (by omega), dg_step (by omega), dg_app k _ (_ :: rest), dg_app k _ [_], List.append_assoc]
      rfl
theorem dg_snoc {k n : Nat} (h : 0 < n) : dg (k + 1) n [] = dg k (n / 256) [] ++ [((n % 256 : Nat) : Int)] := by rw [dg_step h, dg_app]
theorem val_app (l : List Int) (b : Int) : valL (l ++ [b]) = valL l * 256 + b := by unfold valL; rw [List.foldl_append]; rfl
theorem dg_facts : ∀ (k n : Nat), n < 256 ^ k → valL (dg k n []) = (n : Int) ∧ Byt (dg k n []) ∧ (∀ b, (dg k n []).head? = some b → b ≠ 0) ∧ (n = 0 ↔ dg k n [] = [])
  | 0, n, h => by
    have : n = 0 := by simpa using h
    subst this
    exact ⟨rfl, fun b hb => (by cases hb), fun b hb => (by cases hb), by simp [dg]⟩
  | k + 1, n, h => by
    by_cases h0 : n = 0
    · subst h0
      rw [dg_zero]
      exact ⟨rfl, fun b hb => (by cases hb), fun b hb => (by cases hb), by simp⟩
    · have hq : n / 256 < 256 ^ k := by
        rw [Nat.div_lt_iff_lt_mul (by decide)]
        rw [Nat.pow_succ] at h
        exact h
      obtain ⟨a1, a2, a3, a4⟩ := dg_facts k (n / 256) hq
      rw [dg_snoc (by omega)]
      refine ⟨?_, ?_, ?_, ?_⟩
      · rw [val_app, a1]; omega
      · intro b hb
        rcases List.mem_append.mp hb with hb | hb
        · exact a2 b hb
        · rw [List.mem_singleton.mp hb]; omega
      · intro b hb
        by_cases he : dg k (n / 256) [] = []
        · rw [he] at hb
          have := a4.mpr he
          simp at hb
          omega
        · rw [List.head?_append] at hb
          cases e : (dg k (n / 256) []).head? with
          | none => exact absurd (List.head?_eq_none_iff.mp e) he
          | some c =>
            rw [e] at hb
            simp at hb
            subst hb
            exact a3 c e
      · constructor
        · intro z; omega
        · intro z; simp at z
theorem val_pos : ∀ (l : List Int), Byt l → 0 ≤ valL l ∧ (∀ b, l.head? = some b → b ≠ 0 → 0 < valL l) := by
  have gen : ∀ (l : List Int) (v : Int), Byt l → 0 ≤ v → v ≤ l.foldl (fun v b => v * 256 + b) v := by
    intro l
    induction l with
    | nil => intro v _ _; exact Int.le_refl _
    | cons b l ih =>
      intro v hb hv
      have h1 := hb b (List.mem_cons_self ..)
      have := ih (v * 256 + b) (fun c hc => hb c (List.mem_cons_of_mem _ hc)) (by omega)
      rw [List.foldl_cons]
      omega
  intro l hl
  refine ⟨gen l 0 hl (by omega), fun b hb h0 => ?_⟩
  cases l with
  | nil => cases hb
  | cons c l =>
    simp at hb
    subst hb
    have h1 := hl c (List.mem_cons_self ..)
    have := gen l (0 * 256 + c) (fun d hd => hl d (List.mem_cons_of_mem _ hd)) (by omega)
    unfold valL
    rw [List.foldl_cons]
    omega
/-- digits, told again -/
theorem dg_val : ∀ (k : Nat) (l : List Int), l.length ≤ k → Byt l → (∀ b, l.head? = some b → b ≠ 0) → dg k (valL l).toNat [] = l
  | 0, l, h, _, _ => by
    cases l with
    | nil => rfl
    | cons a l => simp at h
  | k + 1, l, h, hb, hh => by
    rcases List.eq_nil_or_concat l with rfl | ⟨r, b, rfl⟩
    · exact dg_zero _ _
    rw [List.concat_eq_append] at *
    obtain ⟨p1, p2⟩ := val_pos _ hb
    have hbb := hb b (by simp)
    have hr : Byt r := fun c hc => hb c (by simp [hc])
    obtain ⟨q1, q2⟩ := val_pos _ hr
    have pos : 0 < valL (r ++ [b]) := by
      cases e : (r ++ [b]).head? with
      | none => simp at e
      | some c => exact p2 c e (hh c e)
    rw [dg_snoc (by omega)]
    rw [val_app] at pos ⊢
    have e1 : (valL r * 256 + b).toNat / 256 = (valL r).toNat := by omega
    have e2 : (((valL r * 256 + b).toNat % 256 : Nat) : Int) = b := by omega
    rw [e1, e2, dg_val k r (by simp at h; omega) hr]
    intro c hc
    refine hh c ?_
    rw [List.head?_append, hc]
    rfl
theorem val_lt : ∀ (n : Nat) (l : List Int), l.length = n → Byt l → valL l < ((256 ^ n : Nat) : Int)
  | 0, l, h, _ => by
    have : l = [] := List.length_eq_zero_iff.mp h
    subst this
    decide
  | n + 1, l, h, hb => by
    rcases List.eq_nil_or_concat l with rfl | ⟨r, b, rfl⟩
    · cases h
    rw [List.concat_eq_append] at *
    have hr : Byt r := fun c hc => hb c (by simp [hc])
    have := val_lt n r (by simp at h; omega) hr
    have hbb := hb b (by simp)
    rw [val_app, Nat.pow_succ]
    omega
theorem nb_val {l : List Int} (h : l.length ≤ 64) (hb : Byt l) (hh : ∀ b, l.head? = some b → b ≠ 0) : nb (valL l).toNat = (l.length : Int) :: l := by
  unfold nb
  rw [dg_val 64 l h hb hh]
theorem dg_len0 : ∀ (k n : Nat), (dg k n []).length ≤ k
  | 0, n => by show 0 ≤ 0; omega
  | k + 1, n => by
    by_cases h : n = 0
    · subst h; rw [dg_zero]; simp
    · rw [dg_snoc (by omega), List.length_append]
      have := dg_len0 k (n / 256)
      simp
      omega
theorem dg_small : ∀ (j k n : Nat), n < 256 ^ j → (dg k n []).length ≤ j
  | j, 0, n, h => Nat.zero_le _
  | 0, k + 1, n, h => by
    have : n = 0 := by simpa using h
    subst this
    rw [dg_zero]; simp
  | j + 1, k + 1, n, h => by
    by_cases h0 : n = 0
    · subst h0; rw [dg_zero]; simp
    · have hq : n / 256 < 256 ^ j := by
        rw [Nat.div_lt_iff_lt_mul (by decide)]
        rw [Nat.pow_succ] at h
        exact h
      have := dg_small j k (n / 256) hq
      rw [dg_snoc (by omega), List.length_append]
      simp
      omega
theorem dg_mono : ∀ (k n m : Nat), n ≤ m → (dg k n []).length ≤ (dg k m []).length
  | 0, n, m, _ => Nat.le_refl _
  | k + 1, n, m, h => by
    by_cases h0 : n = 0
    · subst h0; rw [dg_zero]; simp
    · have := dg_mono k (n / 256) (m / 256) (Nat.div_le_div_right h)
      rw [dg_snoc (by omega), dg_snoc (by omega), List.length_append, List.length_append]
      simp
      omega
theorem nb_mono {n m : Nat} (h : n ≤ m) : (nb n).length ≤ (nb m).length := by
  have := dg_mono 64 n m h
  unfold nb
  simp
  omega
/-- a number's bytes in front tell the number -/
theorem nb_front {m n : Nat} {u v : List Int} (hm : m < 256 ^ 64) (hn : n < 256 ^ 64) (h : nb m ++ u = nb n ++ v) : m = n ∧ u = v := by
  unfold nb at h
  rw [List.cons_append, List.cons_append, List.cons.injEq] at h
  obtain ⟨h1, h2⟩ := h
  have hl : (dg 64 m []).length = (dg 64 n []).length := by omega
  obtain ⟨e1, e2⟩ := List.append_inj h2 hl
  refine ⟨?_, e2⟩
  have a := (dg_facts 64 m hm).1
  have b := (dg_facts 64 n hn).1
  rw [e1] at a
  omega
theorem seal_eq {x : List Int} : sealL x = nb x.length ++ (x ++ lst4 (chk x)) := by unfold sealL; rw [List.append_assoc]
theorem seal_len (x : List Int) : (sealL x).length = (nb x.length).length + x.length + 4 := by unfold sealL; rw [List.length_append, List.length_append, lst4_len]
/-- no more and no less behind -/
theorem seal_tail {x y : List Int} {r : List Int} (hx : x.length < 256 ^ 64) (hy : y.length < 256 ^ 64) (h : sealL x ++ r = sealL y) : r = [] := by
  rw [seal_eq, seal_eq, List.append_assoc] at h
  obtain ⟨e, h2⟩ := nb_front hx hy h
  have := congrArg List.length h2
  simp [lst4_len] at this
  exact List.length_eq_zero_iff.mp (by omega)
theorem seal_size {x y : List Int} (h : (sealL x).length = (sealL y).length) : x.length = y.length := by
  rw [seal_len, seal_len] at h
  rcases Nat.lt_trichotomy x.length y.length with g | g | g
  · have := nb_mono (Nat.le_of_lt g); omega
  · exact g
  · have := nb_mono (Nat.le_of_lt g); omega
theorem step_inj {a c b : Int} (ha : 0 ≤ a) (ha2 : a < 4294967291) (hc : 0 ≤ c) (hc2 : c < 4294967291) (h : (a * 262147 + b + 1) % 4294967291 = (c * 262147 + b + 1) % 4294967291) : a = c := by omega
def chkF (s : Int) (ds : List Int) : Int := ds.foldl (fun m b => (m * 262147 + b + 1) % 4294967291) s
theorem chkF_inj : ∀ (l : List Int) (a c : Int), 0 ≤ a → a < 4294967291 → 0 ≤ c → c < 4294967291 → chkF a l = chkF c l → a = c
  | [], a, c, _, _, _, _, h => h
  | b :: l, a, c, h1, h2, h3, h4, h => by
    have := chkF_inj l ((a * 262147 + b + 1) % 4294967291) ((c * 262147 + b + 1) % 4294967291) (Int.emod_nonneg _ (by decide)) (Int.emod_lt_of_pos _ (by decide)) (Int.emod_nonneg _ (by decide)) (Int.emod_lt_of_pos _ (by decide)) h
    exact step_inj h1 h2 h3 h4 this
theorem chk_split (l r : List Int) : chk (l ++ r) = chkF (chk l) r := by unfold chk chkF; rw [List.foldl_append]
theorem chk_change {l r : List Int} {b c : Int} (hb : 0 ≤ b ∧ b < 256) (hc : 0 ≤ c ∧ c < 256) (h : chk (l ++ b :: r) = chk (l ++ c :: r)) : b = c := by
  rw [chk_split, chk_split] at h
  obtain ⟨g0, g1⟩ := chk_range l
  have := chkF_inj r ((chk l * 262147 + b + 1) % 4294967291) ((chk l * 262147 + c + 1) % 4294967291) (Int.emod_nonneg _ (by decide)) (Int.emod_lt_of_pos _ (by decide)) (Int.emod_nonneg _ (by decide)) (Int.emod_lt_of_pos _ (by decide)) h
  omega
theorem lst4_inj {a c : Int} (ha : 0 ≤ a) (ha2 : a < 4294967291) (hc : 0 ≤ c) (hc2 : c < 4294967291) (h : lst4 a = lst4 c) : a = c := by
  have ea : ((a.toNat : Nat) : Int) = a := by omega
  have ec : ((c.toNat : Nat) : Int) = c := by omega
  rw [← ea, ← ec, mk_lst4 (by omega), mk_lst4 (by omega)] at h
  simp only [mk, List.cons.injEq, and_true] at h
  omega
theorem set_split {l : List Int} {k : Nat} {o : Int} (h : k < l.length) : l.set k o = l.take k ++ o :: l.drop (k + 1) := by
  rw [List.set_eq_take_append_cons_drop, if_pos h]
theorem get_split {l : List Int} {k : Nat} (h : k < l.length) : l = l.take k ++ l[k] :: l.drop (k + 1) := by
  rw [List.getElem_cons_drop, List.take_append_drop]
/-- one byte changed -/
theorem seal_change {x y : List Int} {k : Nat} {o : Int} (hx : x.length < 256 ^ 64) (hy : y.length < 256 ^ 64) (by_ : Byt y) (ho : 0 ≤ o ∧ o < 256) (hk : k < (sealL y).length) (hne : o ≠ (sealL y)[k]) (h : sealL x = (sealL y).set k o) : False := by
  have hs := seal_size (x := x) (y := y) (by rw [h, List.length_set])
  have lk : k < (sealL y).length := hk
  rw [seal_len] at lk
  have g : (sealL x)[k]'(by rw [h, List.length_set]; exact hk) = o := by
    simp [h]
  by_cases k1 : k < (nb y.length).length
  · apply hne
    rw [← g]
    simp only [seal_eq, hs]
    rw [List.getElem_append_left (by exact k1), List.getElem_append_left (by exact k1)]
  · have h2 : x ++ lst4 (chk x) = (y ++ lst4 (chk y)).set (k - (nb y.length).length) o := by
      rw [seal_eq, seal_eq, hs, List.set_append_right _ _ (by omega)] at h
      exact List.append_cancel_left h
    by_cases k2 : k - (nb y.length).length < y.length
    · rw [List.set_append_left _ _ k2] at h2
      obtain ⟨e1, e2⟩ := List.append_inj h2 (by rw [List.length_set]; exact hs)
      have hc := lst4_inj (chk_range x).1 (chk_range x).2 (chk_range y).1 (chk_range y).2 e2
      have hz := set_split (o := o) k2
      have hy2 := get_split k2
      rw [e1, hz] at hc
      have hc2 : chk (y.take (k - (nb y.length).length) ++ o :: y.drop (k - (nb y.length).length + 1)) = chk (y.take (k - (nb y.length).length) ++ y[k - (nb y.length).length] :: y.drop (k - (nb y.length).length + 1)) := by
        rw [hc]; exact congrArg chk hy2
      have := chk_change ho (by_ _ (List.getElem_mem k2)) hc2
      apply hne
      simp only [seal_eq]
      rw [List.getElem_append_right (by omega), List.getElem_append_left k2]
      exact this
    · rw [List.set_append_right _ _ (by omega)] at h2
      obtain ⟨e1, e2⟩ := List.append_inj h2 hs
      subst e1
      apply hne
      have hlen : k - (nb x.length).length - x.length < (lst4 (chk x)).length := by rw [lst4_len]; omega
      have : (lst4 (chk x))[k - (nb x.length).length - x.length] = o := by
        have q : (lst4 (chk x))[k - (nb x.length).length - x.length]? = ((lst4 (chk x)).set (k - (nb x.length).length - x.length) o)[k - (nb x.length).length - x.length]? := by rw [← e2]
        rw [List.getElem?_set_self hlen, List.getElem?_eq_getElem hlen] at q
        exact Option.some.inj q
      rw [← this]
      simp only [seal_eq]
      rw [List.getElem_append_right (by omega), List.getElem_append_right (by omega)]
theorem dg_one {n : Nat} (h0 : 0 < n) (h : n < 256) : dg 64 n [] = [(n : Int)] := by
  rw [show (64 : Nat) = 63 + 1 from rfl, dg_snoc h0, show n / 256 = 0 by omega, dg_zero, show n % 256 = n by omega]; rfl
theorem dg_two {n : Nat} (h0 : 256 ≤ n) (h : n < 65536) : dg 64 n [] = [((n / 256 : Nat) : Int), ((n % 256 : Nat) : Int)] := by
  rw [show (64 : Nat) = 63 + 1 from rfl, dg_snoc (by omega), show (63 : Nat) = 62 + 1 from rfl, dg_snoc (by omega), show n / 256 / 256 = 0 by omega, dg_zero, show n / 256 % 256 = n / 256 by omega]; rfl
/-- the first byte gone -/
theorem seal_first {x y : List Int} (hx : x.length < 256 ^ 64) (hy : y.length < 512) (h : sealL x = (sealL y).drop 1) : False := by
  have hl := congrArg List.length h
  have hd := congrArg List.head? h
  rw [seal_len, List.length_drop, seal_len] at hl
  have ex : sealL x = ((dg 64 x.length []).length : Int) :: (dg 64 x.length [] ++ x ++ lst4 (chk x)) := by unfold sealL nb; rfl
  rw [ex] at hd
  have nx : (nb x.length).length = (dg 64 x.length []).length + 1 := by unfold nb; rfl
  have zx := (dg_facts 64 x.length hx).2.2.2
  by_cases y0 : y.length = 0
  · have : nb y.length = [0] := by rw [y0]; rfl
    rw [this] at hl
    simp at hl
    omega
  by_cases y1 : y.length < 256
  · have e : nb y.length = [1, (y.length : Int)] := by unfold nb; rw [dg_one (by omega) y1]; rfl
    rw [e] at hl
    simp only [sealL, e] at hd
    simp at hd hl
    have xz : x.length = 0 := by omega
    have : (dg 64 x.length []).length = 0 := by rw [xz, dg_zero]; rfl
    omega
  · have e : nb y.length = [2, ((y.length / 256 : Nat) : Int), ((y.length % 256 : Nat) : Int)] := by unfold nb; rw [dg_two (by omega) (by omega)]; rfl
    rw [e] at hl
    simp only [sealL, e] at hd
    simp at hd hl
    have x1 : (dg 64 x.length []).length = 1 := by omega
    have := (dg_facts 64 x.length hx)
    have hv := val_lt 1 (dg 64 x.length []) x1 this.2.1
    rw [this.1] at hv
    omega
/-- where the digits stand that read_number reads, and the place behind -/
def digL (bs : List Int) (pl : Nat) : List Int := (List.range (bs.getD pl 0).toNat).map fun i => bs.getD (pl + 1 + i) 0
theorem digL_eq {bs : List Int} {pl : Nat} (h : badL bs pl = none) : digL bs pl = (bs.drop (pl + 1)).take (bs.getD pl 0).toNat ∧ (digL bs pl).length = (bs.getD pl 0).toNat ∧ pl < bs.length ∧ (bs.getD pl 0) ≤ 60 ∧ (pl : Int) + 1 + bs.getD pl 0 ≤ bs.length ∧ (0 < bs.getD pl 0 → bs.getD (pl + 1) 0 ≠ 0) := by
  unfold badL at h
  by_cases h1 : bs.length ≤ pl
  · rw [if_pos h1] at h; cases h
  rw [if_neg h1] at h
  by_cases h2 : 60 < bs.getD pl 0
  · rw [if_pos h2] at h; cases h
  rw [if_neg h2] at h
  by_cases h3 : 0 < bs.getD pl 0 ∧ pl + 1 < bs.length ∧ bs.getD (pl + 1) 0 = 0
  · rw [if_pos h3] at h; cases h
  rw [if_neg h3] at h
  by_cases h4 : (bs.length : Int) < (pl : Int) + 1 + bs.getD pl 0
  · rw [if_pos h4] at h; cases h
  refine ⟨?_, by unfold digL; simp, by omega, by omega, by omega, fun hp z => h3 ⟨hp, by omega, z⟩⟩
  unfold digL
  apply List.ext_getElem
  · rw [List.length_map, List.length_range, List.length_take, List.length_drop]
    omega
  · intro i a1 a2
    rw [List.length_map, List.length_range] at a1
    simp only [List.getElem_map, List.getElem_range, List.getElem_take, List.getElem_drop]
    rw [List.getD_eq_getElem?_getD, List.getElem?_eq_getElem (by omega)]
    rfl
theorem digL_byt {bs : List Int} {pl : Nat} (hb : Byt bs) (h : badL bs pl = none) : Byt (digL bs pl) ∧ ∀ b, (digL bs pl).head? = some b → b ≠ 0 := by
  obtain ⟨e, l, h1, h2, h3, h4⟩ := digL_eq h
  refine ⟨fun b hb2 => ?_, fun b hb2 => ?_⟩
  · rw [e] at hb2
    exact hb b (List.mem_of_mem_drop (List.mem_of_mem_take hb2))
  · have : 0 < (bs.getD pl 0).toNat := by
      rw [← l]
      cases e2 : digL bs pl with
      | nil => rw [e2] at hb2; cases hb2
      | cons a t => simp
    have h5 := h4 (by omega)
    unfold digL at hb2
    rw [List.head?_map, List.head?_range, if_neg (by omega)] at hb2
    simp at hb2
    rw [← hb2]
    simpa using h5
/-- what read_number reads is written so again -/
theorem back {bs : List Int} {pl : Nat} (hb : Byt bs) (h : badL bs pl = none) : 0 ≤ valL (digL bs pl) ∧ valL (digL bs pl) < ((256 ^ 60 : Nat) : Int) ∧ nb (valL (digL bs pl)).toNat = (bs.drop pl).take (1 + (bs.getD pl 0).toNat) := by
  obtain ⟨e, l, h1, h2, h3, h4⟩ := digL_eq h
  obtain ⟨q1, q2⟩ := digL_byt hb h
  refine ⟨(val_pos _ q1).1, ?_, ?_⟩
  · refine Int.lt_of_lt_of_le (val_lt _ _ rfl q1) ?_
    rw [l]
    have : (256 : Nat) ^ (bs.getD pl 0).toNat ≤ 256 ^ 60 := Nat.pow_le_pow_right (by decide) (by omega)
    exact Int.ofNat_le.mpr this
  · rw [nb_val (by rw [l]; omega) q1 q2, l, e]
    have e2 : bs.drop pl = bs.getD pl 0 :: bs.drop (pl + 1) := by
      rw [List.getD_eq_getElem?_getD, List.getElem?_eq_getElem h1]
      exact (List.drop_eq_getElem_cons h1)
    rw [e2, Nat.add_comm 1, List.take_succ_cons]
    congr 1
    have : 0 ≤ bs.getD pl 0 := by
      rw [List.getD_eq_getElem?_getD, List.getElem?_eq_getElem h1]
      exact (hb _ (List.getElem_mem h1)).1
    omega
theorem nb_len64 (n : Nat) : (nb n).length = (dg 64 n []).length + 1 := rfl
/-- a number's bytes are read back at any place -/
theorem read_nb {n : Nat} (hn : n < 256 ^ 60) (head tail : List Int) : badL (head ++ nb n ++ tail) head.length = none ∧ (head ++ nb n ++ tail).getD head.length 0 = ((dg 64 n []).length : Int) ∧ digL (head ++ nb n ++ tail) head.length = dg 64 n [] := by
  obtain ⟨f1, f2, f3, f4⟩ := dg_facts 64 n (Nat.lt_of_lt_of_le hn (by decide))
  have s := dg_small 60 64 n hn
  have e0 : (head ++ nb n ++ tail).getD head.length 0 = ((dg 64 n []).length : Int) := by
    rw [List.getD_eq_getElem?_getD, List.append_assoc, List.getElem?_append_right (Nat.le_refl _), Nat.sub_self]
    rfl
  have e1 : ∀ i, i < (dg 64 n []).length → (head ++ nb n ++ tail).getD (head.length + 1 + i) 0 = (dg 64 n []).getD i 0 := fun i hi => by
    rw [List.getD_eq_getElem?_getD, List.append_assoc, List.getElem?_append_right (by omega), show head.length + 1 + i - head.length = i + 1 by omega]
    unfold nb
    rw [List.cons_append, List.getElem?_cons_succ, List.getElem?_append_left hi, List.getD_eq_getElem?_getD]
  have ln : (head ++ nb n ++ tail).length = head.length + ((dg 64 n []).length + 1) + tail.length := by rw [List.length_append, List.length_append, nb_len64]
  refine ⟨?_, e0, ?_⟩
  · unfold badL
    rw [e0, if_neg (by omega), if_neg (by omega), if_neg, if_neg (by omega)]
    rintro ⟨a1, a2, a3⟩
    rw [show head.length + 1 = head.length + 1 + 0 from rfl, e1 0 (by omega)] at a3
    cases e : dg 64 n [] with
    | nil => rw [e] at a1; simp at a1
    | cons b t =>
      rw [e] at a3 f3
      exact f3 b rfl a3
  · unfold digL
    rw [e0]
    apply List.ext_getElem
    · simp
    · intro i a1 a2
      simp only [List.getElem_map, List.getElem_range]
      rw [e1 i a2, List.getD_eq_getElem?_getD, List.getElem?_eq_getElem a2]
      rfl
/-! ### opened -/
def lenN (bs : List Int) : Nat := (valL (digL bs 0)).toNat
def placeN (bs : List Int) : Nat := 1 + (bs.getD 0 0).toNat
def inL (bs : List Int) : List Int := (bs.drop (placeN bs)).take (lenN bs)
def opX (bs : List Int) : Option Int :=
  match badL bs 0 with
  | some i => some i
  | none => if bs.length ≠ placeN bs + lenN bs + 4 then some (min (bs.length : Int) ((placeN bs : Int) + lenN bs + 4))
    else if sealL (inL bs) ≠ bs then some ((placeN bs : Int) + lenN bs) else none
theorem opX_none {bs : List Int} (h : opX bs = none) : sealL (inL bs) = bs := by
  unfold opX at h
  cases e : badL bs 0 with
  | some i => rw [e] at h; cases h
  | none =>
    rw [e] at h
    simp only at h
    by_cases h1 : bs.length ≠ placeN bs + lenN bs + 4
    · rw [if_pos h1] at h; cases h
    rw [if_neg h1] at h
    by_cases h2 : sealL (inL bs) ≠ bs
    · rw [if_pos h2] at h; cases h
    exact Decidable.not_not.mp h2
theorem opX_in {bs : List Int} {i : Int} (hb : Byt bs) (h : opX bs = some i) : 0 ≤ i ∧ i ≤ bs.length := by
  unfold opX at h
  cases e : badL bs 0 with
  | some j =>
    rw [e] at h
    cases h
    unfold badL at e
    by_cases h1 : bs.length ≤ 0
    · rw [if_pos h1] at e; cases e; omega
    rw [if_neg h1] at e
    by_cases h2 : 60 < bs.getD 0 0
    · rw [if_pos h2] at e; cases e; omega
    rw [if_neg h2] at e
    by_cases h3 : 0 < bs.getD 0 0 ∧ 0 + 1 < bs.length ∧ bs.getD (0 + 1) 0 = 0
    · rw [if_pos h3] at e; cases e; omega
    rw [if_neg h3] at e
    by_cases h4 : (bs.length : Int) < ((0 : Nat) : Int) + 1 + bs.getD 0 0
    · rw [if_pos h4] at e; cases e; omega
    rw [if_neg h4] at e; cases e
  | none =>
    rw [e] at h
    simp only at h
    by_cases h1 : bs.length ≠ placeN bs + lenN bs + 4
    · rw [if_pos h1] at h; cases h; omega
    rw [if_neg h1] at h
    by_cases h2 : sealL (inL bs) ≠ bs
    · rw [if_pos h2] at h; cases h; omega
    rw [if_neg h2] at h; cases h
theorem open_seal {x : List Int} (hx : x.length < 256 ^ 60) : opX (sealL x) = none ∧ inL (sealL x) = x := by
  have r := read_nb hx [] (x ++ lst4 (chk x))
  rw [List.nil_append, ← seal_eq, List.length_nil] at r
  obtain ⟨r1, r2, r3⟩ := r
  have f := (dg_facts 64 x.length (Nat.lt_of_lt_of_le hx (by decide))).1
  have l : lenN (sealL x) = x.length := by unfold lenN; rw [r3, f]; omega
  have p : placeN (sealL x) = (nb x.length).length := by unfold placeN; rw [r2, nb_len64]; omega
  have i : inL (sealL x) = x := by
    unfold inL
    rw [l, p, seal_eq, List.drop_left, List.take_left]
  refine ⟨?_, i⟩
  unfold opX
  rw [r1, l, p, i]
  simp only
  rw [if_neg, if_neg]
  · simp
  · simp [seal_len]
/-- whatever is no seal is refused -/
theorem hurt {data : List Int} (h : ∀ x : List Int, x.length ≤ data.length → sealL x = data → False) : ∃ i, opX data = some i := by
  cases e : opX data with
  | some i => exact ⟨i, rfl⟩
  | none =>
    have := opX_none e
    exact (h _ (by
      have l := congrArg List.length this
      rw [seal_len] at l
      omega) this).elim
end K18
set_option Elab.async false
set_option linter.all false
set_option maxRecDepth 100000
set_option maxHeartbeats 4000000
namespace K18
open PySem L2 PyProof.Rows DL
theorem plA_ints : ∀ ns : List Int, plA (ns.map D.int) = true
  | [] => rfl
  | n :: ns => by
    show (pl (D.int n) && plA (ns.map D.int)) = true
    rw [plA_ints ns]; rfl
theorem pl_tI (ns : List Int) : pl (tI ns) = true := plA_ints ns
theorem got0 {bs : List Int} {pl : Nat} (hb : Byt bs) (h : badL bs pl = none) : gotL bs pl = .tup [.int ((valL (digL bs pl)).toNat : Int), .int ((pl + 1 + (bs.getD pl 0).toNat : Nat) : Int)] := by
  obtain ⟨e, l, h1, h2, h3, h4⟩ := digL_eq h
  have b := (back hb h).1
  have : 0 ≤ bs.getD pl 0 := by
    rw [DL.getD_at h1]
    exact (hb _ (List.getElem_mem h1)).1
  unfold gotL
  have e1 : valL (digL bs pl) = ((valL (digL bs pl)).toNat : Int) := by omega
  have e2 : (pl : Int) + 1 + bs.getD pl 0 = ((pl + 1 + (bs.getD pl 0).toNat : Nat) : Int) := by omega
  rw [e2, ← e1]
  rfl
theorem tI_cut (bs : List Int) (a b : Nat) : (DL.cutD (bs.map D.int) (some (a : Int)) (some (b : Int))) = ((bs.drop a).take (b - a)).map D.int := by rw [cut_mapD, cut_nat]
theorem toPy_tI (bs : List Int) : toPy (tI bs) = .tuple (bs.map PyData.int) := by
  show PyData.tuple (toPyA (bs.map D.int)) = _
  rw [toPyA_ints]
theorem eqv_tI (a b : List Int) : PyData.eqv (toPy (tI a)) (toPy (tI b)) = decide (a = b) := by
  rw [toPy_tI, toPy_tI, PyData.eqv, eqv_ints]
section
variable {P : Program} {w : World} {K : PySem.W.Frag} {mg : Str → Option Value} {base : Heap}
abbrev S_read_number (CB : Addr) : SpDX := fun ds M Q QX => ∃ (bs : List Int) (pl : Nat), ds = [tI bs, .int (pl : Int)] ∧ pl < 1000000 ∧ bs.length < 1000000 ∧ (∀ b ∈ bs, 0 ≤ b) ∧ (∀ i, badL bs pl = some i → QX CB (plc i) M) ∧ (badL bs pl = none → Q (gotL bs pl) M)
def S_opened (CB : Addr) : SpDX := fun ds M Q QX => ∃ bs : List Int, ds = [tI bs] ∧ bs.length < 90000 ∧ Byt bs ∧ (∀ i, opX bs = some i → QX CB (plc i) M) ∧ (opX bs = none → Q (tI (inL bs)) M)
theorem d_opened {CB : Addr} (F : Df K mg "opened" s_opened ["data"]) (B : Blt mg) (C : Cn mg) (mkb : MkB P w K mg base CB) (C1 : CalX P w K mg base 5 "read_number" 2 (S_read_number CB)) (C2 : Cal P w K mg base 3 "sealed" 1 S_sealed) : CalX P w K mg base 6 "opened" 1 (S_opened CB) := by
  refine dfnX F sc_opened rfl fun f cdv A outer s H E ds M Q QX hr hl hs o => ?_
  obtain ⟨bs, rfl, hz, hb, qx, q⟩ := hs
  have nd := sc_opened.nd
  obtain ⟨t1, hc1⟩ := C.check
  have lm : (bs.map D.int).length = bs.length := List.length_map _
  refine wss_cons (ws_asg (we_callX C1 hr o (EA.to (ea_cons (ee_v 0 rfl) (ea_cons ee_int ea_nil)) ⟨rfl, fun b0 => ⟨bs, 0, rfl, by decide, by omega, fun b hb2 => (hb b hb2).1, fun i hi => ?_, fun hi => ?_⟩⟩)))
  · exact qx i (by unfold opX; rw [hi])
  · rw [got0 hb hi]
    refine ⟨_, _, wg_tup rfl (wgs_cons (wg_name 1 nd) (wgs_cons (wg_name 2 nd) wgs_nil)), ?_⟩
    show WSs _ _ _ M _
    have ep : (0 + 1 + (bs.getD 0 0).toNat : Nat) = placeN bs := by unfold placeN; omega
    rw [ep]
    have ev : (valL (digL bs 0)).toNat = lenN bs := rfl
    rw [ev]
    unfold opX at q qx
    rw [hi] at q qx
    simp only at q qx
    refine wss_cons (ws_set 3 nd (EE.to (ee_add (ee_v 2 rfl) (ee_v 1 rfl)) ?_))
    refine wss_cons (ws_ifE (et_neI (ee_cb call_len B.len bi_len (ea_cons (ee_v 0 rfl) ea_nil) (cd_lenT ⟨rfl, rfl⟩)) (ee_add (ee_v 3 rfl) (ee_gi hc1))) (fun h => ?_) fun h => wss_nil ?_)
    · have h1 : ¬ ((bs.map D.int).length : Int) = (placeN bs : Int) + (lenN bs : Int) + 4 := by simpa using h
      rw [lm] at h1
      refine wss_one (ws_raise rfl o (mkb _ (by rfl) (by rfl) (by rfl) (by rfl) (by rfl) (by exact hr.mono (by omega)) (by rfl) _ _ _ (by rfl)) (EA.to (ea_cons (EE.is (d' := .int (min (bs.length : Int) ((placeN bs : Int) + lenN bs + 4))) (ee_cb (call_min2 rfl) B.min bi_min (ea_cons (ee_cb call_len B.len bi_len (ea_cons (ee_v 0 rfl) ea_nil) (cd_lenT ⟨rfl, rfl⟩)) (ea_cons (ee_add (ee_v 3 rfl) (ee_gi hc1)) ea_nil)) (cd_min2 ⟨rfl, rfl⟩)) ?_) ea_nil) ⟨_, rfl, small_log (by omega) (by omega), ?_⟩))
      · rw [lm]
        congr 1
        split <;> omega
      · exact qx _ (if_pos (by omega))
    · have h1 : ((bs.map D.int).length : Int) = (placeN bs : Int) + (lenN bs : Int) + 4 := by simpa using h
      rw [lm] at h1
      rw [if_neg (by omega)] at q qx
      refine wss_cons (ws_set 4 nd (EE.to (EE.is (d' := tI (inL bs)) (ee_sl sl_tupA (ee_v 0 rfl) (eo_some (ee_v 2 rfl)) (eo_some (ee_v 3 rfl)) (sd_tup ⟨rfl, rfl⟩)) ?_) ?_))
      · have e : (placeN bs : Int) + (lenN bs : Int) = ((placeN bs + lenN bs : Nat) : Int) := by omega
        rw [e, tI_cut, Nat.add_sub_cancel_left]
        rfl
      have li : (inL bs).length < 100000 := by
        unfold inL
        rw [List.length_take, List.length_drop]
        omega
      refine wss_cons (ws_ifE (k := !decide (sealL (inL bs) = bs)) (et_cmp (op_neD hr.units) (we_call C2 (hr.mono (by omega)) (EA.to (ea_cons (ee_v 4 rfl) ea_nil) ⟨rfl, inL bs, rfl, li, rfl, rfl⟩)) (ee_v 0 rfl) (od_neD (.inl ⟨?_, rfl⟩) (.inl ⟨?_, rfl⟩) (shaped_ints _) (shaped_ints _) ⟨_, rfl, by rw [eqv_tI], rfl⟩)) (fun h2 => ?_) fun h2 => wss_nil ?_)
      · exact pl_tI _
      · exact pl_tI _
      · have h3 : sealL (inL bs) ≠ bs := by simpa using h2
        exact wss_one (ws_raise rfl o (mkb _ (by rfl) (by rfl) (by rfl) (by rfl) (by rfl) (by exact hr.mono (by omega)) (by rfl) _ _ _ (by rfl)) (EA.to (ea_cons (ee_v 3 rfl) ea_nil) ⟨_, rfl, small_log (by omega) (by omega), qx _ (if_pos h3)⟩))
      · have h3 : sealL (inL bs) = bs := by simpa using h2
        exact wss_one (ws_ret (EE.to (ee_v 4 rfl) (q (by rw [if_neg (by simpa using h3)]))))
end
end K18
set_option Elab.async false
set_option linter.all false
set_option maxRecDepth 100000
set_option maxHeartbeats 4000000
namespace K18
open PySem L2 PyProof.Rows DL
/-! ### the catching defs: _law_number_at, _law_read -/
section
variable {P : Program} {w : World} {K : PySem.W.Frag} {mg : Str → Option Value} {base : Heap}
def S_number_at : SpD := fun ds M Q => ∃ (bs : List Int) (pl : Nat), ds = [tI bs, .int (pl : Int)] ∧ pl < 1000000 ∧ bs.length < 1000000 ∧ (∀ b ∈ bs, 0 ≤ b) ∧ Q (.tup [match badL bs pl with | some _ => .non | none => gotL bs pl, optD (badL bs pl)]) M
def S_law_read (fo : Addr) : SpD := fun ds M Q => ∃ (bs : List Int), ds = [.ptr fo, tI bs] ∧ bs.length < 90000 ∧ Byt bs ∧ Q (.tup [match opX bs with | some _ => .non | none => tI (inL bs), optD (opX bs)]) M
theorem d_law_number_at {CB : Addr} (F : Df K mg "_law_number_at" s_law_number_at ["data", "place"]) (hCB : mg "BadBytes" = some (.ref CB)) (hex : PySem.W.exmOne K (.ref CB) (.ref CB) = some true) (T : XfC K CB) (hno : PySem.W.findIn K (.ref CB) "place" = some none)
    (C1 : CalX P w K mg base 5 "read_number" 2 (S_read_number CB)) : Cal P w K mg base 6 "_law_number_at" 2 S_number_at := by
  refine dfn' F sc_law_number_at rfl fun f cdv A outer s H E ds M Q hr hl hs => ?_
  obtain ⟨bs, pl, rfl, hpl, hz, hb, q⟩ := hs
  have nd := sc_law_number_at.nd
  refine wss_cons (ws_asg (EE.to (ee_tup (ea_cons ee_non (ea_cons ee_non ea_nil))) ⟨_, _, wg_tup rfl (wgs_cons (wg_name 2 nd) (wgs_cons (wg_name 3 nd) wgs_nil)), ?_⟩))
  refine wss_cons (ws_try_as 4 (QX := fun C fs sg' M' => C = CB ∧ ∃ i b0, badL bs pl = some i ∧ fs = plc i ∧ sg' = [some (tI bs), some (.int (pl : Int)), some .non, some .non, none] ∧ M' = M.rb b0) nd ⟨rfl, by decide, .inl hCB⟩ takes0 (fun b0 pn xe o ps => wss_one (ws_set 2 nd (we_callX C1 (hr.mono (by omega)) o (EA.to (ea_cons (ee_v 0 rfl) (ea_cons (ee_v 1 rfl) ea_nil)) ⟨rfl, fun b1 => ⟨bs, pl, rfl, hpl, hz, hb, fun i hi => ⟨rfl, i, b0, hi, rfl, rfl, rfl⟩, fun hi => ?_⟩⟩)))) (fun C fs sg' M' ⟨e1, i, b0, hi, e2, e3, e4⟩ => ?_))
  · show WSs _ _ _ M _
    refine wss_one (ws_ret (EE.to (ee_tup (ea_cons (ee_v 2 rfl) (ea_cons (ee_v 3 rfl) ea_nil))) ?_))
    rw [hi] at q
    exact q
  · subst e1; subst e2; subst e3; subst e4
    refine ⟨hex, fun a dd oe pn hz hf hd => ?_⟩
    refine wss_one (ws_set 3 nd (we_xf T hno hz hf updM_same rfl (ee_v 4 rfl) ?_))
    refine wss_dropX (dd := dd) updM_same ?_
    rw [updM_upd]
    have e : updM ((M.rb b0).rb M.b) dd none = M := updM_id hd
    rw [e]
    refine wss_one (ws_ret (EE.to (ee_tup (ea_cons (ee_v 2 rfl) (ea_cons (ee_v 3 rfl) ea_nil))) ?_))
    rw [hi] at q
    exact q
theorem d_law_read {CB fo : Addr} (F : Df K mg "_law_read" s_law_read ["read", "data"]) (hCB : mg "BadBytes" = some (.ref CB)) (hex : PySem.W.exmOne K (.ref CB) (.ref CB) = some true) (T : XfC K CB) (hfo : mg "opened" = some (.ref fo)) (hno : PySem.W.findIn K (.ref CB) "place" = some none)
    (C1 : CalX P w K mg base 6 "opened" 1 (S_opened CB)) : Cal P w K mg base 7 "_law_read" 2 (S_law_read fo) := by
  refine dfn' F sc_law_read rfl fun f cdv A outer s H E ds M Q hr hl hs => ?_
  obtain ⟨bs, rfl, hz, hb, q⟩ := hs
  have nd := sc_law_read.nd
  refine wss_cons (ws_asg (EE.to (ee_tup (ea_cons ee_non (ea_cons ee_non ea_nil))) ⟨_, _, wg_tup rfl (wgs_cons (wg_name 2 nd) (wgs_cons (wg_name 3 nd) wgs_nil)), ?_⟩))
  refine wss_cons (ws_try_as 4 (QX := fun C fs sg' M' => C = CB ∧ ∃ i b0, opX bs = some i ∧ fs = plc i ∧ sg' = [some (.ptr fo), some (tI bs), some .non, some .non, none] ∧ M' = M.rb b0) nd ⟨rfl, by decide, .inl hCB⟩ takes0 (fun b0 pn xe o ps => wss_one (ws_set 2 nd (we_callXL 0 C1 hfo hr o rfl (EA.to (ea_cons (ee_v 1 rfl) ea_nil) ⟨rfl, fun b1 => ⟨bs, rfl, hz, hb, fun i hi => ⟨rfl, i, b0, hi, rfl, rfl, rfl⟩, fun hi => ?_⟩⟩)))) (fun C fs sg' M' ⟨e1, i, b0, hi, e2, e3, e4⟩ => ?_))
  · show WSs _ _ _ M _
    refine wss_one (ws_ret (EE.to (ee_tup (ea_cons (ee_v 2 rfl) (ea_cons (ee_v 3 rfl) ea_nil))) ?_))
    rw [hi] at q
    exact q
  · subst e1; subst e2; subst e3; subst e4
    refine ⟨hex, fun a dd oe pn hz hf hd => ?_⟩
    refine wss_one (ws_set 3 nd (we_xf T hno hz hf updM_same rfl (ee_v 4 rfl) ?_))
    refine wss_dropX (dd := dd) updM_same ?_
    rw [updM_upd]
    have e : updM ((M.rb b0).rb M.b) dd none = M := updM_id hd
    rw [e]
    refine wss_one (ws_ret (EE.to (ee_tup (ea_cons (ee_v 2 rfl) (ea_cons (ee_v 3 rfl) ea_nil))) ?_))
    rw [hi] at q
    exact q
end
end K18
set_option Elab.async false
set_option linter.all false
set_option maxRecDepth 100000
set_option maxHeartbeats 4000000
namespace K18
open PySem L2 PyProof.Rows DL
/-! ### the law's body: numbers -/
abbrev NL : List Str := ["script", "box", "turn", "number", "head", "tail", "k", "plain", "some", "byte", "data", "told", "bad", "due", "inside", "whole", "cuts", "step", "other"]
structure CL (P : Program) (w : World) (K : PySem.W.Frag) (mg : Str → Option Value) (base : Heap) (CB fo : Addr) : Prop where
  B : Blt mg
  C : Cn mg
  box : Cal P w K mg base 1 "_law_box" 1 S_box
  draw : Cal P w K mg base 2 "_law_draw" 2 S_draw
  same : Cal P w K mg base 3 "_law_same" 2 (S_same 3)
  lnumber : Cal P w K mg base 1 "_law_number" 1 S_nbytes
  lcheck : Cal P w K mg base 1 "_law_check" 1 S_check_of
  lseal : Cal P w K mg base 2 "_law_seal" 1 S_sealed
  lread : Cal P w K mg base 7 "_law_read" 2 (S_law_read fo)
  lnat : Cal P w K mg base 6 "_law_number_at" 2 S_number_at
  lbad : Cal P w K mg base 1 "_law_bad" 2 S_law_bad
  nbytes : Cal P w K mg base 2 "number_bytes" 1 S_nbytes
  check : Cal P w K mg base 1 "check_of" 1 S_check_of
  sealed : Cal P w K mg base 3 "sealed" 1 S_sealed
  readn : CalX P w K mg base 5 "read_number" 2 (S_read_number CB)
  opened : CalX P w K mg base 6 "opened" 1 (S_opened CB)
  hfo : mg "opened" = some (.ref fo)
abbrev XL (P : Program) (w : World) (K : PySem.W.Frag) (mg : Str → Option Value) (base : Heap) (f : Addr) (cdv : Value) (A : Around) (outer : List Env) (s : Shared) (H : Hp) (E : XK) : Cx := (cxOf CX0 P w K mg base NL "law" (defScope s_law) f cdv A outer s H E).nox
def forBody : Stmt → List Stmt
  | .For _ _ b _ _ => b
  | _ => []
abbrev turnB : List Stmt := forBody ((defBody s_law).getD 2 (.Pass ⟨0, 0, 0, 0⟩))
theorem out0 {X : Cx} {b : Base} : Out X b (fun _ _ _ _ => False) := ⟨_, takes0, fun cls d σ H' px => by
  obtain ⟨_, _, _, _, _, _, _, _, _, _, _, _, _, _, _, z⟩ := px
  exact z⟩
section
variable {P : Program} {w : World} {K : PySem.W.Frag} {mg : Str → Option Value} {base : Heap} {CB fo : Addr} {f : Addr} {cdv : Value} {A : Around} {outer : List Env} {s : Shared} {H : Hp} {E : XK} {sg : Sg} {M : Mem} {pos pos' : Pos}
theorem ee_same {a b : Expr} {x y : D} (L : CL P w K mg base CB fo) (hr : Room 7 (XL P w K mg base f cdv A outer s H E).A) (ha : EE (XL P w K mg base f cdv A outer s H E) a sg M x) (hb : EE (XL P w K mg base f cdv A outer s H E) b sg M y) (hx : wf 900 3 x = true) (hy : wf 900 3 y = true) (na : nst a = true := by rfl) (nb : nst b = true := by rfl) : EE (XL P w K mg base f cdv A outer s H E) (.Call (.Name "_law_same" pos) [a, b] [] pos') sg M (.bl (eqD x y)) :=
  we_call L.same (hr.mono (by omega)) (EA.to (ea_cons ha (ea_cons hb ea_nil (hs := star1 nb)) (hs := star1 na)) ⟨rfl, x, y, rfl, hx, hy, rfl, rfl⟩) (he := star1 na) (hpl := starN (by show (nst b && true) = true; rw [nb]; rfl))
theorem a_draw {a : Expr} {m : Int} {Q : D → Mem → Prop} {p c : Addr} {p1 p2 p4 : Pos} (L : CL P w K mg base CB fo) (hr : Room 7 (XL P w K mg base f cdv A outer s H E).A) (hs : sg[1]? = some (some (.ptr p))) (ha : EE (XL P w K mg base f cdv A outer s H E) a sg M (.int m)) (hB : Bx M p c) (h0 : 0 < m) (h1 : m < 1000000000) (q : ∀ r M', 0 ≤ r → r < m → Bx M' p c → Els M M' p c → Q (.int r) M') (na : nst a = true := by rfl) :
    WE (XL P w K mg base f cdv A outer s H E) (.Call (.Name "_law_draw" p1) [.Name "box" p2, a] [] p4) sg M Q :=
  we_call L.draw (hr.mono (by omega)) (EA.to (ea_cons (ee_v 1 hs) (ea_cons ha ea_nil (hs := star1 na))) ⟨rfl, p, c, m, rfl, hB, h0, h1, q⟩) (hpl := starN (by show (nst a && true) = true; rw [na]; rfl))
theorem a_bytes {elt cnt : Expr} {scope : Scope} {m : Int} {p c : Addr} {p1 p2 p3 p4 : Pos} (L : CL P w K mg base CB fo) (hm : m ≤ 1000) (hcnt : WE (XL P w K mg base f cdv A outer s H E) cnt sg M (fun d M1 => ∃ r, d = .int r ∧ 0 ≤ r ∧ r < m ∧ Bx M1 p c))
    (helt : ∀ v M1, Bx M1 p c → Blk (XL P w K mg base f cdv A outer s H E) scope fun Y => WE Y elt ((wipeD sg [6]).set 6 (some v)) M1 (fun d M2 => ∃ b, d = .int b ∧ 0 ≤ b ∧ b < 256 ∧ Bx M2 p c))
    (ok : BlkOk (XL P w K mg base f cdv A outer s H E).N (XL P w K mg base f cdv A outer s H E).env.scope scope [("k", 6)]) (hk : scope.names.lookup ("k" : Str) = some .local ∨ scope.names.lookup ("k" : Str) = some .cell) (nc : nst cnt = true) :
    WE (XL P w K mg base f cdv A outer s H E) (.Call (.Name "tuple" p1) [.ListComp elt [⟨.Name "k" p2, .Call (.Name "range" p3) [cnt] [] p4, [], 0⟩] scope pos] [] pos') sg M (fun d M2 => ∃ bs : List Int, d = tI bs ∧ Byt bs ∧ (bs.length : Int) < m ∧ Bx M2 p c) := by
  have nd := sc_law.nd
  refine we_ct call_tuple_of L.B.tuple bi_tuple (wa_cons (we_lc [("k", 6)] rfl nd ok (Qi := fun ds C M0 => ∃ r : Int, ds = rngD 0 r.toNat ∧ 0 ≤ r ∧ r < m ∧ (∀ M, C M) ∧ Bx M0 p c) (wi_rng1 L.B.range (wa_cons (hcnt.imp fun d M1 ⟨r, e, r0, r1, hB⟩ => wa_nil ⟨r, by rw [e], by omega, by omega, r, rfl, r0, r1, fun _ => trivial, hB⟩) (hs := star1 nc)) (hs := star1n nc)) (fun ds C M0 ⟨r, e1, r0, r1, hC, hB⟩ => ?_) (Nat.zero_le _)))
  subst e1
  refine ⟨fun i acc M1 => i ≤ r.toNat ∧ ∃ bs : List Int, acc = bs.map .int ∧ bs.length = i ∧ Byt bs ∧ Bx M1 p c, ⟨Nat.zero_le _, [], rfl, rfl, fun b hb => (by cases hb), hB⟩, fun i acc M1 ⟨hi, bs, e, hl, _⟩ => ⟨hC _, lt1000 (by rw [e, List.length_map]; omega)⟩, fun i d acc M1 hd ⟨hi, bs, e, hl, hb, hB⟩ => ?_, fun acc M1 ⟨hi, bs, e, hl, hb, hB⟩ => ?_⟩
  · obtain ⟨hj, rfl⟩ := rngD_at hd
    refine turn1 6 (List.mem_singleton.mpr rfl) nd hk rfl (fun b M2 => b = true ∧ Bx M2 p c) (fun _ _ _ _ _ => ⟨rfl, hB⟩) (fun M2 ⟨_, hB⟩ => ?_) (fun M2 ⟨e, _⟩ => Bool.noConfusion e)
    intro s H C cl fp
    refine (helt _ M2 hB s H C cl fp).imp fun d M3 ⟨b, e2, b0, b1, hB3⟩ => ?_
    subst e; subst e2
    refine ⟨by omega, bs ++ [b], by rw [List.map_append]; rfl, by rw [List.length_append, hl]; rfl, fun x hx => ?_, hB3⟩
    rcases List.mem_append.mp hx with hx | hx
    · exact hb x hx
    · rw [List.mem_singleton.mp hx]; exact ⟨b0, b1⟩
  · subst e
    rw [rngD_len] at hl
    exact wa_nil (cd_tupL (.inl rfl) ⟨bs, rfl, hb, by omega, hB⟩)
end
end K18
set_option Elab.async false
set_option linter.all false
set_option maxRecDepth 100000
set_option maxHeartbeats 4000000
namespace K18
open PySem L2 PyProof.Rows DL
theorem at4 {r : Int} {a b c d : D} (r0 : 0 ≤ r) (r1 : r < 4) : ∃ x, atI [a, b, c, d] r = some x ∧ (x = a ∨ x = b ∨ x = c ∨ x = d) := by
  have : r = 0 ∨ r = 1 ∨ r = 2 ∨ r = 3 := by omega
  rcases this with rfl | rfl | rfl | rfl
  · exact ⟨a, rfl, .inl rfl⟩
  · exact ⟨b, rfl, .inr (.inl rfl)⟩
  · exact ⟨c, rfl, .inr (.inr (.inl rfl))⟩
  · exact ⟨d, rfl, .inr (.inr (.inr rfl))⟩
theorem at3 {r : Int} {a b c : D} (r0 : 0 ≤ r) (r1 : r < 3) : ∃ x, atI [a, b, c] r = some x ∧ (x = a ∨ x = b ∨ x = c) := by
  have : r = 0 ∨ r = 1 ∨ r = 2 := by omega
  rcases this with rfl | rfl | rfl
  · exact ⟨a, rfl, .inl rfl⟩
  · exact ⟨b, rfl, .inr (.inl rfl)⟩
  · exact ⟨c, rfl, .inr (.inr rfl)⟩
theorem wf_lI {L n : Nat} {ps : List Int} (h : ps.length ≤ L) : wf L (n + 2) (.lst (ps.map .int)) = true := Bool.and_eq_true_iff.mpr ⟨decide_eq_true (by rw [List.length_map]; exact h), List.all_eq_true.mpr fun d hd => by
  obtain ⟨p, _, rfl⟩ := List.mem_map.mp hd
  rfl⟩
theorem byt_app {a b : List Int} (ha : Byt a) (hb : Byt b) : Byt (a ++ b) := fun x hx => (List.mem_append.mp hx).elim (ha x) (hb x)
theorem byt_nb {n : Nat} (h : n < 256 ^ 60) : Byt (nb n) := by
  intro b hb
  rcases List.mem_cons.mp hb with hb | hb
  · have := dg_small 60 64 n h
    rw [hb]; omega
  · exact (dg_facts 64 n (Nat.lt_of_lt_of_le h (by decide))).2.1 b hb
theorem nb_len60 {n : Nat} (h : n < 256 ^ 60) : (nb n).length ≤ 61 := by
  have := dg_small 60 64 n h
  rw [nb_len64]; omega
theorem got_nb {n : Nat} (h : n < 256 ^ 60) {hs ts : List Int} (h1 : Byt hs) (h2 : Byt ts) : badL (hs ++ nb n ++ ts) hs.length = none ∧ gotL (hs ++ nb n ++ ts) hs.length = .tup [.int (n : Int), .int ((hs.length : Int) + ((nb n).length : Int))] := by
  obtain ⟨r1, r2, r3⟩ := read_nb h hs ts
  have hb : Byt (hs ++ nb n ++ ts) := byt_app (byt_app h1 (byt_nb h)) h2
  refine ⟨r1, ?_⟩
  rw [got0 hb r1, r3, r2, (dg_facts 64 n (Nat.lt_of_lt_of_le h (by decide))).1, nb_len64]
  congr 3
  congr 1
  omega
section
variable {P : Program} {w : World} {K : PySem.W.Frag} {mg : Str → Option Value} {base : Heap} {CB fo : Addr} {f : Addr} {cdv : Value} {A : Around} {outer : List Env} {s : Shared} {H : Hp} {E : XK} {sg : Sg} {M : Mem} {pos pos' : Pos}
/-- a number, written and read back -/
theorem a_turn1 {ED : EndsD} {p c : Addr} (L : CL P w K mg base CB fo) (hr : Room 7 (XL P w K mg base f cdv A outer s H E).A) (hB : Bx M p c) {tn : Int}
    (q : ∀ (n : Nat) (hs ts : List Int) (M1 : Mem), n < 256 ^ 60 → Byt hs → Byt ts → hs.length ≤ 2 → ts.length ≤ 2 → Bx M1 p c → WSs (XL P w K mg base f cdv A outer s H E) (turnB.drop 4) [none, some (.ptr p), some (.int tn), some (.int (n : Int)), some (tI hs), some (tI ts), none, some (.lst ((nb n).map .int)), none, none, none, none, none, none, none, none, none, none, none] M1 ED) :
    WSs (XL P w K mg base f cdv A outer s H E) turnB [none, some (.ptr p), some (.int tn), none, none, none, none, none, none, none, none, none, none, none, none, none, none, none, none] M ED := by
  have nd := sc_law.nd
  have B := L.B
  refine wss_cons (ws_set 3 nd (we_op op_mul (Qa := fun d M1 => ∃ r : Int, d = .int r ∧ 0 ≤ r ∧ r < 9999999 ∧ Bx M1 p c) (we_call L.draw (hr.mono (by omega)) (wa_cons (EE.to (ee_v 1 rfl) (wa_cons (we_ix ix_tup (Qa := fun d M1 => d = .tup [.int 3, .int 300, .int 70000, .int 9999999] ∧ M1 = M) (ee_tup (ea_cons ee_int (ea_cons ee_int (ea_cons ee_int (ea_cons ee_int ea_nil))))) fun x M1 ⟨e1, e2⟩ => ?_))))) fun x M1 ⟨r, e1, r0, r1, hB⟩ => ?_))
  · subst e1; subst e2
    refine a_draw L hr rfl ee_int hB (by decide) (by decide) fun r M2 r0 r1 hB2 _ => ?_
    obtain ⟨x, hx, hx2⟩ := at4 (a := .int 3) (b := .int 300) (c := .int 70000) (d := .int 9999999) r0 r1
    refine od_ixT hx (wa_nil ⟨rfl, ?_⟩)
    have : ∃ m : Int, x = .int m ∧ 0 < m ∧ m ≤ 9999999 := by
      rcases hx2 with h | h | h | h <;> exact ⟨_, h, by decide, by decide⟩
    obtain ⟨m, rfl, m0, m1⟩ := this
    exact ⟨p, c, m, rfl, hB2, m0, by omega, fun r M3 r0 r1 hB3 _ => ⟨r, rfl, r0, by omega, hB3⟩⟩
  subst e1
  refine we_if (wt_cmp op_eq (Qa := fun d M2 => ∃ r2 : Int, d = .int r2 ∧ Bx M2 p c) (a_draw L hr rfl ee_int hB (by decide) (by decide) fun r2 M2 _ _ hB2 _ => ⟨r2, rfl, hB2⟩) fun x M2 ⟨r2, e2, hB2⟩ => ?_)
  subst e2
  have fin : ∀ (b : Int) (M3 : Mem), 0 ≤ b → b ≤ 1237940039285380274899124224 → Bx M3 p c → WSs (XL P w K mg base f cdv A outer s H E) (turnB.drop 1) [none, some (.ptr p), some (.int tn), some (.int (r * b)), none, none, none, none, none, none, none, none, none, none, none, none, none, none, none] M3 ED := fun b M3 b0 b1 hB3 => by
    have hn0 : 0 ≤ r * b := Int.mul_nonneg r0 b0
    have hn1 : r * b ≤ 9999999 * 1237940039285380274899124224 := Int.mul_le_mul (by omega) b1 b0 (by decide)
    obtain ⟨n, hn⟩ : ∃ n : Nat, r * b = (n : Int) := ⟨(r * b).toNat, by omega⟩
    rw [hn] at hn1 ⊢
    have hn2 : n < 256 ^ 60 := Nat.lt_of_le_of_lt (show n ≤ 9999999 * 1237940039285380274899124224 by omega) (by decide)
    have cnt : ∀ {sg : Sg} {M : Mem} {p1 p2 p3 p4 : Pos} {j : Nat}, sg[1]? = some (some (.ptr p)) → Bx M p c → WE (XL P w K mg base f cdv A outer s H E) (.Call (.Name "_law_draw" p1) [.Name "box" p2, .Constant (.int 3) j p3] [] p4) sg M (fun d M1 => ∃ r, d = .int r ∧ 0 ≤ r ∧ r < 3 ∧ Bx M1 p c) := fun hs hB => a_draw L hr hs ee_int hB (by decide) (by decide) fun r M1 r0 r1 hB1 _ => ⟨r, rfl, r0, r1, hB1⟩
    refine wss_cons (ws_par 4 5 rfl nd (wa_cons ((a_bytes L (by decide) (cnt rfl hB3) (fun v M4 hB4 s H C cl fp => we_call L.draw (hr.mono (by omega)) (EA.to (ea_cons (ee_v 1 rfl) (ea_cons ee_int ea_nil)) ⟨rfl, p, c, 256, rfl, hB4, by decide, by decide, fun r M5 r0 r1 hB5 _ => ⟨r, rfl, r0, r1, hB5⟩⟩)) (blkOk_by (by with_unfolding_all rfl)) (.inl rfl) rfl).imp fun d M4 ⟨hs, e, h1, h2, hB4⟩ => wa_cons ((a_bytes L (by decide) (cnt rfl hB4) (fun v M4 hB4 s H C cl fp => we_call L.draw (hr.mono (by omega)) (EA.to (ea_cons (ee_v 1 rfl) (ea_cons ee_int ea_nil)) ⟨rfl, p, c, 256, rfl, hB4, by decide, by decide, fun r M5 r0 r1 hB5 _ => ⟨r, rfl, r0, r1, hB5⟩⟩)) (blkOk_by (by with_unfolding_all rfl)) (.inl rfl) rfl).imp fun d2 M5 ⟨ts, e2, h3, h4, hB5⟩ => wa_nil ⟨d, d2, rfl, ?_⟩))))
    subst e; subst e2
    refine wss_cons (ws_set 7 nd (we_call L.lnumber (hr.mono (by omega)) (EA.to (ea_cons (ee_v 3 rfl) ea_nil) ⟨rfl, n, rfl, Nat.lt_of_lt_of_le hn2 (by decide), ?_⟩)))
    obtain ⟨g1, g2⟩ := got_nb hn2 h1 h3
    have l60 := nb_len60 hn2
    have byt : Byt (hs ++ nb n ++ ts) := byt_app (byt_app h1 (byt_nb hn2)) h3
    have z1 : hs.length ≤ 2 := by omega
    have z2 : ts.length ≤ 2 := by omega
    have lall : (hs ++ nb n ++ ts).length ≤ 65 := by rw [List.length_append, List.length_append]; omega
    refine wss_cons (ws_ifE (k := false) (ET.is (et_not (et_val (ee_same L hr (x := .tup [.lst ((nb n).map .int), gotL (hs ++ nb n ++ ts) hs.length]) (y := .tup [.lst ((nb n).map .int), .tup [.int (n : Int), .int ((hs.length : Int) + ((nb n).length : Int))]]) (ee_tup (ea_cons (we_call L.nbytes (hr.mono (by omega)) (EA.to (ea_cons (ee_v 3 rfl) ea_nil) ⟨rfl, n, rfl, Nat.lt_of_lt_of_le hn2 (by decide), rfl, rfl⟩)) (ea_cons (we_callX L.readn (hr.mono (by omega)) out0 (EA.to (ea_cons (EE.is (d' := tI (hs ++ nb n ++ ts)) (ee_op op_catA (ee_op op_catA (ee_v 4 rfl) (ee_ct call_tuple_of B.tuple bi_tuple (ea_cons (ee_v 7 rfl) ea_nil) (cd_tupL (.inl rfl) ⟨rfl, rfl⟩)) (od_catT ?_ ⟨rfl, rfl⟩)) (ee_v 5 rfl) (od_catT ?_ ⟨rfl, rfl⟩)) ?_) (ea_cons (ee_cb call_len B.len bi_len (ea_cons (ee_v 4 rfl) ea_nil) (cd_lenT ⟨rfl, rfl⟩)) ea_nil)) ⟨rfl, fun b0 => ⟨hs ++ nb n ++ ts, hs.length, by rw [List.length_map], by omega, by omega, fun b hb => (byt b hb).1, fun i hi => ?_, fun _ => ⟨rfl, rfl⟩⟩⟩)) ea_nil))) (ee_tup (ea_cons (ee_v 7 rfl) (ea_cons (EE.is (d' := .tup [.int (n : Int), .int ((hs.length : Int) + ((nb n).length : Int))]) (ee_tup (ea_cons (ee_v 3 rfl) (ea_cons (ee_add (ee_cb call_len B.len bi_len (ea_cons (ee_v 4 rfl) ea_nil) (cd_lenT ⟨rfl, rfl⟩)) (ee_cb call_len B.len bi_len (ea_cons (ee_v 7 rfl) ea_nil) (cd_lenL (.inl rfl) ⟨rfl, rfl⟩))) ea_nil))) ?_) ea_nil))) ?_ ?_))) ?_) (fun h => Bool.noConfusion h) fun _ => wss_nil (q n hs ts M5 hn2 h1 h3 z1 z2 hB5))
    · rw [List.length_map, List.length_map]
      exact Nat.le_trans (show _ ≤ 1000 by omega) (by decide)
    · rw [List.length_append, List.length_map, List.length_map, List.length_map]
      exact Nat.le_trans (show _ ≤ 1000 by omega) (by decide)
    · simp only [tI, List.map_append]
    · rw [g1] at hi; cases hi
    · rw [List.length_map, List.length_map]
    · rw [g2]
      refine tup_wf (Nat.le_of_ble_eq_true rfl) fun d hd => ?_
      rcases List.mem_cons.mp hd with rfl | hd
      · exact wf_lI (by omega)
      · rw [List.mem_singleton.mp hd]
        rfl
    · refine tup_wf (Nat.le_of_ble_eq_true rfl) fun d hd => ?_
      rcases List.mem_cons.mp hd with rfl | hd
      · exact wf_lI (by omega)
      · rw [List.mem_singleton.mp hd]
        rfl
    · rw [g2, eqD_iff.mpr rfl]
      rfl
  refine EE.to ee_int (od_eqI ⟨_, rfl, fun _ => EE.to ee_int ?_, fun _ => EE.to ee_int ?_⟩)
  · exact od_I (.inl ⟨by omega, by omega⟩) (fin _ _ (by decide) (by decide) hB2)
  · exact od_I (.inl ⟨by omega, by omega⟩) (fin _ _ (by decide) (by decide) hB2)
end
end K18
set_option Elab.async false
set_option linter.all false
set_option maxRecDepth 100000
set_option maxHeartbeats 4000000
namespace K18
open PySem L2 PyProof.Rows DL
theorem byt_sub {a b : List Int} (h : Byt b) (s : ∀ x ∈ a, x ∈ b) : Byt a := fun x hx => h x (s x hx)
theorem byt_cons {a : Int} {b : List Int} (h : 0 ≤ a ∧ a < 256) (hb : Byt b) : Byt (a :: b) := fun x hx => (List.mem_cons.mp hx).elim (fun e => by rw [e]; exact h) (hb x)
theorem byt_nil : Byt [] := fun x hx => by cases hx
theorem byt_take {b : List Int} (n : Nat) (h : Byt b) : Byt (b.take n) := fun x hx => h x (List.mem_of_mem_take hx)
theorem byt_drop {b : List Int} (n : Nat) (h : Byt b) : Byt (b.drop n) := fun x hx => h x (List.mem_of_mem_drop hx)
theorem byt_rep {a : Int} (n : Nat) (h : 0 ≤ a ∧ a < 256) : Byt (List.replicate n a) := fun x hx => by rw [(List.mem_replicate.mp hx).2]; exact h
abbrev dataB : List Stmt := forBody (turnB.getD 6 (.Pass ⟨0, 0, 0, 0⟩))
section
variable {P : Program} {w : World} {K : PySem.W.Frag} {mg : Str → Option Value} {base : Heap} {CB fo : Addr} {f : Addr} {cdv : Value} {A : Around} {outer : List Env} {s : Shared} {H : Hp} {E : XK} {sg : Sg} {M : Mem} {pos pos' : Pos}
/-- one of the bytes that are looked at -/
theorem a_data {ED : EndsD} {bs hs : List Int} (o1 o2 o9 : Option D) (L : CL P w K mg base CB fo) (hr : Room 7 (XL P w K mg base f cdv A outer s H E).A) (hb : Byt bs) (hz : bs.length < 800) (hz2 : hs.length < 800)
    (q : ∀ (a b c : D), ED.nx [none, o1, o2, none, some (tI hs), none, none, none, none, o9, some (tI bs), some a, some b, some c, none, none, none, none, none] M) :
    WSs (XL P w K mg base f cdv A outer s H E) dataB [none, o1, o2, none, some (tI hs), none, none, none, none, o9, some (tI bs), none, none, none, none, none, none, none, none] M ED := by
  have nd := sc_law.nd
  have B := L.B
  have lm : (bs.map D.int).length = bs.length := List.length_map _
  have lh : (hs.map D.int).length = hs.length := List.length_map _
  have emin : ∀ {sg : Sg} {p1 p2 p3 p4 p5 p6 p7 pos : Pos}, sg[4]? = some (some (tI hs)) → sg[10]? = some (some (tI bs)) → EE (XL P w K mg base f cdv A outer s H E) (.Call (.Name "min" p1) [.Call (.Name "len" p2) [.Name "head" p3] [] p4, .Call (.Name "len" p5) [.Name "data" p6] [] p7] [] pos) sg M (.int ((min hs.length bs.length : Nat) : Int)) := fun h1 h2 => EE.is (ee_cb (call_min2 rfl) B.min bi_min (ea_cons (ee_cb call_len B.len bi_len (ea_cons (ee_v 4 h1) ea_nil) (cd_lenT ⟨rfl, rfl⟩)) (ea_cons (ee_cb call_len B.len bi_len (ea_cons (ee_v 10 h2) ea_nil) (cd_lenT ⟨rfl, rfl⟩)) ea_nil)) (cd_min2 ⟨rfl, rfl⟩)) (by
    rw [lm, lh]
    congr 1
    split <;> omega)
  refine wss_cons (ws_asg (we_call L.lnat (hr.mono (by omega)) (EA.to (ea_cons (ee_v 10 rfl) (ea_cons (emin rfl rfl) ea_nil)) ⟨rfl, bs, min hs.length bs.length, rfl, by omega, by omega, fun b hb2 => (hb b hb2).1, ?_⟩)))
  refine ⟨_, _, wg_tup rfl (wgs_cons (wg_name 11 nd) (wgs_cons (wg_name 12 nd) wgs_nil)), ?_⟩
  generalize hpl : min hs.length bs.length = pl at emin ⊢
  refine wss_cons (ws_set 13 nd (we_call L.lbad (hr.mono (by omega)) (EA.to (ea_cons (ee_v 10 rfl) (ea_cons (emin rfl rfl) ea_nil)) ⟨rfl, bs, pl, rfl, ?_⟩)))
  cases hbad : badL bs pl with
  | some i =>
    refine wss_one (ws_ifE (k := false) (ET.is (ww_pt (ew_or (et_not (et_val (ee_same L hr (x := .int i) (y := .int i) (ee_v 12 rfl) (ee_v 13 rfl) rfl rfl))) fun _ => ww_or1 (ww_pt (ew_and (q := false) (et_cmp op_isN (ee_v 13 rfl) ee_non (od_isN ⟨_, rfl, rfl, rfl⟩)) fun h => Bool.noConfusion h)))) ?_) (fun h => Bool.noConfusion h) fun _ => wss_nil (q _ _ _))
    rw [eqD_iff.mpr rfl]
    rfl
  | none =>
    obtain ⟨b1, b2, b3⟩ := back hb hbad
    obtain ⟨e1, e2, e3, e4, e5, e6⟩ := digL_eq hbad
    have b0 : 0 ≤ bs.getD pl 0 := by
      rw [DL.getD_at e3]
      exact (hb _ (List.getElem_mem e3)).1
    have eg := got0 hb hbad
    have hn : (valL (digL bs pl)).toNat < 256 ^ 60 := by omega
    generalize (valL (digL bs pl)).toNat = n at eg hn b3
    generalize hm : (bs.getD pl 0).toNat = m at eg b3
    have ln := nb_len64 n
    have lb : (nb n).length ≤ 61 := nb_len60 hn
    refine wss_one (ws_ifE (k := false) (ET.is (ww_pt (ew_or (et_not (et_val (ee_same L hr (x := .non) (y := .non) (ee_v 12 rfl) (ee_v 13 rfl) rfl rfl))) fun _ => ww_or1 (ww_pt (ew_and (et_cmp op_isN (ee_v 13 rfl) ee_non (od_isN ⟨_, rfl, rfl, rfl⟩)) fun h => ww_and1 (et_cmp (op_neD hr.units) (ee_ct call_tuple_of B.tuple bi_tuple (ea_cons (we_call L.lnumber (hr.mono (by omega)) (EA.to (ea_cons (ee_ix ix_tup (ee_v 11 (d := .tup [.int (n : Int), .int ((pl + 1 + m : Nat) : Int)]) (by rw [← eg]; rfl)) ee_int (od_ixT rfl ⟨rfl, rfl⟩)) ea_nil) ⟨rfl, n, rfl, Nat.lt_of_lt_of_le hn (by decide), rfl, rfl⟩)) ea_nil) (cd_tupL (.inl rfl) ⟨rfl, rfl⟩)) (EE.is (d' := tI (nb n)) (ee_sl sl_tupA (ee_v 10 rfl) (eo_some (emin rfl rfl)) (eo_some (ee_ix ix_tup (ee_v 11 (d := .tup [.int (n : Int), .int ((pl + 1 + m : Nat) : Int)]) (by rw [← eg]; rfl)) ee_int (od_ixT rfl ⟨rfl, rfl⟩))) (sd_tup ⟨rfl, rfl⟩)) ?_) (od_neD (d := toPy (tI (nb n))) (e := toPy (tI (nb n))) (.inl ⟨pl_tI _, rfl⟩) (.inl ⟨pl_tI _, rfl⟩) (shaped_ints _) (shaped_ints _) ⟨_, rfl, rfl, rfl⟩)))))) ?_) (fun h => Bool.noConfusion h) fun _ => wss_nil (q _ _ _))
    · rw [tI_cut, b3]
      congr 2
      congr 1
      omega
    · rw [eqv_tI, eqD_iff.mpr rfl]
      simp
end
end K18
set_option Elab.async false
set_option linter.all false
set_option maxRecDepth 100000
set_option maxHeartbeats 4000000
namespace K18
open PySem L2 PyProof.Rows DL
section
variable {P : Program} {w : World} {K : PySem.W.Frag} {mg : Str → Option Value} {base : Heap} {CB fo : Addr} {f : Addr} {cdv : Value} {A : Around} {outer : List Env} {s : Shared} {H : Hp} {E : XK} {sg : Sg} {M : Mem} {pos pos' : Pos}
theorem tI_append (a b : List Int) : D.tup (a.map D.int ++ b.map D.int) = tI (a ++ b) := by simp only [tI, List.map_append]
/-- drawn bytes are read, or refused -/
theorem a_turn2 {ED : EndsD} {p c : Addr} {tn : Int} {n : Nat} {hs ts : List Int} (L : CL P w K mg base CB fo) (hr : Room 7 (XL P w K mg base f cdv A outer s H E).A) (hB : Bx M p c) (hn : n < 256 ^ 60) (h1 : Byt hs) (h2 : Byt ts) (z1 : hs.length ≤ 2) (z2 : ts.length ≤ 2)
    (q : ∀ (b : Int) (M1 : Mem), 0 ≤ b → b < 256 → Bx M1 p c → WSs (XL P w K mg base f cdv A outer s H E) (turnB.drop 7) [none, some (.ptr p), some (.int tn), none, none, none, none, none, none, some (.int b), none, none, none, none, none, none, none, none, none] M1 ED) :
    WSs (XL P w K mg base f cdv A outer s H E) (turnB.drop 4) [none, some (.ptr p), some (.int tn), some (.int (n : Int)), some (tI hs), some (tI ts), none, some (.lst ((nb n).map .int)), none, none, none, none, none, none, none, none, none, none, none] M ED := by
  have nd := sc_law.nd
  have B := L.B
  have l60 := nb_len60 hn
  have byt : Byt (hs ++ nb n ++ ts) := byt_app (byt_app h1 (byt_nb hn)) h2
  have lall : (hs ++ nb n ++ ts).length ≤ 65 := by rw [List.length_append, List.length_append]; omega
  refine wss_cons (ws_set 8 nd (we_sl sl_tupA (EE.to (EE.is (d' := tI (hs ++ nb n ++ ts)) (ee_op op_catA (ee_op op_catA (ee_v 4 rfl) (ee_ct call_tuple_of B.tuple bi_tuple (ea_cons (ee_v 7 rfl) ea_nil) (cd_tupL (.inl rfl) ⟨rfl, rfl⟩)) (od_catT ?_ ⟨rfl, rfl⟩)) (ee_v 5 rfl) (od_catT ?_ ⟨rfl, rfl⟩)) ?_) ?_)))
  · rw [List.length_map, List.length_map]
    exact Nat.le_trans (show _ ≤ 1000 by omega) (by decide)
  · rw [List.length_append, List.length_map, List.length_map, List.length_map]
    exact Nat.le_trans (show _ ≤ 1000 by omega) (by decide)
  · simp only [tI, List.map_append]
  refine a_draw L hr rfl ee_int hB (by decide) (by decide) fun r M1 r0 r1 hB1 _ => ⟨r, rfl, ?_⟩
  refine sd_tup ?_
  obtain ⟨j, rfl⟩ : ∃ j : Nat, r = (j : Int) := ⟨r.toNat, by omega⟩
  rw [cut_toN, ← List.map_take]
  have bt := byt_take j byt
  have lt : ((hs ++ nb n ++ ts).take j).length ≤ 65 := by rw [List.length_take]; omega
  generalize (hs ++ nb n ++ ts).take j = so at bt lt
  show WSs _ _ [none, some (.ptr p), some (.int tn), some (.int (n : Int)), some (tI hs), some (tI ts), none, some (.lst ((nb n).map .int)), some (tI so), none, none, none, none, none, none, none, none, none, none] _ _
  have ls : (so.map D.int).length = so.length := List.length_map _
  refine wss_cons (ws_par 9 6 rfl nd (wa_cons (we_ix ix_tup (Qa := fun d M2 => ∃ a b : Int, d = .tup [.int a, .int b, .int 60, .int 61] ∧ 0 ≤ a ∧ a < 256 ∧ 0 ≤ b ∧ b < 5 ∧ Bx M2 p c) (we_tup (wa_cons (a_draw L hr rfl ee_int hB1 (by decide) (by decide) fun a M2 a0 a1 hB2 _ => wa_cons (a_draw L hr rfl ee_int hB2 (by decide) (by decide) fun b M3 b0 b1 hB3 _ => wa_cons (EE.to ee_int (wa_cons (EE.to ee_int (wa_nil ⟨by exact small30, a, b, rfl, a0, a1, b0, b1, hB3⟩)))))))) fun x M2 ⟨a, b, e, a0, a1, b0, b1, hB2⟩ => ?_)))
  subst e
  refine a_draw L hr rfl ee_int hB2 (by decide) (by decide) fun r M3 r0 r1 hB3 _ => ?_
  obtain ⟨x, hx, hx2⟩ := at4 (a := .int a) (b := .int b) (c := .int 60) (d := .int 61) r0 r1
  refine od_ixT hx ?_
  obtain ⟨by_, rfl, y0, y1⟩ : ∃ m : Int, x = .int m ∧ 0 ≤ m ∧ m < 256 := by
    rcases hx2 with h | h | h | h
    · exact ⟨_, h, a0, a1⟩
    · exact ⟨_, h, b0, by omega⟩
    · exact ⟨_, h, by decide, by decide⟩
    · exact ⟨_, h, by decide, by decide⟩
  refine wa_cons (a_draw L hr rfl (ee_add (ee_cb call_len B.len bi_len (ea_cons (ee_v 8 rfl) ea_nil) (cd_lenT ⟨rfl, rfl⟩)) ee_int) hB3 (by omega) (by rw [ls]; omega) fun k M4 k0 k1 hB4 _ => wa_nil ⟨_, _, rfl, ?_⟩)
  obtain ⟨k, rfl⟩ : ∃ j : Nat, k = (j : Int) := ⟨k.toNat, by omega⟩
  show WSs _ _ [none, some (.ptr p), some (.int tn), some (.int (n : Int)), some (tI hs), some (tI ts), some (.int (k : Int)), some (.lst ((nb n).map .int)), some (tI so), some (.int by_), none, none, none, none, none, none, none, none, none] _ _
  have yb : 0 ≤ by_ ∧ by_ < 256 := ⟨y0, y1⟩
  have ds : ∃ bss : List (List Int), bss = [so, so.take k ++ [by_] ++ so.drop k, [by_] ++ so, [by_, 0] ++ so, [60] ++ List.replicate 60 1, [61] ++ List.replicate 61 1] ∧ ∀ bs ∈ bss, Byt bs ∧ bs.length < 800 := by
    refine ⟨_, rfl, fun bs hbs => ?_⟩
    simp only [List.mem_cons, List.not_mem_nil, or_false] at hbs
    rcases hbs with rfl | rfl | rfl | rfl | rfl | rfl
    · exact ⟨bt, by omega⟩
    · exact ⟨byt_app (byt_app (byt_take _ bt) (byt_cons yb byt_nil)) (byt_drop _ bt), by simp; omega⟩
    · exact ⟨byt_app (byt_cons yb byt_nil) bt, by simp; omega⟩
    · exact ⟨byt_app (byt_cons yb (byt_cons (by decide) byt_nil)) bt, by simp; omega⟩
    · exact ⟨byt_app (byt_cons (by decide) byt_nil) (byt_rep _ (by decide)), by simp⟩
    · exact ⟨byt_app (byt_cons (by decide) byt_nil) (byt_rep _ (by decide)), by simp⟩
  obtain ⟨bss, ebs, hbss⟩ := ds
  refine wss_cons (ws_for PassesOwn.never rfl (Qi := ItQ (bss.map tI) M4) (wi_tup (EE.to (d := .tup (bss.map tI)) (EE.is (ee_tup (ea_cons (ee_v 8 rfl) (ea_cons (ee_op op_catA (ee_op op_catA (ee_sl sl_tupA (ee_v 8 rfl) eo_none (eo_some (ee_v 6 rfl)) (sd_tup ⟨rfl, rfl⟩)) (ee_tup (ea_cons (ee_v 9 rfl) ea_nil)) (od_catT ?_ ⟨rfl, rfl⟩)) (ee_sl sl_tupA (ee_v 8 rfl) (eo_some (ee_v 6 rfl)) eo_none (sd_tup ⟨rfl, rfl⟩)) (od_catT ?_ ⟨rfl, rfl⟩)) (ea_cons (ee_op op_catA (ee_tup (ea_cons (ee_v 9 rfl) ea_nil)) (ee_v 8 rfl) (od_catT ?_ ⟨rfl, rfl⟩)) (ea_cons (ee_op op_catA (ee_tup (ea_cons (ee_v 9 rfl) (ea_cons ee_int ea_nil))) (ee_v 8 rfl) (od_catT ?_ ⟨rfl, rfl⟩)) (ea_cons (ee_op op_catA (ee_tup (ea_cons ee_int ea_nil)) (ee_op op_repT (ee_tup (ea_cons ee_int ea_nil)) ee_int (od_repT (by exact fun h => by cases h) (by decide) (by decide) (by decide) ⟨rfl, rfl⟩)) (od_catT ?_ ⟨rfl, rfl⟩)) (ea_cons (ee_op op_catA (ee_tup (ea_cons ee_int ea_nil)) (ee_op op_repT (ee_tup (ea_cons ee_int ea_nil)) ee_int (od_repT (by exact fun h => by cases h) (by decide) (by decide) (by decide) ⟨rfl, rfl⟩)) (od_catT ?_ ⟨rfl, rfl⟩)) ea_nil))))))) ?_) ⟨_, rfl, rfl, rfl, trivial⟩)) fun ds C M0 ⟨e1, e2, hC⟩ => ?_)
  · rw [cut_toN, List.length_take, ls]
    exact Nat.le_trans (show _ + 1 ≤ 1000 by omega) (by decide)
  · rw [cut_toN, cut_fromN, List.length_append, List.length_take, List.length_drop, ls]
    exact Nat.le_trans (show _ + 1 + _ ≤ 1000 by omega) (by decide)
  · rw [ls]
    exact Nat.le_trans (show 1 + _ ≤ 1000 by omega) (by decide)
  · rw [ls]
    exact Nat.le_trans (show 2 + _ ≤ 1000 by omega) (by decide)
  · exact small30
  · exact small30
  · subst ebs
    rw [cut_toN, cut_fromN, ← List.map_take, ← List.map_drop]
    simp only [List.map_cons, List.map_nil, tI, List.map_append, List.map_replicate]
    rfl
  · subst e1; subst e2
    refine ⟨fun i sg1 M1 => Fg [none, some (.ptr p), some (.int tn), none, some (tI hs), none, none, none, none, some (.int by_), none, none, none, none, none, none, none, none, none] sg1 ∧ M1 = M0, ⟨⟨rfl, rfl, rfl, rfl, trivial⟩, rfl⟩, fun i sg1 M1 ⟨_, e⟩ => by rw [e]; exact hC, fun i d sg1 M1 hd ⟨hg, e⟩ => ?_, fun sg1 M1 ⟨hg, e⟩ => ?_⟩
    · subst e
      have hm := List.mem_of_getElem? hd
      obtain ⟨bs, hbs, rfl⟩ := List.mem_map.mp hm
      obtain ⟨hb, hz⟩ := hbss bs hbs
      refine ⟨_, _, wg_name 10 nd, ?_⟩
      refine wss_fg (fg_set hg 10 (tI bs)) ?_
      exact a_data (some (.ptr p)) (some (.int tn)) (some (.int by_)) L hr hb hz (by omega) fun a b c => ⟨⟨rfl, rfl, rfl, rfl, trivial⟩, rfl⟩
    · subst e
      refine wss_fg (fg_trans ?_ hg) (q by_ M1 y0 y1 hB4)
      exact ⟨rfl, rfl, rfl, trivial⟩
end
end K18
set_option Elab.async false
set_option linter.all false
set_option maxRecDepth 100000
set_option maxHeartbeats 4000000
namespace K18
open PySem L2 PyProof.Rows DL
theorem byt_lst4 (bs : List Int) : Byt (lst4 (chk bs)) := by
  obtain ⟨c0, c1⟩ := chk_range bs
  have h : (chk bs).toNat < 256 ^ 64 := Nat.lt_of_lt_of_le (show (chk bs).toNat < 256 ^ 4 by omega) (by decide)
  unfold lst4
  refine byt_drop _ (byt_app ?_ (dg_facts 64 _ h).2.1)
  exact byt_cons (by decide) (byt_cons (by decide) (byt_cons (by decide) (byt_cons (by decide) byt_nil)))
theorem byt_seal {bs : List Int} (h : Byt bs) (hz : bs.length < 256 ^ 60) : Byt (sealL bs) := byt_app (byt_app (byt_nb hz) h) (byt_lst4 bs)
theorem map_rep (k : Nat) (bs : List Int) : (List.replicate k (bs.map D.int)).flatten = ((List.replicate k bs).flatten).map D.int := by
  rw [List.map_flatten, List.map_replicate]
section
variable {P : Program} {w : World} {K : PySem.W.Frag} {mg : Str → Option Value} {base : Heap} {CB fo : Addr} {f : Addr} {cdv : Value} {A : Around} {outer : List Env} {s : Shared} {H : Hp} {E : XK} {sg : Sg} {M : Mem} {pos pos' : Pos}
/-- bytes sealed and opened -/
theorem a_turn3 {ED : EndsD} {p c : Addr} {tn b : Int} (L : CL P w K mg base CB fo) (hr : Room 7 (XL P w K mg base f cdv A outer s H E).A) (hB : Bx M p c) (t0 : 0 ≤ tn) (t1 : tn < 5)
    (q : ∀ (ins : List Int) (M1 : Mem), Byt ins → ins.length < 500 → Bx M1 p c → WSs (XL P w K mg base f cdv A outer s H E) (turnB.drop 10) [none, some (.ptr p), none, none, none, none, none, none, none, some (.int b), none, none, none, none, none, some (tI (sealL ins)), none, none, none] M1 ED) :
    WSs (XL P w K mg base f cdv A outer s H E) (turnB.drop 7) [none, some (.ptr p), some (.int tn), none, none, none, none, none, none, some (.int b), none, none, none, none, none, none, none, none, none] M ED := by
  have nd := sc_law.nd
  have B := L.B
  refine wss_cons (ws_set 14 nd (we_op op_repA (Qa := fun d M1 => ∃ bs : List Int, d = tI bs ∧ Byt bs ∧ (bs.length : Int) < 13 ∧ Bx M1 p c) (a_bytes (m := 13) L (by decide) (a_draw L hr rfl ee_int hB (by decide) (by decide) fun r M1 r0 r1 hB1 _ => ⟨r, rfl, r0, r1, hB1⟩) (fun v M1 hB1 s H C cl fp => ?_) (blkOk_by (by with_unfolding_all rfl)) (.inl rfl) rfl) fun x M1 ⟨bs, e, h1, h2, hB1⟩ => ?_))
  · refine we_ix ix_tup (Qa := fun d M2 => ∃ a : Int, d = .tup [.int a, .int 0, .int 255] ∧ 0 ≤ a ∧ a < 256 ∧ Bx M2 p c) (we_tup (wa_cons (we_call L.draw (hr.mono (by omega)) (EA.to (ea_cons (ee_v 1 rfl) (ea_cons ee_int ea_nil)) ⟨rfl, p, c, 256, rfl, hB1, by decide, by decide, fun a M2 a0 a1 hB2 _ => wa_cons (EE.to ee_int (wa_cons (EE.to ee_int (wa_nil ⟨by exact small30, a, rfl, a0, a1, hB2⟩))))⟩)))) fun x M2 ⟨a, e, a0, a1, hB2⟩ => ?_
    subst e
    refine we_call L.draw (hr.mono (by omega)) (EA.to (ea_cons (ee_v 1 rfl) (ea_cons ee_int ea_nil)) ⟨rfl, p, c, 3, rfl, hB2, by decide, by decide, fun r M3 r0 r1 hB3 _ => ?_⟩)
    obtain ⟨x, hx, hx2⟩ := at3 (a := .int a) (b := .int 0) (c := .int 255) r0 r1
    refine od_ixT hx ?_
    rcases hx2 with h | h | h
    · exact ⟨a, h, a0, a1, hB3⟩
    · exact ⟨0, h, by decide, by decide, hB3⟩
    · exact ⟨255, h, by decide, by decide, hB3⟩
  · subst e
    have e2 : ∃ k : Nat, 1 + 40 * (tn / 4) = (k : Int) ∧ 1 ≤ k ∧ k ≤ 41 := ⟨(1 + 40 * (tn / 4)).toNat, by omega, by omega, by omega⟩
    obtain ⟨k, ek, k1, k2⟩ := e2
    refine EE.to (EE.is (d' := .int (k : Int)) (ee_add ee_int (ee_mul ee_int (ee_fdiv (ee_v 2 rfl) ee_int ⟨by decide, by decide⟩) (.inl ⟨by decide, by decide⟩))) (by rw [ek])) (od_repA (by omega) (by omega) (by rw [List.length_map]; omega) ?_)
    rw [Int.toNat_natCast, map_rep]
    have hi : Byt (List.replicate k bs).flatten := fun x hx => by
      obtain ⟨l, hl, hx⟩ := List.mem_flatten.mp hx
      rw [(List.mem_replicate.mp hl).2] at hx
      exact h1 x hx
    have li : (List.replicate k bs).flatten.length < 500 := by
      rw [List.length_flatten, List.map_replicate, List.sum_replicate_nat]
      have : k * bs.length ≤ 41 * 12 := Nat.mul_le_mul k2 (by omega)
      omega
    generalize (List.replicate k bs).flatten = ins at hi li
    show WSs _ _ [none, some (.ptr p), some (.int tn), none, none, none, none, none, none, some (.int b), none, none, none, none, some (tI ins), none, none, none, none] _ _
    refine wss_cons (ws_set 15 nd (we_call L.lseal (hr.mono (by omega)) (EA.to (ea_cons (ee_v 14 rfl) ea_nil) ⟨rfl, ins, rfl, by omega, ?_⟩)))
    have lz : ins.length < 256 ^ 60 := Nat.lt_of_lt_of_le (show ins.length < 256 ^ 2 by omega) (Nat.pow_le_pow_right (by decide) (by decide))
    obtain ⟨o1, o2⟩ := open_seal lz
    have ls := sealL_len ins
    refine wss_cons (ws_ifE (k := false) (ET.is (et_not (et_val (ee_same L hr (x := .tup [.int (chk ins), tI (sealL ins), tI ins]) (y := .tup [.int (chk ins), tI (sealL ins), tI ins]) (ee_tup (ea_cons (we_call L.check (hr.mono (by omega)) (EA.to (ea_cons (ee_v 14 rfl) ea_nil) ⟨rfl, ins, rfl, rfl, rfl⟩)) (ea_cons (we_call L.sealed (hr.mono (by omega)) (EA.to (ea_cons (ee_v 14 rfl) ea_nil) ⟨rfl, ins, rfl, by omega, rfl, rfl⟩)) (ea_cons (EE.is (d := tI (inL (sealL ins))) (we_callX L.opened (hr.mono (by omega)) out0 (EA.to (ea_cons (ee_v 15 rfl) ea_nil) ⟨rfl, fun b0 => ⟨sealL ins, rfl, by omega, byt_seal hi lz, fun i hi => ?_, fun _ => ⟨rfl, rfl⟩⟩⟩)) (by rw [o2])) ea_nil)))) (ee_tup (ea_cons (we_call L.lcheck (hr.mono (by omega)) (EA.to (ea_cons (ee_v 14 rfl) ea_nil) ⟨rfl, ins, rfl, rfl, rfl⟩)) (ea_cons (ee_v 15 rfl) (ea_cons (ee_v 14 rfl) ea_nil)))) ?_ ?_))) ?_) (fun h => Bool.noConfusion h) fun _ => wss_nil ?_)
    · rw [o1] at hi; cases hi
    · refine tup_wf (Nat.le_of_ble_eq_true rfl) fun d hd => ?_
      simp only [List.mem_cons, List.not_mem_nil, or_false] at hd
      rcases hd with rfl | rfl | rfl
      · rfl
      · exact wf_tI (by omega)
      · exact wf_tI (by omega)
    · refine tup_wf (Nat.le_of_ble_eq_true rfl) fun d hd => ?_
      simp only [List.mem_cons, List.not_mem_nil, or_false] at hd
      rcases hd with rfl | rfl | rfl
      · rfl
      · exact wf_tI (by omega)
      · exact wf_tI (by omega)
    · rw [eqD_iff.mpr rfl]; rfl
    · exact wss_fg (by exact ⟨rfl, rfl, rfl, trivial⟩) (q ins M1 hi li hB1)
end
end K18
set_option Elab.async false
set_option linter.all false
set_option maxRecDepth 100000
set_option maxHeartbeats 4000000
namespace K18
open PySem L2 PyProof.Rows DL
/-! ### hurt bytes -/
/-- bytes that are refused -/
def Bad (bs : List Int) : Prop := Byt bs ∧ bs.length < 3000 ∧ ∃ i, opX bs = some i
def AllBad (ds : List D) : Prop := ∀ d ∈ ds, ∃ bs, d = tI bs ∧ Bad bs
theorem small64 {n : Nat} (h : n < 5000) : n < 256 ^ 64 := Nat.lt_of_lt_of_le (show n < 256 ^ 2 by omega) (Nat.pow_le_pow_right (by decide) (by decide))
section
variable {ins : List Int} (hi : Byt ins) (li : ins.length < 500)
include hi li
theorem bsW : Byt (sealL ins) := byt_seal hi (Nat.lt_of_lt_of_le (show ins.length < 256 ^ 2 by omega) (Nat.pow_le_pow_right (by decide) (by decide)))
theorem bad_take {k : Nat} (hk : k < (sealL ins).length) : Bad ((sealL ins).take k) := by
  have ls := sealL_len ins
  refine ⟨byt_take _ (bsW hi li), by rw [List.length_take]; omega, hurt fun x hx h => ?_⟩
  rw [List.length_take] at hx
  have := seal_tail (x := x) (y := ins) (r := (sealL ins).drop k) (small64 (by omega)) (small64 (by omega)) (by rw [h, List.take_append_drop])
  have h2 := congrArg List.length this
  rw [List.length_drop] at h2
  simp at h2
  omega
theorem bad_more {r : List Int} (hr : r ≠ []) (hb : Byt r) (lr : r.length < 1000) : Bad (sealL ins ++ r) := by
  have ls := sealL_len ins
  refine ⟨byt_app (bsW hi li) hb, by rw [List.length_append]; omega, hurt fun x hx h => ?_⟩
  rw [List.length_append] at hx
  exact hr (seal_tail (x := ins) (y := x) (small64 (by omega)) (small64 (by omega)) h.symm)
theorem bad_drop : Bad ((sealL ins).drop 1) := by
  have ls := sealL_len ins
  refine ⟨byt_drop _ (bsW hi li), by rw [List.length_drop]; omega, hurt fun x hx h => ?_⟩
  rw [List.length_drop] at hx
  exact seal_first (x := x) (y := ins) (small64 (by omega)) (by omega) h
theorem bad_set {k : Nat} {o : Int} (hk : k < (sealL ins).length) (ho : 0 ≤ o ∧ o < 256) (hne : o ≠ (sealL ins)[k]) : Bad ((sealL ins).set k o) := by
  have ls := sealL_len ins
  refine ⟨fun x hx => ?_, by rw [List.length_set]; omega, hurt fun x hx h => ?_⟩
  · rcases List.mem_or_eq_of_mem_set hx with hx | hx
    · exact bsW hi li x hx
    · rw [hx]; exact ho
  · rw [List.length_set] at hx
    exact seal_change (x := x) (y := ins) (small64 (by omega)) (small64 (by omega)) hi ho hk hne h
end
theorem bad_short {bs : List Int} (hb : Byt bs) (h : bs.length < 5) : Bad bs := by
  refine ⟨hb, by omega, hurt fun x hx h2 => ?_⟩
  have := congrArg List.length h2
  rw [seal_len, nb_len64] at this
  omega
section
variable {P : Program} {w : World} {K : PySem.W.Frag} {mg : Str → Option Value} {base : Heap} {CB fo : Addr} {f : Addr} {cdv : Value} {A : Around} {outer : List Env} {s : Shared} {H : Hp} {E : XK} {sg : Sg} {M : Mem} {pos pos' : Pos}
abbrev sgC (p a : Addr) (W : List Int) : Sg := [none, some (.ptr p), none, none, none, none, none, none, none, none, none, none, none, none, none, some (tI W), some (.ptr a), none, none]
/-- the cuts -/
theorem a_cuts {ED : EndsD} {p c : Addr} {b : Int} {ins : List Int} (L : CL P w K mg base CB fo) (hB : Bx M p c) (hi : Byt ins) (li : ins.length < 500) (b0 : 0 ≤ b) (b1 : b < 256)
    (q : ∀ (a : Addr) (ds : List D), AllBad ds → ds.length < 2000 → a ≠ p → a ≠ c → M a = none → WSs (XL P w K mg base f cdv A outer s H E) (turnB.drop 11) (sgC p a (sealL ins)) (updM M a (some (.lst ds))) ED) :
    WSs (XL P w K mg base f cdv A outer s H E) (turnB.drop 10) [none, some (.ptr p), none, none, none, none, none, none, none, some (.int b), none, none, none, none, none, some (tI (sealL ins)), none, none, none] M ED := by
  have nd := sc_law.nd
  have B := L.B
  have ls := sealL_len ins
  have hW := bsW hi li
  have bM := fun (r : List Int) h1 h2 h3 => bad_more (r := r) hi li h1 h2 h3
  have bT := fun k hk => bad_take (k := k) hi li hk
  have bD := bad_drop hi li
  have bW2 : Bad (sealL ins ++ sealL ins) := bM _ (fun z => by have := congrArg List.length z; rw [seal_len] at this; simp at this) hW (by omega)
  have bWb : Bad (sealL ins ++ [b]) := bM _ (by simp) (byt_cons ⟨b0, b1⟩ byt_nil) (by simp)
  have be : Bad [] := bad_short byt_nil (by simp)
  have bb : Bad [b] := bad_short (byt_cons ⟨b0, b1⟩ byt_nil) (by simp)
  generalize hWe : sealL ins = W at *
  have lw : (W.map D.int).length = W.length := List.length_map _
  obtain ⟨n, hn, n1, n2⟩ := rgc_up (j := (W.length : Int)) (c := 1 + (W.length : Int) / 30) (by omega) (by omega) (by omega) (by omega)
  refine wss_cons (ws_set 16 nd (we_op op_cat (Qa := fun d M2 => d = .lst ((rngC 0 (1 + (W.length : Int) / 30) n).map fun d => .tup (DL.cutD (W.map D.int) none (some (intOf d)))) ∧ M2 = M) (ee_lc1 6 (ds := rngC 0 (1 + (W.length : Int) / 30) n) (fun d => .tup (DL.cutD (W.map D.int) none (some (intOf d)))) rfl nd (wi_rng3 B.range (EA.to (ea_cons ee_int (ea_cons (ee_cb call_len B.len bi_len (ea_cons (ee_v 15 rfl) ea_nil) (cd_lenT ⟨rfl, rfl⟩)) (ea_cons (ee_add ee_int (ee_fdiv (ee_cb call_len B.len bi_len (ea_cons (ee_v 15 rfl) ea_nil) (cd_lenT ⟨rfl, rfl⟩)) ee_int ⟨by decide, by decide⟩)) ea_nil))) ⟨0, (W.length : Int), 1 + (W.length : Int) / 30, n, by rw [lw], hn, rfl, rfl, trivial⟩)) (by rw [rngC_len]; exact lt1000 (by omega)) fun j d hd s H C cl fp => ?_) fun x M2 ⟨e1, e2⟩ => ?_))
  · obtain ⟨hj, rfl⟩ := rngC_at hd
    exact ee_sl sl_tupA (ee_v 15 rfl) eo_none (eo_some (ee_v 6 rfl)) (sd_tup ⟨rfl, rfl⟩)
  subst e1; subst e2
  refine EE.to (EE.is (d' := .lst [tI (W ++ [b]), tI (W ++ W), tI (W.drop 1), tI [], tI [b]]) (ee_lst (ea_cons (ee_op op_catA (ee_v 15 rfl) (ee_tup (ea_cons (ee_v 9 rfl) ea_nil)) (od_catT ?_ ⟨rfl, rfl⟩)) (ea_cons (ee_op op_catA (ee_v 15 rfl) (ee_v 15 rfl) (od_catT ?_ ⟨rfl, rfl⟩)) (ea_cons (ee_sl sl_tupA (ee_v 15 rfl) (eo_some ee_int) eo_none (sd_tup ⟨rfl, rfl⟩)) (ea_cons (ee_tup ea_nil) (ea_cons (ee_tup (ea_cons (ee_v 9 rfl) ea_nil)) ea_nil)))))) ?_) (od_catM (.inl rfl) (.inl rfl) ?_ fun a ha => ?_)
  · rw [lw]
    exact Nat.le_trans (show _ + 1 ≤ 1000 by omega) (by decide)
  · rw [lw]
    exact Nat.le_trans (show _ ≤ 2000 by omega) (by decide)
  · have e : DL.cutD (W.map D.int) (some 1) none = (W.drop 1).map D.int := by
      have := cut_fromN (W.map D.int) 1
      rw [← List.map_drop] at this
      exact this
    rw [e]
    simp only [tI, List.map_append, List.map_cons, List.map_nil]
  · rw [List.length_map, rngC_len]
    exact Nat.le_trans (show _ + 5 ≤ 1000 by omega) (by decide)
  · obtain ⟨cs, x, y, hp, hc, ne, _⟩ := id hB
    have h1 : a ≠ p := fun z => by subst z; rw [ha] at hp; cases hp
    have h2 : a ≠ c := fun z => by subst z; rw [ha] at hc; cases hc
    refine wss_fg (by exact ⟨rfl, rfl, rfl, trivial⟩) (q a _ ?_ ?_ h1 h2 ha)
    · intro d hd
      rcases List.mem_append.mp hd with hd | hd
      · obtain ⟨e, he, rfl⟩ := List.mem_map.mp hd
        obtain ⟨j, hj⟩ := List.mem_iff_getElem?.mp he
        obtain ⟨hj2, rfl⟩ := rngC_at hj
        have hk := n2 j hj2
        refine ⟨W.take (intOf (.int (0 + (j : Int) * (1 + (W.length : Int) / 30)))).toNat, ?_, bT _ ?_⟩
        · have p0 : 0 ≤ (j : Int) * (1 + (W.length : Int) / 30) := Int.mul_nonneg (by omega) (by omega)
          have e : intOf (.int (0 + (j : Int) * (1 + (W.length : Int) / 30))) = (((intOf (.int (0 + (j : Int) * (1 + (W.length : Int) / 30)))).toNat : Nat) : Int) := by
            show 0 + (j : Int) * (1 + (W.length : Int) / 30) = _
            have : (intOf (.int (0 + (j : Int) * (1 + (W.length : Int) / 30)))) = 0 + (j : Int) * (1 + (W.length : Int) / 30) := rfl
            rw [this]
            omega
          rw [e, cut_toN, ← List.map_take]
          rfl
        · show (0 + (j : Int) * (1 + (W.length : Int) / 30)).toNat < W.length
          omega
      · simp only [List.mem_cons, List.not_mem_nil, or_false] at hd
        rcases hd with rfl | rfl | rfl | rfl | rfl
        · exact ⟨_, rfl, bWb⟩
        · exact ⟨_, rfl, bW2⟩
        · exact ⟨_, rfl, bD⟩
        · exact ⟨_, rfl, be⟩
        · exact ⟨_, rfl, bb⟩
    · rw [List.length_append, List.length_map, rngC_len]
      simp
      omega
end
end K18
set_option Elab.async false
set_option linter.all false
set_option maxRecDepth 100000
set_option maxHeartbeats 4000000
namespace K18
open PySem L2 PyProof.Rows DL
section
variable {P : Program} {w : World} {K : PySem.W.Frag} {mg : Str → Option Value} {base : Heap} {CB fo : Addr} {f : Addr} {cdv : Value} {A : Around} {outer : List Env} {s : Shared} {H : Hp} {E : XK} {sg : Sg} {M : Mem} {pos pos' : Pos}
theorem Bx.upd {M : Mem} {p c a : Addr} {o : Option MO} (h : Bx M p c) (h1 : a ≠ p) (h2 : a ≠ c) : Bx (updM M a o) p c := by
  obtain ⟨cs, x, y, hp, hc, r⟩ := h
  exact ⟨cs, x, y, by rw [updM_ne (Ne.symm h1)]; exact hp, by rw [updM_ne (Ne.symm h2)]; exact hc, r⟩
/-- hurt ones are never opened -/
theorem a_hurt {ED : EndsD} {p c a : Addr} {ins : List Int} {ds : List D} (L : CL P w K mg base CB fo) (hr : Room 7 (XL P w K mg base f cdv A outer s H E).A) (hB : Bx M p c) (hi : Byt ins) (li : ins.length < 500) (hd : AllBad ds) (ld : ds.length < 2000) (n1 : a ≠ p) (n2 : a ≠ c) (ha : M a = some (.lst ds))
    (q : ∀ (sg1 : Sg) (M1 : Mem), Bx M1 p c → Fg [none, some (.ptr p), none, none, none, none, none, none, none, none, none, none, none, none, none, none, none, none, none] sg1 → ED.nx sg1 M1) :
    WSs (XL P w K mg base f cdv A outer s H E) (turnB.drop 11) (sgC p a (sealL ins)) M ED := by
  have nd := sc_law.nd
  have B := L.B
  have ls := sealL_len ins
  have hW := bsW hi li
  have lpos : 0 < (sealL ins).length := by rw [seal_len]; omega
  have bS := fun k o hk ho hne => bad_set (k := k) (o := o) hi li hk ho hne
  generalize hWe : sealL ins = W at *
  have lw : (W.map D.int).length = W.length := List.length_map _
  refine wss_cons (ws_for PassesOwn.never rfl (Qi := fun es C M0 => es = rngD 0 10 ∧ M0 = M ∧ ∀ M1, C M1) (wi_rng1 B.range (EA.to (ea_cons ee_int ea_nil) ⟨10, rfl, by decide, by decide, rfl, rfl, fun _ => trivial⟩)) fun es C M0 ⟨e1, e2, hC⟩ => ?_)
  subst e1; subst e2
  refine ⟨fun i sg1 M1 => Fg (sgC p a W) sg1 ∧ i ≤ 10 ∧ Bx M1 p c ∧ ∃ ds, M1 a = some (.lst ds) ∧ AllBad ds ∧ ds.length < 2000 + i, ⟨⟨rfl, rfl, rfl, trivial⟩, Nat.zero_le _, hB, ds, ha, hd, ld⟩, fun i sg1 M1 _ => hC _, fun i d sg1 M1 he ⟨hg, hi10, hB1, ds1, ha1, hd1, ld1⟩ => ?_, fun sg1 M1 ⟨hg, hi10, hB1, ds1, ha1, hd1, ld1⟩ => ?_⟩
  · obtain ⟨hi2, rfl⟩ := rngD_at he
    refine ⟨_, _, wg_name 17 nd, wss_fg (fg_set hg 17 _) ?_⟩
    refine wss_cons (ws_par 6 18 rfl nd (wa_cons (a_draw L hr rfl (ee_cb call_len B.len bi_len (ea_cons (ee_v 15 rfl) ea_nil) (cd_lenT ⟨rfl, rfl⟩)) hB1 (by rw [lw]; omega) (by rw [lw]; omega) fun k M2 k0 k1 hB2 hE2 => wa_cons (a_draw L hr rfl ee_int hB2 (by decide) (by decide) fun o M3 o0 o1 hB3 hE3 => wa_nil ⟨_, _, rfl, ?_⟩))))
    have ha3 : M3 a = some (.lst ds1) := (hE3 a n1 n2).trans ((hE2 a n1 n2).trans ha1)
    rw [lw] at k1
    obtain ⟨k, rfl⟩ : ∃ j : Nat, k = (j : Int) := ⟨k.toNat, by omega⟩
    have hk : k < W.length := by omega
    have wk : 0 ≤ W[k] ∧ W[k] < 256 := hW _ (List.getElem_mem hk)
    have atk : atI (W.map D.int) (k : Int) = some (.int W[k]) := by
      rw [atI_ints (by omega) (by omega), Int.toNat_natCast, DL.getD_at hk]
    obtain ⟨v, hv, v0, v1⟩ : ∃ v : Int, (if o < W[k] then o else o + 1) = v ∧ (0 ≤ v ∧ v < 256) ∧ v ≠ W[k] := ⟨_, rfl, by split <;> omega, by split <;> omega⟩
    refine wss_one (ws_expr (we_bm PySem.F.plainAttrs_list PySem.F.slot_list_append PySem.F.type_list_append mt_append (EE.to (ee_v 16 rfl) ⟨ty_lst (.inr ⟨a, rfl, ha3⟩), EA.to (ea_cons (EE.is (d' := tI (W.set k v)) (ee_op op_catA (ee_op op_catA (ee_sl sl_tupA (ee_v 15 rfl) eo_none (eo_some (ee_v 6 rfl)) (sd_tup ⟨rfl, rfl⟩)) (ee_tup (ea_cons (ee_if (x := .int v) (et_lt (ee_v 18 rfl) (ee_ix ix_tup (ee_v 15 rfl) (ee_v 6 rfl) (od_ixT atk ⟨rfl, rfl⟩))) (fun h => EE.is (ee_v 18 rfl) ?_) (fun h => EE.is (ee_add (ee_v 18 rfl) ee_int) ?_)) ea_nil)) (od_catT ?_ ⟨rfl, rfl⟩)) (ee_sl sl_tupA (ee_v 15 rfl) (eo_some (ee_add (ee_v 6 rfl) ee_int)) eo_none (sd_tup ⟨rfl, rfl⟩)) (od_catT ?_ ⟨rfl, rfl⟩)) ?_) ea_nil) (md_append ha3 ?_ ?_)⟩)))
    · rw [if_pos (of_decide_eq_true h)] at hv
      rw [hv]
    · rw [if_neg (of_decide_eq_false h)] at hv
      rw [hv]
    · rw [cut_toN, List.length_take, lw]
      exact Nat.le_trans (show _ + 1 ≤ 1000 by omega) (by decide)
    · have e : (k : Int) + 1 = ((k + 1 : Nat) : Int) := by omega
      rw [e, cut_toN, cut_fromN, List.length_append, List.length_take, List.length_drop, lw]
      exact Nat.le_trans (show _ + 1 + _ ≤ 1000 by omega) (by decide)
    · have e : (k : Int) + 1 = ((k + 1 : Nat) : Int) := by omega
      rw [e, cut_toN, cut_fromN, set_split hk]
      simp only [tI, List.map_append, List.map_cons, List.map_take, List.map_drop, List.append_assoc, List.cons_append, List.nil_append]
    · exact Nat.lt_of_lt_of_le (show ds1.length < 3000 by omega) (by decide)
    · refine ⟨⟨rfl, rfl, rfl, trivial⟩, by omega, hB3.upd n1 n2, _, updM_same, fun d hd => ?_, by rw [List.length_append]; simp; omega⟩
      rcases List.mem_append.mp hd with hd | hd
      · exact hd1 d hd
      · rw [List.mem_singleton.mp hd]
        exact ⟨_, rfl, bS k v hk v0 v1⟩
  · refine wss_fg hg ?_
    refine wss_one (ws_for PassesOwn.never rfl (Qi := fun es C M0 => es = ds1 ∧ M0 = M1 ∧ C M1) (wi_lst (EE.to (ee_v 16 rfl) ⟨ds1, .inr ⟨a, rfl, ha1⟩, rfl, rfl, .inr ⟨a, rfl, ha1⟩⟩)) fun es C2 M0 ⟨e1, e2, hC2⟩ => ?_)
    subst e1; subst e2
    refine ⟨fun i sg1 M2 => Fg [none, some (.ptr p), none, none, none, none, none, none, none, none, none, none, none, none, none, none, none, none, none] sg1 ∧ M2 = M0, ⟨⟨rfl, trivial⟩, rfl⟩, fun i sg1 M2 ⟨_, e⟩ => by rw [e]; exact hC2, fun i d sg1 M2 he ⟨hg2, e⟩ => ?_, fun sg1 M2 ⟨hg2, e⟩ => q sg1 M2 (by rw [e]; exact hB1) hg2⟩
    subst e
    obtain ⟨bs, rfl, hb, hz, i, hx⟩ := hd1 d (List.mem_of_getElem? he)
    have xi := opX_in hb hx
    have lb : (bs.map D.int).length = bs.length := List.length_map _
    refine ⟨_, _, wg_name 10 nd, wss_fg (fg_set hg2 10 _) ?_⟩
    refine wss_cons (ws_asg (we_call L.lread hr (EA.to (ea_cons (ee_fn L.hfo) (ea_cons (ee_v 10 rfl) ea_nil)) ⟨rfl, bs, rfl, by omega, hb, ?_⟩)))
    rw [hx]
    refine ⟨_, _, wg_tup rfl (wgs_cons (wg_name 11 nd) (wgs_cons (wg_name 12 nd) wgs_nil)), ?_⟩
    refine wss_one (ws_ifE (k := false) (ET.is (ww_pt (ew_or (et_cmp op_notN (ee_v 11 rfl) ee_non (od_notN ⟨_, rfl, rfl, rfl⟩)) fun _ => ew_or (et_not (et_val (ee_isI B.isinstance B.int (ee_v 12 rfl) trivial))) fun _ => ww_or1 (et_not (et_le_le ee_int (ee_v 12 rfl) (ee_cb call_len B.len bi_len (ea_cons (ee_v 10 rfl) ea_nil) (cd_lenT ⟨rfl, rfl⟩)))))) ?_) (fun h => Bool.noConfusion h) fun _ => wss_nil ⟨⟨rfl, trivial⟩, rfl⟩)
    rw [lb, decide_eq_true xi.1, decide_eq_true xi.2]
    rfl
end
end K18
set_option Elab.async false
set_option linter.all false
set_option maxRecDepth 100000
set_option maxHeartbeats 4000000
namespace K18
open PySem L2 PyProof.Rows DL
section
variable {P : Program} {w : World} {K : PySem.W.Frag} {mg : Str → Option Value} {base : Heap} {CB fo : Addr}
theorem nb1000 : nb 1000 = [2, 3, 232] := by decide +kernel
theorem seal0 : sealL [] = [0, 0, 0, 0, 1] := by decide +kernel
theorem law_body (L : CL P w K mg base CB fo) : ∀ (f : Addr) (cdv : Value) (A : Around) (outer : List Env) (s : Shared) (H : Hp) (E : XK) (ds : List D) (M : Mem) (Q : D → Mem → Prop), Room 7 (A.deeper (envOfC "law" (defScope s_law) s.heap.objs.size f cdv)) → ds.length = 1 → S_script ds M Q →
    WSs (cxOf CX0 P w K mg base NL "law" (defScope s_law) f cdv A outer s H E).nox (defBody s_law) (startD NL ds) M { nx := fun _ M' => Q .non M', rt := Q } := by
  intro f cdv A outer s H E ds M Q hr hl hs
  obtain ⟨ns, rfl, hn, q⟩ := hs
  have nd := sc_law.nd
  have B := L.B
  obtain ⟨t2, hb2⟩ := L.C.digits
  refine wss_cons (ws_set 1 nd (we_call L.box (hr.mono (by omega)) (EA.to (ea_cons (ee_v 0 rfl) ea_nil) ⟨rfl, ns, rfl, hn, fun p c M1 _ _ hB _ => ?_⟩)))
  refine wss_cons (ws_ifE (k := false) (ET.is (et_neI (ee_gi hb2) ee_int) rfl) (fun h => Bool.noConfusion h) fun _ => wss_nil ?_)
  refine wss_cons (ws_for PassesOwn.never rfl (Qi := fun es C M0 => es = rngD 0 5 ∧ M0 = M1 ∧ ∀ M1, C M1) (wi_rng1 B.range (EA.to (ea_cons ee_int ea_nil) ⟨5, rfl, by decide, by decide, rfl, rfl, fun _ => trivial⟩)) fun es C M0 ⟨e1, e2, hC⟩ => ?_)
  subst e1; subst e2
  refine ⟨fun i sg1 M1 => Fg [none, some (.ptr p), none, none, none, none, none, none, none, none, none, none, none, none, none, none, none, none, none] sg1 ∧ Bx M1 p c, ⟨⟨rfl, trivial⟩, hB⟩, fun i sg1 M1 _ => hC _, fun i d sg1 M1 he ⟨hg, hB1⟩ => ?_, fun sg1 M1 ⟨hg, hB1⟩ => ?_⟩
  · obtain ⟨hi, rfl⟩ := rngD_at he
    refine ⟨_, _, wg_name 2 nd, wss_fg (fg_set hg 2 _) ?_⟩
    refine a_turn1 L hr hB1 fun n hs ts M2 hn h1 h2 z1 z2 hB2 => ?_
    refine a_turn2 L hr hB2 hn h1 h2 z1 z2 fun b M3 b0 b1 hB3 => ?_
    refine a_turn3 L hr hB3 (by omega) (by omega) fun ins M4 hi li hB4 => ?_
    refine a_cuts L hB4 hi li b0 b1 fun a ds hd ld n1 n2 ha => ?_
    exact a_hurt L hr (hB4.upd n1 n2) hi li hd ld n1 n2 updM_same fun sg2 M5 hB5 hg2 => ⟨hg2, hB5⟩
  · refine wss_one (ws_ret (EE.to (d := .bl (true && true)) (ee_and (ee_cmp (op_eqD hr.units) (we_call L.nbytes (hr.mono (by omega)) (EA.to (ea_cons ee_int ea_nil) ⟨rfl, 1000, rfl, by decide, rfl, rfl⟩)) (ee_lst (ea_cons ee_int (ea_cons ee_int (ea_cons ee_int ea_nil)))) (od_eqD (d := .list [.int 2, .int 3, .int 232]) (e := .list [.int 2, .int 3, .int 232]) (.inl ⟨?_, ?_⟩) (.inl ⟨rfl, rfl⟩) (by decide +kernel) (by decide +kernel) ⟨congrArg D.bl (by decide +kernel), rfl⟩)) fun _ => we_one (ee_cmp (op_eqD hr.units) (we_call L.sealed (hr.mono (by omega)) (EA.to (ea_cons (ee_tup ea_nil) ea_nil) ⟨rfl, [], rfl, by decide, rfl, rfl⟩)) (ee_tup (ea_cons ee_int (ea_cons ee_int (ea_cons ee_int (ea_cons ee_int (ea_cons ee_int ea_nil)))))) (od_eqD (d := .tuple [.int 0, .int 0, .int 0, .int 0, .int 1]) (e := .tuple [.int 0, .int 0, .int 0, .int 0, .int 1]) (.inl ⟨?_, ?_⟩) (.inl ⟨rfl, rfl⟩) (by decide +kernel) (by decide +kernel) ⟨congrArg D.bl (by decide +kernel), rfl⟩))) (q M1)))
    · rw [nb1000]; rfl
    · rw [nb1000]; rfl
    · rw [seal0]; rfl
    · rw [seal0]; rfl
end
end K18
set_option Elab.async false
set_option linter.all false
set_option maxRecDepth 100000
set_option maxHeartbeats 4000000
namespace K18
open PySem L2 PyProof.Rows DL NdefX
def clsB : Stmt → List Stmt
  | .ClassDef (body := b) .. => b
  | _ => []
abbrev s_init : Stmt := (clsB (topS 2)).getD 0 (.Pass ⟨0, 0, 0, 0⟩)
abbrev NFi (cc c : Addr) : NF := ⟨"__init__", "BadBytes.__init__", defArgs s_init, defBody s_init, defScope s_init, [(sCls, cc)], c⟩
theorem sc_init : NScope [sSelf, "place", sCls] [sSelf, "place"] [sCls] (defScope s_init) := nscope_by (by decide +kernel)
theorem text_ok {pre : Str} {j : Nat} {p1 p2 p3 p4 p5 : Pos} (hp : pre.length ≤ 1000) {X : Cx} {pn : Str} (hm : X.mg "str" = none) (hg : Gl X "str") (hN : X.N[1]? = some pn) (hv : Vis X.env.scope pn) (hd : (pn == ("__debug__" : Str)) = false) (hc : (pn == ("__classdict__" : Str)) = false) :
    PE X (.BinOp (.Constant (.str pre) j p1) .Add (.Call (.Name "str" p2) [.Name pn p3] [] p4) p5) (fun σ H Q => ∃ i : Int, σ[1]? = some (some (.int i)) ∧ i.natAbs.log2 < 1920 ∧ ∀ t : Str, Q (.str t) H) := by
  have h := pe_op (pos := p5) op_add_str (pe_str (X := X) (x := pre) (j := j) (pos := p1)) (pe_callTy (p := p2) (pos := p4) call_str_int hg hm bi_str (pa_cons (pe_var (i := 1) (pos := p3) hN hv hd hc) pa_nil))
  refine ⟨fun pins s σ H Q I ⟨i, e, hi, q⟩ => h.run pins s σ H Q I ?_⟩
  refine ⟨.int i, e, i, rfl, hi, pre, _, rfl, rfl, ?_, q _⟩
  have := int_text_len_1921 hi
  exact Nat.le_trans (show _ ≤ 5000 by omega) (by decide)
section
variable {P : Program} {w : World} {K : PySem.W.Frag} {mg : Str → Option Value} {base : Heap}
theorem init_fn {C fI cc c : Addr} {fd : FuncData} (T : SupX P K mg C fI cc c (NFi cc c) fd "place" "place") (B : Blt mg) : FnOk P w K mg base CX0 1 fI fd [sSelf, "place"] (spSup K C "place") :=
  sup_init T rfl rfl (fun _ => rfl) (by decide) (by decide) (fun _ => rfl) (fun env => ⟨_, rfl⟩) fun X e1 e2 e3 e4 => text_ok (by decide +kernel) (by rw [e2]; exact B.str) (by show X.env.scope.names.lookup _ = _; rw [e4]; rfl) (by rw [e3]; rfl) (.inl (by rw [e4]; rfl)) (by decide) (by decide)
end
/-- an own error is what except names -/
theorem exm_own {K : PySem.W.Frag} {C : Addr} (hb : PySem.W.subIn K (.ref C) (.type "BaseException") = some true) (hc : PySem.W.isClsIn K C = true) (ht : PySem.W.typeIn K (.ref C) = some (.type "type")) (hs : PySem.W.subIn K (.ref C) (.ref C) = some true) : PySem.W.exmOne K (.ref C) (.ref C) = some true := by
  have c : (PySem.W.clsIn K C).isSome = true := hc
  simp [PySem.W.exmOne, PySem.W.kitCls, hb, c, ht, hs]
end K18
set_option Elab.async false
set_option linter.all false
set_option maxRecDepth 100000
set_option maxHeartbeats 4000000
namespace K18
open PySem L2 PyProof.Rows DL NdefX
section
variable {w : World} {K : PySem.W.Frag} {mg : Str → Option Value}
theorem all_mk {P : Program} {h : Heap} {fa : Addr} (X : K.In h) (G : h.Ns mainGlobals mg) (hfa : mg "law" = some (.ref fa)) {f0 : Addr} {od0 an0 : Option Addr} {sl0 : Array (Option Value)} {oc0 kV0 dc0 pm0 cd0 ct0 : Value} {f1 : Addr} {od1 an1 : Option Addr} {sl1 : Array (Option Value)} {oc1 kV1 dc1 pm1 cd1 ct1 : Value} {f2 : Addr} {od2 an2 : Option Addr} {sl2 : Array (Option Value)} {oc2 kV2 dc2 pm2 cd2 ct2 : Value} {f3 : Addr} {od3 an3 : Option Addr} {sl3 : Array (Option Value)} {oc3 kV3 dc3 pm3 cd3 ct3 : Value} {f4 : Addr} {od4 an4 : Option Addr} {sl4 : Array (Option Value)} {oc4 kV4 dc4 pm4 cd4 ct4 : Value} {f5 : Addr} {od5 an5 : Option Addr} {sl5 : Array (Option Value)} {oc5 kV5 dc5 pm5 cd5 ct5 : Value} {f6 : Addr} {od6 an6 : Option Addr} {sl6 : Array (Option Value)} {oc6 kV6 dc6 pm6 cd6 ct6 : Value} {f7 : Addr} {od7 an7 : Option Addr} {sl7 : Array (Option Value)} {oc7 kV7 dc7 pm7 cd7 ct7 : Value} {f8 : Addr} {od8 an8 : Option Addr} {sl8 : Array (Option Value)} {oc8 kV8 dc8 pm8 cd8 ct8 : Value} {f9 : Addr} {od9 an9 : Option Addr} {sl9 : Array (Option Value)} {oc9 kV9 dc9 pm9 cd9 ct9 : Value} {f10 : Addr} {od10 an10 : Option Addr} {sl10 : Array (Option Value)} {oc10 kV10 dc10 pm10 cd10 ct10 : Value} {f11 : Addr} {od11 an11 : Option Addr} {sl11 : Array (Option Value)} {oc11 kV11 dc11 pm11 cd11 ct11 : Value} {f12 : Addr} {od12 an12 : Option Addr} {sl12 : Array (Option Value)} {oc12 kV12 dc12 pm12 cd12 ct12 : Value} {f13 : Addr} {od13 an13 : Option Addr} {sl13 : Array (Option Value)} {oc13 kV13 dc13 pm13 cd13 ct13 : Value} {f14 : Addr} {od14 an14 : Option Addr} {sl14 : Array (Option Value)} {oc14 kV14 dc14 pm14 cd14 ct14 : Value} {f15 : Addr} {od15 an15 : Option Addr} {sl15 : Array (Option Value)} {oc15 kV15 dc15 pm15 cd15 ct15 : Value} {f16 : Addr} {od16 an16 : Option Addr} {sl16 : Array (Option Value)} {oc16 kV16 dc16 pm16 cd16 ct16 : Value} {f17 : Addr} {od17 an17 : Option Addr} {sl17 : Array (Option Value)} {oc17 kV17 dc17 pm17 cd17 ct17 : Value} {t0 : Tok} {t1 : Tok} {t2 : Tok} {t3 : Tok} {t4 : Tok} {C CE fI cc c N : Addr} {nm q : Str} {bs : List Value} {sn : List Str} {sub : List Value} {ab : Bool} {col : Option Bool} {dd : Option Addr} {y0 y1 y2 y3 y5 : Option Value} {odI anI : Option Addr} {slI : Array (Option Value)} {ocI kVI dcI pmI ctI : Value} {ccl : Value} {cdd : Option Addr} {vs : Array Value} {ccs : Array (Option Value)} {file : Str} {tf : Tok} {clo : Value} {cld : Option Addr} {csl : Array (Option Value)}
    (a0 : PySem.W.nsIn K mainGlobals "digits_of" = some (some (.ref f0))) (l0 : K.lookup f0 = some ⟨oc0, od0, .func (PySem.W.fnOf "digits_of" "digits_of" (defArgs s_digits_of) (defBody s_digits_of) (defScope s_digits_of) .none kV0 dc0 pm0 an0 cd0 ct0), sl0⟩) (c0 : PySem.W.codeIn K cd0 "digits_of" = true) (k0 : PySem.W.keepIn K (.ref f0) = true)
    (a1 : PySem.W.nsIn K mainGlobals "number_bytes" = some (some (.ref f1))) (l1 : K.lookup f1 = some ⟨oc1, od1, .func (PySem.W.fnOf "number_bytes" "number_bytes" (defArgs s_number_bytes) (defBody s_number_bytes) (defScope s_number_bytes) .none kV1 dc1 pm1 an1 cd1 ct1), sl1⟩) (c1 : PySem.W.codeIn K cd1 "number_bytes" = true) (k1 : PySem.W.keepIn K (.ref f1) = true)
    (a2 : PySem.W.nsIn K mainGlobals "byte_at" = some (some (.ref f2))) (l2 : K.lookup f2 = some ⟨oc2, od2, .func (PySem.W.fnOf "byte_at" "byte_at" (defArgs s_byte_at) (defBody s_byte_at) (defScope s_byte_at) .none kV2 dc2 pm2 an2 cd2 ct2), sl2⟩) (c2 : PySem.W.codeIn K cd2 "byte_at" = true) (k2 : PySem.W.keepIn K (.ref f2) = true)
    (a3 : PySem.W.nsIn K mainGlobals "read_number" = some (some (.ref f3))) (l3 : K.lookup f3 = some ⟨oc3, od3, .func (PySem.W.fnOf "read_number" "read_number" (defArgs s_read_number) (defBody s_read_number) (defScope s_read_number) .none kV3 dc3 pm3 an3 cd3 ct3), sl3⟩) (c3 : PySem.W.codeIn K cd3 "read_number" = true) (k3 : PySem.W.keepIn K (.ref f3) = true)
    (a4 : PySem.W.nsIn K mainGlobals "check_of" = some (some (.ref f4))) (l4 : K.lookup f4 = some ⟨oc4, od4, .func (PySem.W.fnOf "check_of" "check_of" (defArgs s_check_of) (defBody s_check_of) (defScope s_check_of) .none kV4 dc4 pm4 an4 cd4 ct4), sl4⟩) (c4 : PySem.W.codeIn K cd4 "check_of" = true) (k4 : PySem.W.keepIn K (.ref f4) = true)
    (a5 : PySem.W.nsIn K mainGlobals "sealed" = some (some (.ref f5))) (l5 : K.lookup f5 = some ⟨oc5, od5, .func (PySem.W.fnOf "sealed" "sealed" (defArgs s_sealed) (defBody s_sealed) (defScope s_sealed) .none kV5 dc5 pm5 an5 cd5 ct5), sl5⟩) (c5 : PySem.W.codeIn K cd5 "sealed" = true) (k5 : PySem.W.keepIn K (.ref f5) = true)
    (a6 : PySem.W.nsIn K mainGlobals "opened" = some (some (.ref f6))) (l6 : K.lookup f6 = some ⟨oc6, od6, .func (PySem.W.fnOf "opened" "opened" (defArgs s_opened) (defBody s_opened) (defScope s_opened) .none kV6 dc6 pm6 an6 cd6 ct6), sl6⟩) (c6 : PySem.W.codeIn K cd6 "opened" = true) (k6 : PySem.W.keepIn K (.ref f6) = true)
    (a7 : PySem.W.nsIn K mainGlobals "_law_box" = some (some (.ref f7))) (l7 : K.lookup f7 = some ⟨oc7, od7, .func (PySem.W.fnOf "_law_box" "_law_box" (defArgs s_law_box) (defBody s_law_box) (defScope s_law_box) .none kV7 dc7 pm7 an7 cd7 ct7), sl7⟩) (c7 : PySem.W.codeIn K cd7 "_law_box" = true) (k7 : PySem.W.keepIn K (.ref f7) = true)
    (a8 : PySem.W.nsIn K mainGlobals "_law_load" = some (some (.ref f8))) (l8 : K.lookup f8 = some ⟨oc8, od8, .func (PySem.W.fnOf "_law_load" "_law_load" (defArgs s_law_load) (defBody s_law_load) (defScope s_law_load) .none kV8 dc8 pm8 an8 cd8 ct8), sl8⟩) (c8 : PySem.W.codeIn K cd8 "_law_load" = true) (k8 : PySem.W.keepIn K (.ref f8) = true)
    (a9 : PySem.W.nsIn K mainGlobals "_law_draw" = some (some (.ref f9))) (l9 : K.lookup f9 = some ⟨oc9, od9, .func (PySem.W.fnOf "_law_draw" "_law_draw" (defArgs s_law_draw) (defBody s_law_draw) (defScope s_law_draw) .none kV9 dc9 pm9 an9 cd9 ct9), sl9⟩) (c9 : PySem.W.codeIn K cd9 "_law_draw" = true) (k9 : PySem.W.keepIn K (.ref f9) = true)
    (a10 : PySem.W.nsIn K mainGlobals "_law_same" = some (some (.ref f10))) (l10 : K.lookup f10 = some ⟨oc10, od10, .func (PySem.W.fnOf "_law_same" "_law_same" (defArgs s_law_same) (defBody s_law_same) (defScope s_law_same) .none kV10 dc10 pm10 an10 cd10 ct10), sl10⟩) (c10 : PySem.W.codeIn K cd10 "_law_same" = true) (k10 : PySem.W.keepIn K (.ref f10) = true)
    (a11 : PySem.W.nsIn K mainGlobals "_law_number" = some (some (.ref f11))) (l11 : K.lookup f11 = some ⟨oc11, od11, .func (PySem.W.fnOf "_law_number" "_law_number" (defArgs s_law_number) (defBody s_law_number) (defScope s_law_number) .none kV11 dc11 pm11 an11 cd11 ct11), sl11⟩) (c11 : PySem.W.codeIn K cd11 "_law_number" = true) (k11 : PySem.W.keepIn K (.ref f11) = true)
    (a12 : PySem.W.nsIn K mainGlobals "_law_check" = some (some (.ref f12))) (l12 : K.lookup f12 = some ⟨oc12, od12, .func (PySem.W.fnOf "_law_check" "_law_check" (defArgs s_law_check) (defBody s_law_check) (defScope s_law_check) .none kV12 dc12 pm12 an12 cd12 ct12), sl12⟩) (c12 : PySem.W.codeIn K cd12 "_law_check" = true) (k12 : PySem.W.keepIn K (.ref f12) = true)
    (a13 : PySem.W.nsIn K mainGlobals "_law_seal" = some (some (.ref f13))) (l13 : K.lookup f13 = some ⟨oc13, od13, .func (PySem.W.fnOf "_law_seal" "_law_seal" (defArgs s_law_seal) (defBody s_law_seal) (defScope s_law_seal) .none kV13 dc13 pm13 an13 cd13 ct13), sl13⟩) (c13 : PySem.W.codeIn K cd13 "_law_seal" = true) (k13 : PySem.W.keepIn K (.ref f13) = true)
    (a14 : PySem.W.nsIn K mainGlobals "_law_read" = some (some (.ref f14))) (l14 : K.lookup f14 = some ⟨oc14, od14, .func (PySem.W.fnOf "_law_read" "_law_read" (defArgs s_law_read) (defBody s_law_read) (defScope s_law_read) .none kV14 dc14 pm14 an14 cd14 ct14), sl14⟩) (c14 : PySem.W.codeIn K cd14 "_law_read" = true) (k14 : PySem.W.keepIn K (.ref f14) = true)
    (a15 : PySem.W.nsIn K mainGlobals "_law_number_at" = some (some (.ref f15))) (l15 : K.lookup f15 = some ⟨oc15, od15, .func (PySem.W.fnOf "_law_number_at" "_law_number_at" (defArgs s_law_number_at) (defBody s_law_number_at) (defScope s_law_number_at) .none kV15 dc15 pm15 an15 cd15 ct15), sl15⟩) (c15 : PySem.W.codeIn K cd15 "_law_number_at" = true) (k15 : PySem.W.keepIn K (.ref f15) = true)
    (a16 : PySem.W.nsIn K mainGlobals "_law_bad" = some (some (.ref f16))) (l16 : K.lookup f16 = some ⟨oc16, od16, .func (PySem.W.fnOf "_law_bad" "_law_bad" (defArgs s_law_bad) (defBody s_law_bad) (defScope s_law_bad) .none kV16 dc16 pm16 an16 cd16 ct16), sl16⟩) (c16 : PySem.W.codeIn K cd16 "_law_bad" = true) (k16 : PySem.W.keepIn K (.ref f16) = true)
    (a17 : PySem.W.nsIn K mainGlobals "law" = some (some (.ref f17))) (l17 : K.lookup f17 = some ⟨oc17, od17, .func (PySem.W.fnOf "law" "law" (defArgs s_law) (defBody s_law) (defScope s_law) .none kV17 dc17 pm17 an17 cd17 ct17), sl17⟩) (c17 : PySem.W.codeIn K cd17 "law" = true) (k17 : PySem.W.keepIn K (.ref f17) = true)
    (z0 : PySem.W.nsIn K mainGlobals "isinstance" = some none)
    (z1 : PySem.W.nsIn K mainGlobals "int" = some none)
    (z2 : PySem.W.nsIn K mainGlobals "bool" = some none)
    (z3 : PySem.W.nsIn K mainGlobals "str" = some none)
    (z4 : PySem.W.nsIn K mainGlobals "tuple" = some none)
    (z5 : PySem.W.nsIn K mainGlobals "list" = some none)
    (z6 : PySem.W.nsIn K mainGlobals "len" = some none)
    (z7 : PySem.W.nsIn K mainGlobals "all" = some none)
    (z8 : PySem.W.nsIn K mainGlobals "any" = some none)
    (z9 : PySem.W.nsIn K mainGlobals "sum" = some none)
    (z10 : PySem.W.nsIn K mainGlobals "max" = some none)
    (z11 : PySem.W.nsIn K mainGlobals "min" = some none)
    (z12 : PySem.W.nsIn K mainGlobals "sorted" = some none)
    (z13 : PySem.W.nsIn K mainGlobals "range" = some none)
    (z14 : PySem.W.nsIn K mainGlobals "enumerate" = some none)
    (z15 : PySem.W.nsIn K mainGlobals "zip" = some none)
    (m0 : PySem.W.nsIn K mainGlobals "BYTE" = some (some (.int 256 t0)))
    (m1 : PySem.W.nsIn K mainGlobals "MOST_DIGITS" = some (some (.int 60 t1)))
    (m2 : PySem.W.nsIn K mainGlobals "ROUND" = some (some (.int 4294967291 t2)))
    (m3 : PySem.W.nsIn K mainGlobals "STEP" = some (some (.int 262147 t3)))
    (m4 : PySem.W.nsIn K mainGlobals "CHECK" = some (some (.int 4 t4)))
    (xa : PySem.W.nsIn K mainGlobals "BadBytes" = some (some (.ref C)))
    (xl : K.lookup C = some (excClassObj nm q C N bs [.ref CE, .type "ValueError", .type "Exception", .type "BaseException", .type "object"] true sn sub ab col dd y0 y1 y2 y3 y5 "ValueError.__new__"))
    (xsa : PySem.W.findIn K (.ref C) "__setattr__" = some (some (.builtin "object.__setattr__")))
    (xex : PySem.W.subIn K (.ref C) (.type "BaseException") = some true)
    (xty : PySem.W.typeIn K (.ref C) = some (.type "type"))
    (xk : PySem.W.keepIn K (.ref C) = true)
    (xga : PySem.W.findIn K (.ref C) "__getattribute__" = some (some (.builtin "BaseException.__getattribute__")))
    (xgg : PySem.W.findIn K (.ref C) "__getattr__" = some none)
    (xhd : PySem.W.hasDictIn K C = true)
    (xic : PySem.W.isClsIn K C = true)
    (xss : PySem.W.subIn K (.ref C) (.ref C) = some true)
    (xve : PySem.W.subIn K (.ref C) (.type "ValueError") = some true)
    (xno : PySem.W.findIn K (.ref C) "place" = some none)
    (xin : PySem.W.findIn K (.ref C) "__init__" = some (some (.ref fI)))
    (xti : PySem.W.typeIn K (.ref fI) = some (.type "function"))
    (xli : K.lookup fI = some ⟨ocI, odI, .func (PySem.W.fnX "__init__" "BadBytes.__init__" (defArgs s_init) (defBody s_init) (defScope s_init) [(sCls, cc)] .none kVI dcI pmI anI (.ref c) ctI), slI⟩)
    (xcd : PySem.W.codeIn K (.ref c) "BadBytes.__init__" = true)
    (xlc : K.lookup c = some ⟨ccl, cdd, .fields vs, ccs⟩)
    (xvs : vs[2]? = some (.str file tf))
    (xfi : ((P.main.file : Str) == file) = true)
    (xce : K.lookup cc = some ⟨clo, cld, .cell (some (.ref C)), csl⟩)
    (xsu : PySem.W.ks_superIn K C C "__init__" = some (some (.builtin "ValueError.__init__")))
    (xop : PySem.W.nsIn K cStatics "thirdparty.any" = some none)
    (xms : PySem.W.nsIn K mainGlobals "super" = some none)
    (xto : (P.main.scope.names.lookup ("super" : Str)).isSome = false)
    : ∃ fd : FuncData, (∀ (s : Shared) (v : Value), BindsTo s fd ⟨[v], []⟩ [("script", v)]) ∧ ∀ base : Heap, K.In base → base.Ns mainGlobals mg → FnOk P w K mg base CX0 8 fa fd ["script"] (spLaw K) := by
  have e := hfa.symm.trans (PySem.W.mg_of X G a17)
  cases e
  have B : Blt mg := ⟨PySem.W.mg_none_of X G z0, PySem.W.mg_none_of X G z1, PySem.W.mg_none_of X G z2, PySem.W.mg_none_of X G z3, PySem.W.mg_none_of X G z4, PySem.W.mg_none_of X G z5, PySem.W.mg_none_of X G z6, PySem.W.mg_none_of X G z7, PySem.W.mg_none_of X G z8, PySem.W.mg_none_of X G z9, PySem.W.mg_none_of X G z10, PySem.W.mg_none_of X G z11, PySem.W.mg_none_of X G z12, PySem.W.mg_none_of X G z13, PySem.W.mg_none_of X G z14, PySem.W.mg_none_of X G z15⟩
  have F_digits_of : Df K mg "digits_of" s_digits_of ["number"] := df_mk X G a0 l0 c0 k0 fun _ _ _ _ _ _ us hl => match us, hl with | [_], _ => rfl
  have F_number_bytes : Df K mg "number_bytes" s_number_bytes ["number"] := df_mk X G a1 l1 c1 k1 fun _ _ _ _ _ _ us hl => match us, hl with | [_], _ => rfl
  have F_byte_at : Df K mg "byte_at" s_byte_at ["data", "place"] := df_mk X G a2 l2 c2 k2 fun _ _ _ _ _ _ us hl => match us, hl with | [_, _], _ => rfl
  have F_read_number : Df K mg "read_number" s_read_number ["data", "place"] := df_mk X G a3 l3 c3 k3 fun _ _ _ _ _ _ us hl => match us, hl with | [_, _], _ => rfl
  have F_check_of : Df K mg "check_of" s_check_of ["data"] := df_mk X G a4 l4 c4 k4 fun _ _ _ _ _ _ us hl => match us, hl with | [_], _ => rfl
  have F_sealed : Df K mg "sealed" s_sealed ["data"] := df_mk X G a5 l5 c5 k5 fun _ _ _ _ _ _ us hl => match us, hl with | [_], _ => rfl
  have F_opened : Df K mg "opened" s_opened ["data"] := df_mk X G a6 l6 c6 k6 fun _ _ _ _ _ _ us hl => match us, hl with | [_], _ => rfl
  have F_law_box : Df K mg "_law_box" s_law_box ["script"] := df_mk X G a7 l7 c7 k7 fun _ _ _ _ _ _ us hl => match us, hl with | [_], _ => rfl
  have F_law_load : Df K mg "_law_load" s_law_load ["box"] := df_mk X G a8 l8 c8 k8 fun _ _ _ _ _ _ us hl => match us, hl with | [_], _ => rfl
  have F_law_draw : Df K mg "_law_draw" s_law_draw ["box", "many"] := df_mk X G a9 l9 c9 k9 fun _ _ _ _ _ _ us hl => match us, hl with | [_, _], _ => rfl
  have F_law_same : Df K mg "_law_same" s_law_same ["a", "b"] := df_mk X G a10 l10 c10 k10 fun _ _ _ _ _ _ us hl => match us, hl with | [_, _], _ => rfl
  have F_law_number : Df K mg "_law_number" s_law_number ["number"] := df_mk X G a11 l11 c11 k11 fun _ _ _ _ _ _ us hl => match us, hl with | [_], _ => rfl
  have F_law_check : Df K mg "_law_check" s_law_check ["data"] := df_mk X G a12 l12 c12 k12 fun _ _ _ _ _ _ us hl => match us, hl with | [_], _ => rfl
  have F_law_seal : Df K mg "_law_seal" s_law_seal ["data"] := df_mk X G a13 l13 c13 k13 fun _ _ _ _ _ _ us hl => match us, hl with | [_], _ => rfl
  have F_law_read : Df K mg "_law_read" s_law_read ["read", "data"] := df_mk X G a14 l14 c14 k14 fun _ _ _ _ _ _ us hl => match us, hl with | [_, _], _ => rfl
  have F_law_number_at : Df K mg "_law_number_at" s_law_number_at ["data", "place"] := df_mk X G a15 l15 c15 k15 fun _ _ _ _ _ _ us hl => match us, hl with | [_, _], _ => rfl
  have F_law_bad : Df K mg "_law_bad" s_law_bad ["data", "place"] := df_mk X G a16 l16 c16 k16 fun _ _ _ _ _ _ us hl => match us, hl with | [_, _], _ => rfl
  refine ⟨PySem.W.fnOf "law" "law" (defArgs s_law) (defBody s_law) (defScope s_law) .none kV17 dc17 pm17 an17 cd17 ct17, fun s v => .of_eq rfl, fun base _ _ => ?_⟩
  have hB : mg "BadBytes" = some (.ref C) := PySem.W.mg_of X G xa
  have oex : OexC K C := ⟨⟨nm, q, N, bs, _, sn, sub, ab, col, dd, y0, y1, y2, y3, y5, xl, by show PySem.HandSPX.refsVE [.type "ValueError", .type "Exception", .type "BaseException", .type "object"] = true; decide +kernel⟩, xsa, xex, xty, xk⟩
  have T : SupX P K mg C fI cc c (NFi cc c) _ "place" "place" := { oex := oex, lk := ⟨_, _, _, _, _, _, _, _, _, rfl, rfl, rfl, xli⟩, code := ⟨_, _, _, _, _, _, xlc, xvs, xfi⟩, cq := xcd, cell := ⟨_, _, _, xce⟩, sub := xss, ve := xve, sup := xsu, opq := xop, mgS := PySem.W.mg_none_of X G xms, top := xto, sc := sc_init, hS := by rfl, par := by rfl, no := xno, init := xin, ty := xti, bind := Binds.all fun us hl => match us, hl with | [_, _], _ => rfl }
  have mkb : MkB P w K mg base C := fun X1 e1 e2 e3 e4 e5 hr hg a p pos hn => mke T (init_fn T B) hB (by decide) X1 e1 e2 e3 e4 e5 (hr.mono (by omega)) hg a p pos hn
  have CN : Cn mg := ⟨⟨_, PySem.W.mg_of X G m0⟩, ⟨_, PySem.W.mg_of X G m1⟩, ⟨_, PySem.W.mg_of X G m2⟩, ⟨_, PySem.W.mg_of X G m3⟩, ⟨_, PySem.W.mg_of X G m4⟩⟩
  have xf : XfC K C := ⟨xga, xgg, xex, xhd⟩
  have hex := exm_own xex xic xty xss
  have load := d_load (P := P) (w := w) (base := base) F_law_load B
  have dig := d_digits (P := P) (w := w) (base := base) F_digits_of CN
  have nby := d_number_bytes F_number_bytes B dig
  have che := d_check_of (P := P) (w := w) (base := base) F_check_of CN
  have sea := d_sealed F_sealed B CN dig che nby
  have bat := d_byte_at F_byte_at B mkb
  have rn := d_read_number F_read_number B CN mkb bat
  have op := d_opened F_opened B CN mkb rn sea
  have lnu := d_law_number (P := P) (w := w) (base := base) F_law_number B
  have lch := d_law_check (P := P) (w := w) (base := base) F_law_check
  have LL : CL P w K mg base C f6 := { B := B, C := CN, box := d_box F_law_box B, draw := d_draw F_law_draw B load, same := d_same F_law_same B 3, lnumber := lnu, lcheck := lch, lseal := d_law_seal F_law_seal B lnu lch, lread := d_law_read F_law_read hB hex xf (PySem.W.mg_of X G a6) xno op, lnat := d_law_number_at F_law_number_at hB hex xf xno rn, lbad := d_law_bad F_law_bad B, nbytes := nby, check := che, sealed := sea, readn := rn, opened := op, hfo := PySem.W.mg_of X G a6 }
  exact (dfnF (fun_mk l17 c17 k17) sc_law rfl (law_body LL)).imp fun _ _ _ _ h => spLaw_spD h
end
end K18
open PySem PySem.W PyProof.Rows
set_option maxHeartbeats 0 in
theorem PySem.Challenge.cw_changestold_k18_whole_bytes_and_seals_holds : PySem.Challenge.rw_changestold_k18_whole_bytes_and_seals.Holds := by
  w_on; o_law; k_head; (case hw => w_witness2)
  k_fill
  refine L2.walk_of (l := PySem.Challenge.rw_changestold_k18_whole_bytes_and_seals) (n := 63) (k := 8) (x := "script") (CX := fun _ => L2.CX0) (sp := fun w => DL.spLaw _) rfl (by decide) rfl ⟨rfl, by decide, by decide⟩ (fun w h Y => PySem.W.kIn_of Y) ?F (fun _ _ a ns hl _ hS => ⟨a, ns, rfl, hS, hl, fun _ => rfl⟩) (fun _ _ _ _ _ h => h)
  case F =>
    intro w mg fa h KX G hmg
    refine' K18.all_mk KX G hmg ?a0 ?l0 ?c0 ?k0 ?a1 ?l1 ?c1 ?k1 ?a2 ?l2 ?c2 ?k2 ?a3 ?l3 ?c3 ?k3 ?a4 ?l4 ?c4 ?k4 ?a5 ?l5 ?c5 ?k5 ?a6 ?l6 ?c6 ?k6 ?a7 ?l7 ?c7 ?k7 ?a8 ?l8 ?c8 ?k8 ?a9 ?l9 ?c9 ?k9 ?a10 ?l10 ?c10 ?k10 ?a11 ?l11 ?c11 ?k11 ?a12 ?l12 ?c12 ?k12 ?a13 ?l13 ?c13 ?k13 ?a14 ?l14 ?c14 ?k14 ?a15 ?l15 ?c15 ?k15 ?a16 ?l16 ?c16 ?k16 ?a17 ?l17 ?c17 ?k17 ?z0 ?z1 ?z2 ?z3 ?z4 ?z5 ?z6 ?z7 ?z8 ?z9 ?z10 ?z11 ?z12 ?z13 ?z14 ?z15 ?m0 ?m1 ?m2 ?m3 ?m4 ?xa ?xl ?xsa ?xex ?xty ?xk ?xga ?xgg ?xhd ?xic ?xss ?xve ?xno ?xin ?xti ?xli ?xcd ?xlc ?xvs ?xfi ?xce ?xsu ?xop ?xms ?xto
    (case a0 => k_is); (case l0 => k_is); (case c0 => k_is); (case k0 => k_is); (case a1 => k_is); (case l1 => k_is); (case c1 => k_is); (case k1 => k_is); (case a2 => k_is); (case l2 => k_is); (case c2 => k_is); (case k2 => k_is); (case a3 => k_is); (case l3 => k_is); (case c3 => k_is); (case k3 => k_is); (case a4 => k_is); (case l4 => k_is); (case c4 => k_is); (case k4 => k_is); (case a5 => k_is); (case l5 => k_is); (case c5 => k_is); (case k5 => k_is); (case a6 => k_is); (case l6 => k_is); (case c6 => k_is); (case k6 => k_is); (case a7 => k_is); (case l7 => k_is); (case c7 => k_is); (case k7 => k_is); (case a8 => k_is); (case l8 => k_is); (case c8 => k_is); (case k8 => k_is); (case a9 => k_is); (case l9 => k_is); (case c9 => k_is); (case k9 => k_is); (case a10 => k_is); (case l10 => k_is); (case c10 => k_is); (case k10 => k_is); (case a11 => k_is); (case l11 => k_is); (case c11 => k_is); (case k11 => k_is); (case a12 => k_is); (case l12 => k_is); (case c12 => k_is); (case k12 => k_is); (case a13 => k_is); (case l13 => k_is); (case c13 => k_is); (case k13 => k_is); (case a14 => k_is); (case l14 => k_is); (case c14 => k_is); (case k14 => k_is); (case a15 => k_is); (case l15 => k_is); (case c15 => k_is); (case k15 => k_is); (case a16 => k_is); (case l16 => k_is); (case c16 => k_is); (case k16 => k_is); (case a17 => k_is); (case l17 => k_is); (case c17 => k_is); (case k17 => k_is); (case z0 => k_is); (case z1 => k_is); (case z2 => k_is); (case z3 => k_is); (case z4 => k_is); (case z5 => k_is); (case z6 => k_is); (case z7 => k_is); (case z8 => k_is); (case z9 => k_is); (case z10 => k_is); (case z11 => k_is); (case z12 => k_is); (case z13 => k_is); (case z14 => k_is); (case z15 => k_is); (case m0 => k_is); (case m1 => k_is); (case m2 => k_is); (case m3 => k_is); (case m4 => k_is); (case xa => k_is); (case xl => k_is); (case xsa => k_is); (case xex => k_is); (case xty => k_is); (case xk => k_is); (case xga => k_is); (case xgg => k_is); (case xhd => k_is); (case xic => k_is); (case xss => first | rfl | k_is); (case xve => k_is); (case xno => k_is); (case xin => k_is); (case xti => k_is); (case xli => k_is); (case xcd => k_is); (case xlc => k_is); (case xvs => rfl); (case xfi => first | rfl | decide +kernel); (case xce => k_is); (case xsu => ks_is); (case xop => k_is); (case xms => k_is); (case xto => first | rfl | decide +kernel)
