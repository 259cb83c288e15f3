import PyProof.Rows.All
import HandS.ForMost
import HandS.IsInst
import HandS.TupAny
import HandS.TupMul
import HandS.Style
import HandS.Walk
import KE.GoesEnum
import KE.KRevSl
import PyProof.ListRange
import HandS.Sort
import HandS.SortRule
import HandS.Exc
import HandS.ExcOwn
import HandS.WordsExc
import HandS.ExcField
import HandS.CallLocal
import HandS.ExcInit
import HandS.ExcSuper
import HandS.Nested
import KE.KExcSuper
import HandS.Iter
import HandS.Deep
import KE.DataMinMax
import KE.SortData
import KE.KDictDisplayH
import PyProof.WalksMore
import PyProof.SumWalkG
import HandS.Dict
import HandS.More
import HandS.SetFor
import HandS.Strs
import HandS.Replace
import HandS.Zip
import HandS.Conv
import PySem.Challenge.RW_changestold_k23_whole_parts_copied_anew
import HandS.Wide
set_option Elab.async false
set_option linter.all false
set_option maxRecDepth 100000
set_option maxHeartbeats 4000000
/-! DLa: plain data over the abstract heap: data D, frozen part G, mutable part M; judgements of expressions, tests, statements over data. -/
namespace DL
open PySem L2

/-- no star ahead of it -/
def nst : Expr → Bool
  | .Starred _ _ => false
  | _ => true
theorem star1 {e : Expr} {es : List Expr} {env : Env} (h : nst e = true) : starEach (e :: es) env = (false, eval e env) :: starEach es env := by
  cases e <;> first | rfl | exact absurd (show false = true from h) Bool.false_ne_true
theorem star1n {e : Expr} {env : Env} (h : nst e = true) : starEach [e] env = [(false, eval e env)] := star1 h
theorem star2n {a b : Expr} {env : Env} (h : nst a = true) (h2 : nst b = true) : starEach [a, b] env = [(false, eval a env), (false, eval b env)] := by rw [star1 h, star1n h2]
theorem starN {env : Env} {pos : Pos} : ∀ {es : List Expr}, es.all nst = true → (backTo pos (starEach es env)).any (·.1) = false
  | [], _ => rfl
  | e :: es, h => by
    have q := Bool.and_eq_true_iff.mp h
    rw [star1 q.1]
    show (false || (backTo pos (starEach es env)).any (·.1)) = false
    rw [Bool.false_or]
    exact starN q.2
/-- plain data; ptr: a mutable object by its address; scr: the script -/
inductive D where
  | non | bl (b : Bool) | int (i : Int) | str (x : Str) | tup (ds : List D) | lst (ds : List D) | ptr (a : Addr) | scr (ns : List Int)

mutual
/-- the value v is the datum d, its tuples and lists standing in G -/
inductive Rp (K : PySem.W.Frag) (G : Hp) : V → D → Prop
  | non : Rp K G .non .non
  | bl (b : Bool) : Rp K G (.bl b) (.bl b)
  | int (i : Int) : Rp K G (.int i) (.int i)
  | str (x : Str) : Rp K G (.str x) (.str x)
  | tup {a : Addr} {xs : List V} {ds : List D} : G a = some (.tup xs) → RpA K G xs ds → Rp K G (.ref a) (.tup ds)
  | lst {a : Addr} {xs : List V} {ds : List D} : G a = some (.lst xs) → RpA K G xs ds → Rp K G (.ref a) (.lst ds)
  | ptr (a : Addr) : Rp K G (.ref a) (.ptr a)
  | scr {a : Addr} {ns : List Int} : SqL K G a (ns.map V.int) → Rp K G (.ref a) (.scr ns)
inductive RpA (K : PySem.W.Frag) (G : Hp) : List V → List D → Prop
  | nil : RpA K G [] []
  | cons {v : V} {d : D} {vs : List V} {ds : List D} : Rp K G v d → RpA K G vs ds → RpA K G (v :: vs) (d :: ds)
end

/-- G' knows all that G knows -/
def Gx (G G' : Hp) : Prop := ∀ a o, G a = some o → G' a = some o
theorem Gx.refl (G : Hp) : Gx G G := fun _ _ h => h
theorem Gx.trans {G G1 G2 : Hp} (a : Gx G G1) (b : Gx G1 G2) : Gx G G2 := fun x o h => b x o (a x o h)
section
variable {K : PySem.W.Frag} {G G' : Hp} {a : Addr} {xs : List V}
theorem Gx.rd {u : HO} (e : Gx G G') (h : Rd G a u) : Rd G' a u := by
  rcases h with h | ⟨o, h⟩
  · exact .inl (e _ _ h)
  · exact .inr ⟨o, e _ _ h⟩
theorem Gx.sl (e : Gx G G') (h : SqL K G a xs) : SqL K G' a xs := by
  rcases h with h | h
  · exact .inl (e.rd h)
  · exact .inr h
theorem Gx.st (e : Gx G G') (h : SqT K G a xs) : SqT K G' a xs := by
  rcases h with h | h
  · exact .inl (e.rd h)
  · exact .inr h
mutual
theorem Rp.mono (e : Gx G G') : ∀ {v : V} {d : D}, Rp K G v d → Rp K G' v d
  | _, _, .non => .non
  | _, _, .bl b => .bl b
  | _, _, .int i => .int i
  | _, _, .str x => .str x
  | _, _, .tup h r => .tup (e _ _ h) (RpA.mono e r)
  | _, _, .lst h r => .lst (e _ _ h) (RpA.mono e r)
  | _, _, .ptr a => .ptr a
  | _, _, .scr h => .scr (e.sl h)
theorem RpA.mono (e : Gx G G') : ∀ {vs : List V} {ds : List D}, RpA K G vs ds → RpA K G' vs ds
  | _, _, .nil => .nil
  | _, _, .cons h r => .cons (Rp.mono e h) (RpA.mono e r)
end
theorem RpA.length : ∀ {vs : List V} {ds : List D}, RpA K G vs ds → vs.length = ds.length
  | _, _, .nil => rfl
  | _, _, .cons _ r => congrArg (· + 1) r.length
theorem RpA.get : ∀ {vs : List V} {ds : List D} {i : Nat} {d : D}, RpA K G vs ds → ds[i]? = some d → ∃ v, vs[i]? = some v ∧ Rp K G v d
  | _, _, i, _, .nil, h => by simp at h
  | _, _, 0, _, .cons h _, e => by
    simp at e
    subst e
    exact ⟨_, rfl, h⟩
  | _, _, i + 1, d, .cons _ r, e => by
    obtain ⟨v, h1, h2⟩ := RpA.get (i := i) (d := d) r (by simpa using e)
    exact ⟨v, by simpa using h1, h2⟩
theorem RpA.getV : ∀ {vs : List V} {ds : List D} {i : Nat} {v : V}, RpA K G vs ds → vs[i]? = some v → ∃ d, ds[i]? = some d ∧ Rp K G v d
  | _, _, i, _, .nil, h => by simp at h
  | _, _, 0, _, .cons h _, e => by
    simp at e
    subst e
    exact ⟨_, rfl, h⟩
  | _, _, i + 1, d, .cons _ r, e => by
    obtain ⟨v, h1, h2⟩ := RpA.getV (i := i) (v := d) r (by simpa using e)
    exact ⟨v, by simpa using h1, h2⟩
theorem RpA.append : ∀ {vs ws : List V} {ds es : List D}, RpA K G vs ds → RpA K G ws es → RpA K G (vs ++ ws) (ds ++ es)
  | _, _, _, _, .nil, s => s
  | _, _, _, _, .cons h r, s => .cons h (RpA.append r s)
theorem RpA.take : ∀ {vs : List V} {ds : List D} (n : Nat), RpA K G vs ds → RpA K G (vs.take n) (ds.take n)
  | _, _, 0, _ => .nil
  | _, _, _ + 1, .nil => .nil
  | _, _, n + 1, .cons h r => .cons h (RpA.take n r)
theorem RpA.drop : ∀ {vs : List V} {ds : List D} (n : Nat), RpA K G vs ds → RpA K G (vs.drop n) (ds.drop n)
  | _, _, 0, r => r
  | _, _, _ + 1, .nil => .nil
  | _, _, n + 1, .cons _ r => RpA.drop n r
theorem RpA.set {v : V} {d : D} (h : Rp K G v d) : ∀ {vs : List V} {ds : List D} (i : Nat), RpA K G vs ds → RpA K G (vs.set i v) (ds.set i d)
  | _, _, _, .nil => .nil
  | _, _, 0, .cons _ r => .cons h r
  | _, _, i + 1, .cons q r => .cons q (RpA.set h i r)
theorem RpA.reverse : ∀ {vs : List V} {ds : List D}, RpA K G vs ds → RpA K G vs.reverse ds.reverse
  | _, _, .nil => .nil
  | _, _, .cons h r => by
    rw [List.reverse_cons, List.reverse_cons]
    exact (RpA.reverse r).append (.cons h .nil)
theorem RpA.erase : ∀ {vs : List V} {ds : List D} (i : Nat), RpA K G vs ds → RpA K G (vs.eraseIdx i) (ds.eraseIdx i)
  | _, _, _, .nil => .nil
  | _, _, 0, .cons _ r => r
  | _, _, i + 1, .cons q r => .cons q (RpA.erase i r)
theorem RpA.rep {vs : List V} {ds : List D} (h : RpA K G vs ds) : ∀ k : Nat, RpA K G (List.replicate k vs).flatten (List.replicate k ds).flatten
  | 0 => .nil
  | k + 1 => by
    rw [List.replicate_succ, List.replicate_succ, List.flatten_cons, List.flatten_cons]
    exact h.append (RpA.rep h k)
theorem RpA.ints : ∀ {vs : List V} {ns : List Int}, RpA K G vs (ns.map D.int) → vs = ns.map V.int
  | _, [], .nil => rfl
  | _, n :: ns, .cons h r => by
    cases h
    rw [RpA.ints r]
    rfl
theorem rpa_ints : ∀ ns : List Int, RpA K G (ns.map V.int) (ns.map D.int)
  | [] => .nil
  | n :: ns => .cons (.int n) (rpa_ints ns)
theorem RpA.bls : ∀ {vs : List V} {bs : List Bool}, RpA K G vs (bs.map D.bl) → vs = bs.map V.bl
  | _, [], .nil => rfl
  | _, n :: ns, .cons h r => by
    cases h
    rw [RpA.bls r]
    rfl
end

/-! ### what may change -/
inductive MO where
  | lst (ds : List D)
  | ins (C : Addr) (fs : List (Str × D))
  | dic (kvs : List (Key × D))
  | dit (kvs : List (List Int × D))
  | fdc (o : Obj) (vs : List (Key × V)) (kvs : List (Key × D))
  | xd (fs : List (Str × D))
/-- where an exception's way out is told from -/
structure Base where
  G : Hp
  M : Addr → Option MO
  H : Hp
structure Mem where
  f : Addr → Option MO
  b : Base
instance : CoeFun Mem fun _ => Addr → Option MO := ⟨Mem.f⟩
def updM (M : Mem) (a : Addr) (o : Option MO) : Mem := ⟨fun b => if b = a then o else M b, M.b⟩
/-- another base -/
def Mem.rb (M : Mem) (b : Base) : Mem := ⟨M.f, b⟩
theorem updM_same {M : Mem} {a : Addr} {o : Option MO} : updM M a o a = o := if_pos rfl
theorem updM_ne {M : Mem} {a b : Addr} {o : Option MO} (h : b ≠ a) : updM M a o b = M b := if_neg h
def KVd {κ : Type} (K : PySem.W.Frag) (G : Hp) (vs : List (κ × V)) (ds : List (κ × D)) : Prop := vs.map (·.1) = ds.map (·.1) ∧ RpA K G (vs.map (·.2)) (ds.map (·.2))
def MRp (K : PySem.W.Frag) (G H : Hp) (a : Addr) : MO → Prop
  | .lst ds => ∃ xs, H a = some (.lst xs) ∧ RpA K G xs ds
  | .ins C fs => ∃ dx vs, H a = some (.ins C dx vs) ∧ KVd K G vs fs
  | .dic kvs => ∃ vs, H a = some (.dK vs) ∧ KVd K G vs kvs
  | .dit kvs => ∃ vs : List (List Key × V), H a = some (.dT vs) ∧ KVd K G vs (kvs.map fun p => (p.1.map Sum.inl, p.2))
  | .fdc o vs kvs => H a = some (.frz o (.dK vs)) ∧ KVd K G vs kvs
  | .xd fs => ∃ vs, H a = some (.xd vs) ∧ KVd K G vs fs
structure Wd (K : PySem.W.Frag) (G : Hp) (M : Mem) (H : Hp) : Prop where
  sub : Gx G H
  mem : ∀ a mo, M a = some mo → G a = none ∧ MRp K G H a mo
  hist : ∀ a o, M.b.H a = some o → M.b.M a = none → H a = some o ∧ G a = M.b.G a ∧ M a = none
structure Stp (G : Hp) (M : Mem) (H : Hp) (G' : Hp) (M' : Mem) (H' : Hp) : Prop where
  keep : ∀ a o, H a = some o → M a = none → H' a = some o ∧ G' a = G a ∧ M' a = none
  base : M'.b = M.b
section
variable {K : PySem.W.Frag} {G G' G1 G2 H H' H1 H2 : Hp} {M M' M1 M2 : Mem} {a p : Addr}
theorem MRp.there {mo : MO} (h : MRp K G H a mo) : ∃ o, H a = some o := by
  cases mo with
  | lst ds => obtain ⟨xs, e, _⟩ := h; exact ⟨_, e⟩
  | ins C fs => obtain ⟨_, _, e, _⟩ := h; exact ⟨_, e⟩
  | dic kvs => obtain ⟨_, e, _⟩ := h; exact ⟨_, e⟩
  | dit kvs => obtain ⟨_, e, _⟩ := h; exact ⟨_, e⟩
  | fdc o vs kvs => obtain ⟨e, _⟩ := h; exact ⟨_, e⟩
  | xd fs => obtain ⟨_, e, _⟩ := h; exact ⟨_, e⟩
theorem MRp.carry {mo : MO} (h : MRp K G H a mo) (e : Gx G G') (hh : H' a = H a) : MRp K G' H' a mo := by
  cases mo with
  | lst ds => obtain ⟨xs, q, r⟩ := h; exact ⟨xs, by rw [hh]; exact q, r.mono e⟩
  | ins C fs => obtain ⟨dx, vs, q, k, r⟩ := h; exact ⟨dx, vs, by rw [hh]; exact q, k, r.mono e⟩
  | dic kvs => obtain ⟨vs, q, k, r⟩ := h; exact ⟨vs, by rw [hh]; exact q, k, r.mono e⟩
  | dit kvs => obtain ⟨vs, q, k, r⟩ := h; exact ⟨vs, by rw [hh]; exact q, k, r.mono e⟩
  | fdc o vs kvs => obtain ⟨q, k, r⟩ := h; exact ⟨by rw [hh]; exact q, k, r.mono e⟩
  | xd fs => obtain ⟨vs, q, k, r⟩ := h; exact ⟨vs, by rw [hh]; exact q, k, r.mono e⟩
theorem Wd.free (w : Wd K G M H) (h : H p = none) : G p = none ∧ M p = none := by
  refine ⟨?_, ?_⟩
  · cases e : G p with
    | none => rfl
    | some o => rw [w.sub _ _ e] at h; cases h
  · cases e : M p with
    | none => rfl
    | some o =>
      obtain ⟨u, q⟩ := (w.mem _ _ e).2.there
      rw [q] at h; cases h
theorem Stp.refl : Stp G M H G M H := ⟨fun _ _ h m => ⟨h, rfl, m⟩, rfl⟩
theorem Stp.trans (a : Stp G M H G1 M1 H1) (b : Stp G1 M1 H1 G2 M2 H2) : Stp G M H G2 M2 H2 := ⟨fun x o h m => by
  obtain ⟨h1, g1, m1⟩ := a.keep x o h m
  obtain ⟨h2, g2, m2⟩ := b.keep x o h1 m1
  exact ⟨h2, g2.trans g1, m2⟩, b.base.trans a.base⟩
/-- the way from the base, one step longer -/
theorem Wd.far (w : Wd K G M H) (s : Stp G M H G' M' H') : ∀ a o, M'.b.H a = some o → M'.b.M a = none → H' a = some o ∧ G' a = M'.b.G a ∧ M' a = none := fun x o h m => by
  rw [s.base] at h m ⊢
  obtain ⟨h1, g1, m1⟩ := w.hist x o h m
  obtain ⟨h2, g2, m2⟩ := s.keep x o h1 m1
  exact ⟨h2, g2.trans g1, m2⟩
theorem Wd.fresh (w : Wd K G M H) (h : H p = none) {o : HO} (e : M.b.H p = some o) (m : M.b.M p = none) : False := by
  rw [(w.hist p o e m).1] at h
  cases h
theorem Stp.gx (s : Stp G M H G' M' H') (w : Wd K G M H) : Gx G G' := fun x o h => by
  have m : M x = none := by
    cases e : M x with
    | none => rfl
    | some mo => rw [(w.mem _ _ e).1] at h; cases h
  rw [(s.keep x o (w.sub _ _ h) m).2.1, h]
theorem gx_new (w : Wd K G M H) (h : H p = none) {o : HO} : Gx G (upd G p o) := fun x u e => by
  rw [upd_ne (ne_of_none e (w.free h).1)]
  exact e
/-- a new frozen object -/
theorem Wd.new (w : Wd K G M H) (h : H p = none) {o : HO} : Wd K (upd G p o) M (upd H p o) ∧ Stp G M H (upd G p o) M (upd H p o) := by
  have g := w.free h
  have st : Stp G M H (upd G p o) M (upd H p o) := ⟨fun x u e m => by
    have hx : x ≠ p := ne_of_none e h
    exact ⟨by rw [upd_ne hx]; exact e, upd_ne hx, m⟩, rfl⟩
  refine ⟨⟨fun x u e => ?_, fun x mo e => ?_, w.far st⟩, st⟩
  · by_cases hx : x = p
    · subst hx; rw [upd_same] at e ⊢; exact e
    · rw [upd_ne hx] at e ⊢; exact w.sub _ _ e
  · have hx : x ≠ p := fun z => by subst z; rw [g.2] at e; cases e
    obtain ⟨h1, h2⟩ := w.mem _ _ e
    exact ⟨by rw [upd_ne hx]; exact h1, h2.carry (gx_new w h) (upd_ne hx)⟩
/-- a new mutable object -/
theorem Wd.newM (w : Wd K G M H) (h : H p = none) {o : HO} {mo : MO} (r : MRp K G (upd H p o) p mo) : Wd K G (updM M p (some mo)) (upd H p o) ∧ Stp G M H G (updM M p (some mo)) (upd H p o) := by
  have g := w.free h
  have st : Stp G M H G (updM M p (some mo)) (upd H p o) := ⟨fun x u e m => by
    have hx : x ≠ p := ne_of_none e h
    exact ⟨by rw [upd_ne hx]; exact e, rfl, by rw [updM_ne hx]; exact m⟩, rfl⟩
  refine ⟨⟨fun x u e => ?_, fun x m e => ?_, w.far st⟩, st⟩
  · rw [upd_ne (ne_of_none (w.sub _ _ e) h)]; exact w.sub _ _ e
  · by_cases hx : x = p
    · subst hx; rw [updM_same] at e; cases e; exact ⟨g.1, r⟩
    · rw [updM_ne hx] at e
      obtain ⟨h1, h2⟩ := w.mem _ _ e
      exact ⟨h1, h2.carry (Gx.refl G) (upd_ne hx)⟩
/-- a mutable object written -/
theorem Wd.write (w : Wd K G M H) {m0 mo : MO} (hm : M p = some m0) {o : HO} (r : MRp K G (upd H p o) p mo) : Wd K G (updM M p (some mo)) (upd H p o) ∧ Stp G M H G (updM M p (some mo)) (upd H p o) := by
  have g := (w.mem _ _ hm).1
  have st : Stp G M H G (updM M p (some mo)) (upd H p o) := ⟨fun x u e m => by
    have hx : x ≠ p := fun z => by subst z; rw [hm] at m; cases m
    exact ⟨by rw [upd_ne hx]; exact e, rfl, by rw [updM_ne hx]; exact m⟩, rfl⟩
  refine ⟨⟨fun x u e => ?_, fun x m e => ?_, w.far st⟩, st⟩
  · rw [upd_ne (ne_of_none e g)]; exact w.sub _ _ e
  · by_cases hx : x = p
    · subst hx; rw [updM_same] at e; cases e; exact ⟨g, r⟩
    · rw [updM_ne hx] at e
      obtain ⟨h1, h2⟩ := w.mem _ _ e
      exact ⟨h1, h2.carry (Gx.refl G) (upd_ne hx)⟩

/-- a mutable list that nobody writes any more -/
theorem Wd.freeze (w : Wd K G M H) {ds : List D} (hm : M p = some (.lst ds)) : ∃ xs, H p = some (.lst xs) ∧ RpA K G xs ds ∧ Wd K (upd G p (.lst xs)) (updM M p none) H ∧ Stp G M H (upd G p (.lst xs)) (updM M p none) H ∧ Gx G (upd G p (.lst xs)) := by
  obtain ⟨g, xs, e, r⟩ := w.mem _ _ hm
  have gx : Gx G (upd G p (.lst xs)) := fun x u q => by rw [upd_ne (ne_of_none q g)]; exact q
  have st : Stp G M H (upd G p (.lst xs)) (updM M p none) H := ⟨fun x u q m => by
    have hx : x ≠ p := fun z => by subst z; rw [hm] at m; cases m
    exact ⟨q, upd_ne hx, by rw [updM_ne hx]; exact m⟩, rfl⟩
  refine ⟨xs, e, r, ⟨fun x u q => ?_, fun x m q => ?_, w.far st⟩, st, gx⟩
  · by_cases hx : x = p
    · subst hx; rw [upd_same] at q; cases q; exact e
    · rw [upd_ne hx] at q; exact w.sub _ _ q
  · have hx : x ≠ p := fun z => by subst z; rw [updM_same] at q; cases q
    rw [updM_ne hx] at q
    obtain ⟨h1, h2⟩ := w.mem _ _ q
    exact ⟨by rw [upd_ne hx]; exact h1, h2.carry gx rfl⟩
end

/-! ### the judgements -/
abbrev Sg := List (Option D)
structure SRp (K : PySem.W.Frag) (G : Hp) (sg : Sg) (σ : L2.St) : Prop where
  len : σ.length = sg.length
  at_ : ∀ (i : Nat) (d : D), sg[i]? = some (some d) → ∃ v, σ[i]? = some (some v) ∧ Rp K G v d
theorem SRp.mono {K : PySem.W.Frag} {G G' : Hp} {sg : Sg} {σ : L2.St} (e : Gx G G') (r : SRp K G sg σ) : SRp K G' sg σ := ⟨r.len, fun i d h => let ⟨v, a, b⟩ := r.at_ i d h; ⟨v, a, b.mono e⟩⟩
theorem SRp.set {K : PySem.W.Frag} {G : Hp} {sg : Sg} {σ : L2.St} {v : V} {d : D} (r : SRp K G sg σ) (i : Nat) (h : Rp K G v d) : SRp K G (sg.set i (some d)) (σ.set i (some v)) := by
  refine ⟨by simp [r.len], fun j e q => ?_⟩
  by_cases hj : i = j
  · subst hj
    by_cases hl : i < sg.length
    · rw [List.getElem?_set_self hl] at q
      cases q
      exact ⟨v, List.getElem?_set_self (by rw [r.len]; exact hl), h⟩
    · rw [List.getElem?_eq_none (by simpa using hl)] at q; cases q
  · rw [List.getElem?_set_ne hj] at q ⊢
    exact r.at_ j e q
/-- the end of an evaluation -/
def PV (K : PySem.W.Frag) (G : Hp) (M : Mem) (H : Hp) (Q : D → Mem → Prop) : VK := fun v H' => ∃ d G' M', Stp G M H G' M' H' ∧ Wd K G' M' H' ∧ Rp K G' v d ∧ Q d M'
def PB (K : PySem.W.Frag) (G : Hp) (M : Mem) (H : Hp) (Q : Bool → Mem → Prop) : Bool → Hp → Prop := fun b H' => ∃ G' M', Stp G M H G' M' H' ∧ Wd K G' M' H' ∧ Q b M'
def PL (K : PySem.W.Frag) (G : Hp) (M : Mem) (H : Hp) (Q : List D → Mem → Prop) : List V → Hp → Prop := fun vs H' => ∃ ds G' M', Stp G M H G' M' H' ∧ Wd K G' M' H' ∧ RpA K G' vs ds ∧ Q ds M'
def PN (K : PySem.W.Frag) (G : Hp) (M : Mem) (H : Hp) (Q : Sg → Mem → Prop) : L2.St → Hp → Prop := fun σ' H' => ∃ sg' G' M', Stp G M H G' M' H' ∧ Wd K G' M' H' ∧ SRp K G' sg' σ' ∧ Q sg' M'
structure EndsD where
  nx : Sg → Mem → Prop
  rt : D → Mem → Prop
  bk : Sg → Mem → Prop := fun _ _ => False
  ct : Sg → Mem → Prop := fun _ _ => False
def toE (K : PySem.W.Frag) (G : Hp) (M : Mem) (H : Hp) (E : EndsD) : Ends := { nx := PN K G M H E.nx, rt := PV K G M H E.rt, bk := PN K G M H E.bk, ct := PN K G M H E.ct }

/-- the weakest readings -/
structure tW (X : Cx) (e : Expr) (σ : L2.St) (H : Hp) (R : VK) : Prop where
  run : ∀ pins s, Inv X pins σ H s → wpAny (model X.prog X.w) X.A (eval e X.env) (EP X pins σ R) X.xe s
structure tWT (X : Cx) (e : Expr) (σ : L2.St) (H : Hp) (R : Bool → Hp → Prop) : Prop where
  run : ∀ pins s, Inv X pins σ H s → wpAny (model X.prog X.w) X.A (isTrue e X.env (eval e X.env)) (TP X pins σ R) X.xe s
structure tWW (X : Cx) (e : Expr) (σ : L2.St) (H : Hp) (R : Bool → Hp → Prop) : Prop where
  run : ∀ whole pins s, Inv X pins σ H s → wpAny (model X.prog X.w) X.A (isTrue e X.env whole) (TP X pins σ R) X.xe s
structure tWA (X : Cx) (es : List Expr) (σ : L2.St) (H : Hp) (R : List V → Hp → Prop) : Prop where
  run : ∀ pos pins s, Inv X pins σ H s → wpAny (model X.prog X.w) X.A (spliced (backTo pos (starEach es X.env))) (AP X pins σ R) X.xe s
structure tWS (X : Cx) (st : Stmt) (D : Ends) (σ : L2.St) (H : Hp) : Prop where
  run : ∀ pins s, Inv X pins σ H s → wpAny (model X.prog X.w) X.A (exec st X.env) (SP X pins D) X.xe s
structure tWSs (X : Cx) (st : List Stmt) (D : Ends) (σ : L2.St) (H : Hp) : Prop where
  run : ∀ pins s, Inv X pins σ H s → wpAny (model X.prog X.w) X.A (execs st X.env) (SP X pins D) X.xe s
structure gW (X : Cx) (tg : Expr) (v : V) (σ : L2.St) (H : Hp) (R : L2.St → Hp → Prop) : Prop where
  run : ∀ pins s u, Inv X pins σ H s → RelV v u → wpAny (model X.prog X.w) X.A (assign tg X.env u) (fun _ s' => ∃ σ' H', Inv X pins σ' H' s' ∧ R σ' H') X.xe s
section
variable {X : Cx}
theorem pe_w {e : Expr} : PE X e (tW X e) := ⟨fun pins s σ H Q I h => h.run pins s I⟩
theorem pt_w {e : Expr} : PT X e (tWT X e) := ⟨fun pins s σ H Q I h => h.run pins s I⟩
theorem pw_w {e : Expr} : PW X e (tWW X e) := ⟨fun wh pins s σ H Q I h => h.run wh pins s I⟩
theorem pa_w {es : List Expr} : PA X es (tWA X es) := ⟨fun pos pins s σ H Q I h => h.run pos pins s I⟩
theorem ps_w {st : Stmt} : PS X st (tWS X st) := ⟨fun pins s σ H Q I h => h.run pins s I⟩
theorem pss_w {st : List Stmt} : PSs X st (tWSs X st) := ⟨fun pins s σ H Q I h => h.run pins s I⟩
theorem pg_w {tg : Expr} : PG X tg (gW X tg) := ⟨fun pins s σ H v u Q I r h => h.run pins s u I r⟩

/-- e evaluates so that Q holds of its datum and the mutable part -/
def WE (X : Cx) (e : Expr) (sg : Sg) (M : Mem) (Q : D → Mem → Prop) : Prop := ∀ σ H G, Wd X.K G M H → SRp X.K G sg σ → tW X e σ H (PV X.K G M H Q)
def WT (X : Cx) (e : Expr) (sg : Sg) (M : Mem) (Q : Bool → Mem → Prop) : Prop := ∀ σ H G, Wd X.K G M H → SRp X.K G sg σ → tWT X e σ H (PB X.K G M H Q)
def WW (X : Cx) (e : Expr) (sg : Sg) (M : Mem) (Q : Bool → Mem → Prop) : Prop := ∀ σ H G, Wd X.K G M H → SRp X.K G sg σ → tWW X e σ H (PB X.K G M H Q)
def WA (X : Cx) (es : List Expr) (sg : Sg) (M : Mem) (Q : List D → Mem → Prop) : Prop := ∀ σ H G, Wd X.K G M H → SRp X.K G sg σ → tWA X es σ H (PL X.K G M H Q)
def WS (X : Cx) (st : Stmt) (sg : Sg) (M : Mem) (E : EndsD) : Prop := ∀ σ H G, Wd X.K G M H → SRp X.K G sg σ → tWS X st (toE X.K G M H E) σ H
def WSs (X : Cx) (st : List Stmt) (sg : Sg) (M : Mem) (E : EndsD) : Prop := ∀ σ H G, Wd X.K G M H → SRp X.K G sg σ → tWSs X st (toE X.K G M H E) σ H
/-- .. to one datum, nothing changing -/
abbrev EE (X : Cx) (e : Expr) (sg : Sg) (M : Mem) (d : D) : Prop := WE X e sg M fun x M' => x = d ∧ M' = M
abbrev ET (X : Cx) (e : Expr) (sg : Sg) (M : Mem) (b : Bool) : Prop := WT X e sg M fun x M' => x = b ∧ M' = M
abbrev EA (X : Cx) (es : List Expr) (sg : Sg) (M : Mem) (ds : List D) : Prop := WA X es sg M fun x M' => x = ds ∧ M' = M

theorem tW.imp {e : Expr} {σ : L2.St} {H : Hp} {R R' : VK} (h : tW X e σ H R) (k : ∀ v H', R v H' → R' v H') : tW X e σ H R' := ⟨fun pins s I => thn (h.run pins s I) fun u s' ⟨v, H', J, r, q⟩ => ⟨v, H', J, r, k v H' q⟩⟩
theorem tWT.imp {e : Expr} {σ : L2.St} {H : Hp} {R R' : Bool → Hp → Prop} (h : tWT X e σ H R) (k : ∀ v H', R v H' → R' v H') : tWT X e σ H R' := ⟨fun pins s I => thn (h.run pins s I) fun u s' ⟨H', J, q⟩ => ⟨H', J, k u H' q⟩⟩
theorem tWW.imp {e : Expr} {σ : L2.St} {H : Hp} {R R' : Bool → Hp → Prop} (h : tWW X e σ H R) (k : ∀ v H', R v H' → R' v H') : tWW X e σ H R' := ⟨fun wh pins s I => thn (h.run wh pins s I) fun u s' ⟨H', J, q⟩ => ⟨H', J, k u H' q⟩⟩
theorem tWA.imp {es : List Expr} {σ : L2.St} {H : Hp} {R R' : List V → Hp → Prop} (h : tWA X es σ H R) (k : ∀ v H', R v H' → R' v H') : tWA X es σ H R' := ⟨fun pos pins s I => thn (h.run pos pins s I) fun u s' ⟨v, H', J, r, q⟩ => ⟨v, H', J, r, k v H' q⟩⟩
theorem SP.imp {pins : List (Addr × Obj)} {D D' : Ends} {f : Flow} {s : Shared} (h : SP X pins D f s) (k1 : ∀ σ H, D.nx σ H → D'.nx σ H) (k2 : ∀ v H, D.rt v H → D'.rt v H) (k3 : ∀ σ H, D.bk σ H → D'.bk σ H) (k4 : ∀ σ H, D.ct σ H → D'.ct σ H) : SP X pins D' f s := by
  cases f with
  | next => obtain ⟨σ, H, I, q⟩ := h; exact ⟨σ, H, I, k1 _ _ q⟩
  | brk => obtain ⟨σ, H, I, q⟩ := h; exact ⟨σ, H, I, k3 _ _ q⟩
  | cont => obtain ⟨σ, H, I, q⟩ := h; exact ⟨σ, H, I, k4 _ _ q⟩
  | ret u => obtain ⟨v, σ, H, I, r, q⟩ := h; exact ⟨v, σ, H, I, r, k2 _ _ q⟩
theorem tWS.imp {st : Stmt} {σ : L2.St} {H : Hp} {D D' : Ends} (h : tWS X st D σ H) (k1 : ∀ σ H, D.nx σ H → D'.nx σ H) (k2 : ∀ v H, D.rt v H → D'.rt v H) (k3 : ∀ σ H, D.bk σ H → D'.bk σ H) (k4 : ∀ σ H, D.ct σ H → D'.ct σ H) : tWS X st D' σ H := ⟨fun pins s I => thn (h.run pins s I) fun f s' q => SP.imp q k1 k2 k3 k4⟩
theorem tWSs.imp {st : List Stmt} {σ : L2.St} {H : Hp} {D D' : Ends} (h : tWSs X st D σ H) (k1 : ∀ σ H, D.nx σ H → D'.nx σ H) (k2 : ∀ v H, D.rt v H → D'.rt v H) (k3 : ∀ σ H, D.bk σ H → D'.bk σ H) (k4 : ∀ σ H, D.ct σ H → D'.ct σ H) : tWSs X st D' σ H := ⟨fun pins s I => thn (h.run pins s I) fun f s' q => SP.imp q k1 k2 k3 k4⟩

section
variable {K : PySem.W.Frag} {G H H' : Hp} {M : Mem}
theorem PV.imp {Q Q' : D → Mem → Prop} {v : V} (h : PV K G M H Q v H') (k : ∀ d M', Q d M' → Q' d M') : PV K G M H Q' v H' := let ⟨d, G', M', s, w, r, q⟩ := h; ⟨d, G', M', s, w, r, k _ _ q⟩
theorem PV.base {Q : D → Mem → Prop} {v : V} {G1 H1 : Hp} {M1 : Mem} (s : Stp G M H G1 M1 H1) (h : PV K G1 M1 H1 Q v H') : PV K G M H Q v H' := let ⟨d, G', M', s', w, r, q⟩ := h; ⟨d, G', M', s.trans s', w, r, q⟩
theorem PB.base {Q : Bool → Mem → Prop} {v : Bool} {G1 H1 : Hp} {M1 : Mem} (s : Stp G M H G1 M1 H1) (h : PB K G1 M1 H1 Q v H') : PB K G M H Q v H' := let ⟨G', M', s', w, q⟩ := h; ⟨G', M', s.trans s', w, q⟩
theorem PL.base {Q : List D → Mem → Prop} {v : List V} {G1 H1 : Hp} {M1 : Mem} (s : Stp G M H G1 M1 H1) (h : PL K G1 M1 H1 Q v H') : PL K G M H Q v H' := let ⟨d, G', M', s', w, r, q⟩ := h; ⟨d, G', M', s.trans s', w, r, q⟩
theorem PN.base {Q : Sg → Mem → Prop} {σ : L2.St} {G1 H1 : Hp} {M1 : Mem} (s : Stp G M H G1 M1 H1) (h : PN K G1 M1 H1 Q σ H') : PN K G M H Q σ H' := let ⟨d, G', M', s', w, r, q⟩ := h; ⟨d, G', M', s.trans s', w, r, q⟩
theorem PV.here {Q : D → Mem → Prop} {v : V} {d : D} (w : Wd K G M H) (r : Rp K G v d) (q : Q d M) : PV K G M H Q v H := ⟨d, G, M, Stp.refl, w, r, q⟩
theorem PB.here {Q : Bool → Mem → Prop} {b : Bool} (w : Wd K G M H) (q : Q b M) : PB K G M H Q b H := ⟨G, M, Stp.refl, w, q⟩
end
theorem WE.imp {e : Expr} {sg : Sg} {M : Mem} {Q Q' : D → Mem → Prop} (h : WE X e sg M Q) (k : ∀ d M', Q d M' → Q' d M') : WE X e sg M Q' := fun σ H G w r => (h σ H G w r).imp fun v H' p => p.imp k
theorem WT.imp {e : Expr} {sg : Sg} {M : Mem} {Q Q' : Bool → Mem → Prop} (h : WT X e sg M Q) (k : ∀ d M', Q d M' → Q' d M') : WT X e sg M Q' := fun σ H G w r => (h σ H G w r).imp fun v H' ⟨G', M', a, b, q⟩ => ⟨G', M', a, b, k _ _ q⟩
theorem WW.imp {e : Expr} {sg : Sg} {M : Mem} {Q Q' : Bool → Mem → Prop} (h : WW X e sg M Q) (k : ∀ d M', Q d M' → Q' d M') : WW X e sg M Q' := fun σ H G w r => (h σ H G w r).imp fun v H' ⟨G', M', a, b, q⟩ => ⟨G', M', a, b, k _ _ q⟩
theorem WA.imp {es : List Expr} {sg : Sg} {M : Mem} {Q Q' : List D → Mem → Prop} (h : WA X es sg M Q) (k : ∀ d M', Q d M' → Q' d M') : WA X es sg M Q' := fun σ H G w r => (h σ H G w r).imp fun v H' ⟨d, G', M', a, b, c, q⟩ => ⟨d, G', M', a, b, c, k _ _ q⟩
structure EndsD.Le (E E' : EndsD) : Prop where
  nx : ∀ sg M, E.nx sg M → E'.nx sg M
  rt : ∀ d M, E.rt d M → E'.rt d M
  bk : ∀ sg M, E.bk sg M → E'.bk sg M
  ct : ∀ sg M, E.ct sg M → E'.ct sg M
theorem PN.imp {K : PySem.W.Frag} {G H H' : Hp} {M : Mem} {Q Q' : Sg → Mem → Prop} {σ : L2.St} (h : PN K G M H Q σ H') (k : ∀ d M', Q d M' → Q' d M') : PN K G M H Q' σ H' := let ⟨d, G', M', s, w, r, q⟩ := h; ⟨d, G', M', s, w, r, k _ _ q⟩
theorem WS.imp {st : Stmt} {sg : Sg} {M : Mem} {E E' : EndsD} (h : WS X st sg M E) (k : E.Le E') : WS X st sg M E' := fun σ H G w r => (h σ H G w r).imp (fun _ _ q => PN.imp q k.nx) (fun _ _ q => PV.imp q k.rt) (fun _ _ q => PN.imp q k.bk) (fun _ _ q => PN.imp q k.ct)
theorem WSs.imp {st : List Stmt} {sg : Sg} {M : Mem} {E E' : EndsD} (h : WSs X st sg M E) (k : E.Le E') : WSs X st sg M E' := fun σ H G w r => (h σ H G w r).imp (fun _ _ q => PN.imp q k.nx) (fun _ _ q => PV.imp q k.rt) (fun _ _ q => PN.imp q k.bk) (fun _ _ q => PN.imp q k.ct)
/-- a rule of the layer below, by its reading -/
theorem WE.of {e : Expr} {t : TE} {sg : Sg} {M : Mem} {Q : D → Mem → Prop} (h : PE X e t) (k : ∀ σ H G, Wd X.K G M H → SRp X.K G sg σ → t σ H (PV X.K G M H Q)) : WE X e sg M Q := fun σ H G w r => ⟨fun pins s I => h.run pins s σ H _ I (k σ H G w r)⟩
theorem WT.of {e : Expr} {t : TT} {sg : Sg} {M : Mem} {Q : Bool → Mem → Prop} (h : PT X e t) (k : ∀ σ H G, Wd X.K G M H → SRp X.K G sg σ → t σ H (PB X.K G M H Q)) : WT X e sg M Q := fun σ H G w r => ⟨fun pins s I => h.run pins s σ H _ I (k σ H G w r)⟩
theorem WW.of {e : Expr} {t : TT} {sg : Sg} {M : Mem} {Q : Bool → Mem → Prop} (h : PW X e t) (k : ∀ σ H G, Wd X.K G M H → SRp X.K G sg σ → t σ H (PB X.K G M H Q)) : WW X e sg M Q := fun σ H G w r => ⟨fun wh pins s I => h.run wh pins s σ H _ I (k σ H G w r)⟩
theorem WA.of {es : List Expr} {t : TA} {sg : Sg} {M : Mem} {Q : List D → Mem → Prop} (h : PA X es t) (k : ∀ σ H G, Wd X.K G M H → SRp X.K G sg σ → t σ H (PL X.K G M H Q)) : WA X es sg M Q := fun σ H G w r => ⟨fun pos pins s I => h.run pos pins s σ H _ I (k σ H G w r)⟩
theorem WS.of {st : Stmt} {t : TS} {sg : Sg} {M : Mem} {E : EndsD} (h : PS X st t) (k : ∀ σ H G, Wd X.K G M H → SRp X.K G sg σ → t (toE X.K G M H E) σ H) : WS X st sg M E := fun σ H G w r => ⟨fun pins s I => h.run pins s σ H _ I (k σ H G w r)⟩
theorem WSs.of {st : List Stmt} {t : TS} {sg : Sg} {M : Mem} {E : EndsD} (h : PSs X st t) (k : ∀ σ H G, Wd X.K G M H → SRp X.K G sg σ → t (toE X.K G M H E) σ H) : WSs X st sg M E := fun σ H G w r => ⟨fun pins s I => h.run pins s σ H _ I (k σ H G w r)⟩
theorem toE_base {K : PySem.W.Frag} {G H G1 H1 : Hp} {M M1 : Mem} {E : EndsD} {st : List Stmt} {σ : L2.St} {H0 : Hp} (s : Stp G M H G1 M1 H1) (h : tWSs X st (toE K G1 M1 H1 E) σ H0) : tWSs X st (toE K G M H E) σ H0 := h.imp (fun _ _ q => PN.base s q) (fun _ _ q => PV.base s q) (fun _ _ q => PN.base s q) (fun _ _ q => PN.base s q)
end
end DL
set_option Elab.async false
set_option linter.all false
set_option maxRecDepth 100000
set_option maxHeartbeats 4000000
/-! DLb: rules for expressions over data. -/
namespace DL
open PySem L2
section
variable {X : Cx} {sg : Sg} {M : Mem} {Q : D → Mem → Prop} {Qb : Bool → Mem → Prop} {pos : Pos} {K : PySem.W.Frag}

/-! ### names, constants -/
theorem we_v (i : Nat) {x : Str} {d : D} (hs : sg[i]? = some (some d)) (q : Q d M) (hN : X.N[i]? = some x := by rfl) (hv : Vis X.env.scope x := by first | exact Or.inl rfl | exact Or.inr (Or.inl rfl) | exact Or.inr (Or.inr rfl))
    (hd : (x == ("__debug__" : Str)) = false := by decide) (hcd : (x == ("__classdict__" : Str)) = false := by decide) : WE X (.Name x pos) sg M Q :=
  WE.of (pe_var hN hv hd hcd) fun σ H G w r => by
    obtain ⟨v, e, rp⟩ := r.at_ i d hs
    exact ⟨v, e, PV.here w rp q⟩
theorem we_int {i : Int} {j : Nat} (q : Q (.int i) M) : WE X (.Constant (.int i) j pos) sg M Q := WE.of pe_int fun σ H G w r => PV.here w (.int i) q
theorem we_bl {b : Bool} {j : Nat} (q : Q (.bl b) M) : WE X (.Constant (.bool b) j pos) sg M Q := WE.of pe_bl fun σ H G w r => PV.here w (.bl b) q
theorem we_non {j : Nat} (q : Q .non M) : WE X (.Constant .none j pos) sg M Q := WE.of pe_non fun σ H G w r => PV.here w .non q
theorem we_str {x : Str} {j : Nat} (q : Q (.str x) M) : WE X (.Constant (.str x) j pos) sg M Q := WE.of pe_str fun σ H G w r => PV.here w (.str x) q
/-- a module's constant int -/
theorem we_gi {x : Str} {i : Int} {t : Tok} (hm : X.mg x = some (.int i t)) (q : Q (.int i) M) (hg : Gl X x := by rfl) (hd : (x == ("__debug__" : Str)) = false := by decide) : WE X (.Name x pos) sg M Q := WE.of (pe_glob (v := .int i) hg hm (show ∃ t', Value.int i t = Value.int i t' from ⟨t, rfl⟩) hd) fun σ H G w r => PV.here w (.int i) q
theorem we_gs {x y : Str} {t : Tok} (hm : X.mg x = some (.str y t)) (q : Q (.str y) M) (hg : Gl X x := by rfl) (hd : (x == ("__debug__" : Str)) = false := by decide) : WE X (.Name x pos) sg M Q := WE.of (pe_glob (v := .str y) hg hm (show ∃ t', Value.str y t = Value.str y t' from ⟨t, rfl⟩) hd) fun σ H G w r => PV.here w (.str y) q

/-! ### two-place operators -/
def OpD (K : PySem.W.Frag) (r : R2) (x y : D) (M : Mem) (Q : D → Mem → Prop) : Prop := ∀ (G H : Hp) (v u : V) (R : VK), Wd K G M H → Rp K G v x → Rp K G u y → (∀ z H', PV K G M H Q z H' → R z H') → r v u H R
theorem two {a b : Expr} {r : R2} {Qa : D → Mem → Prop} (ha : WE X a sg M Qa) (hb : ∀ x M1, Qa x M1 → WE X b sg M1 fun y M2 => OpD X.K r x y M2 Q) {σ : L2.St} {H G : Hp} (w : Wd X.K G M H) (s : SRp X.K G sg σ) : tOp r (tW X a) (tW X b) σ H (PV X.K G M H Q) :=
  (ha σ H G w s).imp fun v H1 ⟨x, G1, M1, st, w1, r1, q1⟩ => (hb x M1 q1 σ H1 G1 w1 (s.mono (st.gx w))).imp fun u H2 ⟨y, G2, M2, st2, w2, r2, q2⟩ => q2 G2 H2 v u _ w2 (r1.mono (st2.gx w1)) r2 fun z H' h => h.base (st.trans st2)
theorem we_op {op : Operator} {a b : Expr} {r : R2} {Qa : D → Mem → Prop} (ho : OpR X (binaryOp op) r) (ha : WE X a sg M Qa) (hb : ∀ x M1, Qa x M1 → WE X b sg M1 fun y M2 => OpD X.K r x y M2 Q) : WE X (.BinOp a op b pos) sg M Q := WE.of (pe_op ho pe_w pe_w) fun σ H G w s => two ha hb w s
theorem ee_op {op : Operator} {a b : Expr} {r : R2} {x y : D} (ho : OpR X (binaryOp op) r) (ha : EE X a sg M x) (hb : EE X b sg M y) (hr : OpD X.K r x y M Q) : WE X (.BinOp a op b pos) sg M Q := we_op ho ha fun x' M1 ⟨e1, e2⟩ => by
  subst e1; subst e2
  exact hb.imp fun y' M2 ⟨e1, e2⟩ => by subst e1; subst e2; exact hr
theorem we_cmp {op : CmpOp} {a b : Expr} {r : R2} {Qa : D → Mem → Prop} (ho : OpR X (compareOp op) r) (ha : WE X a sg M Qa) (hb : ∀ x M1, Qa x M1 → WE X b sg M1 fun y M2 => OpD X.K r x y M2 Q) (hm : behindInMarks op b = false := by first | exact nomark _ | rfl) : WE X (.Compare a [op] [b] pos) sg M Q := WE.of (pe_cmpR ho pe_w pe_w hm) fun σ H G w s => two ha hb w s
theorem ee_cmp {op : CmpOp} {a b : Expr} {r : R2} {x y : D} (ho : OpR X (compareOp op) r) (ha : EE X a sg M x) (hb : EE X b sg M y) (hr : OpD X.K r x y M Q) (hm : behindInMarks op b = false := by first | exact nomark _ | rfl) : WE X (.Compare a [op] [b] pos) sg M Q := we_cmp ho ha (fun x' M1 ⟨e1, e2⟩ => by
  subst e1; subst e2
  exact hb.imp fun y' M2 ⟨e1, e2⟩ => by subst e1; subst e2; exact hr) hm
/-- a comparison as a test -/
theorem wt_cmp {op : CmpOp} {a b : Expr} {r : R2} {Qa : D → Mem → Prop} (ho : OpR X (compareOp op) r) (ha : WE X a sg M Qa) (hb : ∀ x M1, Qa x M1 → WE X b sg M1 fun y M2 => OpD X.K r x y M2 fun z M3 => ∃ k, z = .bl k ∧ Qb k M3) (hm : behindInMarks op b = false := by first | exact nomark _ | rfl) : WT X (.Compare a [op] [b] pos) sg M Qb :=
  WT.of (pt_cmpR ho pe_w pe_w hm) fun σ H G w s => by
    refine (ha σ H G w s).imp fun v H1 ⟨x, G1, M1, st, w1, r1, q1⟩ => (hb x M1 q1 σ H1 G1 w1 (s.mono (st.gx w))).imp fun u H2 ⟨y, G2, M2, st2, w2, r2, q2⟩ => q2 G2 H2 v u _ w2 (r1.mono (st2.gx w1)) r2 fun z H' h => ?_
    obtain ⟨d, G', M', s', w', r', k, rfl, q⟩ := h
    cases r'
    exact ⟨k, rfl, G', M', (st.trans st2).trans s', w', q⟩
theorem et_cmp {op : CmpOp} {a b : Expr} {r : R2} {x y : D} (ho : OpR X (compareOp op) r) (ha : EE X a sg M x) (hb : EE X b sg M y) (hr : OpD X.K r x y M fun z M3 => ∃ k, z = .bl k ∧ Qb k M3) (hm : behindInMarks op b = false := by first | exact nomark _ | rfl) : WT X (.Compare a [op] [b] pos) sg M Qb := wt_cmp ho ha (fun x' M1 ⟨e1, e2⟩ => by
  subst e1; subst e2
  exact hb.imp fun y' M2 ⟨e1, e2⟩ => by subst e1; subst e2; exact hr) hm
/-- a < b < c -/
def tri (X : Cx) (a b c : Expr) (r r' : R2) (sg : Sg) (M : Mem) (Q : Bool → Mem → Prop) : Prop := WE X a sg M fun x M1 => WE X b sg M1 fun y M2 => OpD X.K r x y M2 fun z M3 => ∃ k, z = .bl k ∧ (k = false → Q false M3) ∧ (k = true → WE X c sg M3 fun u M4 => OpD X.K r' y u M4 fun z M5 => ∃ k, z = .bl k ∧ Q k M5)
theorem tri_run {a b c : Expr} {r r' : R2} (h : tri X a b c r r' sg M Qb) {σ : L2.St} {H G : Hp} {R : VK} (w : Wd X.K G M H) (s : SRp X.K G sg σ) (hR : ∀ k H', PB X.K G M H Qb k H' → R (.bl k) H') : tChain r r' (tW X a) (tW X b) (tW X c) σ H R := by
  refine (h σ H G w s).imp fun v H1 ⟨x, G1, M1, st, w1, r1, q1⟩ => (q1 σ H1 G1 w1 (s.mono (st.gx w))).imp fun u H2 ⟨y, G2, M2, st2, w2, r2, q2⟩ => q2 G2 H2 v u _ w2 (r1.mono (st2.gx w1)) r2 fun z H' h => ?_
  obtain ⟨d, G3, M3, st3, w3, r3, k, rfl, q0, q1'⟩ := h
  cases r3
  refine ⟨k, rfl, ?_⟩
  cases k with
  | false => exact hR false H' ⟨G3, M3, (st.trans st2).trans st3, w3, q0 rfl⟩
  | true =>
    refine (q1' rfl σ H' G3 w3 (s.mono (((st.trans st2).trans st3).gx w))).imp fun t H4 ⟨z, G4, M4, st4, w4, r4, q4⟩ => q4 G4 H4 u t _ w4 (r2.mono ((st3.trans st4).gx w2)) r4 fun z' H5 h5 => ?_
    obtain ⟨d, G5, M5, st5, w5, r5, k, rfl, q5⟩ := h5
    cases r5
    exact hR k H5 ⟨G5, M5, (((st.trans st2).trans st3).trans st4).trans st5, w5, q5⟩
theorem we_chain {op op' : CmpOp} {a b c : Expr} {r r' : R2} (ho : OpR X (compareOp op) r) (ho' : OpR X (compareOp op') r') (h : tri X a b c r r' sg M fun k M1 => Q (.bl k) M1) (hm : lastMarks [op, op'] [b, c] = false := by with_unfolding_all rfl) : WE X (.Compare a [op, op'] [b, c] pos) sg M Q :=
  WE.of (pe_chain ho ho' pe_w pe_w pe_w hm) fun σ H G w s => tri_run h w s fun k H' ⟨G', M', st, w', q⟩ => ⟨.bl k, G', M', st, w', .bl k, q⟩
theorem wt_chain {op op' : CmpOp} {a b c : Expr} {r r' : R2} (ho : OpR X (compareOp op) r) (ho' : OpR X (compareOp op') r') (h : tri X a b c r r' sg M Qb) (hm : lastMarks [op, op'] [b, c] = false := by with_unfolding_all rfl) : WT X (.Compare a [op, op'] [b, c] pos) sg M Qb :=
  WT.of (pt_chain ho ho' pe_w pe_w pe_w hm) fun σ H G w s => tri_run h w s fun k H' q => ⟨k, rfl, q⟩
/-- three ints -/
theorem tri_I {a b c : Expr} {p p' : Int → Int → Bool} {i j l : Int} (ha : EE X a sg M (.int i)) (hb : EE X b sg M (.int j)) (hc : EE X c sg M (.int l)) (q : Qb (p i j && p' j l) M) : tri X a b c (rI0 fun i j => .bl (p i j)) (rI0 fun i j => .bl (p' i j)) sg M Qb :=
  ha.imp fun x M1 ⟨e1, e2⟩ => by
    subst e1; subst e2
    exact hb.imp fun y M2 ⟨e1, e2⟩ => by
      subst e1; subst e2
      intro G H v u R w rx ry k
      cases rx; cases ry
      refine ⟨i, j, rfl, rfl, k _ _ (PV.here w (.bl _) ⟨p i j, rfl, fun e => ?_, fun e => hc.imp fun z M3 ⟨e1, e2⟩ => ?_⟩)⟩
      · rw [e] at q; exact q
      · subst e1; subst e2
        intro G H v u R w rx ry k
        cases rx; cases ry
        refine ⟨j, l, rfl, rfl, k _ _ (PV.here w (.bl _) ⟨p' j l, rfl, ?_⟩)⟩
        rw [e, Bool.true_and] at q; exact q
/-! the operators by data -/
theorem od_I0 {f : Int → Int → Int} {i j : Int} (q : Q (.int (f i j)) M) : OpD K (rI0 fun i j => .int (f i j)) (.int i) (.int j) M Q := fun G H v u R w rx ry k => by
  cases rx; cases ry
  exact ⟨i, j, rfl, rfl, k _ _ (PV.here w (.int _) q)⟩
theorem od_I {C : Int → Int → Prop} {f : Int → Int → Int} {i j : Int} (c : C i j) (q : Q (.int (f i j)) M) : OpD K (rI C fun i j => .int (f i j)) (.int i) (.int j) M Q := fun G H v u R w rx ry k => by
  cases rx; cases ry
  exact ⟨i, j, rfl, rfl, c, k _ _ (PV.here w (.int _) q)⟩
theorem od_B0 {f : Int → Int → Bool} {i j : Int} (q : Q (.bl (f i j)) M) : OpD K (rI0 fun i j => .bl (f i j)) (.int i) (.int j) M Q := fun G H v u R w rx ry k => by
  cases rx; cases ry
  exact ⟨i, j, rfl, rfl, k _ _ (PV.here w (.bl _) q)⟩
theorem od_catS {x y : Str} (h : x.length + y.length ≤ sizeLine) (q : Q (.str (x ++ y)) M) : OpD K (fun x y H Q => ∃ i j, x = .str i ∧ y = .str j ∧ i.length + j.length ≤ sizeLine ∧ Q (.str (i ++ j)) H) (.str x) (.str y) M Q := fun G H v u R w rx ry k => by
  cases rx; cases ry
  exact ⟨x, y, rfl, rfl, h, k _ _ (PV.here w (.str _) q)⟩
theorem new_tup {G H : Hp} {p : Addr} {xs : List V} {ds : List D} (w : Wd K G M H) (hp : H p = none) (r : RpA K G xs ds) (q : Q (.tup ds) M) : PV K G M H Q (.ref p) (upd H p (.tup xs)) := by
  obtain ⟨w', st⟩ := w.new hp (o := .tup xs)
  exact ⟨_, _, _, st, w', .tup upd_same (r.mono (gx_new w hp)), q⟩
theorem new_lst {G H : Hp} {p : Addr} {xs : List V} {ds : List D} (w : Wd K G M H) (hp : H p = none) (r : RpA K G xs ds) (q : Q (.lst ds) M) : PV K G M H Q (.ref p) (upd H p (.lst xs)) := by
  obtain ⟨w', st⟩ := w.new hp (o := .lst xs)
  exact ⟨_, _, _, st, w', .lst upd_same (r.mono (gx_new w hp)), q⟩
/-- .. that may change -/
theorem new_lstM {G H : Hp} {p : Addr} {xs : List V} {ds : List D} (w : Wd K G M H) (hp : H p = none) (r : RpA K G xs ds) (q : ∀ p, M p = none → Q (.ptr p) (updM M p (some (.lst ds)))) : PV K G M H Q (.ref p) (upd H p (.lst xs)) := by
  obtain ⟨w', st⟩ := w.newM hp (o := .lst xs) (mo := .lst ds) ⟨xs, upd_same, r⟩
  exact ⟨_, _, _, st, w', .ptr p, q p (w.free hp).2⟩
theorem od_catT {ds es : List D} (h : ds.length + es.length ≤ sizeLine) (q : Q (.tup (ds ++ es)) M) : OpD K (rCatA K) (.tup ds) (.tup es) M Q := fun G H v u R w rx ry k => by
  cases rx with
  | tup h1 r1 =>
    cases ry with
    | tup h2 r2 =>
      refine ⟨_, _, _, _, rfl, rfl, SqT.of (w.sub _ _ h1), SqT.of (w.sub _ _ h2), by rw [r1.length, r2.length]; exact h, fun e => ?_, fun e e2 => ?_, fun e e2 p hp => ?_⟩
      · subst e
        cases r1
        exact k _ _ (PV.here w (.tup h2 r2) q)
      · subst e2
        cases r2
        rw [List.append_nil] at q
        exact k _ _ (PV.here w (.tup h1 r1) q)
      · exact k _ _ (new_tup w hp (r1.append r2) q)
/-- a list as it stands: frozen, or one that may change -/
def LsD (M : Mem) (x : D) (ds : List D) : Prop := x = .lst ds ∨ ∃ p, x = .ptr p ∧ M p = some (.lst ds)
theorem LsD.at {x : D} {ds : List D} {v : V} {G H : Hp} (h : LsD M x ds) (w : Wd K G M H) (r : Rp K G v x) : ∃ a xs, v = .ref a ∧ H a = some (.lst xs) ∧ RpA K G xs ds := by
  rcases h with rfl | ⟨p, rfl, e⟩
  · cases r with
    | lst h1 r1 => exact ⟨_, _, rfl, w.sub _ _ h1, r1⟩
  · cases r
    obtain ⟨_, xs, h1, r1⟩ := w.mem _ _ e
    exact ⟨_, _, rfl, h1, r1⟩
theorem od_cat {x y : D} {ds es : List D} (hx : LsD M x ds) (hy : LsD M y es) (h : ds.length + es.length ≤ sizeLine) (q : Q (.lst (ds ++ es)) M) : OpD K rCat x y M Q := fun G H v u R w rx ry k => by
  obtain ⟨a, xs, rfl, h1, r1⟩ := hx.at w rx
  obtain ⟨b, ys, rfl, h2, r2⟩ := hy.at w ry
  exact ⟨a, b, xs, ys, rfl, rfl, h1, h2, by rw [r1.length, r2.length]; exact h, fun p hp => k _ _ (new_lst w hp (r1.append r2) q)⟩
theorem od_repT {ds : List D} {i : Int} (h0 : ds ≠ []) (h1 : 2 ≤ i) (h2 : i ≤ 1000) (h3 : ds.length ≤ 1000) (q : Q (.tup (List.replicate i.toNat ds).flatten) M) : OpD K (rRepT K) (.tup ds) (.int i) M Q := fun G H v u R w rx ry k => by
  cases ry
  cases rx with
  | tup e1 r1 => exact ⟨_, _, _, rfl, rfl, SqT.of (w.sub _ _ e1), fun e => h0 (by subst e; cases r1; rfl), h1, h2, by rw [r1.length]; exact h3, fun p hp => k _ _ (new_tup w hp (r1.rep _) q)⟩
theorem od_rep {x : D} {ds : List D} {i : Int} (hx : LsD M x ds) (h1 : -(2 ^ 63) ≤ i) (h2 : i < 2 ^ 63) (h3 : ds.length * i.toNat ≤ sizeLine) (q : Q (.lst (List.replicate i.toNat ds).flatten) M) : OpD K rRep x (.int i) M Q := fun G H v u R w rx ry k => by
  cases ry
  obtain ⟨a, xs, rfl, e1, r1⟩ := hx.at w rx
  exact ⟨a, i, xs, rfl, rfl, e1, h1, h2, by rw [r1.length]; exact h3, fun p hp => k _ _ (new_lst w hp (r1.rep _) q)⟩
/-- is None, is not None -/
def isNon : D → Bool
  | .non => true
  | _ => false
theorem Rp.non_iff {G : Hp} {v : V} {d : D} (r : Rp K G v d) : decide (v = .non) = isNon d := by cases r <;> rfl
theorem od_isN {x : D} (q : Q (.bl (isNon x)) M) : OpD K (fun x y H Q => y = .non ∧ Q (.bl (decide (x = .non))) H) x .non M Q := fun G H v u R w rx ry k => by
  cases ry
  refine ⟨rfl, k _ _ ?_⟩
  rw [rx.non_iff]
  exact PV.here w (.bl _) q
theorem od_notN {x : D} (q : Q (.bl (!isNon x)) M) : OpD K (fun x y H Q => y = .non ∧ Q (.bl (!decide (x = .non))) H) x .non M Q := fun G H v u R w rx ry k => by
  cases ry
  refine ⟨rfl, k _ _ ?_⟩
  rw [rx.non_iff]
  exact PV.here w (.bl _) q
/-- is, is not of two bools -/
theorem od_isB {a b : Bool} (q : Q (.bl (decide (a = b))) M) : OpD K rIsB (.bl a) (.bl b) M Q := fun G H v u R w rx ry k => by
  cases rx; cases ry
  exact ⟨a, b, rfl, rfl, k _ _ (PV.here w (.bl _) q)⟩
theorem od_notB {a b : Bool} (q : Q (.bl (!decide (a = b))) M) : OpD K rNotB (.bl a) (.bl b) M Q := fun G H v u R w rx ry k => by
  cases rx; cases ry
  exact ⟨a, b, rfl, rfl, k _ _ (PV.here w (.bl _) q)⟩
/-- == of ints, of texts -/
theorem od_eqI {i j : Int} (q : Q (.bl (decide (i = j))) M) : OpD K rEq (.int i) (.int j) M Q := fun G H v u R w rx ry k => by
  cases rx; cases ry
  have e : decide (V.int i = V.int j) = decide (i = j) := decide_eq_decide.mpr ⟨V.int.inj, congrArg _⟩
  refine ⟨rfl, k _ _ ?_⟩
  rw [e]
  exact PV.here w (.bl _) q
theorem od_neI {i j : Int} (q : Q (.bl (!decide (i = j))) M) : OpD K rNe (.int i) (.int j) M Q := fun G H v u R w rx ry k => by
  cases rx; cases ry
  have e : decide (V.int i = V.int j) = decide (i = j) := decide_eq_decide.mpr ⟨V.int.inj, congrArg _⟩
  refine ⟨rfl, k _ _ ?_⟩
  rw [e]
  exact PV.here w (.bl _) q
theorem od_eqS {i j : Str} (q : Q (.bl (decide (i = j))) M) : OpD K rEq (.str i) (.str j) M Q := fun G H v u R w rx ry k => by
  cases rx; cases ry
  have e : decide (V.str i = V.str j) = decide (i = j) := decide_eq_decide.mpr ⟨V.str.inj, congrArg _⟩
  refine ⟨rfl, k _ _ ?_⟩
  rw [e]
  exact PV.here w (.bl _) q
theorem od_neS {i j : Str} (q : Q (.bl (!decide (i = j))) M) : OpD K rNe (.str i) (.str j) M Q := fun G H v u R w rx ry k => by
  cases rx; cases ry
  have e : decide (V.str i = V.str j) = decide (i = j) := decide_eq_decide.mpr ⟨V.str.inj, congrArg _⟩
  refine ⟨rfl, k _ _ ?_⟩
  rw [e]
  exact PV.here w (.bl _) q
theorem od_eqB {i j : Bool} (q : Q (.bl (decide (i = j))) M) : OpD K rEq (.bl i) (.bl j) M Q := fun G H v u R w rx ry k => by
  cases rx; cases ry
  have e : decide (V.bl i = V.bl j) = decide (i = j) := decide_eq_decide.mpr ⟨V.bl.inj, congrArg _⟩
  refine ⟨rfl, k _ _ ?_⟩
  rw [e]
  exact PV.here w (.bl _) q

/-! ### == of data at any depth -/
mutual
def toPy : D → PyData
  | .non => .none
  | .bl b => .bool b
  | .int i => .int i
  | .str x => .str x
  | .tup ds => .tuple (toPyA ds)
  | .lst ds => .list (toPyA ds)
  | .ptr _ => .none
  | .scr ns => .list (ns.map .int)
def toPyA : List D → List PyData
  | [] => []
  | d :: ds => toPy d :: toPyA ds
end
mutual
/-- no mutable object within -/
def pl : D → Bool
  | .tup ds => plA ds
  | .lst ds => plA ds
  | .ptr _ => false
  | .scr _ => false
  | _ => true
def plA : List D → Bool
  | [] => true
  | d :: ds => pl d && plA ds
end
theorem dp_ints {H : Hp} : ∀ ns : List Int, DpAll K H (ns.map V.int) (ns.map PyData.int)
  | [] => .nil
  | n :: ns => .cons (.int n) (dp_ints ns)
mutual
theorem dp_of {G H : Hp} (e : Gx G H) : ∀ {v : V} {d : D}, Rp K G v d → pl d = true → Dp K H v (toPy d)
  | _, _, .non, _ => .non
  | _, _, .bl b, _ => .bl b
  | _, _, .int i, _ => .int i
  | _, _, .str x, _ => .str x
  | _, _, .tup h r, p => .tup (e.st (SqT.of h)) (dp_all e r p)
  | _, _, .lst h r, p => .lst (SqL.of (e _ _ h)) (dp_all e r p)
  | _, _, .ptr _, p => Bool.noConfusion (show false = true from p)
  | _, _, .scr _, p => Bool.noConfusion (show false = true from p)
theorem dp_all {G H : Hp} (e : Gx G H) : ∀ {vs : List V} {ds : List D}, RpA K G vs ds → plA ds = true → DpAll K H vs (toPyA ds)
  | _, _, .nil, _ => .nil
  | _, _, .cons h r, p => by
    have q := Bool.and_eq_true_iff.mp p
    exact .cons (dp_of e h q.1) (dp_all e r q.2)
end
/-- what a datum is told by, lists that may change at the top included -/
def PyD (M : Mem) (x : D) (d : PyData) : Prop := (pl x = true ∧ d = toPy x) ∨ ∃ ds, LsD M x ds ∧ plA ds = true ∧ d = .list (toPyA ds)
theorem PyD.dp {x : D} {d : PyData} {v : V} {G H : Hp} (h : PyD M x d) (w : Wd K G M H) (r : Rp K G v x) : Dp K H v d := by
  rcases h with ⟨p, rfl⟩ | ⟨ds, l, p, rfl⟩
  · exact dp_of w.sub r p
  · obtain ⟨a, xs, rfl, h1, r1⟩ := l.at w r
    exact .lst (SqL.of h1) (dp_all w.sub r1 p)
theorem od_eqD {x y : D} {d e : PyData} (hx : PyD M x d) (hy : PyD M y e) (sd : SeqAt.shaped d = true) (se : SeqAt.shaped e = true) (q : Q (.bl (PyData.eqv d e)) M) : OpD K (rEqD K) x y M Q := fun G H v u R w rx ry k =>
  ⟨d, e, hx.dp w rx, hy.dp w ry, sd, se, k _ _ (PV.here w (.bl _) q)⟩
theorem od_neD {x y : D} {d e : PyData} (hx : PyD M x d) (hy : PyD M y e) (sd : SeqAt.shaped d = true) (se : SeqAt.shaped e = true) (q : Q (.bl (!PyData.eqv d e)) M) : OpD K (rNeD K) x y M Q := fun G H v u R w rx ry k =>
  ⟨d, e, hx.dp w rx, hy.dp w ry, sd, se, k _ _ (PV.here w (.bl _) q)⟩

/-! ### truth, and, or, not, if -/
theorem wt_val {e : Expr} (h : WE X e sg M fun x M1 => ∃ k, x = .bl k ∧ Qb k M1) (he : ∀ whole, isTrue e X.env whole = (do let v ← whole; standAt e.pos; holding [v] (truthy v)) := by intro _; rfl) : WT X e sg M Qb := WT.of (pt_val pe_w he) fun σ H G w s =>
  (h σ H G w s).imp fun v H1 ⟨d, G', M', st, w', r, k, e, q⟩ => by
    subst e
    cases r
    exact ⟨k, rfl, G', M', st, w', q⟩
theorem wt_not {e : Expr} (h : WT X e sg M fun b M1 => Qb (!b) M1) : WT X (.UnaryOp .Not e pos) sg M Qb := WT.of (pt_not pt_w) fun σ H G w s => (h σ H G w s).imp fun v H1 ⟨G', M', st, w', q⟩ => ⟨G', M', st, w', q⟩
theorem ww_pt {e : Expr} (h : WW X e sg M Qb) : WT X e sg M Qb := fun σ H G w s => ⟨fun pins t I => (h σ H G w s).run _ pins t I⟩
theorem ww_and1 {e : Expr} (h : WT X e sg M Qb) : WW X (.BoolOp .And [e] pos) sg M Qb := WW.of (pw_and1 pt_w) fun σ H G w s => h σ H G w s
theorem ww_or1 {e : Expr} (h : WT X e sg M Qb) : WW X (.BoolOp .Or [e] pos) sg M Qb := WW.of (pw_or1 pt_w) fun σ H G w s => h σ H G w s
theorem ww_and {a b : Expr} {rest : List Expr} (h : WT X a sg M fun k M1 => (k = false → Qb false M1) ∧ (k = true → WW X (.BoolOp .And (b :: rest) pos) sg M1 Qb)) : WW X (.BoolOp .And (a :: b :: rest) pos) sg M Qb := WW.of (pw_and pt_w pw_w) fun σ H G w s => by
  refine (h σ H G w s).imp fun k H1 ⟨G1, M1, st, w1, q0, q1⟩ => ?_
  cases k with
  | true => exact (q1 rfl σ H1 G1 w1 (s.mono (st.gx w))).imp fun _ _ p => p.base st
  | false => exact ⟨G1, M1, st, w1, q0 rfl⟩
theorem ww_or {a b : Expr} {rest : List Expr} (h : WT X a sg M fun k M1 => (k = true → Qb true M1) ∧ (k = false → WW X (.BoolOp .Or (b :: rest) pos) sg M1 Qb)) : WW X (.BoolOp .Or (a :: b :: rest) pos) sg M Qb := WW.of (pw_or pt_w pw_w) fun σ H G w s => by
  refine (h σ H G w s).imp fun k H1 ⟨G1, M1, st, w1, q0, q1⟩ => ?_
  cases k with
  | false => exact (q1 rfl σ H1 G1 w1 (s.mono (st.gx w))).imp fun _ _ p => p.base st
  | true => exact ⟨G1, M1, st, w1, q0 rfl⟩
/-- as values: all but the last True or False -/
theorem we_one {op : BoolOp} {e : Expr} (h : WE X e sg M Q) : WE X (.BoolOp op [e] pos) sg M Q := WE.of (pe_one pe_w) fun σ H G w s => h σ H G w s
theorem we_and {a b : Expr} {rest : List Expr} (h : WE X a sg M fun x M1 => ∃ k, x = .bl k ∧ (k = false → Q (.bl false) M1) ∧ (k = true → WE X (.BoolOp .And (b :: rest) pos) sg M1 Q)) : WE X (.BoolOp .And (a :: b :: rest) pos) sg M Q := WE.of (pe_and pe_w pe_w) fun σ H G w s => by
  refine (h σ H G w s).imp fun v H1 ⟨d, G1, M1, st, w1, r1, k, e, q0, q1⟩ => ?_
  subst e
  cases r1
  refine ⟨k, rfl, ?_⟩
  cases k with
  | true => exact (q1 rfl σ H1 G1 w1 (s.mono (st.gx w))).imp fun _ _ p => p.base st
  | false => exact ⟨_, G1, M1, st, w1, .bl false, q0 rfl⟩
theorem we_or {a b : Expr} {rest : List Expr} (h : WE X a sg M fun x M1 => ∃ k, x = .bl k ∧ (k = true → Q (.bl true) M1) ∧ (k = false → WE X (.BoolOp .Or (b :: rest) pos) sg M1 Q)) : WE X (.BoolOp .Or (a :: b :: rest) pos) sg M Q := WE.of (pe_or pe_w pe_w) fun σ H G w s => by
  refine (h σ H G w s).imp fun v H1 ⟨d, G1, M1, st, w1, r1, k, e, q0, q1⟩ => ?_
  subst e
  cases r1
  refine ⟨k, rfl, ?_⟩
  cases k with
  | false => exact (q1 rfl σ H1 G1 w1 (s.mono (st.gx w))).imp fun _ _ p => p.base st
  | true => exact ⟨_, G1, M1, st, w1, .bl true, q0 rfl⟩
theorem we_not {e : Expr} (h : WE X e sg M fun x M1 => ∃ k, x = .bl k ∧ Q (.bl (!k)) M1) : WE X (.UnaryOp .Not e pos) sg M Q := WE.of (pe_not pe_w) fun σ H G w s => (h σ H G w s).imp fun v H1 ⟨d, G1, M1, st, w1, r1, k, e, q⟩ => by
  subst e
  cases r1
  exact ⟨k, rfl, _, G1, M1, st, w1, .bl _, q⟩
theorem we_if {c a b : Expr} (h : WT X c sg M fun k M1 => (k = true → WE X a sg M1 Q) ∧ (k = false → WE X b sg M1 Q)) : WE X (.IfExp c a b pos) sg M Q := WE.of (pe_ifExp pt_w pe_w pe_w) fun σ H G w s => by
  refine (h σ H G w s).imp fun k H1 ⟨G1, M1, st, w1, q1, q0⟩ => ?_
  cases k with
  | true => exact (q1 rfl σ H1 G1 w1 (s.mono (st.gx w))).imp fun _ _ p => p.base st
  | false => exact (q0 rfl σ H1 G1 w1 (s.mono (st.gx w))).imp fun _ _ p => p.base st
/-! .. where nothing changes -/
theorem ee_and {a b : Expr} {rest : List Expr} {p q : Bool} (ha : EE X a sg M (.bl p)) (hb : p = true → EE X (.BoolOp .And (b :: rest) pos) sg M (.bl q)) : EE X (.BoolOp .And (a :: b :: rest) pos) sg M (.bl (p && q)) := we_and (ha.imp fun x M1 ⟨e1, e2⟩ => by
  subst e1; subst e2
  refine ⟨p, rfl, fun e => by rw [e]; exact ⟨rfl, rfl⟩, fun e => ?_⟩
  rw [e, Bool.true_and]
  exact hb e)
theorem ee_or {a b : Expr} {rest : List Expr} {p q : Bool} (ha : EE X a sg M (.bl p)) (hb : p = false → EE X (.BoolOp .Or (b :: rest) pos) sg M (.bl q)) : EE X (.BoolOp .Or (a :: b :: rest) pos) sg M (.bl (p || q)) := we_or (ha.imp fun x M1 ⟨e1, e2⟩ => by
  subst e1; subst e2
  refine ⟨p, rfl, fun e => by rw [e]; exact ⟨rfl, rfl⟩, fun e => ?_⟩
  rw [e, Bool.false_or]
  exact hb e)
theorem ee_not {a : Expr} {p : Bool} (ha : EE X a sg M (.bl p)) : EE X (.UnaryOp .Not a pos) sg M (.bl (!p)) := we_not (ha.imp fun x M1 ⟨e1, e2⟩ => by
  subst e1; subst e2
  exact ⟨p, rfl, rfl, rfl⟩)
theorem ee_if {c a b : Expr} {k : Bool} {x : D} (hc : ET X c sg M k) (ha : k = true → EE X a sg M x) (hb : k = false → EE X b sg M x) : EE X (.IfExp c a b pos) sg M x := we_if (hc.imp fun b M1 ⟨e1, e2⟩ => by
  subst e1; subst e2
  exact ⟨ha, hb⟩)
theorem et_val {e : Expr} {k : Bool} (h : EE X e sg M (.bl k)) (he : ∀ whole, isTrue e X.env whole = (do let v ← whole; standAt e.pos; holding [v] (truthy v)) := by intro _; rfl) : ET X e sg M k := wt_val (h.imp fun x M1 ⟨e1, e2⟩ => ⟨k, e1, rfl, e2⟩) he
theorem et_not {e : Expr} {k : Bool} (h : ET X e sg M k) : ET X (.UnaryOp .Not e pos) sg M (!k) := wt_not (h.imp fun x M1 ⟨e1, e2⟩ => ⟨by rw [e1], e2⟩)
abbrev EW (X : Cx) (e : Expr) (sg : Sg) (M : Mem) (b : Bool) : Prop := WW X e sg M fun x M' => x = b ∧ M' = M
theorem ew_and {a b : Expr} {rest : List Expr} {p q : Bool} (ha : ET X a sg M p) (hb : p = true → EW X (.BoolOp .And (b :: rest) pos) sg M q) : EW X (.BoolOp .And (a :: b :: rest) pos) sg M (p && q) := ww_and (ha.imp fun x M1 ⟨e1, e2⟩ => by
  subst e1; subst e2
  refine ⟨fun e => by rw [e]; exact ⟨rfl, rfl⟩, fun e => ?_⟩
  rw [e, Bool.true_and]
  exact hb e)
theorem ew_or {a b : Expr} {rest : List Expr} {p q : Bool} (ha : ET X a sg M p) (hb : p = false → EW X (.BoolOp .Or (b :: rest) pos) sg M q) : EW X (.BoolOp .Or (a :: b :: rest) pos) sg M (p || q) := ww_or (ha.imp fun x M1 ⟨e1, e2⟩ => by
  subst e1; subst e2
  refine ⟨fun e => by rw [e]; exact ⟨rfl, rfl⟩, fun e => ?_⟩
  rw [e, Bool.false_or]
  exact hb e)
end
end DL
set_option Elab.async false
set_option linter.all false
set_option maxRecDepth 100000
set_option maxHeartbeats 4000000
/-! DLc: displays, subscripts, calls, statements, loops, comprehensions over data. -/
namespace DL
open PySem L2
section
variable {X : Cx} {sg : Sg} {M : Mem} {Q : D → Mem → Prop} {Qb : Bool → Mem → Prop} {Ql : List D → Mem → Prop} {pos : Pos} {K : PySem.W.Frag}

/-! ### arguments, displays -/
theorem wa_nil (q : Ql [] M) : WA X [] sg M Ql := WA.of pa_nil fun σ H G w s => ⟨[], G, M, Stp.refl, w, .nil, q⟩
theorem wa_cons {e : Expr} {es : List Expr} (h : WE X e sg M fun x M1 => WA X es sg M1 fun xs M2 => Ql (x :: xs) M2) (hs : starEach (e :: es) X.env = (false, eval e X.env) :: starEach es X.env := by exact star1 rfl) : WA X (e :: es) sg M Ql := WA.of (pa_cons pe_w pa_w hs) fun σ H G w s =>
  (h σ H G w s).imp fun v H1 ⟨x, G1, M1, st, w1, r1, q1⟩ => (q1 σ H1 G1 w1 (s.mono (st.gx w))).imp fun vs H2 ⟨xs, G2, M2, st2, w2, r2, q2⟩ => ⟨x :: xs, G2, M2, st.trans st2, w2, .cons (r1.mono (st2.gx w1)) r2, q2⟩
theorem ea_cons {e : Expr} {es : List Expr} {x : D} {xs : List D} (h : EE X e sg M x) (hr : EA X es sg M xs) (hs : starEach (e :: es) X.env = (false, eval e X.env) :: starEach es X.env := by exact star1 rfl) : EA X (e :: es) sg M (x :: xs) := wa_cons (h.imp fun y M1 ⟨e1, e2⟩ => by
  subst e1; subst e2
  exact hr.imp fun ys M2 ⟨e1, e2⟩ => by subst e1; subst e2; exact ⟨rfl, rfl⟩) hs
theorem ea_nil : EA X [] sg M [] := wa_nil ⟨rfl, rfl⟩
theorem we_tup {es : List Expr} {k : Nat} (h : WA X es sg M fun ds M1 => ds.length ≤ sizeLine ∧ Q (.tup ds) M1) : WE X (.Tuple es k pos) sg M Q := WE.of (pe_tup pa_w) fun σ H G w s =>
  (h σ H G w s).imp fun vs H1 ⟨ds, G1, M1, st, w1, r1, z, q1⟩ => ⟨by rw [r1.length]; exact z, fun p hp => (new_tup w1 hp r1 q1).base st⟩
theorem we_lst {es : List Expr} (h : WA X es sg M fun ds M1 => ds.length ≤ sizeLine ∧ Q (.lst ds) M1) : WE X (.List es pos) sg M Q := WE.of (pe_lst pa_w) fun σ H G w s =>
  (h σ H G w s).imp fun vs H1 ⟨ds, G1, M1, st, w1, r1, z, q1⟩ => ⟨by rw [r1.length]; exact z, fun p hp => (new_lst w1 hp r1 q1).base st⟩
theorem we_lstM {es : List Expr} (h : WA X es sg M fun ds M1 => ds.length ≤ sizeLine ∧ ∀ p, M1 p = none → Q (.ptr p) (updM M1 p (some (.lst ds)))) : WE X (.List es pos) sg M Q := WE.of (pe_lst pa_w) fun σ H G w s =>
  (h σ H G w s).imp fun vs H1 ⟨ds, G1, M1, st, w1, r1, z, q1⟩ => ⟨by rw [r1.length]; exact z, fun p hp => (new_lstM w1 hp r1 q1).base st⟩
theorem small30 {n : Nat} (h : n ≤ 1000 := by exact Nat.le_of_ble_eq_true rfl) : n ≤ sizeLine := Nat.le_trans h (by decide)
theorem ee_tup {es : List Expr} {k : Nat} {ds : List D} (h : EA X es sg M ds) (hz : ds.length ≤ sizeLine := by exact small30) : EE X (.Tuple es k pos) sg M (.tup ds) := we_tup (h.imp fun x M1 ⟨e1, e2⟩ => ⟨by rw [e1]; exact hz, by rw [e1], e2⟩)
theorem ee_lst {es : List Expr} {ds : List D} (h : EA X es sg M ds) (hz : ds.length ≤ sizeLine := by exact small30) : EE X (.List es pos) sg M (.lst ds) := we_lst (h.imp fun x M1 ⟨e1, e2⟩ => ⟨by rw [e1]; exact hz, by rw [e1], e2⟩)

/-! ### subscripts -/
theorem we_ix {a b : Expr} {r : R2} {Qa : D → Mem → Prop} (hr : IxR X r) (ha : WE X a sg M Qa) (hb : ∀ x M1, Qa x M1 → WE X b sg M1 fun y M2 => OpD X.K r x y M2 Q) (hp : PlainIx b := by exact fun _ _ => rfl) : WE X (.Subscript a b pos) sg M Q := WE.of (pe_ix hr pe_w pe_w hp) fun σ H G w s => two ha hb w s
theorem ee_ix {a b : Expr} {r : R2} {x y : D} (hr : IxR X r) (ha : EE X a sg M x) (hb : EE X b sg M y) (ho : OpD X.K r x y M Q) (hp : PlainIx b := by exact fun _ _ => rfl) : WE X (.Subscript a b pos) sg M Q := we_ix hr ha (fun x' M1 ⟨e1, e2⟩ => by
  subst e1; subst e2
  exact hb.imp fun y' M2 ⟨e1, e2⟩ => by subst e1; subst e2; exact ho) hp
theorem at_rp {G : Hp} {vs : List V} {ds : List D} {i : Int} {d : D} (r : RpA K G vs ds) (h : atI ds i = some d) : ∃ v, atI vs i = some v ∧ Rp K G v d := by
  unfold atI at h ⊢
  rw [r.length]
  cases e : ixN ds.length i with
  | none => rw [e] at h; cases h
  | some j =>
    rw [e] at h
    exact r.get h
theorem od_ixT {ds : List D} {i : Int} {d : D} (h : atI ds i = some d) (q : Q d M) : OpD K (rIxT K) (.tup ds) (.int i) M Q := fun G H v u R w rx ry k => by
  cases ry
  cases rx with
  | tup h1 r1 =>
    obtain ⟨z, h2, h3⟩ := at_rp r1 h
    exact ⟨_, _, _, _, rfl, rfl, SqT.of (w.sub _ _ h1), h2, k _ _ (PV.here w h3 q)⟩
theorem od_ixL {x : D} {ds : List D} {i : Int} {d : D} (hx : LsD M x ds) (h : atI ds i = some d) (q : Q d M) : OpD K (rIxL K) x (.int i) M Q := fun G H v u R w rx ry k => by
  cases ry
  obtain ⟨a, xs, rfl, h1, r1⟩ := hx.at w rx
  obtain ⟨z, h2, h3⟩ := at_rp r1 h
  exact ⟨_, _, _, _, rfl, rfl, SqL.of h1, h2, k _ _ (PV.here w h3 q)⟩
theorem od_ixS {z : Str} {i : Int} {c : Nat} (hz : z.length ≤ sizeLine) (h : atI z.cps.toList i = some c) (q : Q (.str ⟨#[c]⟩) M) : OpD K rIxS (.str z) (.int i) M Q := fun G H v u R w rx ry k => by
  cases rx; cases ry
  exact ⟨_, _, _, rfl, rfl, hz, h, k _ _ (PV.here w (.str _) q)⟩
/-- a slice's bounds -/
def tWO (X : Cx) (e : Option Expr) : TO := fun σ H R => ∀ (t : TO), PO X e t → True → R none H
def WO (X : Cx) (e : Option Expr) (sg : Sg) (M : Mem) (Qo : Option Int → Mem → Prop) : Prop := match e with
  | none => Qo none M
  | some e => WE X e sg M fun x M1 => ∃ i, x = .int i ∧ Qo (some i) M1
def tO (X : Cx) : Option Expr → TO
  | none => tNoPart
  | some e => tPart (tW X e)
theorem po_w {e : Option Expr} : PO X e (tO X e) := by
  cases e with
  | none => exact po_none
  | some e => exact po_some pe_w
theorem WO.run {e : Option Expr} {Qo : Option Int → Mem → Prop} (h : WO X e sg M Qo) {σ : L2.St} {H G : Hp} {R : Option Int → Hp → Prop} (w : Wd X.K G M H) (s : SRp X.K G sg σ) (k : ∀ o G1 M1 H1, Stp G M H G1 M1 H1 → Wd X.K G1 M1 H1 → Qo o M1 → R o H1) : tO X e σ H R := by
  cases e with
  | none => exact k none G M H Stp.refl w h
  | some e =>
    refine (h σ H G w s).imp fun v H1 ⟨x, G1, M1, st, w1, r1, i, e1, q⟩ => ?_
    subst e1
    cases r1
    exact ⟨i, rfl, k _ _ _ _ st w1 q⟩
def SlD (K : PySem.W.Frag) (r : V → Option Int → Option Int → Hp → VK → Prop) (x : D) (lo hi : Option Int) (M : Mem) (Q : D → Mem → Prop) : Prop := ∀ (G H : Hp) (v : V) (R : VK), Wd K G M H → Rp K G v x → (∀ z H', PV K G M H Q z H' → R z H') → r v lo hi H R
theorem we_sl {a : Expr} {lo hi : Option Expr} {p2 : Pos} {r : V → Option Int → Option Int → Hp → VK → Prop} (hr : SlR X r) (h : WE X a sg M fun x M1 => WO X lo sg M1 fun l M2 => WO X hi sg M2 fun u M3 => SlD X.K r x l u M3 Q) : WE X (.Subscript a (.Slice lo hi none p2) pos) sg M Q := WE.of (pe_slice hr pe_w po_w po_w) fun σ H G w s =>
  (h σ H G w s).imp fun v H1 ⟨x, G1, M1, st, w1, r1, q1⟩ => q1.run w1 (s.mono (st.gx w)) fun l G2 M2 H2 st2 w2 q2 => q2.run w2 (s.mono ((st.trans st2).gx w)) fun u G3 M3 H3 st3 w3 q3 => q3 G3 H3 v _ w3 (r1.mono ((st2.trans st3).gx w1)) fun z H' p => p.base ((st.trans st2).trans st3)
abbrev EO (X : Cx) (e : Option Expr) (sg : Sg) (M : Mem) (o : Option Int) : Prop := WO X e sg M fun x M' => x = o ∧ M' = M
theorem eo_none : EO X none sg M none := ⟨rfl, rfl⟩
theorem eo_some {e : Expr} {i : Int} (h : EE X e sg M (.int i)) : EO X (some e) sg M (some i) := h.imp fun x M1 ⟨e1, e2⟩ => ⟨i, e1, rfl, e2⟩
theorem WO.imp {e : Option Expr} {Qo Qo' : Option Int → Mem → Prop} (h : WO X e sg M Qo) (k : ∀ o M', Qo o M' → Qo' o M') : WO X e sg M Qo' := by
  cases e with
  | none => exact k _ _ h
  | some e => exact WE.imp h fun x M1 ⟨i, e1, q⟩ => ⟨i, e1, k _ _ q⟩
theorem ee_sl {a : Expr} {lo hi : Option Expr} {p2 : Pos} {r : V → Option Int → Option Int → Hp → VK → Prop} {x : D} {l u : Option Int} (hr : SlR X r) (h : EE X a sg M x) (h1 : EO X lo sg M l) (h2 : EO X hi sg M u) (k : SlD X.K r x l u M Q) : WE X (.Subscript a (.Slice lo hi none p2) pos) sg M Q := we_sl hr (h.imp fun y M1 ⟨e1, e2⟩ => by
  subst e1; subst e2
  exact WO.imp h1 fun o M2 ⟨e1, e2⟩ => by
    subst e1; subst e2
    exact WO.imp h2 fun o M3 ⟨e1, e2⟩ => by subst e1; subst e2; exact k)
def cutD {α : Type} (xs : List α) (lo hi : Option Int) : List α := (xs.drop (HT.sIx xs.length 0 lo)).take (HT.sIx xs.length xs.length hi - HT.sIx xs.length 0 lo)
theorem cut_rp {G : Hp} {vs : List V} {ds : List D} (r : RpA K G vs ds) (lo hi : Option Int) : RpA K G (cutV vs lo hi) (cutD ds lo hi) := by
  unfold cutV cutD
  rw [r.length]
  exact (r.drop _).take _
theorem sd_tup {ds : List D} {lo hi : Option Int} (q : Q (.tup (cutD ds lo hi)) M) : SlD K (rSlA K) (.tup ds) lo hi M Q := fun G H v R w rx k => by
  cases rx with
  | @tup a xs _ h1 r1 =>
    refine ⟨a, xs, rfl, SqT.of (w.sub _ _ h1), fun e => ?_, fun _ p hp => k _ _ (new_tup w hp (cut_rp r1 lo hi) q)⟩
    have e2 : cutD ds lo hi = ds := by
      unfold cutD
      rw [← r1.length, e.1, e.2, List.drop_zero, Nat.sub_zero, r1.length, List.take_length]
    rw [e2] at q
    exact k _ _ (PV.here w (.tup h1 r1) q)
theorem sd_lst {x : D} {ds : List D} {lo hi : Option Int} (hx : LsD M x ds) (q : Q (.lst (cutD ds lo hi)) M) : SlD K (rSlL K) x lo hi M Q := fun G H v R w rx k => by
  obtain ⟨a, xs, rfl, h1, r1⟩ := hx.at w rx
  exact ⟨a, xs, rfl, SqL.of h1, fun p hp => k _ _ (new_lst w hp (cut_rp r1 lo hi) q)⟩
theorem cut_map (f : Int → V) (ns : List Int) (lo hi : Option Int) : cutV (ns.map f) lo hi = (cutD ns lo hi).map f := by
  unfold cutV cutD
  rw [List.length_map, List.map_take, List.map_drop]
theorem sd_scr {ns : List Int} {lo hi : Option Int} (q : Q (.lst ((cutD ns lo hi).map .int)) M) : SlD K (rSlL K) (.scr ns) lo hi M Q := fun G H v R w rx k => by
  cases rx with
  | @scr a _ h1 =>
    refine ⟨a, _, rfl, w.sub.sl h1, fun p hp => ?_⟩
    rw [cut_map]
    exact k _ _ (new_lst w hp (rpa_ints _) q)

/-! ### calls of built-ins -/
def ClD (K : PySem.W.Frag) (r : List V → Hp → VK → Prop) (xs : List D) (M : Mem) (Q : D → Mem → Prop) : Prop := ∀ (G H : Hp) (vs : List V) (R : VK), Wd K G M H → RpA K G vs xs → (∀ z H', PV K G M H Q z H' → R z H') → r vs H R
theorem we_cb {id : String} {r : List V → Hp → VK → Prop} {x : Str} {p : Pos} {e : Expr} {es : List Expr} (hc : CallR X (.builtin id) r) (hm : X.mg x = none) (hv : bootBuiltins x = some (.builtin id)) (h : WA X (e :: es) sg M fun ds M1 => ClD X.K r ds M1 Q) (hg : Gl X x := by rfl) (hn : x ≠ "__name__" := by decide) (hdb : (x == ("__debug__" : Str)) = false := by decide)
    (he : starEach (e :: es) X.env = (false, eval e X.env) :: starEach es X.env := by exact star1 rfl) (hpl : (backTo pos (starEach es X.env)).any (·.1) = false := by exact starN rfl) : WE X (.Call (.Name x p) (e :: es) [] pos) sg M Q := WE.of (pe_callB hc hg hm hv pa_w hn hdb he hpl) fun σ H G w s =>
  (h σ H G w s).imp fun vs H1 ⟨xs, G1, M1, st, w1, r1, q1⟩ => q1 G1 H1 vs _ w1 r1 fun z H' p => p.base st
theorem we_ct {T : String} {r : List V → Hp → VK → Prop} {x : Str} {p : Pos} {e : Expr} {es : List Expr} (hc : CallR X (.type T) r) (hm : X.mg x = none) (hv : bootBuiltins x = some (.type T)) (h : WA X (e :: es) sg M fun ds M1 => ClD X.K r ds M1 Q) (hg : Gl X x := by rfl) (hn : x ≠ "__name__" := by decide) (hdb : (x == ("__debug__" : Str)) = false := by decide)
    (he : starEach (e :: es) X.env = (false, eval e X.env) :: starEach es X.env := by exact star1 rfl) (hpl : (backTo pos (starEach es X.env)).any (·.1) = false := by exact starN rfl) : WE X (.Call (.Name x p) (e :: es) [] pos) sg M Q := WE.of (pe_callTy hc hg hm hv pa_w hn hdb he hpl) fun σ H G w s =>
  (h σ H G w s).imp fun vs H1 ⟨xs, G1, M1, st, w1, r1, q1⟩ => q1 G1 H1 vs _ w1 r1 fun z H' p => p.base st
theorem RpA.one {G : Hp} {vs : List V} {d : D} (r : RpA K G vs [d]) : ∃ v, vs = [v] ∧ Rp K G v d := by
  cases r with
  | cons h t => cases t; exact ⟨_, rfl, h⟩
theorem RpA.two {G : Hp} {vs : List V} {d e : D} (r : RpA K G vs [d, e]) : ∃ v u, vs = [v, u] ∧ Rp K G v d ∧ Rp K G u e := by
  cases r with
  | cons h t => obtain ⟨u, rfl, h2⟩ := t.one; exact ⟨_, _, rfl, h, h2⟩
theorem cd_len {x : D} {n : Nat} {ds' : List D} (h : x = .tup ds' ∧ ds'.length = n ∨ LsD M x ds' ∧ ds'.length = n) (q : Q (.int n) M) : ClD K (fun xs H Q => ∃ x n, xs = [x] ∧ LenV K x H n ∧ Q (.int n) H) [x] M Q := fun G H vs R w r k => by
  obtain ⟨v, rfl, rv⟩ := r.one
  rcases h with ⟨rfl, rfl⟩ | ⟨l, rfl⟩
  · cases rv with
    | tup h1 r1 =>
      rw [← r1.length] at q
      exact ⟨_, _, rfl, .inr ⟨_, SqT.of (w.sub _ _ h1), rfl⟩, k _ _ (PV.here w (.int _) q)⟩
  · obtain ⟨a, xs, rfl, h1, r1⟩ := l.at w rv
    rw [← r1.length] at q
    exact ⟨_, _, rfl, .inl ⟨_, SqL.of h1, rfl⟩, k _ _ (PV.here w (.int _) q)⟩
theorem cd_lenT {ds : List D} (q : Q (.int ds.length) M) : ClD K (fun xs H Q => ∃ x n, xs = [x] ∧ LenV K x H n ∧ Q (.int n) H) [.tup ds] M Q := cd_len (.inl ⟨rfl, rfl⟩) q
theorem cd_lenL {x : D} {ds : List D} (h : LsD M x ds) (q : Q (.int ds.length) M) : ClD K (fun xs H Q => ∃ x n, xs = [x] ∧ LenV K x H n ∧ Q (.int n) H) [x] M Q := cd_len (.inr ⟨h, rfl⟩) q
theorem cd_lenC {ns : List Int} (q : Q (.int ns.length) M) : ClD K (fun xs H Q => ∃ x n, xs = [x] ∧ LenV K x H n ∧ Q (.int n) H) [.scr ns] M Q := fun G H vs R w r k => by
  obtain ⟨v, rfl, rv⟩ := r.one
  cases rv with
  | scr h1 => exact ⟨_, _, rfl, .inl ⟨_, w.sub.sl h1, by rw [List.length_map]⟩, k _ _ (PV.here w (.int _) q)⟩
theorem cd_lenS {z : Str} (hz : z.length ≤ sizeLine) (q : Q (.int z.length) M) : ClD K (fun xs H Q => ∃ x n, xs = [x] ∧ LenV K x H n ∧ Q (.int n) H) [.str z] M Q := fun G H vs R w r k => by
  obtain ⟨v, rfl, rv⟩ := r.one
  cases rv
  exact ⟨_, _, rfl, ⟨hz, rfl⟩, k _ _ (PV.here w (.int _) q)⟩
theorem LsD.bls {x : D} {bs : List Bool} {v : V} {G H : Hp} (h : LsD M x (bs.map .bl)) (w : Wd K G M H) (r : Rp K G v x) : ∃ a, v = .ref a ∧ SqL K H a (bs.map V.bl) := by
  obtain ⟨a, xs, rfl, h1, r1⟩ := h.at w r
  rw [r1.bls] at h1
  exact ⟨a, rfl, SqL.of h1⟩
theorem LsD.ints {x : D} {ns : List Int} {v : V} {G H : Hp} (h : LsD M x (ns.map .int)) (w : Wd K G M H) (r : Rp K G v x) : ∃ a, v = .ref a ∧ SqL K H a (ns.map V.int) := by
  obtain ⟨a, xs, rfl, h1, r1⟩ := h.at w r
  rw [r1.ints] at h1
  exact ⟨a, rfl, SqL.of h1⟩
theorem cd_all {x : D} {bs : List Bool} (h : LsD M x (bs.map .bl)) (q : Q (.bl (bs.all id)) M) : ClD K (rAll K) [x] M Q := fun G H vs R w r k => by
  obtain ⟨v, rfl, rv⟩ := r.one
  obtain ⟨a, rfl, e⟩ := h.bls w rv
  exact ⟨a, bs, rfl, e, k _ _ (PV.here w (.bl _) q)⟩
theorem cd_any {x : D} {bs : List Bool} (h : LsD M x (bs.map .bl)) (q : Q (.bl (bs.any id)) M) : ClD K (rAny K) [x] M Q := fun G H vs R w r k => by
  obtain ⟨v, rfl, rv⟩ := r.one
  obtain ⟨a, rfl, e⟩ := h.bls w rv
  exact ⟨a, bs, rfl, e, k _ _ (PV.here w (.bl _) q)⟩
theorem cd_sum {x : D} {ns : List Int} (h : LsD M x (ns.map .int)) (q : Q (.int ns.sum) M) : ClD K (rSum K) [x] M Q := fun G H vs R w r k => by
  obtain ⟨v, rfl, rv⟩ := r.one
  obtain ⟨a, rfl, e⟩ := h.ints w rv
  exact ⟨a, ns, rfl, e, k _ _ (PV.here w (.int _) q)⟩
theorem cd_max {x : D} {ns : List Int} (h : LsD M x (ns.map .int)) (hl : 0 < ns.length) (q : ∀ m, m ∈ ns → (∀ y, y ∈ ns → y ≤ m) → Q (.int m) M) : ClD K (rMax K) [x] M Q := fun G H vs R w r k => by
  obtain ⟨v, rfl, rv⟩ := r.one
  obtain ⟨a, rfl, e⟩ := h.ints w rv
  exact ⟨a, ns, rfl, e, hl, fun m h1 h2 => k _ _ (PV.here w (.int _) (q m h1 h2))⟩
theorem cd_min {x : D} {ns : List Int} (h : LsD M x (ns.map .int)) (hl : 0 < ns.length) (q : ∀ m, m ∈ ns → (∀ y, y ∈ ns → m ≤ y) → Q (.int m) M) : ClD K (rMin K) [x] M Q := fun G H vs R w r k => by
  obtain ⟨v, rfl, rv⟩ := r.one
  obtain ⟨a, rfl, e⟩ := h.ints w rv
  exact ⟨a, ns, rfl, e, hl, fun m h1 h2 => k _ _ (PV.here w (.int _) (q m h1 h2))⟩
theorem cd_max2 {i j : Int} (q : Q (.int (if j > i then j else i)) M) : ClD K (fun xs H Q => ∃ i j, xs = [.int i, .int j] ∧ Q (.int (if j > i then j else i)) H) [.int i, .int j] M Q := fun G H vs R w r k => by
  obtain ⟨v, u, rfl, rv, ru⟩ := r.two
  cases rv; cases ru
  exact ⟨i, j, rfl, k _ _ (PV.here w (.int _) q)⟩
theorem cd_min2 {i j : Int} (q : Q (.int (if j < i then j else i)) M) : ClD K (fun xs H Q => ∃ i j, xs = [.int i, .int j] ∧ Q (.int (if j < i then j else i)) H) [.int i, .int j] M Q := fun G H vs R w r k => by
  obtain ⟨v, u, rfl, rv, ru⟩ := r.two
  cases rv; cases ru
  exact ⟨i, j, rfl, k _ _ (PV.here w (.int _) q)⟩
theorem cd_int {i : Int} (q : Q (.int i) M) : ClD K (fun xs H Q => (∃ i, xs = [.int i] ∧ Q (.int i) H) ∨ ∃ k, xs = [.bl k] ∧ Q (.int (if k then 1 else 0)) H) [.int i] M Q := fun G H vs R w r k => by
  obtain ⟨v, rfl, rv⟩ := r.one
  cases rv
  exact .inl ⟨i, rfl, k _ _ (PV.here w (.int _) q)⟩
theorem cd_tupT {ds : List D} (q : Q (.tup ds) M) : ClD K (fun xs H Q => ∃ p ys, xs = [.ref p] ∧ ((SqL K H p ys ∧ ∀ l, H l = none → Q (.ref l) (upd H l (.tup ys))) ∨ (SqT K H p ys ∧ Q (.ref p) H))) [.tup ds] M Q := fun G H vs R w r k => by
  obtain ⟨v, rfl, rv⟩ := r.one
  cases rv with
  | tup h1 r1 => exact ⟨_, _, rfl, .inr ⟨SqT.of (w.sub _ _ h1), k _ _ (PV.here w (.tup h1 r1) q)⟩⟩
theorem cd_tupL {x : D} {ds : List D} (h : LsD M x ds) (q : Q (.tup ds) M) : ClD K (fun xs H Q => ∃ p ys, xs = [.ref p] ∧ ((SqL K H p ys ∧ ∀ l, H l = none → Q (.ref l) (upd H l (.tup ys))) ∨ (SqT K H p ys ∧ Q (.ref p) H))) [x] M Q := fun G H vs R w r k => by
  obtain ⟨v, rfl, rv⟩ := r.one
  obtain ⟨a, xs, rfl, h1, r1⟩ := h.at w rv
  exact ⟨_, _, rfl, .inl ⟨SqL.of h1, fun p hp => k _ _ (new_tup w hp r1 q)⟩⟩
def rList (K : PySem.W.Frag) : List V → Hp → VK → Prop := fun xs H Q => ∃ p ys, xs = [.ref p] ∧ (SqL K H p ys ∨ SqT K H p ys) ∧ ∀ l, H l = none → Q (.ref l) (upd H l (.lst ys))
theorem seq_of {x : D} {ds : List D} {v : V} {G H : Hp} (h : x = .tup ds ∨ LsD M x ds) (w : Wd K G M H) (r : Rp K G v x) : ∃ p ys, v = .ref p ∧ (SqL K H p ys ∨ SqT K H p ys) ∧ RpA K G ys ds := by
  rcases h with rfl | h
  · cases r with
    | tup h1 r1 => exact ⟨_, _, rfl, .inr (SqT.of (w.sub _ _ h1)), r1⟩
  · obtain ⟨a, xs, rfl, h1, r1⟩ := h.at w r
    exact ⟨_, _, rfl, .inl (SqL.of h1), r1⟩
theorem cd_lst {x : D} {ds : List D} (h : x = .tup ds ∨ LsD M x ds) (q : Q (.lst ds) M) : ClD K (rList K) [x] M Q := fun G H vs R w r k => by
  obtain ⟨v, rfl, rv⟩ := r.one
  obtain ⟨p, ys, rfl, e, r1⟩ := seq_of h w rv
  exact ⟨p, ys, rfl, e, fun l hl => k _ _ (new_lst w hl r1 q)⟩
theorem cd_lstM {x : D} {ds : List D} (h : x = .tup ds ∨ LsD M x ds) (q : ∀ p, M p = none → Q (.ptr p) (updM M p (some (.lst ds)))) : ClD K (rList K) [x] M Q := fun G H vs R w r k => by
  obtain ⟨v, rfl, rv⟩ := r.one
  obtain ⟨p, ys, rfl, e, r1⟩ := seq_of h w rv
  exact ⟨p, ys, rfl, e, fun l hl => k _ _ (new_lstM w hl r1 q)⟩

/-! ### isinstance -/
def tyD : D → String
  | .non => "NoneType"
  | .bl _ => "bool"
  | .int _ => "int"
  | .str _ => "str"
  | .tup _ => "tuple"
  | .lst _ => "list"
  | .ptr _ => "list"
  | .scr _ => "list"
/-- not an object of an own class -/
def LkD (M : Mem) : D → Prop
  | .ptr p => ∃ ds, M p = some (.lst ds)
  | _ => True
theorem ty_of {x : D} {v : V} {G H : Hp} (h : LkD M x) (w : Wd K G M H) (r : Rp K G v x) : TyX K H v (.type (tyD x)) := by
  cases r with
  | non => exact .base .non
  | bl b => exact .base (.bl b)
  | int i => exact .base (.int i)
  | str x => exact .base (.str x)
  | tup h1 r1 =>
    rcases SqT.of (w.sub _ _ h1) with (h2 | ⟨o, h2⟩) | ⟨o, its, n, h2, h3, _⟩
    · exact .base (.tup h2)
    · exact .fTuple h2
    · exact .kTuple h2 h3
  | lst h1 r1 => exact .base (.lst (w.sub _ _ h1))
  | ptr a =>
    obtain ⟨ds, e⟩ := h
    obtain ⟨_, xs, h1, _⟩ := w.mem _ _ e
    exact .base (.lst h1)
  | scr h1 =>
    rcases w.sub.sl h1 with (h2 | ⟨o, h2⟩) | ⟨o, its, n, h2, h3, _⟩
    · exact .base (.lst h2)
    · exact .base (.frz h2)
    · exact .kList h2 h3
/-- isinstance(e, T), T a built-in type -/
theorem we_isi {e : Expr} {T : String} {y : Str} {p p2 : Pos} (hm : X.mg "isinstance" = none) (hmT : X.mg y = none) (hv : bootBuiltins y = some (.type T)) (h : WE X e sg M fun x M1 => LkD M1 x ∧ ∃ b, kitB (tyD x) T = some b ∧ Q (.bl b) M1) (hg : Gl X "isinstance" := by rfl) (hgT : Gl X y := by rfl) (hn : y ≠ "__name__" := by decide) (hdb : (y == ("__debug__" : Str)) = false := by decide)
    (hs : starEach [e, .Name y p2] X.env = (false, eval e X.env) :: starEach [.Name y p2] X.env := by exact star1 rfl) (hs2 : starEach [.Name y p2] X.env = (false, eval (.Name y p2) X.env) :: starEach [] X.env := by exact star1 rfl) (hpl : (backTo pos (starEach [.Name y p2] X.env)).any (·.1) = false := by exact starN rfl) : WE X (.Call (.Name "isinstance" p) [e, .Name y p2] [] pos) sg M Q :=
  WE.of (pe_callB call_isi hg hm (by decide +kernel) (pa_cons pe_w (pa_cons (pe_bltn (v := .ty T) hgT hmT hv rfl hn hdb) pa_nil hs2) hs) (by decide) (by decide) hs hpl) fun σ H G w s =>
    (h σ H G w s).imp fun v H1 ⟨x, G1, M1, st, w1, r1, lk, b, e1, q1⟩ => ⟨v, .ty T, .type (tyD x), .type T, b, rfl, .ty T, ty_of lk w1 r1, kit_ty e1, (PV.here w1 (.bl b) q1).base st⟩
end
end DL
set_option Elab.async false
set_option linter.all false
set_option maxRecDepth 100000
set_option maxHeartbeats 4000000
/-! DLd: statements, loops, comprehensions, defs over data. -/
namespace DL
open PySem L2
section
variable {X : Cx} {sg : Sg} {M : Mem} {E : EndsD} {Q : D → Mem → Prop} {pos : Pos} {K : PySem.W.Frag}
/-! ### blocks and small statements -/
theorem wss_nil (q : E.nx sg M) : WSs X [] sg M E := WSs.of pss_nil fun σ H G w s => ⟨sg, G, M, Stp.refl, w, s, q⟩
theorem wss_cons {st : Stmt} {rest : List Stmt} (h : WS X st sg M { E with nx := fun sg' M' => WSs X rest sg' M' E }) : WSs X (st :: rest) sg M E := WSs.of (pss_cons ps_w pss_w) fun σ H G w s =>
  (h σ H G w s).imp (fun σ' H' ⟨sg', G1, M1, st1, w1, s1, q⟩ => toE_base st1 (q σ' H' G1 w1 s1)) (fun _ _ q => q) (fun _ _ q => q) (fun _ _ q => q)
theorem wss_one {st : Stmt} (h : WS X st sg M E) : WSs X [st] sg M E := WSs.of (pss_one ps_w) fun σ H G w s => h σ H G w s
theorem ws_pass (q : E.nx sg M) : WS X (.Pass pos) sg M E := WS.of ps_pass fun σ H G w s => ⟨sg, G, M, Stp.refl, w, s, q⟩
theorem ws_break (q : E.bk sg M) : WS X (.Break pos) sg M E := WS.of ps_break fun σ H G w s => ⟨sg, G, M, Stp.refl, w, s, q⟩
theorem ws_cont (q : E.ct sg M) : WS X (.Continue pos) sg M E := WS.of ps_continue fun σ H G w s => ⟨sg, G, M, Stp.refl, w, s, q⟩
theorem ws_expr {e : Expr} (h : WE X e sg M fun _ M1 => E.nx sg M1) (hs : swapsWith e none pos.line X.env = pure false := by rfl) : WS X (.Expr e pos) sg M E := WS.of (ps_expr pe_w hs) fun σ H G w s =>
  (h σ H G w s).imp fun v H1 ⟨d, G1, M1, st, w1, r1, q⟩ => ⟨sg, G1, M1, st, w1, s.mono (st.gx w), q⟩
theorem ws_doc {x : Str} {j : Nat} {pos' : Pos} (q : E.nx sg M) : WS X (.Expr (.Constant (.str x) j pos) pos') sg M E := WS.of ps_doc fun σ H G w s => ⟨sg, G, M, Stp.refl, w, s, q⟩
theorem ws_ret {e : Expr} (h : WE X e sg M E.rt) : WS X (.Return (some e) pos) sg M E := WS.of (ps_ret pe_w) fun σ H G w s => h σ H G w s
theorem ws_retN (q : E.rt .non M) : WS X (.Return none pos) sg M E := WS.of ps_retN fun σ H G w s => PV.here w .non q
theorem ws_if {c : Expr} {a b : List Stmt} (h : WT X c sg M fun k M1 => (k = true → WSs X a sg M1 E) ∧ (k = false → WSs X b sg M1 E)) : WS X (.If c a b pos) sg M E := WS.of (ps_if pt_w pss_w pss_w) fun σ H G w s => by
  refine (h σ H G w s).imp fun k H1 ⟨G1, M1, st, w1, q1, q0⟩ => ?_
  cases k with
  | true => exact toE_base st (q1 rfl σ H1 G1 w1 (s.mono (st.gx w)))
  | false => exact toE_base st (q0 rfl σ H1 G1 w1 (s.mono (st.gx w)))
theorem ws_ifE {c : Expr} {a b : List Stmt} {k : Bool} (h : ET X c sg M k) (h1 : k = true → WSs X a sg M E) (h0 : k = false → WSs X b sg M E) : WS X (.If c a b pos) sg M E := ws_if (h.imp fun k' M1 ⟨e1, e2⟩ => by
  subst e1; subst e2
  exact ⟨h1, h0⟩)
theorem ws_set (i : Nat) {x : Str} {e : Expr} {pos' : Pos} (hN : X.N.Nodup) (h : WE X e sg M fun d M1 => E.nx (sg.set i (some d)) M1) (hi : X.N[i]? = some x := by rfl) (hx : Loc X.env.scope x := by first | exact Or.inl rfl | exact Or.inr rfl) (hs : swapsWith e (some (.Name x pos')) pos.line X.env = pure false := by rfl) (hf : X.fn x = true ∨ X.env.scope.names.lookup x = some .local := by first | exact .inl rfl | exact .inr rfl) : WS X (.Assign [.Name x pos'] e pos) sg M E :=
  WS.of (ps_set hN hi hx pe_w hs hf) fun σ H G w s => (h σ H G w s).imp fun v H1 ⟨d, G1, M1, st, w1, r1, q⟩ => ⟨_, G1, M1, st, w1, (s.mono (st.gx w)).set i r1, q⟩
theorem ws_par (i j : Nat) {x y : Str} {a b : Expr} {px py pt : Pos} {kt k2 : Nat} {pt2 : Pos} (hc : X.calm = true) (hN : X.N.Nodup) (h : WA X [a, b] sg M fun ds M1 => ∃ c d, ds = [c, d] ∧ E.nx ((sg.set i (some c)).set j (some d)) M1) (hi : X.N[i]? = some x := by rfl) (hj : X.N[j]? = some y := by rfl) (hij : i ≠ j := by decide)
    (hx : X.env.scope.names.lookup x = some .local := by rfl) (hy : X.env.scope.names.lookup y = some .local := by rfl) (hw : swappedStores [.Tuple [.Name x px, .Name y py] kt pt] (.Tuple [a, b] k2 pt2) X.env = pure (some [x, y]) := by rfl) (hs : swapsWithSole [.Tuple [.Name x px, .Name y py] kt pt] (.Tuple [a, b] k2 pt2) pos.line X.env = pure false := by rfl) : WS X (.Assign [.Tuple [.Name x px, .Name y py] kt pt] (.Tuple [a, b] k2 pt2) pos) sg M E :=
  WS.of (ps_par hc hN hi hj hij hx hy pa_w hw hs) fun σ H G w s => (h σ H G w s).imp fun vs H1 ⟨ds, G1, M1, st, w1, r1, c, d, e, q⟩ => by
    subst e
    obtain ⟨v, u, rfl, rv, ru⟩ := r1.two
    exact ⟨v, u, rfl, _, G1, M1, st, w1, ((s.mono (st.gx w)).set i rv).set j ru, q⟩
theorem ws_aug (i : Nat) {x : Str} {e : Expr} {op : Operator} {f : Int → Int → Int} {pos' : Pos} {a : Int} (hN : X.N.Nodup) (ho : PIp X op (ipI f)) (hv : sg[i]? = some (some (.int a))) (h : WE X e sg M fun d M1 => ∃ b, d = .int b ∧ E.nx (sg.set i (some (.int (f a b)))) M1) (hi : X.N[i]? = some x := by rfl) (hx : Loc X.env.scope x := by first | exact Or.inl rfl | exact Or.inr rfl) (hf : X.fn x = true ∨ X.env.scope.names.lookup x = some .local := by first | exact .inl rfl | exact .inr rfl) : WS X (.AugAssign (.Name x pos') op e pos) sg M E :=
  WS.of (ps_aug hN hi hx pe_w ho hf) fun σ H G w s => by
    obtain ⟨v, e1, rv⟩ := s.at_ i _ hv
    cases rv
    refine ⟨_, e1, (h σ H G w s).imp fun u H1 ⟨d, G1, M1, st, w1, r1, b, e, q⟩ => ?_⟩
    subst e
    cases r1
    exact ⟨a, b, rfl, rfl, _, G1, M1, st, w1, (s.mono (st.gx w)).set i (.int _), q⟩
/-- a list that may change is taken as it stands from now on -/
theorem wss_freeze {i : Nat} {p : Addr} {ds : List D} {sts : List Stmt} (hm : M p = some (.lst ds)) (hi : sg[i]? = some (some (.ptr p))) (h : WSs X sts (sg.set i (some (.lst ds))) (updM M p none) E) : WSs X sts sg M E := fun σ H G w s => by
  obtain ⟨xs, e, r, w1, st, gx⟩ := w.freeze hm
  obtain ⟨v, e1, rv⟩ := s.at_ i _ hi
  cases rv
  have e2 : σ.set i (some (.ref p)) = σ := by
    obtain ⟨h1, h2⟩ := List.getElem?_eq_some_iff.mp e1
    rw [← h2]
    exact List.set_getElem_self h1
  have s1 := (s.mono gx).set i (Rp.lst (K := X.K) (a := p) upd_same (r.mono gx))
  rw [e2] at s1
  exact toE_base st (h σ H _ w1 s1)
/-- names that nobody asks for any more -/
theorem SRp.forget {G : Hp} {sg sg' : Sg} {σ : L2.St} (s : SRp K G sg σ) (hl : sg'.length = sg.length) (h : ∀ (i : Nat) (d : D), sg'[i]? = some (some d) → sg[i]? = some (some d)) : SRp K G sg' σ := ⟨s.len.trans hl.symm, fun i d e => s.at_ i d (h i d e)⟩

/-! ### targets -/
def WG (X : Cx) (tg : Expr) (is : List Nat) (d : D) (sg sg' : Sg) : Prop := ∀ (σ : L2.St) (H G : Hp) (M : Mem) (v : V) (R : L2.St → Hp → Prop), Wd X.K G M H → SRp X.K G sg σ → Rp X.K G v d → (∀ σ', SRp X.K G sg' σ' → σ'.length = σ.length → (∀ j, j ∉ is → σ'[j]? = σ[j]?) → R σ' H) → gW X tg v σ H R
theorem wg_name (i : Nat) {x : Str} {d : D} (hN : X.N.Nodup) (hi : X.N[i]? = some x := by rfl) (hx : Loc X.env.scope x := by first | exact Or.inl rfl | exact Or.inr rfl) (hf : X.fn x = true ∨ X.env.scope.names.lookup x = some .local := by first | exact .inl rfl | exact .inr rfl) : WG X (.Name x pos) [i] d sg (sg.set i (some d)) := fun σ H G M v R w s r k => ⟨fun pins t u I ru =>
  (pg_name hN hi hx hf).run pins t σ H v u _ I ru (k _ (s.set i r) (by simp) fun j hj => List.getElem?_set_ne fun e => hj (by simp [e]))⟩
def WGs (X : Cx) (tgs : List Expr) (is : List Nat) (ds : List D) (sg sg' : Sg) : Prop := ∃ g, PGs X tgs g ∧ ∀ (σ : L2.St) (H G : Hp) (M : Mem) (vs : List V) (R : L2.St → Hp → Prop), Wd X.K G M H → SRp X.K G sg σ → RpA X.K G vs ds → (∀ σ', SRp X.K G sg' σ' → σ'.length = σ.length → (∀ j, j ∉ is → σ'[j]? = σ[j]?) → R σ' H) → g vs σ H R
theorem wgs_nil : WGs X [] [] [] sg sg := ⟨_, pgs_nil, fun σ H G M vs R w s r k => by
  cases r
  exact ⟨rfl, k σ s rfl fun _ _ => rfl⟩⟩
theorem wgs_cons {tg : Expr} {tgs : List Expr} {is js : List Nat} {d : D} {ds : List D} {sg1 sg2 : Sg} (h : WG X tg is d sg sg1) (hr : WGs X tgs js ds sg1 sg2) (hs : (assignEach (tg :: tgs) X.env).map (·.2) = assign tg X.env :: (assignEach tgs X.env).map (·.2) := by rfl) : WGs X (tg :: tgs) (is ++ js) (d :: ds) sg sg2 := by
  obtain ⟨g, pg, hg⟩ := hr
  refine ⟨_, pgs_cons pg_w pg hs, fun σ H G M vs R w s r k => ?_⟩
  cases r with
  | cons r1 r2 =>
    refine ⟨_, _, rfl, h σ H G M _ _ w s r1 fun σ1 s1 l1 o1 => hg σ1 H G M _ _ w s1 r2 fun σ2 s2 l2 o2 => k σ2 s2 (l2.trans l1) fun j hj => ?_⟩
    rw [List.mem_append, not_or] at hj
    exact (o2 j hj.2).trans (o1 j hj.1)
theorem wg_tup {tgs : List Expr} {n : Nat} {is : List Nat} {ds : List D} {sg1 : Sg} (hc : X.calm = true) (h : WGs X tgs is ds sg sg1) (hn : (assignEach tgs X.env).length = ds.length := by rfl) (hst : (assignEach tgs X.env).findIdx? (·.1) = none := by rfl) : WG X (.Tuple tgs n pos) is (.tup ds) sg sg1 := by
  obtain ⟨g, pg, hg⟩ := h
  intro σ H G M v R w s r k
  refine ⟨fun pins t u I ru => (pg_tup hc pg hn hst).run pins t σ H v u _ I ru ?_⟩
  cases r with
  | tup h1 r1 => exact ⟨_, _, rfl, SqT.of (w.sub _ _ h1), r1.length, hg σ H G M _ R w s r1 k⟩
/-- target = e -/
theorem ws_asg {tg e : Expr} (h : WE X e sg M fun d M1 => ∃ is sg1, WG X tg is d sg sg1 ∧ E.nx sg1 M1) (hs : swapsWithSole [tg] e pos.line X.env = pure false := by rfl) (hw : swappedStores [tg] e X.env = pure none := by rfl) (h1 : (assignEach [tg] X.env).map (·.2) = [assign tg X.env] := by rfl) : WS X (.Assign [tg] e pos) sg M E :=
  WS.of (ps_asg pe_w pg_w hs hw h1) fun σ H G w s => (h σ H G w s).imp fun v H1 ⟨d, G1, M1, st, w1, r1, is, sg1, hg, q⟩ => hg σ H1 G1 M1 v _ w1 (s.mono (st.gx w)) r1 fun σ' s' _ _ => ⟨sg1, G1, M1, st, w1, s', q⟩

/-! ### what a loop walks -/
def ItD (K : PySem.W.Frag) (G : Hp) (J : It) (ds : List D) (C : Mem → Prop) : Prop := ∀ (G1 : Hp) (M1 : Mem) (H1 : Hp), Gx G G1 → Wd K G1 M1 H1 → C M1 → ∀ i : Nat, (i = ds.length → J.stop i H1) ∧ ∀ d, ds[i]? = some d → J.go i H1 ∧ ∀ x H', J.yld i H1 x H' → ∃ G', Stp G1 M1 H1 G' M1 H' ∧ Wd K G' M1 H' ∧ Rp K G' x d
def WI (X : Cx) (tg iter : Expr) (sg : Sg) (M : Mem) (Qi : List D → (Mem → Prop) → Mem → Prop) : Prop := ∃ wi, PI X tg iter wi ∧ ∀ (σ : L2.St) (H G : Hp) (R : It → Hp → Prop), Wd X.K G M H → SRp X.K G sg σ → (∀ J H' ds C G' M', Stp G M H G' M' H' → Wd X.K G' M' H' → ItD X.K G' J ds C → Qi ds C M' → R J H') → wi σ H R
section
variable {tg : Expr} {Qi : List D → (Mem → Prop) → Mem → Prop}
theorem wi_lst {l : Expr} (h : WE X l sg M fun x M1 => ∃ ds, LsD M1 x ds ∧ Qi ds (fun M => LsD M x ds) M1) : WI X tg l sg M Qi := ⟨_, pi_list pe_w, fun σ H G R w s k => (h σ H G w s).imp fun v H1 ⟨x, G1, M1, st, w1, r1, ds, l1, q⟩ => by
  obtain ⟨a, xs, rfl, h1, rx⟩ := l1.at w1 r1
  refine ⟨a, rfl, ⟨xs, SqL.of h1⟩, k _ _ ds _ G1 M1 st w1 (fun G2 M2 H2 gx w2 l2 i => ?_) q⟩
  obtain ⟨b, ys, e, h2, ry⟩ := l2.at w2 (r1.mono gx)
  cases e
  refine ⟨fun hi => ⟨ys, SqL.of h2, by rw [ry.length, hi]; exact Nat.le_refl _⟩, fun d hd => ?_⟩
  obtain ⟨y, hy, rd⟩ := ry.get hd
  refine ⟨⟨ys, y, SqL.of h2, hy⟩, fun z H' ⟨e, hz⟩ => ?_⟩
  subst e
  have e := (hz ys (SqL.of h2)).symm.trans hy
  cases e
  exact ⟨G2, Stp.refl, w2, rd⟩⟩
theorem wi_tup {l : Expr} (h : WE X l sg M fun x M1 => ∃ ds, x = .tup ds ∧ Qi ds (fun _ => True) M1) : WI X tg l sg M Qi := ⟨_, pi_tup pe_w, fun σ H G R w s k => (h σ H G w s).imp fun v H1 ⟨x, G1, M1, st, w1, r1, ds, l1, q⟩ => by
  subst l1
  cases r1 with
  | @tup a xs _ h1 rx =>
    refine ⟨a, rfl, ⟨xs, SqT.of (w1.sub _ _ h1)⟩, k _ _ ds _ G1 M1 st w1 (fun G2 M2 H2 gx w2 _ i => ?_) q⟩
    have h2 : SqT X.K H2 a xs := SqT.of (w2.sub _ _ (gx _ _ h1))
    have ry := rx.mono gx
    refine ⟨fun hi => ⟨xs, h2, by rw [ry.length, hi]; exact Nat.le_refl _⟩, fun d hd => ?_⟩
    obtain ⟨y, hy, rd⟩ := ry.get hd
    refine ⟨⟨xs, y, h2, hy⟩, fun z H' ⟨e, hz⟩ => ?_⟩
    subst e
    have e := (hz xs h2).symm.trans hy
    cases e
    exact ⟨G2, Stp.refl, w2, rd⟩⟩
def rngD (lo : Int) (n : Nat) : List D := (List.range n).map fun (i : Nat) => D.int (lo + (i : Int))
theorem itd_rng {G : Hp} {lo : Int} {n : Nat} : ItD K G (Itr lo n) (rngD lo n) fun _ => True := fun G1 M1 H1 gx w _ i => by
  have hl : (rngD lo n).length = n := by unfold rngD; rw [List.length_map, List.length_range]
  refine ⟨fun h => by rw [hl] at h; exact Nat.le_of_eq h.symm, fun d hd => ?_⟩
  have hi : i < n := by
    have := (List.getElem?_eq_some_iff.mp hd).1
    rw [hl] at this; exact this
  have e : d = .int (lo + (i : Int)) := by
    unfold rngD at hd
    rw [List.getElem?_map, List.getElem?_range hi] at hd
    exact (Option.some.inj hd).symm
  subst e
  refine ⟨hi, fun x H' ⟨e1, e2⟩ => ?_⟩
  subst e1; subst e2
  exact ⟨G1, Stp.refl, w, .int _⟩
theorem wi_rng1 {a : Expr} {p : Pos} (hm : X.mg "range" = none) (h : WA X [a] sg M fun ds M1 => ∃ j : Int, ds = [.int j] ∧ -(2 ^ 62) ≤ j ∧ j < 2 ^ 62 ∧ Qi (rngD 0 j.toNat) (fun _ => True) M1) (hg : Gl X "range" := by rfl) (hs : starEach [a] X.env = [(false, eval a X.env)] := by exact star1n rfl) : WI X tg (.Call (.Name "range" p) [a] [] pos) sg M Qi := ⟨_, pi_range1 hg hm pa_w hs, fun σ H G R w s k => (h σ H G w s).imp fun vs H1 ⟨ds, G1, M1, st, w1, r1, j, e, b1, b2, q⟩ => by
  subst e
  obtain ⟨v, rfl, rv⟩ := r1.one
  cases rv
  exact ⟨j, rfl, b1, b2, k _ _ _ _ G1 M1 st w1 itd_rng q⟩⟩
theorem wi_rng2 {a b : Expr} {p : Pos} (hm : X.mg "range" = none) (h : WA X [a, b] sg M fun ds M1 => ∃ i j : Int, ds = [.int i, .int j] ∧ (-(2 ^ 62) ≤ i ∧ i < 2 ^ 62 ∧ -(2 ^ 62) ≤ j ∧ j < 2 ^ 62) ∧ Qi (rngD i (j - i).toNat) (fun _ => True) M1) (hg : Gl X "range" := by rfl) (hs : starEach [a, b] X.env = [(false, eval a X.env), (false, eval b X.env)] := by exact star2n rfl rfl) (hs2 : starEach [b] X.env = [(false, eval b X.env)] := by exact star1n rfl) : WI X tg (.Call (.Name "range" p) [a, b] [] pos) sg M Qi := ⟨_, pi_range2 hg hm pa_w hs hs2, fun σ H G R w s k => (h σ H G w s).imp fun vs H1 ⟨ds, G1, M1, st, w1, r1, i, j, e, b1, q⟩ => by
  subst e
  obtain ⟨v, u, rfl, rv, ru⟩ := r1.two
  cases rv; cases ru
  exact ⟨i, j, rfl, b1, k _ _ _ _ G1 M1 st w1 itd_rng q⟩⟩
def enumD (ds : List D) : List D := ds.mapIdx fun i d => .tup [.int (i : Int), d]
theorem new_pair {G1 H1 : Hp} {M1 : Mem} {T : Addr} {x y : V} {d e : D} (w : Wd K G1 M1 H1) (hT : H1 T = none) (rx : Rp K G1 x d) (ry : Rp K G1 y e) : ∃ G', Stp G1 M1 H1 G' M1 (upd H1 T (.tup [x, y])) ∧ Wd K G' M1 (upd H1 T (.tup [x, y])) ∧ Rp K G' (.ref T) (.tup [d, e]) := by
  obtain ⟨w', st⟩ := w.new hT (o := .tup [x, y])
  exact ⟨_, st, w', .tup upd_same (RpA.mono (gx_new w hT) (.cons rx (.cons ry .nil)))⟩
theorem wi_enum {e : Expr} {p tpos : Pos} {elts : List Expr} {kk : Nat} (hm : X.mg "enumerate" = none) (h : WA X [e] sg M fun xs M1 => ∃ x ds, xs = [x] ∧ LsD M1 x ds ∧ Qi (enumD ds) (fun M => LsD M x ds) M1) (hg : Gl X "enumerate" := by rfl) (hs : starEach [e] X.env = [(false, eval e X.env)] := by exact star1n rfl) : WI X (.Tuple elts kk tpos) (.Call (.Name "enumerate" p) [e] [] pos) sg M Qi := ⟨_, pi_enum hg hm pa_w hs, fun σ H G R w s k => (h σ H G w s).imp fun vs H1 ⟨xs, G1, M1, st, w1, r1, x, ds, e, l1, q⟩ => by
  subst e
  obtain ⟨v, rfl, rv⟩ := r1.one
  obtain ⟨a, ys, rfl, h1, rx⟩ := l1.at w1 rv
  refine ⟨a, ys, rfl, SqL.of h1, k _ _ _ _ G1 M1 st w1 (fun G2 M2 H2 gx w2 l2 i => ?_) q⟩
  obtain ⟨b, zs, e, h2, rz⟩ := l2.at w2 (rv.mono gx)
  cases e
  have hl : (enumD ds).length = ds.length := by unfold enumD; rw [List.length_mapIdx]
  refine ⟨fun hi => ⟨zs, SqL.of h2, by rw [rz.length]; rw [hl] at hi; exact Nat.le_of_eq hi.symm⟩, fun d hd => ?_⟩
  obtain ⟨c, hc, ec⟩ : ∃ c, ds[i]? = some c ∧ d = .tup [.int (i : Int), c] := by
    unfold enumD at hd
    rw [List.getElem?_mapIdx] at hd
    cases e : ds[i]? with
    | none => rw [e] at hd; cases hd
    | some c => rw [e] at hd; exact ⟨c, rfl, (Option.some.inj hd).symm⟩
  subst ec
  obtain ⟨z, hz, rd⟩ := rz.get hc
  refine ⟨⟨zs, z, SqL.of h2, hz⟩, fun t H' ⟨T, y, e1, e2, e3, e4⟩ => ?_⟩
  subst e1; subst e3
  have e := (e4 zs (SqL.of h2)).symm.trans hz
  cases e
  exact new_pair w2 e2 (.int _) rd⟩
theorem wi_zip {e e2 : Expr} {p tpos : Pos} {elts : List Expr} {kk : Nat} (hm : X.mg "zip" = none) (h : WA X [e, e2] sg M fun xs M1 => ∃ x y ds es, xs = [x, y] ∧ LsD M1 x ds ∧ LsD M1 y es ∧ Qi (List.zipWith (fun a b => .tup [a, b]) ds es) (fun M => LsD M x ds ∧ LsD M y es) M1) (hg : Gl X "zip" := by rfl) (hs : starEach [e, e2] X.env = (false, eval e X.env) :: starEach [e2] X.env := by exact star1 rfl) (hpl : (backTo pos (starEach [e2] X.env)).any (·.1) = false := by exact starN rfl) : WI X (.Tuple elts kk tpos) (.Call (.Name "zip" p) [e, e2] [] pos) sg M Qi := ⟨_, pi_zip hg hm pa_w hs hpl, fun σ H G R w s k => (h σ H G w s).imp fun vs H1 ⟨xs, G1, M1, st, w1, r1, x, y, ds, es, e, l1, m1, q⟩ => by
  subst e
  obtain ⟨v, u, rfl, rv, ru⟩ := r1.two
  obtain ⟨a, ys, rfl, h1, rx⟩ := l1.at w1 rv
  obtain ⟨b, zs, rfl, h1', ry⟩ := m1.at w1 ru
  refine ⟨a, b, ys, zs, rfl, SqL.of h1, SqL.of h1', k _ _ _ _ G1 M1 st w1 (fun G2 M2 H2 gx w2 ⟨l2, m2⟩ i => ?_) q⟩
  obtain ⟨a', ys', e, h2, rx2⟩ := l2.at w2 (rv.mono gx)
  cases e
  obtain ⟨b', zs', e, h3, ry2⟩ := m2.at w2 (ru.mono gx)
  cases e
  refine ⟨fun hi => ⟨ys', zs', SqL.of h2, SqL.of h3, ?_⟩, fun d hd => ?_⟩
  · rw [List.length_zipWith] at hi
    rw [rx2.length, ry2.length]
    omega
  · rw [List.getElem?_zipWith] at hd
    cases ea : ds[i]? with
    | none => rw [ea] at hd; cases hd
    | some c =>
      cases eb : es[i]? with
      | none => rw [ea, eb] at hd; cases hd
      | some c' =>
        rw [ea, eb] at hd
        have ed := (Option.some.inj hd).symm
        subst ed
        obtain ⟨z, hz, rd⟩ := rx2.get ea
        obtain ⟨z', hz', rd'⟩ := ry2.get eb
        refine ⟨⟨ys', zs', z, z', SqL.of h2, SqL.of h3, hz, hz'⟩, fun t H' ⟨T, y1, y2, e1, e2, e3, e4, e5⟩ => ?_⟩
        subst e1; subst e3
        have q1 := (e4 ys' (SqL.of h2)).symm.trans hz
        have q2 := (e5 zs' (SqL.of h3)).symm.trans hz'
        cases q1; cases q2
        exact new_pair w2 e2 rd rd'⟩

/-! ### for -/
theorem ws_for {iter : Expr} {body : List Stmt} (hp : PassesOwn (model X.prog X.w) X.A X.env X.xe) (hc : X.calm = true) (hi : WI X tg iter sg M Qi)
    (h : ∀ ds C M0, Qi ds C M0 → ∃ Pv : Nat → Sg → Mem → Prop, Pv 0 sg M0 ∧ (∀ i sg1 M1, Pv i sg1 M1 → C M1) ∧ (∀ i d sg1 M1, ds[i]? = some d → Pv i sg1 M1 → ∃ is sg2, WG X tg is d sg1 sg2 ∧ WSs X body sg2 M1 { E with nx := Pv (i + 1), ct := Pv (i + 1), bk := E.nx }) ∧ ∀ sg1 M1, Pv ds.length sg1 M1 → E.nx sg1 M1)
    (hs : ∀ x, foldedSetIterable iter X.env x = pure x := by intro _; rfl) : WS X (.For tg iter body [] pos) sg M E := by
  obtain ⟨wi, pi, hw⟩ := hi
  refine WS.of (ps_for hp hc pi pg_w pss_w hs) fun σ H G w s => hw σ H G _ w s fun J H0 ds C G0 M0 st0 w0 it q => ?_
  obtain ⟨Pv, p0, pC, turn, fin⟩ := h ds C M0 q
  refine ⟨fun i m σ1 H1 => m = ds.length - i ∧ i ≤ ds.length ∧ ∃ sg1 G1 M1, Stp G M H G1 M1 H1 ∧ Gx G0 G1 ∧ Wd X.K G1 M1 H1 ∧ SRp X.K G1 sg1 σ1 ∧ Pv i sg1 M1, ⟨ds.length, rfl, Nat.zero_le _, sg, G0, M0, st0, Gx.refl _, w0, s.mono (st0.gx w), p0⟩, ?_⟩
  rintro i m σ1 H1 ⟨rfl, hle, sg1, G1, M1, st1, gx1, w1, s1, p1⟩
  obtain ⟨stop, go⟩ := it G1 M1 H1 gx1 w1 (pC _ _ _ p1) i
  by_cases hlt : i < ds.length
  · obtain ⟨g1, yld⟩ := go ds[i] (List.getElem?_eq_getElem hlt)
    refine .inr ⟨g1, fun σ2 H2 => ∃ sg2 G2 M2, Stp G M H G2 M2 H2 ∧ Gx G0 G2 ∧ Wd X.K G2 M2 H2 ∧ SRp X.K G2 sg2 σ2 ∧ Pv (i + 1) sg2 M2, fun σ2 H2 n => ⟨ds.length - (i + 1), by omega, rfl, hlt, n⟩, fun x H' hy => ?_⟩
    obtain ⟨G2, st2, w2, rx⟩ := yld x H' hy
    obtain ⟨is, sg2, hg, hb⟩ := turn i ds[i] sg1 M1 (List.getElem?_eq_getElem hlt) p1
    have gx2 : Gx G0 G2 := gx1.trans (st2.gx w1)
    refine hg σ1 H' G2 M1 x _ w2 (s1.mono (st2.gx w1)) rx fun σ3 s3 _ _ => ?_
    have again : ∀ {σ4 : L2.St} {H4 : Hp}, PN X.K G2 M1 H' (Pv (i + 1)) σ4 H4 → ∃ sg2 G2 M2, Stp G M H G2 M2 H4 ∧ Gx G0 G2 ∧ Wd X.K G2 M2 H4 ∧ SRp X.K G2 sg2 σ4 ∧ Pv (i + 1) sg2 M2 := fun {σ4 H4} ⟨sg4, G4, M4, st4, w4, s4, p4⟩ => ⟨sg4, G4, M4, (st1.trans st2).trans st4, gx2.trans (st4.gx w2), w4, s4, p4⟩
    exact (hb σ3 H' G2 w2 s3).imp (fun _ _ q => again q) (fun _ _ q => PV.base (st1.trans st2) q) (fun _ _ q => PN.base (st1.trans st2) q) (fun _ _ q => again q)
  · have e : i = ds.length := by omega
    subst e
    exact .inl ⟨stop rfl, sg1, G1, M1, st1, w1, s1, fin sg1 M1 p1⟩
/-- while: by a word and a measure -/
theorem ws_while {c : Expr} {body : List Stmt} (hp : PassesOwn (model X.prog X.w) X.A X.env X.xe) (Pv : Nat → Sg → Mem → Prop) (h0 : ∃ m, Pv m sg M) (h : ∀ m sg1 M1, Pv m sg1 M1 → WT X c sg1 M1 fun k M2 => (k = true → WSs X body sg1 M2 { E with nx := fun sg2 M3 => ∃ m', m' < m ∧ Pv m' sg2 M3, ct := fun sg2 M3 => ∃ m', m' < m ∧ Pv m' sg2 M3, bk := E.nx }) ∧ (k = false → E.nx sg1 M2)) : WS X (.While c body [] pos) sg M E := by
  obtain ⟨m0, p0⟩ := h0
  refine WS.of (ps_while hp pt_w pss_w) fun σ H G w s => ⟨fun m σ1 H1 => ∃ sg1 G1 M1, Stp G M H G1 M1 H1 ∧ Wd X.K G1 M1 H1 ∧ SRp X.K G1 sg1 σ1 ∧ Pv m sg1 M1, ⟨m0, sg, G, M, Stp.refl, w, s, p0⟩, ?_⟩
  rintro m σ1 H1 ⟨sg1, G1, M1, st1, w1, s1, p1⟩
  refine (h m sg1 M1 p1 σ1 H1 G1 w1 s1).imp fun k H2 ⟨G2, M2, st2, w2, q1, q0⟩ => ?_
  have s2 := s1.mono (st2.gx w1)
  cases k with
  | true =>
    rw [if_pos rfl]
    refine ⟨fun σ3 H3 => ∃ m', m' < m ∧ ∃ sg1 G1 M1, Stp G M H G1 M1 H3 ∧ Wd X.K G1 M1 H3 ∧ SRp X.K G1 sg1 σ3 ∧ Pv m' sg1 M1, fun σ3 H3 n => n, ?_⟩
    have again : ∀ {σ4 : L2.St} {H4 : Hp}, PN X.K G2 M2 H2 (fun sg2 M3 => ∃ m', m' < m ∧ Pv m' sg2 M3) σ4 H4 → ∃ m', m' < m ∧ ∃ sg1 G1 M1, Stp G M H G1 M1 H4 ∧ Wd X.K G1 M1 H4 ∧ SRp X.K G1 sg1 σ4 ∧ Pv m' sg1 M1 := fun {σ4 H4} ⟨sg4, G4, M4, st4, w4, s4, m', hm, p4⟩ => ⟨m', hm, sg4, G4, M4, (st1.trans st2).trans st4, w4, s4, p4⟩
    exact (q1 rfl σ1 H2 G2 w2 s2).imp (fun _ _ q => again q) (fun _ _ q => PV.base (st1.trans st2) q) (fun _ _ q => PN.base (st1.trans st2) q) (fun _ _ q => again q)
  | false =>
    rw [if_neg Bool.false_ne_true]
    exact ⟨sg1, G2, M2, st1.trans st2, w2, s2, q0 rfl⟩
end
end
end DL
set_option Elab.async false
set_option linter.all false
set_option maxRecDepth 100000
set_option maxHeartbeats 4000000
/-! DLe: comprehensions, methods of lists, defs over data. -/
namespace DL
open PySem L2 PyProof.Rows
section
variable {X : Cx} {sg : Sg} {M : Mem} {E : EndsD} {Q : D → Mem → Prop} {pos : Pos} {K : PySem.W.Frag}
def wipeD (sg : Sg) : List Nat → Sg
  | [] => sg
  | v :: vs => (wipeD sg vs).set v none
theorem wipe_rp {G : Hp} {σ : L2.St} (s : SRp K G sg σ) : ∀ vs : List Nat, SRp K G (wipeD sg vs) (wipe σ vs)
  | [] => s
  | v :: vs => by
    have ih := wipe_rp s vs
    refine ⟨by show ((wipe σ vs).set v none).length = ((wipeD sg vs).set v none).length; rw [List.length_set, List.length_set, ih.len], fun i d e => ?_⟩
    have e' : ((wipeD sg vs).set v none)[i]? = some (some d) := e
    show ∃ x, ((wipe σ vs).set v none)[i]? = some (some x) ∧ Rp K G x d
    by_cases hv : v = i
    · subst hv
      by_cases hl : v < (wipeD sg vs).length
      · rw [List.getElem?_set_self hl] at e'; cases e'
      · rw [List.getElem?_eq_none (by simpa using hl)] at e'; cases e'
    · rw [List.getElem?_set_ne hv] at e' ⊢
      exact ih.at_ i d e'
theorem wipe_in {σ : L2.St} {i : Nat} : ∀ {vs : List Nat}, i ∈ vs → i < σ.length → (wipe σ vs)[i]? = some none
  | v :: vs, h, hl => by
    show ((wipe σ vs).set v none)[i]? = some none
    by_cases hv : v = i
    · subst hv
      exact List.getElem?_set_self (by rw [wipe_length]; exact hl)
    · rw [List.getElem?_set_ne hv]
      exact wipe_in ((List.mem_cons.mp h).resolve_left fun e => hv e.symm) hl
/-- a state that differs at the block's own names alone -/
theorem wipe_same {σ σ' : L2.St} {is vs : List Nat} (hv : ∀ j, j ∈ is → j ∈ vs) (hl : σ'.length = (wipe σ vs).length) (h : ∀ j, j ∉ is → σ'[j]? = (wipe σ vs)[j]?) : wipe σ' vs = wipe σ vs := by
  apply List.ext_getElem?
  intro j
  rw [wipe_length] at hl
  by_cases hj : j ∈ vs
  · by_cases hjl : j < σ.length
    · rw [wipe_in hj hjl, wipe_in hj (by rw [hl]; exact hjl)]
    · rw [List.getElem?_eq_none (by rw [wipe_length, hl]; omega), List.getElem?_eq_none (by rw [wipe_length]; omega)]
  · rw [wipe_out hj, h j fun e => hj (hv j e)]
theorem Wd.other {G H : Hp} {p : Addr} {o : HO} (w : Wd K G M H) (g : G p = none) (m : M p = none) (hb : ∀ u, M.b.H p = some u → M.b.M p = none → False) : Wd K G M (upd H p o) := ⟨fun x u e => by rw [upd_ne (ne_of_none e g)]; exact w.sub _ _ e, fun x mo e => by
  obtain ⟨h1, h2⟩ := w.mem _ _ e
  exact ⟨h1, h2.carry (Gx.refl G) (upd_ne fun z => by subst z; rw [m] at e; cases e)⟩, fun x u e e2 => by
  have hx : x ≠ p := fun z => by subst z; exact hb u e e2
  obtain ⟨h1, h2⟩ := w.hist x u e e2
  exact ⟨by rw [upd_ne hx]; exact h1, h2⟩⟩
theorem Wd.adopt {G H : Hp} {p : Addr} {o : HO} (w : Wd K G M H) (h : H p = some o) (g : G p = none) (m : M p = none) (hb : ∀ u, M.b.H p = some u → M.b.M p = none → False) : Wd K (upd G p o) M H ∧ Gx G (upd G p o) := by
  have gx : Gx G (upd G p o) := fun x u e => by rw [upd_ne (ne_of_none e g)]; exact e
  refine ⟨⟨fun x u e => ?_, fun x mo e => ?_, fun x u e e2 => ?_⟩, gx⟩
  · by_cases hx : x = p
    · subst hx; rw [upd_same] at e; cases e; exact h
    · rw [upd_ne hx] at e; exact w.sub _ _ e
  · obtain ⟨h1, h2⟩ := w.mem _ _ e
    have hx : x ≠ p := fun z => by subst z; rw [m] at e; cases e
    exact ⟨by rw [upd_ne hx]; exact h1, h2.carry gx rfl⟩
  · have hx : x ≠ p := fun z => by subst z; exact hb u e e2
    obtain ⟨h1, h2, h3⟩ := w.hist x u e e2
    exact ⟨h1, by rw [upd_ne hx]; exact h2, h3⟩

/-- the blocks of a comprehension in X -/
abbrev Blk (X : Cx) (scope : Scope) (P : Cx → Prop) : Prop := ∀ (s : Shared) (H : Hp) (C : Addr) (cl : List (Str × Addr)) (fp : List Addr), P (X.blk s H scope (compEnvC scope cl C X.env) fp)
def teB (X : Cx) (scope : Scope) (e : Expr) : TE := fun σ H R => Blk X scope fun Y => tW Y e σ H R
def ttB (X : Cx) (scope : Scope) (e : Expr) : TT := fun σ H R => Blk X scope fun Y => tWT Y e σ H R
def gB (X : Cx) (scope : Scope) (tg : Expr) : TG := fun v σ H R => Blk X scope fun Y => gW Y tg v σ H R
/-- none or one test -/
def testsB (X : Cx) (scope : Scope) : List Expr → TT
  | [c] => ttB X scope c
  | _ => tYes
def WTs (Y : Cx) (ifs : List Expr) (sg : Sg) (M : Mem) (Q : Bool → Mem → Prop) : Prop := match ifs with
  | [] => Q true M
  | [c] => WT Y c sg M Q
  | _ => False
variable {tg : Expr} {Qi : List D → (Mem → Prop) → Mem → Prop}
/-- a turn of a comprehension -/
def LcTurn (X : Cx) (scope : Scope) (vs : List Nat) (tg elt : Expr) (ifs : List Expr) (sg : Sg) (d : D) (M1 : Mem) (QT : D → Mem → Prop) (QF : Mem → Prop) : Prop :=
  ∃ is sg2, (∀ j, j ∈ is → j ∈ vs) ∧ (Blk X scope fun Y => WG Y tg is d (wipeD sg vs) sg2) ∧ ∃ QB : Bool → Mem → Prop, (Blk X scope fun Y => WTs Y ifs sg2 M1 QB) ∧ (∀ M2, QB true M2 → Blk X scope fun Y => WE Y elt sg2 M2 QT) ∧ ∀ M2, QB false M2 → QF M2
theorem lc_run {elt : Expr} {ifs : List Expr} {scope : Scope} {vs : List Nat} {wi : TI} (hw : ∀ (σ : L2.St) (H G : Hp) (R : It → Hp → Prop), Wd X.K G M H → SRp X.K G sg σ → (∀ J H' ds C G' M', Stp G M H G' M' H' → Wd X.K G' M' H' → ItD X.K G' J ds C → Qi ds C M' → R J H') → wi σ H R)
    (hif : ifs.length ≤ 1) (h : ∀ ds C M0, Qi ds C M0 → ∃ Pv : Nat → List D → Mem → Prop, Pv 0 [] M0 ∧ (∀ i acc M1, Pv i acc M1 → C M1 ∧ acc.length < sizeLine) ∧ (∀ i d acc M1, ds[i]? = some d → Pv i acc M1 → LcTurn X scope vs tg elt ifs sg d M1 (fun y M3 => Pv (i + 1) (acc ++ [y]) M3) (fun M3 => Pv (i + 1) acc M3)) ∧ ∀ acc M1, Pv ds.length acc M1 → Q (.lst acc) M1)
    {σ : L2.St} {H G : Hp} {R : VK} (w : Wd X.K G M H) (s : SRp X.K G sg σ) (k : ∀ v H', PV X.K G M H Q v H' → R v H') : tLc wi (gB X scope tg) (testsB X scope ifs) (teB X scope elt) vs σ H R := by
  refine hw σ H G _ w s fun J H0 ds C G0 M0 st0 w0 it q => fun p hp => ?_
  obtain ⟨Pv, p0, pC, turn, fin⟩ := h ds C M0 q
  obtain ⟨g0, m0⟩ := w0.free hp
  have s0 := s.mono (st0.gx w)
  have st1 : Stp G0 M0 H0 G0 M0 (upd H0 p (.lst [])) := ⟨fun x o e m => ⟨by rw [upd_ne (ne_of_none e hp)]; exact e, rfl, m⟩, rfl⟩
  have hf0 : ∀ u, M0.b.H p = some u → M0.b.M p = none → False := fun u e m => w0.fresh hp e m
  refine ⟨fun i m H1 => m = ds.length - i ∧ i ≤ ds.length ∧ ∃ G1 M1 acc xs, Stp G0 M0 H0 G1 M1 H1 ∧ Gx G0 G1 ∧ Wd X.K G1 M1 H1 ∧ H1 p = some (.lst xs) ∧ G1 p = none ∧ M1 p = none ∧ RpA X.K G1 xs acc ∧ Pv i acc M1, ⟨ds.length, rfl, Nat.zero_le _, G0, M0, [], [], st1, Gx.refl _, w0.other g0 m0 hf0, upd_same, g0, m0, .nil, p0⟩, ?_⟩
  rintro i m H1 ⟨rfl, hle, G1, M1, acc, xs, st1, gx1, w1, h1, g1, m1, ra, p1⟩
  obtain ⟨stop, go⟩ := it G1 M1 H1 gx1 w1 (pC _ _ _ p1).1 i
  by_cases hlt : i < ds.length
  · obtain ⟨go1, yld⟩ := go ds[i] (List.getElem?_eq_getElem hlt)
    refine .inr ⟨go1, fun H2 => ∃ G2 M2 acc2 xs2, Stp G0 M0 H0 G2 M2 H2 ∧ Gx G0 G2 ∧ Wd X.K G2 M2 H2 ∧ H2 p = some (.lst xs2) ∧ G2 p = none ∧ M2 p = none ∧ RpA X.K G2 xs2 acc2 ∧ Pv (i + 1) acc2 M2, fun H2 n => ⟨ds.length - (i + 1), by omega, rfl, hlt, n⟩, fun x H' hy => ?_⟩
    obtain ⟨G2, st2, w2, rx⟩ := yld x H' hy
    obtain ⟨h2, g2, _⟩ := st2.keep p _ h1 m1
    obtain ⟨is, sg2, hv, hg, QB, ht, he, hf⟩ := turn i ds[i] acc M1 (List.getElem?_eq_getElem hlt) p1
    have gx2 : Gx G1 G2 := st2.gx w1
    have sw : SRp X.K G2 (wipeD sg vs) (wipe σ vs) := wipe_rp (s0.mono (gx1.trans gx2)) vs
    have body : ∀ σ2 : L2.St, SRp X.K G2 sg2 σ2 → ∀ b H3, PB X.K G2 M1 H' QB b H3 → if b = true then teB X scope elt σ2 H3 (fun y H4 => ∃ acc, H4 p = some (.lst acc) ∧ acc.length < sizeLine ∧ ∃ G2 M2 acc2 xs2, Stp G0 M0 H0 G2 M2 (upd H4 p (.lst (acc ++ [y]))) ∧ Gx G0 G2 ∧ Wd X.K G2 M2 (upd H4 p (.lst (acc ++ [y]))) ∧ (upd H4 p (.lst (acc ++ [y]))) p = some (.lst xs2) ∧ G2 p = none ∧ M2 p = none ∧ RpA X.K G2 xs2 acc2 ∧ Pv (i + 1) acc2 M2)
        else ∃ G2 M2 acc2 xs2, Stp G0 M0 H0 G2 M2 H3 ∧ Gx G0 G2 ∧ Wd X.K G2 M2 H3 ∧ H3 p = some (.lst xs2) ∧ G2 p = none ∧ M2 p = none ∧ RpA X.K G2 xs2 acc2 ∧ Pv (i + 1) acc2 M2 := fun σ2 s2 b H3 ⟨G3, M3, st3, w3, q3⟩ => by
      obtain ⟨h3, g3, m3⟩ := st3.keep p _ h2 m1
      have gx3 : Gx G2 G3 := st3.gx w2
      cases b with
      | true =>
        rw [if_pos rfl]
        intro t H5 C5 cl fp
        refine (he M3 q3 t H5 C5 cl fp σ2 H3 G3 w3 (s2.mono gx3)).imp fun y H4 ⟨d, G4, M4, st4, w4, r4, q4⟩ => ?_
        obtain ⟨h4, g4, m4⟩ := st4.keep p _ h3 m3
        have gx4 : Gx G3 G4 := st4.gx w3
        have g4' : G4 p = none := by rw [g4, g3, g2, g1]
        have stA := ((st1.trans st2).trans st3).trans st4
        refine ⟨xs, h4, by rw [ra.length]; exact (pC _ _ _ p1).2, G4, M4, acc ++ [d], xs ++ [y], ⟨fun z o e m => ?_, stA.base⟩, gx1.trans (gx2.trans (gx3.trans gx4)), w4.other g4' m4 (by rw [stA.base]; exact hf0), upd_same, g4', m4, (ra.mono (gx2.trans (gx3.trans gx4))).append (.cons r4 .nil), q4⟩
        obtain ⟨a1, a2, a3⟩ := stA.keep z o e m
        exact ⟨by rw [upd_ne (ne_of_none e hp)]; exact a1, a2, a3⟩
      | false =>
        rw [if_neg Bool.false_ne_true]
        exact ⟨G3, M3, acc, xs, (st1.trans st2).trans st3, gx1.trans (gx2.trans gx3), w3, h3, by rw [g3, g2, g1], m3, ra.mono (gx2.trans gx3), hf M3 q3⟩
    intro t H5 C5 cl fp
    refine hg t H5 C5 cl fp (wipe σ vs) H' G2 M1 x _ w2 sw rx fun σ2 s2 l2 o2 => ⟨wipe_same hv l2 o2, ?_⟩
    match ifs, hif, ht with
    | [], _, ht => exact body σ2 s2 true H' ⟨G2, M1, Stp.refl, w2, ht t H5 C5 cl fp⟩
    | [c], _, ht => exact fun t H5 C5 cl fp => (ht t H5 C5 cl fp σ2 H' G2 w2 s2).imp fun b H3 q => body σ2 s2 b H3 q
    | _ :: _ :: _, hif, _ => exact absurd hif (by simp)
  · have e : i = ds.length := by omega
    subst e
    obtain ⟨w2, gx2⟩ := w1.adopt h1 g1 m1 (by rw [st1.base]; exact hf0)
    refine .inl ⟨stop rfl, k _ _ (PV.base st0 ⟨.lst acc, _, M1, ⟨fun z o e m => ?_, st1.base⟩, w2, .lst upd_same (ra.mono gx2), fin acc M1 p1⟩)⟩
    obtain ⟨a1, a2, a3⟩ := st1.keep z o e m
    exact ⟨a1, by rw [upd_ne (ne_of_none e hp)]; exact a2, a3⟩
theorem blk_pg {scope : Scope} {tg : Expr} : ∀ (s : Shared) (H : Hp) (C : Addr) (cl : List (Str × Addr)) (fp : List Addr), PG (X.blk s H scope (compEnvC scope cl C X.env) fp) tg (gB X scope tg) := fun s H C cl fp => ⟨fun pins t σ H1 v u R I r h => (h s H C cl fp).run pins t u I r⟩
theorem blk_pe {scope : Scope} {e : Expr} : ∀ (s : Shared) (H : Hp) (C : Addr) (cl : List (Str × Addr)) (fp : List Addr), PE (X.blk s H scope (compEnvC scope cl C X.env) fp) e (teB X scope e) := fun s H C cl fp => ⟨fun pins t σ H1 R I h => (h s H C cl fp).run pins t I⟩
theorem blk_pts {scope : Scope} {ifs : List Expr} (hif : ifs.length ≤ 1) : ∀ (s : Shared) (H : Hp) (C : Addr) (cl : List (Str × Addr)) (fp : List Addr), PTs (X.blk s H scope (compEnvC scope cl C X.env) fp) ifs (testsB X scope ifs) := fun s H C cl fp => by
  match ifs, hif with
  | [], _ => exact pts_nil
  | [c], _ => exact pts_one ⟨fun pins t σ H1 R I h => (h s H C cl fp).run pins t I⟩
  | _ :: _ :: _, hif => exact absurd hif (by simp)
abbrev LcOk (X : Cx) (scope : Scope) (vs : List Nat) (tg elt : Expr) (ifs : List Expr) (sg : Sg) (Qi : List D → (Mem → Prop) → Mem → Prop) (Q : D → Mem → Prop) : Prop :=
  ∀ ds C M0, Qi ds C M0 → ∃ Pv : Nat → List D → Mem → Prop, Pv 0 [] M0 ∧ (∀ i acc M1, Pv i acc M1 → C M1 ∧ acc.length < sizeLine) ∧ (∀ i d acc M1, ds[i]? = some d → Pv i acc M1 → LcTurn X scope vs tg elt ifs sg d M1 (fun y M3 => Pv (i + 1) (acc ++ [y]) M3) (fun M3 => Pv (i + 1) acc M3)) ∧ ∀ acc M1, Pv ds.length acc M1 → Q (.lst acc) M1
theorem we_lc {iter elt : Expr} {ifs : List Expr} {scope : Scope} (own : List (Str × Nat)) (hc : X.calm = true) (hN : X.N.Nodup) (ok : BlkOk X.N X.env.scope scope own) (hi : WI X tg iter sg M Qi) (h : LcOk X scope (own.map (·.2)) tg elt ifs sg Qi Q) (hif : ifs.length ≤ 1 := by decide) (hs : ∀ x, foldedSetIterable iter X.env x = pure x := by intro _; rfl) : WE X (.ListComp elt [⟨tg, iter, ifs, 0⟩] scope pos) sg M Q := by
  obtain ⟨wi, pi, hw⟩ := hi
  exact WE.of (pe_lc hc hN pi ok blk_pg (blk_pts hif) blk_pe hs) fun σ H G w s => lc_run hw hif h w s fun v H' q => q
theorem ws_setLc (i : Nat) {y : Str} {py : Pos} {iter elt : Expr} {ifs : List Expr} {scope : Scope} {spos : Pos} (own : List (Str × Nat)) (hc : X.calm = true) (hN : X.N.Nodup) (ok : BlkOk X.N X.env.scope scope own) (hi : WI X tg iter sg M Qi) (h : LcOk X scope (own.map (·.2)) tg elt ifs sg Qi fun d M1 => E.nx (sg.set i (some d)) M1) (hif : ifs.length ≤ 1 := by decide)
    (hy : X.N[i]? = some y := by rfl) (hyl : X.env.scope.names.lookup y = some .local := by rfl) (hsw : swapsWith (.ListComp elt [⟨tg, iter, ifs, 0⟩] scope pos) (some (.Name y py)) spos.line X.env = pure true := by exact sw_true rfl rfl rfl (by decide +kernel)) (hs : ∀ x, foldedSetIterable iter X.env x = pure x := by intro _; rfl) : WS X (.Assign [.Name y py] (.ListComp elt [⟨tg, iter, ifs, 0⟩] scope pos) spos) sg M E := by
  obtain ⟨wi, pi, hw⟩ := hi
  refine WS.of (ps_setLc hc hN hy hyl hsw pi ok blk_pg (blk_pts hif) blk_pe hs) fun σ H G w s => lc_run (Q := fun d M1 => E.nx (sg.set i (some d)) M1) hw hif h w s fun v H' q => ?_
  obtain ⟨d, G1, M1, st, w1, r1, q⟩ := q
  exact ⟨_, G1, M1, st, w1, (s.mono (st.gx w)).set i r1, q⟩
/-- a comprehension that changes nothing, over ds: the items that pass, their images -/
theorem lc_pure {elt : Expr} {ifs : List Expr} {scope : Scope} {vs : List Nat} {ds : List D} {C : Mem → Prop} {M0 : Mem} (p : D → Bool) (f : D → D) (hC : C M0) (hz : ds.length < sizeLine)
    (h : ∀ (i : Nat) (d : D), ds[i]? = some d → ∃ is sg2, (∀ j, j ∈ is → j ∈ vs) ∧ (Blk X scope fun Y => WG Y tg is d (wipeD sg vs) sg2) ∧ (Blk X scope fun Y => WTs Y ifs sg2 M0 fun b M2 => b = p d ∧ M2 = M0) ∧ (p d = true → Blk X scope fun Y => EE Y elt sg2 M0 (f d))) :
    ∃ Pv : Nat → List D → Mem → Prop, Pv 0 [] M0 ∧ (∀ i acc M1, Pv i acc M1 → C M1 ∧ acc.length < sizeLine) ∧ (∀ i d acc M1, ds[i]? = some d → Pv i acc M1 → LcTurn X scope vs tg elt ifs sg d M1 (fun y M3 => Pv (i + 1) (acc ++ [y]) M3) (fun M3 => Pv (i + 1) acc M3)) ∧ ∀ acc M1, Pv ds.length acc M1 → acc = (ds.filter p).map f ∧ M1 = M0 := by
  refine ⟨fun i acc M1 => i ≤ ds.length ∧ acc = ((ds.take i).filter p).map f ∧ M1 = M0, ⟨Nat.zero_le _, rfl, rfl⟩, fun i acc M1 ⟨hi, e1, e2⟩ => ?_, fun i d acc M1 hd ⟨hi, e1, e2⟩ => ?_, fun acc M1 ⟨_, e1, e2⟩ => ?_⟩
  · subst e1; subst e2
    refine ⟨hC, ?_⟩
    rw [List.length_map]
    have a1 := List.length_filter_le p (ds.take i)
    rw [List.length_take] at a1
    omega
  · subst e1; subst e2
    obtain ⟨is, sg2, hv, hg, ht, he⟩ := h i d hd
    have hlt := (List.getElem?_eq_some_iff.mp hd).1
    have tk : ds.take (i + 1) = ds.take i ++ [d] := by rw [List.take_add_one, hd]; rfl
    refine ⟨is, sg2, hv, hg, fun b M2 => b = p d ∧ M2 = M1, ht, fun M2 ⟨e1, e2⟩ => ?_, fun M2 ⟨e1, e2⟩ => ?_⟩
    · subst e2
      intro s H C' cl fp
      refine (he e1.symm s H C' cl fp).imp fun y M3 ⟨e3, e4⟩ => ⟨hlt, ?_, e4⟩
      rw [e3, tk, List.filter_append, List.map_append, List.filter_cons_of_pos e1.symm]
      rfl
    · subst e2
      refine ⟨hlt, ?_, rfl⟩
      rw [tk, List.filter_append, List.filter_cons_of_neg (by rw [← e1]; decide), List.filter_nil, List.append_nil]
  · subst e1; subst e2
    rw [List.take_length]
    exact ⟨rfl, rfl⟩

/-! ### methods of lists that may change -/
def MtD (K : PySem.W.Frag) (r : V → List V → Hp → VK → Prop) (x : D) (xs : List D) (M : Mem) (Q : D → Mem → Prop) : Prop := ∀ (G H : Hp) (v : V) (vs : List V) (R : VK), Wd K G M H → Rp K G v x → RpA K G vs xs → (∀ z H', PV K G M H Q z H' → R z H') → r v vs H R
theorem we_bm {o e : Expr} {es : List Expr} {name : Str} {apos cpos : Pos} {T id : String} {r : V → List V → Hp → VK → Prop} (pa : PlainAttrs T) (slot : Slot T name id) (hty : typeOf (.builtin id) = pure (.type "method_descriptor")) (hm : MtR X id r)
    (h : WE X o sg M fun x M1 => (∀ G H v, Wd X.K G M1 H → Rp X.K G v x → tyV X.K T v H) ∧ WA X (e :: es) sg M1 fun xs M2 => MtD X.K r x xs M2 Q) (hbase : attributeBase o name X.env (eval o X.env) = eval o X.env := by rfl)
    (hfew : ((backTo cpos (starEach (e :: es) X.env)).all (fun x => !x.1) && (backToKw cpos (keywordEach [] X.env)).all (fun x => x.1.isSome) && decide ((e :: es).length + ([] : List Keyword).length + (if ([] : List Keyword).isEmpty then 0 else 1) < 30)) = true := by rfl)
    (hline : (apos.endLine == cpos.line) = true := by rfl) (hs : starEach (e :: es) X.env = (false, eval e X.env) :: starEach es X.env := by exact star1 rfl) (hplain : (backTo cpos (starEach es X.env)).any (·.1) = false := by exact starN rfl) : WE X (.Call (.Attribute o name apos) (e :: es) [] cpos) sg M Q :=
  WE.of (pe_bm pa slot hty hm pe_w pa_w hbase hfew hline hs hplain) fun σ H G w s => (h σ H G w s).imp fun v H1 ⟨x, G1, M1, st, w1, r1, ty, q1⟩ => ⟨ty G1 H1 v w1 r1, (q1 σ H1 G1 w1 (s.mono (st.gx w))).imp fun vs H2 ⟨xs, G2, M2, st2, w2, r2, q2⟩ => q2 G2 H2 v vs _ w2 (r1.mono (st2.gx w1)) r2 fun z H' p => p.base (st.trans st2)⟩
theorem we_bm0 {o : Expr} {name : Str} {apos cpos : Pos} {T id : String} {r : V → List V → Hp → VK → Prop} (pa : PlainAttrs T) (slot : Slot T name id) (hty : typeOf (.builtin id) = pure (.type "method_descriptor")) (hm : MtR X id r)
    (h : WE X o sg M fun x M1 => (∀ G H v, Wd X.K G M1 H → Rp X.K G v x → tyV X.K T v H) ∧ MtD X.K r x [] M1 Q) (hbase : attributeBase o name X.env (eval o X.env) = eval o X.env := by rfl) (hline : (apos.endLine == cpos.line) = true := by rfl) : WE X (.Call (.Attribute o name apos) [] [] cpos) sg M Q :=
  WE.of (pe_bm0 pa slot hty hm pe_w hbase hline) fun σ H G w s => (h σ H G w s).imp fun v H1 ⟨x, G1, M1, st, w1, r1, ty, q1⟩ => ⟨ty G1 H1 v w1 r1, q1 G1 H1 v [] _ w1 r1 .nil fun z H' p => p.base st⟩
theorem ty_lst {x : D} {ds : List D} (l : LsD M x ds) : ∀ G H v, Wd K G M H → Rp K G v x → tyV K "list" v H := fun G H v w r => by
  obtain ⟨a, xs, rfl, h1, _⟩ := l.at w r
  exact .inl ⟨rfl, xs, SqL.of h1⟩
theorem md_append {p : Addr} {ds : List D} {d : D} (hm : M p = some (.lst ds)) (hz : ds.length < sizeLine) (q : Q .non (updM M p (some (.lst (ds ++ [d]))))) : MtD K rAppend (.ptr p) [d] M Q := fun G H v vs R w rv rs k => by
  cases rv
  obtain ⟨u, rfl, ru⟩ := rs.one
  obtain ⟨g, xs, h1, r1⟩ := w.mem _ _ hm
  refine ⟨p, xs, u, rfl, rfl, h1, by rw [r1.length]; exact hz, k _ _ ?_⟩
  obtain ⟨w', st⟩ := w.write hm (o := .lst (xs ++ [u])) (mo := .lst (ds ++ [d])) ⟨_, upd_same, r1.append (.cons ru .nil)⟩
  exact ⟨_, _, _, st, w', .non, q⟩
theorem md_extend {p : Addr} {ds es : List D} {y : D} (hm : M p = some (.lst ds)) (hy : LsD M y es) (hz : ds.length + es.length ≤ sizeLine) (q : Q .non (updM M p (some (.lst (ds ++ es))))) : MtD K rExtend (.ptr p) [y] M Q := fun G H v vs R w rv rs k => by
  cases rv
  obtain ⟨u, rfl, ru⟩ := rs.one
  obtain ⟨b, ys, rfl, h2, r2⟩ := hy.at w ru
  obtain ⟨g, xs, h1, r1⟩ := w.mem _ _ hm
  refine ⟨p, b, xs, ys, rfl, rfl, h1, h2, by rw [r1.length, r2.length]; exact hz, k _ _ ?_⟩
  obtain ⟨w', st⟩ := w.write hm (o := .lst (xs ++ ys)) (mo := .lst (ds ++ es)) ⟨_, upd_same, r1.append r2⟩
  exact ⟨_, _, _, st, w', .non, q⟩
/-- xs[i] = e -/
def StD (K : PySem.W.Frag) (t : TSet) (o i v : D) (M : Mem) (Q : Mem → Prop) : Prop := ∀ (G H : Hp) (ov iv vv : V) (R : Hp → Prop), Wd K G M H → Rp K G ov o → Rp K G iv i → Rp K G vv v → (∀ G' M' H', Stp G M H G' M' H' → Wd K G' M' H' → Q M' → R H') → t ov iv vv H R
theorem ws_sub {o i e : Expr} {t : TSet} {tpos : Pos} (hp : PSet X t) (h : WE X e sg M fun z M1 => WE X o sg M1 fun x M2 => WE X i sg M2 fun y M3 => StD X.K t x y z M3 fun M4 => E.nx sg M4)
    (ha : ∀ v, assign (.Subscript o i tpos) X.env v = (do
      let ov ← holding [v] (eval o X.env)
      let iv ← holding [v, ov] (eval i X.env)
      standAt tpos
      holding [v, ov, iv] (setItem ov iv v)
      release [v, ov, iv] []) := by intro _; rfl) (hs : swapsWithSole [.Subscript o i tpos] e pos.line X.env = pure false := by rfl) (hw : swappedStores [.Subscript o i tpos] e X.env = pure none := by rfl) (h1 : (assignEach [.Subscript o i tpos] X.env).map (·.2) = [assign (.Subscript o i tpos) X.env] := by rfl) : WS X (.Assign [.Subscript o i tpos] e pos) sg M E :=
  WS.of (ps_asg pe_w (pg_sub pe_w pe_w hp ha) hs hw h1) fun σ H G w s => (h σ H G w s).imp fun z H1 ⟨dz, G1, M1, st1, w1, r1, q1⟩ => (q1 σ H1 G1 w1 (s.mono (st1.gx w))).imp fun x H2 ⟨dx, G2, M2, st2, w2, r2, q2⟩ => (q2 σ H2 G2 w2 (s.mono ((st1.trans st2).gx w))).imp fun y H3 ⟨dy, G3, M3, st3, w3, r3, q3⟩ =>
    q3 G3 H3 x y z _ w3 (r2.mono (st3.gx w2)) r3 (r1.mono ((st2.trans st3).gx w1)) fun G4 M4 H4 st4 w4 q4 => ⟨sg, G4, M4, ((st1.trans st2).trans st3).trans st4, w4, s.mono ((((st1.trans st2).trans st3).trans st4).gx w), q4⟩
theorem sd_setL {p : Addr} {ds : List D} {i : Int} {j : Nat} {d : D} {Qm : Mem → Prop} (hm : M p = some (.lst ds)) (hj : ixN ds.length i = some j) (q : Qm (updM M p (some (.lst (ds.set j d))))) : StD K rSetL (.ptr p) (.int i) d M Qm := fun G H ov iv vv R w ro ri rv k => by
  cases ro; cases ri
  obtain ⟨g, xs, h1, r1⟩ := w.mem _ _ hm
  refine ⟨p, xs, i, j, rfl, rfl, h1, by rw [r1.length]; exact hj, ?_⟩
  obtain ⟨w', st⟩ := w.write hm (o := .lst (xs.set j vv)) (mo := .lst (ds.set j d)) ⟨_, upd_same, r1.set rv j⟩
  exact k _ _ _ st w' q

/-! ### defs -/
abbrev SpD := List D → Mem → (D → Mem → Prop) → Prop
def spD (K : PySem.W.Frag) (n : Nat) (S : SpD) : Sp := fun vs H R _ => ∃ (G : Hp) (M : Mem) (ds : List D) (Q : D → Mem → Prop), Wd K G M H ∧ RpA K G vs ds ∧ ds.length = n ∧ S ds M Q ∧ ∀ v H', PV K G M H Q v H' → R v H'
/-- the name x calls a def that keeps S, by at most level k -/
def Cal (P : Program) (w : World) (K : PySem.W.Frag) (mg : Str → Option Value) (base : Heap) (k : Nat) (x : Str) (n : Nat) (S : SpD) : Prop :=
  ∃ f fd ps, FnOk P w K mg base CX0 k f fd ps (spD K n S) ∧ mg x = some (.ref f) ∧ PySem.W.keepIn K (.ref f) = true ∧ Binds K fd ps []
theorem Cal.mono {P : Program} {w : World} {mg : Str → Option Value} {base : Heap} {j k n : Nat} {x : Str} {S : SpD} (h : Cal P w K mg base j x n S) (hj : j ≤ k) : Cal P w K mg base k x n S := let ⟨f, fd, ps, F, a, b, c⟩ := h; ⟨f, fd, ps, F.mono hj, a, b, c⟩
theorem Cal.imp {P : Program} {w : World} {mg : Str → Option Value} {base : Heap} {k n : Nat} {x : Str} {S S' : SpD} (h : Cal P w K mg base k x n S) (hs : ∀ ds M Q, S' ds M Q → S ds M Q) : Cal P w K mg base k x n S' :=
  let ⟨f, fd, ps, F, a, b, c⟩ := h; ⟨f, fd, ps, F.imp fun _ _ _ _ ⟨G, M, ds, Q, w, r, l, s, q⟩ => ⟨G, M, ds, Q, w, r, l, hs _ _ _ s, q⟩, a, b, c⟩
theorem we_call {k n : Nat} {x : Str} {S : SpD} {p : Pos} {e : Expr} {es : List Expr} (C : Cal X.prog X.w X.K X.mg X.base k x n S) (hr : Room k X.A) (h : WA X (e :: es) sg M fun ds M1 => ds.length = n ∧ S ds M1 Q) (hg : Gl X x := by rfl) (hd : (x == ("__debug__" : Str)) = false := by decide)
    (he : starEach (e :: es) X.env = (false, eval e X.env) :: starEach es X.env := by exact star1 rfl) (hpl : (backTo pos (starEach es X.env)).any (·.1) = false := by exact starN rfl) : WE X (.Call (.Name x p) (e :: es) [] pos) sg M Q := by
  obtain ⟨f, fd, ps, F, hm, kp, b⟩ := C
  refine WE.of (pe_call F hr hg hm kp b .nil pass0 pa_w hd he hpl) fun σ H G w s => (h σ H G w s).imp fun vs H1 ⟨ds, G1, M1, st, w1, r1, l, q⟩ => ?_
  show spD _ _ _ (vs ++ []) _ _ _
  rw [List.append_nil]
  exact ⟨G1, M1, ds, Q, w1, r1, l, q, fun v H' p => p.base st⟩
def startD (N : List Str) (ds : List D) : Sg := ds.map some ++ List.replicate (N.length - ds.length) none
theorem start_rp {G : Hp} {N : List Str} {vs : List V} {ds : List D} (r : RpA K G vs ds) : SRp K G (startD N ds) (L2.start N vs) := by
  have hl := r.length
  refine ⟨by unfold L2.start startD; simp [hl], fun i d e => ?_⟩
  unfold startD at e
  unfold L2.start
  by_cases hi : i < ds.length
  · rw [List.getElem?_append_left (by simpa using hi), List.getElem?_map] at e
    rw [List.getElem?_append_left (by simpa [hl] using hi), List.getElem?_map]
    cases ed : ds[i]? with
    | none => rw [ed] at e; cases e
    | some c =>
      rw [ed] at e
      cases e
      obtain ⟨v, hv, rv⟩ := r.get ed
      exact ⟨v, by rw [hv]; rfl, rv⟩
  · rw [List.getElem?_append_right (by simpa using hi), List.getElem?_replicate] at e
    split at e <;> cases e
section
variable {P : Program} {w : World} {mg : Str → Option Value} {base : Heap}
/-- a def of the text keeps S -/
theorem dfn {x qual : Str} {st : Stmt} {f : Addr} {fd : FuncData} {N ps : List Str} {k n : Nat} {S : SpD} (F : Fun K x qual st f fd) (sc : FnScope N ps (defScope st)) (hn : ps.length = n) (hm : mg x = some (.ref f)) (hb : Binds K fd ps [])
    (body : ∀ (cdv : Value) (A : Around) (outer : List Env) (s : Shared) (H : Hp) (E : XK) (ds : List D) (M : Mem) (Q : D → Mem → Prop), Room k (A.deeper (envOfC qual (defScope st) s.heap.objs.size f cdv)) → ds.length = n → S ds M Q →
      WSs (cxOf CX0 P w K mg base N qual (defScope st) f cdv A outer s H E).nox (defBody st) (startD N ds) M { nx := fun _ M' => Q .non M', rt := Q }) : Cal P w K mg base (k + 1) x n S := by
  refine ⟨f, fd, ps, F.ok sc (fun vs H R E h => ?_) (fun cdv A outer s H vs R E hr h => ?_), hm, F.kp, hb⟩
  · obtain ⟨G, M, ds, Q, _, r, l, _⟩ := h
    rw [r.length, l, hn]
  · obtain ⟨G, M, ds, Q, wd, r, l, hs, q⟩ := h
    refine ⟨tWSs _ (defBody st), pss_w, (body cdv A outer s H E ds M Q hr l hs _ H G wd (start_rp r)).imp (fun σ' H' ⟨sg', G', M', st', w', s', q'⟩ => q _ _ ⟨.non, G', M', st', w', .non, q'⟩) (fun v H' p => q v H' p) (fun _ _ p => ?_) (fun _ _ p => ?_)⟩
    · obtain ⟨_, _, _, _, _, _, z⟩ := p; exact z
    · obtain ⟨_, _, _, _, _, _, z⟩ := p; exact z
end
end
end DL
set_option Elab.async false
set_option linter.all false
set_option maxRecDepth 100000
set_option maxHeartbeats 4000000
/-! DLf: what the layer below lacks: enumerate over a tuple, a tuple back to front, list(range(n)). -/
namespace DL
open PySem L2 PyProof.Rows HT
section
variable {prog : Program} {w : World} {A : Around} {E : Value → Shared → Prop} {s : Shared}
/-! ### t[::-1] -/
theorem rev_applied {sl : Addr} {vl vu vs : Value} {n : Nat} {Q : Int × Int × Nat → Shared → Prop} (hs : s.heap.IsSliceOf sl vl vu vs) (a : IsPart vl none) (b : IsPart vu none) (c : IsPart vs (some (-1)))
    (h : Q ((n : Int) - 1, -1, n) s) : wpAny (model prog w) A (Builtin.Slice.sliceApplied (.ref sl) (pure (n : Int))) Q E s := by
  obtain ⟨o, ho, _, hd⟩ := id hs
  unfold Builtin.Slice.sliceApplied Builtin.Slice.sliceFields
  refine wpAny_bind (wpAny_bind (wpAny_field ho hd (x := vl) rfl (wpAny_bind (wpAny_field ho hd (x := vu) rfl (wpAny_bind (wpAny_field ho hd (x := vs) rfl (wpAny_pure ?_)))))))
  refine wpAny_bind (slicePart_ c ?_)
  show wpAny _ _ (if ((-1 : Int) == 0) = true then _ else _) _ _ s
  rw [if_neg (by decide)]
  refine wpAny_bind (slicePart_ a (wpAny_bind (slicePart_ b (wpAny_bind (wpAny_pure ?_)))))
  show wpAny _ _ (pure ((n : Int) - 1, (-1 : Int), Builtin.Slice.slicePlaces ((n : Int) - 1) (-1) (-1))) _ _ s
  have e : Builtin.Slice.slicePlaces ((n : Int) - 1) (-1) (-1) = n := by
    unfold Builtin.Slice.slicePlaces
    have h1 : ¬ ((-1 : Int) > 0) := by decide
    simp only [h1, if_false]
    by_cases h2 : (n : Int) - 1 > -1
    · rw [if_pos h2, show (- -1 : Int) = 1 by decide, Int.ediv_one]
      omega
    · rw [if_neg h2]
      omega
  rw [e]
  exact wpAny_pure h
theorem rev_pick (xs : Array Value) : ((List.range xs.size).filterMap fun (m : Nat) => xs[(((xs.size : Nat) : Int) - 1 + (m : Int) * -1).toNat]?).toArray = xs.toList.reverse.toArray := by
  have f : (fun (m : Nat) => xs[(((xs.size : Nat) : Int) - 1 + (m : Int) * -1).toNat]?) = (fun i => xs[i]?) ∘ fun m => xs.size - 1 - m := by
    funext m
    show xs[(((xs.size : Nat) : Int) - 1 + (m : Int) * -1).toNat]? = xs[xs.size - 1 - m]?
    rw [show (((xs.size : Nat) : Int) - 1 + (m : Int) * -1).toNat = xs.size - 1 - m by omega]
  rw [f, ← List.filterMap_map, PySem.W.krv_range, List.filterMap_reverse, PySem.W.krv_all]
theorem getItem_rev {t sl : Addr} {items : Array Value} {vl vu vs : Value} {Q : Value → Shared → Prop} (ht : IsTup s.heap t items) (hs : s.heap.IsSliceOf sl vl vu vs) (a : IsPart vl none) (b : IsPart vu none) (c : IsPart vs (some (-1))) (hz : items.size ≤ sizeLine)
    (h : Q (.ref s.heap.objs.size) { s with heap := s.heap.push { cls := .type "tuple", data := .seq items.toList.reverse.toArray } }) : wpAny (model prog w) A (getItem (.ref t) (.ref sl)) Q E s := by
  have hok : sizeOk (.seq items.toList.reverse.toArray) := by
    show items.toList.reverse.toArray.size ≤ sizeLine
    rw [List.size_toArray, List.length_reverse, Array.length_toList]
    exact hz
  obtain ⟨o, ho, hc, hd⟩ := id hs
  have hT : s.TypeIs (.ref sl) "slice" := ⟨o, ho, hc⟩
  unfold getItem
  try with_reducible refine wpAny_holding ?_
  first | refine wpAny_bind (wpAny_pure ?_) | skip
  refine wpAny_bind (wpAny_sequenceKey ht.typeIs (by decide) ?_)
  refine wpAny_bind (wpAny_callSpecial?_slot (name := Str.ofString "__getitem__") ht.typeIs slot_tuple_getitem (wpAny_call_entry slot_tuple_getitem ht.typeIs entry_tuple_getitem ?_ (args_tuple_getitem _ _)))
  show wpAny _ _ (Builtin.Tuple.tupleItemsOf (.ref t) >>= _) _ _ s
  refine wpAny_bind (tupleItemsOf_ ht (wpAny_bind (wpAny_typeOf hT ?_)))
  rw [if_pos (by decide)]
  refine wpAny_bind (rev_applied hs a b c ?_)
  have hno : ¬ ((((items.size : Nat) : Int) - 1 == 0 && (-1 : Int) == 1 && items.size == items.size) = true) := by
    rw [show ((-1 : Int) == 1) = false by decide, Bool.and_false, Bool.false_and]
    exact Bool.false_ne_true
  show wpAny _ _ (if ((((items.size : Nat) : Int) - 1 == 0 && (-1 : Int) == 1 && items.size == items.size) = true) then _ else _) _ _ s
  rw [if_neg hno, rev_pick]
  first
    | exact wpAny_bind (m := Builtin.Tuple.tupleExact _) (wpAny_newObj_type (wpAny_pure ⟨_, rfl, wpAny_pure h⟩) hok)
    | exact wpAny_bind (m := Builtin.Tuple.tupleExact _) (wpAny_newObj_type (wpAny_bind (wpAny_pure (wpAny_pure ⟨_, rfl, wpAny_pure h⟩))) hok)
    | exact wpAny_bind (wpAny_bind (m := Builtin.Tuple.tupleExact _) (wpAny_newObj_type (wpAny_pure (wpAny_pure ⟨_, rfl, wpAny_pure h⟩)) hok))
    | exact wpAny_bind (wpAny_bind (m := Builtin.Tuple.tupleExact _) (wpAny_newObj_type (wpAny_pure ⟨_, rfl, wpAny_pure h⟩) hok))
end
section
variable {X : Cx} {sg : Sg} {M : Mem} {E : EndsD} {Q : D → Mem → Prop} {pos : Pos} {K : PySem.W.Frag}
def tRevT (K : PySem.W.Frag) (te : TE) : TE := fun σ H R => te σ H fun x H1 => ∃ a xs, x = .ref a ∧ SqT K H1 a xs ∧ ∀ p, H1 p = none → R (.ref p) (upd H1 p (.tup xs.reverse))
theorem pe_revT {e : Expr} {te : TE} {k : Nat} {p1 p2 p3 : Pos} (he : PE X e te) : PE X (.Subscript e (.Slice none none (some (.UnaryOp .USub (.Constant (.int 1) k p1) p2)) p3) pos) (tRevT X.K te) := by
  refine ⟨fun pins s σ H R I h => ?_⟩
  refine Subscript_ (thn (he.run pins s σ H _ I h) fun v s1 ⟨x, H1, I1, r1, a, xs, ex, hx, q⟩ => ?_)
  subst ex
  cases r1
  have hst : PO X (some (.UnaryOp .USub (.Constant (.int 1) k p1) p2)) (tPart (tUn (rU fun i => .int (-i)) (tC (.int 1)))) := po_some (pe_un un_neg pe_int)
  refine wpAny_Slice (thn (po_none.run pins s1 σ H1 (fun o H2 => o = none ∧ H2 = H1) I1 ⟨rfl, rfl⟩) fun vl s2 ⟨l, H2, I2, pl, el, e2⟩ => ?_)
  subst el e2
  refine thn (po_none.run pins s2 σ H2 (fun o H3 => o = none ∧ H3 = H2) I2 ⟨rfl, rfl⟩) fun vu s3 ⟨u, H3, I3, pu, eu, e3⟩ => ?_
  subst eu e3
  refine thn (hst.run pins s3 σ H3 (fun o H4 => o = some (-1) ∧ H4 = H3) I3 ⟨1, rfl, -1, rfl, rfl, rfl⟩) fun vs s4 ⟨o, H4, I4, ps, eo, e4⟩ => ?_
  subst eo e4
  have I5 : Inv X pins σ H4 { s4 with heap := s4.heap.push { cls := .type "slice", data := .fields #[vl, vu, vs] } } := I4.kept (t' := s4.toks) fun b ob z => Heap.get?_push_of_some _ z
  obtain ⟨its, r, ht, hz⟩ := I5.tuple hx
  have hlen := r.length
  show wpAny _ X.A (subscriptTail e (.Slice none none (some (.UnaryOp .USub (.Constant (.int 1) k p1) p2)) p3) (.ref a) (.ref s4.heap.objs.size)) _ X.xe { s4 with heap := s4.heap.push { cls := .type "slice", data := .fields #[vl, vu, vs] } }
  refine tail_any (ops := [.ref a, .ref s4.heap.objs.size]) ht.typeIs slot_tuple_getitem.lookup ?_ (by with_unfolding_all rfl)
  refine getItem_rev ht (Heap.IsSliceOf.new _ vl vu vs) pl pu ps (by rw [List.size_toArray]; omega) ?_
  refine ⟨.ref _, _, I5.laid (t' := s4.toks) (o := .tup xs.reverse) (fun b ob z => Heap.get?_push_of_some _ z) (Nat.le_refl _) ?_, rfl, q _ (I5.hok.fresh (Nat.le_refl _))⟩
  exact ⟨by rw [List.length_reverse]; exact hz, _, r.reverse, ⟨_, Heap.get?_push_size _ rfl, rfl, _, rfl⟩⟩
theorem we_revT {e : Expr} {k : Nat} {p1 p2 p3 : Pos} (h : WE X e sg M fun x M1 => ∃ ds, x = .tup ds ∧ Q (.tup ds.reverse) M1) : WE X (.Subscript e (.Slice none none (some (.UnaryOp .USub (.Constant (.int 1) k p1) p2)) p3) pos) sg M Q := WE.of (pe_revT pe_w) fun σ H G w s => (h σ H G w s).imp fun v H1 ⟨x, G1, M1, st, w1, r1, ds, e1, q⟩ => by
  subst e1
  cases r1 with
  | tup h1 rx => exact ⟨_, _, rfl, SqT.of (w1.sub _ _ h1), fun p hp => (new_tup w1 hp rx.reverse q).base st⟩

/-! ### enumerate(t): its beginning -/
abbrev tupIt (t : Addr) : Obj := { cls := .type "tuple_iterator", data := .fields #[.ref t, .int 0 0] }
abbrev enumO (i : Addr) : Obj := { cls := .type "enumerate", data := .fields #[.none, .bool false, .ref i, rawInt 0, .none, .none] }
set_option maxHeartbeats 1000000 in
theorem meets_enumT (t : Addr) (items : Array Value) :
    Meets (Builtin.«enumerate.__new__» ⟨[.type "enumerate", .ref t], []⟩) (fun _ R s => s.heap.IsTuple t items ∧ R (.ok (.ret (.ref (s.heap.push (tupIt t)).objs.size))) { s with heap := (s.heap.push (tupIt t)).push (enumO s.heap.objs.size) }) :=
  .of_wp fun prog w A R s h => by
    obtain ⟨hp, g, d, tk, os⟩ := s
    obtain ⟨hL, h⟩ := h
    have hsub := sub_enumerate
    replace hL : Heap.IsTuple (Shared.heap ⟨hp, g, d, tk, os⟩) t items := hL
    have q1 : ∀ {A' : Around} {E : Value → Shared → Prop} {Q : Value → Shared → Prop}, Q (.ref hp.objs.size) ⟨hp.push (tupIt t), g, d, tk, os⟩ → wpAny (model prog w) A' (pyIter (.ref t)) Q E ⟨hp, g, d, tk, os⟩ := fun q => wpAny_pyIter_tuple hL q
    wp_walk using q1
    refine wpAny_stack_any fun st => wpAny_pure ?_
    split
    · rename_i c _ _ _ _ _
      cases (c == Value.type "enumerate")
      · wp_walk using q1
        exact ⟨_, rfl, h⟩
      · wp_walk using q1
        exact ⟨_, rfl, h⟩
    · wp_walk using q1
      exact ⟨_, rfl, h⟩
theorem call_enumT {prog : Program} {w : World} {A : Around} {E : Value → Shared → Prop} {s : Shared} {t : Addr} {items : Array Value} {Q : Value → Shared → Prop} (hL : s.heap.IsTuple t items)
    (h : ∀ h', IsEnum h' (s.heap.objs.size + 1) s.heap.objs.size 0 .none → h'.IsTupleIter s.heap.objs.size t 0 → (∀ b o, s.heap.get? b = some o → h'.get? b = some o) → Q (.ref (s.heap.objs.size + 1)) { s with heap := h' }) :
    wpAny (model prog w) A (call (.type "enumerate") [.ref t]) Q E s := by
  refine callType_new F.called_enumerate (by decide) (F.typeCall_enumerate_1 _) (F.newCall_enumerate_1 _) (fun obj => F.args_object_init_2 obj _) F.entry_enumerate_new (meets_enumT t items) ⟨hL, ?_⟩
  have hz : (s.heap.push (tupIt t)).objs.size = s.heap.objs.size + 1 := Heap.size_push ..
  show _ ∧ _
  rw [hz]
  have he : IsEnum ((s.heap.push (tupIt t)).push (enumO s.heap.objs.size)) (s.heap.objs.size + 1) s.heap.objs.size 0 .none := by
    have q := Heap.get?_push_size (s.heap.push (tupIt t)) (o := enumO s.heap.objs.size) rfl
    rw [hz] at q
    exact q
  exact ⟨⟨_, he, rfl⟩, h _ he ⟨_, Heap.get?_push_of_some _ (Heap.get?_push_size _ rfl), rfl, rfl⟩ fun b o x => Heap.get?_push_of_some _ (Heap.get?_push_of_some _ x)⟩
/-! ### enumerate(t) -/
def Itf (K : PySem.W.Frag) (a : Addr) : It :=
  ⟨fun i H => ∃ (xs : List V) (x : V), SqT K H a xs ∧ xs[i]? = some x, fun i H v H' => ∃ T x, v = .ref T ∧ H T = none ∧ H' = upd H T (.tup [.int (i : Nat), x]) ∧ ∀ xs, SqT K H a xs → xs[i]? = some x, fun i H => ∃ xs : List V, SqT K H a xs ∧ xs.length = i⟩
theorem turn_enumT {P : Program} {w : World} {elts : List Expr} {kk : Nat} {tpos : Pos} (a e it : Addr) :
    Turn P w K (.Tuple elts kk tpos) (Itf K a) [e, it] e (fun i h => (∃ old, IsEnum h e it ((i : Nat) : Int) old) ∧ h.IsTupleIter it a i ∧ e ≠ it) where
  mem := by simp
  obj := fun i h ⟨⟨old, he⟩, ⟨o, ho, hc, hd⟩, _⟩ b hb => by
    rcases (by simpa using hb : b = e ∨ b = it) with z | z
    · rw [z]; exact ⟨_, he, fun v q => nomatch q⟩
    · rw [z]; exact ⟨o, ho, fun v q => by rw [hd] at q; cases q⟩
  keep := fun i h h' ⟨⟨old, he⟩, hi, hne⟩ k => ⟨⟨old, k e (by simp) _ he⟩, hi.at fun o q => k it (by simp) o q, hne⟩
  item := by
    intro X hP hw hK hc i pins s σ H E I hf st hg
    subst hP hw hK
    obtain ⟨⟨old, he⟩, hit, hne⟩ := st
    obtain ⟨xs, x, hq, hx⟩ := hg
    obtain ⟨its, rv, p, hz⟩ := I.tuple hq
    obtain ⟨u, hu, ru⟩ := rv.get hx
    have hil : i < xs.length := (List.getElem?_eq_some_iff.mp hx).1
    have hsz : its.toArray.size = xs.length := by rw [List.size_toArray]; exact rv.length.symm
    have hel : e < s.heap.objs.size := Heap.lt_size he
    have hilt : it < s.heap.objs.size := by obtain ⟨_, q, _⟩ := hit; exact Heap.lt_size q
    have ane : a ≠ it := fun z => by
      obtain ⟨o, q, c, _⟩ := hit
      obtain ⟨o2, q2, c2, _⟩ := p
      rw [z, q] at q2
      cases q2
      rw [c] at c2
      injection c2 with c3
      exact absurd c3 (by decide)
    have eae : e ≠ a := fun z => by
      obtain ⟨o2, q2, c2, _⟩ := p
      have he' := he
      unfold IsEnum at he'
      rw [z, q2] at he'
      cases he'
      injection c2 with c3
      exact absurd c3 (by decide)
    have D := Draws.tuple (prog := X.prog) (w := X.w) (A := X.A.in1) (I.ok.hd hc) it a ane its.toArray
    refine wpAny_pyNext_enum_itemC D he (i := i) ⟨hit, p⟩ (by rw [hsz]; exact hil) hne (by simp [hne, eae]) fun y h' tk hy ho st' hT hsz' hk => ?_
    have ey : y = u := by
      have hy' : its.toArray[i]? = some y := hy
      rw [List.getElem?_toArray, hu] at hy'
      exact (Option.some.inj hy').symm
    subst ey
    refine ⟨_, rfl, wpAny_letOwnedTupleGo_enum (s := { s with heap := h', toks := tk + 1 }) ho fun h'' he' sb => ?_⟩
    have hT2 : h''.get? s.heap.objs.size = some { cls := .type "tuple", data := .seq #[.int i tk, y] } := (sb.2 _ (Nat.ne_of_gt hel)).trans hT
    have new : ObjOk X.prog X.w (upd H s.heap.objs.size (.tup [.int (i : Nat), x])) h'' s.heap.objs.size (.tup [.int (i : Nat), x]) :=
      ⟨by show 2 ≤ sizeLine; decide, [.int i tk, y], .cons ⟨_, rfl⟩ (.cons ru .nil), ⟨_, hT2, rfl, _, rfl⟩⟩
    have I1 : Inv X pins σ (upd H s.heap.objs.size (.tup [.int (i : Nat), x])) { s with heap := h'', toks := tk + 1 } :=
      I.turnedNew (ch := [e, it]) (fun b ob hb q => (sb.2 b (fun z => hb (by simp [z]))).trans (hk b ob (fun z => hb (by simp [z])) (fun z => hb (by simp [z])) q)) hf (Nat.le_refl _) new
    refine ⟨.ref s.heap.objs.size, _, I1, rfl, ⟨_, x, rfl, I.hok.fresh (Nat.le_refl _), rfl, fun ys hy => by rw [I.tuple_inj hy hq]; exact hx⟩, ⟨⟨y, ?_⟩, st'.1.at fun o q => (sb.2 it (Ne.symm hne)).trans q, hne⟩, fun b hb => ?_⟩
    · have e1 : ((i + 1 : Nat) : Int) = (i : Int) + 1 := by omega
      rw [e1]; exact he'
    · have hb' : b < s.heap.objs.size := by
        rcases (by simpa using hb : b = e ∨ b = it) with z | z
        · rw [z]; exact hel
        · rw [z]; exact hilt
      rw [upd_ne (Nat.ne_of_lt hb')]
      exact (hf b hb).1
  done := by
    intro X hP hw hK hc i pins s σ H E I hf st hg
    subst hP hw hK
    obtain ⟨⟨old, he⟩, hit, hne⟩ := st
    obtain ⟨xs, hq, hx⟩ := hg
    obtain ⟨its, rv, p, hz⟩ := I.tuple hq
    obtain ⟨f0, f1, f2, f3, f4, f5⟩ := hf it (by simp)
    have ane : a ≠ it := fun z => by
      obtain ⟨o, q, c, _⟩ := hit
      obtain ⟨o2, q2, c2, _⟩ := p
      rw [z, q] at q2
      cases q2
      rw [c] at c2
      injection c2 with c3
      exact absurd c3 (by decide)
    have D := Draws.tuple (prog := X.prog) (w := X.w) (A := X.A.in1) (I.ok.hd hc) it a ane its.toArray
    have hn : its.toArray.size = i := by rw [List.size_toArray, ← rv.length]; exact hx
    refine wpAny_pyNext_enum_endD D he ⟨by rw [hn]; exact hit, p⟩ fun h' eb => ⟨rfl, I.turned (t' := s.toks) (fun b o hb q => eb b o hb q) f0 f1 f3 f4 f5⟩
  self := fun A i s Q E ⟨⟨_, he⟩, _⟩ h => wpAny_pyIter_enum he h
def iEnumT (K : PySem.W.Frag) (ta : TA) : TI := fun σ H R => ta σ H fun vs H1 => ∃ a xs, vs = [.ref a] ∧ SqT K H1 a xs ∧ R (Itf K a) H1
theorem pi_enumT {e : Expr} {ta : TA} {p tpos : Pos} {elts : List Expr} {kk : Nat} (hg : Gl X "enumerate") (hm : X.mg "enumerate" = none) (ha : PA X [e] ta) (hs : starEach [e] X.env = [(false, eval e X.env)] := by exact star1n rfl) : PI X (.Tuple elts kk tpos) (.Call (.Name "enumerate" p) [e] [] pos) (iEnumT X.K ta) := by
  refine ⟨fun pins s σ H R I h => ?_⟩
  refine Call_ (ld_blt I hg hm boot_enumerate (callWith_type1 (thn (ha.run pos pins s σ H _ I h) fun us s1 ⟨vs, H1, I1, r1, a, xs, ex, hq, q⟩ => ?_) hs rfl))
  subst ex
  cases r1 with
  | cons r rr =>
    cases rr
    cases r
    obtain ⟨its, rv, p', hz⟩ := I1.tuple hq
    refine call_enumT (items := its.toArray) p' fun h' he hit hk => wpAny_pyIter_enum he ?_
    have I2 : Inv X pins σ H1 { s1 with heap := h' } := I1.kept (t' := s1.toks) hk
    refine ⟨s1.heap.objs.size + 1, [s1.heap.objs.size + 1, s1.heap.objs.size], _, _, H1, rfl, I2, turn_enumT a (s1.heap.objs.size + 1) s1.heap.objs.size, ⟨⟨.none, he⟩, hit, Nat.succ_ne_self _⟩, fun b hb => ?_, q⟩
    have hle : s1.heap.objs.size ≤ b := by
      rcases (by simpa using hb : b = s1.heap.objs.size + 1 ∨ b = s1.heap.objs.size) with z | z
      · rw [z]; exact Nat.le_add_right _ _
      · rw [z]; exact Nat.le_refl _
    exact I1.fpOk hle (I1.hok.fresh hle)
theorem wi_enumT {Qi : List D → (Mem → Prop) → Mem → Prop} {e : Expr} {p tpos : Pos} {elts : List Expr} {kk : Nat} (hm : X.mg "enumerate" = none) (h : WA X [e] sg M fun xs M1 => ∃ ds, xs = [.tup ds] ∧ Qi (enumD ds) (fun _ => True) M1) (hg : Gl X "enumerate" := by rfl) (hs : starEach [e] X.env = [(false, eval e X.env)] := by exact star1n rfl) : WI X (.Tuple elts kk tpos) (.Call (.Name "enumerate" p) [e] [] pos) sg M Qi := ⟨_, pi_enumT hg hm pa_w hs, fun σ H G R w s k => (h σ H G w s).imp fun vs H1 ⟨xs, G1, M1, st, w1, r1, ds, e, q⟩ => by
  subst e
  obtain ⟨v, rfl, rv⟩ := r1.one
  cases rv with
  | @tup a ys _ h1 rx =>
    refine ⟨a, ys, rfl, SqT.of (w1.sub _ _ h1), k _ _ _ _ G1 M1 st w1 (fun G2 M2 H2 gx w2 _ i => ?_) q⟩
    have h2 : SqT X.K H2 a ys := SqT.of (w2.sub _ _ (gx _ _ h1))
    have rz := rx.mono gx
    have hl : (enumD ds).length = ds.length := by unfold enumD; rw [List.length_mapIdx]
    refine ⟨fun hi => ⟨ys, h2, by rw [rz.length, hi, hl]⟩, fun d hd => ?_⟩
    obtain ⟨c, hc, ec⟩ : ∃ c, ds[i]? = some c ∧ d = .tup [.int (i : Int), c] := by
      unfold enumD at hd
      rw [List.getElem?_mapIdx] at hd
      cases e : ds[i]? with
      | none => rw [e] at hd; cases hd
      | some c => rw [e] at hd; exact ⟨c, rfl, (Option.some.inj hd).symm⟩
    subst ec
    obtain ⟨z, hz, rd⟩ := rz.get hc
    refine ⟨⟨ys, z, h2, hz⟩, fun t H' ⟨T, y, e1, e2, e3, e4⟩ => ?_⟩
    subst e1; subst e3
    have e := (e4 ys h2).symm.trans hz
    cases e
    exact new_pair w2 e2 (.int _) rd⟩
/-! ### list(range(n)) -/
def rRngE (ta : TA) : TE := fun σ H R => ta σ H fun vs H1 => ∃ j : Int, vs = [.int j] ∧ -(2 ^ 62) ≤ j ∧ j ≤ 1000000 ∧ ∀ p, H1 p = none → R (.ref p) (upd H1 p (.lst ((List.range j.toNat).map fun (i : Nat) => V.int (i : Int))))
end
end DL
set_option Elab.async false
set_option linter.all false
set_option maxRecDepth 100000
set_option maxHeartbeats 4000000
/-! DLg: list(range(n)); sorted of pairs of ints. -/
namespace DL
open PySem L2 PyProof.Rows HT
section
variable {X : Cx} {sg : Sg} {M : Mem} {E : EndsD} {Q : D → Mem → Prop} {pos : Pos} {K : PySem.W.Frag}
theorem cr_rng1 : CallR X (.type "range") (fun vs H Q => ∃ j, vs = [V.int j] ∧ ∀ p, H p = none → Q (.ref p) (upd H p (.rng 0 j))) := by
  intro pins s σ H vs us R I r h
  obtain ⟨j, rfl, q⟩ := h
  obtain ⟨u, rfl, t, rfl⟩ := vals1 r
  refine call_range_1 ⟨.ref s.heap.objs.size, upd H s.heap.objs.size (.rng 0 j), I.laid (t' := s.toks + 1 + 1) (fun b o e => Heap.get?_push_of_some _ e) (Nat.le_refl _) ?_, rfl, q _ (I.hok.fresh (Nat.le_refl _))⟩
  exact ⟨_, _, _, Heap.get?_push_size _ rfl⟩
theorem vals_rng {n : Nat} {acc : Array Value} (h : ItemsOf (fun i v => ∃ t, v = Value.int (0 + (i : Int) * 1) t) acc n) : Vals ((List.range n).map fun (i : Nat) => V.int (i : Int)) acc.toList := by
  obtain ⟨hl, hi⟩ := h
  have key : ∀ (l : List Value) (k : Nat), (∀ (j : Nat) v, l[j]? = some v → ∃ t, v = Value.int (((k + j : Nat) : Int)) t) → Vals ((List.range' k l.length).map fun (i : Nat) => V.int (i : Int)) l := by
    intro l
    induction l with
    | nil => intro k _; exact .nil
    | cons v l ih =>
      intro k h
      refine .cons (h 0 v rfl) (ih (k + 1) fun j u e => ?_)
      obtain ⟨t, e'⟩ := h (j + 1) u (by simpa using e)
      exact ⟨t, by rw [e', show k + (j + 1) = k + 1 + j by omega]⟩
  have q := key acc.toList 0 fun j v e => by
    obtain ⟨t, e'⟩ := hi j v (by rw [← Array.getElem?_toList]; exact e)
    exact ⟨t, by rw [e', show (0 : Int) + (j : Int) * 1 = ((0 + j : Nat) : Int) by omega]⟩
  rw [Array.length_toList, hl, ← List.range_eq_range'] at q
  exact q
theorem cr_listR (hc : X.calm = true) : CallR X (.type "list") (fun vs H Q => ∃ p j, vs = [V.ref p] ∧ H p = some (.rng 0 j) ∧ -(2 ^ 62) ≤ j ∧ j ≤ 1000000 ∧ ∀ l, H l = none → Q (.ref l) (upd H l (.lst ((List.range j.toNat).map fun (i : Nat) => V.int (i : Int))))) := by
  intro pins s σ H vs us R I r h
  obtain ⟨p, j, rfl, hp, b1, b2, q⟩ := h
  obtain ⟨u, rfl, ru⟩ := vals1 r
  obtain rfl : u = Value.ref p := ru
  obtain ⟨t, t2, t3, ho⟩ := (show ObjOk X.prog X.w H s.heap p (.rng 0 j) from I.hok p _ hp)
  have hz : Builtin.Range.rangeSize 0 j 1 = j.toNat := by
    rw [rangeSize_one]
    split <;> omega
  have hs : j.toNat ≤ sizeLine := by rw [sizeLine_eq]; omega
  refine call_list_range (I.ok.hd hc) ho (small_one (by decide) (by decide) b1 (by omega)) hz (by omega) fun h' tk acc c' hk hS hi => ?_
  refine ⟨.ref s.heap.objs.size, _, I.laid (t' := tk) (o := .lst ((List.range j.toNat).map fun (i : Nat) => V.int (i : Int))) hk (Nat.le_refl _) ⟨?_, acc.toList, c', vals_rng hi, by simpa using hS⟩, rfl, q _ (I.hok.fresh (Nat.le_refl _))⟩
  rw [List.length_map, List.length_range]
  exact hs
theorem rpa_rng {G : Hp} : ∀ n : Nat, RpA K G ((List.range n).map fun (i : Nat) => V.int (i : Int)) (rngD 0 n) := fun n => by
  have q := rpa_ints (K := K) (G := G) ((List.range n).map fun (i : Nat) => (i : Int))
  rw [List.map_map, List.map_map] at q
  unfold rngD
  have e : (D.int ∘ fun (i : Nat) => (i : Int)) = fun (i : Nat) => D.int (0 + (i : Int)) := by
    funext i
    show D.int (i : Int) = D.int (0 + (i : Int))
    rw [Int.zero_add]
  rw [e] at q
  exact q
/-- list(range(e)) -/
theorem we_lrng {e : Expr} {p1 p2 pos2 : Pos} (hc : X.calm = true) (hl : X.mg "list" = none) (hr : X.mg "range" = none) (h : WE X e sg M fun x M1 => ∃ j, x = .int j ∧ -(2 ^ 62) ≤ j ∧ j ≤ 1000000 ∧ Q (.lst (rngD 0 j.toNat)) M1) (g1 : Gl X "list" := by rfl) (g2 : Gl X "range" := by rfl)
    (s1 : starEach [.Call (.Name "range" p2) [e] [] pos2] X.env = (false, eval (.Call (.Name "range" p2) [e] [] pos2) X.env) :: starEach [] X.env := by exact star1 rfl) (s2 : starEach [e] X.env = (false, eval e X.env) :: starEach [] X.env := by exact star1 rfl) (t1 : (backTo pos (starEach [] X.env)).any (·.1) = false := by exact starN rfl) (t2 : (backTo pos2 (starEach [] X.env)).any (·.1) = false := by exact starN rfl) :
    WE X (.Call (.Name "list" p1) [.Call (.Name "range" p2) [e] [] pos2] [] pos) sg M Q :=
  WE.of (pe_callTy (cr_listR hc) g1 hl (by decide +kernel) (pa_cons (pe_callTy cr_rng1 g2 hr (by decide +kernel) (pa_cons pe_w pa_nil s2) (by decide) (by decide) s2 t2) pa_nil s1) (by decide) (by decide) s1 t1) fun σ H G w s =>
    (h σ H G w s).imp fun v H1 ⟨x, G1, M1, st, w1, r1, j, e1, b1, b2, q⟩ => by
      subst e1
      cases r1
      refine ⟨j, rfl, fun p hp => ⟨p, j, rfl, upd_same, b1, b2, fun l hl => ?_⟩⟩
      have w2 : Wd X.K G1 M1 (upd H1 p (.rng 0 j)) := w1.other (w1.free hp).1 (w1.free hp).2 fun u e m => w1.fresh hp e m
      have st2 : Stp G1 M1 H1 G1 M1 (upd H1 p (.rng 0 j)) := ⟨fun z o e m => ⟨by rw [upd_ne (ne_of_none e hp)]; exact e, rfl, m⟩, rfl⟩
      exact (new_lst w2 hl (rpa_rng _) q).base (st.trans st2)

/-! ### sorted(xs), xs a list of pairs of ints -/
def PairAt (K : PySem.W.Frag) (H : Hp) (x : V) (p : Int × Int) : Prop := ∃ t, x = V.ref t ∧ SqT K H t [.int p.1, .int p.2]
abbrev SrtP (ps : List (Int × Int)) : Prop := ps.Pairwise fun x y => SrtO.lexB y x = false
def rSrt (K : PySem.W.Frag) : List V → Hp → VK → Prop := fun vs H Q => ∃ (a : Addr) (xs : List V) (ps : List (Int × Int)) (F : V → Int × Int → Prop), vs = [V.ref a] ∧ SqL K H a xs ∧ (∀ x p, F x p → PairAt K H x p) ∧ Paired F xs ps ∧
  ∀ ys ps' p, ps'.Perm ps → SrtP ps' → Paired F ys ps' → H p = none → Q (.ref p) (upd H p (.lst ys))
theorem paired_mem {α β : Type} {F : α → β → Prop} : ∀ {xs : List α} {ys : List β}, Paired F xs ys → ∀ x ∈ xs, ∃ y, F x y
  | _, _, .nil, x, h => by cases h
  | _, _, .cons r t, x, h => by
    rcases List.mem_cons.mp h with e | h
    · subst e; exact ⟨_, r⟩
    · exact paired_mem t x h
theorem paired_map {α β : Type} {F : α → β → Prop} {k : α → β} (u : ∀ x y, F x y → k x = y) : ∀ {xs : List α} {ys : List β}, Paired F xs ys → ys = xs.map k
  | _, _, .nil => rfl
  | _, _, .cons r t => by rw [List.map_cons, ← paired_map u t, u _ _ r]
theorem paired_of {α β : Type} {F : α → β → Prop} {k : α → β} : ∀ {xs : List α}, (∀ x ∈ xs, F x (k x)) → Paired F xs (xs.map k)
  | [], _ => .nil
  | x :: xs, h => .cons (h x List.mem_cons_self) (paired_of fun y hy => h y (List.mem_cons_of_mem _ hy))
open Classical in
theorem cr_srt : CallR X (.builtin "sorted") (rSrt X.K) := by
  intro pins s σ H vs us R I r h
  obtain ⟨a, xs, ps, F, rfl, hs, hF, hp, q⟩ := h
  obtain ⟨its, rv, hl, hz⟩ := I.list hs
  obtain ⟨u, rfl, ru⟩ := vals1 r
  obtain rfl : u = Value.ref a := ru
  let k : V → Int × Int := fun x => if c : ∃ p, F x p then c.choose else (0, 0)
  have kk : ∀ x p, F x p → F x (k x) := fun x p hx => by
    have c : ∃ p, F x p := ⟨p, hx⟩
    show F x (if c : ∃ p, F x p then c.choose else (0, 0))
    rw [dif_pos c]
    exact c.choose_spec
  have ku : ∀ x p, F x p → k x = p := fun x p hx => by
    obtain ⟨t, e, h1⟩ := hF _ _ (kk x p hx)
    obtain ⟨t', e', h2⟩ := hF _ _ hx
    subst e
    cases e'
    have z := I.tuple_inj h1 h2
    injection z with z1 z2
    injection z2 with z3 z4
    injection z1 with z1
    injection z3 with z3
    exact Prod.ext z1 z3
  have hf : ∀ x ∈ xs, F x (k x) := fun x m => by
    obtain ⟨p, hp'⟩ := paired_mem hp x m
    exact kk x p hp'
  have hx : ∀ x ∈ xs, PairAt X.K H x (k x) := fun x m => hF _ _ (hf x m)
  obtain ⟨e1, e2⟩ := refs_back rv fun x m => by
    obtain ⟨t, e, _⟩ := hx x m
    exact ⟨t, e⟩
  refine SrtO.sorted_pairsO (k := fun u => k (backV u)) hl.isList (by rw [← rv.length]; exact hz) (fun v hv => ?_) fun h' d out h1 h2 kp hd hn => ?_
  · obtain ⟨t, rfl⟩ := e2 v hv
    obtain ⟨t', e, ht⟩ := hx (V.ref t) (by rw [e1]; exact List.mem_map.mpr ⟨_, hv, rfl⟩)
    cases e
    obtain ⟨its2, r2, ⟨o, ho, hc, n, hd⟩, _⟩ := I.tuple ht
    obtain ⟨u1, u2, rfl, ri, rj⟩ := vals2 r2
    obtain ⟨t1, rfl⟩ := ri
    obtain ⟨t2, rfl⟩ := rj
    exact ⟨t, o, t1, t2, n, rfl, ho, hc, hd⟩
  · obtain ⟨n, hn⟩ := hn
    have hb : SrtO.Stb (ltP k) (out.map backV) xs := by
      rw [e1]
      exact SrtO.Stb.map (ltP_swo k) backV h2
    have h3 := SrtO.srtd_map (f := backV) (lt := ltP k) h1
    refine ⟨.ref d, upd H d (.lst (out.map backV)), I.laid (t' := s.toks) kp hd ⟨by rw [hb.len]; exact hz, out, n, vals_back fun u hu => e2 u (h2.perm.mem_iff.mp hu), hn⟩, rfl, q _ ((out.map backV).map k) d ?_ ?_ ?_ (I.hok.fresh hd)⟩
    · rw [paired_map ku hp]
      exact hb.perm.map k
    · exact List.pairwise_map.mpr h3
    · exact paired_of fun x m => hf x (hb.perm.mem_iff.mp m)
def pairD (p : Int × Int) : D := .tup [.int p.1, .int p.2]
theorem pairs_of {G : Hp} : ∀ {vs : List V} {ps : List (Int × Int)}, RpA K G vs (ps.map pairD) → Paired (fun v p => Rp K G v (pairD p)) vs ps
  | _, [], .nil => .nil
  | _, _ :: _, .cons h r => .cons h (pairs_of r)
theorem of_pairs {G : Hp} : ∀ {vs : List V} {ps : List (Int × Int)}, Paired (fun v p => Rp K G v (pairD p)) vs ps → RpA K G vs (ps.map pairD)
  | _, _, .nil => .nil
  | _, _, .cons h r => .cons h (of_pairs r)
theorem cd_srt {x : D} {ps : List (Int × Int)} (h : LsD M x (ps.map pairD)) (q : ∀ ps' : List (Int × Int), ps'.Perm ps → SrtP ps' → Q (.lst (ps'.map pairD)) M) : ClD K (rSrt K) [x] M Q := fun G H vs R w r k => by
  obtain ⟨v, rfl, rv⟩ := r.one
  obtain ⟨a, xs, rfl, h1, r1⟩ := h.at w rv
  refine ⟨a, xs, ps, fun v p => Rp K G v (pairD p), rfl, SqL.of h1, fun x p hx => ?_, pairs_of r1, fun ys ps' p hp hs hy hn => k _ _ (new_lst w hn (of_pairs hy) (q ps' hp hs))⟩
  cases hx with
  | tup h1 r1 =>
    obtain ⟨v, u, rfl, rv, ru⟩ := r1.two
    cases rv; cases ru
    exact ⟨_, rfl, SqT.of (w.sub _ _ h1)⟩
end
end DL
set_option Elab.async false
set_option linter.all false
set_option maxRecDepth 100000
set_option maxHeartbeats 4000000
/-! DLh: short forms, for expressions that change nothing. -/
namespace DL
open PySem L2 PyProof.Rows HT
theorem bi_int : bootBuiltins "int" = some (.type "int") := by decide +kernel
theorem bi_bool : bootBuiltins "bool" = some (.type "bool") := by decide +kernel
theorem bi_str : bootBuiltins "str" = some (.type "str") := by decide +kernel
theorem bi_tuple : bootBuiltins "tuple" = some (.type "tuple") := by decide +kernel
theorem bi_list : bootBuiltins "list" = some (.type "list") := by decide +kernel
theorem bi_len : bootBuiltins "len" = some (.builtin "len") := by decide +kernel
theorem bi_all : bootBuiltins "all" = some (.builtin "all") := by decide +kernel
theorem bi_any : bootBuiltins "any" = some (.builtin "any") := by decide +kernel
theorem bi_sum : bootBuiltins "sum" = some (.builtin "sum") := by decide +kernel
theorem bi_max : bootBuiltins "max" = some (.builtin "max") := by decide +kernel
theorem bi_min : bootBuiltins "min" = some (.builtin "min") := by decide +kernel
theorem bi_sorted : bootBuiltins "sorted" = some (.builtin "sorted") := by decide +kernel
section
variable {X : Cx} {sg : Sg} {M : Mem} {E : EndsD} {Q : D → Mem → Prop} {Qb : Bool → Mem → Prop} {pos : Pos} {K : PySem.W.Frag}
theorem EE.to {e : Expr} {d : D} (h : EE X e sg M d) (q : Q d M) : WE X e sg M Q := h.imp fun x M1 ⟨e1, e2⟩ => by subst e1; subst e2; exact q
theorem ET.to {e : Expr} {b : Bool} (h : ET X e sg M b) (q : Qb b M) : WT X e sg M Qb := h.imp fun x M1 ⟨e1, e2⟩ => by subst e1; subst e2; exact q
theorem EA.to {es : List Expr} {ds : List D} {Ql : List D → Mem → Prop} (h : EA X es sg M ds) (q : Ql ds M) : WA X es sg M Ql := h.imp fun x M1 ⟨e1, e2⟩ => by subst e1; subst e2; exact q
theorem EE.is {e : Expr} {d d' : D} (h : EE X e sg M d) (q : d = d') : EE X e sg M d' := by rw [← q]; exact h
theorem ET.is {e : Expr} {d d' : Bool} (h : ET X e sg M d) (q : d = d') : ET X e sg M d' := by rw [← q]; exact h
theorem ee_v (i : Nat) {x : Str} {d : D} (hs : sg[i]? = some (some d)) (hN : X.N[i]? = some x := by rfl) (hv : Vis X.env.scope x := by first | exact Or.inl rfl | exact Or.inr (Or.inl rfl) | exact Or.inr (Or.inr rfl)) (hd : (x == ("__debug__" : Str)) = false := by decide) (hcd : (x == ("__classdict__" : Str)) = false := by decide) : EE X (.Name x pos) sg M d := we_v i hs ⟨rfl, rfl⟩ hN hv hd hcd
theorem ee_int {i : Int} {j : Nat} : EE X (.Constant (.int i) j pos) sg M (.int i) := we_int ⟨rfl, rfl⟩
theorem ee_bl {i : Bool} {j : Nat} : EE X (.Constant (.bool i) j pos) sg M (.bl i) := we_bl ⟨rfl, rfl⟩
theorem ee_non {j : Nat} : EE X (.Constant .none j pos) sg M .non := we_non ⟨rfl, rfl⟩
theorem ee_str {i : Str} {j : Nat} : EE X (.Constant (.str i) j pos) sg M (.str i) := we_str ⟨rfl, rfl⟩
theorem ee_gi {x : Str} {i : Int} {t : Tok} (hm : X.mg x = some (.int i t)) (hg : Gl X x := by rfl) (hd : (x == ("__debug__" : Str)) = false := by decide) : EE X (.Name x pos) sg M (.int i) := we_gi hm ⟨rfl, rfl⟩ hg hd
section
variable {a b : Expr} {i j : Int}
theorem ee_add (ha : EE X a sg M (.int i)) (hb : EE X b sg M (.int j)) : EE X (.BinOp a .Add b pos) sg M (.int (i + j)) := ee_op op_add ha hb (od_I0 ⟨rfl, rfl⟩)
theorem ee_sub (ha : EE X a sg M (.int i)) (hb : EE X b sg M (.int j)) : EE X (.BinOp a .Sub b pos) sg M (.int (i - j)) := ee_op op_sub ha hb (od_I0 ⟨rfl, rfl⟩)
theorem ee_mul (ha : EE X a sg M (.int i)) (hb : EE X b sg M (.int j)) (h : CMul i j) : EE X (.BinOp a .Mult b pos) sg M (.int (i * j)) := ee_op op_mul ha hb (od_I h ⟨rfl, rfl⟩)
theorem ee_fdiv (ha : EE X a sg M (.int i)) (hb : EE X b sg M (.int j)) (h : CDiv i j) : EE X (.BinOp a .FloorDiv b pos) sg M (.int (i / j)) := ee_op op_fdiv ha hb (od_I h ⟨rfl, rfl⟩)
theorem ee_mod (ha : EE X a sg M (.int i)) (hb : EE X b sg M (.int j)) (h : 0 < j) : EE X (.BinOp a .Mod b pos) sg M (.int (i % j)) := ee_op op_mod ha hb (od_I h ⟨rfl, rfl⟩)
theorem ee_neg (ha : EE X a sg M (.int i)) : EE X (.UnaryOp .USub a pos) sg M (.int (-i)) := WE.of (pe_un un_neg pe_w) fun σ H G w s => (ha σ H G w s).imp fun v H1 ⟨d, G1, M1, st, w1, r1, e, e2⟩ => by
  subst e; subst e2
  cases r1
  exact ⟨i, rfl, _, G1, M1, st, w1, .int _, rfl, rfl⟩
theorem ee_lt (ha : EE X a sg M (.int i)) (hb : EE X b sg M (.int j)) : EE X (.Compare a [.Lt] [b] pos) sg M (.bl (decide (i < j))) := ee_cmp op_lt ha hb (od_B0 ⟨rfl, rfl⟩)
theorem ee_le (ha : EE X a sg M (.int i)) (hb : EE X b sg M (.int j)) : EE X (.Compare a [.LtE] [b] pos) sg M (.bl (decide (i ≤ j))) := ee_cmp op_le ha hb (od_B0 ⟨rfl, rfl⟩)
theorem ee_gt (ha : EE X a sg M (.int i)) (hb : EE X b sg M (.int j)) : EE X (.Compare a [.Gt] [b] pos) sg M (.bl (decide (j < i))) := ee_cmp op_gt ha hb (od_B0 ⟨rfl, rfl⟩)
theorem ee_ge (ha : EE X a sg M (.int i)) (hb : EE X b sg M (.int j)) : EE X (.Compare a [.GtE] [b] pos) sg M (.bl (decide (j ≤ i))) := ee_cmp op_ge ha hb (od_B0 ⟨rfl, rfl⟩)
theorem ee_eqI (ha : EE X a sg M (.int i)) (hb : EE X b sg M (.int j)) : EE X (.Compare a [.Eq] [b] pos) sg M (.bl (decide (i = j))) := ee_cmp op_eq ha hb (od_eqI ⟨rfl, rfl⟩)
theorem ee_neI (ha : EE X a sg M (.int i)) (hb : EE X b sg M (.int j)) : EE X (.Compare a [.NotEq] [b] pos) sg M (.bl (!decide (i = j))) := ee_cmp op_ne ha hb (od_neI ⟨rfl, rfl⟩)
theorem et_lt (ha : EE X a sg M (.int i)) (hb : EE X b sg M (.int j)) : ET X (.Compare a [.Lt] [b] pos) sg M (decide (i < j)) := et_cmp op_lt ha hb (od_B0 ⟨_, rfl, rfl, rfl⟩)
theorem et_le (ha : EE X a sg M (.int i)) (hb : EE X b sg M (.int j)) : ET X (.Compare a [.LtE] [b] pos) sg M (decide (i ≤ j)) := et_cmp op_le ha hb (od_B0 ⟨_, rfl, rfl, rfl⟩)
theorem et_gt (ha : EE X a sg M (.int i)) (hb : EE X b sg M (.int j)) : ET X (.Compare a [.Gt] [b] pos) sg M (decide (j < i)) := et_cmp op_gt ha hb (od_B0 ⟨_, rfl, rfl, rfl⟩)
theorem et_ge (ha : EE X a sg M (.int i)) (hb : EE X b sg M (.int j)) : ET X (.Compare a [.GtE] [b] pos) sg M (decide (j ≤ i)) := et_cmp op_ge ha hb (od_B0 ⟨_, rfl, rfl, rfl⟩)
theorem et_eqI (ha : EE X a sg M (.int i)) (hb : EE X b sg M (.int j)) : ET X (.Compare a [.Eq] [b] pos) sg M (decide (i = j)) := et_cmp op_eq ha hb (od_eqI ⟨_, rfl, rfl, rfl⟩)
theorem et_neI (ha : EE X a sg M (.int i)) (hb : EE X b sg M (.int j)) : ET X (.Compare a [.NotEq] [b] pos) sg M (!decide (i = j)) := et_cmp op_ne ha hb (od_neI ⟨_, rfl, rfl, rfl⟩)
theorem ee_le_le {c : Expr} {l : Int} (ha : EE X a sg M (.int i)) (hb : EE X b sg M (.int j)) (hc : EE X c sg M (.int l)) (hm : lastMarks [.LtE, .LtE] [b, c] = false := by with_unfolding_all rfl) : EE X (.Compare a [.LtE, .LtE] [b, c] pos) sg M (.bl (decide (i ≤ j) && decide (j ≤ l))) := we_chain op_le op_le (tri_I (p := fun i j => decide (i ≤ j)) (p' := fun i j => decide (i ≤ j)) ha hb hc ⟨rfl, rfl⟩) hm
theorem et_le_le {c : Expr} {l : Int} (ha : EE X a sg M (.int i)) (hb : EE X b sg M (.int j)) (hc : EE X c sg M (.int l)) (hm : lastMarks [.LtE, .LtE] [b, c] = false := by with_unfolding_all rfl) : ET X (.Compare a [.LtE, .LtE] [b, c] pos) sg M (decide (i ≤ j) && decide (j ≤ l)) := wt_chain op_le op_le (tri_I (p := fun i j => decide (i ≤ j)) (p' := fun i j => decide (i ≤ j)) ha hb hc ⟨rfl, rfl⟩) hm
/-- isinstance of plain data -/
def isIns (T : String) (d : D) : Bool := (kitB (tyD d) T).getD false
theorem isIns_some {T : String} (h : ([("NoneType"), "bool", "int", "str", "tuple", "list"].all fun a => (kitB a T).isSome) = true) (d : D) : kitB (tyD d) T = some (isIns T d) := by
  unfold isIns
  have q : (kitB (tyD d) T).isSome = true := by
    have h' := List.all_eq_true.mp h
    cases d <;> exact h' _ (by simp [tyD])
  obtain ⟨b, e⟩ := Option.isSome_iff_exists.mp q
  rw [e]
  rfl
theorem k_int : ([("NoneType"), "bool", "int", "str", "tuple", "list"].all fun a => (kitB a "int").isSome) = true := by decide +kernel
theorem k_bool : ([("NoneType"), "bool", "int", "str", "tuple", "list"].all fun a => (kitB a "bool").isSome) = true := by decide +kernel
theorem k_str : ([("NoneType"), "bool", "int", "str", "tuple", "list"].all fun a => (kitB a "str").isSome) = true := by decide +kernel
theorem k_tuple : ([("NoneType"), "bool", "int", "str", "tuple", "list"].all fun a => (kitB a "tuple").isSome) = true := by decide +kernel
theorem k_list : ([("NoneType"), "bool", "int", "str", "tuple", "list"].all fun a => (kitB a "list").isSome) = true := by decide +kernel
def isI : D → Bool
  | .int _ => true
  | .bl _ => true
  | _ => false
def isB : D → Bool
  | .bl _ => true
  | _ => false
def isS : D → Bool
  | .str _ => true
  | _ => false
def isT : D → Bool
  | .tup _ => true
  | _ => false
def isL : D → Bool
  | .lst _ => true
  | .ptr _ => true
  | .scr _ => true
  | _ => false
theorem ins_int (d : D) : isIns "int" d = isI d := by cases d <;> rfl
theorem ins_bool (d : D) : isIns "bool" d = isB d := by cases d <;> rfl
theorem ins_str (d : D) : isIns "str" d = isS d := by cases d <;> rfl
theorem ins_tuple (d : D) : isIns "tuple" d = isT d := by cases d <;> rfl
theorem ins_list (d : D) : isIns "list" d = isL d := by cases d <;> rfl
theorem isI_of {d : D} (h : (isI d && !isB d) = true) : ∃ i, d = .int i := by cases d <;> first | exact ⟨_, rfl⟩ | cases h
theorem isB_of {d : D} (h : isB d = true) : ∃ i, d = .bl i := by cases d <;> first | exact ⟨_, rfl⟩ | cases h
theorem isS_of {d : D} (h : isS d = true) : ∃ i, d = .str i := by cases d <;> first | exact ⟨_, rfl⟩ | cases h
theorem isT_of {d : D} (h : isT d = true) : ∃ ds, d = .tup ds := by cases d <;> first | exact ⟨_, rfl⟩ | cases h
section
variable {e : Expr} {d : D} {p p2 : Pos}
theorem ee_isi {y : Str} {T : String} (hm : X.mg "isinstance" = none) (hmT : X.mg y = none) (hv : bootBuiltins y = some (.type T)) (hk : ([("NoneType"), "bool", "int", "str", "tuple", "list"].all fun a => (kitB a T).isSome) = true) (h : EE X e sg M d) (lk : LkD M d) (hg : Gl X "isinstance" := by rfl) (hgT : Gl X y := by rfl) (hn : y ≠ "__name__" := by decide) (hdb : (y == ("__debug__" : Str)) = false := by decide)
    (hs : starEach [e, .Name y p2] X.env = (false, eval e X.env) :: starEach [.Name y p2] X.env := by exact star1 rfl) (hs2 : starEach [.Name y p2] X.env = (false, eval (.Name y p2) X.env) :: starEach [] X.env := by exact star1 rfl) (hpl : (backTo pos (starEach [.Name y p2] X.env)).any (·.1) = false := by exact starN rfl) : EE X (.Call (.Name "isinstance" p) [e, .Name y p2] [] pos) sg M (.bl (isIns T d)) :=
  we_isi hm hmT hv (h.to ⟨lk, _, isIns_some hk d, rfl, rfl⟩) hg hgT hn hdb hs hs2 hpl
theorem ee_isI (hm : X.mg "isinstance" = none) (hmT : X.mg "int" = none) (h : EE X e sg M d) (lk : LkD M d) (hg : Gl X "isinstance" := by rfl) (hgT : Gl X "int" := by rfl)
    (hs : starEach [e, .Name "int" p2] X.env = (false, eval e X.env) :: starEach [.Name "int" p2] X.env := by exact star1 rfl) (hs2 : starEach [.Name "int" p2] X.env = (false, eval (.Name "int" p2) X.env) :: starEach [] X.env := by exact star1 rfl) (hpl : (backTo pos (starEach [.Name "int" p2] X.env)).any (·.1) = false := by exact starN rfl) : EE X (.Call (.Name "isinstance" p) [e, .Name "int" p2] [] pos) sg M (.bl (isI d)) := by
  rw [← ins_int]
  exact ee_isi hm hmT bi_int k_int h lk hg hgT (by decide) (by decide) hs hs2 hpl
theorem ee_isB (hm : X.mg "isinstance" = none) (hmT : X.mg "bool" = none) (h : EE X e sg M d) (lk : LkD M d) (hg : Gl X "isinstance" := by rfl) (hgT : Gl X "bool" := by rfl)
    (hs : starEach [e, .Name "bool" p2] X.env = (false, eval e X.env) :: starEach [.Name "bool" p2] X.env := by exact star1 rfl) (hs2 : starEach [.Name "bool" p2] X.env = (false, eval (.Name "bool" p2) X.env) :: starEach [] X.env := by exact star1 rfl) (hpl : (backTo pos (starEach [.Name "bool" p2] X.env)).any (·.1) = false := by exact starN rfl) : EE X (.Call (.Name "isinstance" p) [e, .Name "bool" p2] [] pos) sg M (.bl (isB d)) := by
  rw [← ins_bool]
  exact ee_isi hm hmT bi_bool k_bool h lk hg hgT (by decide) (by decide) hs hs2 hpl
theorem ee_isS (hm : X.mg "isinstance" = none) (hmT : X.mg "str" = none) (h : EE X e sg M d) (lk : LkD M d) (hg : Gl X "isinstance" := by rfl) (hgT : Gl X "str" := by rfl)
    (hs : starEach [e, .Name "str" p2] X.env = (false, eval e X.env) :: starEach [.Name "str" p2] X.env := by exact star1 rfl) (hs2 : starEach [.Name "str" p2] X.env = (false, eval (.Name "str" p2) X.env) :: starEach [] X.env := by exact star1 rfl) (hpl : (backTo pos (starEach [.Name "str" p2] X.env)).any (·.1) = false := by exact starN rfl) : EE X (.Call (.Name "isinstance" p) [e, .Name "str" p2] [] pos) sg M (.bl (isS d)) := by
  rw [← ins_str]
  exact ee_isi hm hmT bi_str k_str h lk hg hgT (by decide) (by decide) hs hs2 hpl
theorem ee_isT (hm : X.mg "isinstance" = none) (hmT : X.mg "tuple" = none) (h : EE X e sg M d) (lk : LkD M d) (hg : Gl X "isinstance" := by rfl) (hgT : Gl X "tuple" := by rfl)
    (hs : starEach [e, .Name "tuple" p2] X.env = (false, eval e X.env) :: starEach [.Name "tuple" p2] X.env := by exact star1 rfl) (hs2 : starEach [.Name "tuple" p2] X.env = (false, eval (.Name "tuple" p2) X.env) :: starEach [] X.env := by exact star1 rfl) (hpl : (backTo pos (starEach [.Name "tuple" p2] X.env)).any (·.1) = false := by exact starN rfl) : EE X (.Call (.Name "isinstance" p) [e, .Name "tuple" p2] [] pos) sg M (.bl (isT d)) := by
  rw [← ins_tuple]
  exact ee_isi hm hmT bi_tuple k_tuple h lk hg hgT (by decide) (by decide) hs hs2 hpl
theorem ee_isL (hm : X.mg "isinstance" = none) (hmT : X.mg "list" = none) (h : EE X e sg M d) (lk : LkD M d) (hg : Gl X "isinstance" := by rfl) (hgT : Gl X "list" := by rfl)
    (hs : starEach [e, .Name "list" p2] X.env = (false, eval e X.env) :: starEach [.Name "list" p2] X.env := by exact star1 rfl) (hs2 : starEach [.Name "list" p2] X.env = (false, eval (.Name "list" p2) X.env) :: starEach [] X.env := by exact star1 rfl) (hpl : (backTo pos (starEach [.Name "list" p2] X.env)).any (·.1) = false := by exact starN rfl) : EE X (.Call (.Name "isinstance" p) [e, .Name "list" p2] [] pos) sg M (.bl (isL d)) := by
  rw [← ins_list]
  exact ee_isi hm hmT bi_list k_list h lk hg hgT (by decide) (by decide) hs hs2 hpl
end
/-! calls of built-ins on one datum -/
section
variable {e : Expr} {d : D} {p : Pos} {ds : List D}
theorem ee_cb {id : String} {r : List V → Hp → VK → Prop} {x : Str} {es : List Expr} (hc : CallR X (.builtin id) r) (hm : X.mg x = none) (hv : bootBuiltins x = some (.builtin id)) (h : EA X (e :: es) sg M ds) (hcl : ClD X.K r ds M Q) (hg : Gl X x := by rfl) (hn : x ≠ "__name__" := by decide) (hdb : (x == ("__debug__" : Str)) = false := by decide)
    (he : starEach (e :: es) X.env = (false, eval e X.env) :: starEach es X.env := by exact star1 rfl) (hpl : (backTo pos (starEach es X.env)).any (·.1) = false := by exact starN rfl) : WE X (.Call (.Name x p) (e :: es) [] pos) sg M Q := we_cb hc hm hv (h.to hcl) hg hn hdb he hpl
theorem ee_ct {T : String} {r : List V → Hp → VK → Prop} {x : Str} {es : List Expr} (hc : CallR X (.type T) r) (hm : X.mg x = none) (hv : bootBuiltins x = some (.type T)) (h : EA X (e :: es) sg M ds) (hcl : ClD X.K r ds M Q) (hg : Gl X x := by rfl) (hn : x ≠ "__name__" := by decide) (hdb : (x == ("__debug__" : Str)) = false := by decide)
    (he : starEach (e :: es) X.env = (false, eval e X.env) :: starEach es X.env := by exact star1 rfl) (hpl : (backTo pos (starEach es X.env)).any (·.1) = false := by exact starN rfl) : WE X (.Call (.Name x p) (e :: es) [] pos) sg M Q := we_ct hc hm hv (h.to hcl) hg hn hdb he hpl
end
end
end
/-- the names of built-ins that the top leaves alone -/
structure Blt (mg : Str → Option Value) : Prop where
  isinstance : mg "isinstance" = none
  int : mg "int" = none
  bool : mg "bool" = none
  str : mg "str" = none
  tuple : mg "tuple" = none
  list : mg "list" = none
  len : mg "len" = none
  all : mg "all" = none
  any : mg "any" = none
  sum : mg "sum" = none
  max : mg "max" = none
  min : mg "min" = none
  sorted : mg "sorted" = none
  range : mg "range" = none
  enumerate : mg "enumerate" = none
  zip : mg "zip" = none
end DL
namespace DL
open PySem L2 PyProof.Rows HT
/-- the def x of the text stands behind the top -/
def Df (K : PySem.W.Frag) (mg : Str → Option Value) (x : Str) (st : Stmt) (ps : List Str) : Prop := ∃ f fd, Fun K x x st f fd ∧ mg x = some (.ref f) ∧ Binds K fd ps []
theorem dfn' {P : Program} {w : World} {K : PySem.W.Frag} {mg : Str → Option Value} {base : Heap} {x : Str} {st : Stmt} {N ps : List Str} {k n : Nat} {S : SpD} (F : Df K mg x st ps) (sc : FnScope N ps (defScope st)) (hn : ps.length = n)
    (body : ∀ (f : Addr) (cdv : Value) (A : Around) (outer : List Env) (s : Shared) (H : Hp) (E : XK) (ds : List D) (M : Mem) (Q : D → Mem → Prop), Room k (A.deeper (envOfC x (defScope st) s.heap.objs.size f cdv)) → ds.length = n → S ds M Q →
      WSs (cxOf CX0 P w K mg base N x (defScope st) f cdv A outer s H E).nox (defBody st) (startD N ds) M { nx := fun _ M' => Q .non M', rt := Q }) : Cal P w K mg base (k + 1) x n S := by
  obtain ⟨f, fd, F, hm, hb⟩ := F
  exact dfn F sc hn hm hb (body f)
end DL
set_option Elab.async false
set_option linter.all false
set_option maxRecDepth 100000
set_option maxHeartbeats 4000000
/-! DLi: comprehensions in short. -/
namespace DL
open PySem L2 PyProof.Rows HT
section
variable {X : Cx} {sg : Sg} {M : Mem} {E : EndsD} {Q : D → Mem → Prop} {pos : Pos} {K : PySem.W.Frag}
abbrev ItQ (ds : List D) (M : Mem) : List D → (Mem → Prop) → Mem → Prop := fun ds' C M0 => ds' = ds ∧ M0 = M ∧ C M
section
variable {elt iter : Expr} {scope : Scope} {x y : Str} {px py pt : Pos} {kt : Nat} {ds : List D}
theorem blk_kind {C : Addr} {cl : List (Str × Addr)} {k : NameKind} {x : Str} {scope : Scope} (hk : k ≠ .free) (h : scope.names.lookup x = some k) : (compEnvC scope cl C X.env).scope.names.lookup x = some k := lookup_relS_keep (sc := X.env.scope) hk h
theorem blk_name (i : Nat) {vs : List Nat} {sg1 : Sg} {d : D} (hN : X.N.Nodup) (hx : scope.names.lookup x = some .local ∨ scope.names.lookup x = some .cell) (hi : X.N[i]? = some x) : Blk X scope fun Y => WG Y (.Name x px) [i] d sg1 (sg1.set i (some d)) := fun s H C cl fp => by
  rcases hx with h | h
  · exact wg_name i hN hi (.inl (blk_kind (by decide) h)) (.inr (blk_kind (by decide) h))
  · refine wg_name i hN hi (.inr (blk_kind (by decide) h)) (.inl ?_)
    show (scope.names.lookup x == some .cell) = true
    rw [h]
    rfl
/-- a turn whose target is one name -/
theorem turn1 (i : Nat) {ifs : List Expr} {vs : List Nat} {d : D} {M1 : Mem} {QT : D → Mem → Prop} {QF : Mem → Prop} (hv : i ∈ vs) (hN : X.N.Nodup) (hx : scope.names.lookup x = some .local ∨ scope.names.lookup x = some .cell) (hi : X.N[i]? = some x)
    (QB : Bool → Mem → Prop) (ht : Blk X scope fun Y => WTs Y ifs ((wipeD sg vs).set i (some d)) M1 QB) (he : ∀ M2, QB true M2 → Blk X scope fun Y => WE Y elt ((wipeD sg vs).set i (some d)) M2 QT) (hf : ∀ M2, QB false M2 → QF M2) : LcTurn X scope vs (.Name x px) elt ifs sg d M1 QT QF :=
  ⟨[i], _, fun j hj => by rw [List.mem_singleton.mp hj]; exact hv, blk_name (vs := vs) i hN hx hi, QB, ht, he, hf⟩
/-- .. two names -/
theorem turn2 (i j : Nat) {ifs : List Expr} {vs : List Nat} {a b : D} {M1 : Mem} {QT : D → Mem → Prop} {QF : Mem → Prop} (hv : i ∈ vs) (hw : j ∈ vs) (hc : X.calm = true) (hN : X.N.Nodup) (hx : scope.names.lookup x = some .local ∨ scope.names.lookup x = some .cell) (hi : X.N[i]? = some x) (hy : scope.names.lookup y = some .local ∨ scope.names.lookup y = some .cell) (hj : X.N[j]? = some y)
    (QB : Bool → Mem → Prop) (ht : Blk X scope fun Y => WTs Y ifs (((wipeD sg vs).set i (some a)).set j (some b)) M1 QB) (he : ∀ M2, QB true M2 → Blk X scope fun Y => WE Y elt (((wipeD sg vs).set i (some a)).set j (some b)) M2 QT) (hf : ∀ M2, QB false M2 → QF M2) : LcTurn X scope vs (.Tuple [.Name x px, .Name y py] kt pt) elt ifs sg (.tup [a, b]) M1 QT QF := by
  refine ⟨[i] ++ ([j] ++ []), ((wipeD sg vs).set i (some a)).set j (some b), fun l hl => ?_, fun s H C cl fp => wg_tup hc (wgs_cons (blk_name (vs := vs) i hN hx hi s H C cl fp) (wgs_cons (blk_name (vs := vs) j hN hy hj s H C cl fp) wgs_nil)), QB, ht, he, hf⟩
  rcases List.mem_append.mp hl with h | h
  · rw [List.mem_singleton.mp h]; exact hv
  · rcases List.mem_append.mp h with h | h
    · rw [List.mem_singleton.mp h]; exact hw
    · cases h
/-- [elt for x in iter], nothing changing -/
theorem ok_lc1 (i : Nat) (f : D → D) (hc : X.calm = true) (hN : X.N.Nodup) (hz : ds.length < sizeLine) (h : ∀ (j : Nat) (d : D), ds[j]? = some d → Blk X scope fun Y => EE Y elt ((wipeD sg [i]).set i (some d)) M (f d))
    (ok : BlkOk X.N X.env.scope scope [(x, i)] := by exact blkOk_by (by with_unfolding_all rfl)) (hx : scope.names.lookup x = some .local ∨ scope.names.lookup x = some .cell := by first | exact Or.inl rfl | exact Or.inr rfl) : LcOk X scope [i] (.Name x px) elt [] sg (ItQ ds M) fun x M' => x = (.lst (ds.map f)) ∧ M' = M :=
  fun ds' C M0 ⟨e1, e2, hC⟩ => by
    subst e1; subst e2
    refine ⟨fun j acc M1 => j ≤ ds'.length ∧ acc = (ds'.take j).map f ∧ M1 = M0, ⟨Nat.zero_le _, rfl, rfl⟩, fun j acc M1 ⟨hj, e1, e2⟩ => ?_, fun j d acc M1 hd ⟨hj, e1, e2⟩ => ?_, fun acc M1 ⟨_, e1, e2⟩ => ?_⟩
    · subst e1; subst e2
      refine ⟨hC, ?_⟩
      rw [List.length_map, List.length_take]
      omega
    · subst e1; subst e2
      refine turn1 i (List.mem_singleton.mpr rfl) hN hx (ok.ix _ (List.mem_singleton.mpr rfl)) (fun b M2 => b = true ∧ M2 = M1) (fun _ _ _ _ _ => ⟨rfl, rfl⟩) (fun M2 ⟨_, e⟩ => ?_) (fun M2 ⟨e, _⟩ => Bool.noConfusion e)
      subst e
      exact fun s H C cl fp => (h j d hd s H C cl fp).imp fun z M3 ⟨e3, e4⟩ => ⟨(List.getElem?_eq_some_iff.mp hd).1, by rw [e3, List.take_add_one, hd, List.map_append]; rfl, e4⟩
    · rw [List.take_length] at e1
      subst e1
      exact ⟨rfl, e2⟩
theorem ee_lc1 (i : Nat) (f : D → D) (hc : X.calm = true) (hN : X.N.Nodup) (hi : WI X (.Name x px) iter sg M (ItQ ds M)) (hz : ds.length < sizeLine) (h : ∀ (j : Nat) (d : D), ds[j]? = some d → Blk X scope fun Y => EE Y elt ((wipeD sg [i]).set i (some d)) M (f d))
    (ok : BlkOk X.N X.env.scope scope [(x, i)] := by exact blkOk_by (by with_unfolding_all rfl)) (hx : scope.names.lookup x = some .local ∨ scope.names.lookup x = some .cell := by first | exact Or.inl rfl | exact Or.inr rfl) (hs : ∀ x, foldedSetIterable iter X.env x = pure x := by intro _; rfl) : EE X (.ListComp elt [⟨.Name x px, iter, [], 0⟩] scope pos) sg M (.lst (ds.map f)) :=
  we_lc [(x, i)] hc hN ok hi (ok_lc1 i f hc hN hz h ok hx) (Nat.zero_le _) hs
/-- [elt for x in iter if c] -/
theorem ok_lc1if {c : Expr} (i : Nat) (p : D → Bool) (f : D → D) (hc : X.calm = true) (hN : X.N.Nodup) (hz : ds.length < sizeLine) (ht : ∀ (j : Nat) (d : D), ds[j]? = some d → Blk X scope fun Y => ET Y c ((wipeD sg [i]).set i (some d)) M (p d)) (h : ∀ (j : Nat) (d : D), ds[j]? = some d → p d = true → Blk X scope fun Y => EE Y elt ((wipeD sg [i]).set i (some d)) M (f d))
    (ok : BlkOk X.N X.env.scope scope [(x, i)] := by exact blkOk_by (by with_unfolding_all rfl)) (hx : scope.names.lookup x = some .local ∨ scope.names.lookup x = some .cell := by first | exact Or.inl rfl | exact Or.inr rfl) : LcOk X scope [i] (.Name x px) elt [c] sg (ItQ ds M) fun x M' => x = (.lst ((ds.filter p).map f)) ∧ M' = M :=
  fun ds' C M0 ⟨e1, e2, hC⟩ => by
    subst e1; subst e2
    refine ⟨fun j acc M1 => j ≤ ds'.length ∧ acc = ((ds'.take j).filter p).map f ∧ M1 = M0, ⟨Nat.zero_le _, rfl, rfl⟩, fun j acc M1 ⟨hj, e1, e2⟩ => ?_, fun j d acc M1 hd ⟨hj, e1, e2⟩ => ?_, fun acc M1 ⟨_, e1, e2⟩ => ?_⟩
    · subst e1; subst e2
      refine ⟨hC, ?_⟩
      rw [List.length_map]
      have a1 := List.length_filter_le p (ds'.take j)
      rw [List.length_take] at a1
      omega
    · subst e1; subst e2
      have hlt := (List.getElem?_eq_some_iff.mp hd).1
      have tk : ds'.take (j + 1) = ds'.take j ++ [d] := by rw [List.take_add_one, hd]; rfl
      refine turn1 i (List.mem_singleton.mpr rfl) hN hx (ok.ix _ (List.mem_singleton.mpr rfl)) (fun b M2 => b = p d ∧ M2 = M1) (ht j d hd) (fun M2 ⟨e3, e⟩ => ?_) (fun M2 ⟨e3, e⟩ => ⟨hlt, ?_, e⟩)
      · subst e
        refine fun s H C cl fp => (h j d hd e3.symm s H C cl fp).imp fun z M3 ⟨e5, e4⟩ => ⟨hlt, ?_, e4⟩
        rw [e5, tk, List.filter_append, List.map_append, List.filter_cons_of_pos e3.symm]
        rfl
      · rw [tk, List.filter_append, List.filter_cons_of_neg (by rw [← e3]; exact Bool.false_ne_true), List.filter_nil, List.append_nil]
    · rw [List.take_length] at e1
      subst e1
      exact ⟨rfl, e2⟩
theorem ee_lc1if {c : Expr} (i : Nat) (p : D → Bool) (f : D → D) (hc : X.calm = true) (hN : X.N.Nodup) (hi : WI X (.Name x px) iter sg M (ItQ ds M)) (hz : ds.length < sizeLine) (ht : ∀ (j : Nat) (d : D), ds[j]? = some d → Blk X scope fun Y => ET Y c ((wipeD sg [i]).set i (some d)) M (p d)) (h : ∀ (j : Nat) (d : D), ds[j]? = some d → p d = true → Blk X scope fun Y => EE Y elt ((wipeD sg [i]).set i (some d)) M (f d))
    (ok : BlkOk X.N X.env.scope scope [(x, i)] := by exact blkOk_by (by with_unfolding_all rfl)) (hx : scope.names.lookup x = some .local ∨ scope.names.lookup x = some .cell := by first | exact Or.inl rfl | exact Or.inr rfl) (hs : ∀ x, foldedSetIterable iter X.env x = pure x := by intro _; rfl) : EE X (.ListComp elt [⟨.Name x px, iter, [c], 0⟩] scope pos) sg M (.lst ((ds.filter p).map f)) :=
  we_lc [(x, i)] hc hN ok hi (ok_lc1if i p f hc hN hz ht h ok hx) (Nat.le_refl _) hs
def fstD : D → D
  | .tup (a :: _) => a
  | _ => .non
def sndD : D → D
  | .tup (_ :: b :: _) => b
  | _ => .non
/-- [elt for x, y in iter] -/
theorem ok_lc2 (i j : Nat) (f : D → D → D) (hc : X.calm = true) (hN : X.N.Nodup) (hz : ds.length < sizeLine) (h : ∀ (l : Nat) (d : D), ds[l]? = some d → ∃ a b, d = .tup [a, b] ∧ Blk X scope fun Y => EE Y elt (((wipeD sg [i, j]).set i (some a)).set j (some b)) M (f a b))
    (ok : BlkOk X.N X.env.scope scope [(x, i), (y, j)] := by exact blkOk_by (by with_unfolding_all rfl)) (hx : scope.names.lookup x = some .local ∨ scope.names.lookup x = some .cell := by first | exact Or.inl rfl | exact Or.inr rfl) (hy : scope.names.lookup y = some .local ∨ scope.names.lookup y = some .cell := by first | exact Or.inl rfl | exact Or.inr rfl) : LcOk X scope [i, j] (.Tuple [.Name x px, .Name y py] kt pt) elt [] sg (ItQ ds M) fun x M' => x = (.lst (ds.map fun d => f (fstD d) (sndD d))) ∧ M' = M :=
  fun ds' C M0 ⟨e1, e2, hC⟩ => by
    subst e1; subst e2
    refine ⟨fun l acc M1 => l ≤ ds'.length ∧ acc = (ds'.take l).map (fun d => f (fstD d) (sndD d)) ∧ M1 = M0, ⟨Nat.zero_le _, rfl, rfl⟩, fun l acc M1 ⟨hj, e1, e2⟩ => ?_, fun l d acc M1 hd ⟨hj, e1, e2⟩ => ?_, fun acc M1 ⟨_, e1, e2⟩ => ?_⟩
    · subst e1; subst e2
      refine ⟨hC, ?_⟩
      rw [List.length_map, List.length_take]
      omega
    · subst e1; subst e2
      obtain ⟨a, b, ed, hb⟩ := h l d hd
      subst ed
      refine turn2 i j (by simp) (by simp) hc hN hx (ok.ix (x, i) (by simp)) hy (ok.ix (y, j) (by simp)) (fun b M2 => b = true ∧ M2 = M1) (fun _ _ _ _ _ => ⟨rfl, rfl⟩) (fun M2 ⟨_, e⟩ => ?_) (fun M2 ⟨e, _⟩ => Bool.noConfusion e)
      subst e
      exact fun s H C cl fp => (hb s H C cl fp).imp fun z M3 ⟨e3, e4⟩ => ⟨(List.getElem?_eq_some_iff.mp hd).1, by rw [e3, List.take_add_one, hd, List.map_append]; rfl, e4⟩
    · rw [List.take_length] at e1
      subst e1
      exact ⟨rfl, e2⟩
theorem ee_lc2 (i j : Nat) (f : D → D → D) (hc : X.calm = true) (hN : X.N.Nodup) (hi : WI X (.Tuple [.Name x px, .Name y py] kt pt) iter sg M (ItQ ds M)) (hz : ds.length < sizeLine) (h : ∀ (l : Nat) (d : D), ds[l]? = some d → ∃ a b, d = .tup [a, b] ∧ Blk X scope fun Y => EE Y elt (((wipeD sg [i, j]).set i (some a)).set j (some b)) M (f a b))
    (ok : BlkOk X.N X.env.scope scope [(x, i), (y, j)] := by exact blkOk_by (by with_unfolding_all rfl)) (hx : scope.names.lookup x = some .local ∨ scope.names.lookup x = some .cell := by first | exact Or.inl rfl | exact Or.inr rfl) (hy : scope.names.lookup y = some .local ∨ scope.names.lookup y = some .cell := by first | exact Or.inl rfl | exact Or.inr rfl) (hs : ∀ x, foldedSetIterable iter X.env x = pure x := by intro _; rfl) : EE X (.ListComp elt [⟨.Tuple [.Name x px, .Name y py] kt pt, iter, [], 0⟩] scope pos) sg M (.lst (ds.map fun d => f (fstD d) (sndD d))) :=
  we_lc [(x, i), (y, j)] hc hN ok hi (ok_lc2 i j f hc hN hz h ok hx hy) (Nat.zero_le _) hs
/-- [elt for x, y in iter if c] -/
theorem ok_lc2if {c : Expr} (i j : Nat) (p : D → D → Bool) (f : D → D → D) (hc : X.calm = true) (hN : X.N.Nodup) (hz : ds.length < sizeLine) (h : ∀ (l : Nat) (d : D), ds[l]? = some d → ∃ a b, d = .tup [a, b] ∧ (Blk X scope fun Y => ET Y c (((wipeD sg [i, j]).set i (some a)).set j (some b)) M (p a b)) ∧ (p a b = true → Blk X scope fun Y => EE Y elt (((wipeD sg [i, j]).set i (some a)).set j (some b)) M (f a b)))
    (ok : BlkOk X.N X.env.scope scope [(x, i), (y, j)] := by exact blkOk_by (by with_unfolding_all rfl)) (hx : scope.names.lookup x = some .local ∨ scope.names.lookup x = some .cell := by first | exact Or.inl rfl | exact Or.inr rfl) (hy : scope.names.lookup y = some .local ∨ scope.names.lookup y = some .cell := by first | exact Or.inl rfl | exact Or.inr rfl) : LcOk X scope [i, j] (.Tuple [.Name x px, .Name y py] kt pt) elt [c] sg (ItQ ds M) fun x M' => x = (.lst ((ds.filter fun d => p (fstD d) (sndD d)).map fun d => f (fstD d) (sndD d))) ∧ M' = M :=
  fun ds' C M0 ⟨e1, e2, hC⟩ => by
    subst e1; subst e2
    refine ⟨fun l acc M1 => l ≤ ds'.length ∧ acc = ((ds'.take l).filter fun d => p (fstD d) (sndD d)).map (fun d => f (fstD d) (sndD d)) ∧ M1 = M0, ⟨Nat.zero_le _, rfl, rfl⟩, fun l acc M1 ⟨hj, e1, e2⟩ => ?_, fun l d acc M1 hd ⟨hj, e1, e2⟩ => ?_, fun acc M1 ⟨_, e1, e2⟩ => ?_⟩
    · subst e1; subst e2
      refine ⟨hC, ?_⟩
      rw [List.length_map]
      have a1 := List.length_filter_le (fun d => p (fstD d) (sndD d)) (ds'.take l)
      rw [List.length_take] at a1
      omega
    · subst e1; subst e2
      obtain ⟨a, b, ed, ht, hb⟩ := h l d hd
      subst ed
      have hlt := (List.getElem?_eq_some_iff.mp hd).1
      have tk : ds'.take (l + 1) = ds'.take l ++ [D.tup [a, b]] := by rw [List.take_add_one, hd]; rfl
      refine turn2 i j (by simp) (by simp) hc hN hx (ok.ix (x, i) (by simp)) hy (ok.ix (y, j) (by simp)) (fun k M2 => k = p a b ∧ M2 = M1) ht (fun M2 ⟨e3, e⟩ => ?_) (fun M2 ⟨e3, e⟩ => ⟨hlt, ?_, e⟩)
      · subst e
        refine fun s H C cl fp => (hb e3.symm s H C cl fp).imp fun z M3 ⟨e5, e4⟩ => ⟨hlt, ?_, e4⟩
        have e6 : (fun d => p (fstD d) (sndD d)) (.tup [a, b]) = true := e3.symm
        rw [e5, tk, List.filter_append, List.map_append, List.filter_cons_of_pos (p := fun d => p (fstD d) (sndD d)) e6]
        rfl
      · have e6 : ¬ (fun d => p (fstD d) (sndD d)) (.tup [a, b]) = true := by
          show ¬ p a b = true
          rw [← e3]
          exact Bool.false_ne_true
        rw [tk, List.filter_append, List.filter_cons_of_neg (p := fun d => p (fstD d) (sndD d)) e6, List.filter_nil, List.append_nil]
    · rw [List.take_length] at e1
      subst e1
      exact ⟨rfl, e2⟩
theorem ee_lc2if {c : Expr} (i j : Nat) (p : D → D → Bool) (f : D → D → D) (hc : X.calm = true) (hN : X.N.Nodup) (hi : WI X (.Tuple [.Name x px, .Name y py] kt pt) iter sg M (ItQ ds M)) (hz : ds.length < sizeLine) (h : ∀ (l : Nat) (d : D), ds[l]? = some d → ∃ a b, d = .tup [a, b] ∧ (Blk X scope fun Y => ET Y c (((wipeD sg [i, j]).set i (some a)).set j (some b)) M (p a b)) ∧ (p a b = true → Blk X scope fun Y => EE Y elt (((wipeD sg [i, j]).set i (some a)).set j (some b)) M (f a b)))
    (ok : BlkOk X.N X.env.scope scope [(x, i), (y, j)] := by exact blkOk_by (by with_unfolding_all rfl)) (hx : scope.names.lookup x = some .local ∨ scope.names.lookup x = some .cell := by first | exact Or.inl rfl | exact Or.inr rfl) (hy : scope.names.lookup y = some .local ∨ scope.names.lookup y = some .cell := by first | exact Or.inl rfl | exact Or.inr rfl) (hs : ∀ x, foldedSetIterable iter X.env x = pure x := by intro _; rfl) : EE X (.ListComp elt [⟨.Tuple [.Name x px, .Name y py] kt pt, iter, [c], 0⟩] scope pos) sg M (.lst ((ds.filter fun d => p (fstD d) (sndD d)).map fun d => f (fstD d) (sndD d))) :=
  we_lc [(x, i), (y, j)] hc hN ok hi (ok_lc2if i j p f hc hN hz h ok hx hy) (Nat.le_refl _) hs
end
theorem LcOk.imp {scope : Scope} {vs : List Nat} {tg elt : Expr} {ifs : List Expr} {Qi : List D → (Mem → Prop) → Mem → Prop} {Q' : D → Mem → Prop} (h : LcOk X scope vs tg elt ifs sg Qi Q) (k : ∀ d M', Q d M' → Q' d M') : LcOk X scope vs tg elt ifs sg Qi Q' := fun ds C M0 q => let ⟨Pv, a, b, c, d⟩ := h ds C M0 q; ⟨Pv, a, b, c, fun acc M1 z => k _ _ (d acc M1 z)⟩
theorem LcOk.to {scope : Scope} {vs : List Nat} {tg elt : Expr} {ifs : List Expr} {Qi : List D → (Mem → Prop) → Mem → Prop} {d : D} (h : LcOk X scope vs tg elt ifs sg Qi fun x M' => x = d ∧ M' = M) (q : Q d M) : LcOk X scope vs tg elt ifs sg Qi Q := h.imp fun x M' ⟨e1, e2⟩ => by subst e1; subst e2; exact q
/-- an expression assigned to a name by a comprehension on one line: the rule for the plain one serves, where it changes nothing -/
theorem ws_setLcE (i : Nat) {y : Str} {py : Pos} {iter elt tg : Expr} {ifs : List Expr} {scope : Scope} {spos : Pos} (own : List (Str × Nat)) {Qi : List D → (Mem → Prop) → Mem → Prop} (hc : X.calm = true) (hN : X.N.Nodup) (hi : WI X tg iter sg M Qi) (h : LcOk X scope (own.map (·.2)) tg elt ifs sg Qi fun d M1 => E.nx (sg.set i (some d)) M1)
    (ok : BlkOk X.N X.env.scope scope own := by exact blkOk_by (by with_unfolding_all rfl)) (hif : ifs.length ≤ 1 := by decide) (hy : X.N[i]? = some y := by rfl) (hyl : X.env.scope.names.lookup y = some .local := by rfl) (hsw : swapsWith (.ListComp elt [⟨tg, iter, ifs, 0⟩] scope pos) (some (.Name y py)) spos.line X.env = pure true := by exact sw_true rfl rfl rfl (by decide +kernel)) (hs : ∀ x, foldedSetIterable iter X.env x = pure x := by intro _; rfl) : WS X (.Assign [.Name y py] (.ListComp elt [⟨tg, iter, ifs, 0⟩] scope pos) spos) sg M E := ws_setLc i own hc hN ok hi h hif hy hyl hsw hs
end
end DL
set_option Elab.async false
set_option linter.all false
set_option maxRecDepth 100000
set_option maxHeartbeats 4000000
/-! DLj: what the first law had of its own and every law can use. -/
namespace DL
open PySem L2 PyProof.Rows HT
def isW (d : D) : Bool := isI d && !isB d
theorem pl_lk {x : D} (M : Mem) (h : pl x = true) : LkD M x := by cases x <;> first | exact trivial | cases h
theorem plA_at : ∀ {ds : List D} {i : Nat} {d : D}, plA ds = true → ds[i]? = some d → pl d = true
  | [], i, _, _, h => by simp at h
  | d :: ds, 0, _, h, e => by
    simp at e
    subst e
    exact (Bool.and_eq_true_iff.mp h).1
  | d :: ds, i + 1, _, h, e => plA_at (Bool.and_eq_true_iff.mp h).2 (by simpa using e)
def itemsD : D → List D
  | .tup ds => ds
  | _ => []
def intOf : D → Int
  | .int i => i
  | _ => 0
def Ok (x : D) : Prop := pl x = true ∧ (itemsD x).length < 1000
theorem enumD_at {ds : List D} {i : Nat} {d : D} (hd : (enumD ds)[i]? = some d) : ∃ c, ds[i]? = some c ∧ d = .tup [.int (i : Int), c] := by
  unfold enumD at hd
  rw [List.getElem?_mapIdx] at hd
  cases e : ds[i]? with
  | none => rw [e] at hd; cases hd
  | some c => rw [e] at hd; exact ⟨c, rfl, (Option.some.inj hd).symm⟩
theorem mapIdx_map {α β γ : Type} (f : Nat → α → β) (g : β → γ) (l : List α) : (l.mapIdx f).map g = l.mapIdx fun i a => g (f i a) := by
  apply List.ext_getElem?
  intro i
  rw [List.getElem?_map, List.getElem?_mapIdx, List.getElem?_mapIdx, Option.map_map]
  rfl
theorem lt1000 {n : Nat} (h : n < 1000) : n < sizeLine := Nat.lt_of_lt_of_le h (by decide)
theorem getD_at {α : Type} {l : List α} {i : Nat} {d : α} (h : i < l.length) : l.getD i d = l[i] := by simp [List.getD, h]
abbrev tI (ps : List Int) : D := .tup (ps.map .int)
theorem enumD_ints (ps : List Int) : enumD (ps.map D.int) = ps.zipIdx.map fun q => .tup [.int (q.2 : Int), .int q.1] := by
  unfold enumD
  apply List.ext_getElem?
  intro i
  rw [List.getElem?_mapIdx, List.getElem?_map, List.getElem?_map, List.getElem?_zipIdx, Option.map_map, Option.map_map]
  simp only [Nat.zero_add]
  rfl
theorem atI_ints {ps : List Int} {i : Int} (h0 : 0 ≤ i) (h1 : i < ps.length) : atI (ps.map D.int) i = some (.int (ps.getD i.toNat 0)) := by
  have e : i = ((i.toNat : Nat) : Int) := by omega
  have hl : i.toNat < ps.length := by omega
  rw [e]
  refine atI_nat ?_
  rw [List.getElem?_map, List.getElem?_eq_getElem hl, getD_at (by omega)]
  rfl
theorem cut_to {α : Type} {xs : List α} {k : Int} (h0 : 0 ≤ k) (h1 : k ≤ xs.length) : DL.cutD xs none (some k) = xs.take k.toNat := by
  unfold DL.cutD
  have e : k = ((k.toNat : Nat) : Int) := by omega
  rw [e, HT.sIx_nat, HT.sIx_none, List.drop_zero, Nat.sub_zero, ← e, Nat.min_eq_left (by omega)]
theorem cut_from {α : Type} {xs : List α} {k : Int} (h0 : 0 ≤ k) (h1 : k ≤ xs.length) : DL.cutD xs (some k) none = xs.drop k.toNat := by
  unfold DL.cutD
  have e : k = ((k.toNat : Nat) : Int) := by omega
  rw [e, HT.sIx_nat, HT.sIx_none, ← e, Nat.min_eq_left (by omega), ← List.length_drop, List.take_length]
theorem at_map {α β : Type} {f : α → β} {l : List α} {i : Nat} {d : β} (h : (l.map f)[i]? = some d) : ∃ a, l[i]? = some a ∧ d = f a := by
  rw [List.getElem?_map] at h
  cases e : l[i]? with
  | none => rw [e] at h; cases h
  | some a => rw [e] at h; exact ⟨a, rfl, (Option.some.inj h).symm⟩
theorem dec_not (p : Prop) [Decidable p] : (!decide p) = decide (¬ p) := by by_cases h : p <;> simp [h]
theorem Mem.ext {M M' : Mem} (h : M.f = M'.f) (h' : M.b = M'.b) : M = M' := by
  cases M; cases M'
  cases h; cases h'
  rfl
theorem updM_upd {M : Mem} {p : Addr} {a b : Option MO} : updM (updM M p a) p b = updM M p b := by
  refine Mem.ext ?_ rfl
  funext q
  show (if q = p then b else if q = p then a else M.f q) = if q = p then b else M.f q
  split <;> rfl
theorem updM_id {M : Mem} {p : Addr} {a : Option MO} (h : M p = a) : updM M p a = M := by
  refine Mem.ext ?_ rfl
  funext q
  show (if q = p then a else M.f q) = M.f q
  split
  · rename_i e; rw [e, ← h]
  · rfl
def wf (L : Nat) : Nat → D → Bool
  | 0, _ => false
  | n + 1, .tup ds => decide (ds.length ≤ L) && ds.all (wf L n)
  | n + 1, .lst ds => decide (ds.length ≤ L) && ds.all (wf L n)
  | _ + 1, .ptr _ => false
  | _ + 1, .scr _ => false
  | _ + 1, _ => true
theorem plA_all : ∀ {ds : List D}, (∀ d ∈ ds, pl d = true) → plA ds = true
  | [], _ => rfl
  | d :: ds, h => Bool.and_eq_true_iff.mpr ⟨h d List.mem_cons_self, plA_all fun x hx => h x (List.mem_cons_of_mem _ hx)⟩
theorem wf_pl {L : Nat} : ∀ {n : Nat} {d : D}, wf L n d = true → pl d = true
  | 0, _, h => by cases h
  | n + 1, .tup ds, h => plA_all fun d hd => wf_pl (List.all_eq_true.mp (Bool.and_eq_true_iff.mp h).2 d hd)
  | n + 1, .lst ds, h => plA_all fun d hd => wf_pl (List.all_eq_true.mp (Bool.and_eq_true_iff.mp h).2 d hd)
  | n + 1, .ptr _, h => by cases h
  | n + 1, .scr _, h => by cases h
  | n + 1, .non, _ => rfl
  | n + 1, .bl _, _ => rfl
  | n + 1, .int _, _ => rfl
  | n + 1, .str _, _ => rfl
theorem wf_mono {L L' : Nat} (hL : L ≤ L') : ∀ {n m : Nat} {d : D}, n ≤ m → wf L n d = true → wf L' m d = true
  | 0, _, _, _, h => by cases h
  | n + 1, 0, _, hm, _ => absurd hm (by omega)
  | n + 1, m + 1, .tup ds, hm, h => by
    have q := Bool.and_eq_true_iff.mp h
    have q1 := of_decide_eq_true q.1
    exact Bool.and_eq_true_iff.mpr ⟨decide_eq_true (by omega), List.all_eq_true.mpr fun d hd => wf_mono hL (by omega) (List.all_eq_true.mp q.2 d hd)⟩
  | n + 1, m + 1, .lst ds, hm, h => by
    have q := Bool.and_eq_true_iff.mp h
    have q1 := of_decide_eq_true q.1
    exact Bool.and_eq_true_iff.mpr ⟨decide_eq_true (by omega), List.all_eq_true.mpr fun d hd => wf_mono hL (by omega) (List.all_eq_true.mp q.2 d hd)⟩
  | n + 1, m + 1, .ptr _, _, h => by cases h
  | n + 1, m + 1, .scr _, _, h => by cases h
  | n + 1, m + 1, .non, _, _ => rfl
  | n + 1, m + 1, .bl _, _, _ => rfl
  | n + 1, m + 1, .int _, _, _ => rfl
  | n + 1, m + 1, .str _, _, _ => rfl
theorem wf_tup {L n : Nat} {ds : List D} (h : wf L (n + 1) (.tup ds) = true) : ds.length ≤ L ∧ ∀ d ∈ ds, wf L n d = true := by
  have q := Bool.and_eq_true_iff.mp h
  exact ⟨of_decide_eq_true q.1, List.all_eq_true.mp q.2⟩
theorem wf_lst {L n : Nat} {ds : List D} (h : wf L (n + 1) (.lst ds) = true) : ds.length ≤ L ∧ ∀ d ∈ ds, wf L n d = true := by
  have q := Bool.and_eq_true_iff.mp h
  exact ⟨of_decide_eq_true q.1, List.all_eq_true.mp q.2⟩
theorem tup_wf {L n : Nat} {ds : List D} (h : ds.length ≤ L) (h2 : ∀ d ∈ ds, wf L n d = true) : wf L (n + 1) (.tup ds) = true := Bool.and_eq_true_iff.mpr ⟨decide_eq_true h, List.all_eq_true.mpr h2⟩
theorem wf_pos {L n : Nat} {d : D} (h : wf L n d = true) : 0 < n := by cases n with | zero => cases h | succ n => omega
theorem wf_tI {L n : Nat} {ps : List Int} (h : ps.length ≤ L) : wf L (n + 2) (tI ps) = true := tup_wf (by rw [List.length_map]; exact h) fun d hd => by
  obtain ⟨p, _, rfl⟩ := List.mem_map.mp hd
  rfl
noncomputable def eqD (a b : D) : Bool := @decide (a = b) (Classical.propDecidable _)
theorem eqD_iff {a b : D} : eqD a b = true ↔ a = b := @decide_eq_true_iff (a = b) (Classical.propDecidable _)
theorem eqD_false {a b : D} : eqD a b = false ↔ ¬ a = b := @decide_eq_false_iff_not (a = b) (Classical.propDecidable _)
theorem eqD_of {a b : D} {r : Bool} (h : r = true ↔ a = b) : r = eqD a b := by
  rw [Bool.eq_iff_iff, h, eqD_iff]
theorem eq_lists {as bs : List D} : (decide ((as.length : Int) = (bs.length : Int)) && ((List.range as.length).map fun j => eqD (as.getD j .non) (bs.getD j .non)).all id) = true ↔ as = bs := by
  rw [Bool.and_eq_true, decide_eq_true_eq]
  constructor
  · intro ⟨hl, h⟩
    have hl' : as.length = bs.length := by omega
    apply List.ext_getElem hl'
    intro i h1 h2
    rw [List.all_map, List.all_eq_true] at h
    have q := eqD_iff.mp (h i (List.mem_range.mpr h1))
    rw [getD_at h1, getD_at h2] at q
    exact q
  · intro e
    subst e
    refine ⟨rfl, ?_⟩
    rw [List.all_map, List.all_eq_true]
    intro i _
    exact eqD_iff.mpr rfl
theorem rngD_at {lo : Int} {n j : Nat} {d : D} (h : (rngD lo n)[j]? = some d) : j < n ∧ d = .int (lo + (j : Int)) := by
  unfold rngD at h
  obtain ⟨a, ha, rfl⟩ := at_map h
  rw [List.getElem?_range (by
    have := (List.getElem?_eq_some_iff.mp ha).1
    rw [List.length_range] at this
    exact this)] at ha
  have e := Option.some.inj ha
  subst e
  have := (List.getElem?_eq_some_iff.mp h).1
  rw [List.length_map, List.length_range] at this
  exact ⟨this, rfl⟩
theorem rngD_len {lo : Int} {n : Nat} : (rngD lo n).length = n := by unfold rngD; rw [List.length_map, List.length_range]
theorem atI_of {ds : List D} {j : Nat} (h : j < ds.length) : atI ds (0 + (j : Int)) = some (ds.getD j .non) := by
  rw [Int.zero_add, getD_at h]
  exact atI_nat (List.getElem?_eq_getElem h)
theorem same_leaf2 {a b : D} (h : (isB a || isB b) = true) : (isB a && (isB b && eqD a b)) = eqD a b := by
  cases h1 : isB a with
  | true =>
    cases h2 : isB b with
    | true => rfl
    | false =>
      refine (eqD_false.mpr fun e => ?_).symm
      rw [e, h2] at h1
      cases h1
  | false =>
    refine (eqD_false.mpr fun e => ?_).symm
    rw [e] at h1
    rw [e, h1] at h
    cases h
theorem same_leaf4 {a b : D} (ha : pl a = true) (hb : pl b = true) (h1 : (isT a && isT b || isL a && isL b) = false) (h2 : (isB a || isB b) = false) (h3 : (isI a && isI b || isS a && isS b) = false) : (isNon a && isNon b) = eqD a b := by
  refine eqD_of ⟨fun h => ?_, fun e => ?_⟩
  · cases a <;> cases b <;> first | rfl | exact absurd (show false = true from h) Bool.false_ne_true
  · subst e
    cases a <;> first | rfl | exact absurd (show false = true from ha) Bool.false_ne_true | exact absurd (show false = true from h1.symm) Bool.false_ne_true | exact absurd (show false = true from h2.symm) Bool.false_ne_true | exact absurd (show false = true from h3.symm) Bool.false_ne_true
def wholeB (x : D) (lo hi : Int) : Bool := isW x && (decide (lo ≤ intOf x) && decide (intOf x ≤ hi))
theorem cut_sub {α : Type} {l : List α} {lo hi : Option Int} {d : α} (h : d ∈ DL.cutD l lo hi) : d ∈ l := by
  unfold DL.cutD at h
  exact List.mem_of_mem_drop (List.mem_of_mem_take h)
theorem cut_len {α : Type} (l : List α) (lo hi : Option Int) : (DL.cutD l lo hi).length ≤ l.length := by
  unfold DL.cutD
  rw [List.length_take, List.length_drop]
  omega
theorem cut_last {α : Type} (l : List α) : (DL.cutD l (some (-1)) none).length ≤ 1 := by
  unfold DL.cutD
  rw [List.length_take, List.length_drop, HT.sIx_none]
  have : HT.sIx l.length 0 (some (-1)) = l.length - 1 := by
    unfold HT.sIx
    simp
    omega
  omega
theorem cut_two {α : Type} {l : List α} {r : Int} (h0 : 0 ≤ r) (h1 : r < l.length) : (DL.cutD l none (some r)).length + (DL.cutD l (some (r + 1)) none).length + 1 ≤ l.length := by
  unfold DL.cutD
  simp only [List.length_take, List.length_drop, HT.sIx_none]
  have e1 : HT.sIx l.length l.length (some r) = r.toNat := by unfold HT.sIx; simp only []; split <;> omega
  have e2 : HT.sIx l.length 0 (some (r + 1)) = r.toNat + 1 := by unfold HT.sIx; simp only []; split <;> omega
  omega
def sk (a i : Nat) : Nat := if i < a then i else i + 1
theorem range_skip {a n : Nat} (h : a < n) : (List.range n).filter (fun i => !decide (i = a)) = (List.range (n - 1)).map (sk a) := by
  obtain ⟨m, rfl⟩ : ∃ m, n = a + 1 + m := ⟨n - (a + 1), by omega⟩
  have e1 : (List.range a).filter (fun i => !decide (i = a)) = (List.range a).map (sk a) := by
    rw [List.filter_eq_self.mpr fun i hi => by have := List.mem_range.mp hi; simp; omega]
    have : (List.range a).map (sk a) = (List.range a).map id := List.map_congr_left fun i hi => by
      have := List.mem_range.mp hi
      exact if_pos this
    rw [this, List.map_id]
  have e2 : ((List.range m).map (a + 1 + ·)).filter (fun i => !decide (i = a)) = (List.range m).map (fun i => sk a (a + i)) := by
    rw [List.filter_eq_self.mpr fun i hi => by
      obtain ⟨j, _, rfl⟩ := List.mem_map.mp hi
      simp; omega]
    refine List.map_congr_left fun i hi => ?_
    show a + 1 + i = if a + i < a then a + i else a + i + 1
    rw [if_neg (by omega)]
    omega
  rw [List.range_add, List.range_succ, List.filter_append, List.filter_append, e1, e2, show a + 1 + m - 1 = a + m by omega, List.range_add, List.map_append, List.map_map]
  have e3 : ([a].filter fun i => !decide (i = a)) = [] := by simp
  rw [e3, List.append_nil]
  rfl
theorem as_range {α : Type} (d : α) (ps : List α) : ps = (List.range ps.length).map fun i => ps.getD i d := by
  apply List.ext_getElem
  · simp
  · intro i h1 h2
    rw [List.getElem_map, List.getElem_range, List.getD_eq_getElem?_getD, List.getElem?_eq_getElem h1]
    rfl
theorem zip_range (ps : List Int) : ps.zipIdx = (List.range ps.length).map fun i => (ps.getD i 0, i) := by
  apply List.ext_getElem
  · simp
  · intro i h1 h2
    have hi : i < ps.length := by rw [List.length_zipIdx] at h1; exact h1
    rw [List.getElem_map, List.getElem_range, List.getD_eq_getElem?_getD, List.getElem?_eq_getElem hi, List.getElem_zipIdx]
    simp
theorem getD_map {n i : Nat} {f : Nat → Int} (h : i < n) : ((List.range n).map f).getD i 0 = f i := by
  rw [List.getD_eq_getElem?_getD, List.getElem?_map, List.getElem?_range h]
  rfl
theorem range_split {α : Type} {f : Nat → α} {n a : Nat} (h : a < n) : (List.range n).map f = (List.range a).map f ++ f a :: (List.range (n - a - 1)).map fun i => f (a + 1 + i) := by
  obtain ⟨m, rfl⟩ : ∃ m, n = a + 1 + m := ⟨n - (a + 1), by omega⟩
  rw [show a + 1 + m - a - 1 = m by omega, List.range_add, List.range_succ, List.map_append, List.map_append, List.map_map, List.append_assoc]
  rfl
section
variable {X : Cx} {sg sg1 : Sg} {M : Mem} {E : EndsD}
def Fg : Sg → Sg → Prop
  | [], [] => True
  | none :: a, _ :: b => Fg a b
  | some d :: a, e :: b => e = some d ∧ Fg a b
  | _, _ => False
theorem Fg.len : ∀ {a b : Sg}, Fg a b → a.length = b.length
  | [], [], _ => rfl
  | [], _ :: _, h => h.elim
  | none :: a, _ :: b, h => congrArg Nat.succ (Fg.len (a := a) h)
  | some d :: a, e :: b, h => congrArg Nat.succ (Fg.len h.2)
  | none :: _, [], h => h.elim
  | some _ :: _, [], h => h.elim
theorem Fg.at : ∀ {a b : Sg}, Fg a b → ∀ (i : Nat) (d : D), a[i]? = some (some d) → b[i]? = some (some d)
  | [], [], _, i, d, e => e
  | [], _ :: _, h, _, _, _ => h.elim
  | none :: a, _ :: b, h, 0, d, e => by cases e
  | none :: a, _ :: b, h, i + 1, d, e => Fg.at (a := a) (b := b) h i d e
  | some x :: a, y :: b, h, 0, d, e => by rw [h.1]; exact e
  | some x :: a, y :: b, h, i + 1, d, e => Fg.at h.2 i d e
  | none :: _, [], h, _, _, _ => h.elim
  | some _ :: _, [], h, _, _, _ => h.elim
theorem wss_fg {sts : List Stmt} (f : Fg sg1 sg) (h : WSs X sts sg1 M E) : WSs X sts sg M E := fun σ H G w s => h σ H G w (s.forget f.len f.at)
theorem ws_fg {st : Stmt} (f : Fg sg1 sg) (h : WS X st sg1 M E) : WS X st sg M E := fun σ H G w s => h σ H G w (s.forget f.len f.at)
theorem toPy_pairs_lay : ∀ qs : List (Int × Int), PyData.canLayAll0 (toPyA (qs.map pairD)) = true
  | [] => rfl
  | q :: qs => by
    show (PyData.canLay0 (toPy (pairD q)) && PyData.canLayAll0 (toPyA (qs.map pairD))) = true
    rw [toPy_pairs_lay qs]
    rfl
theorem plA_pairs : ∀ qs : List (Int × Int), plA (qs.map pairD) = true
  | [] => rfl
  | q :: qs => by
    show (pl (pairD q) && plA (qs.map pairD)) = true
    rw [plA_pairs qs]
    rfl
theorem toPy_pairs_depth : ∀ qs : List (Int × Int), PyData.depthAll (toPyA (qs.map pairD)) ≤ 4
  | [] => by decide
  | q :: qs => by
    have := toPy_pairs_depth qs
    show max (PyData.depth (toPy (pairD q))) (PyData.depthAll (toPyA (qs.map pairD))) ≤ 4
    have e : PyData.depth (toPy (pairD q)) ≤ 4 := by
      show PyData.depth (.tuple [.int q.1, .int q.2]) ≤ 4
      exact Nat.le_of_ble_eq_true rfl
    omega
theorem shaped_pairs (qs : List (Int × Int)) : SeqAt.shaped (.list (toPyA (qs.map pairD))) = true := by
  refine Bool.and_eq_true_iff.mpr ⟨toPy_pairs_lay qs, decide_eq_true ?_⟩
  have := toPy_pairs_depth qs
  show PyData.depthAll (toPyA (qs.map pairD)) + 1 ≤ 64
  omega
theorem eqv_pairs (qs : List (Int × Int)) : PyData.eqv (.list (toPyA (qs.map pairD))) (.list (toPyA (qs.map pairD))) = true := SeqAt.eqv_refl _ (toPy_pairs_lay qs)
theorem srt_eq {qs rs : List (Int × Int)} (h1 : SrtP qs) (h2 : SrtP rs) (h : qs.Perm rs) : qs = rs := by
  refine List.Perm.eq_of_pairwise (fun a b _ _ e1 e2 => ?_) h1 h2 h
  have n1 : ¬ SrtO.lexB b a = true := by rw [e1]; exact Bool.false_ne_true
  have n2 : ¬ SrtO.lexB a b = true := by rw [e2]; exact Bool.false_ne_true
  rw [SrtO.lexB_iff] at n1 n2
  have a1 : a.1 = b.1 := by omega
  have a2 : a.2 = b.2 := by omega
  exact Prod.ext a1 a2
end
theorem pairs_if (p : Int × Int → Bool) (g : Int × Int → Int × Int) (qs : List (Int × Int)) : ((qs.map DL.pairD).filter fun d => p (intOf (fstD d), intOf (sndD d))).map (fun d => DL.pairD (g (intOf (fstD d), intOf (sndD d)))) = ((qs.filter p).map g).map DL.pairD := by
  rw [List.filter_map, List.map_map, List.map_map]
  rfl
theorem pairs_all (g : Int × Int → Int × Int) (qs : List (Int × Int)) : (qs.map DL.pairD).map (fun d => DL.pairD (g (intOf (fstD d), intOf (sndD d)))) = (qs.map g).map DL.pairD := by
  rw [List.map_map, List.map_map]
  rfl
theorem not_eqD {x y : D} (h : x = y) : (!eqD x y) = false := by rw [eqD_iff.mpr h]; rfl
theorem LcOk.pick {X : Cx} {scope : Scope} {vs : List Nat} {tg elt : Expr} {ifs : List Expr} {sg : Sg} {Qi : List D → (Mem → Prop) → Mem → Prop} {Q : D → Mem → Prop} (h : ∀ ds C M0, Qi ds C M0 → LcOk X scope vs tg elt ifs sg (ItQ ds M0) Q ∧ C M0) : LcOk X scope vs tg elt ifs sg Qi Q := fun ds C M0 q => (h ds C M0 q).1 ds C M0 ⟨rfl, rfl, (h ds C M0 q).2⟩
theorem fg_set : ∀ {a b : Sg}, Fg a b → ∀ (i : Nat) (d : D), Fg (a.set i (some d)) (b.set i (some d))
  | [], [], h, _, _ => h
  | [], _ :: _, h, _, _ => h.elim
  | none :: a, _ :: b, h, 0, d => ⟨rfl, h⟩
  | none :: a, _ :: b, h, i + 1, d => fg_set (a := a) (b := b) h i d
  | some x :: a, y :: b, h, 0, d => ⟨rfl, h.2⟩
  | some x :: a, y :: b, h, i + 1, d => ⟨h.1, fg_set h.2 i d⟩
  | none :: _, [], h, _, _ => h.elim
  | some _ :: _, [], h, _, _ => h.elim
theorem fg_trans : ∀ {a b c : Sg}, Fg a b → Fg b c → Fg a c
  | [], [], _, _, h => h
  | [], _ :: _, _, h, _ => h.elim
  | none :: a, [], _, h, _ => h.elim
  | some _ :: a, [], _, h, _ => h.elim
  | none :: a, none :: b, [], _, h => h.elim
  | none :: a, some _ :: b, [], _, h => h.elim
  | some _ :: a, none :: b, [], _, h => h.elim
  | some _ :: a, some _ :: b, [], _, h => h.elim
  | none :: a, none :: b, _ :: c, h, h2 => fg_trans (a := a) (b := b) (c := c) h h2
  | none :: a, some _ :: b, _ :: c, h, h2 => fg_trans (a := a) (b := b) (c := c) h h2.2
  | some d :: a, none :: b, _ :: c, h, h2 => by cases h.1
  | some d :: a, some e :: b, z :: c, h, h2 => ⟨h2.1.trans h.1, fg_trans h.2 h2.2⟩
section
variable {P : Program} {w : World} {K : PySem.W.Frag} {mg : Str → Option Value} {base : Heap}
theorem dfnF {x qual : Str} {st : Stmt} {f : Addr} {fd : FuncData} {N ps : List Str} {k n : Nat} {S : SpD} (F : Fun K x qual st f fd) (sc : FnScope N ps (defScope st)) (hn : ps.length = n)
    (body : ∀ (f : Addr) (cdv : Value) (A : Around) (outer : List Env) (s : Shared) (H : Hp) (E : XK) (ds : List D) (M : Mem) (Q : D → Mem → Prop), Room k (A.deeper (envOfC qual (defScope st) s.heap.objs.size f cdv)) → ds.length = n → S ds M Q →
      WSs (cxOf CX0 P w K mg base N qual (defScope st) f cdv A outer s H E).nox (defBody st) (startD N ds) M { nx := fun _ M' => Q .non M', rt := Q }) : FnOk P w K mg base CX0 (k + 1) f fd ps (spD K n S) := by
  refine F.ok sc (fun vs H R E h => ?_) (fun cdv A outer s H vs R E hr h => ?_)
  · obtain ⟨G, M, ds, Q, _, r, l, _⟩ := h
    rw [r.length, l, hn]
  · obtain ⟨G, M, ds, Q, wd, r, l, hs, q⟩ := h
    refine ⟨tWSs _ (defBody st), pss_w, (body f cdv A outer s H E ds M Q hr l hs _ H G wd (start_rp r)).imp (fun σ' H' ⟨sg', G', M', st', w', s', q'⟩ => q _ _ ⟨.non, G', M', st', w', .non, q'⟩) (fun v H' p => q v H' p) (fun _ _ p => ?_) (fun _ _ p => ?_)⟩
    · obtain ⟨_, _, _, _, _, _, z⟩ := p; exact z
    · obtain ⟨_, _, _, _, _, _, z⟩ := p; exact z
theorem df_mk {h : Heap} {x : Str} {st : Stmt} {ps : List Str} {f : Addr} {od an : Option Addr} {sl : Array (Option Value)} {oc kV dc pm cd ct : Value} (X : K.In h) (G : h.Ns mainGlobals mg) (a : PySem.W.nsIn K mainGlobals x = some (some (.ref f))) (l : K.lookup f = some ⟨oc, od, .func (PySem.W.fnOf x x (defArgs st) (defBody st) (defScope st) .none kV dc pm an cd ct), sl⟩) (c : PySem.W.codeIn K cd x = true) (k : PySem.W.keepIn K (.ref f) = true)
    (hb : ∀ (kV doc pm : Value) (an : Option Addr) (cdv ct : Value) (us : List Value), us.length = ps.length → bindArgs (PySem.W.fnOf x x (defArgs st) (defBody st) (defScope st) .none kV doc pm an cdv ct) ⟨us, []⟩ = pure (ps.zip us)) : Df K mg x st ps :=
  ⟨f, _, fun_mk l c k, PySem.W.mg_of X G a, (fun_mk l c k).binds hb⟩
def spLaw (K : PySem.W.Frag) : Sp := fun vs H Q _ => ∃ (a : Addr) (ns : List Int), vs = [.ref a] ∧ SqL K H a (ns.map V.int) ∧ ns.length ≤ 63 ∧ ∀ H', Q (.bl true) H'
def S_script : SpD := fun ds M Q => ∃ ns : List Int, ds = [.scr ns] ∧ ns.length ≤ 63 ∧ ∀ M', Q (.bl true) M'
theorem spLaw_spD {vs : List V} {H : Hp} {R : VK} {E : XK} (h : spLaw K vs H R E) : spD K 1 S_script vs H R E := by
  obtain ⟨a, ns, rfl, hS, hl, q⟩ := h
  refine ⟨H, ⟨fun _ => none, ⟨H, fun _ => none, H⟩⟩, [.scr ns], fun d _ => d = .bl true, ⟨fun x u e => e, (fun x m e => by cases e), fun x u e m => ⟨e, rfl, rfl⟩⟩, .cons (.scr hS) .nil, rfl, ⟨ns, rfl, hl, fun M' => rfl⟩, fun v H' ⟨d, G', M', st, w', r, e⟩ => ?_⟩
  subst e
  cases r
  exact q H'
end
end DL
set_option Elab.async false
set_option linter.all false
set_option maxRecDepth 100000
set_option maxHeartbeats 4000000
/-! DLk: more methods of lists. -/
namespace DL
open PySem L2 PyProof.Rows HT
section
variable {K : PySem.W.Frag} {M : Mem} {Q : D → Mem → Prop}
theorem md_pop0 {p : Addr} {ds : List D} {d : D} (hm : M p = some (.lst (d :: ds))) (q : Q d (updM M p (some (.lst ds)))) : MtD K rPopAt (.ptr p) [.int 0] M Q := fun G H v vs R w rv rs k => by
  cases rv
  obtain ⟨u, rfl, ru⟩ := rs.one
  cases ru
  obtain ⟨g, xs, h1, r1⟩ := w.mem _ _ hm
  cases r1 with
  | @cons y _ ys _ ry r2 =>
    refine ⟨p, _, 0, 0, y, rfl, rfl, h1, by decide, by decide, ?_, rfl, k _ _ ?_⟩
    · simp [seqIndex?, List.length_cons]
    · obtain ⟨w', st⟩ := w.write hm (o := .lst ys) (mo := .lst ds) ⟨_, upd_same, r2⟩
      exact ⟨_, _, _, st, w', ry, q⟩
end
theorem cut_nat {α : Type} (l : List α) (a b : Nat) : cutD l (some (a : Int)) (some (b : Int)) = (l.drop a).take (b - a) := by
  unfold cutD
  rw [HT.sIx_nat, HT.sIx_nat]
  by_cases h : a ≤ l.length
  · rw [Nat.min_eq_left h]
    by_cases h2 : b ≤ l.length
    · rw [Nat.min_eq_left h2]
    · rw [Nat.min_eq_right (show l.length ≤ b by omega), List.take_of_length_le (by rw [List.length_drop]; omega), List.take_of_length_le (by rw [List.length_drop]; omega)]
  · rw [show min a l.length = l.length by omega, List.drop_length, List.drop_of_length_le (show l.length ≤ a by omega), List.take_nil, List.take_nil]
theorem cut_toN {α : Type} (l : List α) (b : Nat) : cutD l none (some (b : Int)) = l.take b := by
  unfold cutD
  rw [HT.sIx_none, HT.sIx_nat, List.drop_zero, Nat.sub_zero]
  by_cases h2 : b ≤ l.length
  · rw [Nat.min_eq_left h2]
  · rw [Nat.min_eq_right (by omega), List.take_of_length_le (Nat.le_refl _), List.take_of_length_le (by omega)]
theorem cut_fromN {α : Type} (l : List α) (a : Nat) : cutD l (some (a : Int)) none = l.drop a := by
  unfold cutD
  rw [HT.sIx_none, HT.sIx_nat]
  by_cases h : a ≤ l.length
  · rw [Nat.min_eq_left h, ← List.length_drop, List.take_length]
  · rw [Nat.min_eq_right (by omega), Nat.sub_self, List.take_zero, List.drop_of_length_le (by omega)]
theorem cut_mapD {α β : Type} (f : α → β) (l : List α) (lo hi : Option Int) : cutD (l.map f) lo hi = (cutD l lo hi).map f := by
  unfold cutD
  rw [List.length_map, List.map_take, List.map_drop]
end DL
set_option Elab.async false
set_option linter.all false
set_option maxRecDepth 100000
set_option maxHeartbeats 4000000
/-! DLx: exceptions by data: what leaves a def, calls that may raise. -/
namespace DL
open PySem L2 PyProof.Rows HT
abbrev QXD := Addr → List (Str × D) → Mem → Prop
abbrev QXS := Addr → List (Str × D) → Sg → Mem → Prop
/-- nobody at the base knows p -/
def New (b : Base) (p : Addr) : Prop := ∀ u, b.H p = some u → b.M p = none → False
/-- an error of the class C leaves, its own dict with these fields -/
def PX (K : PySem.W.Frag) (b : Base) (QX : QXD) : XK := fun cls d H' => ∃ (C dd : Addr) (fs : List (Str × V)) (ds : List (Str × D)) (G' : Hp) (M' : Mem), cls = .ref C ∧ d = some dd ∧ H' dd = some (.xd fs) ∧ KVd K G' fs ds ∧ M'.b = b ∧ Wd K G' M' H' ∧ (G' dd = none ∧ M' dd = none ∧ New b dd) ∧ QX C ds M'
def PXs (K : PySem.W.Frag) (b : Base) (QX : QXS) : WX := fun cls d σ H' => ∃ (C dd : Addr) (fs : List (Str × V)) (ds : List (Str × D)) (G' : Hp) (M' : Mem) (sg : Sg), cls = .ref C ∧ d = some dd ∧ H' dd = some (.xd fs) ∧ KVd K G' fs ds ∧ M'.b = b ∧ Wd K G' M' H' ∧ (G' dd = none ∧ M' dd = none ∧ New b dd) ∧ SRp K G' sg σ ∧ QX C ds sg M'
/-- X lets such errors out -/
def Out (X : Cx) (b : Base) (QX : QXS) : Prop := ∃ W : WX, Takes X W ∧ ∀ cls d σ H', PXs X.K b QX cls d σ H' → W cls d σ H'
section
variable {K : PySem.W.Frag} {G G0 G' H H0 H' : Hp} {M M0 M' : Mem}
theorem Wd.rb (w : Wd K G M H) : Wd K G (M.rb ⟨G, M.f, H⟩) H := ⟨w.sub, w.mem, fun x o h m => ⟨h, rfl, m⟩⟩
theorem Wd.unrb (w0 : Wd K G0 M0 H0) (w : Wd K G' M' H') (hb : M'.b = ⟨G0, M0.f, H0⟩) : Wd K G' (M'.rb M0.b) H' ∧ Stp G0 M0 H0 G' (M'.rb M0.b) H' := by
  have st : Stp G0 M0 H0 G' (M'.rb M0.b) H' := ⟨fun x o h m => by
    have e := w.hist x o
    rw [hb] at e
    exact e h m, rfl⟩
  exact ⟨⟨w.sub, w.mem, w0.far st⟩, st⟩
end
abbrev SpDX := List D → Mem → (D → Mem → Prop) → QXD → Prop
def spDX (K : PySem.W.Frag) (n : Nat) (S : SpDX) : Sp := fun vs H R E => ∃ (G : Hp) (M : Mem) (ds : List D) (Q : D → Mem → Prop) (QX : QXD), Wd K G M H ∧ RpA K G vs ds ∧ ds.length = n ∧ S ds M Q QX ∧ (∀ v H', PV K G M H Q v H' → R v H') ∧ ∀ cls d H', PX K M.b QX cls d H' → E cls d H'
/-- the name x calls a def that keeps S and may raise -/
def CalX (P : Program) (w : World) (K : PySem.W.Frag) (mg : Str → Option Value) (base : Heap) (k : Nat) (x : Str) (n : Nat) (S : SpDX) : Prop :=
  ∃ f fd ps, FnOk P w K mg base (L2.CX P w) k f fd ps (spDX K n S) ∧ mg x = some (.ref f) ∧ PySem.W.keepIn K (.ref f) = true ∧ Binds K fd ps []
section
variable {X : Cx} {sg : Sg} {M : Mem} {Q : D → Mem → Prop} {pos : Pos}
theorem we_callX {k n : Nat} {x : Str} {S : SpDX} {p : Pos} {e : Expr} {es : List Expr} {QX : QXS} (C : CalX X.prog X.w X.K X.mg X.base k x n S) (hr : Room k X.A) (o : Out X M.b QX)
    (h : WA X (e :: es) sg M fun ds M1 => ds.length = n ∧ ∀ b0, S ds (M1.rb b0) (fun d M' => Q d (M'.rb M.b)) (fun C fs M' => QX C fs sg (M'.rb M.b))) (hg : Gl X x := by rfl) (hd : (x == ("__debug__" : Str)) = false := by decide)
    (he : starEach (e :: es) X.env = (false, eval e X.env) :: starEach es X.env := by exact star1 rfl) (hpl : (backTo pos (starEach es X.env)).any (·.1) = false := by exact starN rfl) : DL.WE X (.Call (.Name x p) (e :: es) [] pos) sg M Q := by
  obtain ⟨f, fd, ps, F, hm, kp, hb⟩ := C
  obtain ⟨W, tk, hW⟩ := o
  refine WE.of (pe_callS F hr hg hm kp hb (fun σ => passAt tk σ) pa_w hd he hpl) fun σ H G w s => (h σ H G w s).imp fun vs H1 ⟨ds, G1, M1, st, w1, r1, hl, hS⟩ => ?_
  refine ⟨G1, M1.rb ⟨G1, M1.f, H1⟩, ds, _, _, w1.rb, r1, hl, hS _, fun v H' ⟨d, G', M', st', w', r', q⟩ => ?_, fun cls d H' ⟨C, dd, fs, fds, G', M', e1, e2, e3, kv, hb', w', ⟨f1, f2, f3⟩, qx⟩ => ?_⟩
  · obtain ⟨w2, st2⟩ := w1.unrb w' st'.base
    rw [st.base] at w2 st2
    exact PV.base st ⟨d, G', M'.rb M.b, st2, w2, r', q⟩
  · obtain ⟨w2, st2⟩ := w1.unrb w' hb'
    rw [st.base] at w2 st2
    exact hW _ _ _ _ ⟨C, dd, fs, fds, G', M'.rb M.b, sg, e1, e2, e3, kv, rfl, w2, ⟨f1, f2, fun u k1 k2 => by
      have z := w1.hist dd u
      rw [st.base] at z
      obtain ⟨z1, _, z3⟩ := z k1 k2
      exact f3 u z1 z3⟩, s.mono ((st.trans st2).gx w), qx⟩
end
section
variable {P : Program} {w : World} {K : PySem.W.Frag} {mg : Str → Option Value} {base : Heap}
abbrev cxX (P : Program) (w : World) (K : PySem.W.Frag) (mg : Str → Option Value) (base : Heap) (N : List Str) (x : Str) (st : Stmt) (f : Addr) (cdv : Value) (A : Around) (outer : List Env) (s : Shared) (H : Hp) (E : XK) : Cx := cxOf (L2.CX P w) P w K mg base N x (defScope st) f cdv A outer s H E
theorem dfnX {x : Str} {st : Stmt} {N ps : List Str} {k n : Nat} {S : SpDX} (F : Df K mg x st ps) (sc : FnScope N ps (defScope st)) (hn : ps.length = n)
    (body : ∀ (f : Addr) (cdv : Value) (A : Around) (outer : List Env) (s : Shared) (H : Hp) (E : XK) (ds : List D) (M : Mem) (Q : D → Mem → Prop) (QX : QXD), Room k (A.deeper (envOfC x (defScope st) s.heap.objs.size f cdv)) → ds.length = n → S ds M Q QX →
      Out (cxX P w K mg base N x st f cdv A outer s H E) M.b (fun C fs _ M' => QX C fs M') →
      WSs (cxX P w K mg base N x st f cdv A outer s H E) (defBody st) (startD N ds) M { nx := fun _ M' => Q .non M', rt := Q }) : CalX P w K mg base (k + 1) x n S := by
  obtain ⟨f, fd, F, hm, hb⟩ := F
  refine ⟨f, fd, ps, F.okX sc (fun vs H R E h => ?_) (fun cdv A outer s H vs R E hr h => ?_), hm, F.kp, hb⟩
  · obtain ⟨G, M, ds, Q, QX, _, r, l, _⟩ := h
    rw [r.length, l, hn]
  · obtain ⟨G, M, ds, Q, QX, wd, r, l, hs, q, qx⟩ := h
    have o : Out (cxX P w K mg base N x st f cdv A outer s H E) M.b (fun C fs _ M' => QX C fs M') := ⟨fun cls d _ H => E cls d H, takes_of rfl rfl rfl rfl, fun cls d σ H' ⟨C, dd, fs, fds, G', M', sg, e1, e2, e3, kv, hb', w', fr, _, z⟩ => qx _ _ _ ⟨C, dd, fs, fds, G', M', e1, e2, e3, kv, hb', w', fr, z⟩⟩
    refine ⟨tWSs _ (defBody st), pss_w, (body f cdv A outer s H E ds M Q QX hr l hs o _ H G wd (start_rp r)).imp (fun σ' H' ⟨sg', G', M', st', w', s', q'⟩ => q _ _ ⟨.non, G', M', st', w', .non, q'⟩) (fun v H' p => q v H' p) (fun _ _ p => ?_) (fun _ _ p => ?_)⟩
    · obtain ⟨_, _, _, _, _, _, z⟩ := p; exact z
    · obtain ⟨_, _, _, _, _, _, z⟩ := p; exact z
end
end DL
set_option Elab.async false
set_option linter.all false
set_option maxRecDepth 100000
set_option maxHeartbeats 4000000
/-! DLy: try .. except X as n by data; a caught error's field. -/
namespace DL
open PySem L2 PyProof.Rows HT
theorem SRp.setN {K : PySem.W.Frag} {G : Hp} {sg : Sg} {σ : L2.St} (r : SRp K G sg σ) (i : Nat) : SRp K G (sg.set i none) (σ.set i none) := by
  refine ⟨by simp [r.len], fun j e q => ?_⟩
  by_cases hj : i = j
  · subst hj
    by_cases hl : i < sg.length
    · rw [List.getElem?_set_self hl] at q
      cases q
    · rw [List.getElem?_eq_none (by simpa using hl)] at q; cases q
  · rw [List.getElem?_set_ne hj] at q ⊢
    exact r.at_ j e q
theorem kvd_lookup {K : PySem.W.Frag} {G : Hp} {n : Str} {d : D} : ∀ {vs : List (Str × V)} {ds : List (Str × D)}, KVd K G vs ds → ds.lookup n = some d → ∃ v, vs.lookup n = some v ∧ Rp K G v d
  | [], [], _, h => by cases h
  | [], _ :: _, k, _ => by cases k.1
  | _ :: _, [], k, _ => by cases k.1
  | (a, v) :: vs, (b, e) :: ds, k, h => by
    obtain ⟨k1, k2⟩ := k
    simp only [List.map_cons, List.cons.injEq] at k1
    obtain ⟨k1, k3⟩ := k1
    subst k1
    cases k2 with
    | cons r1 r2 =>
      by_cases hn : n = a
      · subst hn
        simp only [List.lookup_cons, beq_self_eq_true] at h ⊢
        cases h
        exact ⟨v, rfl, r1⟩
      · have e1 : (n == a) = false := by simpa using hn
        simp only [List.lookup_cons, e1] at h ⊢
        exact kvd_lookup ⟨k3, r2⟩ h
section
variable {K : PySem.W.Frag} {G G' H H' : Hp} {M M' : Mem}
/-- an error's dict, taken into the memory -/
theorem Wd.takeX (w : Wd K G M H) (w' : Wd K G' M' H') (st : Stp G M H G' M' H') {dd : Addr} {fs : List (Str × V)} {ds : List (Str × D)} (e : H' dd = some (.xd fs)) (kv : KVd K G' fs ds) (g : G' dd = none) (m : M' dd = none) (nw : ∀ u, H dd = some u → M dd = none → False) :
    Wd K G' (updM M' dd (some (.xd ds))) H' ∧ Stp G M H G' (updM M' dd (some (.xd ds))) H' := by
  have st2 : Stp G M H G' (updM M' dd (some (.xd ds))) H' := ⟨fun x o h hm => by
    have hx : x ≠ dd := fun z => by subst z; exact nw o h hm
    obtain ⟨a1, a2, a3⟩ := st.keep x o h hm
    exact ⟨a1, a2, by rw [updM_ne hx]; exact a3⟩, st.base⟩
  refine ⟨⟨w'.sub, fun x mo q => ?_, w.far st2⟩, st2⟩
  by_cases hx : x = dd
  · subst hx
    rw [updM_same] at q
    cases q
    exact ⟨g, fs, e, kv⟩
  · rw [updM_ne hx] at q
    exact w'.mem x mo q
end
section
variable {X : Cx} {sg : Sg} {M : Mem} {E : EndsD} {Q : D → Mem → Prop} {pos : Pos}
/-- an error's dict that nobody asks for any more -/
theorem wss_dropX {dd : Addr} {fs : List (Str × D)} {sts : List Stmt} (hm : M dd = some (.xd fs)) (h : WSs X sts sg (updM M dd none) E) : WSs X sts sg M E := fun σ H G w s => by
  obtain ⟨g, xs, e, r⟩ := w.mem _ _ hm
  have gx : Gx G (upd G dd (.xd xs)) := fun x u q => by rw [upd_ne (ne_of_none q g)]; exact q
  have st : Stp G M H (upd G dd (.xd xs)) (updM M dd none) H := ⟨fun x u q m => by
    have hx : x ≠ dd := fun z => by subst z; rw [hm] at m; cases m
    exact ⟨q, upd_ne hx, by rw [updM_ne hx]; exact m⟩, rfl⟩
  have w1 : Wd X.K (upd G dd (.xd xs)) (updM M dd none) H := ⟨fun x u q => by
    by_cases hx : x = dd
    · subst hx; rw [upd_same] at q; cases q; exact e
    · rw [upd_ne hx] at q; exact w.sub _ _ q, fun x m q => by
    have hx : x ≠ dd := fun z => by subst z; rw [updM_same] at q; cases q
    rw [updM_ne hx] at q
    obtain ⟨h1, h2⟩ := w.mem _ _ q
    exact ⟨by rw [upd_ne hx]; exact h1, h2.carry gx rfl⟩, w.far st⟩
  exact toE_base st (h σ H _ w1 (s.mono gx))
theorem we_xf {a C dd : Addr} {oe : Obj} {pn : List (Addr × Obj)} {e : Expr} {n : Str} {fs : List (Str × D)} {d : D} (T : XfC X.K C) (hno : PySem.W.findIn X.K (.ref C) n = some none) (hz : Zc (.ref C) (some dd) oe) (hf : ∃ vs, oe.data = .fields vs)
    (hM : M dd = some (.xd fs)) (hl : fs.lookup n = some d) (he : EE (X.suite a ((a, oe) :: pn)) e sg M (.ptr a)) (q : Q d M) (hb : attributeBase e n X.env (eval e X.env) = eval e X.env := by rfl) : DL.WE (X.suite a ((a, oe) :: pn)) (.Attribute e n pos) sg M Q :=
  WE.of (pe_xf T hno hz hf pe_w hb) fun σ H G w s => (he σ H G w s).imp fun v H1 ⟨x, G1, M1, st, w1, r1, e1, e2⟩ => by
    subst e1; subst e2
    cases r1
    obtain ⟨g, vs, hx, kv⟩ := w1.mem _ _ hM
    obtain ⟨u, lu, ru⟩ := kvd_lookup kv hl
    exact ⟨rfl, rfl, dd, vs, u, rfl, hx, lu, (PV.here w1 ru q).base st⟩
theorem ws_try_as (i : Nat) {n x : Str} {c : Value} {body suite : List Stmt} {b₀ : Stmt} {np pos' : Pos} {Wo : WX} {QX : QXS} (hN : X.N.Nodup) (hc : Names X x c) (tk : Takes X Wo)
    (hb : ∀ b0 pn xe, Out (X.tr pn xe) b0 QX → PassesOwn (model X.prog X.w) X.A X.env xe → WSs (X.tr pn xe) body sg (M.rb b0) { nx := fun sg' M' => E.nx sg' (M'.rb M.b), rt := fun d M' => E.rt d (M'.rb M.b), bk := fun sg' M' => E.bk sg' (M'.rb M.b), ct := fun sg' M' => E.ct sg' (M'.rb M.b) })
    (hsu : ∀ C fs sg' M', QX C fs sg' M' → PySem.W.exmOne X.K (.ref C) c = some true ∧ ∀ a dd oe pn, Zc (.ref C) (some dd) oe → (∃ vs, oe.data = .fields vs) → M' dd = none →
      WSs (X.suite a ((a, oe) :: pn)) (b₀ :: suite) (sg'.set i (some (.ptr a))) (updM (M'.rb M.b) dd (some (.xd fs))) { nx := fun sg2 M2 => E.nx (sg2.set i none) M2, rt := E.rt, bk := fun sg2 M2 => E.bk (sg2.set i none) M2, ct := fun sg2 M2 => E.ct (sg2.set i none) M2 })
    (hs : X.stack = X.env :: X.outer := by rfl) (hf : X.env.frame = some X.env.locals := by rfl) (hi : X.N[i]? = some n := by rfl) (hln : X.env.kindOf n = some .local := by rfl) : WS X (.Try body [.ExceptHandler (some (.Name x np)) (some n) (b₀ :: suite) pos'] [] [] pos) sg M E := by
  refine WS.of (ps_try_as (tb := fun W D σ H => ∀ pn xe, Takes (X.tr pn xe) W → PassesOwn (model X.prog X.w) X.A X.env xe → tWSs (X.tr pn xe) body D σ H) (ts := fun a cls d D σ H => ∀ oe pn, Zc cls d oe → (∃ vs, oe.data = .fields vs) → tWSs (X.suite a ((a, oe) :: pn)) (b₀ :: suite) D σ H) hs hf hN hi hln hc tk
    (fun W pn xe t1 t2 => ⟨fun pins s σ H D I h => (h pn xe t1 t2).run pins s I⟩) (fun a oe cls d pn hz hf => ⟨fun pins s σ H D I h => (h oe pn hz hf).run pins s I⟩)) fun σ H G w s => ?_
  intro pn xe t1 t2
  refine (hb ⟨G, M.f, H⟩ pn xe ⟨_, t1, fun cls d σ' H' px => ?_⟩ t2 σ H G w.rb s).imp (fun σ' H' ⟨sg', G', M', st', w', s', q⟩ => ?_) (fun v H' ⟨d, G', M', st', w', r', q⟩ => ?_) (fun σ' H' ⟨sg', G', M', st', w', s', q⟩ => ?_) (fun σ' H' ⟨sg', G', M', st', w', s', q⟩ => ?_)
  · obtain ⟨C, dd, fs, ds, G', M', sg', e1, e2, e3, kv, hb', w', ⟨f1, f2, f3⟩, s', qx⟩ := px
    subst e1; subst e2
    obtain ⟨ex, su⟩ := hsu C ds sg' M' qx
    refine ⟨true, ex, fun _ a ha => fun oe pn2 hz hf2 => ?_, fun z => Bool.noConfusion z⟩
    obtain ⟨w2, st2⟩ := w.unrb w' hb'
    obtain ⟨w3, st3⟩ := w.takeX w2 st2 e3 kv f1 f2 f3
    exact (su a dd oe pn2 hz hf2 f2 _ _ _ w3 (s'.set i (.ptr a))).imp (fun σ2 H2 ⟨sg2, G2, M2, st4, w4, s4, q4⟩ => ⟨sg2.set i none, G2, M2, st3.trans st4, w4, s4.setN i, q4⟩) (fun v H2 p => PV.base st3 p) (fun σ2 H2 ⟨sg2, G2, M2, st4, w4, s4, q4⟩ => ⟨sg2.set i none, G2, M2, st3.trans st4, w4, s4.setN i, q4⟩) (fun σ2 H2 ⟨sg2, G2, M2, st4, w4, s4, q4⟩ => ⟨sg2.set i none, G2, M2, st3.trans st4, w4, s4.setN i, q4⟩)
  · obtain ⟨w2, st2⟩ := w.unrb w' st'.base
    exact ⟨sg', G', M'.rb M.b, st2, w2, s', q⟩
  · obtain ⟨w2, st2⟩ := w.unrb w' st'.base
    exact ⟨d, G', M'.rb M.b, st2, w2, r', q⟩
  · obtain ⟨w2, st2⟩ := w.unrb w' st'.base
    exact ⟨sg', G', M'.rb M.b, st2, w2, s', q⟩
  · obtain ⟨w2, st2⟩ := w.unrb w' st'.base
    exact ⟨sg', G', M'.rb M.b, st2, w2, s', q⟩
end
end DL
set_option Elab.async false
set_option linter.all false
set_option maxRecDepth 100000
set_option maxHeartbeats 4000000
/-! DLz: raise C(e) by data, C an own class with one field, given how it is made. -/
namespace DL
open PySem L2 PyProof.Rows HT
/-- C(e): an error whose own dict, new, has one field -/
def tMkX (C : Addr) (f : Str) (ta : TA) : L2.St → Hp → XK → Prop := fun σ H Q => ta σ H fun vs H1 => ∃ i : Int, vs = [.int i] ∧ i.natAbs.log2 < 1920 ∧ ∀ d, H1 d = none → Q (.ref C) (some d) (upd H1 d (.xd [(f, .int i)]))
theorem small_log {i : Int} (h0 : 0 ≤ i) (h1 : i < 4294967296) : i.natAbs.log2 < 1920 := by
  by_cases h : i.natAbs = 0
  · rw [h]; decide
  · rw [Nat.log2_lt h]
    exact Nat.lt_of_lt_of_le (show i.natAbs < 2 ^ 32 by omega) (Nat.pow_le_pow_right (by decide) (by decide))
section
variable {X : Cx} {sg : Sg} {M : Mem} {E : EndsD} {pos pos2 : Pos}
theorem ws_raise {x f : Str} {C : Addr} {p : Pos} {a : Expr} {QX : QXS} (hc : X.calm = true) (o : Out X M.b QX) (hmk : PMk X (.Call (.Name x p) [a] [] pos) (tMkX C f (tWA X [a]))) (h : WA X [a] sg M fun ds M1 => ∃ i : Int, ds = [.int i] ∧ i.natAbs.log2 < 1920 ∧ QX C [(f, .int i)] sg M1) :
    WS X (.Raise (some (.Call (.Name x p) [a] [] pos)) none pos2) sg M E := by
  obtain ⟨W, tk, hW⟩ := o
  refine WS.of (ps_raise hc tk hmk) fun σ H G w s => (h σ H G w s).imp fun vs H1 ⟨ds, G1, M1, st, w1, r1, i, e, hi, qx⟩ => ?_
  subst e
  obtain ⟨v, rfl, rv⟩ := r1.one
  cases rv
  refine ⟨i, rfl, hi, fun dd hd => hW _ _ _ _ ⟨C, dd, [(f, .int i)], [(f, .int i)], G1, M1, sg, rfl, rfl, upd_same, ⟨rfl, .cons (.int i) .nil⟩, st.base, w1.other (w1.free hd).1 (w1.free hd).2 fun u k1 k2 => w1.fresh hd k1 k2, ⟨(w1.free hd).1, (w1.free hd).2, fun u k1 k2 => ?_⟩, s.mono (st.gx w), qx⟩⟩
  rw [← st.base] at k1 k2
  exact w1.fresh hd k1 k2
end
end DL
set_option Elab.async false
set_option linter.all false
set_option maxRecDepth 100000
set_option maxHeartbeats 4000000
/-! DLv: a def as a value; a call of a local name that holds one. -/
namespace DL
open PySem L2 PyProof.Rows HT
section
variable {X : Cx} {CX : CXT} {k i : Nat} {f : Addr} {fd : FuncData} {ps : List Str} {sp : Sp} {E : L2.St → XK} {x : Str} {p pos : Pos} {e : Expr} {es : List Expr} {t : TA}
def tCallLS (i : Nat) (f : Addr) (sp : Sp) (E : L2.St → XK) (t : TA) : TE := fun σ H Q => σ[i]? = some (some (.ref f)) ∧ t σ H fun vs H1 => sp vs H1 Q (E σ)
theorem pe_callLS (F : FnOk X.prog X.w X.K X.mg X.base CX k f fd ps sp) (hr : Room k X.A) (hN : X.N[i]? = some x) (hv : Vis X.env.scope x) (hk : PySem.W.keepIn X.K (.ref f) = true) (hb : Binds X.K fd ps []) (hx : ∀ σ, PassesAt CX X σ (E σ)) (ha : PA X (e :: es) t)
    (hdb : (x == ("__debug__" : Str)) = false := by decide) (hcd : (x == ("__classdict__" : Str)) = false := by decide)
    (he : starEach (e :: es) X.env = (false, eval e X.env) :: starEach es X.env := by rfl) (hpl : (backTo pos (starEach es X.env)).any (·.1) = false := by rfl) : PE X (.Call (.Name x p) (e :: es) [] pos) (tCallLS i f sp E t) := by
  refine ⟨fun pins s σ H Q I h => ?_⟩
  obtain ⟨hs, ht⟩ := h
  refine wpAny_Call_Name_kw (thn ((pe_var (pos := p) hN hv hdb hcd).run pins s σ H (fun v H1 => v = .ref f ∧ H1 = H) I ⟨.ref f, hs, rfl, rfl⟩) fun u s1 ⟨v, H1, I1, r1, q1⟩ => ?_)
  obtain ⟨rfl, rfl⟩ := q1
  cases r1
  refine PySem.W.callWith_K (h₀ := X.base) I.ok.mod.kin hk (thn (ha.run pos pins s1 σ _ _ I1 ht) fun us s2 ⟨vs, H2, I2, r, q⟩ => ⟨I2.kIn, ?_⟩) he hpl
  exact run_fnS F hr hb (hx σ) I2 r q
end
section
variable {X : Cx} {sg : Sg} {M : Mem} {Q : D → Mem → Prop} {pos : Pos}
/-- the name of a def: its address -/
theorem ee_fn {x : Str} {f : Addr} (hm : X.mg x = some (.ref f)) (hg : Gl X x := by rfl) (hd : (x == ("__debug__" : Str)) = false := by decide) : EE X (.Name x pos) sg M (.ptr f) := WE.of (pe_glob (v := .ref f) hg hm rfl hd) fun σ H G w r => PV.here w (.ptr f) ⟨rfl, rfl⟩
theorem we_callXL (i : Nat) {k n : Nat} {x y : Str} {f : Addr} {S : SpDX} {p : Pos} {e : Expr} {es : List Expr} {QX : QXS} (C : CalX X.prog X.w X.K X.mg X.base k y n S) (hy : X.mg y = some (.ref f)) (hr : Room k X.A) (o : Out X M.b QX) (hs : sg[i]? = some (some (.ptr f)))
    (h : WA X (e :: es) sg M fun ds M1 => ds.length = n ∧ ∀ b0, S ds (M1.rb b0) (fun d M' => Q d (M'.rb M.b)) (fun C fs M' => QX C fs sg (M'.rb M.b))) (hN : X.N[i]? = some x := by rfl) (hv : Vis X.env.scope x := by first | exact Or.inl rfl | exact Or.inr (Or.inl rfl) | exact Or.inr (Or.inr rfl))
    (hd : (x == ("__debug__" : Str)) = false := by decide) (hcd : (x == ("__classdict__" : Str)) = false := by decide)
    (he : starEach (e :: es) X.env = (false, eval e X.env) :: starEach es X.env := by exact star1 rfl) (hpl : (backTo pos (starEach es X.env)).any (·.1) = false := by exact starN rfl) : DL.WE X (.Call (.Name x p) (e :: es) [] pos) sg M Q := by
  obtain ⟨f2, fd, ps, F, hm, kp, hb⟩ := C
  rw [hy] at hm
  cases hm
  obtain ⟨W, tk, hW⟩ := o
  refine WE.of (pe_callLS (i := i) F hr hN hv kp hb (fun σ => passAt tk σ) pa_w hd hcd he hpl) fun σ H G w s => ?_
  obtain ⟨v0, e0, r0⟩ := s.at_ i _ hs
  cases r0
  refine ⟨e0, (h σ H G w s).imp fun vs H1 ⟨ds, G1, M1, st, w1, r1, hl, hS⟩ => ?_⟩
  refine ⟨G1, M1.rb ⟨G1, M1.f, H1⟩, ds, _, _, w1.rb, r1, hl, hS _, fun v H' ⟨d, G', M', st', w', r', q⟩ => ?_, fun cls d H' ⟨C, dd, fs, fds, G', M', e1, e2, e3, kv, hb', w', ⟨f1, f2, f3⟩, qx⟩ => ?_⟩
  · obtain ⟨w2, st2⟩ := w1.unrb w' st'.base
    rw [st.base] at w2 st2
    exact PV.base st ⟨d, G', M'.rb M.b, st2, w2, r', q⟩
  · obtain ⟨w2, st2⟩ := w1.unrb w' hb'
    rw [st.base] at w2 st2
    exact hW _ _ _ _ ⟨C, dd, fs, fds, G', M'.rb M.b, sg, e1, e2, e3, kv, rfl, w2, ⟨f1, f2, fun u k1 k2 => by
      have z := w1.hist dd u
      rw [st.base] at z
      obtain ⟨z1, _, z3⟩ := z k1 k2
      exact f3 u z1 z3⟩, s.mono ((st.trans st2).gx w), qx⟩
end
end DL
set_option Elab.async false
set_option linter.all false
set_option maxRecDepth 100000
set_option maxHeartbeats 4000000
/-! DLu: an own error over ValueError whose __init__ says super().__init__(text), then self.f = n. -/
namespace DL
open PySem L2 PyProof.Rows HT NdefX
section
variable {prog : Program} {w : World} {A : Around} {E : Value → Shared → Prop} {h : Heap} {g : Array GenState} {d : Drawn} {t : Nat} {os : OsState}
variable {nm q : Str} {C N : Addr} {bs bm : List Value} {hdct : Bool} {sn : List Str} {sub : List Value} {ab : Bool} {col : Option Bool} {dd : Option Addr} {k0 k1 k2 k3 k5 : Option Value}
theorem call_mw {u e t0 : Addr} {rest : List Value} {Q : Value → Shared → Prop}
    (hC : h.get? C = some (excClassObj nm q C N bs bm hdct sn sub ab col dd k0 k1 k2 k3 k5 "ValueError.__new__")) (he : h.get? e = some (HandSPX.excO C t0)) (hu : h.get? u = some (PySem.W.kxs_mw "ValueError.__init__" e)) (hrest : rest.length ≤ sizeLine)
    (hq : ∀ h' t1, (∀ b o, b ≠ e → h.get? b = some o → h'.get? b = some o) → h'.get? e = some (HandSPX.excO C t1) → Q .none ⟨h', g, d, t, os⟩) :
    wpAny (model prog w) A (call (.ref u) rest) Q E ⟨h, g, d, t, os⟩ := by
  refine wpAny_call (codeAny_of_tree ?_)
  show wpAny _ A.in1 (callAny (.ref u) ⟨rest, []⟩) _ _ _
  simp only [callAny]
  refine wpAny_bind (wpAny_load hu ?_)
  simp only [PySem.W.kxs_mw, show (Value.type "method-wrapper" == Value.type "method" || Value.type "method-wrapper" == Value.type "builtin_function_or_method" || Value.type "method-wrapper" == Value.type "method-wrapper") = true by decide, if_true]
  refine PySem.W.KFB.if_so (by decide) ?_
  refine wpAny_bind (ESX.check_bound F.excBase_ValueError hC he rfl ?_)
  refine wpAny_bind (wpAny_pure (wpAny_pure ?_))
  refine ⟨Code.quiet_builtin _ (by decide +kernel), codeAny_builtin F.excBase_ValueError.initEntry ?_⟩
  rw [Around.under_plainId F.excBase_ValueError.init.plain _]
  wp_walk
  refine hq _ h.objs.size (fun b o hb ho => ?_) ?_
  · rw [Heap.get?_update_other _ _ (Ne.symm hb)]
    exact Heap.get?_push_of_some _ ho
  · rw [Heap.get?_update_self _ (Heap.get?_push_of_some _ he) rfl]
    rfl
end

abbrev sSelf : Str := "self"
abbrev sCls : Str := "__class__"
/-- what stands of an error class whose __init__ says super().__init__(..), then self.fld = a parameter -/
structure SupX (P : Program) (K : PySem.W.Frag) (mg : Str → Option Value) (C fI cc c : Addr) (F : NF) (fd : FuncData) (fld pn : Str) : Prop where
  oex : OexC K C
  lk : ∃ oc od dV kV doc pm an ct osl, fd = PySem.W.fnX F.name F.qual F.params F.body F.scope F.cl dV kV doc pm an (.ref c) ct ∧ F.c = c ∧ F.cl = [(sCls, cc)] ∧ K.lookup fI = some ⟨oc, od, .func fd, osl⟩
  code : ∃ ccl cdd vs ccs file tf, K.lookup c = some ⟨ccl, cdd, .fields vs, ccs⟩ ∧ vs[2]? = some (.str file tf) ∧ ((P.main.file : Str) == file) = true
  cq : PySem.W.codeIn K (.ref c) F.qual = true
  cell : ∃ cl cld csl, K.lookup cc = some ⟨cl, cld, .cell (some (.ref C)), csl⟩
  sub : PySem.W.mroIn K C (.ref C) = some true
  ve : PySem.W.subIn K (.ref C) (.type "ValueError") = some true
  sup : PySem.W.ks_superIn K C C "__init__" = some (some (.builtin "ValueError.__init__"))
  opq : PySem.W.nsIn K cStatics "thirdparty.any" = some none
  mgS : mg "super" = none
  top : (P.main.scope.names.lookup ("super" : Str)).isSome = false
  sc : NScope [sSelf, pn, sCls] [sSelf, pn] [sCls] F.scope
  hS : F.scope.names.lookup ("super" : Str) = some .globalImplicit
  par : (F.params.posonlyargs ++ F.params.args).head?.map (·.arg) = some sSelf
  no : PySem.W.findIn K (.ref C) fld = some none
  init : PySem.W.findIn K (.ref C) "__init__" = some (some (.ref fI))
  ty : PySem.W.typeIn K (.ref fI) = some (.type "function")
  bind : Binds K fd [sSelf, pn] []
/-- the promise of __init__ -/
def spSup (K : PySem.W.Frag) (C : Addr) (fld : Str) : Sp := fun vs H Q _ => ∃ (a : Addr) (i : Int), vs = [.ref a, .int i] ∧ i.natAbs.log2 < 1920 ∧ H a = some (exo a C none) ∧ ∀ dx, H dx = none → dx ≠ a → Q .non (upd (upd H dx (exd dx [(fld, .int i)])) a (exo a C (some dx)))
section
variable {P : Program} {w : World} {K : PySem.W.Frag} {mg : Str → Option Value} {base : Heap}
theorem sup_init {C fI cc c : Addr} {F : NF} {fd : FuncData} {fld pn : Str} {a : Expr} {p0 p1 p2 p3 p4 p5 p6 p7 p8 : Pos} (T : SupX P K mg C fI cc c F fd fld pn)
    (hbody : F.body = [.Expr (.Call (.Attribute (.Call (.Name "super" p0) [] [] p1) "__init__" p2) [a] [] p3) p4, .Assign [.Attribute (.Name "self" p5) fld p6] (.Name pn p7) p8])
    (hst : nst a = true) (hsw : ∀ env, swapsWith (.Name pn p7) (some (.Attribute (.Name "self" p5) fld p6)) p8.line env = pure false) (hpd : (pn == ("__debug__" : Str)) = false) (hpc : (pn == ("__classdict__" : Str)) = false)
    (hsw2 : ∀ env, swapsWith (.Call (.Attribute (.Call (.Name "super" p0) [] [] p1) "__init__" p2) [a] [] p3) none p4.line env = pure false)
    (hev : ∀ env : Env, ∃ pl : Sem Bool, eval (.Call (.Attribute (.Call (.Name "super" p0) [] [] p1) "__init__" p2) [a] [] p3) env = (do
      let ov ← attributeBase (.Call (.Name "super" p0) [] [] p1) "__init__" env (eval (.Call (.Name "super" p0) [] [] p1) env)
      standAt p2.atName
      let (f, first) ← holding [ov] (getMethod ov "__init__" pl)
      callWith p3 f first (backTo p3 (starEach [a] env)) []))
    (ha : ∀ X : Cx, X.K = K → X.mg = mg → X.N = [sSelf, pn, sCls] → X.env.scope = F.scope → PE X a (fun σ H Q => ∃ i : Int, σ[1]? = some (some (.int i)) ∧ i.natAbs.log2 < 1920 ∧ ∀ t : Str, Q (.str t) H)) :
    FnOk P w K mg base CX0 1 fI fd [sSelf, pn] (spSup K C fld) := by
  obtain ⟨oc, od, dV, kV, doc, pm, an, ct, osl, hfd, hc, hcl, lk⟩ := T.lk
  obtain ⟨nm0, qual, params, body, scope, cl, c0⟩ := F
  have hc : c0 = c := hc
  have hcl : cl = [(sCls, cc)] := hcl
  have hbody : body = _ := hbody
  subst hc; subst hcl
  subst hfd
  have S : NScope [sSelf, pn, sCls] [sSelf, pn] [sCls] scope := T.sc
  refine ⟨fun vs H Q E h => ?_, fun A outer s H args us vs Q E hr e0 hb r hsp => ?_⟩
  · obtain ⟨a, i, e, _⟩ := h
    rw [e]
    rfl
  obtain ⟨x, i, rfl, hi, hx, q⟩ := hsp
  have KX : K.In s.heap := e0.mod.kin.keeps fun b o e => (e0.bs b o e).1
  have lim : s.heap.NoLimit := e0.mod.nolimit.keeps fun b o e => (e0.bs b o e).1
  obtain ⟨cl, cld, csl, hcell⟩ := T.cell
  obtain ⟨ccl, cdd, fvs, ccs, file, tf, hcode, hvs, hfile⟩ := T.code
  refine ks_codeAny_call_defAt hr.depth (KX _ _ lk) rfl lim (PySem.W.codeRec_of KX T.cq) rfl hb S.nocell (fun ⟨n, _⟩ hy => S.par n (List.of_mem_zip hy).1) (fun h₁ hns hk => ?_) S.co S.gen S.kind
  have hcb : H cc = none ∧ s.heap.IsCell cc (some (.ref C)) := ⟨(e0.bs cc _ (e0.mod.kin _ _ hcell)).2, ⟨_, KX _ _ hcell, rfl⟩⟩
  have CA : CellsAt [(sCls, cc)] [sCls] [none] s.heap H := by
    refine ⟨rfl, fun y c1 e => ?_, fun y z c1 e1 e2 => ?_, fun j y e => ?_⟩
    · have : c1 = cc := by
        by_cases hy : (y == sCls) = true
        · simp only [List.lookup, hy] at e
          exact (Option.some.inj e).symm
        · simp only [List.lookup, hy] at e
          cases e
      subst this
      exact ⟨hcb.1, _, hcb.2⟩
    · have h1 : ∀ {y : Str}, List.lookup y [(sCls, cc)] = some c1 → y = sCls := fun {y} e => by
        by_cases hy : (y == sCls) = true
        · exact by simpa using hy
        · simp only [List.lookup, hy] at e
          cases e
      rw [h1 e1, h1 e2]
    · cases j with
      | zero =>
        cases e
        exact ⟨cc, by simp [List.lookup], fun v hv => by cases hv⟩
      | succ j => simp at e
  have I : Inv (ncx CX0 P w K mg base [sSelf, pn, sCls] ⟨nm0, qual, params, body, scope, [(sCls, cc)], c0⟩ fI A outer s H E) [] (startF [sSelf, pn, sCls] [.ref x, .int i] [none]) H { s with heap := h₁, toks := s.toks + ([sSelf, pn].zip us).length } := inv_startN S hr.hd e0 rfl r CA hns hk
  have hKX : ∃ X, X = ncx CX0 P w K mg base [sSelf, pn, sCls] ⟨nm0, qual, params, body, scope, [(sCls, cc)], c0⟩ fI A outer s H E := ⟨_, rfl⟩
  have fin : ∀ {σ' : L2.St} {H' : Hp} {v : V} {u : Value} {s' : Shared}, Inv (ncx CX0 P w K mg base [sSelf, pn, sCls] ⟨nm0, qual, params, body, scope, [(sCls, cc)], c0⟩ fI A outer s H E) [] σ' H' s' → L2.RelV v u → Q v H' → CE outer P w H s Q u s' :=
    fun {σ' H' v u s'} J rv q => ⟨v, H', J.os, J.bare, J.base, J.hok, rv, q⟩
  show PySem.wpAt (model P w) (A.deeper (envF ⟨nm0, qual, params, body, scope, [(sCls, cc)], c0⟩ fI s.heap.objs.size)) (.func body (envF ⟨nm0, qual, params, body, scope, [(sCls, cc)], c0⟩ fI s.heap.objs.size)) (execs body (envF ⟨nm0, qual, params, body, scope, [(sCls, cc)], c0⟩ fI s.heap.objs.size)) _ _ _
  have hks : (envF ⟨nm0, qual, params, body, scope, [(sCls, cc)], c0⟩ fI s.heap.objs.size).kindOf "super" = some .globalImplicit := T.hS
  have hkc : (envF ⟨nm0, qual, params, body, scope, [(sCls, cc)], c0⟩ fI s.heap.objs.size).kindOf "__class__" = some .free := S.frk _ (List.mem_cons_self ..)
  have quiet := I.quiet
  have hsx : ∀ env : Env, execs body env = execs [.Expr (.Call (.Attribute (.Call (.Name "super" p0) [] [] p1) "__init__" p2) [a] [] p3) p4, .Assign [.Attribute (.Name "self" p5) fld p6] (.Name pn p7) p8] env := fun env => congrArg (fun b => execs b env) hbody
  rw [hsx]
  refine ks_wpAt_execs_cons (ks_wpAt_Expr_any ?_ quiet (hsw2 _))
  obtain ⟨pl, hev⟩ := hev (envF ⟨nm0, qual, params, body, scope, [(sCls, cc)], c0⟩ fI s.heap.objs.size)
  refine ks_wpAt_MethodCall (pl := pl) ?_ hev
  obtain ⟨nm, q1, N1, bs1, bm, sn, sub, ab, col, dd, k0, k1, k2, k3, k5, hC, hbm⟩ := T.oex.cls
  have hcls : PySem.W.clsIn K C = some { name := nm, bases := bs1, mro := .ref C :: bm, ns := N1, qualname := q1, hasDict := true, slotNames := sn, subclasses := sub, abstract := ab, collection := col, hasDel := false } := by unfold PySem.W.clsIn; rw [hC] <;> rfl
  obtain ⟨ar, har, harn⟩ : ∃ ar : Arg, (params.posonlyargs ++ params.args).head? = some ar ∧ ar.arg = sSelf := by
    have hp := T.par
    cases e : (params.posonlyargs ++ params.args).head? with
    | none =>
      have hp : ((params.posonlyargs ++ params.args).head?).map (·.arg) = some sSelf := hp
      rw [e] at hp; cases hp
    | some ar =>
      have hp : ((params.posonlyargs ++ params.args).head?).map (·.arg) = some sSelf := hp
      rw [e] at hp
      exact ⟨ar, rfl, Option.some.inj hp⟩
  have K1 : K.In h₁ := KX.keeps hk
  have r0 := r
  obtain ⟨u0, us1, eus, ru0, ru1⟩ : ∃ u0 us1, us = u0 :: us1 ∧ L2.RelV (.ref x) u0 ∧ Vals [.int i] us1 := by
    cases r with
    | cons r1 r2 => exact ⟨_, _, rfl, r1, r2⟩
  obtain rfl : u0 = Value.ref x := ru0
  have nd2 : [sSelf, pn].Nodup := by
    have := S.nd
    exact (List.nodup_append.mp (show ([sSelf, pn] ++ [sCls]).Nodup from this)).1
  obtain ⟨mb, hb1, hb2⟩ := e0.mod.blt
  refine ks_wpAt_super_base hks hkc (by decide) rfl (hk _ _ (KX _ _ lk)) rfl har rfl (hk _ _ (KX _ _ hcode)) rfl hvs hfile T.top ?_
  refine PySem.W.ks_loadName_global S.kind hks (Calls.loadGlobal_builtin (e0.mod.glob.keeps fun b o e => hk _ _ (e0.bs b o e).1) T.mgS (hb1.keeps fun b o e => hk _ _ (e0.bs b o e).1) ((hb2 "super" (by decide)).trans (show bootBuiltins "super" = some (.type "super") by decide +kernel)) ⟨rfl, ?_⟩)
  refine wpAny_loadName_free S.kind hkc (c := cc) (by rfl) ⟨_, K1 _ _ hcell, rfl⟩ ?_
  rw [harn]
  refine wpAny_loadName_local S.kind (S.par _ (List.mem_cons_self ..)) hns (zip_look (i := 0) nd2 rfl (by rw [eus]; rfl)) ?_
  refine ks_wpAny_isType_cls (K1 _ _ hC) rfl ⟨rfl, ?_⟩
  obtain ⟨t1, hxo⟩ := exo_at I.hok hx
  refine ks_wpAny_call_super (K1 _ _ hC) rfl hxo rfl (fun c e => by cases e) (PySem.W.looks_mroIn K1 T.sub) (fun h2 e2 k => ?_)
  have I1 := I.kept (h' := h2) (t' := s.toks + ([sSelf, pn].zip us).length) k
  have K2 : K.In h2 := K1.keeps k
  obtain ⟨t2, hxo2⟩ := exo_at I1.hok hx
  have hxC : x ≠ C := fun e => by
    have y := K2 _ _ hC
    rw [← e] at y
    rw [y] at hxo2
    cases hxo2
  have IA : PySem.W.InstAt h2 x (HandSPX.excO C t2) C none := ⟨hxo2, rfl, rfl, trivial⟩
  refine PySem.W.kxs_getMethod PySem.W.kxs_ValueError e2 (PySem.W.looks_opaque K2 T.opq) (l₀ := .ref C :: bm) ((PySem.W.looks_clsIn K2 hcls).andThen .now) rfl K2 ?_ (IA.type.andThen (PySem.W.looks_subIn K2 T.ve)) hxC (by decide) ?_
  · have := T.sup
    unfold PySem.W.ks_superIn at this
    rw [hcls] at this
    exact this
  have kp : ∀ b o, h2.get? b = some o → (h2.push (PySem.W.kxs_mw "ValueError.__init__" x)).get? b = some o := fun b o e => Heap.get?_push_of_some _ e
  have I2 := (I1.kept (h' := h2.push (PySem.W.kxs_mw "ValueError.__init__" x)) (t' := s.toks + ([sSelf, pn].zip us).length + 1) kp).pins_of (pins' := [(h2.objs.size, PySem.W.kxs_mw "ValueError.__init__" x)]) (fun p hp => by
    rw [List.mem_singleton.mp hp]
    exact ⟨Heap.get?_push_at rfl rfl, I1.hok.fresh (Nat.le_refl _), fun z => absurd I1.lt (by show ¬ _ < h2.objs.size; rw [← z]; exact Nat.lt_irrefl _), I1.nofs (Nat.le_refl _), fun v z => by cases z⟩)
  have he : starEach [a] (envF ⟨nm0, qual, params, body, scope, [(sCls, cc)], c0⟩ fI s.heap.objs.size) = (false, eval a (envF ⟨nm0, qual, params, body, scope, [(sCls, cc)], c0⟩ fI s.heap.objs.size)) :: starEach [] (envF ⟨nm0, qual, params, body, scope, [(sCls, cc)], c0⟩ fI s.heap.objs.size) := star1 hst
  have pa := pa_cons (ha (ncx CX0 P w K mg base [sSelf, pn, sCls] ⟨nm0, qual, params, body, scope, [(sCls, cc)], c0⟩ fI A outer s H E) rfl rfl rfl rfl) pa_nil he
  have pr := pa.run p3 _ _ _ H (fun vs H1 => ∃ t : Str, vs = [.str t] ∧ H1 = H) I2 ⟨i, rfl, hi, fun t => ⟨t, rfl, rfl⟩⟩
  have pr : wpAny (model P w) (A.deeper (envF ⟨nm0, qual, params, body, scope, [(sCls, cc)], c0⟩ fI s.heap.objs.size)) (spliced (backTo p3 (starEach [a] (envF ⟨nm0, qual, params, body, scope, [(sCls, cc)], c0⟩ fI s.heap.objs.size)))) _ _ _ := pr
  rw [he] at pr
  show wpAny _ _ (callWith p3 (.ref h2.objs.size) [] (backTo p3 (starEach [a] (envF ⟨nm0, qual, params, body, scope, [(sCls, cc)], c0⟩ fI s.heap.objs.size))) []) _ _ _
  rw [he]
  refine PySem.W.kxs_callWith (i := "ValueError.__init__") (x := x) rfl (Calls.evalArgs_plain (wpAny_mono pr (fun ws s3 ⟨vs, H3, I3, r3, t, e1, e2⟩ => ?_) fun _ _ z => z))
  subst e1
  rw [e2] at I3
  have pin := (I3.pin (h2.objs.size, PySem.W.kxs_mw "ValueError.__init__" x) (by simp)).1
  refine ⟨pin, ?_⟩
  obtain ⟨t3, hxo3⟩ := exo_at I3.hok hx
  obtain ⟨h3, g3, d3, tk3, os3⟩ := s3
  refine call_mw (I3.kIn _ _ hC) hxo3 pin (by rw [List.nil_append, ← r3.length, sizeLine_eq]; show 1 ≤ 16777216; omega) (fun h4 t4 k4 hxo4 => ?_)
  have J := (I3.write (t' := tk3) (x := x) (e := x) (o := exo x C none) (by rw [hx]; exact True.intro) (.inl rfl) k4 ⟨_, hxo4⟩ (exo_ok hxo4)).pins_of (pins' := []) (fun p hp => by cases hp)
  have eu : upd H x (exo x C none) = H := by
    funext b
    by_cases hb : b = x
    · rw [hb, upd_same, hx]
    · rw [upd_ne hb]
  rw [eu] at J
  refine wpAt_of_wpAny ?_
  have hself : scope.names.lookup sSelf = some .local := S.par _ (List.mem_cons_self ..)
  have ps := pss_cons (ps_ost (X := ncx CX0 P w K mg base [sSelf, pn, sCls] ⟨nm0, qual, params, body, scope, [(sCls, cc)], c0⟩ fI A outer s H E) (f := fld) (pe_var (i := 0) (x := sSelf) (pos := p5) rfl (.inl hself)) (pe_var (i := 1) (x := pn) (pos := p7) rfl (.inl (S.par _ (List.mem_cons_of_mem _ (List.mem_cons_self ..)))) hpd hpc) (hsw _)) pss_nil
  refine thn (ps.run [] _ _ H { nx := fun _ H' => Q .non H', rt := Q } J ⟨.int i, rfl, .ref x, rfl, x, C, rfl, T.oex, T.no, .inl ⟨hx, fun dx hd hne => q dx hd hne⟩⟩) fun f s' hs => ?_
  cases f with
  | ret u =>
    obtain ⟨v, σ', H', J, rv, q⟩ := hs
    exact fin J rv q
  | next =>
    obtain ⟨σ', H', J, q⟩ := hs
    exact fin (v := V.non) (u := Value.none) J rfl q
  | brk =>
    obtain ⟨_, _, _, q⟩ := hs
    exact False.elim q
  | cont =>
    obtain ⟨_, _, _, q⟩ := hs
    exact False.elim q
end
/-- how an error of this class is made, in any frame with room -/
def MkE (P : Program) (w : World) (K : PySem.W.Frag) (mg : Str → Option Value) (base : Heap) (x : Str) (C : Addr) (fld : Str) : Prop := ∀ (X : Cx), X.prog = P → X.w = w → X.K = K → X.mg = mg → X.base = base → Room 2 X.A → Gl X x → ∀ (a : Expr) (p pos : Pos), nst a = true → PMk X (.Call (.Name x p) [a] [] pos) (tMkX C fld (tWA X [a]))
theorem mke {P : Program} {w : World} {K : PySem.W.Frag} {mg : Str → Option Value} {base : Heap} {C fI cc c : Addr} {F : NF} {fd : FuncData} {fld pn x : Str} (T : SupX P K mg C fI cc c F fd fld pn) (F1 : FnOk P w K mg base CX0 1 fI fd [sSelf, pn] (spSup K C fld)) (hm : mg x = some (.ref C)) (hdb : (x == ("__debug__" : Str)) = false) : MkE P w K mg base x C fld := by
  intro X e1 e2 e3 e4 e5 hr hg a p pos hst pins s σ H Q I h
  subst e1; subst e2; subst e3; subst e4; subst e5
  refine pmk_oex T.oex T.init T.ty F1 hr T.bind .nil pass0 hg hm (pa_w (es := [a])) hdb (star1 hst) rfl pins s σ H Q I ?_
  refine tWA.imp h fun vs H1 ⟨i, e, hi, q⟩ => ?_
  subst e
  refine ⟨by show 1 ≤ 1000; omega, fun b hb => ⟨b, i, rfl, hi, upd_same, fun dx hd hne => ⟨rfl, dx, _, upd_same, by rw [upd_ne hne, upd_same], by rw [upd_ne hne] at hd; exact hd, ?_⟩⟩⟩
  have hd1 : H1 dx = none := by rw [upd_ne hne] at hd; exact hd
  have ee : upd (del (upd (upd (upd H1 b (exo b C none)) dx (exd dx [(fld, .int i)])) b (exo b C (some dx))) b) dx (.xd [(fld, .int i)]) = upd H1 dx (.xd [(fld, .int i)]) := by
    funext y
    by_cases h1 : y = dx
    · subst h1; rw [upd_same, upd_same]
    · rw [upd_ne h1, upd_ne h1]
      by_cases h2 : y = b
      · subst h2; rw [del_same, hb]
      · rw [del_ne h2, upd_ne h2, upd_ne h1, upd_ne h2]
  rw [ee]
  exact q dx hd1
end DL
set_option Elab.async false
set_option linter.all false
set_option maxRecDepth 100000
set_option maxHeartbeats 4000000
/-! DLt: tuple * 1; range with a step; a list that changes, out of a sum. -/
namespace DL
open PySem PySem.Spec L2 PyProof.Rows HT
theorem tuple_mul1 (l : Addr) (items : Array Value) (n : Nat) (sl : Array (Option Value)) (dd : Option Addr) (x : Int) (u : Tok) (c0 : (decide (x < -(2 ^ 63)) || decide (x ≥ 2 ^ 63)) = false) (c1 : (items.isEmpty || x == 1) = true) :
    Meets (Builtin.«tuple.__mul__» ⟨[.ref l, .int x u], []⟩) (fun _ R s => s.heap.get? l = some { cls := .type "tuple", dict := dd, data := .seq items n, slots := sl } ∧ R (.ok (.ret (Value.ref l))) s) :=
  .of_wp fun prog w A R s h => by
    obtain ⟨hp, g, d, tk, os⟩ := s
    obtain ⟨hl, h⟩ := h
    have f1 := AutoSeq1.idx_int
    wp_walk using wpAny_loadPart' hl
    repeat (first
      | (refine wpAny_ite_false (decide_eq_false (by rw [c0]; exact Bool.false_ne_true)) ?_; wp_walk using wpAny_loadPart' hl)
      | (refine wpAny_ite_true (decide_eq_true (by rw [c1])) ?_; wp_walk using wpAny_loadPart' hl))
    exact ⟨_, rfl, h⟩
/-- tuple * 1, or of the empty one: itself -/
def rRep1 (K : PySem.W.Frag) : R2 := fun x y H Q => ∃ l k xs, x = .ref l ∧ y = .int k ∧ SqT K H l xs ∧ (xs = [] ∨ k = 1) ∧ -(2 ^ 62) ≤ k ∧ k < 2 ^ 62 ∧ Q (.ref l) H
def rRepA (K : PySem.W.Frag) : R2 := fun x y H Q => rRepT K x y H Q ∨ rRep1 K x y H Q
section
variable {X : Cx}
theorem op_repA : OpR X (binaryOp .Mult) (rRepA X.K) := by
  intro pins s σ H x y v u Q I rx ry h
  rcases h with h | h
  · exact op_repT pins s σ H x y v u Q I rx ry h
  obtain ⟨l, k, xs, rfl, rfl, hT, h1, h2, h3, q⟩ := h
  cases rx
  obtain ⟨t, rfl⟩ := ry
  obtain ⟨its, r, ⟨⟨cls, dd, data, sl⟩, ho, hc, n, hd⟩, hs⟩ := I.tuple hT
  simp only at hc hd
  subst hc hd
  have c0 : (decide (k < -(2 ^ 63)) || decide (k ≥ 2 ^ 63)) = false := by
    rw [decide_eq_false (by omega), decide_eq_false (by omega)] <;> rfl
  have c1 : (its.toArray.isEmpty || k == 1) = true := by
    rcases h1 with h1 | h1
    · subst h1
      cases r
      rfl
    · subst h1
      rw [Bool.or_eq_true]
      exact .inr rfl
  refine wpAny_binaryOp_repeat_ref (T := "tuple") (U := "int") (by decide) ⟨_, ho, rfl⟩ (fun s' => typeIs_int s' k t) noFill_tuple_mul F.fills_int_mul F.slot_int_rmul repeat_tuple F.slot_int_index.lookup
    (call_meets F.slot_int_rmul (typeIs_int s k t) F.entry_int_rmul (F.args_int_rmul_2 _ _) (int_rmul_tuple k t l its.toArray n dd sl)
      ⟨ho, rfl, ⟨_, ho, rfl⟩, call_meets F.slot_tuple_mul ⟨_, ho, rfl⟩ F.entry_tuple_mul (F.args_tuple_mul_2 _ _) (tuple_mul1 l its.toArray n sl dd k t c0 c1) ⟨ho, ?_⟩⟩)
  exact ⟨.ref l, H, I, rfl, q⟩
end
section
variable {K : PySem.W.Frag} {M : Mem} {Q : D → Mem → Prop}
theorem od_repA {ds : List D} {i : Int} (h1 : 1 ≤ i) (h2 : i ≤ 1000) (h3 : ds.length ≤ 1000) (q : Q (.tup (List.replicate i.toNat ds).flatten) M) : OpD K (rRepA K) (.tup ds) (.int i) M Q := fun G H v u R w rx ry k => by
  cases ry
  cases rx with
  | @tup a xs _ e1 r1 =>
    by_cases h0 : xs = [] ∨ i = 1
    · have e : (List.replicate i.toNat ds).flatten = ds := by
        rcases h0 with h0 | h0
        · subst h0
          cases r1
          simp
        · subst h0
          simp
      rw [e] at q
      exact .inr ⟨_, _, xs, rfl, rfl, SqT.of (w.sub _ _ e1), h0, by omega, by omega, k _ _ (PV.here w (.tup e1 r1) q)⟩
    · have h5 : ¬ xs = [] := fun z => h0 (.inl z)
      have h6 : ¬ i = 1 := fun z => h0 (.inr z)
      exact .inl ⟨_, _, _, rfl, rfl, SqT.of (w.sub _ _ e1), h5, by omega, h2, by rw [r1.length]; exact h3, fun p hp => k _ _ (new_tup w hp (r1.rep _) q)⟩
/-- a sum of lists that may change -/
theorem od_catM {x y : D} {ds es : List D} (hx : LsD M x ds) (hy : LsD M y es) (h : ds.length + es.length ≤ sizeLine) (q : ∀ p, M p = none → Q (.ptr p) (updM M p (some (.lst (ds ++ es))))) : OpD K rCat x y M Q := fun G H v u R w rx ry k => by
  obtain ⟨a, xs, rfl, h1, r1⟩ := hx.at w rx
  obtain ⟨b, ys, rfl, h2, r2⟩ := hy.at w ry
  exact ⟨a, b, xs, ys, rfl, rfl, h1, h2, by rw [r1.length, r2.length]; exact h, fun p hp => k _ _ (new_lstM w hp (r1.append r2) q)⟩
/-- lo, lo + c, .. -/
def rngC (lo c : Int) (n : Nat) : List D := (List.range n).map fun (i : Nat) => D.int (lo + (i : Int) * c)
theorem rngC_at {lo c : Int} {n j : Nat} {d : D} (h : (rngC lo c n)[j]? = some d) : j < n ∧ d = .int (lo + (j : Int) * c) := by
  unfold rngC at h
  rw [List.getElem?_map] at h
  cases e : (List.range n)[j]? with
  | none => rw [e] at h; cases h
  | some i =>
    rw [e] at h
    have hj := (List.getElem?_eq_some_iff.mp e).1
    rw [List.length_range] at hj
    rw [List.getElem?_range hj] at e
    cases e
    exact ⟨hj, (Option.some.inj h).symm⟩
theorem rngC_len {lo c : Int} {n : Nat} : (rngC lo c n).length = n := by unfold rngC; rw [List.length_map, List.length_range]
theorem itd_rngC {G : Hp} {lo c : Int} {n : Nat} : ItD K G (Itc lo c n) (rngC lo c n) fun _ => True := fun G1 M1 H1 gx w _ i => by
  refine ⟨fun h => by rw [rngC_len] at h; exact Nat.le_of_eq h.symm, fun d hd => ?_⟩
  obtain ⟨hi, e⟩ := rngC_at hd
  subst e
  refine ⟨hi, fun x H' ⟨e1, e2⟩ => ?_⟩
  subst e1; subst e2
  exact ⟨G1, Stp.refl, w, .int _⟩
theorem rgc_up {j c : Int} (h0 : 0 ≤ j) (h1 : j < 2 ^ 30) (c0 : 0 < c) (c1 : c < 2 ^ 29) : ∃ n : Nat, RgC 0 j c n ∧ (n : Int) ≤ j ∧ ∀ i : Nat, i < n → (i : Int) * c < j := by
  have hr : Builtin.Range.rangeSize 0 j c = if 0 < j then (j - 1) / c + 1 else 0 := by
    unfold Builtin.Range.rangeSize
    rw [if_pos c0, Int.sub_zero]
  refine ⟨(if 0 < j then (j - 1) / c + 1 else 0).toNat, ⟨by omega, by omega, ?_, ?_⟩, ?_, ?_⟩
  · unfold Builtin.Range.small
    rw [hr]
    by_cases hj : 0 < j
    · rw [if_pos hj]
      have d0 : 0 ≤ (j - 1) / c := Int.ediv_nonneg (by omega) (by omega)
      have d1 : (j - 1) / c ≤ j - 1 := Int.ediv_le_self _ (by omega)
      have d2 : (j - 1) / c * c ≤ j - 1 := Int.ediv_mul_le _ (by omega)
      simp only [Builtin.Range.rangeFitsLong, Bool.and_eq_true, Bool.or_eq_true, decide_eq_true_eq, beq_iff_eq]
      rw [if_pos c0]
      simp only [Builtin.Range.rangeFitsLong, Bool.and_eq_true, decide_eq_true_eq]
      omega
    · rw [if_neg hj]
      simp [Builtin.Range.rangeFitsLong]
      omega
  · rw [hr]
    split
    · have d0 : 0 ≤ (j - 1) / c := Int.ediv_nonneg (by omega) (by omega)
      omega
    · rfl
  · split
    · have d0 : 0 ≤ (j - 1) / c := Int.ediv_nonneg (by omega) (by omega)
      have d1 : (j - 1) / c ≤ j - 1 := Int.ediv_le_self _ (by omega)
      omega
    · omega
  · intro i hi
    by_cases hj : 0 < j
    · rw [if_pos hj] at hi
      have d0 : 0 ≤ (j - 1) / c := Int.ediv_nonneg (by omega) (by omega)
      have d2 : (j - 1) / c * c ≤ j - 1 := Int.ediv_mul_le _ (by omega)
      have d3 : (i : Int) * c ≤ (j - 1) / c * c := Int.mul_le_mul_of_nonneg_right (by omega) (by omega)
      omega
    · rw [if_neg hj] at hi
      simp at hi
end
section
variable {X : Cx} {sg : Sg} {M : Mem} {tg : Expr} {pos : Pos} {Qi : List D → (Mem → Prop) → Mem → Prop}
theorem wi_rng3 {a b c : Expr} {p : Pos} (hm : X.mg "range" = none) (h : WA X [a, b, c] sg M fun ds M1 => ∃ (i j k : Int) (n : Nat), ds = [.int i, .int j, .int k] ∧ RgC i j k n ∧ Qi (rngC i k n) (fun _ => True) M1) (hg : Gl X "range" := by rfl)
    (hs : starEach [a, b, c] X.env = (false, eval a X.env) :: starEach [b, c] X.env := by exact star1 rfl) (hpl : (backTo pos (starEach [b, c] X.env)).any (·.1) = false := by exact starN rfl) : WI X tg (.Call (.Name "range" p) [a, b, c] [] pos) sg M Qi := ⟨_, pi_range3 hg hm pa_w hs hpl, fun σ H G R w s k => (h σ H G w s).imp fun vs H1 ⟨ds, G1, M1, st, w1, r1, i, j, c, n, e, b1, q⟩ => by
  subst e
  cases r1 with
  | cons r1 r2 =>
    obtain ⟨u1, u2, rfl, rv, ru⟩ := r2.two
    cases r1; cases rv; cases ru
    exact ⟨i, j, c, n, rfl, b1, k _ _ _ _ G1 M1 st w1 itd_rngC q⟩⟩
end
end DL
set_option Elab.async false
set_option linter.all false
set_option maxRecDepth 100000
set_option maxHeartbeats 4000000
/-! DLs: enumerate of a list, each pair held by one name. -/
namespace DL
open PySem PySem.Spec L2 PyProof.Rows HT
/-- an enumerate object, whatever pair it gave last -/
def EnX (h : Heap) (e it : Addr) (i : Int) : Prop := ∃ (o0 b old : Value), (o0 = .none ∨ ∃ a : Int, o0 = rawInt a) ∧ h.get? e = some { cls := .type "enumerate", dict := none, data := .fields #[o0, b, .ref it, rawInt i, .none, old], slots := #[] }
section
variable {prog : Program} {w : World} {M : Model} {A : Around} {E : Value → Shared → Prop} {s : Shared}
theorem wpAny_alive {a : Addr} {Q : Option Obj → Shared → Prop} (h : Q (s.heap.get? a) s) : wpAny M A (loadIfAlive a) Q E s := fun Γ p hΓ => by
  unfold loadIfAlive
  rw [Sem.wp_loadIfAlive]
  exact h
theorem enx_free {e it : Addr} {i : Int} {Q : Bool → Shared → Prop} (he : EnX s.heap e it i) (ht : Q true s) (hf : ∀ h', EnX h' e it i → Heap.SameBut e s.heap h' → Q false { s with heap := h' }) :
    wpAny (model prog w) A (Builtin.SmallTypes.ownedTupleIsFree (.ref e)) Q E s := by
  obtain ⟨o0, b, old, h0, he⟩ := he
  unfold Builtin.SmallTypes.ownedTupleIsFree
  rcases h0 with h0 | ⟨a, h0⟩
  · subst h0
    exact wpAny_bind (wpAny_field he rfl (x := .none) rfl (wpAny_pure ht))
  · subst h0
    refine wpAny_bind (wpAny_field he rfl (x := rawInt a) rfl ?_)
    show wpAny _ _ (loadIfAlive a.toNat >>= _) _ _ _
    refine wpAny_bind (wpAny_alive ?_)
    cases hg : s.heap.get? a.toNat with
    | none => exact wpAny_pure ht
    | some o =>
      show wpAny _ _ (field (.ref e) 1 >>= _) _ _ _
      refine wpAny_bind (wpAny_field he rfl (x := b) rfl ?_)
      by_cases hb : (b != .bool true) = true
      · rw [if_pos hb]
        refine wpAny_bind (wpAny_setField_rec he (by simp) fun h' he' hs' => ?_)
        exact wpAny_pure (hf h' ⟨rawInt a, .bool true, old, .inr ⟨a, rfl⟩, he'⟩ hs')
      · rw [if_neg hb]
        exact wpAny_pure (hf s.heap ⟨rawInt a, b, old, .inr ⟨a, rfl⟩, he⟩ ⟨rfl, fun _ _ => rfl⟩)

theorem enx_next {e it l : Addr} {i : Nat} {items : Array Value} {x : Value} {Q : Value → Shared → Prop}
    (he : EnX s.heap e it i) (hit : s.heap.IsListIter it l i) (hl : s.heap.IsList l items) (hx : items[i]? = some x) (hne : e ≠ it)
    (hQ : ∀ h', EnX h' e it ((i : Int) + 1) → h'.IsListIter it l (i + 1) → h'.get? s.heap.objs.size = some { cls := .type "tuple", data := .seq #[.int i s.toks, x] } → h'.objs.size = s.heap.objs.size + 1 →
      (∀ b o, b ≠ e → b ≠ it → s.heap.get? b = some o → h'.get? b = some o) → Q (.ref s.heap.objs.size) { s with heap := h', toks := s.toks + 1 }) :
    wpAny (model prog w) A (Builtin.«enumerate.__next__» ⟨[.ref e], []⟩) (fun fin s' => ∃ v, fin = .done (.ret v) ∧ Q v s') E s := by
  obtain ⟨hp, g, d, tk, os⟩ := s
  obtain ⟨o0, b0, old, h0, he⟩ := he
  show wpAny _ _ (field (.ref e) 2 >>= _) _ _ _
  refine wpAny_bind (wpAny_field he rfl (x := .ref it) rfl ?_)
  refine wpAny_bind (wpAny_nextOf_list_item hit hl hx fun h₁ hit₁ hs₁ => ?_)
  have he1 := (hs₁.2 e hne).trans he
  show wpAny _ _ (field (.ref e) 3 >>= _) _ _ ⟨h₁, g, d, tk, os⟩
  refine wpAny_bind (wpAny_field he1 rfl (x := rawInt i) rfl ?_)
  show wpAny _ _ (field (.ref e) 4 >>= _) _ _ ⟨h₁, g, d, tk, os⟩
  refine wpAny_bind (wpAny_field he1 rfl (x := .none) rfl ?_)
  show wpAny _ _ (mkInt i >>= _) _ _ ⟨h₁, g, d, tk, os⟩
  refine wpAny_bind (wpAny_mkInt ?_)
  show wpAny _ _ (setField (.ref e) 3 (rawInt ((i : Int) + 1)) >>= _) _ _ ⟨h₁, g, d, tk + 1, os⟩
  refine wpAny_bind (wpAny_setField_rec he1 (by simp) fun h₂ he2 hs₂ => ?_)
  show wpAny _ _ (setField (.ref e) 4 .none >>= _) _ _ ⟨h₂, g, d, tk + 1, os⟩
  refine wpAny_bind (wpAny_setField_rec he2 (by simp) fun h₃ he3 hs₃ => ?_)
  show wpAny _ _ (newTuple [.int i tk, x] >>= _) _ _ ⟨h₃, g, d, tk + 1, os⟩
  refine wpAny_bind (wpAny_newTuple ?_)
  have he4 : EnX (h₃.push { cls := .type "tuple", data := .seq #[.int i tk, x] }) e it ((i : Int) + 1) := ⟨o0, b0, old, h0, Heap.get?_push_of_some _ he3⟩
  generalize hh4 : h₃.push { cls := .type "tuple", data := .seq #[.int i tk, x] } = h₄ at he4
  replace hs₁ : Heap.SameBut it hp h₁ := hs₁
  replace hs₂ : Heap.SameBut e h₁ h₂ := hs₂
  replace hs₃ : Heap.SameBut e h₂ h₃ := hs₃
  have hsz : h₃.objs.size = hp.objs.size := by rw [hs₃.1, hs₂.1, hs₁.1]
  have hel : e < hp.objs.size := Heap.lt_size he
  have ne : hp.objs.size ≠ e := Nat.ne_of_gt hel
  have ht4 : h₄.get? hp.objs.size = some { cls := .type "tuple", data := .seq #[.int i tk, x] } := by rw [← hh4, ← hsz]; exact Heap.get?_push_size _ rfl
  have hz4 : h₄.objs.size = hp.objs.size + 1 := by rw [← hh4, Heap.size_push, hsz]
  have hk4 : ∀ b o, b ≠ e → b ≠ it → hp.get? b = some o → h₄.get? b = some o := fun b o hbe hbi hb => by
    rw [← hh4]; exact Heap.get?_push_of_some _ (hs₃.extBut b o hbe (hs₂.extBut b o hbe (hs₁.extBut b o hbi hb)))
  have hit4 : h₄.IsListIter it l (i + 1) := by
    rw [← hh4]; obtain ⟨o, ho, r⟩ := (hit₁.extBut hs₂.extBut (Ne.symm hne)).extBut hs₃.extBut (Ne.symm hne); exact ⟨o, Heap.get?_push_of_some _ ho, r⟩
  show wpAny _ _ (Builtin.SmallTypes.ownedTupleIsFree (.ref e) >>= _) _ _ ⟨h₄, g, d, tk + 1, os⟩
  rw [hsz]
  clear hh4 he3 hs₃ he2 hs₂ he1 hs₁ hit₁ hsz h₃ h₂ h₁
  refine wpAny_bind (enx_free he4 ?_ fun h₅ he5 hs5 => ?_)
  · simp only [if_true]
    obtain ⟨o1, b1, old1, h1, he4⟩ := he4
    refine wpAny_bind (wpAny_rule ?_)
    refine wpAny_bind (wpAny_field he4 rfl (x := old1) rfl ?_)
    refine wpAny_bind (wpAny_setField_rec he4 (by simp) fun h₅ he5 hs5 => ?_)
    replace hs5 : Heap.SameBut e h₄ h₅ := hs5
    show wpAny _ _ (Builtin.SmallTypes.ownedTupleHandOut (.ref e) (.ref hp.objs.size) >>= _) _ _ ⟨h₅, g, d, tk + 1, os⟩
    refine wpAny_bind ?_
    unfold Builtin.SmallTypes.ownedTupleHandOut
    refine wpAny_bind (wpAny_setField_rec he5 (by simp) fun h₆ he6 hs6 => ?_)
    replace hs6 : Heap.SameBut e h₅ h₆ := hs6
    refine wpAny_setField_rec he6 (by simp) fun h₇ he7 hs7 => ?_
    replace hs7 : Heap.SameBut e h₆ h₇ := hs7
    refine wpAny_bind (wpAny_letGo (wpAny_pure ⟨_, rfl, hQ h₇ ⟨rawInt hp.objs.size, .bool false, x, .inr ⟨_, rfl⟩, he7⟩ ?_ ?_ ?_ ?_⟩))
    · exact ((hit4.extBut hs5.extBut (Ne.symm hne)).extBut hs6.extBut (Ne.symm hne)).extBut hs7.extBut (Ne.symm hne)
    · exact hs7.extBut _ _ ne (hs6.extBut _ _ ne (hs5.extBut _ _ ne ht4))
    · rw [hs7.1, hs6.1, hs5.1, hz4]
    · exact fun b o hbe hbi hb => hs7.extBut b o hbe (hs6.extBut b o hbe (hs5.extBut b o hbe (hk4 b o hbe hbi hb)))
  · replace hs5 : Heap.SameBut e h₄ h₅ := hs5
    simp only [Bool.false_eq_true, if_false]
    refine wpAny_pure ⟨_, rfl, hQ h₅ he5 (hit4.extBut hs5.extBut (Ne.symm hne)) (hs5.extBut _ _ ne ht4) (by rw [hs5.1, hz4]) fun b o hbe hbi hb => hs5.extBut b o hbe (hk4 b o hbe hbi hb)⟩
theorem enx_pyNext {e it l : Addr} {i : Nat} {items : Array Value} {x : Value} {Q : Option Value → Shared → Prop}
    (he : EnX s.heap e it i) (hit : s.heap.IsListIter it l i) (hl : s.heap.IsList l items) (hx : items[i]? = some x) (hne : e ≠ it)
    (hQ : ∀ h', EnX h' e it ((i : Int) + 1) → h'.IsListIter it l (i + 1) → h'.get? s.heap.objs.size = some { cls := .type "tuple", data := .seq #[.int i s.toks, x] } → h'.objs.size = s.heap.objs.size + 1 →
      (∀ b o, b ≠ e → b ≠ it → s.heap.get? b = some o → h'.get? b = some o) → Q (some (.ref s.heap.objs.size)) { s with heap := h', toks := s.toks + 1 }) :
    wpAny (model prog w) A (pyNext (.ref e)) Q E s := by
  have hT : s.TypeIs (.ref e) "enumerate" := let ⟨_, _, _, _, q⟩ := he; ⟨_, q, rfl⟩
  unfold pyNext
  exact wpAny_bind (wpAny_attempt (wpAny_callSpecial?_slot (name := Str.ofString "__next__") hT F.slot_enumerate_next
    (wpAny_call_entry F.slot_enumerate_next hT F.entry_enumerate_next
      (enx_next he hit hl hx hne fun h' a b c d k => wpAny_pure (hQ h' a b c d k)) (F.args_enumerate_next_1 _))))
theorem enx_end {e it l : Addr} {i : Nat} {items : Array Value} {Q : Option Value → Shared → Prop} (hh : A.handled = none)
    (he : EnX s.heap e it i) (hit : s.heap.IsListIter it l i) (hl : s.heap.IsList l items) (hx : items[i]? = none)
    (hQ : ∀ h', Heap.ExtBut it s.heap h' → Q none { s with heap := h' }) : wpAny (model prog w) A (pyNext (.ref e)) Q E s := by
  obtain ⟨o0, b0, old, h0, he⟩ := he
  have hT : s.TypeIs (.ref e) "enumerate" := ⟨_, he, rfl⟩
  unfold pyNext
  refine wpAny_bind (wpAny_attempt (wpAny_callSpecial?_slot (name := Str.ofString "__next__") hT F.slot_enumerate_next
    (wpAny_call_entry F.slot_enumerate_next hT F.entry_enumerate_next ?_ (F.args_enumerate_next_1 _))))
  show wpAny _ _ (field (.ref e) 2 >>= _) _ _ _
  refine wpAny_bind (wpAny_field he rfl (x := .ref it) rfl ?_)
  refine wpAny_bind (wpAny_nextOf_list_end hh hit hl hx fun h' x he' hx' => ?_)
  obtain ⟨o, ho, hc⟩ := hx'
  refine wpAny_bind (wpAny_isInstance (T := "StopIteration") (b := true) ⟨o, ho, hc⟩ isSubtype_stop ?_)
  exact wpAny_pure (hQ _ he')
end
/-- the turns, each pair under one name -/
theorem turn_enx {P : Program} {w : World} {K : PySem.W.Frag} {x : Str} {px : Pos} (a e it : Addr) :
    Turn P w K (.Name x px) (Ite K a) [e, it] e (fun i h => EnX h e it ((i : Nat) : Int) ∧ h.IsListIter it a i ∧ e ≠ it) where
  mem := by simp
  obj := fun i h st b hb => by
    obtain ⟨⟨_, _, _, _, he⟩, ⟨o, ho, hc, hd⟩, _⟩ := st
    have e' : b = e ∨ b = it := by simpa using hb
    rcases e' with z | z
    · rw [z]; exact ⟨_, he, fun v q => nomatch q⟩
    · rw [z]; exact ⟨o, ho, fun v q => by rw [hd] at q; cases q⟩
  keep := fun i h h' st k => let ⟨⟨o0, b0, old, h0, he⟩, hi, hne⟩ := st; ⟨⟨o0, b0, old, h0, k e (by simp) _ he⟩, hi.at fun o q => k it (by simp) o q, hne⟩
  item := by
    intro X hP hw hK hc i pins s σ H E I hf st hg
    subst hP hw hK
    obtain ⟨he, hit, hne⟩ := st
    obtain ⟨xs, y, hq, hx⟩ := hg
    obtain ⟨its, rv, p, hz⟩ := I.list hq
    obtain ⟨u, hu, ru⟩ := rv.get hx
    have hel : e < s.heap.objs.size := by obtain ⟨_, _, _, _, q⟩ := he; exact Heap.lt_size q
    have hil : it < s.heap.objs.size := by obtain ⟨_, q, _⟩ := hit; exact Heap.lt_size q
    refine enx_pyNext he hit p.isList (x := u) (by simpa using hu) hne fun h' ho hit' hT hsz hk => ?_
    refine ⟨_, rfl, ?_⟩
    show wpAny _ _ (pure ()) _ _ _
    refine wpAny_pure ?_
    have new : ObjOk X.prog X.w (upd H s.heap.objs.size (.tup [.int (i : Nat), y])) h' s.heap.objs.size (.tup [.int (i : Nat), y]) :=
      ⟨by show 2 ≤ sizeLine; decide, [.int i s.toks, u], .cons ⟨_, rfl⟩ (.cons ru .nil), ⟨_, hT, rfl, _, rfl⟩⟩
    have I1 : Inv X pins σ (upd H s.heap.objs.size (.tup [.int (i : Nat), y])) { s with heap := h', toks := s.toks + 1 } :=
      I.turnedNew (ch := [e, it]) (fun b ob hb q => hk b ob (fun z => hb (by simp [z])) (fun z => hb (by simp [z])) q) hf (Nat.le_refl _) new
    refine ⟨.ref s.heap.objs.size, _, I1, rfl, ⟨_, y, rfl, I.hok.fresh (Nat.le_refl _), rfl, fun ys hy => by rw [I.list_inj hy hq]; exact hx⟩, ⟨?_, hit', hne⟩, fun b hb => ?_⟩
    · have e1 : ((i + 1 : Nat) : Int) = (i : Int) + 1 := by omega
      rw [e1]; exact ho
    · have hb' : b < s.heap.objs.size := by
        have e' : b = e ∨ b = it := by simpa using hb
        rcases e' with z | z
        · rw [z]; exact hel
        · rw [z]; exact hil
      rw [upd_ne (Nat.ne_of_lt hb')]
      exact (hf b hb).1
  done := by
    intro X hP hw hK hc i pins s σ H E I hf st hg
    subst hP hw hK
    obtain ⟨he, hit, hne⟩ := st
    obtain ⟨xs, hq, hx⟩ := hg
    obtain ⟨its, rv, p, hz⟩ := I.list hq
    obtain ⟨f0, f1, f2, f3, f4, f5⟩ := hf it (by simp)
    have hl := rv.length
    exact enx_end (I.ok.hd hc) he hit p.isList (by simp; omega) fun h' eb => ⟨rfl, I.turned (t' := s.toks) (fun b o hb q => eb b o hb q) f0 f1 f3 f4 f5⟩
  self := fun A i s Q E st h => by
    obtain ⟨⟨o0, b0, old, h0, he⟩, _⟩ := st
    have hT : s.TypeIs (.ref e) "enumerate" := ⟨_, he, rfl⟩
    refine wpAny_pyIter_slot hT F.slot_enumerate_iter (wpAny_call_entry F.slot_enumerate_iter hT F.entry_enumerate_iter ?_ (F.args_enumerate_iter_1 _))
    show wpAny _ _ (ret (.ref e)) _ _ s
    exact wpAny_pure ⟨_, rfl, "enumerate", _, hT, F.slot_enumerate_next.lookup, h⟩
theorem pi_enx {X : Cx} {e : Expr} {ta : TA} {p pos px : Pos} {x : Str} (hg : Gl X "enumerate") (hm : X.mg "enumerate" = none) (ha : PA X [e] ta) (hs : starEach [e] X.env = [(false, eval e X.env)] := by rfl) :
    PI X (.Name x px) (.Call (.Name "enumerate" p) [e] [] pos) (iEnum X.K ta) := by
  refine ⟨fun pins s σ H R I h => ?_⟩
  refine Call_ (ld_blt I hg hm boot_enumerate (PyProof.Rows.callWith_type1 (thn (ha.run pos pins s σ H _ I h) fun us s1 ⟨vs, H1, I1, r1, q1⟩ => ?_) hs rfl))
  obtain ⟨a, xs, ex, hq, q⟩ := q1
  subst ex
  cases r1 with
  | cons r rr =>
    cases rr
    cases r
    obtain ⟨its, rv, p', hz⟩ := I1.list hq
    refine call_enumerate_list p'.isList fun h' he hit hsz hk => wpAny_pyIter_enum he ?_
    have I2 : Inv X pins σ H1 { s1 with heap := h' } := I1.kept (t' := s1.toks) hk
    refine ⟨s1.heap.objs.size + 1, [s1.heap.objs.size + 1, s1.heap.objs.size], _, _, H1, rfl, I2, turn_enx a (s1.heap.objs.size + 1) s1.heap.objs.size, ⟨⟨.none, .bool false, .none, .inl rfl, he⟩, hit, Nat.succ_ne_self _⟩, fun b hb => ?_, q⟩
    have e' : b = s1.heap.objs.size + 1 ∨ b = s1.heap.objs.size := by simpa using hb
    have hle : s1.heap.objs.size ≤ b := by
      rcases e' with z | z
      · rw [z]; exact Nat.le_add_right _ _
      · rw [z]; exact Nat.le_refl _
    exact I1.fpOk hle (I1.hok.fresh hle)
theorem wi_enx {X : Cx} {sg : Sg} {M : Mem} {Qi : List D → (Mem → Prop) → Mem → Prop} {e : Expr} {p px pos : Pos} {x : Str} (hm : X.mg "enumerate" = none) (h : WA X [e] sg M fun xs M1 => ∃ x ds, xs = [x] ∧ LsD M1 x ds ∧ Qi (enumD ds) (fun M => LsD M x ds) M1) (hg : Gl X "enumerate" := by rfl) (hs : starEach [e] X.env = [(false, eval e X.env)] := by exact star1n rfl) : WI X (.Name x px) (.Call (.Name "enumerate" p) [e] [] pos) sg M Qi := ⟨_, pi_enx hg hm pa_w hs, fun σ H G R w s k => (h σ H G w s).imp fun vs H1 ⟨xs, G1, M1, st, w1, r1, x, ds, e, l1, q⟩ => by
  subst e
  obtain ⟨v, rfl, rv⟩ := r1.one
  obtain ⟨a, ys, rfl, h1, rx⟩ := l1.at w1 rv
  refine ⟨a, ys, rfl, SqL.of h1, k _ _ _ _ G1 M1 st w1 (fun G2 M2 H2 gx w2 l2 i => ?_) q⟩
  obtain ⟨b, zs, e, h2, rz⟩ := l2.at w2 (rv.mono gx)
  cases e
  have hl : (enumD ds).length = ds.length := by unfold enumD; rw [List.length_mapIdx]
  refine ⟨fun hi => ⟨zs, SqL.of h2, by rw [rz.length]; rw [hl] at hi; exact Nat.le_of_eq hi.symm⟩, fun d hd => ?_⟩
  obtain ⟨c, hc, ec⟩ : ∃ c, ds[i]? = some c ∧ d = .tup [.int (i : Int), c] := by
    unfold enumD at hd
    rw [List.getElem?_mapIdx] at hd
    cases e : ds[i]? with
    | none => rw [e] at hd; cases hd
    | some c => rw [e] at hd; exact ⟨c, rfl, (Option.some.inj hd).symm⟩
  subst ec
  obtain ⟨z, hz, rd⟩ := rz.get hc
  refine ⟨⟨zs, z, SqL.of h2, hz⟩, fun t H' ⟨T, y, e1, e2, e3, e4⟩ => ?_⟩
  subst e1; subst e3
  have e := (e4 zs (SqL.of h2)).symm.trans hz
  cases e
  exact new_pair w2 e2 (.int _) rd⟩
end DL
set_option Elab.async false
set_option linter.all false
set_option maxRecDepth 100000
set_option maxHeartbeats 4000000
/-! DLr: truth of ints and lists, x in a list, list.index, min of pairs, a comprehension's list that changes. -/
namespace DL
open PySem PySem.Spec L2 PyProof.Rows HT
/-! ### ints as data -/
theorem toPyA_int : ∀ ns : List Int, toPyA (ns.map D.int) = ns.map PyData.int
  | [] => rfl
  | n :: ns => congrArg (PyData.int n :: ·) (toPyA_int ns)
theorem plA_int : ∀ ns : List Int, plA (ns.map D.int) = true
  | [] => rfl
  | n :: ns => by
    show (pl (D.int n) && plA (ns.map D.int)) = true
    rw [plA_int ns]; rfl
theorem lay_int : ∀ ns : List Int, PyData.canLayAll0 (ns.map PyData.int) = true
  | [] => rfl
  | n :: ns => by
    show (PyData.canLay0 (.int n) && PyData.canLayAll0 (ns.map PyData.int)) = true
    rw [lay_int ns]; rfl
theorem depth_int : ∀ ns : List Int, PyData.depthAll (ns.map PyData.int) = 0
  | [] => rfl
  | n :: ns => by
    show max (PyData.depth (.int n)) (PyData.depthAll (ns.map PyData.int)) = 0
    rw [depth_int ns]; rfl
theorem shapedL_int (ns : List Int) : SeqAt.shaped (.list (ns.map PyData.int)) = true := by
  refine Bool.and_eq_true_iff.mpr ⟨lay_int ns, decide_eq_true ?_⟩
  show PyData.depthAll (ns.map PyData.int) + 1 ≤ 64
  rw [depth_int]
  decide
theorem pyd_ints {M : Mem} {x : D} {ns : List Int} (h : LsD M x (ns.map .int)) : PyD M x (.list (ns.map PyData.int)) := .inr ⟨_, h, plA_int ns, by rw [toPyA_int]⟩
theorem eqv_int (a b : Int) : PyData.eqv (.int a) (.int b) = decide (a = b) := by simp [PyData.eqv]; rfl
section
variable {X : Cx} {sg : Sg} {M : Mem} {K : PySem.W.Frag} {Q : D → Mem → Prop} {Qb : Bool → Mem → Prop}
/-! ### truth -/
theorem wt_tru {e : Expr} {Qa : D → Mem → Prop} (h : WE X e sg M Qa) (hk : ∀ d M1, Qa d M1 → ∃ k, (∀ G H v, Wd X.K G M1 H → Rp X.K G v d → TruV X.K v H k) ∧ Qb k M1) (he : ∀ whole, isTrue e X.env whole = (do let v ← whole; standAt e.pos; holding [v] (truthy v)) := by intro _; rfl) : WT X e sg M Qb :=
  WT.of (pt_truth pe_w he) fun σ H G w s => (h σ H G w s).imp fun v H1 ⟨d, G1, M1, st, w1, r1, q⟩ => by
    obtain ⟨k, hk1, hk2⟩ := hk d M1 q
    exact ⟨k, hk1 G1 H1 v w1 r1, G1, M1, st, w1, hk2⟩
theorem et_truI {e : Expr} {i : Int} (h : EE X e sg M (.int i)) (he : ∀ whole, isTrue e X.env whole = (do let v ← whole; standAt e.pos; holding [v] (truthy v)) := by intro _; rfl) : ET X e sg M (i != 0) := wt_tru h (fun d M1 ⟨e1, e2⟩ => ⟨_, fun G H v w r => by
  subst e1
  cases r
  rfl, rfl, e2⟩) he
theorem et_truL {e : Expr} {x : D} {ds : List D} (h : EE X e sg M x) (hl : LsD M x ds) (he : ∀ whole, isTrue e X.env whole = (do let v ← whole; standAt e.pos; holding [v] (truthy v)) := by intro _; rfl) : ET X e sg M (!ds.isEmpty) := wt_tru h (fun d M1 ⟨e1, e2⟩ => ⟨_, fun G H v w r => by
  subst e1; subst e2
  obtain ⟨a, xs, rfl, h1, r1⟩ := hl.at w r
  refine .inl ⟨xs, SqL.of h1, ?_⟩
  cases r1 <;> rfl, rfl, e2⟩) he
/-! ### in, index -/
theorem od_in {x y : D} {d : PyData} {ds : List PyData} (hx : PyD M x d) (hy : PyD M y (.list ds)) (sd : SeqAt.shaped d = true) (se : SeqAt.shaped (.list ds) = true) (q : Q (.bl (ds.any fun z => PyData.eqv z d)) M) : OpD K (rInD K) x y M Q := fun G H v u R w rx ry k =>
  ⟨d, ds, hx.dp w rx, hy.dp w ry, sd, se, k _ _ (PV.here w (.bl _) q)⟩
theorem md_index {x : D} {ns : List Int} {n : Int} {j : Nat} (h : LsD M x (ns.map .int)) (hj : ns[j]? = some n) (hf : ∀ m, m < j → ns[m]? ≠ some n) (q : Q (.int (j : Int)) M) : MtD K (rIndexD K) x [.int n] M Q := fun G H v vs R w rv rs k => by
  obtain ⟨u, rfl, ru⟩ := rs.one
  cases ru
  have hd := (pyd_ints h).dp w rv
  obtain ⟨a, xs, rfl, h1, r1⟩ := h.at w rv
  refine ⟨a, _, _, ns.map PyData.int, j, .int n, rfl, rfl, hd, .int n, shapedL_int ns, rfl, by rw [List.getElem?_map, hj]; rfl, by rw [eqv_int]; simp, fun m z' hm hz => ?_, k _ _ (PV.here w (.int _) q)⟩
  rw [List.getElem?_map] at hz
  cases e : ns[m]? with
  | none => rw [e] at hz; cases hz
  | some y =>
    rw [e] at hz
    have hz := Option.some.inj hz
    subst hz
    rw [eqv_int]
    refine decide_eq_false fun z => ?_
    rw [z] at e
    exact hf m hm e
/-! ### min of pairs -/
def lexI (p q : Int × Int) : Bool := decide (p.1 < q.1 ∨ (p.1 = q.1 ∧ p.2 < q.2))
def minP (p : Int × Int) (ps : List (Int × Int)) : Int × Int := ps.foldl (fun a y => if lexI y a then y else a) p
def pPy (p : Int × Int) : PyData := .tuple [.int p.1, .int p.2]
theorem minP_py (p : Int × Int) : ∀ ps : List (Int × Int), PySem.W.minD (pPy p) (ps.map pPy) = pPy (minP p ps) := by
  intro ps
  unfold PySem.W.minD minP
  induction ps generalizing p with
  | nil => rfl
  | cons q r ih =>
    rw [List.map_cons, List.foldl_cons, List.foldl_cons, ← ih]
    congr 1
    show (if PySem.W.dataLt (pPy q) (pPy p) = true then pPy q else pPy p) = _
    unfold pPy
    rw [PySem.W.dataLt_ii]
    unfold lexI
    split <;> rfl
theorem toPyA_pr : ∀ ps : List (Int × Int), toPyA (ps.map DL.pairD) = ps.map pPy
  | [] => rfl
  | p :: ps => congrArg (pPy p :: ·) (toPyA_pr ps)
theorem alike_pr (ps : List (Int × Int)) : PySem.W.AlikeAll (ps.map pPy) := by
  refine ⟨fun x hx y hy => ?_, fun x hx => ?_⟩
  · obtain ⟨p, _, rfl⟩ := List.mem_map.mp hx
    obtain ⟨q, _, rfl⟩ := List.mem_map.mp hy
    unfold pPy
    simp [PySem.W.alike, PySem.W.alikeAll]
  · obtain ⟨p, _, rfl⟩ := List.mem_map.mp hx
    intro z; cases z
def rMinP (K : PySem.W.Frag) : List V → Hp → VK → Prop := fun vs H Q => ∃ (a : Addr) (xs : List V) (p : Int × Int) (ps : List (Int × Int)), vs = [V.ref a] ∧ SqL K H a xs ∧ DpAll K H xs ((p :: ps).map pPy) ∧ ∀ (i : Nat) (v : V), xs[i]? = some v → (p :: ps)[i]? = some (minP p ps) → Q v H
theorem cr_minP (hc : X.calm = true) (hu : X.A.units + 65 < cLine) : CallR X (.builtin "min") (rMinP X.K) := by
  intro pins s σ H vs us Q I r h
  obtain ⟨a, xs, p, ps, rfl, hs, ha, q⟩ := h
  obtain ⟨its, rv, hl, _⟩ := I.list hs
  rw [Vals.ref1 r]
  obtain ⟨as, hr⟩ := Dp.readsAll I _ _ its ha rv
  rw [List.map_cons] at hr
  have dep : PyData.depthAll (pPy p :: ps.map pPy) ≤ 1 := by
    have gen : ∀ l : List (Int × Int), PyData.depthAll (l.map pPy) ≤ 1 := by
      intro l
      induction l with
      | nil => exact Nat.zero_le _
      | cons q l ih =>
        show max (PyData.depth (pPy q)) (PyData.depthAll (l.map pPy)) ≤ 1
        have : PyData.depth (pPy q) ≤ 1 := Nat.le_of_ble_eq_true rfl
        omega
    exact gen (p :: ps)
  refine PySem.W.min_list_data (I.ok.hd hc) hl.isList hr (alike_pr (p :: ps)) (by omega) fun i v h' tk bs hi hrd hk => ?_
  rw [minP_py] at hrd
  have hi : its[i]? = some v := by simpa using hi
  obtain ⟨y, hy, ry⟩ : ∃ y, xs[i]? = some y ∧ RelV y v := by
    have hlt := (List.getElem?_eq_some_iff.mp hi).1
    have hl2 := rv.length
    cases e : xs[i]? with
    | none => rw [List.getElem?_eq_none_iff] at e; omega
    | some y =>
      obtain ⟨u, hu, ru⟩ := rv.get e
      rw [hi] at hu
      cases hu
      exact ⟨y, rfl, ru⟩
  obtain ⟨bs2, rd2, hlt2, _, _⟩ := PySem.W.readsAll_at hr i v hi
  have rd3 := PySem.W.reads_keeps hk rd2
  have ee := (Reads.unique rd3 _ _ hrd).1
  have hpi : (p :: ps)[i]? = some (minP p ps) := by
    rw [← List.map_cons] at hlt2 ee
    have hlt3 : i < (p :: ps).length := by rw [List.length_map] at hlt2; exact hlt2
    rw [List.getD_eq_getElem?_getD, List.getElem?_map, List.getElem?_eq_getElem hlt3] at ee
    rw [List.getElem?_eq_getElem hlt3]
    have ee : pPy (p :: ps)[i] = pPy (minP p ps) := ee
    unfold pPy at ee
    simp at ee
    exact congrArg some (Prod.ext ee.1 ee.2)
  exact ⟨y, H, I.kept (t' := tk) hk, ry, q i y hy hpi⟩
theorem cd_minP {x : D} {p : Int × Int} {ps : List (Int × Int)} (h : LsD M x ((p :: ps).map DL.pairD)) (q : Q (DL.pairD (minP p ps)) M) : ClD K (rMinP K) [x] M Q := fun G H vs R w r k => by
  obtain ⟨v, rfl, rv⟩ := r.one
  obtain ⟨a, xs, rfl, h1, r1⟩ := h.at w rv
  refine ⟨a, xs, p, ps, rfl, SqL.of h1, ?_, fun i v hv hp => k _ _ ?_⟩
  · have := dp_all w.sub r1 (plA_pairs (p :: ps))
    rw [toPyA_pr] at this
    exact this
  · obtain ⟨d, hd, rd⟩ := r1.getV hv
    rw [List.getElem?_map, hp] at hd
    have hd := Option.some.inj hd
    subst hd
    exact PV.here w rd q
end
/-! ### a comprehension's list that changes -/
section
variable {X : Cx} {sg : Sg} {M : Mem} {K : PySem.W.Frag} {Q : D → Mem → Prop} {tg : Expr} {pos : Pos} {Qi : List D → (Mem → Prop) → Mem → Prop}
theorem Wd.adoptM {G H : Hp} {M : Mem} {p : Addr} {xs : List V} {ds : List D} (w : Wd K G M H) (h : H p = some (.lst xs)) (g : G p = none) (m : M p = none) (r : RpA K G xs ds) (hb : ∀ u, M.b.H p = some u → M.b.M p = none → False) : Wd K G (updM M p (some (.lst ds))) H := by
  refine ⟨w.sub, fun x mo e => ?_, fun x u e e2 => ?_⟩
  · by_cases hx : x = p
    · subst hx
      rw [updM_same] at e
      cases e
      exact ⟨g, xs, h, r⟩
    · rw [updM_ne hx] at e
      exact w.mem _ _ e
  · have hx : x ≠ p := fun z => by subst z; exact hb u e e2
    obtain ⟨h1, h2, h3⟩ := w.hist x u e e2
    exact ⟨h1, h2, by rw [updM_ne hx]; exact h3⟩
theorem lc_runM {elt : Expr} {ifs : List Expr} {scope : Scope} {vs : List Nat} {wi : TI} (hw : ∀ (σ : L2.St) (H G : Hp) (R : It → Hp → Prop), Wd X.K G M H → SRp X.K G sg σ → (∀ J H' ds C G' M', Stp G M H G' M' H' → Wd X.K G' M' H' → ItD X.K G' J ds C → Qi ds C M' → R J H') → wi σ H R)
    (hif : ifs.length ≤ 1) (h : ∀ ds C M0, Qi ds C M0 → ∃ Pv : Nat → List D → Mem → Prop, Pv 0 [] M0 ∧ (∀ i acc M1, Pv i acc M1 → C M1 ∧ acc.length < sizeLine) ∧ (∀ i d acc M1, ds[i]? = some d → Pv i acc M1 → LcTurn X scope vs tg elt ifs sg d M1 (fun y M3 => Pv (i + 1) (acc ++ [y]) M3) (fun M3 => Pv (i + 1) acc M3)) ∧ ∀ acc M1, Pv ds.length acc M1 → ∀ p, M1 p = none → Q (.ptr p) (updM M1 p (some (.lst acc))))
    {σ : L2.St} {H G : Hp} {R : VK} (w : Wd X.K G M H) (s : SRp X.K G sg σ) (k : ∀ v H', PV X.K G M H Q v H' → R v H') : tLc wi (gB X scope tg) (testsB X scope ifs) (teB X scope elt) vs σ H R := by
  refine hw σ H G _ w s fun J H0 ds C G0 M0 st0 w0 it q => fun p hp => ?_
  obtain ⟨Pv, p0, pC, turn, fin⟩ := h ds C M0 q
  obtain ⟨g0, m0⟩ := w0.free hp
  have s0 := s.mono (st0.gx w)
  have st1 : Stp G0 M0 H0 G0 M0 (upd H0 p (.lst [])) := ⟨fun x o e m => ⟨by rw [upd_ne (ne_of_none e hp)]; exact e, rfl, m⟩, rfl⟩
  have hf0 : ∀ u, M0.b.H p = some u → M0.b.M p = none → False := fun u e m => w0.fresh hp e m
  refine ⟨fun i m H1 => m = ds.length - i ∧ i ≤ ds.length ∧ ∃ G1 M1 acc xs, Stp G0 M0 H0 G1 M1 H1 ∧ Gx G0 G1 ∧ Wd X.K G1 M1 H1 ∧ H1 p = some (.lst xs) ∧ G1 p = none ∧ M1 p = none ∧ RpA X.K G1 xs acc ∧ Pv i acc M1, ⟨ds.length, rfl, Nat.zero_le _, G0, M0, [], [], st1, Gx.refl _, w0.other g0 m0 hf0, upd_same, g0, m0, .nil, p0⟩, ?_⟩
  rintro i m H1 ⟨rfl, hle, G1, M1, acc, xs, st1, gx1, w1, h1, g1, m1, ra, p1⟩
  obtain ⟨stop, go⟩ := it G1 M1 H1 gx1 w1 (pC _ _ _ p1).1 i
  by_cases hlt : i < ds.length
  · obtain ⟨go1, yld⟩ := go ds[i] (List.getElem?_eq_getElem hlt)
    refine .inr ⟨go1, fun H2 => ∃ G2 M2 acc2 xs2, Stp G0 M0 H0 G2 M2 H2 ∧ Gx G0 G2 ∧ Wd X.K G2 M2 H2 ∧ H2 p = some (.lst xs2) ∧ G2 p = none ∧ M2 p = none ∧ RpA X.K G2 xs2 acc2 ∧ Pv (i + 1) acc2 M2, fun H2 n => ⟨ds.length - (i + 1), by omega, rfl, hlt, n⟩, fun x H' hy => ?_⟩
    obtain ⟨G2, st2, w2, rx⟩ := yld x H' hy
    obtain ⟨h2, g2, _⟩ := st2.keep p _ h1 m1
    obtain ⟨is, sg2, hv, hg, QB, ht, he, hf⟩ := turn i ds[i] acc M1 (List.getElem?_eq_getElem hlt) p1
    have gx2 : Gx G1 G2 := st2.gx w1
    have sw : SRp X.K G2 (wipeD sg vs) (wipe σ vs) := wipe_rp (s0.mono (gx1.trans gx2)) vs
    have body : ∀ σ2 : L2.St, SRp X.K G2 sg2 σ2 → ∀ b H3, PB X.K G2 M1 H' QB b H3 → if b = true then teB X scope elt σ2 H3 (fun y H4 => ∃ acc, H4 p = some (.lst acc) ∧ acc.length < sizeLine ∧ ∃ G2 M2 acc2 xs2, Stp G0 M0 H0 G2 M2 (upd H4 p (.lst (acc ++ [y]))) ∧ Gx G0 G2 ∧ Wd X.K G2 M2 (upd H4 p (.lst (acc ++ [y]))) ∧ (upd H4 p (.lst (acc ++ [y]))) p = some (.lst xs2) ∧ G2 p = none ∧ M2 p = none ∧ RpA X.K G2 xs2 acc2 ∧ Pv (i + 1) acc2 M2)
        else ∃ G2 M2 acc2 xs2, Stp G0 M0 H0 G2 M2 H3 ∧ Gx G0 G2 ∧ Wd X.K G2 M2 H3 ∧ H3 p = some (.lst xs2) ∧ G2 p = none ∧ M2 p = none ∧ RpA X.K G2 xs2 acc2 ∧ Pv (i + 1) acc2 M2 := fun σ2 s2 b H3 ⟨G3, M3, st3, w3, q3⟩ => by
      obtain ⟨h3, g3, m3⟩ := st3.keep p _ h2 m1
      have gx3 : Gx G2 G3 := st3.gx w2
      cases b with
      | true =>
        rw [if_pos rfl]
        intro t H5 C5 cl fp
        refine (he M3 q3 t H5 C5 cl fp σ2 H3 G3 w3 (s2.mono gx3)).imp fun y H4 ⟨d, G4, M4, st4, w4, r4, q4⟩ => ?_
        obtain ⟨h4, g4, m4⟩ := st4.keep p _ h3 m3
        have gx4 : Gx G3 G4 := st4.gx w3
        have g4' : G4 p = none := by rw [g4, g3, g2, g1]
        have stA := ((st1.trans st2).trans st3).trans st4
        refine ⟨xs, h4, by rw [ra.length]; exact (pC _ _ _ p1).2, G4, M4, acc ++ [d], xs ++ [y], ⟨fun z o e m => ?_, stA.base⟩, gx1.trans (gx2.trans (gx3.trans gx4)), w4.other g4' m4 (by rw [stA.base]; exact hf0), upd_same, g4', m4, (ra.mono (gx2.trans (gx3.trans gx4))).append (.cons r4 .nil), q4⟩
        obtain ⟨a1, a2, a3⟩ := stA.keep z o e m
        exact ⟨by rw [upd_ne (ne_of_none e hp)]; exact a1, a2, a3⟩
      | false =>
        rw [if_neg Bool.false_ne_true]
        exact ⟨G3, M3, acc, xs, (st1.trans st2).trans st3, gx1.trans (gx2.trans gx3), w3, h3, by rw [g3, g2, g1], m3, ra.mono (gx2.trans gx3), hf M3 q3⟩
    intro t H5 C5 cl fp
    refine hg t H5 C5 cl fp (wipe σ vs) H' G2 M1 x _ w2 sw rx fun σ2 s2 l2 o2 => ⟨wipe_same hv l2 o2, ?_⟩
    match ifs, hif, ht with
    | [], _, ht => exact body σ2 s2 true H' ⟨G2, M1, Stp.refl, w2, ht t H5 C5 cl fp⟩
    | [c], _, ht => exact fun t H5 C5 cl fp => (ht t H5 C5 cl fp σ2 H' G2 w2 s2).imp fun b H3 q => body σ2 s2 b H3 q
    | _ :: _ :: _, hif, _ => exact absurd hif (by simp)
  · have e : i = ds.length := by omega
    subst e
    have wM := w1.adoptM (ds := acc) h1 g1 m1 ra (by rw [st1.base]; exact hf0)
    refine .inl ⟨stop rfl, k _ _ (PV.base st0 ⟨.ptr p, G1, updM M1 p (some (.lst acc)), ⟨fun z o e m => ?_, st1.base⟩, wM, .ptr p, fin acc M1 p1 p m1⟩)⟩
    obtain ⟨a1, a2, a3⟩ := st1.keep z o e m
    exact ⟨a1, a2, by rw [updM_ne (ne_of_none e hp)]; exact a3⟩
abbrev LcOkM (X : Cx) (scope : Scope) (vs : List Nat) (tg elt : Expr) (ifs : List Expr) (sg : Sg) (Qi : List D → (Mem → Prop) → Mem → Prop) (Q : D → Mem → Prop) : Prop :=
  ∀ ds C M0, Qi ds C M0 → ∃ Pv : Nat → List D → Mem → Prop, Pv 0 [] M0 ∧ (∀ i acc M1, Pv i acc M1 → C M1 ∧ acc.length < sizeLine) ∧ (∀ i d acc M1, ds[i]? = some d → Pv i acc M1 → LcTurn X scope vs tg elt ifs sg d M1 (fun y M3 => Pv (i + 1) (acc ++ [y]) M3) (fun M3 => Pv (i + 1) acc M3)) ∧ ∀ acc M1, Pv ds.length acc M1 → ∀ p, M1 p = none → Q (.ptr p) (updM M1 p (some (.lst acc)))
theorem ws_setLcM {E : EndsD} (i : Nat) {y : Str} {py : Pos} {iter elt : Expr} {ifs : List Expr} {scope : Scope} {spos : Pos} (own : List (Str × Nat)) (hc : X.calm = true) (hN : X.N.Nodup) (ok : BlkOk X.N X.env.scope scope own) (hi : WI X tg iter sg M Qi) (h : LcOkM X scope (own.map (·.2)) tg elt ifs sg Qi fun d M1 => E.nx (sg.set i (some d)) M1) (hif : ifs.length ≤ 1 := by decide)
    (hy : X.N[i]? = some y := by rfl) (hyl : X.env.scope.names.lookup y = some .local := by rfl) (hsw : swapsWith (.ListComp elt [⟨tg, iter, ifs, 0⟩] scope pos) (some (.Name y py)) spos.line X.env = pure true := by exact sw_true rfl rfl rfl (by decide +kernel)) (hs : ∀ x, foldedSetIterable iter X.env x = pure x := by intro _; rfl) : WS X (.Assign [.Name y py] (.ListComp elt [⟨tg, iter, ifs, 0⟩] scope pos) spos) sg M E := by
  obtain ⟨wi, pi, hw⟩ := hi
  refine WS.of (ps_setLc hc hN hy hyl hsw pi ok blk_pg (blk_pts hif) blk_pe hs) fun σ H G w s => lc_runM (Q := fun d M1 => E.nx (sg.set i (some d)) M1) hw hif h w s fun v H' q => ?_
  obtain ⟨d, G1, M1, st, w1, r1, q⟩ := q
  exact ⟨_, G1, M1, st, w1, (s.mono (st.gx w)).set i r1, q⟩
end
section
variable {X : Cx} {sg : Sg} {M : Mem} {E : EndsD} {pos : Pos}
theorem ws_par3 (i j l : Nat) {x y z : Str} {a b c : Expr} {px py pz pt : Pos} {kt k2 : Nat} {pt2 : Pos} (hc : X.calm = true) (hN : X.N.Nodup) (h : WA X [a, b, c] sg M fun ds M1 => ∃ d e f, ds = [d, e, f] ∧ E.nx (((sg.set i (some d)).set j (some e)).set l (some f)) M1) (hi : X.N[i]? = some x := by rfl) (hj : X.N[j]? = some y := by rfl) (hl : X.N[l]? = some z := by rfl) (hij : i ≠ j := by decide) (hil : i ≠ l := by decide) (hjl : j ≠ l := by decide)
    (hx : X.env.scope.names.lookup x = some .local := by rfl) (hy : X.env.scope.names.lookup y = some .local := by rfl) (hz : X.env.scope.names.lookup z = some .local := by rfl) (hw : swappedStores [.Tuple [.Name x px, .Name y py, .Name z pz] kt pt] (.Tuple [a, b, c] k2 pt2) X.env = pure (some [x, y, z]) := by rfl) (hs : swapsWithSole [.Tuple [.Name x px, .Name y py, .Name z pz] kt pt] (.Tuple [a, b, c] k2 pt2) pos.line X.env = pure false := by rfl) : WS X (.Assign [.Tuple [.Name x px, .Name y py, .Name z pz] kt pt] (.Tuple [a, b, c] k2 pt2) pos) sg M E :=
  WS.of (ps_par3 hc hN hi hj hl hij hil hjl hx hy hz pa_w hw hs) fun σ H G w s => (h σ H G w s).imp fun vs H1 ⟨ds, G1, M1, st, w1, r1, d, e, f, eq, q⟩ => by
    subst eq
    cases r1 with
    | cons r1 r2 =>
      obtain ⟨v, u, rfl, rv, ru⟩ := r2.two
      exact ⟨_, v, u, rfl, _, G1, M1, st, w1, (((s.mono (st.gx w)).set i r1).set j rv).set l ru, q⟩
end
end DL
set_option Elab.async false
set_option linter.all false
set_option maxRecDepth 100000
set_option maxHeartbeats 4000000
namespace DL
open PySem L2 PyProof.Rows PySem.Spec
/-! ### zip of a tuple, a list and a tuple of one length -/
def Itz3 (K : PySem.W.Frag) (a b c : Addr) (n : Nat) : It :=
  ⟨fun i H => ∃ (xs ys zs : List V) (x y z : V), (SqT K H a xs ∧ SqL K H b ys ∧ SqT K H c zs) ∧ (xs.length = n ∧ ys.length = n ∧ zs.length = n) ∧ xs[i]? = some x ∧ ys[i]? = some y ∧ zs[i]? = some z,
    fun i H v H' => ∃ T x y z, v = .ref T ∧ H T = none ∧ H' = upd H T (.tup [x, y, z]) ∧ (∀ xs, SqT K H a xs → xs[i]? = some x) ∧ (∀ ys, SqL K H b ys → ys[i]? = some y) ∧ ∀ zs, SqT K H c zs → zs[i]? = some z,
    fun i H => ∃ xs ys zs : List V, (SqT K H a xs ∧ SqL K H b ys ∧ SqT K H c zs) ∧ (xs.length = n ∧ ys.length = n ∧ zs.length = n) ∧ i = n⟩
theorem turn_zip3 {P : Program} {w : World} {K : PySem.W.Frag} {elts : List Expr} {kk : Nat} {tpos : Pos} {n : Nat} {a b c z TI TO i1 i2 i3 : Addr} (S : ZipSep3 z TI TO i1 i2 i3 [i1, a] [i2, b] [i3, c]) (ha : a ≠ i1) (hb : b ≠ i2) (hcc : c ≠ i3) :
    Turn P w K (.Tuple elts kk tpos) (Itz3 K a b c n) [z, TI, TO, i1, i2, i3] z (fun i h => IsZip h z TI TO .none ∧ IsTupOf3 h TI (.ref i1) (.ref i2) (.ref i3) ∧ (∃ x y u, IsTupOf3 h TO x y u) ∧ h.IsTupleIter i1 a i ∧ h.IsListIter i2 b i ∧ h.IsTupleIter i3 c i) where
  mem := by simp
  obj := fun i h st x hx => by
    obtain ⟨hz, hTI, ⟨x1, x2, x3, hTO⟩, ⟨o1, e1, _, d1⟩, ⟨o2, e2, _, d2⟩, ⟨o3, e3, _, d3⟩⟩ := st
    have e' : x = z ∨ x = TI ∨ x = TO ∨ x = i1 ∨ x = i2 ∨ x = i3 := by simpa using hx
    rcases e' with q | q | q | q | q | q
    · rw [q]; exact ⟨_, hz, fun v q => nomatch q⟩
    · rw [q]; exact ⟨_, hTI, fun v q => nomatch q⟩
    · rw [q]; exact ⟨_, hTO, fun v q => nomatch q⟩
    · rw [q]; exact ⟨o1, e1, fun v q => by rw [d1] at q; cases q⟩
    · rw [q]; exact ⟨o2, e2, fun v q => by rw [d2] at q; cases q⟩
    · rw [q]; exact ⟨o3, e3, fun v q => by rw [d3] at q; cases q⟩
  keep := fun i h h' st k => by
    obtain ⟨hz, hTI, ⟨x1, x2, x3, hTO⟩, h1, h2, h3⟩ := st
    exact ⟨k z (by simp) _ hz, k TI (by simp) _ hTI, ⟨x1, x2, x3, k TO (by simp) _ hTO⟩, h1.at fun o q => k i1 (by simp) o q, h2.at fun o q => k i2 (by simp) o q, h3.at fun o q => k i3 (by simp) o q⟩
  item := by
    intro X hP hw hK hc i pins s σ H E I hf st hg
    subst hP hw hK
    obtain ⟨hz, hTI, ⟨x1, x2, x3, hTO⟩, h1, h2, h3⟩ := st
    obtain ⟨xs, ys, zs, x, y, u, ⟨hqx, hqy, hqz⟩, _, hx, hy, hu⟩ := hg
    obtain ⟨its, rv, p, _⟩ := I.tuple hqx
    obtain ⟨its2, rv2, p2, _⟩ := I.list hqy
    obtain ⟨its3, rv3, p3, _⟩ := I.tuple hqz
    obtain ⟨u1, hu1, ru1⟩ := rv.get hx
    obtain ⟨u2, hu2, ru2⟩ := rv2.get hy
    obtain ⟨u3, hu3, ru3⟩ := rv3.get hu
    have hh : X.A.in1.handled = none := I.ok.hd hc
    have hzl : z < s.heap.objs.size := Heap.lt_size hz
    have lt1 := (List.getElem?_eq_some_iff.mp hu1).1
    have lt2 := (List.getElem?_eq_some_iff.mp hu2).1
    have lt3 := (List.getElem?_eq_some_iff.mp hu3).1
    refine wpAny_pyNext_zipD3_item S (Draws.tuple hh i1 a ha its.toArray) (Draws.list hh i2 b hb its2.toArray) (Draws.tuple hh i3 c hcc its3.toArray) hz hTI hTO ⟨h1, p⟩ ⟨h2, p2.isList⟩ ⟨h3, p3⟩ (by simpa using lt1) (by simpa using lt2) (by simpa using lt3) fun v1 v2 v3 h' tk q1 q2 q3 z' TO' s1 s2 s3 hT hsz hk => ?_
    have e1 : v1 = u1 := by simpa [hu1] using q1.symm
    have e2 : v2 = u2 := by simpa [hu2] using q2.symm
    have e3 : v3 = u3 := by simpa [hu3] using q3.symm
    subst e1; subst e2; subst e3
    refine ⟨_, rfl, wpAny_letOwnedTupleGo_zip (s := { s with heap := h', toks := tk }) z' fun h'' z'' sb => ?_⟩
    have hT2 : h''.get? s.heap.objs.size = some { cls := .type "tuple", data := .seq #[v1, v2, v3] } := (sb.2 _ (Nat.ne_of_gt hzl)).trans hT
    have new : ObjOk X.prog X.w (upd H s.heap.objs.size (.tup [x, y, u])) h'' s.heap.objs.size (.tup [x, y, u]) :=
      ⟨by show 3 ≤ sizeLine; decide, [v1, v2, v3], .cons ru1 (.cons ru2 (.cons ru3 .nil)), ⟨_, hT2, rfl, _, rfl⟩⟩
    have I1 : Inv X pins σ (upd H s.heap.objs.size (.tup [x, y, u])) { s with heap := h'', toks := tk } :=
      I.turnedNew (t' := tk) (ch := [z, TI, TO, i1, i2, i3]) (fun c o hb q => (sb.2 c (fun q' => hb (by simp [q']))).trans (hk c o (fun q' => hb (by simp [q'])) (fun q' => hb (by simp [q'])) (fun q' => hb (by simp [q'])) (fun q' => hb (by simp [q'])) (fun q' => hb (by simp [q'])) q)) hf (Nat.le_refl _) new
    refine ⟨.ref s.heap.objs.size, _, I1, rfl, ⟨_, x, y, u, rfl, I.hok.fresh (Nat.le_refl _), rfl, fun l hl => by rw [I.tuple_inj hl hqx]; exact hx, fun l hl => by rw [I.list_inj hl hqy]; exact hy, fun l hl => by rw [I.tuple_inj hl hqz]; exact hu⟩, ⟨z'', ?_, ⟨v1, v2, v3, ?_⟩, ?_, ?_, ?_⟩, fun c hcm => ?_⟩
    · exact (sb.2 _ S.TIz).trans (hk _ _ S.TIz S.TITO S.TIi1 S.TIi2 S.TIi3 hTI)
    · exact (sb.2 _ S.TOz).trans TO'
    · exact s1.1.at fun o q => (sb.2 _ (Ne.symm S.zi1)).trans q
    · exact s2.1.at fun o q => (sb.2 _ (Ne.symm S.zi2)).trans q
    · exact s3.1.at fun o q => (sb.2 _ (Ne.symm S.zi3)).trans q
    · have hlt : c < s.heap.objs.size := by
        have e' : c = z ∨ c = TI ∨ c = TO ∨ c = i1 ∨ c = i2 ∨ c = i3 := by simpa using hcm
        rcases e' with q | q | q | q | q | q
        · rw [q]; exact hzl
        · rw [q]; exact Heap.lt_size hTI
        · rw [q]; exact Heap.lt_size hTO
        · rw [q]; obtain ⟨_, e1, _⟩ := h1; exact Heap.lt_size e1
        · rw [q]; obtain ⟨_, e2, _⟩ := h2; exact Heap.lt_size e2
        · rw [q]; obtain ⟨_, e3, _⟩ := h3; exact Heap.lt_size e3
      rw [upd_ne (Nat.ne_of_lt hlt)]
      exact (hf c hcm).1
  done := by
    intro X hP hw hK hc i pins s σ H E I hf st hg
    subst hP hw hK
    obtain ⟨hz, hTI, ⟨x1, x2, x3, hTO⟩, h1, h2, h3⟩ := st
    obtain ⟨xs, ys, zs, ⟨hqx, hqy, hqz⟩, ⟨lx, ly, lz⟩, hend⟩ := hg
    obtain ⟨its, rv, p, _⟩ := I.tuple hqx
    obtain ⟨its2, rv2, p2, _⟩ := I.list hqy
    obtain ⟨its3, rv3, p3, _⟩ := I.tuple hqz
    have hh : X.A.in1.handled = none := I.ok.hd hc
    have l1 := rv.length
    have l2 := rv2.length
    have l3 := rv3.length
    refine wpAny_pyNext_zipD3_end S (Draws.tuple hh i1 a ha its.toArray) (Draws.list hh i2 b hb its2.toArray) (Draws.tuple hh i3 c hcc its3.toArray) hz hTI hTO ⟨h1, p⟩ ⟨h2, p2.isList⟩ ⟨h3, p3⟩ (by simp; omega) (by simp; omega) (by simp; omega) (.inl (by simp; omega)) fun h' tk hk => ⟨rfl, I.turnedL (t' := tk) (ch := [z, TI, TO, i1, i2, i3]) (fun c o hb q =>
      hk c o (fun q' => hb (by simp [q'])) (fun q' => hb (by simp [q'])) (fun q' => hb (by simp [q'])) (fun q' => hb (by simp [q'])) (fun q' => hb (by simp [q'])) q) hf⟩
  self := fun A i s Q E st h => wpAny_pyIter_zip st.1 h
def iZip3 (K : PySem.W.Frag) (ta : TA) : TI := fun σ H R => ta σ H fun vs H1 => ∃ a b c xs ys zs n, vs = [.ref a, .ref b, .ref c] ∧ (SqT K H1 a xs ∧ SqL K H1 b ys ∧ SqT K H1 c zs) ∧ R (Itz3 K a b c n) H1
theorem pi_zip3 {X : Cx} {e e2 e3 : Expr} {ta : TA} {p pos tpos : Pos} {elts : List Expr} {kk : Nat} (hg : Gl X "zip") (hm : X.mg "zip" = none) (ha : PA X [e, e2, e3] ta)
    (hs : starEach [e, e2, e3] X.env = (false, eval e X.env) :: starEach [e2, e3] X.env := by rfl) (hpl : (backTo pos (starEach [e2, e3] X.env)).any (·.1) = false := by rfl) :
    PI X (.Tuple elts kk tpos) (.Call (.Name "zip" p) [e, e2, e3] [] pos) (iZip3 X.K ta) := by
  refine ⟨fun pins s σ H R I h => ?_⟩
  refine Call_ (ld_blt I hg hm PyProof.Rows.boot_zip (PyProof.Rows.callWith_type1 (thn (ha.run pos pins s σ H _ I h) fun us s1 ⟨vs, H1, I1, r1, q1⟩ => ?_) hs hpl))
  obtain ⟨a, b, c, xs, ys, zs, n, ex, ⟨hqx, hqy, hqz⟩, q⟩ := q1
  subst ex
  cases r1 with
  | cons r rr =>
    cases rr with
    | cons r' rr =>
      cases rr with
      | cons r'' rr =>
        cases rr
        cases r
        cases r'
        cases r''
        obtain ⟨its, rv, p1, _⟩ := I1.tuple hqx
        obtain ⟨its2, rv2, p2, _⟩ := I1.list hqy
        obtain ⟨its3, rv3, p3, _⟩ := I1.tuple hqz
        obtain ⟨o1, ho1, _⟩ := id p1
        obtain ⟨o3, ho3, _⟩ := id p3
        have la := Heap.lt_size ho1
        have lb : b < s1.heap.objs.size := p2.lt
        have lc := Heap.lt_size ho3
        refine zip_begins3 (begins_tuple a its.toArray) (begins_list b its2.toArray) (begins_tuple c its3.toArray) p1 p2.isList p3 fun h' hz hTI hTO g1 g2 g3 hsz hk => wpAny_pyIter_zip hz ?_
        have I2 : Inv X pins σ H1 { s1 with heap := h' } := I1.kept (t' := s1.toks) fun c o e => hk c o e
        refine ⟨s1.heap.objs.size + 5, [s1.heap.objs.size + 5, s1.heap.objs.size + 3, s1.heap.objs.size + 4, s1.heap.objs.size, s1.heap.objs.size + 1, s1.heap.objs.size + 2], _, _, H1, rfl, I2, turn_zip3 (zip_sep3 (by simpa using la) (by simpa using lb) (by simpa using lc)) (Nat.ne_of_lt la) (Nat.ne_of_lt (Nat.lt_succ_of_lt lb)) (Nat.ne_of_lt (Nat.lt_succ_of_lt (Nat.lt_succ_of_lt lc))), ⟨hz, hTI, ⟨_, _, _, hTO⟩, ⟨_, g1, rfl, rfl⟩, ⟨_, g2, rfl, rfl⟩, ⟨_, g3, rfl, rfl⟩⟩, fun x hx => ?_, q⟩
        have e' : x = s1.heap.objs.size + 5 ∨ x = s1.heap.objs.size + 3 ∨ x = s1.heap.objs.size + 4 ∨ x = s1.heap.objs.size ∨ x = s1.heap.objs.size + 1 ∨ x = s1.heap.objs.size + 2 := by simpa using hx
        have hle : s1.heap.objs.size ≤ x := by
          rcases e' with z | z | z | z | z | z
          · rw [z]; exact Nat.le_add_right _ _
          · rw [z]; exact Nat.le_add_right _ _
          · rw [z]; exact Nat.le_add_right _ _
          · rw [z]; exact Nat.le_refl _
          · rw [z]; exact Nat.le_add_right _ _
          · rw [z]; exact Nat.le_add_right _ _
        exact I1.fpOk hle (I1.hok.fresh hle)
def zip3D (ds gs es : List D) : List D := (List.range gs.length).map fun i => .tup [ds.getD i .non, gs.getD i .non, es.getD i .non]
section
variable {X : Cx} {sg : Sg} {M : Mem} {K : PySem.W.Frag} {Q : D → Mem → Prop} {tg : Expr} {pos : Pos} {Qi : List D → (Mem → Prop) → Mem → Prop}
theorem new_trip {G1 H1 : Hp} {M1 : Mem} {T : Addr} {x y z : V} {d e f : D} (w : Wd K G1 M1 H1) (hT : H1 T = none) (rx : Rp K G1 x d) (ry : Rp K G1 y e) (rz : Rp K G1 z f) : ∃ G', Stp G1 M1 H1 G' M1 (upd H1 T (.tup [x, y, z])) ∧ Wd K G' M1 (upd H1 T (.tup [x, y, z])) ∧ Rp K G' (.ref T) (.tup [d, e, f]) := by
  obtain ⟨w', st⟩ := w.new hT (o := .tup [x, y, z])
  exact ⟨_, st, w', .tup upd_same (RpA.mono (gx_new w hT) (.cons rx (.cons ry (.cons rz .nil))))⟩
theorem at_getD {ds : List D} {i : Nat} {d : D} (h : ds[i]? = some d) : ds.getD i .non = d := by rw [List.getD_eq_getElem?_getD, h]; rfl
theorem wi_zip3 {e e2 e3 : Expr} {p tpos : Pos} {elts : List Expr} {kk : Nat} (hm : X.mg "zip" = none) (h : WA X [e, e2, e3] sg M fun xs M1 => ∃ ds y gs es, xs = [.tup ds, y, .tup es] ∧ LsD M1 y gs ∧ ds.length = gs.length ∧ es.length = gs.length ∧ Qi (zip3D ds gs es) (fun M => LsD M y gs) M1) (hg : Gl X "zip" := by rfl)
    (hs : starEach [e, e2, e3] X.env = (false, eval e X.env) :: starEach [e2, e3] X.env := by exact star1 rfl) (hpl : (backTo pos (starEach [e2, e3] X.env)).any (·.1) = false := by exact starN rfl) : WI X (.Tuple elts kk tpos) (.Call (.Name "zip" p) [e, e2, e3] [] pos) sg M Qi := ⟨_, pi_zip3 hg hm pa_w hs hpl, fun σ H G R w s k => (h σ H G w s).imp fun vs H1 ⟨xs, G1, M1, st, w1, r1, ds, y, gs, es, e, l1, n1, n2, q⟩ => by
  subst e
  cases r1 with
  | cons ra r1 =>
    obtain ⟨v, u, rfl, rv, ru⟩ := r1.two
    cases ra with
    | @tup a xs _ h1 rx =>
      cases ru with
      | @tup c zs _ h3 rz =>
        obtain ⟨b, ys, rfl, h2, ry⟩ := l1.at w1 rv
        refine ⟨a, b, c, xs, ys, zs, gs.length, rfl, ⟨SqT.of (w1.sub _ _ h1), SqL.of h2, SqT.of (w1.sub _ _ h3)⟩, k _ _ _ _ G1 M1 st w1 (fun G2 M2 H2 gx w2 l2 i => ?_) q⟩
        obtain ⟨b', ys', e, h2', ry2⟩ := l2.at w2 (rv.mono gx)
        cases e
        have g1 : SqT X.K H2 a xs := SqT.of (w2.sub _ _ (gx _ _ h1))
        have g3 : SqT X.K H2 c zs := SqT.of (w2.sub _ _ (gx _ _ h3))
        have rx2 := rx.mono gx
        have rz2 := rz.mono gx
        have hzl : (zip3D ds gs es).length = gs.length := by unfold zip3D; rw [List.length_map, List.length_range]
        refine ⟨fun hi => ⟨xs, ys', zs, ⟨g1, SqL.of h2', g3⟩, ⟨by rw [rx2.length, n1], ry2.length, by rw [rz2.length, n2]⟩, by rw [hi, hzl]⟩, fun d hd => ?_⟩
        have hi : i < gs.length := by
          have := (List.getElem?_eq_some_iff.mp hd).1
          rw [hzl] at this
          exact this
        have ea : ds[i]? = some ds[i] := List.getElem?_eq_getElem (by omega)
        have eb : gs[i]? = some gs[i] := List.getElem?_eq_getElem hi
        have ec : es[i]? = some es[i] := List.getElem?_eq_getElem (by omega)
        have ed : d = .tup [ds[i], gs[i], es[i]] := by
          unfold zip3D at hd
          rw [List.getElem?_map, List.getElem?_range hi] at hd
          have hd : d = .tup [ds.getD i .non, gs.getD i .non, es.getD i .non] := (Option.some.inj hd).symm
          rw [at_getD ea, at_getD eb, at_getD ec] at hd
          exact hd
        subst ed
        obtain ⟨z1, hz1, rd1⟩ := rx2.get ea
        obtain ⟨z2, hz2, rd2⟩ := ry2.get eb
        obtain ⟨z3, hz3, rd3⟩ := rz2.get ec
        refine ⟨⟨xs, ys', zs, z1, z2, z3, ⟨g1, SqL.of h2', g3⟩, ⟨by rw [rx2.length, n1], ry2.length, by rw [rz2.length, n2]⟩, hz1, hz2, hz3⟩, fun t H' ⟨T, y1, y2, y3, e1, e2, e3, e4, e5, e6⟩ => ?_⟩
        subst e1; subst e3
        have q1 := (e4 xs g1).symm.trans hz1
        have q2 := (e5 ys' (SqL.of h2')).symm.trans hz2
        have q3 := (e6 zs g3).symm.trans hz3
        cases q1; cases q2; cases q3
        exact new_trip w2 e2 rd1 rd2 rd3⟩
/-! ### ints and None as data -/
def opD : Option Nat → D
  | none => .non
  | some n => .int (n : Int)
def opPy : Option Nat → PyData
  | none => .none
  | some n => .int (n : Int)
theorem toPyA_op : ∀ l : List (Option Nat), toPyA (l.map opD) = l.map opPy
  | [] => rfl
  | none :: l => congrArg (PyData.none :: ·) (toPyA_op l)
  | some n :: l => congrArg (PyData.int (n : Int) :: ·) (toPyA_op l)
theorem plA_op : ∀ l : List (Option Nat), plA (l.map opD) = true
  | [] => rfl
  | none :: l => plA_op l
  | some n :: l => plA_op l
theorem lay_op : ∀ l : List (Option Nat), PyData.canLayAll0 (l.map opPy) = true
  | [] => rfl
  | none :: l => by
    show (PyData.canLay0 .none && PyData.canLayAll0 (l.map opPy)) = true
    rw [lay_op l]; rfl
  | some n :: l => by
    show (PyData.canLay0 (.int n) && PyData.canLayAll0 (l.map opPy)) = true
    rw [lay_op l]; rfl
theorem depth_op : ∀ l : List (Option Nat), PyData.depthAll (l.map opPy) = 0
  | [] => rfl
  | none :: l => by
    show max (PyData.depth .none) (PyData.depthAll (l.map opPy)) = 0
    rw [depth_op l]; rfl
  | some n :: l => by
    show max (PyData.depth (.int n)) (PyData.depthAll (l.map opPy)) = 0
    rw [depth_op l]; rfl
theorem shapedL_op (l : List (Option Nat)) : SeqAt.shaped (.list (l.map opPy)) = true := by
  refine Bool.and_eq_true_iff.mpr ⟨lay_op l, decide_eq_true ?_⟩
  show PyData.depthAll (l.map opPy) + 1 ≤ 64
  rw [depth_op]
  decide
theorem pyd_ops {M : Mem} {x : D} {l : List (Option Nat)} (h : LsD M x (l.map opD)) : PyD M x (.list (l.map opPy)) := .inr ⟨_, h, plA_op l, by rw [toPyA_op]⟩
theorem eqv_op (o : Option Nat) (n : Nat) : PyData.eqv (opPy o) (.int (n : Int)) = decide (o = some n) := by
  cases o with
  | none => rfl
  | some m =>
    show PyData.eqv (.int (m : Int)) (.int (n : Int)) = _
    rw [eqv_int]
    exact decide_eq_decide.mpr ⟨fun h => by rw [Int.ofNat.inj h], fun h => by rw [Option.some.inj h]⟩
theorem md_indexO {x : D} {l : List (Option Nat)} {n : Nat} {j : Nat} (h : LsD M x (l.map opD)) (hj : l[j]? = some (some n)) (hf : ∀ m, m < j → l[m]? ≠ some (some n)) (q : Q (.int (j : Int)) M) : MtD K (rIndexD K) x [.int (n : Int)] M Q := fun G H v vs R w rv rs k => by
  obtain ⟨u, rfl, ru⟩ := rs.one
  cases ru
  have hd := (pyd_ops h).dp w rv
  obtain ⟨a, xs, rfl, h1, r1⟩ := h.at w rv
  refine ⟨a, _, _, l.map opPy, j, .int n, rfl, rfl, hd, .int n, shapedL_op l, rfl, by rw [List.getElem?_map, hj]; rfl, by rw [eqv_int]; simp, fun m z' hm hz => ?_, k _ _ (PV.here w (.int _) q)⟩
  rw [List.getElem?_map] at hz
  cases e : l[m]? with
  | none => rw [e] at hz; cases hz
  | some y =>
    rw [e] at hz
    have hz := Option.some.inj hz
    subst hz
    rw [eqv_op]
    exact decide_eq_false fun z => hf m hm (by rw [e, z])
end
section
variable {X : Cx} {scope : Scope} {elt : Expr} {sg : Sg} {x y z : Str} {px py pz pt : Pos} {kt : Nat}
/-- a turn whose target is three names -/
theorem turn3 (i j l : Nat) {ifs : List Expr} {vs : List Nat} {a b c : D} {M1 : Mem} {QT : D → Mem → Prop} {QF : Mem → Prop} (hv : i ∈ vs) (hw : j ∈ vs) (hu : l ∈ vs) (hc : X.calm = true) (hN : X.N.Nodup) (hx : scope.names.lookup x = some .local ∨ scope.names.lookup x = some .cell) (hi : X.N[i]? = some x) (hy : scope.names.lookup y = some .local ∨ scope.names.lookup y = some .cell) (hj : X.N[j]? = some y) (hz : scope.names.lookup z = some .local ∨ scope.names.lookup z = some .cell) (hl : X.N[l]? = some z)
    (QB : Bool → Mem → Prop) (ht : Blk X scope fun Y => WTs Y ifs ((((wipeD sg vs).set i (some a)).set j (some b)).set l (some c)) M1 QB) (he : ∀ M2, QB true M2 → Blk X scope fun Y => WE Y elt ((((wipeD sg vs).set i (some a)).set j (some b)).set l (some c)) M2 QT) (hf : ∀ M2, QB false M2 → QF M2) : LcTurn X scope vs (.Tuple [.Name x px, .Name y py, .Name z pz] kt pt) elt ifs sg (.tup [a, b, c]) M1 QT QF := by
  refine ⟨[i] ++ ([j] ++ ([l] ++ [])), (((wipeD sg vs).set i (some a)).set j (some b)).set l (some c), fun r hr => ?_, fun s H C cl fp => wg_tup hc (wgs_cons (blk_name (vs := vs) i hN hx hi s H C cl fp) (wgs_cons (blk_name (vs := vs) j hN hy hj s H C cl fp) (wgs_cons (blk_name (vs := vs) l hN hz hl s H C cl fp) wgs_nil))), QB, ht, he, hf⟩
  simp only [List.cons_append, List.nil_append, List.mem_cons, List.not_mem_nil, or_false] at hr
  rcases hr with rfl | rfl | rfl
  · exact hv
  · exact hw
  · exact hu
end
end DL
set_option Elab.async false
set_option linter.all false
set_option maxRecDepth 100000
set_option maxHeartbeats 4000000
namespace DL
open PySem L2 PyProof.Rows
def fst3 : D → D
  | .tup (a :: _) => a
  | _ => .non
def snd3 : D → D
  | .tup (_ :: b :: _) => b
  | _ => .non
def thd3 : D → D
  | .tup (_ :: _ :: c :: _) => c
  | _ => .non
section
variable {X : Cx} {scope : Scope} {iter elt : Expr} {sg : Sg} {M : Mem} {ds : List D} {x y z : Str} {px py pz pt pos : Pos} {kt : Nat} {K : PySem.W.Frag} {Q : D → Mem → Prop}
/-- [elt for x, y, z in iter] -/
theorem ee_lc3 (i j r : Nat) (f : D → D → D → D) (hc : X.calm = true) (hN : X.N.Nodup) (hi : WI X (.Tuple [.Name x px, .Name y py, .Name z pz] kt pt) iter sg M (ItQ ds M)) (hz : ds.length < sizeLine) (h : ∀ (l : Nat) (d : D), ds[l]? = some d → ∃ a b c, d = .tup [a, b, c] ∧ Blk X scope fun Y => EE Y elt ((((wipeD sg [i, j, r]).set i (some a)).set j (some b)).set r (some c)) M (f a b c))
    (ok : BlkOk X.N X.env.scope scope [(x, i), (y, j), (z, r)] := by exact blkOk_by (by with_unfolding_all rfl)) (hx : scope.names.lookup x = some .local ∨ scope.names.lookup x = some .cell := by first | exact Or.inl rfl | exact Or.inr rfl) (hy : scope.names.lookup y = some .local ∨ scope.names.lookup y = some .cell := by first | exact Or.inl rfl | exact Or.inr rfl) (hzz : scope.names.lookup z = some .local ∨ scope.names.lookup z = some .cell := by first | exact Or.inl rfl | exact Or.inr rfl) (hs : ∀ x, foldedSetIterable iter X.env x = pure x := by intro _; rfl) : EE X (.ListComp elt [⟨.Tuple [.Name x px, .Name y py, .Name z pz] kt pt, iter, [], 0⟩] scope pos) sg M (.lst (ds.map fun d => f (fst3 d) (snd3 d) (thd3 d))) := by
  refine we_lc [(x, i), (y, j), (z, r)] hc hN ok hi (fun ds' C M0 ⟨e1, e2, hC⟩ => ?_) (Nat.zero_le _) hs
  subst e1; subst e2
  refine ⟨fun l acc M1 => l ≤ ds'.length ∧ acc = (ds'.take l).map (fun d => f (fst3 d) (snd3 d) (thd3 d)) ∧ M1 = M0, ⟨Nat.zero_le _, rfl, rfl⟩, fun l acc M1 ⟨hj, e1, e2⟩ => ?_, fun l d acc M1 hd ⟨hj, e1, e2⟩ => ?_, fun acc M1 ⟨_, e1, e2⟩ => ?_⟩
  · subst e1; subst e2
    refine ⟨hC, ?_⟩
    rw [List.length_map, List.length_take]
    omega
  · subst e1; subst e2
    obtain ⟨a, b, c, ed, hb⟩ := h l d hd
    subst ed
    refine turn3 i j r (by simp) (by simp) (by simp) hc hN hx (ok.ix (x, i) (by simp)) hy (ok.ix (y, j) (by simp)) hzz (ok.ix (z, r) (by simp)) (fun b M2 => b = true ∧ M2 = M1) (fun _ _ _ _ _ => ⟨rfl, rfl⟩) (fun M2 ⟨_, e⟩ => ?_) (fun M2 ⟨e, _⟩ => Bool.noConfusion e)
    subst e
    exact fun s H C cl fp => (hb s H C cl fp).imp fun z M3 ⟨e3, e4⟩ => ⟨(List.getElem?_eq_some_iff.mp hd).1, by rw [e3, List.take_add_one, hd, List.map_append]; rfl, e4⟩
  · rw [List.take_length] at e1
    subst e1
    exact ⟨rfl, e2⟩
theorem od_repM {x : D} {ds : List D} {i : Int} (hx : LsD M x ds) (h1 : -(2 ^ 63) ≤ i) (h2 : i < 2 ^ 63) (h3 : ds.length * i.toNat ≤ sizeLine) (q : ∀ p, M p = none → Q (.ptr p) (updM M p (some (.lst (List.replicate i.toNat ds).flatten)))) : OpD K rRep x (.int i) M Q := fun G H v u R w rx ry k => by
  cases ry
  obtain ⟨a, xs, rfl, e1, r1⟩ := hx.at w rx
  exact ⟨a, i, xs, rfl, rfl, e1, h1, h2, by rw [r1.length]; exact h3, fun p hp => k _ _ (new_lstM w hp (r1.rep _) q)⟩
end
end DL
set_option Elab.async false
set_option linter.all false
set_option maxRecDepth 100000
set_option maxHeartbeats 4000000
namespace DL
open PySem L2 PyProof.Rows
/-! ### dicts whose keys are tuples of ints -/
def gt (kvs : List (List Int × D)) (k : List Int) : Option D := (kvs.find? fun p => decide (p.1 = k)).map (·.2)
def pt (kvs : List (List Int × D)) (k : List Int) (d : D) : List (List Int × D) := if kvs.any (fun p => decide (p.1 = k)) then kvs.map fun p => if p.1 = k then (p.1, d) else p else kvs ++ [(k, d)]
def inlK (ks : List Int) : List Key := ks.map Sum.inl
theorem inlK_kV (ks : List Int) : (inlK ks).map kV = ks.map V.int := by
  unfold inlK
  rw [List.map_map]
  rfl
theorem inlK_inj {a b : List Int} (h : inlK a = inlK b) : a = b := by
  have := congrArg (fun l => l.map kV) h
  rw [inlK_kV, inlK_kV] at this
  have i : ∀ x y : Int, V.int x = V.int y → x = y := fun x y e => by cases e; rfl
  exact List.map_inj_right (fun x y e => i x y e) |>.mp this
section
variable {K : PySem.W.Frag} {G : Hp}
theorem gt_rp : ∀ {kvs : List (List Int × D)} {vs : List (List Key × V)} (k : List Int), KVd K G vs (kvs.map fun p => (inlK p.1, p.2)) → (gt kvs k = none ∧ valV vs (inlK k) = none) ∨ ∃ d v, gt kvs k = some d ∧ valV vs (inlK k) = some v ∧ Rp K G v d
  | [], [], k, _ => .inl ⟨rfl, rfl⟩
  | [], _ :: _, k, h => by have := congrArg List.length h.1; simp at this
  | _ :: _, [], k, h => by have := congrArg List.length h.1; simp at this
  | p :: kvs, q :: vs, k, h => by
    obtain ⟨h1, h2⟩ := h
    have e1 : q.1 = inlK p.1 := (List.cons.inj h1).1
    have e2 := (List.cons.inj h1).2
    cases h2 with
    | cons r rs =>
      by_cases e : p.1 = k
      · right
        exact ⟨p.2, q.2, by unfold gt; rw [List.find?_cons_of_pos (by simpa using e)]; rfl, by unfold valV; rw [List.find?_cons_of_pos (by simp [e1, e])]; rfl, r⟩
      · have ne : ¬ q.1 = inlK k := fun z => e (inlK_inj (e1.symm.trans z))
        have := gt_rp (kvs := kvs) (vs := vs) k ⟨e2, rs⟩
        have g1 : gt (p :: kvs) k = gt kvs k := by unfold gt; rw [List.find?_cons_of_neg (by simpa using e)]
        have g2 : valV (q :: vs) (inlK k) = valV vs (inlK k) := by unfold valV; rw [List.find?_cons_of_neg (by simpa using ne)]
        rw [g1, g2]
        exact this
theorem any_rp {k : List Int} : ∀ {kvs : List (List Int × D)} {vs : List (List Key × V)}, vs.map (·.1) = kvs.map (fun p => inlK p.1) → (vs.any fun q => decide (q.1 = inlK k)) = kvs.any fun p => decide (p.1 = k)
  | [], [], _ => rfl
  | [], _ :: _, h => by simp at h
  | _ :: _, [], h => by simp at h
  | p :: kvs, q :: vs, h => by
    have e1 : q.1 = inlK p.1 := (List.cons.inj h).1
    have e2 := (List.cons.inj h).2
    rw [List.any_cons, List.any_cons, any_rp e2]
    congr 1
    refine decide_eq_decide.mpr ?_
    rw [e1]
    exact ⟨inlK_inj, fun z => by rw [z]⟩
theorem keys_in (kvs : List (List Int × D)) : (kvs.map fun p => (inlK p.1, p.2)).map (·.1) = kvs.map fun p => inlK p.1 := by rw [List.map_map]; rfl
theorem vals_in (kvs : List (List Int × D)) : (kvs.map fun p => (inlK p.1, p.2)).map (·.2) = kvs.map (·.2) := by rw [List.map_map]; rfl
theorem rep_rp {k : List Int} {v : V} {d : D} (r : Rp K G v d) : ∀ {kvs : List (List Int × D)} {vs : List (List Key × V)}, vs.map (·.1) = kvs.map (fun p => inlK p.1) → RpA K G (vs.map (·.2)) (kvs.map (·.2)) → (vs.map fun q => if q.1 = inlK k then (q.1, v) else q).map (·.1) = (kvs.map fun p => if p.1 = k then (p.1, d) else p).map (fun p => inlK p.1) ∧ RpA K G ((vs.map fun q => if q.1 = inlK k then (q.1, v) else q).map (·.2)) ((kvs.map fun p => if p.1 = k then (p.1, d) else p).map (·.2))
  | [], [], _, _ => ⟨rfl, .nil⟩
  | [], _ :: _, h, _ => by simp at h
  | _ :: _, [], h, _ => by simp at h
  | p :: kvs, q :: vs, h, h2 => by
    have e1 : q.1 = inlK p.1 := (List.cons.inj h).1
    have e2 := (List.cons.inj h).2
    cases h2 with
    | cons r0 rs =>
      obtain ⟨a, b⟩ := rep_rp (k := k) r e2 rs
      by_cases e : p.1 = k
      · have e' : q.1 = inlK k := by rw [e1, e]
        rw [List.map_cons, List.map_cons, List.map_cons, List.map_cons, List.map_cons, List.map_cons, if_pos e, if_pos e', a]
        exact ⟨by rw [e1], .cons r b⟩
      · have ne : ¬ q.1 = inlK k := fun z => e (inlK_inj (e1.symm.trans z))
        rw [List.map_cons, List.map_cons, List.map_cons, List.map_cons, List.map_cons, List.map_cons, if_neg e, if_neg ne, a]
        exact ⟨by rw [e1], .cons r0 b⟩
theorem pt_rp {kvs : List (List Int × D)} {vs : List (List Key × V)} {k : List Int} {v : V} {d : D} (h : KVd K G vs (kvs.map fun p => (inlK p.1, p.2))) (r : Rp K G v d) : KVd K G (putK vs (inlK k) v) ((pt kvs k d).map fun p => (inlK p.1, p.2)) := by
  obtain ⟨h1, h2⟩ := h
  rw [keys_in] at h1
  rw [vals_in] at h2
  have ha := any_rp (k := k) h1
  unfold KVd
  rw [keys_in, vals_in]
  unfold putK pt
  rw [ha]
  by_cases c : (kvs.any fun p => decide (p.1 = k)) = true
  · rw [if_pos c, if_pos c]
    exact rep_rp r h1 h2
  · rw [if_neg c, if_neg c, List.map_append, List.map_append, List.map_append, List.map_append, h1]
    exact ⟨rfl, h2.append (.cons r .nil)⟩
end
section
variable {X : Cx} {sg : Sg} {M : Mem} {o i e k v : Expr} {pos pos' : Pos} {Q : D → Mem → Prop} {E : EndsD}
/-- the tuple's own reading -/
theorem tup_at {K : PySem.W.Frag} {G H : Hp} {M : Mem} {u : V} {ks : List Int} (w : Wd K G M H) (r : Rp K G u (.tup (ks.map .int))) : ∃ b, u = .ref b ∧ H b = some (.tup ((inlK ks).map kV)) := by
  cases r with
  | @tup a xs _ h r =>
    have := r.ints
    subst this
    exact ⟨a, rfl, by rw [inlK_kV]; exact w.sub _ _ h⟩
theorem dit_at {K : PySem.W.Frag} {G H : Hp} {M : Mem} {p : Addr} {kvs : List (List Int × D)} (w : Wd K G M H) (hm : M p = some (.dit kvs)) : ∃ vs : List (List Key × V), H p = some (.dT vs) ∧ KVd K G vs (kvs.map fun q => (inlK q.1, q.2)) := (w.mem _ _ hm).2
/-- d[k] -/
theorem we_dget (hu : X.A.units + 1 < cLine) (h : WE X o sg M fun x M1 => WE X i sg M1 fun y M2 => ∃ p kvs ks d, x = .ptr p ∧ y = .tup (ks.map .int) ∧ M2 p = some (.dit kvs) ∧ gt kvs ks = some d ∧ Q d M2) (hs : NoSl i := by intro _ _; rfl) : WE X (.Subscript o i pos) sg M Q :=
  WE.of (pe_dget hu pe_w pe_w hs) fun σ H G w s => (h σ H G w s).imp fun x H1 ⟨dx, G1, M1, st, w1, r1, q1⟩ => (q1 σ H1 G1 w1 (s.mono (st.gx w))).imp fun u H2 ⟨dy, G2, M2, st2, w2, r2, p, kvs, ks, d, e1, e2, hm, hg, q⟩ => by
    subst e1; subst e2
    cases r1
    obtain ⟨b, rfl, hb⟩ := tup_at w2 r2
    obtain ⟨vs, hH, kv⟩ := dit_at w2 hm
    rcases gt_rp ks kv with ⟨z, _⟩ | ⟨d', v', g1, g2, r⟩
    · rw [hg] at z; cases z
    · rw [hg] at g1
      cases g1
      exact ⟨p, v', rfl, by rw [← g2]; exact DGet.t hH hb, d, G2, M2, st.trans st2, w2, r, q⟩
/-- k in d, k not in d -/
theorem we_din (hu : X.A.units + 1 < cLine) (h : WE X i sg M fun y M1 => WE X o sg M1 fun x M2 => ∃ p kvs ks, x = .ptr p ∧ y = .tup (ks.map .int) ∧ M2 p = some (.dit kvs) ∧ Q (.bl (gt kvs ks).isSome) M2) (hm : behindInMarks .In o = false := by first | exact nomark _ | rfl) : WE X (.Compare i [.In] [o] pos) sg M Q :=
  WE.of (pe_cmp (pc_din hu pe_w pe_w) hm) fun σ H G w s => (h σ H G w s).imp fun y H1 ⟨dy, G1, M1, st, w1, r1, q1⟩ => (q1 σ H1 G1 w1 (s.mono (st.gx w))).imp fun x H2 ⟨dx, G2, M2, st2, w2, r2, p, kvs, ks, e1, e2, hm, q⟩ => by
    subst e1; subst e2
    cases r2
    obtain ⟨b, rfl, hb⟩ := tup_at w2 (r1.mono (st2.gx w1))
    obtain ⟨vs, hH, kv⟩ := dit_at w2 hm
    refine ⟨p, valV vs (inlK ks), rfl, DGet.t hH hb, .bl (gt kvs ks).isSome, G2, M2, st.trans st2, w2, ?_, q⟩
    rcases gt_rp ks kv with ⟨z1, z2⟩ | ⟨d', v', g1, g2, r⟩
    · rw [z1, z2]; exact .bl _
    · rw [g1, g2]; exact .bl _
theorem we_dnin (hu : X.A.units + 1 < cLine) (h : WE X i sg M fun y M1 => WE X o sg M1 fun x M2 => ∃ p kvs ks, x = .ptr p ∧ y = .tup (ks.map .int) ∧ M2 p = some (.dit kvs) ∧ Q (.bl (!(gt kvs ks).isSome)) M2) (hm : behindInMarks .NotIn o = false := by first | exact nomark _ | rfl) : WE X (.Compare i [.NotIn] [o] pos) sg M Q :=
  WE.of (pe_cmp (pc_dnotin hu pe_w pe_w) hm) fun σ H G w s => (h σ H G w s).imp fun y H1 ⟨dy, G1, M1, st, w1, r1, q1⟩ => (q1 σ H1 G1 w1 (s.mono (st.gx w))).imp fun x H2 ⟨dx, G2, M2, st2, w2, r2, p, kvs, ks, e1, e2, hm, q⟩ => by
    subst e1; subst e2
    cases r2
    obtain ⟨b, rfl, hb⟩ := tup_at w2 (r1.mono (st2.gx w1))
    obtain ⟨vs, hH, kv⟩ := dit_at w2 hm
    refine ⟨p, valV vs (inlK ks), rfl, DGet.t hH hb, .bl (!(gt kvs ks).isSome), G2, M2, st.trans st2, w2, ?_, q⟩
    rcases gt_rp ks kv with ⟨z1, z2⟩ | ⟨d', v', g1, g2, r⟩
    · rw [z1, z2]; exact .bl _
    · rw [g1, g2]; exact .bl _
/-- d[k] = e -/
theorem ws_dput (hu : X.A.units + 1 < cLine) (h : WE X e sg M fun z M1 => WE X o sg M1 fun x M2 => WE X i sg M2 fun y M3 => ∃ p kvs ks, x = .ptr p ∧ y = .tup (ks.map .int) ∧ M3 p = some (.dit kvs) ∧ kvs.length < sizeLine ∧ E.nx sg (updM M3 p (some (.dit (pt kvs ks z))))) (hs : swapsWith e (some (.Subscript o i pos')) pos.line X.env = pure false := by rfl) : WS X (.Assign [.Subscript o i pos'] e pos) sg M E :=
  WS.of (ps_dput hu pe_w pe_w pe_w hs) fun σ H G w s => (h σ H G w s).imp fun z H1 ⟨dz, G1, M1, st, w1, r1, q1⟩ => (q1 σ H1 G1 w1 (s.mono (st.gx w))).imp fun x H2 ⟨dx, G2, M2, st2, w2, r2, q2⟩ => (q2 σ H2 G2 w2 (s.mono ((st.trans st2).gx w))).imp fun y H3 ⟨dy, G3, M3, st3, w3, r3, p, kvs, ks, e1, e2, hm, hl, q⟩ => by
    subst e1; subst e2
    have r2' := r2.mono (st3.gx w2)
    cases r2'
    obtain ⟨b, rfl, hb⟩ := tup_at w3 r3
    obtain ⟨vs, hH, kv⟩ := dit_at w3 hm
    have hlen : vs.length = kvs.length := by
      have := congrArg List.length kv.1
      rw [keys_in, List.length_map, List.length_map] at this
      exact this
    obtain ⟨w', stw⟩ := w3.write hm (o := .dT (putK vs (inlK ks) z)) (mo := .dit (pt kvs ks dz)) ⟨_, upd_same, pt_rp kv (r1.mono ((st2.trans st3).gx w1))⟩
    exact ⟨p, _, rfl, DPut.t hH hb (by omega), sg, G3, _, (((st.trans st2).trans st3).trans stw), w', s.mono ((((st.trans st2).trans st3).trans stw).gx w), q⟩
/-- {k: v} -/
def tDispT1 (tk tv : TE) : TE := fun σ H Q => ∀ p, H p = none → tk σ (upd H p (.dT [])) fun x H1 => tv σ H1 fun y H2 => ∃ b ks, x = .ref b ∧ H2 p = some (.dT []) ∧ H2 b = some (.tup (ks.map kV)) ∧ Q (.ref p) (upd H2 p (.dT [(ks, y)]))
theorem pe_dispT1 {tk tv : TE} (hu : X.A.units + 1 < cLine) (hk : PE X k tk) (hv : PE X v tv) : PE X (.Dict [some k] [v] pos) (tDispT1 tk tv) := by
  refine ⟨fun pins s σ H Q I q => ?_⟩
  have hn := I.hok.fresh (Nat.le_refl s.heap.objs.size)
  have I1 := I.laid (a := s.heap.objs.size) (o := .dT []) (h' := s.heap.push { cls := .type "dict", data := .dict #[] }) (t' := s.toks) (fun _ _ q => Heap.get?_push_of_some _ q) (Nat.le_refl _) (dt_empty s.heap I.big)
  have hz := zip_pairTrees [some k] [v] X.env pos rfl rfl
  rw [arm_eval_Dict, hz, dictDisplay_pairs (pairTrees [some k] [v] X.env pos) (by intro z; cases z) (Nat.le_of_ble_eq_true rfl)]
  refine wpAny_bind (wpAny_standAt (wpAny_bind (wpAny_subDictH (knd := tupleKind (mixKind X.prog X.w)) (Q := fun d s' => wpAny (model X.prog X.w) X.A (pure (Value.ref d)) (EP X pins σ Q) X.xe s') (by show X.A.units < cLine; omega) (Nat.le_of_ble_eq_true rfl) ?_)))
  refine pairTrees_cons_walk (thn (hk.run pins _ σ _ _ I1 (q _ hn)) fun u s1 ⟨x, H1, I2, rx, q1⟩ => thn (hv.run pins s1 σ H1 _ I2 q1) fun u2 s2 ⟨y, H2, I3, ry, b, ks, e1, e2, e3, q2⟩ => pairTrees_nil_walk ?_)
  subst e1
  obtain rfl : u = Value.ref b := rx
  obtain ⟨z, hd, xs, rel, dd⟩ := dt_of I3.hok e2
  cases rel
  refine ⟨[(ks, b, u2)], ⟨rfl, rfl, key_of I3.hok e3, trivial⟩, dd, fun h' tk dd' hs => wpAny_pure ⟨.ref s.heap.objs.size, _, ?_, rfl, q2⟩⟩
  obtain ⟨qo, es, ep, hq, h2, h3, h4, _, h5⟩ := dd'
  refine d_write I3 (by rw [e2]; exact True.intro) hs ⟨qo, hq⟩ ⟨by show 1 ≤ sizeLine; decide, hd, [(ks, b, u2)], .cons ⟨rfl, ?_, ry⟩ .nil, qo, es, ep, hq, h2, h3, h4, h5⟩
  rw [upd_ne (ne_of e3 e2 (fun z => nomatch z))]
  exact e3
theorem we_dnew (hu : X.A.units + 1 < cLine) (h : ∀ p, M p = none → WE X k sg (updM M p (some (.dit []))) fun x M1 => WE X v sg M1 fun y M2 => ∃ ks, x = .tup (ks.map .int) ∧ M2 p = some (.dit []) ∧ Q (.ptr p) (updM M2 p (some (.dit [(ks, y)])))) : WE X (.Dict [some k] [v] pos) sg M Q :=
  WE.of (pe_dispT1 hu pe_w pe_w) fun σ H G w s => fun p hp => by
    obtain ⟨g0, m0⟩ := w.free hp
    obtain ⟨w0, st0⟩ := w.newM hp (o := .dT []) (mo := .dit []) ⟨[], upd_same, rfl, .nil⟩
    refine (h p m0 σ _ G w0 (s.mono (st0.gx w))).imp fun x H1 ⟨dx, G1, M1, st1, w1, r1, q1⟩ => (q1 σ H1 G1 w1 (s.mono ((st0.trans st1).gx w))).imp fun y H2 ⟨dy, G2, M2, st2, w2, r2, ks, e1, hm, q⟩ => ?_
    subst e1
    obtain ⟨b, rfl, hb⟩ := tup_at w2 (r1.mono (st2.gx w1))
    obtain ⟨vs, hH, kv⟩ := dit_at w2 hm
    have hv : vs = [] := by
      have := congrArg List.length kv.1
      rw [List.length_map] at this
      exact List.length_eq_zero_iff.mp this
    subst hv
    obtain ⟨w', stw⟩ := w2.write hm (o := .dT [(inlK ks, y)]) (mo := .dit [(ks, dy)]) ⟨_, upd_same, rfl, .cons r2 .nil⟩
    exact ⟨b, inlK ks, rfl, hH, hb, .ptr p, G2, _, (((st0.trans st1).trans st2).trans stw), w', .ptr p, q⟩
/-- < of tuples of ints -/
theorem od_ltT {K : PySem.W.Frag} {ns ms : List Int} (q : Q (.bl (HT.lexLt ns ms)) M) : OpD K (rLtT K) (.tup (ns.map .int)) (.tup (ms.map .int)) M Q := fun G H v u R w rx ry k => by
  cases rx with
  | @tup a xs _ h1 r1 =>
    cases ry with
    | @tup b ys _ h2 r2 =>
      have e1 := r1.ints
      have e2 := r2.ints
      subst e1; subst e2
      exact ⟨a, b, ns, ms, rfl, rfl, SqT.of (w.sub _ _ h1), SqT.of (w.sub _ _ h2), k _ _ (PV.here w (.bl _) q)⟩
end
end DL
set_option Elab.async false
set_option linter.all false
set_option maxRecDepth 100000
set_option maxHeartbeats 4000000
namespace DL
open PySem L2 PyProof.Rows
def d4 (i : Nat) : D → D
  | .tup ds => ds.getD i .non
  | _ => .non
section
variable {X : Cx} {scope : Scope} {iter elt c : Expr} {sg : Sg} {M : Mem} {ds : List D} {x y z u : Str} {px py pz pu pt pos : Pos} {kt : Nat}
/-- [elt for x, y, z, u in iter if c] -/
theorem ee_lc4if (i j r l : Nat) (p : D → Bool) (f : D → D) (hc : X.calm = true) (hN : X.N.Nodup) (hi : WI X (.Tuple [.Name x px, .Name y py, .Name z pz, .Name u pu] kt pt) iter sg M (ItQ ds M)) (hz : ds.length < sizeLine)
    (h : ∀ (m : Nat) (d : D), ds[m]? = some d → ∃ a b e g, d = .tup [a, b, e, g] ∧ (Blk X scope fun Y => ET Y c (((((wipeD sg [i, j, r, l]).set i (some a)).set j (some b)).set r (some e)).set l (some g)) M (p d)) ∧ (p d = true → Blk X scope fun Y => EE Y elt (((((wipeD sg [i, j, r, l]).set i (some a)).set j (some b)).set r (some e)).set l (some g)) M (f d)))
    (ok : BlkOk X.N X.env.scope scope [(x, i), (y, j), (z, r), (u, l)] := by exact blkOk_by (by with_unfolding_all rfl)) (hx : scope.names.lookup x = some .local ∨ scope.names.lookup x = some .cell := by first | exact Or.inl rfl | exact Or.inr rfl) (hy : scope.names.lookup y = some .local ∨ scope.names.lookup y = some .cell := by first | exact Or.inl rfl | exact Or.inr rfl) (hzz : scope.names.lookup z = some .local ∨ scope.names.lookup z = some .cell := by first | exact Or.inl rfl | exact Or.inr rfl) (hu : scope.names.lookup u = some .local ∨ scope.names.lookup u = some .cell := by first | exact Or.inl rfl | exact Or.inr rfl) (hs : ∀ x, foldedSetIterable iter X.env x = pure x := by intro _; rfl) : EE X (.ListComp elt [⟨.Tuple [.Name x px, .Name y py, .Name z pz, .Name u pu] kt pt, iter, [c], 0⟩] scope pos) sg M (.lst ((ds.filter p).map f)) := by
  refine we_lc [(x, i), (y, j), (z, r), (u, l)] hc hN ok hi (fun ds' C M0 ⟨e1, e2, hC⟩ => ?_) (Nat.le_refl _) hs
  subst e1; subst e2
  obtain ⟨Pv, a, b, t, d⟩ := lc_pure (X := X) (tg := .Tuple [.Name x px, .Name y py, .Name z pz, .Name u pu] kt pt) (elt := elt) (ifs := [c]) (scope := scope) (vs := [i, j, r, l]) (sg := sg) (C := C) (M0 := M0) p f hC hz fun m d hd => by
    obtain ⟨a, b, e, g, ed, h1, h2⟩ := h m d hd
    subst ed
    refine ⟨[i] ++ ([j] ++ ([r] ++ ([l] ++ []))), ((((wipeD sg [i, j, r, l]).set i (some a)).set j (some b)).set r (some e)).set l (some g), fun q hq => by simpa using hq, fun s H C cl fp => wg_tup hc (wgs_cons (blk_name (vs := [i, j, r, l]) i hN hx (ok.ix (x, i) (by simp)) s H C cl fp) (wgs_cons (blk_name (vs := [i, j, r, l]) j hN hy (ok.ix (y, j) (by simp)) s H C cl fp) (wgs_cons (blk_name (vs := [i, j, r, l]) r hN hzz (ok.ix (z, r) (by simp)) s H C cl fp) (wgs_cons (blk_name (vs := [i, j, r, l]) l hN hu (ok.ix (u, l) (by simp)) s H C cl fp) wgs_nil)))), ?_, h2⟩
    exact h1
  exact ⟨Pv, a, b, t, fun acc M1 hp => by
    obtain ⟨e1, e2⟩ := d acc M1 hp
    subst e1
    exact ⟨rfl, e2⟩⟩
end
end DL
set_option Elab.async false
set_option linter.all false
set_option maxRecDepth 100000
set_option maxHeartbeats 4000000
namespace DL
open PySem L2 PyProof.Rows
section
variable {prog : Program} {w : World} {A : Around} {E : Value → Shared → Prop} {s : Shared} {l : Addr} {its : List Value} {ns : List Int}
theorem sum_rawT {Q : Value → Shared → Prop} (hh : A.handled = none) (hl : s.heap.IsTuple l its.toArray) (hi : IntsAre its ns)
    (h : ∀ h' tk t', (∀ b o, s.heap.get? b = some o → h'.get? b = some o) → Q (.int ns.sum t') { s with heap := h', toks := tk }) : wpAny (model prog w) A (call (.builtin "sum") [.ref l]) Q E s := by
  obtain ⟨xs, e⟩ := hi.allInts.items
  have hn : numsOf (intItems xs).toList = ns := by rw [← e]; exact hi.numsOf
  rw [nums_intItems] at hn
  rw [e] at hl
  have hlt : l < s.heap.objs.size := by obtain ⟨_, e, _⟩ := hl; exact Heap.lt_size e
  refine call_sum_walkG (wpAny_pyIter_tuple hl ?_)
  refine ⟨_, _, _, _, _, _, numAt xs, rfl, Walks.tuple (A := A.in1) hh s.heap.objs.size l (Nat.ne_of_lt hlt) (intItems xs), ⟨⟨_, Heap.get?_push_size _ rfl, rfl, rfl⟩, hl.at fun o e => Heap.get?_push_of_some _ e⟩, fun b hb => ?_, (fun _ _ => intItems_at), fun h' tk t' hk => ?_⟩
  · show b < (s.heap.push _).objs.size
    rw [Heap.size_push]
    rcases List.mem_cons.mp hb with rfl | hb
    · exact Nat.lt_succ_self _
    · rw [List.mem_singleton.mp hb]
      exact Nat.lt_succ_of_lt hlt
  · have := h h' tk t' fun b o e => hk b o (fun hm => by
      have hb := List.mem_singleton.mp hm
      have := Heap.lt_size e
      rw [hb] at this
      exact Nat.lt_irrefl _ this) (Heap.get?_push_of_some _ e)
    rw [← hn] at this
    have hz : (intItems xs).size = xs.size := by simp [intItems]
    rw [hz, preSum_eq, List.take_of_length_le (by simp)]
    exact this
end
def rSumT (K : PySem.W.Frag) : List V → Hp → VK → Prop := fun vs H Q => ∃ (a : Addr) (ns : List Int), vs = [V.ref a] ∧ SqT K H a (ns.map V.int) ∧ Q (.int ns.sum) H
section
variable {X : Cx}
theorem cr_sumT (hc : X.calm = true) : CallR X (.builtin "sum") (rSumT X.K) := by
  intro pins s σ H vs us Q I r h
  obtain ⟨a, ns, rfl, hs, q⟩ := h
  obtain ⟨its, rv, hl, _⟩ := I.tuple hs
  rw [Vals.ref1 r]
  exact sum_rawT (I.ok.hd hc) hl rv.ints fun h' tk t' hk => ⟨.int _, H, I.kept hk, ⟨_, rfl⟩, q⟩
theorem cd_sumT {K : PySem.W.Frag} {M : Mem} {Q : D → Mem → Prop} {ns : List Int} (q : Q (.int ns.sum) M) : ClD K (rSumT K) [.tup (ns.map .int)] M Q := fun G H vs R w r k => by
  obtain ⟨v, rfl, rv⟩ := r.one
  cases rv with
  | @tup a xs _ h1 r1 =>
    have e1 := r1.ints
    subst e1
    exact ⟨a, ns, rfl, SqT.of (w.sub _ _ h1), k _ _ (PV.here w (.int _) q)⟩
end
end DL
set_option Elab.async false
set_option linter.all false
set_option maxRecDepth 100000
set_option maxHeartbeats 4000000
namespace DL
open PySem L2 PyProof.Rows
section
variable {X : Cx} {sg : Sg} {M : Mem} {o i : Expr} {pos : Pos} {Qb : Bool → Mem → Prop}
/-! ### k in d, k not in d, as tests -/
theorem wt_din (hu : X.A.units + 1 < cLine) (h : WE X i sg M fun y M1 => WE X o sg M1 fun x M2 => ∃ p kvs ks, x = .ptr p ∧ y = .tup (ks.map .int) ∧ M2 p = some (.dit kvs) ∧ Qb (gt kvs ks).isSome M2) (hm : behindInMarks .In o = false := by first | exact nomark _ | rfl) : WT X (.Compare i [.In] [o] pos) sg M Qb :=
  WT.of (pt_cmp (pc_din hu pe_w pe_w) hm) fun σ H G w s => (h σ H G w s).imp fun y H1 ⟨dy, G1, M1, st, w1, r1, q1⟩ => (q1 σ H1 G1 w1 (s.mono (st.gx w))).imp fun x H2 ⟨dx, G2, M2, st2, w2, r2, p, kvs, ks, e1, e2, hm, q⟩ => by
    subst e1; subst e2
    cases r2
    obtain ⟨b, rfl, hb⟩ := tup_at w2 (r1.mono (st2.gx w1))
    obtain ⟨vs, hH, kv⟩ := dit_at w2 hm
    refine ⟨p, valV vs (inlK ks), rfl, DGet.t hH hb, (gt kvs ks).isSome, ?_, G2, M2, st.trans st2, w2, q⟩
    rcases gt_rp ks kv with ⟨z1, z2⟩ | ⟨d', v', g1, g2, r⟩
    · rw [z1, z2]; rfl
    · rw [g1, g2]; rfl
theorem wt_dnin (hu : X.A.units + 1 < cLine) (h : WE X i sg M fun y M1 => WE X o sg M1 fun x M2 => ∃ p kvs ks, x = .ptr p ∧ y = .tup (ks.map .int) ∧ M2 p = some (.dit kvs) ∧ Qb (!(gt kvs ks).isSome) M2) (hm : behindInMarks .NotIn o = false := by first | exact nomark _ | rfl) : WT X (.Compare i [.NotIn] [o] pos) sg M Qb :=
  WT.of (pt_cmp (pc_dnotin hu pe_w pe_w) hm) fun σ H G w s => (h σ H G w s).imp fun y H1 ⟨dy, G1, M1, st, w1, r1, q1⟩ => (q1 σ H1 G1 w1 (s.mono (st.gx w))).imp fun x H2 ⟨dx, G2, M2, st2, w2, r2, p, kvs, ks, e1, e2, hm, q⟩ => by
    subst e1; subst e2
    cases r2
    obtain ⟨b, rfl, hb⟩ := tup_at w2 (r1.mono (st2.gx w1))
    obtain ⟨vs, hH, kv⟩ := dit_at w2 hm
    refine ⟨p, valV vs (inlK ks), rfl, DGet.t hH hb, !(gt kvs ks).isSome, ?_, G2, M2, st.trans st2, w2, q⟩
    rcases gt_rp ks kv with ⟨z1, z2⟩ | ⟨d', v', g1, g2, r⟩
    · rw [z1, z2]; rfl
    · rw [g1, g2]; rfl
end
theorem updM_comm {M : Mem} {a b : Addr} {o o' : Option MO} (h : a ≠ b) : updM (updM M a o) b o' = updM (updM M b o') a o := by
  refine Mem.ext ?_ rfl
  funext q
  show (if q = b then o' else if q = a then o else M.f q) = if q = a then o else if q = b then o' else M.f q
  by_cases h1 : q = b
  · rw [if_pos h1]
    by_cases h2 : q = a
    · exact absurd (h2.symm.trans h1) h
    · rw [if_neg h2, if_pos h1]
  · rw [if_neg h1, if_neg h1]
theorem lt_big {m : Nat} (h : m < 9000000) : m < sizeLine := Nat.lt_of_lt_of_le h (by decide)
end DL
set_option Elab.async false
set_option linter.all false
set_option maxRecDepth 100000
set_option maxHeartbeats 4000000
/-! DMa: instances of own classes as data: fields, methods, making. -/
namespace DL
open PySem L2 PyProof.Rows
def putD (f : Str) (d : D) : List (Str × D) → List (Str × D)
  | [] => [(f, d)]
  | (g, x) :: r => if g = f then (g, d) :: r else (g, x) :: putD f d r
section
variable {K : PySem.W.Frag} {G : Hp}
theorem kvd_put {f : Str} {v : V} {d : D} (r : Rp K G v d) : ∀ {vs : List (Str × V)} {fs : List (Str × D)}, KVd K G vs fs → KVd K G (putF f v vs) (putD f d fs)
  | [], [], _ => ⟨rfl, .cons r .nil⟩
  | [], _ :: _, h => by cases h.1
  | _ :: _, [], h => by cases h.1
  | (a, v') :: vs, (b, e) :: fs, h => by
    obtain ⟨h1, h2⟩ := h
    simp only [List.map_cons, List.cons.injEq] at h1
    obtain ⟨h1, h3⟩ := h1
    have h1 : a = b := h1
    subst h1
    cases h2 with
    | cons r1 r2 =>
      have ih := kvd_put r (f := f) (vs := vs) (fs := fs) ⟨h3, r2⟩
      unfold putF putD
      by_cases e : a = f
      · rw [if_pos e, if_pos e]
        exact ⟨by rw [List.map_cons, List.map_cons, h3], .cons r r2⟩
      · rw [if_neg e, if_neg e]
        exact ⟨by rw [List.map_cons, List.map_cons, ih.1], .cons r1 ih.2⟩
theorem kvd_len {vs : List (Str × V)} {fs : List (Str × D)} (h : KVd K G vs fs) : vs.length = fs.length := by
  have := congrArg List.length h.1
  rw [List.length_map, List.length_map] at this
  exact this
theorem kvd_none {n : Str} : ∀ {vs : List (Str × V)} {fs : List (Str × D)}, KVd K G vs fs → fs.lookup n = none → vs.lookup n = none
  | [], [], _, _ => rfl
  | [], _ :: _, h, _ => by cases h.1
  | _ :: _, [], h, _ => by cases h.1
  | (a, v) :: vs, (b, e) :: fs, h, hl => by
    obtain ⟨h1, h2⟩ := h
    simp only [List.map_cons, List.cons.injEq] at h1
    obtain ⟨h1, h3⟩ := h1
    have h1 : a = b := h1
    subst h1
    cases h2 with
    | cons r1 r2 =>
      cases hb : (n == a) with
      | true => simp only [List.lookup, hb] at hl; cases hl
      | false =>
        simp only [List.lookup, hb] at hl ⊢
        exact kvd_none ⟨h3, r2⟩ hl
end
/-- what stands at an instance -/
theorem ins_at {K : PySem.W.Frag} {G H : Hp} {M : Mem} {a C : Addr} {fs : List (Str × D)} (w : Wd K G M H) (hm : M a = some (.ins C fs)) : ∃ dx vs, H a = some (.ins C dx vs) ∧ KVd K G vs fs := (w.mem _ _ hm).2
/-- o.f = value, as a target -/
def gFld (K : PySem.W.Frag) (to : TE) (f : Str) : TG := fun v σ H Q => to σ H fun x H1 => ∃ a C dx fs, x = .ref a ∧ H1 a = some (.ins C dx fs) ∧ Cls K C ∧ NoAttr K C f ∧ fs.length < 1000 ∧ Q σ (upd H1 a (.ins C dx (putF f v fs)))
theorem pg_fld {X : Cx} {o : Expr} {f : Str} {tp : Pos} {to : TE} (ho : PE X o to) : PG X (.Attribute o f tp) (gFld X.K to f) := by
  refine ⟨fun pins s σ H v u Q I rv h => ?_⟩
  have ha : assign (.Attribute o f tp) X.env u = (do let x ← holding [u] (eval o X.env); standAt tp.atName; holding [u, x] (setAttr x f u); release [u, x] []) := rfl
  rw [ha]
  refine wpAny_bind (wpAny_holding (thn (ho.run pins s σ H _ I h) fun x s1 ⟨xv, H1, I1, r1, a, C, dx, fs, e, hH, c, n, hl, q⟩ => ?_))
  subst e
  obtain rfl : x = Value.ref a := r1
  exact wpAny_bind (wpAny_standAt (wpAny_bind (wpAny_holding (setattr_ok I1 hH c n hl rv fun s3 I3 => wpAny_release ⟨σ, _, I3, q⟩))))
section
variable {X : Cx} {sg sg' : Sg} {M : Mem} {o e : Expr} {es : List Expr} {f m : Str} {pos pos' apos p : Pos} {Q : D → Mem → Prop} {E : EndsD} {C : Addr} {k n : Nat} {S : SpD}
/-- o.f -/
theorem we_fld (h : WE X o sg M fun x M1 => ∃ a C fs d, x = .ptr a ∧ M1 a = some (.ins C fs) ∧ Cls X.K C ∧ NoAttr X.K C f ∧ fs.lookup f = some d ∧ Q d M1) (hb : attributeBase o f X.env (eval o X.env) = eval o X.env := by rfl) : WE X (.Attribute o f pos) sg M Q :=
  WE.of (pe_fld pe_w hb) fun σ H G w s => (h σ H G w s).imp fun v H1 ⟨x, G1, M1, st, w1, r1, a, C, fs, d, e, hm, c, na, hl, q⟩ => by
    subst e
    cases r1
    obtain ⟨dx, vs, hH, kv⟩ := ins_at w1 hm
    obtain ⟨u, hu, ru⟩ := kvd_lookup kv hl
    exact ⟨a, C, dx, vs, u, rfl, hH, c, na, hu, d, G1, M1, st, w1, ru, q⟩
/-- o.f = e -/
theorem ws_fld (h : WE X e sg M fun y M1 => WE X o sg M1 fun x M2 => ∃ a C fs, x = .ptr a ∧ M2 a = some (.ins C fs) ∧ Cls X.K C ∧ NoAttr X.K C f ∧ fs.length < 1000 ∧ E.nx sg (updM M2 a (some (.ins C (putD f y fs))))) (hs : swapsWith e (some (.Attribute o f pos')) pos.line X.env = pure false := by rfl) : WS X (.Assign [.Attribute o f pos'] e pos) sg M E :=
  WS.of (ps_fld pe_w pe_w hs) fun σ H G w s => (h σ H G w s).imp fun y H1 ⟨dy, G1, M1, st1, w1, r1, q1⟩ => (q1 σ H1 G1 w1 (s.mono (st1.gx w))).imp fun x H2 ⟨x', G2, M2, st2, w2, r2, a, C, fs, e, hm, c, na, hl, q⟩ => by
    subst e
    cases r2
    obtain ⟨dx, vs, hH, kv⟩ := ins_at w2 hm
    obtain ⟨w3, st3⟩ := w2.write hm (o := .ins C dx (putF f y vs)) (mo := .ins C (putD f dy fs)) ⟨_, _, upd_same, kvd_put (r1.mono (st2.gx w1)) kv⟩
    exact ⟨a, C, dx, vs, rfl, hH, c, na, by rw [kvd_len kv]; exact hl, sg, G2, _, (st1.trans st2).trans st3, w3, s.mono (((st1.trans st2).trans st3).gx w), q⟩
/-- o.f += e, of ints -/
theorem ws_fldadd (h : WE X o sg M fun x M1 => ∃ a C fs i, x = .ptr a ∧ M1 a = some (.ins C fs) ∧ Cls X.K C ∧ NoAttr X.K C f ∧ fs.lookup f = some (.int i) ∧ WE X e sg M1 fun y M2 => ∃ j fs', y = .int j ∧ M2 a = some (.ins C fs') ∧ fs'.length < 1000 ∧ E.nx sg (updM M2 a (some (.ins C (putD f (.int (i + j)) fs'))))) : WS X (.AugAssign (.Attribute o f pos') .Add e pos) sg M E :=
  WS.of (ps_fldaug pe_w pe_w in_add) fun σ H G w s => (h σ H G w s).imp fun x H1 ⟨x', G1, M1, st1, w1, r1, a, C, fs, i, e, hm, c, na, hl, q1⟩ => by
    subst e
    cases r1
    obtain ⟨dx, vs, hH, kv⟩ := ins_at w1 hm
    obtain ⟨u, hu, ru⟩ := kvd_lookup kv hl
    cases ru
    refine ⟨a, C, dx, vs, .int i, rfl, hH, c, na, hu, (q1 σ H1 G1 w1 (s.mono (st1.gx w))).imp fun y H2 ⟨y', G2, M2, st2, w2, r2, j, fs', e, hm2, hl2, q⟩ => ?_⟩
    subst e
    cases r2
    obtain ⟨dx2, vs2, hH2, kv2⟩ := ins_at w2 hm2
    obtain ⟨w3, st3⟩ := w2.write hm2 (o := .ins C dx2 (putF f (.int (i + j)) vs2)) (mo := .ins C (putD f (.int (i + j)) fs')) ⟨_, _, upd_same, kvd_put (.int _) kv2⟩
    exact ⟨i, j, rfl, rfl, dx2, vs2, hH2, by rw [kvd_len kv2]; exact hl2, sg, G2, _, (st1.trans st2).trans st3, w3, s.mono (((st1.trans st2).trans st3).gx w), q⟩
end
end DL
set_option Elab.async false
set_option linter.all false
set_option maxRecDepth 100000
set_option maxHeartbeats 4000000
/-! DMb: dicts whose keys are ints and texts. -/
namespace DL
open PySem L2 PyProof.Rows
def kD : Key → D
  | .inl i => .int i
  | .inr x => .str x
abbrev KD := List (Key × D)
def gk (kvs : KD) (k : Key) : Option D := (kvs.find? fun p => decide (p.1 = k)).map (·.2)
def pk (kvs : KD) (k : Key) (d : D) : KD := if kvs.any (fun p => decide (p.1 = k)) then kvs.map fun p => if p.1 = k then (p.1, d) else p else kvs ++ [(k, d)]
def mk (kvs : KD) (more : KD) : KD := more.foldl (fun acc p => pk acc p.1 p.2) kvs
section
variable {K : PySem.W.Frag} {G : Hp}
theorem kD_of {v : V} {k : Key} (r : Rp K G v (kD k)) : v = kV k := by
  cases k with
  | inl i => cases r; rfl
  | inr x => cases r; rfl
theorem rp_kD (k : Key) : Rp K G (kV k) (kD k) := by
  cases k with
  | inl i => exact .int i
  | inr x => exact .str x
theorem gk_rp : ∀ {kvs : KD} {vs : List (Key × V)} (k : Key), KVd K G vs kvs → (gk kvs k = none ∧ valV vs k = none) ∨ ∃ d v, gk kvs k = some d ∧ valV vs k = some v ∧ Rp K G v d
  | [], [], k, _ => .inl ⟨rfl, rfl⟩
  | [], _ :: _, k, h => by have := congrArg List.length h.1; simp at this
  | _ :: _, [], k, h => by have := congrArg List.length h.1; simp at this
  | p :: kvs, q :: vs, k, h => by
    obtain ⟨h1, h2⟩ := h
    have e1 : q.1 = p.1 := (List.cons.inj h1).1
    have e2 := (List.cons.inj h1).2
    cases h2 with
    | cons r rs =>
      by_cases e : p.1 = k
      · right
        exact ⟨p.2, q.2, by unfold gk; rw [List.find?_cons_of_pos (by simpa using e)]; rfl, valV_pos (e1.trans e), r⟩
      · have := gk_rp (kvs := kvs) (vs := vs) k ⟨e2, rs⟩
        have g1 : gk (p :: kvs) k = gk kvs k := by unfold gk; rw [List.find?_cons_of_neg (by simpa using e)]
        rw [g1, valV_neg fun z => e (e1.symm.trans z)]
        exact this
theorem anyk_rp {k : Key} : ∀ {kvs : KD} {vs : List (Key × V)}, vs.map (·.1) = kvs.map (·.1) → (vs.any fun q => decide (q.1 = k)) = kvs.any fun p => decide (p.1 = k)
  | [], [], _ => rfl
  | [], _ :: _, h => by simp at h
  | _ :: _, [], h => by simp at h
  | p :: kvs, q :: vs, h => by
    have e1 : q.1 = p.1 := (List.cons.inj h).1
    rw [List.any_cons, List.any_cons, anyk_rp (List.cons.inj h).2, e1]
theorem repk_rp {k : Key} {v : V} {d : D} (r : Rp K G v d) : ∀ {kvs : KD} {vs : List (Key × V)}, KVd K G vs kvs → KVd K G (vs.map fun q => if q.1 = k then (q.1, v) else q) (kvs.map fun p => if p.1 = k then (p.1, d) else p)
  | [], [], _ => ⟨rfl, .nil⟩
  | [], _ :: _, h => by have := congrArg List.length h.1; simp at this
  | _ :: _, [], h => by have := congrArg List.length h.1; simp at this
  | p :: kvs, q :: vs, h => by
    obtain ⟨h1, h2⟩ := h
    have e1 : q.1 = p.1 := (List.cons.inj h1).1
    have e2 := (List.cons.inj h1).2
    cases h2 with
    | cons r0 rs =>
      obtain ⟨a, b⟩ := repk_rp (k := k) r ⟨e2, rs⟩
      unfold KVd
      rw [List.map_cons, List.map_cons, List.map_cons, List.map_cons, List.map_cons, List.map_cons, a]
      by_cases e : p.1 = k
      · rw [if_pos e, if_pos (e1.trans e)]
        exact ⟨by rw [e1], .cons r b⟩
      · rw [if_neg e, if_neg fun z => e (e1.symm.trans z)]
        exact ⟨by rw [e1], .cons r0 b⟩
theorem pk_rp {kvs : KD} {vs : List (Key × V)} {k : Key} {v : V} {d : D} (h : KVd K G vs kvs) (r : Rp K G v d) : KVd K G (putK vs k v) (pk kvs k d) := by
  unfold putK pk
  rw [anyk_rp h.1]
  by_cases c : (kvs.any fun p => decide (p.1 = k)) = true
  · rw [if_pos c, if_pos c]
    exact repk_rp r h
  · rw [if_neg c, if_neg c]
    unfold KVd
    rw [List.map_append, List.map_append, List.map_append, List.map_append, h.1]
    exact ⟨rfl, h.2.append (.cons r .nil)⟩
theorem mk_rp : ∀ {more : KD} {ms : List (Key × V)} {kvs : KD} {vs : List (Key × V)}, KVd K G ms more → KVd K G vs kvs → KVd K G (mergeK vs ms) (mk kvs more)
  | [], [], _, _, _, h => h
  | [], _ :: _, _, _, h, _ => by have := congrArg List.length h.1; simp at this
  | _ :: _, [], _, _, h, _ => by have := congrArg List.length h.1; simp at this
  | p :: more, q :: ms, kvs, vs, h, h0 => by
    obtain ⟨h1, h2⟩ := h
    have e1 : q.1 = p.1 := (List.cons.inj h1).1
    have e2 := (List.cons.inj h1).2
    cases h2 with
    | cons r0 rs =>
      show KVd K G (mergeK (putK vs q.1 q.2) ms) (mk (pk kvs p.1 p.2) more)
      rw [e1]
      exact mk_rp ⟨e2, rs⟩ (pk_rp h0 r0)
theorem kvk_len {vs : List (Key × V)} {kvs : KD} (h : KVd K G vs kvs) : vs.length = kvs.length := by
  have := congrArg List.length h.1
  rw [List.length_map, List.length_map] at this
  exact this
end
/-- what stands at a dict, locked or not -/
def DicAt (M : Mem) (p : Addr) (kvs : KD) : Prop := M p = some (.dic kvs) ∨ ∃ o vs, M p = some (.fdc o vs kvs)
theorem dic_at {K : PySem.W.Frag} {G H : Hp} {M : Mem} {p : Addr} {kvs : KD} (w : Wd K G M H) (hm : DicAt M p kvs) : ∃ vs : List (Key × V), Rd H p (.dK vs) ∧ KVd K G vs kvs := by
  rcases hm with hm | ⟨o, vs, hm⟩
  · obtain ⟨vs, e, kv⟩ := (w.mem _ _ hm).2
    exact ⟨vs, .inl e, kv⟩
  · obtain ⟨e, kv⟩ := (w.mem _ _ hm).2
    exact ⟨vs, .inr ⟨o, e⟩, kv⟩
section
variable {X : Cx} {sg : Sg} {M : Mem} {o i e k v : Expr} {pos pos' : Pos} {Q : D → Mem → Prop} {Qb : Bool → Mem → Prop} {E : EndsD}
/-- d[k] -/
theorem we_kget (hu : X.A.units + 1 < cLine) (h : WE X o sg M fun x M1 => WE X i sg M1 fun y M2 => ∃ p kvs k d, x = .ptr p ∧ y = kD k ∧ DicAt M2 p kvs ∧ gk kvs k = some d ∧ Q d M2) (hs : NoSl i := by intro _ _; rfl) : WE X (.Subscript o i pos) sg M Q :=
  WE.of (pe_dget hu pe_w pe_w hs) fun σ H G w s => (h σ H G w s).imp fun x H1 ⟨dx, G1, M1, st, w1, r1, q1⟩ => (q1 σ H1 G1 w1 (s.mono (st.gx w))).imp fun u H2 ⟨dy, G2, M2, st2, w2, r2, p, kvs, k, d, e1, e2, hm, hg, q⟩ => by
    subst e1; subst e2
    cases r1
    have := kD_of r2
    subst this
    obtain ⟨vs, hH, kv⟩ := dic_at w2 hm
    rcases gk_rp k kv with ⟨z, _⟩ | ⟨d', v', g1, g2, r⟩
    · rw [hg] at z; cases z
    · rw [hg] at g1
      cases g1
      exact ⟨p, v', rfl, .inl ⟨vs, k, hH, rfl, g2.symm⟩, d, G2, M2, st.trans st2, w2, r, q⟩
/-- k in d, k not in d -/
theorem wt_kin (hu : X.A.units + 1 < cLine) (h : WE X i sg M fun y M1 => WE X o sg M1 fun x M2 => ∃ p kvs k, x = .ptr p ∧ y = kD k ∧ DicAt M2 p kvs ∧ Qb (gk kvs k).isSome M2) (hm : behindInMarks .In o = false := by first | exact nomark _ | rfl) : WT X (.Compare i [.In] [o] pos) sg M Qb :=
  WT.of (pt_cmp (pc_din hu pe_w pe_w) hm) fun σ H G w s => (h σ H G w s).imp fun y H1 ⟨dy, G1, M1, st, w1, r1, q1⟩ => (q1 σ H1 G1 w1 (s.mono (st.gx w))).imp fun x H2 ⟨dx, G2, M2, st2, w2, r2, p, kvs, k, e1, e2, hm, q⟩ => by
    subst e1; subst e2
    cases r2
    have := kD_of r1
    subst this
    obtain ⟨vs, hH, kv⟩ := dic_at w2 hm
    refine ⟨p, valV vs k, rfl, .inl ⟨vs, k, hH, rfl, rfl⟩, (gk kvs k).isSome, ?_, G2, M2, st.trans st2, w2, q⟩
    rcases gk_rp k kv with ⟨z1, z2⟩ | ⟨d', v', g1, g2, r⟩
    · rw [z1, z2]; rfl
    · rw [g1, g2]; rfl
theorem wt_knin (hu : X.A.units + 1 < cLine) (h : WE X i sg M fun y M1 => WE X o sg M1 fun x M2 => ∃ p kvs k, x = .ptr p ∧ y = kD k ∧ DicAt M2 p kvs ∧ Qb (!(gk kvs k).isSome) M2) (hm : behindInMarks .NotIn o = false := by first | exact nomark _ | rfl) : WT X (.Compare i [.NotIn] [o] pos) sg M Qb :=
  WT.of (pt_cmp (pc_dnotin hu pe_w pe_w) hm) fun σ H G w s => (h σ H G w s).imp fun y H1 ⟨dy, G1, M1, st, w1, r1, q1⟩ => (q1 σ H1 G1 w1 (s.mono (st.gx w))).imp fun x H2 ⟨dx, G2, M2, st2, w2, r2, p, kvs, k, e1, e2, hm, q⟩ => by
    subst e1; subst e2
    cases r2
    have := kD_of r1
    subst this
    obtain ⟨vs, hH, kv⟩ := dic_at w2 hm
    refine ⟨p, valV vs k, rfl, .inl ⟨vs, k, hH, rfl, rfl⟩, !(gk kvs k).isSome, ?_, G2, M2, st.trans st2, w2, q⟩
    rcases gk_rp k kv with ⟨z1, z2⟩ | ⟨d', v', g1, g2, r⟩
    · rw [z1, z2]; rfl
    · rw [g1, g2]; rfl
/-- d[k] = e -/
theorem ws_kput (hu : X.A.units + 1 < cLine) (h : WE X e sg M fun z M1 => WE X o sg M1 fun x M2 => WE X i sg M2 fun y M3 => ∃ p kvs k, x = .ptr p ∧ y = kD k ∧ M3 p = some (.dic kvs) ∧ kvs.length < sizeLine ∧ E.nx sg (updM M3 p (some (.dic (pk kvs k z))))) (hs : swapsWith e (some (.Subscript o i pos')) pos.line X.env = pure false := by rfl) : WS X (.Assign [.Subscript o i pos'] e pos) sg M E :=
  WS.of (ps_dput hu pe_w pe_w pe_w hs) fun σ H G w s => (h σ H G w s).imp fun z H1 ⟨dz, G1, M1, st, w1, r1, q1⟩ => (q1 σ H1 G1 w1 (s.mono (st.gx w))).imp fun x H2 ⟨dx, G2, M2, st2, w2, r2, q2⟩ => (q2 σ H2 G2 w2 (s.mono ((st.trans st2).gx w))).imp fun y H3 ⟨dy, G3, M3, st3, w3, r3, p, kvs, k, e1, e2, hm, hl, q⟩ => by
    subst e1; subst e2
    have r2' := r2.mono (st3.gx w2)
    cases r2'
    have := kD_of r3
    subst this
    obtain ⟨vs, hH, kv⟩ := (w3.mem _ _ hm).2
    obtain ⟨w', stw⟩ := w3.write hm (o := .dK (putK vs k z)) (mo := .dic (pk kvs k dz)) ⟨_, upd_same, pk_rp kv (r1.mono ((st2.trans st3).gx w1))⟩
    exact ⟨p, _, rfl, DPut.k hH (by rw [kvk_len kv]; exact hl), sg, G3, _, (((st.trans st2).trans st3).trans stw), w', s.mono ((((st.trans st2).trans st3).trans stw).gx w), q⟩
/-- {} -/
theorem we_knew (h : ∀ p, M p = none → Q (.ptr p) (updM M p (some (.dic [])))) : WE X (.Dict [] [] pos) sg M Q :=
  WE.of pe_dnewK fun σ H G w s => fun p hp => by
    obtain ⟨w0, st0⟩ := w.newM hp (o := .dK []) (mo := .dic []) ⟨[], upd_same, rfl, .nil⟩
    exact ⟨.ptr p, G, _, st0, w0, .ptr p, h p (w.free hp).2⟩
/-- an expression while a dict is locked -/
theorem we_lock {p : Addr} {kvs : KD} (hm : M p = some (.dic kvs)) (h : ∀ o vs, WE X e sg (updM M p (some (.fdc o vs kvs))) fun z M1 => M1 p = some (.fdc o vs kvs) ∧ Q z (updM M1 p (some (.dic kvs)))) : WE X e sg M Q :=
  WE.of (pe_lock pe_w) fun σ H G w s => by
    obtain ⟨vs, hH, kv⟩ := (w.mem _ _ hm).2
    refine ⟨p, .dK vs, hH, trivial, fun od => ?_⟩
    obtain ⟨w1, st1⟩ := w.write hm (o := .frz od (.dK vs)) (mo := .fdc od vs kvs) ⟨upd_same, kv⟩
    refine (h od vs σ _ G w1 (s.mono (st1.gx w))).imp fun z H1 ⟨dz, G2, M2, st2, w2, r2, hm2, q⟩ => ?_
    obtain ⟨e2, kv2⟩ := (w2.mem _ _ hm2).2
    obtain ⟨w3, st3⟩ := w2.write hm2 (o := .dK vs) (mo := .dic kvs) ⟨_, upd_same, kv2⟩
    exact ⟨e2, dz, G2, _, (st1.trans st2).trans st3, w3, r2.mono (st3.gx w2), q⟩
end
section
variable {K : PySem.W.Frag} {M : Mem} {Q : D → Mem → Prop}
/-- dict(a list of pairs) -/
theorem cd_dictP {x : D} {ps : KD} (h : LsD M x (ps.map fun p => .tup [kD p.1, p.2])) (q : ∀ p, M p = none → Q (.ptr p) (updM M p (some (.dic (mk [] ps))))) : ClD K (fun xs H Q => ∃ (a : Addr) (as : List Addr) (kvs : List (Key × V)), xs = [.ref a] ∧ SqL K H a (as.map V.ref) ∧ Paired (fun p kv => SqT K H p [kV kv.1, kv.2]) as kvs ∧ ∀ p, H p = none → Q (.ref p) (upd H p (.dK (mergeK [] kvs)))) [x] M Q := fun G H vs R w r k => by
  obtain ⟨v, rfl, rv⟩ := r.one
  obtain ⟨a, xs, rfl, hH, rx⟩ := h.at w rv
  have key : ∀ (ps : KD) (xs : List V), RpA K G xs (ps.map fun p => .tup [kD p.1, p.2]) → ∃ (as : List Addr) (kvs : List (Key × V)), xs = as.map V.ref ∧ Paired (fun p kv => SqT K H p [kV kv.1, kv.2]) as kvs ∧ KVd K G kvs ps := by
    intro ps
    induction ps with
    | nil => intro xs r; cases r; exact ⟨[], [], rfl, .nil, rfl, .nil⟩
    | cons p ps ih =>
      intro xs r
      cases r with
      | cons r1 r2 =>
        obtain ⟨as, kvs, e, pr, kv⟩ := ih _ r2
        cases r1 with
        | @tup b ys _ hb ry =>
          cases ry with
          | cons k1 ry =>
            cases ry with
            | cons k2 ry =>
              cases ry
              have := kD_of k1
              subst this
              exact ⟨b :: as, (p.1, _) :: kvs, by rw [e]; rfl, .cons (SqT.of (w.sub _ _ hb)) pr, by rw [List.map_cons, List.map_cons, kv.1], .cons k2 kv.2⟩
  obtain ⟨as, kvs, e, pr, kv⟩ := key ps xs rx
  subst e
  refine ⟨a, as, kvs, rfl, SqL.of hH, pr, fun p hp => ?_⟩
  obtain ⟨w', st⟩ := w.newM hp (o := .dK (mergeK [] kvs)) (mo := .dic (mk [] ps)) ⟨_, upd_same, mk_rp kv ⟨rfl, .nil⟩⟩
  exact k _ _ ⟨.ptr p, _, _, st, w', .ptr p, q p (w.free hp).2⟩
/-- sorted(a dict of ints) -/
theorem cd_sortedK {p : Addr} {kvs : KD} {ks : List Int} (hm : M p = some (.dic kvs)) (hk : kvs.map (·.1) = ks.map Sum.inl) (h64 : ks.length < 64) (q : ∀ ys : List Int, ys.Perm ks → ys.Pairwise (· ≤ ·) → Q (.lst (ys.map .int)) M) : ClD K (fun xs H Q => ∃ (a : Addr) (kvs : List (Key × V)) (ks : List Int), xs = [.ref a] ∧ Rd H a (.dK kvs) ∧ kvs.map (·.1) = ks.map Sum.inl ∧ ks.length < 64 ∧
    ∀ (ys : List Int) (p : Addr), ys.Perm ks → ys.Pairwise (· ≤ ·) → H p = none → Q (.ref p) (upd H p (.lst (ys.map V.int)))) [.ptr p] M Q := fun G H vs R w r k => by
  obtain ⟨v, rfl, rv⟩ := r.one
  cases rv
  obtain ⟨vs, hH, kv⟩ := (w.mem _ _ hm).2
  exact ⟨p, vs, ks, rfl, .inl hH, kv.1.trans hk, h64, fun ys l h1 h2 hl => k _ _ (new_lst w hl (rpa_ints ys) (q ys h1 h2))⟩
end
end DL
set_option Elab.async false
set_option linter.all false
set_option maxRecDepth 100000
set_option maxHeartbeats 4000000
/-! DMc: methods of own classes, and their making, by promises over data. -/
namespace DL
open PySem L2 PyProof.Rows
/-- the class C's method m keeps S (its first datum is the instance) -/
def CalM (P : Program) (w : World) (K : PySem.W.Frag) (mg : Str → Option Value) (base : Heap) (k : Nat) (C : Addr) (m : Str) (n : Nat) (S : SpD) : Prop :=
  ∃ f fd ps, FnOk P w K mg base CX0 k f fd ps (spD K n S) ∧ Meth K C m f ∧ Binds K fd ps []
/-- the class C is made by an __init__ that keeps S -/
def CalI (P : Program) (w : World) (K : PySem.W.Frag) (mg : Str → Option Value) (base : Heap) (k : Nat) (x : Str) (C : Addr) (n : Nat) (S : SpD) : Prop :=
  ∃ f fd ps, FnOk P w K mg base CX0 k f fd ps (spD K n S) ∧ Mk K C f ∧ mg x = some (.ref C) ∧ Binds K fd ps []
section
variable {X : Cx} {sg : Sg} {M : Mem} {o e : Expr} {es : List Expr} {m x : Str} {pos apos p : Pos} {Q : D → Mem → Prop} {C : Addr} {k n : Nat} {S : SpD}
/-- o.m(e, ..) -/
theorem we_meth {pl : Sem Bool} (c : Cls X.K C) (hm : CalM X.prog X.w X.K X.mg X.base k C m n S) (hr : Room k X.A) (h : WE X o sg M fun x M1 => ∃ a fs, x = .ptr a ∧ M1 a = some (.ins C fs) ∧ fs.lookup m = none ∧ WA X (e :: es) sg M1 fun ds M2 => ds.length + 1 = n ∧ S (.ptr a :: ds) M2 Q)
    (hst : starEach (e :: es) X.env = (false, eval e X.env) :: starEach es X.env := by exact star1 rfl) (hpl : (backTo pos (starEach es X.env)).any (·.1) = false := by exact starN rfl)
    (ht : eval (.Call (.Attribute o m apos) (e :: es) [] pos) X.env = (do let ov ← eval o X.env; standAt apos.atName; let (f, first) ← holding [ov] (getMethod ov m pl); callWith pos f first (backTo pos (starEach (e :: es) X.env)) (backToKw pos (keywordEach [] X.env))) := by rfl) : WE X (.Call (.Attribute o m apos) (e :: es) [] pos) sg M Q := by
  obtain ⟨f, fd, ps, F, hm, b⟩ := hm
  refine WE.of (pe_meth (pl := pl) pe_w c hm F hr b .nil pass0 pa_w hst hpl ht) fun σ H G w s => (h σ H G w s).imp fun v H1 ⟨x, G1, M1, st, w1, r1, a, fs, e1, hm1, hl, q1⟩ => ?_
  subst e1
  cases r1
  obtain ⟨dx, vs, hH, kv⟩ := ins_at w1 hm1
  refine ⟨a, dx, vs, rfl, hH, kvd_none kv hl, (q1 σ H1 G1 w1 (s.mono (st.gx w))).imp fun vs H2 ⟨ds, G2, M2, st2, w2, r2, l, q⟩ => ?_⟩
  show spD _ _ _ (_ :: (vs ++ [])) _ _ _
  rw [List.append_nil]
  exact ⟨G2, M2, .ptr a :: ds, Q, w2, .cons (.ptr a) r2, l, q, fun v H' p => p.base (st.trans st2)⟩
/-- o.m() -/
theorem we_meth0 {pl : Sem Bool} (c : Cls X.K C) (hm : CalM X.prog X.w X.K X.mg X.base k C m 1 S) (hr : Room k X.A) (h : WE X o sg M fun x M1 => ∃ a fs, x = .ptr a ∧ M1 a = some (.ins C fs) ∧ fs.lookup m = none ∧ S [.ptr a] M1 Q)
    (ht : eval (.Call (.Attribute o m apos) [] [] pos) X.env = (do let ov ← eval o X.env; standAt apos.atName; let (f, first) ← holding [ov] (getMethod ov m pl); callWith pos f first (backTo pos (starEach [] X.env)) (backToKw pos (keywordEach [] X.env))) := by rfl) : WE X (.Call (.Attribute o m apos) [] [] pos) sg M Q := by
  obtain ⟨f, fd, ps, F, hm, b⟩ := hm
  refine WE.of (pe_meth0 (pl := pl) pe_w c hm F hr b .nil pass0 ht) fun σ H G w s => (h σ H G w s).imp fun v H1 ⟨x, G1, M1, st, w1, r1, a, fs, e1, hm1, hl, q⟩ => ?_
  subst e1
  cases r1
  obtain ⟨dx, vs, hH, kv⟩ := ins_at w1 hm1
  refine ⟨a, dx, vs, rfl, hH, kvd_none kv hl, ?_⟩
  exact ⟨G1, M1, [.ptr a], Q, w1, .cons (.ptr a) .nil, rfl, q, fun v H' p => p.base st⟩
/-- C(e, ..) -/
theorem we_make (hm : CalI X.prog X.w X.K X.mg X.base k x C n S) (hr : Room (k + 1) X.A) (h : WA X (e :: es) sg M fun ds M1 => ∀ a, M1 a = none → ds.length + 1 = n ∧ S (.ptr a :: ds) (updM M1 a (some (.ins C []))) fun d M2 => d = .non ∧ Q (.ptr a) M2) (hg : Gl X x := by rfl) (hd : (x == ("__debug__" : Str)) = false := by decide)
    (he : starEach (e :: es) X.env = (false, eval e X.env) :: starEach es X.env := by exact star1 rfl) (hpl : (backTo pos (starEach es X.env)).any (·.1) = false := by exact starN rfl) : WE X (.Call (.Name x p) (e :: es) [] pos) sg M Q := by
  obtain ⟨f, fd, ps, F, hmk, hmg, b⟩ := hm
  refine WE.of (pe_make hmk F hr hg hmg b .nil pass0 pa_w hd he hpl) fun σ H G w s => (h σ H G w s).imp fun vs H1 ⟨ds, G1, M1, st, w1, r1, q⟩ => fun a dx ha hdx hne => ?_
  obtain ⟨l, q⟩ := q a (w1.free ha).2
  obtain ⟨w2, st2⟩ := w1.new hdx (o := .own a)
  have ha2 : (upd H1 dx (.own a)) a = none := by rw [upd_ne (Ne.symm hne)]; exact ha
  obtain ⟨w3, st3⟩ := w2.newM ha2 (o := .ins C dx []) (mo := .ins C []) ⟨dx, [], upd_same, rfl, .nil⟩
  show spD _ _ _ (_ :: (vs ++ [])) _ _ _
  rw [List.append_nil]
  refine ⟨_, _, .ptr a :: ds, _, w3, .cons (.ptr a) (r1.mono (st2.gx w1)), l, q, fun v H' ⟨d, G4, M4, st4, w4, r4, e4, q4⟩ => ?_⟩
  subst e4
  cases r4
  exact ⟨rfl, .ptr a, G4, M4, ((st.trans st2).trans st3).trans st4, w4, .ptr a, q4⟩
/-- C() -/
theorem we_make0 (hm : CalI X.prog X.w X.K X.mg X.base k x C 1 S) (hr : Room (k + 1) X.A) (h : ∀ a, M a = none → S [.ptr a] (updM M a (some (.ins C []))) fun d M2 => d = .non ∧ Q (.ptr a) M2) (hg : Gl X x := by rfl) (hd : (x == ("__debug__" : Str)) = false := by decide) : WE X (.Call (.Name x p) [] [] pos) sg M Q := by
  obtain ⟨f, fd, ps, F, hmk, hmg, b⟩ := hm
  refine WE.of (pe_make0 hmk F hr hg hmg b .nil pass0 hd) fun σ H G w s => fun a dx ha hdx hne => ?_
  have q := h a (w.free ha).2
  obtain ⟨w2, st2⟩ := w.new hdx (o := .own a)
  have ha2 : (upd H dx (.own a)) a = none := by rw [upd_ne (Ne.symm hne)]; exact ha
  obtain ⟨w3, st3⟩ := w2.newM ha2 (o := .ins C dx []) (mo := .ins C []) ⟨dx, [], upd_same, rfl, .nil⟩
  refine ⟨_, _, [.ptr a], _, w3, .cons (.ptr a) .nil, rfl, q, fun v H' ⟨d, G4, M4, st4, w4, r4, e4, q4⟩ => ?_⟩
  subst e4
  cases r4
  exact ⟨rfl, .ptr a, G4, M4, (st2.trans st3).trans st4, w4, .ptr a, q4⟩
end
end DL
set_option Elab.async false
set_option linter.all false
set_option maxRecDepth 100000
set_option maxHeartbeats 4000000
/-! DMd: set(a list): whatever is kept while the list is put in. -/
namespace DL
open PySem PySem.Spec PyProof.Rows L2
def fset (w : World) : Obj := ⟨.type "set", none, .set #[] 0 (.fresh 0 0 (!w.params.followText "set-order")), #[]⟩
/-- what the loop that fills a set keeps: T i of the set at S behind the first i items -/
def Fills (P : Program) (w : World) (items : Array Value) (S : Addr) (T : Nat → Heap → Prop) : Prop :=
  ∀ (A : Around) (I : Addr) (fp wr : List Addr) (G : Array GenState → Array GenState → Prop) (St : Nat → Shared → Prop) (R : Result → Shared → Prop) (s : Shared), WalksS P w A.in1 I fp wr G items.size (fun i v => items[i]? = some v) St → S ∉ fp → St 0 s → T 0 s.heap →
    (∀ s', Moved (S :: wr) G s s' → T items.size s'.heap → R (.ok (.ret .none)) s') → codeAny (model P w) A (.builtin "set.update.loop" ⟨[.ref S, .ref I], []⟩) R s
section
variable {P : Program} {w : World} {A : Around} {E : Value → Shared → Prop} {s : Shared}
theorem set_of_list {l : Addr} {items : Array Value} {T : Nat → Heap → Prop} {Q : Value → Shared → Prop} (hh : A.handled = none) (hl : s.heap.IsList l items) (h0 : ∀ h : Heap, h.get? s.heap.objs.size = some (fset w) → T 0 h) (lp : Fills P w items s.heap.objs.size T)
    (fin : ∀ (h' : Heap) (tk : Nat), T items.size h' → (∀ b o, s.heap.get? b = some o → h'.get? b = some o) → Q (.ref s.heap.objs.size) { s with heap := h', toks := tk }) : wpAny (model P w) A (call (.type "set") [.ref l]) Q E s := by
  obtain ⟨cc, tt, g1⟩ := F.called_set.mro
  have g2 := F.called_set.made; have g3 := F.called_set.sub
  refine wpAny_call (codeAny_of_tree ?_); show wpAny _ _ (callAny (.type "set") _) _ _ _
  refine wpAny_pure ⟨Code.quiet_builtin _ (by decide +kernel), codeAny_builtin F.entry_type_call (?_ : wpAny _ _ _ _ _ _)⟩; rw [Around.under_plain (weight_type_call_type "set" [.ref l] []) rfl]
  have g4 := F.called_set.notType; have g5 := F.called_set.canCreate; have g6 := F.typeCall_set_1 (.ref l)
  repeat (any_goals (first | assumption | wp_step))
  refine codeAny_mono (code_set_led1 (.ref l) (E := E) (Q₁ := fun u s1 => u = .ref s.heap.objs.size ∧ s1 = { s with heap := s.heap.push (fset w) }) ⟨rfl, rfl⟩) fun r s1 hr => ?_
  match r, hr with
  | .error e, hr => exact hr
  | .ok (.ret u), hr =>
    obtain ⟨rfl, rfl⟩ := hr
    have k1 : (s.heap.push (fset w)).get? s.heap.objs.size = some (fset w) := Heap.get?_push_size _ rfl
    have k2 : Shared.TypeIs { s with heap := s.heap.push (fset w) } (.ref s.heap.objs.size) "set" := ⟨_, k1, rfl⟩
    have g7 := F.called_set.init.lookup; have g8 := F.called_set.init.bind (.ref s.heap.objs.size)
    repeat (any_goals (first | assumption | wp_step))
    refine codeAny_mono (codeAny_call_builtin (R := wants (fun r s2 => r = .none ∧ ∃ h' tk, s2 = { s with heap := h', toks := tk } ∧ T items.size h' ∧ (∀ b o, s.heap.get? b = some o → h'.get? b = some o)) E) F.called_set.init.plain F.entry_set_init (check_set_init_1 k2 ?_)) fun r2 s2 hr2 => ?_
    · obtain ⟨⟨oc, od, oa, os⟩, hol, hc, nl, hd⟩ := hl
      simp only at hc hd; subst hc; subst hd
      have e1 : (s.heap.push (fset w)).get? l = some { cls := .type "list", dict := od, data := .seq items nl, slots := os } := Heap.get?_push_of_some _ hol
      have e2 := F.sub_list_set; have e3 := F.sub_list_frozenset
      have e4 : (Value.type "list" == Value.type "dict") = false := by decide
      have e5 : (s.heap.push (fset w)).IsList l items := ⟨_, e1, rfl, nl, rfl⟩
      unfold Builtin.«set.__init__» noKeywords Builtin.Frozenset.updateFrom; generalize hPI : pyIter = PI
      wp_walk
      subst hPI
      refine wpAny_pyIter_list e5 (wpAny_bind (wpAny_runValue ?_))
      have e6 : l < s.heap.objs.size := Heap.lt_size hol
      have e7 : A.in1.in1.in1.handled = none := by simp [hh]
      have e8 : l ≠ (s.heap.push (fset w)).objs.size := by rw [Heap.size_push]; exact Nat.ne_of_lt (Nat.lt_succ_of_lt e6)
      have e9 : s.heap.objs.size ∉ [(s.heap.push (fset w)).objs.size, l] := by rw [Heap.size_push]; simp only [List.mem_cons, List.not_mem_nil, or_false, not_or]; exact ⟨Nat.ne_of_lt (Nat.lt_succ_self _), Nat.ne_of_gt e6⟩
      refine lp A.in1.in1 _ _ _ _ _ _ _ ((Walks.list e7 _ l e8 items).toS) e9 ⟨⟨_, Heap.get?_push_size _ rfl, rfl, rfl⟩, (e5.push _)⟩ (h0 _ (Heap.get?_push_of_some _ k1)) fun s' hm hT => ?_
      obtain ⟨h', gg, dd, tk, oo⟩ := s'
      have a1 : gg = s.gens := hm.gens
      have a2 : dd = s.drawn := hm.drawn
      have a3 : oo = s.os := hm.os
      subst a1; subst a2; subst a3
      show wpAny _ _ _ _ _ _; refine wpAny_pure ?_
      show wpAny _ _ (ret Value.none) _ _ _; refine wpAny_pure ⟨rfl, h', tk, rfl, hT, fun b o e => ?_⟩
      have b0 : b < s.heap.objs.size := Heap.lt_size e
      refine hm.heap b o ?_ (Heap.get?_push_of_some _ (Heap.get?_push_of_some _ e))
      simp only [List.mem_cons, List.not_mem_nil, or_false, not_or]
      exact ⟨Nat.ne_of_lt b0, by rw [Heap.size_push]; exact Nat.ne_of_lt (Nat.lt_succ_of_lt b0)⟩
    · match r2, hr2 with
      | .error e, hr2 => exact hr2
      | .ok (.ret u), hr2 =>
        obtain ⟨rfl, h', tk, rfl, hT, hk⟩ := hr2
        repeat (any_goals (first | assumption | wp_step))
        exact fin h' tk hT hk
      | .ok .next, hr2 => exact hr2.elim
      | .ok .brk, hr2 => exact hr2.elim
      | .ok .cont, hr2 => exact hr2.elim
  | .ok .next, hr => exact hr.elim
  | .ok .brk, hr => exact hr.elim
  | .ok .cont, hr => exact hr.elim
end
end DL
set_option Elab.async false
set_option linter.all false
set_option maxRecDepth 100000
set_option maxHeartbeats 4000000
/-! DMe: sorted(set(ints)), len(set(texts)). -/
namespace DL
open PySem PySem.Spec PyProof.Rows L2
section
variable {P : Program} {w : World}
theorem fills_ints {items : Array Value} {S : Addr} {ns : List Int} (hi : IntsAre items.toList ns) (hb : ns.length + 1 < scanBound) : Fills P w items S fun i h => ∃ c, c ≤ i ∧ SetR w h S (fun j => decide (j ∈ ns.take i)) c := fun A I fp wr G St R s W hS st t0 q => by
  have hsz : items.size = ns.length := by rw [← IntsAre.length hi, Array.length_toList]
  refine set_update_ints W S hS ns hsz hb (fun i v hv => ?_) (items.size - 0) 0 s (by omega) (Nat.zero_le _) st t0 fun s' c hm hc hR => q s' hm ⟨c, hc, hR.congr fun k => ?_⟩
  · have hin : i < ns.length := by rw [← hsz]; exact (Array.getElem?_eq_some_iff.mp hv).1
    obtain ⟨t, e⟩ := PyProof.Rows.IntsAre.int_at hi i v (by rw [Array.getElem?_toList]; exact hv)
    exact ⟨ns[i], t, List.getElem?_eq_getElem hin, by rw [e, List.getD_eq_getElem?_getD, List.getElem?_eq_getElem hin]; rfl⟩
  · rw [hsz, List.take_length]
/-! texts -/
def uniq (xs : List Str) : List Str := xs.foldl (fun acc x => if x ∈ acc then acc else acc ++ [x]) []
theorem uniq_snoc (xs : List Str) (x : Str) : uniq (xs ++ [x]) = if x ∈ uniq xs then uniq xs else uniq xs ++ [x] := by
  unfold uniq
  rw [List.foldl_append]
  rfl
theorem uniq_rev {p : List Str → Prop} (h0 : p []) (h1 : ∀ xs x, p xs → p (xs ++ [x])) : ∀ xs, p xs := fun xs => by
  have : ∀ n, ∀ xs : List Str, xs.length = n → p xs := by
    intro n
    induction n with
    | zero => intro xs h; rw [List.length_eq_zero_iff.mp h]; exact h0
    | succ n ih =>
      intro xs h
      rcases List.eq_nil_or_concat xs with e | ⟨ys, y, e⟩
      · rw [e] at h; cases h
      · rw [List.concat_eq_append] at e
        subst e
        exact h1 ys y (ih ys (by rw [List.length_append] at h; exact Nat.succ.inj h))
  exact this _ xs rfl
theorem uniq_mem (k : Str) : ∀ xs : List Str, k ∈ uniq xs ↔ k ∈ xs := uniq_rev (by unfold uniq; exact Iff.rfl) fun xs x ih => by
  rw [uniq_snoc, List.mem_append, List.mem_singleton, ← ih]
  by_cases e : x ∈ uniq xs
  · rw [if_pos e]
    exact ⟨.inl, fun h => h.elim id fun z => by rw [z]; exact e⟩
  · rw [if_neg e, List.mem_append, List.mem_singleton]
theorem uniq_le : ∀ xs : List Str, (uniq xs).length ≤ xs.length := uniq_rev (Nat.le_refl _) fun xs x ih => by
  rw [uniq_snoc, List.length_append]
  split
  · omega
  · rw [List.length_append]; exact Nat.succ_le_succ ih
theorem uniq_all : ∀ xs : List Str, (uniq xs).length = xs.length ↔ xs.Nodup := uniq_rev (by unfold uniq; simp) fun xs x ih => by
  rw [uniq_snoc, List.length_append]
  have hle := uniq_le xs
  have hm := uniq_mem x xs
  rw [List.nodup_append]
  by_cases e : x ∈ uniq xs
  · rw [if_pos e]
    constructor
    · intro h
      have : (uniq xs).length = xs.length + 1 := h
      omega
    · intro ⟨_, _, h⟩
      exact absurd rfl (h x (hm.mp e) x (List.mem_singleton.mpr rfl))
  · rw [if_neg e, List.length_append]
    constructor
    · intro h
      refine ⟨ih.mp (Nat.succ.inj h), List.nodup_cons.mpr ⟨List.not_mem_nil, List.nodup_nil⟩, fun a ha b hb => ?_⟩
      rw [List.mem_singleton.mp hb]
      intro z
      rw [z] at ha
      exact e (hm.mpr ha)
    · intro ⟨h, _, _⟩
      rw [ih.mpr h]
theorem fills_strs {items : Array Value} {S : Addr} {xs : List Str} (hi : StrsAre items.toList xs) (hb : xs.length + 1 < scanBound) : Fills P w items S fun i h => h.SetOf (PySem.strKind P w) S (fun k => decide (k ∈ xs.take i)) (uniq (xs.take i)).length := fun A I fp wr G St R s W hS st t0 q => by
  have hsz : items.size = xs.length := by rw [← StrsAre.len_eq hi, Array.length_toList]
  have hSw : S ∉ wr := fun h => hS (W.sub _ h)
  have keep : ∀ {s1 s2 : Shared} {f : Str → Bool} {c : Nat}, Moved wr G s1 s2 → s1.heap.SetOf (PySem.strKind P w) S f c → s2.heap.SetOf (PySem.strKind P w) S f c := fun hm h => by
    obtain ⟨o, es, ep, t, ho, rest⟩ := h
    exact ⟨o, es, ep, t, hm.heap S _ hSw ho, rest⟩
  have up : ∀ b ∈ wr, b ∈ S :: wr := fun b hb => List.mem_cons_of_mem _ hb
  have main : ∀ (k i : Nat) (s : Shared) (R : Result → Shared → Prop), items.size - i = k → i ≤ items.size → St i s → s.heap.SetOf (PySem.strKind P w) S (fun k => decide (k ∈ xs.take i)) (uniq (xs.take i)).length →
      (∀ s', Moved (S :: wr) G s s' → s'.heap.SetOf (PySem.strKind P w) S (fun k => decide (k ∈ xs.take items.size)) (uniq (xs.take items.size)).length → R (.ok (.ret .none)) s') → codeAny (model P w) A (.builtin "set.update.loop" ⟨[.ref S, .ref I], []⟩) R s := by
    intro k
    induction k with
    | zero =>
      intro i s R hk hi2 st t q
      have e : i = items.size := by omega
      subst e
      refine codeAny_builtin PyProof.Rows.F.entry_set_update_loop ?_; rw [Around.under_plainId PyProof.Rows.F.plain_set_update_loop _]
      show wpAny _ A.in1 (pyNext (.ref I) >>= _) _ _ s; refine wpAny_bind (W.done s _ _ st fun s' hm => ?_)
      show wpAny _ A.in1 (ret Value.none) _ _ s'; exact wpAny_pure (q s' (hm.mono up) (keep hm t))
    | succ k ih =>
      intro i s R hk hi2 st t q
      have hlt : i < items.size := by omega
      have hx : i < xs.length := by omega
      refine codeAny_builtin PyProof.Rows.F.entry_set_update_loop ?_; rw [Around.under_plainId PyProof.Rows.F.plain_set_update_loop _]
      show wpAny _ A.in1 (pyNext (.ref I) >>= _) _ _ s; refine wpAny_bind (W.item i s _ _ hlt st fun v s' hP st' hm => ?_)
      obtain ⟨tk, ev⟩ := SS.strs_at hi i v (by rw [Array.getElem?_toList]; exact hP)
      have ex : xs.getD i Str.empty = xs[i] := by rw [List.getD_eq_getElem?_getD, List.getElem?_eq_getElem hx]; rfl
      rw [ex] at ev
      subst ev
      have t1 := keep hm t
      show wpAny _ A.in1 (holding [Value.str xs[i] tk] (setAdd S (.str xs[i] tk)) >>= _) _ _ s'; refine wpAny_bind (wpAny_holding ?_)
      unfold setAdd; refine wpAny_holding (wpAny_bind ((PySem.strKind P w).pyHash (k := xs[i]) (strKind_is _ _ _ _) ?_))
      have room : (uniq (xs.take i)).length + 1 < scanBound := by have := uniq_le (xs.take i); rw [List.length_take] at this; omega
      refine wpAny_setAddHashed_of (knd := PySem.strKind P w) (s := { s' with toks := s'.toks + 1 }) (strKind_is _ _ _ _) rfl t1 room fun h2 hsb hS2 => ?_
      have tn : xs.take (i + 1) = xs.take i ++ [xs[i]] := by rw [List.take_add_one, List.getElem?_eq_getElem hx]; rfl
      have t2 : h2.SetOf (PySem.strKind P w) S (fun k => decide (k ∈ xs.take (i + 1))) (uniq (xs.take (i + 1))).length := by
        refine SetOf_congr hS2 (fun k => ?_) ?_
        · rw [tn, Bool.eq_iff_iff]
          simp only [Bool.or_eq_true, decide_eq_true_eq, List.mem_append, List.mem_singleton]
        · rw [tn, uniq_snoc]
          by_cases e : xs[i] ∈ xs.take i
          · rw [if_pos ((uniq_mem _ _).mpr e)]
            show (if decide (xs[i] ∈ xs.take i) = true then _ else _) = _
            rw [if_pos (decide_eq_true e)]
          · rw [if_neg fun z => e ((uniq_mem _ _).mp z), List.length_append]
            show (if decide (xs[i] ∈ xs.take i) = true then _ else _) = _
            rw [if_neg (by rw [decide_eq_false e]; exact Bool.false_ne_true)]
            rfl
      refine wpAny_pure ⟨plainId_quiet PyProof.Rows.F.plain_set_update_loop _, ih (i + 1) _ R (by omega) hlt (W.frame _ s' _ _ st' (Nat.le_succ _) fun b hb o e => ?_) t2 fun s3 hm3 t3 => q s3 (Moved.trans W.gtrans ((hm.mono up).then_heap (Nat.le_succ _) fun b o hb e => ?_) hm3) t3⟩
      · rw [hsb.2 b fun z : b = S => hS (by rw [← z]; exact hb)]; exact e
      · rw [hsb.2 b fun z : b = S => hb (by rw [z]; exact List.mem_cons_self)]; exact e
  exact main _ 0 s R rfl (Nat.zero_le _) st t0 q
end
end DL
set_option Elab.async false
set_option linter.all false
set_option maxRecDepth 100000
set_option maxHeartbeats 4000000
/-! DMf: sorted(set(ints)), len(set(texts)), as expressions. -/
namespace DL
open PySem PySem.Spec PyProof.Rows L2
theorem intsAre_of : ∀ {ns : List Int} {us : List Value}, Vals (ns.map V.int) us → IntsAre us ns
  | [], _, .nil => .nil
  | n :: ns, _, .cons r t => by
    obtain ⟨k, rfl⟩ := r
    exact .cons n k (intsAre_of t)
def tSortSet (K : PySem.W.Frag) (ta : TE) : TE := fun σ H Q => ta σ H fun x H1 => ∃ (l : Addr) (ns : List Int), x = .ref l ∧ SqL K H1 l (ns.map V.int) ∧ ns.length < 64 ∧ ∀ (ys : List Int) (S p : Addr) (o : HO), ys.Pairwise (· < ·) → (∀ k, k ∈ ys ↔ k ∈ ns) → H1 S = none → (upd H1 S o) p = none → Q (.ref p) (upd (upd H1 S o) p (.lst (ys.map V.int)))
def tLenSetS (K : PySem.W.Frag) (ta : TE) : TE := fun σ H Q => ta σ H fun x H1 => ∃ (l : Addr) (xs : List Str), x = .ref l ∧ SqL K H1 l (xs.map V.str) ∧ xs.length ≤ 4000 ∧ Q (.int ((uniq xs).length : Nat)) H1
section
variable {X : Cx} {a : Expr} {ta : TE} {p p2 q pos : Pos}
theorem pe_sortSet (hg : Gl X "sorted") (hm : X.mg "sorted" = none) (hg2 : Gl X "set") (hm2 : X.mg "set" = none) (ha : PE X a ta) (hc : X.calm = true) (na : starEach [a] X.env = (false, eval a X.env) :: starEach [] X.env) : PE X (.Call (.Name "sorted" p) [.Call (.Name "set" p2) [a] [] q] [] pos) (tSortSet X.K ta) := by
  refine ⟨fun pins s σ H Q I h => ?_⟩
  refine Call_ (ld_blt I hg hm bi_sorted (PyProof.Rows.callWith_builtin1 (PyProof.Rows.args_cons ?_ rfl) rfl rfl))
  refine Call_ (ld_blt I hg2 hm2 boot_set (PyProof.Rows.callWith_type1 (PyProof.Rows.args_cons (thn (ha.run pins s σ H _ I h) fun v s1 ⟨x, H1, I1, r1, l, ns, ex, hq, h64, q1⟩ => PyProof.Rows.args_nil ?_) na) na rfl))
  subst ex
  cases r1
  obtain ⟨its, r, pl, hz⟩ := I1.list hq
  have hi : IntsAre its.toArray.toList ns := by simpa using intsAre_of r
  have hsz : its.toArray.size = ns.length := by rw [← IntsAre.length hi, Array.length_toList]
  refine set_of_list (I1.ok.hd hc) pl.isList (T := fun i h => ∃ c, c ≤ i ∧ SetR X.w h s1.heap.objs.size (fun j => decide (j ∈ ns.take i)) c) (fun h e => ⟨0, Nat.le_refl _, setR_new_at e⟩) (fills_ints hi (by unfold scanBound; omega)) fun h' tk ⟨c, hcn, R⟩ hk => ?_
  refine PyProof.Rows.args_nil ?_
  have I2 := I1.laid (a := s1.heap.objs.size) (h' := h') (t' := tk) hk (Nat.le_refl _) (setO_new R)
  have hn := I1.hok.fresh (Nat.le_refl s1.heap.objs.size)
  refine cr_sortedSet hc pins _ σ _ [.ref s1.heap.objs.size] _ Q I2 (.cons rfl .nil) ⟨_, _, c, rfl, upd_same, by omega, fun ys p hp hy hl hn2 => q1 ys _ p _ hp (fun k => ?_) hn hn2⟩
  rw [hy, hsz, List.take_length, decide_eq_true_iff]
theorem pe_lenSetS (hg : Gl X "len") (hm : X.mg "len" = none) (hg2 : Gl X "set") (hm2 : X.mg "set" = none) (ha : PE X a ta) (hc : X.calm = true) (na : starEach [a] X.env = (false, eval a X.env) :: starEach [] X.env) : PE X (.Call (.Name "len" p) [.Call (.Name "set" p2) [a] [] q] [] pos) (tLenSetS X.K ta) := by
  refine ⟨fun pins s σ H Q I h => ?_⟩
  refine Call_ (ld_blt I hg hm boot_len (PyProof.Rows.callWith_builtin1 (PyProof.Rows.args_cons ?_ rfl) rfl rfl))
  refine Call_ (ld_blt I hg2 hm2 boot_set (PyProof.Rows.callWith_type1 (PyProof.Rows.args_cons (thn (ha.run pins s σ H _ I h) fun v s1 ⟨x, H1, I1, r1, l, xs, ex, hq, hl, q1⟩ => PyProof.Rows.args_nil ?_) na) na rfl))
  subst ex
  cases r1
  obtain ⟨its, r, pl, hz⟩ := I1.list hq
  have hi : StrsAre its.toArray.toList xs := by simpa using strsAre_of r
  have hsz : its.toArray.size = xs.length := by rw [← StrsAre.len_eq hi, Array.length_toList]
  refine set_of_list (I1.ok.hd hc) pl.isList (T := fun i h => h.SetOf (PySem.strKind X.prog X.w) s1.heap.objs.size (fun k => decide (k ∈ xs.take i)) (uniq (xs.take i)).length) (fun h e => SetOf_congr ((setObjOf_fresh (knd := PySem.strKind X.prog X.w) _).setOf e (by unfold scanBound; omega)) (fun k => by simp) rfl) (fills_strs hi (by unfold scanBound; omega)) fun h' tk hS hk => ?_
  refine PyProof.Rows.args_nil ?_
  rw [hsz, List.take_length] at hS
  obtain ⟨o, es, ep, t, ho, hex, hd, _, _, _, hf, hn⟩ := hS
  have hle := uniq_le xs
  have I2 : Inv X pins σ H1 { s1 with heap := h', toks := tk } := I1.kept hk
  exact call_len_set ho hex hd hf (by rw [hn]; omega) ⟨.int (uniq xs).length, H1, I2.tok _, ⟨_, by rw [hn]⟩, q1⟩
variable {sg : Sg} {M : Mem} {Q : D → Mem → Prop}
theorem bi_set : bootBuiltins "set" = some (.type "set") := by decide +kernel
/-- sorted(set(ints)) -/
theorem we_sortSet (hm : X.mg "sorted" = none) (hm2 : X.mg "set" = none) (hc : X.calm = true) (h : WE X a sg M fun x M1 => ∃ ns : List Int, LsD M1 x (ns.map .int) ∧ ns.length < 64 ∧ ∀ ys : List Int, ys.Pairwise (· < ·) → (∀ k, k ∈ ys ↔ k ∈ ns) → Q (.lst (ys.map .int)) M1) (hg : Gl X "sorted" := by rfl) (hg2 : Gl X "set" := by rfl) (na : starEach [a] X.env = (false, eval a X.env) :: starEach [] X.env := by exact star1n rfl) : WE X (.Call (.Name "sorted" p) [.Call (.Name "set" p2) [a] [] q] [] pos) sg M Q :=
  WE.of (pe_sortSet hg hm hg2 hm2 pe_w hc na) fun σ H G w s => (h σ H G w s).imp fun v H1 ⟨x, G1, M1, st, w1, r1, ns, hl, h64, q⟩ => by
    obtain ⟨b, xs, rfl, hH, rx⟩ := hl.at w1 r1
    have := rx.ints
    subst this
    refine ⟨b, ns, rfl, SqL.of hH, h64, fun ys S p o hy hk hS hp => ?_⟩
    obtain ⟨w2, st2⟩ := w1.new hS (o := o)
    exact (new_lst w2 hp (rpa_ints ys) (q ys hy hk)).base (st.trans st2)
theorem RpA.strs {K : PySem.W.Frag} {G : Hp} : ∀ {vs : List V} {xs : List Str}, RpA K G vs (xs.map D.str) → vs = xs.map V.str
  | _, [], .nil => rfl
  | _, x :: xs, .cons h r => by
    cases h
    rw [RpA.strs r]
    rfl
/-- len(set(texts)) -/
theorem we_lenSet (hm : X.mg "len" = none) (hm2 : X.mg "set" = none) (hc : X.calm = true) (h : WE X a sg M fun x M1 => ∃ xs : List Str, LsD M1 x (xs.map .str) ∧ xs.length ≤ 4000 ∧ Q (.int ((uniq xs).length : Nat)) M1) (hg : Gl X "len" := by rfl) (hg2 : Gl X "set" := by rfl) (na : starEach [a] X.env = (false, eval a X.env) :: starEach [] X.env := by exact star1n rfl) : WE X (.Call (.Name "len" p) [.Call (.Name "set" p2) [a] [] q] [] pos) sg M Q :=
  WE.of (pe_lenSetS hg hm hg2 hm2 pe_w hc na) fun σ H G w s => (h σ H G w s).imp fun v H1 ⟨x, G1, M1, st, w1, r1, xs, hl, hz, q⟩ => by
    obtain ⟨b, ys, rfl, hH, rx⟩ := hl.at w1 r1
    have := rx.strs
    subst this
    exact ⟨b, xs, rfl, SqL.of hH, hz, .int _, G1, M1, st, w1, .int _, q⟩
end
end DL
set_option Elab.async false
set_option linter.all false
set_option maxRecDepth 100000
set_option maxHeartbeats 4000000
/-! DMg: texts, and the top's own tuples of texts. -/
namespace DL
open PySem L2 PyProof.Rows
def sgn (c : Nat) : Str := ⟨#[c]⟩
def strIs : Value → Str → Bool
  | .str y _, x => y == x
  | _, _ => false
def strsAre : List Value → List Str → Bool
  | [], [] => true
  | u :: us, x :: xs => strIs u x && strsAre us xs
  | _, _ => false
/-- the top's tuple at a, of these texts -/
def tupOk (K : PySem.W.Frag) (a : Addr) (xs : List Str) : Bool := match K.lookup a with
  | some ⟨.type t, none, .seq its _, _⟩ => decide (t = "tuple") && (strsAre its.toList xs && decide (its.size ≤ 1000))
  | _ => false
theorem vals_of_strs : ∀ {us : List Value} {xs : List Str}, strsAre us xs = true → Vals (xs.map V.str) us
  | [], [], _ => .nil
  | [], _ :: _, h => by cases h
  | _ :: _, [], h => by cases h
  | u :: us, x :: xs, h => by
    obtain ⟨h1, h2⟩ := Bool.and_eq_true_iff.mp h
    cases u with
    | str y t =>
      have : y = x := eq_of_beq h1
      subst this
      exact .cons ⟨t, rfl⟩ (vals_of_strs h2)
    | _ => cases h1
structure GT (K : PySem.W.Frag) (a : Addr) (xs : List Str) : Prop where
  sq : ∀ H : Hp, SqT K H a (xs.map V.str)
  ty : ∃ o, K.lookup a = some o ∧ o.cls = .type "tuple" ∧ o.dict = none
theorem gt_of {K : PySem.W.Frag} {a : Addr} {xs : List Str} (h : tupOk K a xs = true) : GT K a xs := by
  unfold tupOk at h
  split at h
  · rename_i t its n sl e
    simp only [Bool.and_eq_true, decide_eq_true_eq] at h
    obtain ⟨rfl, h2, h3⟩ := h
    exact ⟨fun H => .inr ⟨_, its, n, e, rfl, rfl, Nat.le_trans h3 (by decide), vals_of_strs h2⟩, _, e, rfl, rfl⟩
  · cases h
theorem ty_gt {K : PySem.W.Frag} {M : Mem} {a : Addr} {xs : List Str} (g : GT K a xs) : ∀ G H v, Wd K G M H → Rp K G v (.ptr a) → tyV K "tuple" v H := fun G H v w r => by
  cases r
  exact .inr (.inl ⟨rfl, g.ty⟩)
theorem ty_str {K : PySem.W.Frag} {M : Mem} {x : Str} : ∀ G H v, Wd K G M H → Rp K G v (.str x) → tyV K "str" v H := fun G H v w r => by
  cases r
  rfl
section
variable {K : PySem.W.Frag} {M : Mem} {Q : D → Mem → Prop}
theorem inV_strs (x : Str) : ∀ ys : List Str, inV (.str x) (ys.map V.str) = decide (x ∈ ys)
  | [] => rfl
  | y :: ys => by
    have ih := inV_strs x ys
    unfold inV at ih ⊢
    rw [List.map_cons, List.any_cons, ih]
    show ((y == x) || decide (x ∈ ys)) = decide (x ∈ y :: ys)
    rw [Bool.eq_iff_iff]
    simp only [Bool.or_eq_true, beq_iff_eq, decide_eq_true_eq, List.mem_cons]
    exact ⟨fun h => h.imp Eq.symm id, fun h => h.imp Eq.symm id⟩
theorem flat_strs2 (ys : List Str) : (ys.map V.str).all flatV = true := by
  rw [List.all_map]
  exact List.all_eq_true.mpr fun _ _ => rfl
/-- x in NAME, a tuple of texts -/
theorem od_inG {x : Str} {a : Addr} {ys : List Str} (g : GT K a ys) (q : Q (.bl (decide (x ∈ ys))) M) : OpD K (rIn K false) (.str x) (.ptr a) M Q := fun G H v u R w rx ry k => by
  cases rx; cases ry
  refine ⟨a, ys.map V.str, rfl, .inr (g.sq H), rfl, flat_strs2 ys, ?_⟩
  show R (.bl (inV (.str x) (ys.map V.str))) H
  rw [inV_strs]
  exact k _ _ (PV.here w (.bl _) q)
/-- NAME.index(z) -/
theorem md_indexG {a : Addr} {ys : List Str} {z : Str} {j : Nat} (g : GT K a ys) (hj : ys[j]? = some z) (hno : ∀ m, m < j → ys[m]? ≠ some z) (q : Q (.int (j : Int)) M) : MtD K (fun x xs H Q => ∃ p, ∃ ys : List Str, ∃ z j, x = .ref p ∧ xs = [.str z] ∧ SqT K H p (ys.map V.str) ∧ ys[j]? = some z ∧ (∀ m, m < j → ys[m]? ≠ some z) ∧ Q (.int (j : Nat)) H) (.ptr a) [.str z] M Q := fun G H v vs R w rv rs k => by
  cases rv
  obtain ⟨u, rfl, ru⟩ := rs.one
  cases ru
  exact ⟨a, ys, z, j, rfl, rfl, g.sq H, hj, hno, k _ _ (PV.here w (.int _) q)⟩
/-- s.index(t) -/
theorem md_sindex {a b : Str} {i : Nat} {rest : List Nat} (h : Builtin.Str.occurrences a b 0 a.length 1 = i :: rest) (q : Q (.int (i : Int)) M) : MtD K (fun x xs H Q => ∃ a b i rest, x = .str a ∧ xs = [.str b] ∧ Builtin.Str.occurrences a b 0 a.length 1 = i :: rest ∧ Q (.int (i : Nat)) H) (.str a) [.str b] M Q := fun G H v vs R w rv rs k => by
  cases rv
  obtain ⟨u, rfl, ru⟩ := rs.one
  cases ru
  exact ⟨a, b, i, rest, rfl, rfl, h, k _ _ (PV.here w (.int _) q)⟩
/-- sign in text -/
theorem od_inC {c : Nat} {z : Str} (q : Q (.bl (decide (c ∈ z.cps.toList))) M) : OpD K (fun x y H Q => ∃ (c : Nat) (z : Str), x = .str ⟨#[c]⟩ ∧ y = .str z ∧ Q (.bl (decide (c ∈ z.cps.toList))) H) (.str (sgn c)) (.str z) M Q := fun G H v u R w rx ry k => by
  cases rx; cases ry
  exact ⟨c, z, rfl, rfl, k _ _ (PV.here w (.bl _) q)⟩
/-- x == NAME, a tuple of texts -/
theorem od_eqG {x : D} {d : PyData} {a : Addr} {ys : List Str} (g : GT K a ys) (hx : PyD M x d) (sd : SeqAt.shaped d = true) (se : SeqAt.shaped (.tuple (ys.map PyData.str)) = true) (q : Q (.bl (PyData.eqv d (.tuple (ys.map PyData.str)))) M) : OpD K (rEqD K) x (.ptr a) M Q := fun G H v u R w rx ry k => by
  cases ry
  refine ⟨d, _, hx.dp w rx, .tup (g.sq H) ?_, sd, se, k _ _ (PV.here w (.bl _) q)⟩
  have : ∀ ys : List Str, DpAll K H (ys.map V.str) (ys.map PyData.str) := by
    intro ys
    induction ys with
    | nil => exact .nil
    | cons y ys ih => exact .cons (.str y) ih
  exact this ys
end
section
variable {X : Cx} {sg : Sg} {M : Mem} {Q : D → Mem → Prop} {Qi : List D → (Mem → Prop) → Mem → Prop} {tg e : Expr} {pos : Pos}
/-- a name of the top that holds an object -/
theorem ee_gp {x : Str} {a : Addr} (hm : X.mg x = some (.ref a)) (hg : Gl X x := by rfl) (hd : (x == ("__debug__" : Str)) = false := by decide) : EE X (.Name x pos) sg M (.ptr a) := WE.of (pe_glob (v := .ref a) hg hm rfl hd) fun σ H G w r => PV.here w (.ptr a) ⟨rfl, rfl⟩
theorem ee_gs {x y : Str} {t : Tok} (hm : X.mg x = some (.str y t)) (hg : Gl X x := by rfl) (hd : (x == ("__debug__" : Str)) = false := by decide) : EE X (.Name x pos) sg M (.str y) := we_gs hm ⟨rfl, rfl⟩ hg hd
/-- the sgnsD of a text -/
def sgnsD (x : Str) : List D := x.cps.toList.map fun c => D.str (sgn c)
theorem wi_str (h : WE X e sg M fun x M1 => ∃ z : Str, x = .str z ∧ Qi (sgnsD z) (fun _ => True) M1) : WI X tg e sg M Qi := ⟨_, pi_str pe_w, fun σ H G R w s k => (h σ H G w s).imp fun v H1 ⟨x, G1, M1, st, w1, r1, z, ez, q⟩ => by
  subst ez
  cases r1
  refine ⟨z, rfl, k _ _ (sgnsD z) _ G1 M1 st w1 (fun G2 M2 H2 gx w2 _ i => ?_) q⟩
  have hl : (sgnsD z).length = z.cps.size := by unfold sgnsD; rw [List.length_map, Array.length_toList]
  refine ⟨fun hi => by show z.cps.size ≤ i; omega, fun d hd => ?_⟩
  have hi : i < z.cps.size := by
    have := (List.getElem?_eq_some_iff.mp hd).1
    omega
  refine ⟨hi, fun x H' hy => ?_⟩
  obtain ⟨e1, c, hc, e2⟩ := hy
  subst e1; subst e2
  refine ⟨G2, .refl, w2, ?_⟩
  unfold sgnsD at hd
  rw [List.getElem?_map, Array.getElem?_toList, hc] at hd
  have hd := (Option.some.inj hd).symm
  subst hd
  exact .str _⟩
end
end DL
set_option Elab.async false
set_option linter.all false
set_option maxRecDepth 100000
set_option maxHeartbeats 4000000
/-! DMh: [e for x in xs for y in ys(x)], where nothing that may change is changed. -/
namespace DL
open PySem L2 PyProof.Rows
def wiB (X : Cx) (scope : Scope) (tg iter : Expr) : TI := fun σ H R => Blk X scope fun Y => ∃ wi, PI Y tg iter wi ∧ wi σ H R
theorem blk_pi {X : Cx} {scope : Scope} {tg iter : Expr} : ∀ (s : Shared) (H : Hp) (C : Addr) (cl : List (Str × Addr)) (fp : List Addr), PI (X.blk s H scope (compEnvC scope cl C X.env) fp) tg iter (wiB X scope tg iter) := fun s H C cl fp => ⟨fun pins t σ H1 R I h => by
  obtain ⟨wi, pi, hw⟩ := h s H C cl fp
  exact pi.run pins t σ H1 R I hw⟩
section
variable {X : Cx} {scope : Scope} {iter iter1 elt : Expr} {sg : Sg} {M : Mem} {ds : List D} {x y : Str} {px py pos : Pos}
theorem ee_lc22 (i j : Nat) (g : D → List D) (f : D → D → D) (hc : X.calm = true) (hN : X.N.Nodup) (hi : WI X (.Name x px) iter sg M (ItQ ds M)) (hz : (ds.flatMap g).length < sizeLine)
    (h1 : ∀ (a : Nat) (d : D), ds[a]? = some d → Blk X scope fun Y => WI Y (.Name y py) iter1 ((wipeD sg [i, j]).set i (some d)) M (ItQ (g d) M))
    (h2 : ∀ (a b : Nat) (d e : D), ds[a]? = some d → (g d)[b]? = some e → Blk X scope fun Y => EE Y elt ((wipeD ((wipeD sg [i, j]).set i (some d)) [j]).set j (some e)) M (f d e))
    (ok : BlkOk X.N X.env.scope scope [(x, i), (y, j)] := by exact blkOk_by (by with_unfolding_all rfl)) (hx : scope.names.lookup x = some .local ∨ scope.names.lookup x = some .cell := by first | exact Or.inl rfl | exact Or.inr rfl) (hy : scope.names.lookup y = some .local ∨ scope.names.lookup y = some .cell := by first | exact Or.inl rfl | exact Or.inr rfl)
    (hs : ∀ x, foldedSetIterable iter X.env x = pure x := by intro _; rfl) (hs1 : ∀ env x, foldedSetIterable iter1 env x = pure x := by intro _ _; rfl) : EE X (.ListComp elt [⟨.Name x px, iter, [], 0⟩, ⟨.Name y py, iter1, [], 0⟩] scope pos) sg M (.lst (ds.flatMap fun d => (g d).map (f d))) := by
  obtain ⟨wi, pi, hw⟩ := hi
  have hix := ok.ix (x, i) (by simp)
  have hjy := ok.ix (y, j) (by simp)
  refine WE.of (pe_lc2 (own := [(x, i), (y, j)]) (vs1 := [j]) hc hN pi ok (by simp) blk_pg (fun _ _ _ _ _ => pts_nil) blk_pi blk_pg (fun _ _ _ _ _ => pts_nil) blk_pe hs hs1) fun σ H G w s => hw σ H G _ w s fun J H0 ds' C G0 M0 st0 w0 it ⟨e1, e2, hC⟩ => fun p hp => ?_
  subst e1; subst e2
  obtain ⟨g0, m0⟩ := w0.free hp
  have s0 := s.mono (st0.gx w)
  have hf0 : ∀ u, M0.b.H p = some u → M0.b.M p = none → False := fun u e m => w0.fresh hp e m
  -- what the list holds
  let F : List D → List D := fun l => l.flatMap fun d => (g d).map (f d)
  let St : Hp → List D → Hp → Hp → Prop := fun Gb acc G1 H1 => ∃ xs, Stp G0 M0 H0 G1 M0 H1 ∧ Gx Gb G1 ∧ Wd X.K G1 M0 H1 ∧ H1 p = some (.lst xs) ∧ G1 p = none ∧ RpA X.K G1 xs acc
  have flen : ∀ l : List D, (F l).length = (l.flatMap g).length := fun l => by
    show (l.flatMap fun d => (g d).map (f d)).length = _
    induction l with
    | nil => rfl
    | cons a l ih => rw [List.flatMap_cons, List.flatMap_cons, List.length_append, List.length_append, ih, List.length_map]
  have hF : ∀ n, (F (ds'.take n)).length ≤ (F ds').length := fun n => by
    have := congrArg (fun l => (F l).length) (List.take_append_drop n ds')
    show ((ds'.take n).flatMap _).length ≤ _
    have e : (F (ds'.take n ++ ds'.drop n)).length = (F (ds'.take n)).length + (F (ds'.drop n)).length := by
      show ((ds'.take n ++ ds'.drop n).flatMap _).length = _
      rw [List.flatMap_append, List.length_append]
    have this : (F (ds'.take n ++ ds'.drop n)).length = (F ds').length := this
    show (F (ds'.take n)).length ≤ _
    omega
  refine ⟨fun a m H1 => m = ds'.length - a ∧ a ≤ ds'.length ∧ ∃ G1, St G0 (F (ds'.take a)) G1 H1, ⟨ds'.length, rfl, Nat.zero_le _, G0, [], ⟨fun x o e m => ⟨by rw [upd_ne (ne_of_none e hp)]; exact e, rfl, m⟩, rfl⟩, Gx.refl _, w0.other g0 m0 hf0, upd_same, g0, .nil⟩, ?_⟩
  rintro a m H1 ⟨rfl, hle, G1, xs, st1, gx1, w1, h1p, g1, ra⟩
  obtain ⟨stop, go⟩ := it G1 M0 H1 gx1 w1 hC a
  by_cases hlt : a < ds'.length
  · obtain ⟨go1, yld⟩ := go ds'[a] (List.getElem?_eq_getElem hlt)
    have tn : ds'.take (a + 1) = ds'.take a ++ [ds'[a]] := by rw [List.take_add_one, List.getElem?_eq_getElem hlt]; rfl
    have hFn : F (ds'.take (a + 1)) = F (ds'.take a) ++ (g ds'[a]).map (f ds'[a]) := by
      show (ds'.take (a + 1)).flatMap _ = _
      rw [tn, List.flatMap_append]
      show _ ++ [ds'[a]].flatMap _ = _
      rw [List.flatMap_cons, List.flatMap_nil, List.append_nil]
    refine .inr ⟨go1, fun H2 => ∃ G2, St G0 (F (ds'.take (a + 1))) G2 H2, fun H2 n => ⟨ds'.length - (a + 1), by omega, rfl, hlt, n⟩, fun v H' hv => ?_⟩
    obtain ⟨G2, st2, w2, rx⟩ := yld v H' hv
    obtain ⟨h2p, g2, _⟩ := st2.keep p _ h1p m0
    have sw : SRp X.K G2 (wipeD sg [i, j]) (wipe σ [i, j]) := wipe_rp (s0.mono (gx1.trans (st2.gx w1))) [i, j]
    intro t5 H5 C5 cl5 fp5
    refine blk_name (vs := [i, j]) i hN hx hix t5 H5 C5 cl5 fp5 (wipe σ [i, j]) H' G2 M0 v _ w2 sw rx fun σ2 s2 l2 o2 => ⟨wipe_same (is := [i]) (fun q hq => by rw [List.mem_singleton.mp hq]; simp) l2 o2, ?_⟩
    dsimp only [tYes]
    rw [if_pos rfl]
    intro t6 H6 C6 cl6 fp6
    obtain ⟨wi1, pi1, hw1⟩ := h1 a ds'[a] (List.getElem?_eq_getElem hlt) t6 H6 C6 cl6 fp6
    refine ⟨wi1, pi1, hw1 σ2 H' G2 _ w2 s2 fun J1 H4 es C1 G3 M3 st3 w3 it1 ⟨e1, e2, hC1⟩ => ?_⟩
    subst e2
    have e1' := e1
    obtain ⟨h3p, g3, _⟩ := st3.keep p _ h2p m0
    have gx3 : Gx G1 G3 := (st2.gx w1).trans (st3.gx w2)
    have s3 := s2.mono (st3.gx w2)
    refine ⟨fun b k H7 => k = es.length - b ∧ b ≤ es.length ∧ ∃ G4, St G3 (F (ds'.take a) ++ (es.take b).map (f ds'[a])) G4 H7, ⟨es.length, rfl, Nat.zero_le _, G3, xs, (st1.trans st2).trans st3, Gx.refl _, w3, h3p, by rw [g3, g2, g1], by
      show RpA X.K G3 xs (F (ds'.take a) ++ [])
      rw [List.append_nil]
      exact ra.mono gx3⟩, ?_⟩
    rintro b k H7 ⟨rfl, hle1, G4, ys, st4, gx4, w4, h4p, g4, rb⟩
    obtain ⟨stop1, go1'⟩ := it1 G4 M3 H7 gx4 w4 hC1 b
    by_cases hlt1 : b < es.length
    · obtain ⟨go2, yld1⟩ := go1' es[b] (List.getElem?_eq_getElem hlt1)
      have tb : es.take (b + 1) = es.take b ++ [es[b]] := by rw [List.take_add_one, List.getElem?_eq_getElem hlt1]; rfl
      refine .inr ⟨go2, fun H8 => ∃ G5, St G3 (F (ds'.take a) ++ (es.take (b + 1)).map (f ds'[a])) G5 H8, fun H8 n => ⟨es.length - (b + 1), by omega, rfl, hlt1, n⟩, fun u H8 hu => ?_⟩
      obtain ⟨G5, st5, w5, ru⟩ := yld1 u H8 hu
      obtain ⟨h5p, g5, _⟩ := st5.keep p _ h4p m0
      have sw2 : SRp X.K G5 (wipeD ((wipeD sg [i, j]).set i (some ds'[a])) [j]) (wipe σ2 [j]) := wipe_rp (s3.mono (gx4.trans (st5.gx w4))) [j]
      intro t9 H9 C9 cl9 fp9
      refine blk_name (vs := [j]) j hN hy hjy t9 H9 C9 cl9 fp9 (wipe σ2 [j]) H8 G5 M3 u _ w5 sw2 ru fun σ3 s4 l3 o3 => ⟨wipe_same (is := [j]) (fun q hq => hq) l3 o3, ?_⟩
      dsimp only [tYes]
      rw [if_pos rfl]
      intro ta Ha Ca cla fpa
      refine (h2 a b ds'[a] es[b] (List.getElem?_eq_getElem hlt) (by rw [← e1']; exact List.getElem?_eq_getElem hlt1) ta Ha Ca cla fpa σ3 H8 G5 w5 s4).imp fun z Hb ⟨d, G6, M6, st6, w6, r6, q1, q2⟩ => ?_
      subst q1; subst q2
      obtain ⟨h6p, g6, _⟩ := st6.keep p _ h5p m0
      have gx6 : Gx G4 G6 := (st5.gx w4).trans (st6.gx w5)
      have g6' : G6 p = none := by rw [g6, g5, g4]
      have stA := (st4.trans st5).trans st6
      have hle2 : (F (ds'.take a) ++ (es.take b).map (f ds'[a])).length < sizeLine := by
        have k1 := hF (a + 1)
        rw [hFn, ← e1'] at k1
        rw [List.length_append, List.length_map] at k1
        rw [List.length_append, List.length_map, List.length_take]
        have k2 := flen ds'
        omega
      refine ⟨ys, h6p, by rw [rb.length]; exact hle2, G6, ys ++ [z], ⟨fun c o e m => ?_, stA.base⟩, gx4.trans gx6, w6.other g6' m0 (by rw [← stA.base] at hf0; exact hf0), upd_same, g6', ?_⟩
      · obtain ⟨a1, a2, a3⟩ := stA.keep c o e m
        exact ⟨by rw [upd_ne (ne_of_none e hp)]; exact a1, a2, a3⟩
      · rw [tb, List.map_append, ← List.append_assoc]
        exact (rb.mono gx6).append (.cons r6 .nil)
    · have e : b = es.length := by omega
      subst e
      refine .inl ⟨stop1 rfl, G4, ys, st4, (gx1.trans gx3).trans gx4, w4, h4p, g4, ?_⟩
      rw [List.take_length] at rb
      rw [hFn, ← e1']
      exact rb
  · have e : a = ds'.length := by omega
    subst e
    obtain ⟨w2, gx2⟩ := w1.adopt h1p g1 m0 (by rw [← st1.base] at hf0; exact hf0)
    rw [List.take_length] at ra
    refine .inl ⟨stop rfl, PV.base st0 ⟨.lst (F ds'), _, M0, ⟨fun z o e m => ?_, st1.base⟩, w2, .lst upd_same (ra.mono gx2), rfl, rfl⟩⟩
    obtain ⟨a1, a2, a3⟩ := st1.keep z o e m
    exact ⟨a1, by rw [upd_ne (ne_of_none e hp)]; exact a2, a3⟩
end
end DL
set_option Elab.async false
set_option linter.all false
set_option maxRecDepth 100000
set_option maxHeartbeats 4000000
/-! DMi: l[::-1] of a list. -/
namespace DL
open PySem L2 PyProof.Rows HT
section
variable {X : Cx} {sg : Sg} {M : Mem} {Q : D → Mem → Prop} {pos : Pos}
def tRevL (K : PySem.W.Frag) (te : TE) : TE := fun σ H R => te σ H fun x H1 => ∃ a xs, x = .ref a ∧ SqL K H1 a xs ∧ ∀ p, H1 p = none → R (.ref p) (upd H1 p (.lst xs.reverse))
theorem pe_revL {e : Expr} {te : TE} {k : Nat} {p1 p2 p3 : Pos} (he : PE X e te) : PE X (.Subscript e (.Slice none none (some (.UnaryOp .USub (.Constant (.int 1) k p1) p2)) p3) pos) (tRevL X.K te) := by
  refine ⟨fun pins s σ H R I h => ?_⟩
  refine Subscript_ (thn (he.run pins s σ H _ I h) fun v s1 ⟨x, H1, I1, r1, a, xs, ex, hx, q⟩ => ?_)
  subst ex
  cases r1
  have hst : PO X (some (.UnaryOp .USub (.Constant (.int 1) k p1) p2)) (tPart (tUn (rU fun i => .int (-i)) (tC (.int 1)))) := po_some (pe_un un_neg pe_int)
  refine wpAny_Slice (thn (po_none.run pins s1 σ H1 (fun o H2 => o = none ∧ H2 = H1) I1 ⟨rfl, rfl⟩) fun vl s2 ⟨l, H2, I2, pl, el, e2⟩ => ?_)
  subst el e2
  refine thn (po_none.run pins s2 σ H2 (fun o H3 => o = none ∧ H3 = H2) I2 ⟨rfl, rfl⟩) fun vu s3 ⟨u, H3, I3, pu, eu, e3⟩ => ?_
  subst eu e3
  refine thn (hst.run pins s3 σ H3 (fun o H4 => o = some (-1) ∧ H4 = H3) I3 ⟨1, rfl, -1, rfl, rfl, rfl⟩) fun vs s4 ⟨o, H4, I4, ps, eo, e4⟩ => ?_
  subst eo e4
  have I5 : Inv X pins σ H4 { s4 with heap := s4.heap.push { cls := .type "slice", data := .fields #[vl, vu, vs] } } := I4.kept (t' := s4.toks) fun b ob z => Heap.get?_push_of_some _ z
  obtain ⟨its, r, ht, hz⟩ := I5.list hx
  have hlen := r.length
  show wpAny _ X.A (subscriptTail e (.Slice none none (some (.UnaryOp .USub (.Constant (.int 1) k p1) p2)) p3) (.ref a) (.ref s4.heap.objs.size)) _ X.xe { s4 with heap := s4.heap.push { cls := .type "slice", data := .fields #[vl, vu, vs] } }
  refine tail_any (ops := [.ref a, .ref s4.heap.objs.size]) ht.isList.typeIs slot_list_getitem.lookup ?_ (by with_unfolding_all rfl)
  refine wpAny_getItem_list_slice ht.isList (Heap.IsSliceOf.new _ vl vu vs) pl pu ps (by decide) ?_ (by rw [List.size_toArray]; omega)
  rw [PySem.W.krv_pick]
  refine ⟨.ref _, _, I5.laid (t' := s4.toks) (o := .lst xs.reverse) (fun b ob z => Heap.get?_push_of_some _ z) (Nat.le_refl _) ?_, rfl, q _ (I5.hok.fresh (Nat.le_refl _))⟩
  exact ⟨by rw [List.length_reverse]; exact hz, its.reverse, 0, r.reverse, Heap.get?_push_size _ rfl⟩
theorem we_revL {e : Expr} {k : Nat} {p1 p2 p3 : Pos} (h : WE X e sg M fun x M1 => ∃ ds, LsD M1 x ds ∧ Q (.lst ds.reverse) M1) : WE X (.Subscript e (.Slice none none (some (.UnaryOp .USub (.Constant (.int 1) k p1) p2)) p3) pos) sg M Q := WE.of (pe_revL pe_w) fun σ H G w s => (h σ H G w s).imp fun v H1 ⟨x, G1, M1, st, w1, r1, ds, l, q⟩ => by
  obtain ⟨b, ys, rfl, hH, rx⟩ := l.at w1 r1
  exact ⟨_, _, rfl, SqL.of hH, fun p hp => (new_lst w1 hp rx.reverse q).base st⟩
end
end DL
set_option Elab.async false
set_option linter.all false
set_option maxRecDepth 100000
set_option maxHeartbeats 4000000
/-! DMj: zip of two tuples; the top leaves set and dict alone. -/
namespace DL
open PySem L2 PyProof.Rows
section
variable {X : Cx} {sg : Sg} {M : Mem} {pos : Pos} {Qi : List D → (Mem → Prop) → Mem → Prop}
/-- zip of two tuples -/
theorem wi_zipT {e e2 : Expr} {p tpos : Pos} {elts : List Expr} {kk : Nat} (hm : X.mg "zip" = none) (h : WA X [e, e2] sg M fun xs M1 => ∃ ds es, xs = [.tup ds, .tup es] ∧ Qi (List.zipWith (fun a b => .tup [a, b]) ds es) (fun _ => True) M1) (hg : Gl X "zip" := by rfl) (hs : starEach [e, e2] X.env = (false, eval e X.env) :: starEach [e2] X.env := by exact star1 rfl) (hpl : (backTo pos (starEach [e2] X.env)).any (·.1) = false := by exact starN rfl) : WI X (.Tuple elts kk tpos) (.Call (.Name "zip" p) [e, e2] [] pos) sg M Qi := ⟨_, RZ.pi_zipA hg hm pa_w hs hpl, fun σ H G R w s k => (h σ H G w s).imp fun vs H1 ⟨xs, G1, M1, st, w1, r1, ds, es, e, q⟩ => by
  subst e
  obtain ⟨v, u, rfl, rv, ru⟩ := r1.two
  cases rv with
  | @tup a ys _ h1 rx =>
    cases ru with
    | @tup b zs _ h2 ry =>
      refine ⟨a, b, ys, zs, rfl, .inr ⟨SqT.of (w1.sub _ _ h1), SqT.of (w1.sub _ _ h2), k _ _ _ _ G1 M1 st w1 (fun G2 M2 H2 gx w2 _ i => ?_) q⟩⟩
      have g1 : SqT X.K H2 a ys := SqT.of (w2.sub _ _ (gx _ _ h1))
      have g2 : SqT X.K H2 b zs := SqT.of (w2.sub _ _ (gx _ _ h2))
      have rx2 := rx.mono gx
      have ry2 := ry.mono gx
      refine ⟨fun hi => ⟨ys, zs, g1, g2, ?_⟩, fun d hd => ?_⟩
      · rw [List.length_zipWith] at hi
        rw [rx2.length, ry2.length]
        omega
      · rw [List.getElem?_zipWith] at hd
        cases ea : ds[i]? with
        | none => rw [ea] at hd; cases hd
        | some c =>
          cases eb : es[i]? with
          | none => rw [ea, eb] at hd; cases hd
          | some c' =>
            rw [ea, eb] at hd
            have ed := (Option.some.inj hd).symm
            subst ed
            obtain ⟨z, hz, rd⟩ := rx2.get ea
            obtain ⟨z', hz', rd'⟩ := ry2.get eb
            refine ⟨⟨ys, zs, z, z', g1, g2, hz, hz'⟩, fun t H' ⟨T, y1, y2, e1, e2, e3, e4, e5⟩ => ?_⟩
            subst e1; subst e3
            have q1 := (e4 ys g1).symm.trans hz
            have q2 := (e5 zs g2).symm.trans hz'
            cases q1; cases q2
            exact new_pair w2 e2 rd rd'⟩
end
structure Bl2 (mg : Str → Option Value) : Prop where
  set : mg "set" = none
  dict : mg "dict" = none
theorem bi_dict : bootBuiltins "dict" = some (.type "dict") := by decide +kernel
end DL
set_option Elab.async false
set_option linter.all false
set_option maxRecDepth 100000
set_option maxHeartbeats 4000000
/-! DMk: targets that write to instances; None is False. -/
namespace DL
open PySem PySem.Spec L2 PyProof.Rows
/-- a target's store, the memory behind it -/
def WGm (X : Cx) (tg : Expr) (d : D) (sg : Sg) (M : Mem) (Q : Sg → Mem → Prop) : Prop := ∃ g, PG X tg g ∧ ∀ (σ : L2.St) (H G : Hp) (v : V) (R : L2.St → Hp → Prop), Wd X.K G M H → SRp X.K G sg σ → Rp X.K G v d → (∀ σ' H', PN X.K G M H Q σ' H' → R σ' H') → g v σ H R
def WGms (X : Cx) (tgs : List Expr) (ds : List D) (sg : Sg) (M : Mem) (Q : Sg → Mem → Prop) : Prop := ∃ g, PGs X tgs g ∧ ∀ (σ : L2.St) (H G : Hp) (vs : List V) (R : L2.St → Hp → Prop), Wd X.K G M H → SRp X.K G sg σ → RpA X.K G vs ds → (∀ σ' H', PN X.K G M H Q σ' H' → R σ' H') → g vs σ H R
section
variable {X : Cx} {tg e o : Expr} {tgs : List Expr} {d : D} {ds : List D} {sg : Sg} {M : Mem} {Q : Sg → Mem → Prop} {pos tp : Pos} {f x : Str} {E : EndsD}
theorem wgms_nil (q : Q sg M) : WGms X [] [] sg M Q := ⟨_, pgs_nil, fun σ H G vs R w s r k => by
  cases r
  exact ⟨rfl, k σ H ⟨sg, G, M, Stp.refl, w, s, q⟩⟩⟩
theorem wgms_cons (h : WGm X tg d sg M fun sg1 M1 => WGms X tgs ds sg1 M1 Q) (hs : (assignEach (tg :: tgs) X.env).map (·.2) = assign tg X.env :: (assignEach tgs X.env).map (·.2) := by rfl) : WGms X (tg :: tgs) (d :: ds) sg M Q := by
  obtain ⟨g, pg, hg⟩ := h
  -- the rest's own reading, whatever state it starts from
  refine ⟨gCons g (fun vs σ H R => ∃ (G : Hp) (sg1 : Sg) (M1 : Mem), Wd X.K G M1 H ∧ SRp X.K G sg1 σ ∧ RpA X.K G vs ds ∧ (∃ g1, PGs X tgs g1 ∧ g1 vs σ H R)), pgs_cons pg ⟨fun pins s σ H vs us R I r ⟨_, _, _, _, _, _, g1, p1, q1⟩ => p1.run pins s σ H vs us R I r q1⟩ hs, fun σ H G vs R w s r k => ?_⟩
  cases r with
  | cons r1 r2 =>
    refine ⟨_, _, rfl, hg σ H G _ _ w s r1 fun σ1 H1 ⟨sg1, G1, M1, st1, w1, s1, g1, p1, q1⟩ => ⟨G1, sg1, M1, w1, s1, r2.mono (st1.gx w), g1, p1, q1 σ1 H1 G1 _ _ w1 s1 (r2.mono (st1.gx w)) fun σ2 H2 ⟨sg2, G2, M2, st2, w2, s2, q2⟩ => k σ2 H2 ⟨sg2, G2, M2, st1.trans st2, w2, s2, q2⟩⟩⟩
theorem wgm_tup {n : Nat} (hc : X.calm = true) (h : WGms X tgs ds sg M Q) (hn : (assignEach tgs X.env).length = ds.length := by rfl) (hst : (assignEach tgs X.env).findIdx? (·.1) = none := by rfl) : WGm X (.Tuple tgs n pos) (.tup ds) sg M Q := by
  obtain ⟨g, pg, hg⟩ := h
  refine ⟨_, pg_tup hc pg hn hst, fun σ H G v R w s r k => ?_⟩
  cases r with
  | tup h1 r1 => exact ⟨_, _, rfl, SqT.of (w.sub _ _ h1), r1.length, hg σ H G _ R w s r1 k⟩
/-- a name -/
theorem wgm_name (i : Nat) (hN : X.N.Nodup) (q : Q (sg.set i (some d)) M) (hi : X.N[i]? = some x := by rfl) (hx : Loc X.env.scope x := by first | exact Or.inl rfl | exact Or.inr rfl) (hf : X.fn x = true ∨ X.env.scope.names.lookup x = some .local := by first | exact .inl rfl | exact .inr rfl) : WGm X (.Name x tp) d sg M Q := ⟨_, pg_name hN hi hx hf, fun σ H G v R w s r k => k _ H ⟨_, G, M, Stp.refl, w, s.set i r, q⟩⟩
/-- o.f -/
theorem wgm_fld (h : WE X o sg M fun z M1 => ∃ a C fs, z = .ptr a ∧ M1 a = some (.ins C fs) ∧ Cls X.K C ∧ NoAttr X.K C f ∧ fs.length < 1000 ∧ Q sg (updM M1 a (some (.ins C (putD f d fs))))) : WGm X (.Attribute o f tp) d sg M Q := ⟨_, pg_fld pe_w, fun σ H G v R w s r k => (h σ H G w s).imp fun z H1 ⟨dz, G1, M1, st, w1, r1, a, C, fs, e1, hm, c, n, hl, q⟩ => by
  subst e1
  cases r1
  obtain ⟨dx, vs, hH, kv⟩ := ins_at w1 hm
  obtain ⟨w2, st2⟩ := w1.write hm (o := .ins C dx (putF f v vs)) (mo := .ins C (putD f d fs)) ⟨_, _, upd_same, kvd_put (r.mono (st.gx w)) kv⟩
  exact ⟨a, C, dx, vs, rfl, hH, c, n, by rw [kvd_len kv]; exact hl, k σ _ ⟨sg, G1, _, st.trans st2, w2, s.mono ((st.trans st2).gx w), q⟩⟩⟩
/-- target = e -/
theorem ws_asgm (h : WE X e sg M fun d M1 => WGm X tg d sg M1 E.nx) (hs : swapsWithSole [tg] e pos.line X.env = pure false := by rfl) (hw : swappedStores [tg] e X.env = pure none := by rfl) (h1 : (assignEach [tg] X.env).map (·.2) = [assign tg X.env] := by rfl) : WS X (.Assign [tg] e pos) sg M E :=
  WS.of (ps_asg pe_w (g := fun v σ H R => ∃ g, PG X tg g ∧ g v σ H R) ⟨fun pins s σ H v u R I r ⟨g, pg, q⟩ => pg.run pins s σ H v u R I r q⟩ hs hw h1) fun σ H G w s => (h σ H G w s).imp fun v H1 ⟨d, G1, M1, st, w1, r1, g, pg, q⟩ => ⟨g, pg, q σ H1 G1 v _ w1 (s.mono (st.gx w)) r1 fun σ' H' ⟨sg2, G2, M2, st2, w2, s2, q2⟩ => ⟨sg2, G2, M2, st.trans st2, w2, s2, q2⟩⟩
/-- None is True, None is False -/
theorem op_isNB : OpR X (compareOp .Is) (fun x y H Q => x = .non ∧ ∃ b : Bool, y = .bl b ∧ Q (.bl false) H) := by
  intro pins s σ H x y v u Q I rx ry h
  obtain ⟨rfl, b, rfl, q⟩ := h
  cases (show v = Value.none from rx)
  cases (show u = Value.bool b from ry)
  exact wpAny_is_other rfl (fun z => nomatch z) ⟨.bl false, H, I, rfl, q⟩
theorem od_isNB {K : PySem.W.Frag} {b : Bool} {Q : D → Mem → Prop} (q : Q (.bl false) M) : OpD K (fun x y H Q => x = .non ∧ ∃ b : Bool, y = .bl b ∧ Q (.bl false) H) .non (.bl b) M Q := fun G H v u R w rx ry k => by
  cases rx; cases ry
  exact ⟨rfl, b, rfl, k _ _ (PV.here w (.bl _) q)⟩
end
end DL
set_option Elab.async false
set_option linter.all false
set_option maxRecDepth 100000
set_option maxHeartbeats 4000000
/-! DMl: walks over a locked dict's keys. -/
namespace DL
open PySem L2 PyProof.Rows
section
variable {X : Cx} {sg : Sg} {M : Mem} {tg e : Expr} {Qi : List D → (Mem → Prop) → Mem → Prop}
theorem wi_keys (h : WE X e sg M fun x M1 => ∃ d o vs kvs, x = .ptr d ∧ M1 d = some (.fdc o vs kvs) ∧ Qi (kvs.map fun p => kD p.1) (fun M => M d = some (.fdc o vs kvs)) M1) : WI X tg e sg M Qi := ⟨_, pi_keys pe_w, fun σ H G R w s k => (h σ H G w s).imp fun v H1 ⟨x, G1, M1, st, w1, r1, d, o, vs, kvs, ex, hm, q⟩ => by
  subst ex
  cases r1
  obtain ⟨hH, kv⟩ := (w1.mem _ _ hm).2
  refine ⟨d, o, rfl, .inl ⟨vs, hH, k _ _ _ _ G1 M1 st w1 (fun G2 M2 H2 gx w2 hm2 i => ?_) q⟩⟩
  obtain ⟨hH2, kv2⟩ := (w2.mem _ _ hm2).2
  have hl : (kvs.map fun p => kD p.1).length = vs.length := by rw [List.length_map, kvk_len kv]
  refine ⟨fun hi => ⟨hH2, by omega⟩, fun y hy => ?_⟩
  have hi : i < vs.length := by have := (List.getElem?_eq_some_iff.mp hy).1; omega
  refine ⟨⟨hH2, hi⟩, fun z H' ⟨e1, kk, vv, h1, h2⟩ => ?_⟩
  subst e1; subst h2
  refine ⟨G2, .refl, w2, ?_⟩
  have hk : (vs.map (·.1))[i]? = some kk := by rw [List.getElem?_map, h1]; rfl
  rw [kv.1, List.getElem?_map] at hk
  rw [List.getElem?_map] at hy
  cases hp : kvs[i]? with
  | none => rw [hp] at hk; cases hk
  | some p =>
    rw [hp] at hk hy
    have e2 : p.1 = kk := Option.some.inj hk
    have e3 : kD p.1 = y := Option.some.inj hy
    rw [← e3, e2]
    exact rp_kD kk⟩
end
end DL
set_option Elab.async false
set_option linter.all false
set_option maxRecDepth 100000
set_option maxHeartbeats 4000000
/-! DMm: list(dict), d.get(k). -/
namespace DL
open PySem L2 PyProof.Rows
section
variable {K : PySem.W.Frag} {M : Mem} {Q : D → Mem → Prop}
theorem rpa_keys {G : Hp} : ∀ {vs : List (Key × V)} {kvs : KD}, vs.map (·.1) = kvs.map (·.1) → RpA K G (vs.map fun kv => kV kv.1) (kvs.map fun p => kD p.1)
  | [], [], _ => .nil
  | [], _ :: _, h => by simp at h
  | _ :: _, [], h => by simp at h
  | q :: vs, p :: kvs, h => by
    have e1 : q.1 = p.1 := (List.cons.inj h).1
    rw [List.map_cons, List.map_cons, e1]
    exact .cons (rp_kD p.1) (rpa_keys (List.cons.inj h).2)
/-- list(d), d a dict that may change -/
theorem cd_listD {p : Addr} {kvs : KD} (hm : M p = some (.dic kvs)) (q : Q (.lst (kvs.map fun p => kD p.1)) M) : ClD K rListD [.ptr p] M Q := fun G H vs R w r k => by
  obtain ⟨v, rfl, rv⟩ := r.one
  cases rv
  obtain ⟨xs, hH, kv⟩ := (w.mem _ _ hm).2
  exact ⟨p, xs, rfl, hH, fun l hl => k _ _ (new_lst w hl (rpa_keys kv.1) q)⟩
end
section
variable {X : Cx} {sg : Sg} {M : Mem} {o e : Expr} {apos cpos : Pos} {Q : D → Mem → Prop}
/-- d.get(k) -/
theorem we_getm (hu : X.A.units + 1 < cLine) (h : WE X o sg M fun x M1 => ∃ p kvs, x = .ptr p ∧ M1 p = some (.dic kvs) ∧ WE X e sg M1 fun y M2 => ∃ kvs k, y = kD k ∧ M2 p = some (.dic kvs) ∧ Q ((gk kvs k).getD .non) M2) (m : M1 X o "get" apos e cpos) : WE X (.Call (.Attribute o "get" apos) [e] [] cpos) sg M Q :=
  WE.of (pe_dget1 hu pe_w pe_w m) fun σ H G w s => (h σ H G w s).imp fun x H1 ⟨dx, G1, M1, st, w1, r1, p, kvs, e1, hm, q1⟩ => by
    subst e1
    cases r1
    obtain ⟨vs, hH, kv⟩ := (w1.mem _ _ hm).2
    refine ⟨p, rfl, .inl ⟨vs, .inl hH⟩, (q1 σ H1 G1 w1 (s.mono (st.gx w))).imp fun y H2 ⟨dy, G2, M2, st2, w2, r2, kvs2, k, e2, hm2, q⟩ => ?_⟩
    subst e2
    have := kD_of r2
    subst this
    obtain ⟨vs2, hH2, kv2⟩ := (w2.mem _ _ hm2).2
    refine ⟨valV vs2 k, .inl ⟨vs2, k, .inl hH2, rfl, rfl⟩, ?_⟩
    rcases gk_rp k kv2 with ⟨z1, z2⟩ | ⟨d', v', g1, g2, r⟩
    · rw [z1] at q
      rw [z2]
      exact ⟨.non, G2, M2, st.trans st2, w2, .non, q⟩
    · rw [g1] at q
      rw [g2]
      exact ⟨d', G2, M2, st.trans st2, w2, r, q⟩
end
end DL
set_option Elab.async false
set_option linter.all false
set_option maxRecDepth 100000
set_option maxHeartbeats 4000000
/-! DMn: sorted(set(texts)): a set of texts with its table. -/
namespace DL
open PySem PySem.Spec PyProof.Rows L2
def txt (e : Int × Value) : Str := match e.2 with | .str x _ => x | _ => Str.empty
def TxtE (w : World) (e : Int × Value) : Prop := ∃ x tk, e = (hashStr w x, Value.str x tk)
/-- the set at a holds the texts l, in a table that can be walked -/
def TabS (w : World) (h : Heap) (a : Addr) (l : List Str) : Prop := ∃ o es ep t, h.get? a = some o ∧ o.ExactSet ∧ o.data = .set es ep t ∧ (∀ e ∈ es.toList, TxtE w e) ∧ (es.toList.map txt).Perm l ∧
  es.size < scanBound ∧ t.fits es.size = true ∧ Ris t.place.toList ∧ (w.params.followText "set-order" = true ∨ t.led = true)
section
variable {P : Program} {w : World} {A : Around} {E : Value → Shared → Prop} {s : Shared} {a : Addr} {l : List Str}
theorem txt_el {es : List (Int × Value)} (g : ∀ e ∈ es, TxtE w e) : ElemsOf (PySem.strKind P w) es := fun e he => by
  obtain ⟨x, tk, rfl⟩ := g e he
  exact ⟨⟨x, strKind_is P w x tk, rfl⟩, rfl⟩
theorem txt_mem {es : List (Int × Value)} (g : ∀ e ∈ es, TxtE w e) (k : Str) : (∃ e ∈ es, (PySem.strKind P w).is k e.2 = true) ↔ k ∈ es.map txt := by
  rw [List.mem_map]
  refine exists_congr fun e => and_congr_right fun he => ?_
  obtain ⟨x, tk, rfl⟩ := g e he
  show (PySem.strKind P w).is k (.str x tk) = true ↔ x = k
  rw [KeyKind.is_eq_decide (strKind_is P w x tk) k, decide_eq_true_iff]
  exact eq_comm
theorem TabS.keep {h h' : Heap} (t : TabS w h a l) (k : ∀ o, h.get? a = some o → h'.get? a = some o) : TabS w h' a l := by
  obtain ⟨o, es, ep, tb, ho, r⟩ := t
  exact ⟨o, es, ep, tb, k o ho, r⟩
theorem tab_tail {g : Bool → Sem Unit} (hg : ∀ (b : Bool) (z : Shared) (Z : Unit → Shared → Prop), Z () z → wpAny (model P w) A (g b) Z E z) {o : Obj} {es fs : Array (Int × Value)} {ep : Nat} {t tb : SetTable} (ho : s.heap.get? a = some o) (hx : o.ExactSet) (hd : o.data = .set es ep t)
    (gf : ∀ e ∈ fs.toList, TxtE w e) (pf : (fs.toList.map txt).Perm l) (bf : fs.size < scanBound) (ff : tb.fits fs.size = true) (rf : Ris tb.place.toList) (lf : w.params.followText "set-order" = true ∨ tb.led = true) {wd : Bool} {R : Option Bool → Shared → Prop}
    (fin : ∀ h', Heap.SameBut a s.heap h' → TabS w h' a l → R (some true) { s with heap := h' }) :
    wpAny (model P w) A (do
      storeSet a fs tb
      if (!wd && tb.tooFull) = true then do
          g (relayAll tb fs (SetTable.grown fs.size)).2.2
          storeSet a (relayAll tb fs (SetTable.grown fs.size)).1 (relayAll tb fs (SetTable.grown fs.size)).2.1
          pure (some true)
        else pure (some true)) R E s := by
  refine wpAny_bind (wpAny_storeSet_of ho hd ?_ (fits_of_scanBound bf))
  have o1 := store_at (es' := fs) (t' := tb) ho hd
  have u1 := Heap.SameBut.update s.heap a (Obj.putSet fs tb)
  split
  · have q1 := relayAll_perm tb fs (SetTable.grown fs.size)
    have q2 := relayAll_fits tb fs (SetTable.grown fs.size)
    have q3 := relayAll_ris tb fs (SetTable.grown fs.size)
    have q4 := relayAll_led tb fs (SetTable.grown fs.size)
    generalize relayAll tb fs (SetTable.grown fs.size) = Y at q1 q2 q3 q4 ⊢
    obtain ⟨gs, tc, gave⟩ := Y
    dsimp only at q1 q2 q3 q4 ⊢
    have z1 : gs.size < scanBound := by
      have z2 := q1.length_eq
      rw [Array.length_toList, Array.length_toList] at z2
      rw [z2]; exact bf
    refine wpAny_bind (hg _ _ _ ?_)
    refine wpAny_bind (wpAny_storeSet_of o1 rfl ?_ (fits_of_scanBound z1))
    exact wpAny_pure (fin _ (u1.trans (Heap.SameBut.update _ a _)) ⟨_, gs, _, tc, store_at o1 rfl, hx, rfl, fun e he => gf e (q1.mem_iff.mp he), (q1.map txt).trans pf, z1, q2, q3, lf.imp id fun z => by rw [q4]; exact z⟩)
  · exact wpAny_pure (fin _ u1 ⟨_, fs, _, tb, o1, hx, rfl, gf, pf, bf, ff, rf, lf⟩)
theorem tab_add {k : Str} {tk : Tok} {Q : Bool → Shared → Prop} (T : TabS w s.heap a l) (room : l.length + 1 < scanBound)
    (fin : ∀ b h', Heap.SameBut a s.heap h' → TabS w h' a (if k ∈ l then l else l ++ [k]) → Q b { s with heap := h' }) :
    wpAny (model P w) A (setAddHashed a (.str k tk) ((PySem.strKind P w).hash k)) Q E s := by
  obtain ⟨o, es, ep, t, ho, hx, hd, g, pm, hb, hf, hr, hl⟩ := T
  have hk : (PySem.strKind P w).is k (.str k tk) = true := strKind_is P w k tk
  have hc : (Value.str k tk).scannable = true := rfl
  have el : ElemsOf (PySem.strKind P w) es.toList := txt_el g
  unfold setAddHashed setAddHashedIn
  refine wpAny_holding (wpAny_bind (wpAny_setState_of ho hd hf ?_))
  dsimp only
  rw [byScan_of hc hb el]
  simp only [↓reduceIte]
  unfold setAddByScan
  refine wpAny_bind ?_
  refine wpAny_bind (wpAny_rule ?_)
  refine wpAny_bind (wpAny_setScan_of hk ho hd hf el ?_)
  cases hfi : List.findIdx? (fun e => (PySem.strKind P w).is k e.2) es.toList with
  | some j =>
    dsimp only
    obtain ⟨hj, pj, _⟩ := List.findIdx?_eq_some_iff_getElem.mp hfi
    have hin : k ∈ l := pm.mem_iff.mp ((txt_mem (P := P) g k).mp ⟨_, List.getElem_mem hj, pj⟩)
    have q := fin false s.heap (Heap.SameBut.refl a s.heap) (by rw [if_pos hin]; exact ⟨o, es, ep, t, ho, hx, hd, g, pm, hb, hf, hr, hl⟩)
    exact wpAny_pure (wpAny_pure q)
  | none =>
    dsimp only
    have hno : k ∉ l := fun z => by
      obtain ⟨e, he, q⟩ := (txt_mem (P := P) g k).mpr (pm.mem_iff.mpr z)
      have c := List.findIdx?_eq_none_iff.mp hfi e he
      rw [q] at c
      cases c
    rw [if_neg hno] at fin
    have gw : ∀ (b : Bool) {z : Shared} {Z : Unit → Shared → Prop}, Z () z → wpAny (model P w) A (match b with | true => rule "set.scan.the-table-gave-way" | false => pure ()) Z E z := fun b z Z q => by
      cases b
      · exact wpAny_pure q
      · exact wpAny_rule q
    have n1 := layNew_perm t es ((PySem.strKind P w).hash k) (.str k tk)
    have n2 := layNew_fits t es ((PySem.strKind P w).hash k) (.str k tk)
    have n3 := layNew_ris t es ((PySem.strKind P w).hash k) (.str k tk) hr
    have n4 := layNew_led t es ((PySem.strKind P w).hash k) (.str k tk)
    generalize layNew t es ((PySem.strKind P w).hash k) (.str k tk) = Y at n1 n2 n3 n4 ⊢
    obtain ⟨fs, tb, wd, gave⟩ := Y
    dsimp only at n1 n2 n3 n4 ⊢
    rw [Array.toList_push] at n1
    have gf : ∀ e ∈ fs.toList, TxtE w e := fun e he => by
      rcases List.mem_append.mp (n1.mem_iff.mp he) with z | z
      · exact g e z
      · rw [List.mem_singleton.mp z]; exact ⟨k, tk, rfl⟩
    have pf : (fs.toList.map txt).Perm (l ++ [k]) := by
      have := n1.map txt
      rw [List.map_append] at this
      exact this.trans (pm.append_right [k])
    have bf : fs.size < scanBound := by
      have := pf.length_eq
      rw [List.length_map, Array.length_toList, List.length_append] at this
      rw [this]; exact room
    have lf : w.params.followText "set-order" = true ∨ tb.led = true := hl.imp id fun z => by rw [n4]; exact z
    refine wpAny_bind (gw _ ?_)
    split
    · refine wpAny_bind ?_
      rw [hashByValue_scannable 8 hc]
      refine wpAny_pure ?_
      refine tab_tail (l := l ++ [k]) ?_ ho hx hd gf pf bf ?_ ?_ ?_ ?_
      · intro b z Z q
        cases b
        · first | exact wpAny_pure q | exact wpAny_rule q
        · first | exact wpAny_rule q | exact wpAny_pure q
      · first | exact n2 | (split <;> first | exact n2 | exact SetTable.fits_plain_off n2)
      · first | exact n3 | (split <;> exact n3)
      · first | exact lf | (split <;> exact lf)
      · intro h' sb r; dsimp only; exact wpAny_pure (fin true h' sb r)
    · refine wpAny_bind (wpAny_pure ?_)
      simp only [↓reduceIte]
      refine tab_tail (l := l ++ [k]) ?_ ho hx hd gf pf bf n2 n3 lf ?_
      · intro b z Z q
        cases b
        · first | exact wpAny_pure q | exact wpAny_rule q
        · first | exact wpAny_rule q | exact wpAny_pure q
      · intro h' sb r; dsimp only; exact wpAny_pure (fin true h' sb r)
theorem tab_new {h : Heap} {S : Addr} (e : h.get? S = some (fset w)) : TabS w h S [] :=
  ⟨_, #[], 0, _, e, ⟨rfl, rfl, rfl⟩, rfl, (fun e he => by simp at he), List.Perm.refl _, by decide, by rfl, List.Pairwise.nil, by
    show _ ∨ (!w.params.followText "set-order") = true
    cases w.params.followText "set-order"
    · exact .inr rfl
    · exact .inl rfl⟩
/-- set(texts), walkable -/
theorem fills_tab {items : Array Value} {S : Addr} {xs : List Str} (hi : StrsAre items.toList xs) (hb : xs.length + 1 < scanBound) : Fills P w items S fun i h => TabS w h S (uniq (xs.take i)) := fun A I fp wr G St R s W hS st t0 q => by
  have hsz : items.size = xs.length := by rw [← StrsAre.len_eq hi, Array.length_toList]
  have hSw : S ∉ wr := fun h => hS (W.sub _ h)
  have up : ∀ b ∈ wr, b ∈ S :: wr := fun b hb => List.mem_cons_of_mem _ hb
  have main : ∀ (k i : Nat) (s : Shared) (R : Result → Shared → Prop), items.size - i = k → i ≤ items.size → St i s → TabS w s.heap S (uniq (xs.take i)) →
      (∀ s', Moved (S :: wr) G s s' → TabS w s'.heap S (uniq (xs.take items.size)) → R (.ok (.ret .none)) s') → codeAny (model P w) A (.builtin "set.update.loop" ⟨[.ref S, .ref I], []⟩) R s := by
    intro k
    induction k with
    | zero =>
      intro i s R hk hi2 st t q
      have e : i = items.size := by omega
      subst e
      refine codeAny_builtin PyProof.Rows.F.entry_set_update_loop ?_; rw [Around.under_plainId PyProof.Rows.F.plain_set_update_loop _]
      show wpAny _ A.in1 (pyNext (.ref I) >>= _) _ _ s; refine wpAny_bind (W.done s _ _ st fun s' hm => ?_)
      show wpAny _ A.in1 (ret Value.none) _ _ s'; exact wpAny_pure (q s' (hm.mono up) (t.keep fun o => hm.heap S o hSw))
    | succ k ih =>
      intro i s R hk hi2 st t q
      have hlt : i < items.size := by omega
      have hx : i < xs.length := by omega
      refine codeAny_builtin PyProof.Rows.F.entry_set_update_loop ?_; rw [Around.under_plainId PyProof.Rows.F.plain_set_update_loop _]
      show wpAny _ A.in1 (pyNext (.ref I) >>= _) _ _ s; refine wpAny_bind (W.item i s _ _ hlt st fun v s' hP st' hm => ?_)
      obtain ⟨tk, ev⟩ := SS.strs_at hi i v (by rw [Array.getElem?_toList]; exact hP)
      have ex : xs.getD i Str.empty = xs[i] := by rw [List.getD_eq_getElem?_getD, List.getElem?_eq_getElem hx]; rfl
      rw [ex] at ev
      subst ev
      have t1 : TabS w s'.heap S (uniq (xs.take i)) := t.keep fun o => hm.heap S o hSw
      show wpAny _ A.in1 (holding [Value.str xs[i] tk] (setAdd S (.str xs[i] tk)) >>= _) _ _ s'; refine wpAny_bind (wpAny_holding ?_)
      unfold setAdd; refine wpAny_holding (wpAny_bind ((PySem.strKind P w).pyHash (k := xs[i]) (strKind_is _ _ _ _) ?_))
      have room : (uniq (xs.take i)).length + 1 < scanBound := by have := uniq_le (xs.take i); rw [List.length_take] at this; omega
      refine tab_add (s := { s' with toks := s'.toks + 1 }) t1 room fun b0 h2 hsb t2 => ?_
      rw [← uniq_snoc, show xs.take i ++ [xs[i]] = xs.take (i + 1) by rw [List.take_add_one, List.getElem?_eq_getElem hx]; rfl] at t2
      refine wpAny_pure ⟨plainId_quiet PyProof.Rows.F.plain_set_update_loop _, ih (i + 1) _ R (by omega) hlt (W.frame _ s' _ _ st' (Nat.le_succ _) fun b hb o e => ?_) t2 fun s3 hm3 t3 => q s3 (Moved.trans W.gtrans ((hm.mono up).then_heap (Nat.le_succ _) fun b o hb e => ?_) hm3) t3⟩
      · rw [hsb.2 b fun z : b = S => hS (by rw [← z]; exact hb)]; exact e
      · rw [hsb.2 b fun z : b = S => hb (by rw [z]; exact List.mem_cons_self)]; exact e
  exact main _ 0 s R rfl (Nat.zero_le _) st t0 q
theorem strs_txt : ∀ (vs : List Value), (∀ v ∈ vs, ∃ x tk, v = Value.str x tk) → StrsAre vs (vs.map fun v => txt (0, v))
  | [], _ => .nil
  | v :: vs, h => by
    obtain ⟨x, tk, rfl⟩ := h v List.mem_cons_self
    exact .cons x tk (strs_txt vs fun u hu => h u (List.mem_cons_of_mem _ hu))
/-- sorted of such a set -/
theorem tab_sorted {Q : Value → Shared → Prop} (T : TabS w s.heap a l) (hh : A.handled = none) (h64 : l.length < 64)
    (fin : ∀ s' p (out : Array Value) (c : Nat) (ys : List Str), (∀ b o, s.heap.get? b = some o → s'.heap.get? b = some o) → s'.gens = s.gens → s'.os = s.os → s.heap.objs.size ≤ p →
      s'.heap.get? p = some (seqObj "list" out c) → StrsAre out.toList ys → ys.Perm l → sortedS ys = true → Q (.ref p) s') :
    wpAny (model P w) A (call (.builtin "sorted") [.ref a]) Q E s := by
  obtain ⟨o, es, ep, t, ho, hx, hd, g, pm, hb, hf, hr, hl⟩ := T
  refine Calls.call_function_entry kind_sorted plain_sorted entry_sorted (args_sorted1 _) ?_
  unfold Builtin.«sorted»
  refine wpAny_bind (m := checkCount "sorted" 1 1 _) (wpAny_pure ?_)
  refine wpAny_bind (collect_set (A := A.in1) hh ⟨o, ho, hx.1, hd⟩ hf hb hr hl fun s1 vs k1 hz g1 o1 pv => ?_)
  have hS : StrsAre vs (vs.map fun v => txt (0, v)) := strs_txt vs fun v hv => by
    obtain ⟨e, he, q⟩ := List.mem_map.mp (pv.mem_iff.mp hv)
    obtain ⟨x, tk, rfl⟩ := g e he
    exact ⟨x, tk, q.symm⟩
  have pk : (vs.map fun v => txt (0, v)).Perm l := by
    have := pv.map fun v => txt (0, v)
    rw [List.map_map] at this
    exact this.trans pm
  have hv : vs.length < 64 := by
    have := pk.length_eq
    rw [List.length_map] at this
    rw [this]; exact h64
  refine wpAny_bind (wpAny_newList ?_ (by rw [sizeLine_eq]; omega))
  have hL : (s1.heap.push (seqObj "list" vs.toArray 0)).get? s1.heap.objs.size = some (seqObj "list" vs.toArray 0) := Heap.get?_push_size _ rfl
  refine wpAny_bind (wpAny_holding (wpAny_call_entry slot_list_sort ⟨_, hL, rfl⟩ entry_list_sort (list_sort_treeK strKind_oneLt hL hS.keysOf (fun v₁ v₂ rest e => keyKind_strs (by rw [← e]; exact hS)) hv fun st' hp hs => ⟨_, rfl, ?_⟩) (args_list_sort _)))
  obtain ⟨ys, y1, y2, y3⟩ := sorted_out_str hS hp hs
  obtain ⟨c, hcc⟩ := sortedHeap_at (vs := vs) (out := (arrOf st').map (·.2)) hL
  refine wpAny_pure ⟨_, rfl, fin _ s1.heap.objs.size _ c ys (fun b u e => ?_) g1 o1 hz hcc y1 (y2.trans pk) y3⟩
  have q := k1 b u e
  have hlt := Heap.lt_size q
  show (sortedHeap (s1.heap.push (seqObj "list" vs.toArray 0)) s1.heap.objs.size vs _).get? b = some u
  rw [sortedHeap_old (Nat.ne_of_lt hlt) (by rw [size_push']; exact Nat.lt_succ_of_lt hlt)]
  exact Heap.get?_push_of_some _ q
end
def tSortSetS (K : PySem.W.Frag) (ta : TE) : TE := fun σ H Q => ta σ H fun x H1 => ∃ (l : Addr) (xs : List Str), x = .ref l ∧ SqL K H1 l (xs.map V.str) ∧ xs.length < 64 ∧ ∀ (ys : List Str) (p : Addr), ys.Perm (uniq xs) → sortedS ys = true → H1 p = none → Q (.ref p) (upd H1 p (.lst (ys.map V.str)))
section
variable {X : Cx} {a : Expr} {ta : TE} {p p2 q pos : Pos}
theorem pe_sortSetS (hg : Gl X "sorted") (hm : X.mg "sorted" = none) (hg2 : Gl X "set") (hm2 : X.mg "set" = none) (ha : PE X a ta) (hc : X.calm = true) (na : starEach [a] X.env = (false, eval a X.env) :: starEach [] X.env) : PE X (.Call (.Name "sorted" p) [.Call (.Name "set" p2) [a] [] q] [] pos) (tSortSetS X.K ta) := by
  refine ⟨fun pins s σ H Q I h => ?_⟩
  refine Call_ (ld_blt I hg hm bi_sorted (PyProof.Rows.callWith_builtin1 (PyProof.Rows.args_cons ?_ rfl) rfl rfl))
  refine Call_ (ld_blt I hg2 hm2 boot_set (PyProof.Rows.callWith_type1 (PyProof.Rows.args_cons (thn (ha.run pins s σ H _ I h) fun v s1 ⟨x, H1, I1, r1, l, xs, ex, hq, h64, q1⟩ => PyProof.Rows.args_nil ?_) na) na rfl))
  subst ex
  cases r1
  obtain ⟨its, r, pl, hz⟩ := I1.list hq
  have hi : StrsAre its.toArray.toList xs := by simpa using strsAre_of r
  have hsz : its.toArray.size = xs.length := by rw [← StrsAre.len_eq hi, Array.length_toList]
  refine set_of_list (I1.ok.hd hc) pl.isList (T := fun i h => TabS X.w h s1.heap.objs.size (uniq (xs.take i))) (fun h e => tab_new e) (fills_tab hi (by unfold scanBound; omega)) fun h' tk hS hk => ?_
  refine PyProof.Rows.args_nil ?_
  rw [hsz, List.take_length] at hS
  have hle := uniq_le xs
  have I2 : Inv X pins σ H1 { s1 with heap := h', toks := tk } := I1.kept hk
  refine tab_sorted hS (I2.ok.hd hc) (by omega) fun s' p0 out c ys k g o hp hcc y1 y2 y3 => ?_
  have hlen : (ys.map V.str).length ≤ sizeLine := by rw [List.length_map, y2.length_eq, sizeLine_eq]; omega
  have hn : H1 p0 = none := I2.hok.fresh hp
  have J : Inv X pins σ (upd H1 p0 (.lst (ys.map V.str))) { ({ s1 with heap := h', toks := tk } : Shared) with heap := s'.heap, gens := s'.gens, drawn := s'.drawn, toks := s'.toks } :=
    I2.call (ch := []) (Un.laid k hp hn) (I2.hok.laid k hp ⟨hlen, out.toList, c, L2.vals_of_strs y1, hcc⟩) (by rw [g]; exact I2.bare) (fun _ z => nomatch z)
  have e : s' = { ({ s1 with heap := h', toks := tk } : Shared) with heap := s'.heap, gens := s'.gens, drawn := s'.drawn, toks := s'.toks } := by
    cases s'
    cases s1
    cases o
    rfl
  rw [e]
  exact ⟨.ref p0, _, J, rfl, q1 ys p0 y2 y3 hn⟩
variable {sg : Sg} {M : Mem} {Q : D → Mem → Prop}
theorem rpa_strs {K : PySem.W.Frag} {G : Hp} : ∀ xs : List Str, RpA K G (xs.map V.str) (xs.map D.str)
  | [] => .nil
  | x :: xs => .cons (.str x) (rpa_strs xs)
/-- sorted(set(texts)) -/
theorem we_sortSetS (hm : X.mg "sorted" = none) (hm2 : X.mg "set" = none) (hc : X.calm = true) (h : WE X a sg M fun x M1 => ∃ xs : List Str, LsD M1 x (xs.map .str) ∧ xs.length < 64 ∧ ∀ ys : List Str, ys.Perm (uniq xs) → sortedS ys = true → Q (.lst (ys.map .str)) M1) (hg : Gl X "sorted" := by rfl) (hg2 : Gl X "set" := by rfl) (na : starEach [a] X.env = (false, eval a X.env) :: starEach [] X.env := by exact star1n rfl) : WE X (.Call (.Name "sorted" p) [.Call (.Name "set" p2) [a] [] q] [] pos) sg M Q :=
  WE.of (pe_sortSetS hg hm hg2 hm2 pe_w hc na) fun σ H G w s => (h σ H G w s).imp fun v H1 ⟨x, G1, M1, st, w1, r1, xs, hl, h64, q⟩ => by
    obtain ⟨b, zs, rfl, hH, rx⟩ := hl.at w1 r1
    have := rx.strs
    subst this
    refine ⟨b, xs, rfl, SqL.of hH, h64, fun ys p hy hs hp => ?_⟩
    exact (new_lst w1 hp (rpa_strs ys) (q ys hy hs)).base st
end
end DL
set_option Elab.async false
set_option linter.all false
set_option maxRecDepth 100000
set_option maxHeartbeats 4000000
namespace K23
open PySem L2 PyProof.Rows DL
def topS (i : Nat) : Stmt := PySem.Challenge.pw_changestold_k23_whole_parts_copied_anew.main.body.getD i (.Pass ⟨0, 0, 0, 0⟩)
abbrev s_is_name : Stmt := topS 4
theorem sc_is_name : FnScope ["value", "sign"] ["value"] (defScope s_is_name) := ⟨rfl, rfl, rfl, by decide +kernel, rfl, by decide +kernel, by decide +kernel⟩
-- is_name: value 0, sign 1
abbrev s_is_number : Stmt := topS 5
theorem sc_is_number : FnScope ["value", "least", "most"] ["value", "least", "most"] (defScope s_is_number) := ⟨rfl, rfl, rfl, by decide +kernel, rfl, by decide +kernel, by decide +kernel⟩
-- is_number: value 0, least 1, most 2
abbrev s_is_ascending : Stmt := topS 6
theorem sc_is_ascending : FnScope ["rows", "k"] ["rows"] (defScope s_is_ascending) := ⟨rfl, rfl, rfl, by decide +kernel, rfl, by decide +kernel, by decide +kernel⟩
-- is_ascending: rows 0, k 1
abbrev s_is_value : Stmt := topS 16
theorem sc_is_value : FnScope ["kind", "value", "sign"] ["kind", "value"] (defScope s_is_value) := ⟨rfl, rfl, rfl, by decide +kernel, rfl, by decide +kernel, by decide +kernel⟩
-- is_value: kind 0, value 1, sign 2
abbrev s_is_field : Stmt := topS 17
theorem sc_is_field : FnScope ["value"] ["value"] (defScope s_is_field) := ⟨rfl, rfl, rfl, by decide +kernel, rfl, by decide +kernel, by decide +kernel⟩
-- is_field: value 0
abbrev s_is_schema : Stmt := topS 18
theorem sc_is_schema : FnScope ["value", "row"] ["value"] (defScope s_is_schema) := ⟨rfl, rfl, rfl, by decide +kernel, rfl, by decide +kernel, by decide +kernel⟩
-- is_schema: value 0, row 1
abbrev s_is_row : Stmt := topS 19
theorem sc_is_row : FnScope ["schema", "value", "field", "part"] ["schema", "value"] (defScope s_is_row) := ⟨rfl, rfl, rfl, by decide +kernel, rfl, by decide +kernel, by decide +kernel⟩
-- is_row: schema 0, value 1, field 2, part 3
abbrev s_is_table : Stmt := topS 20
theorem sc_is_table : FnScope ["value", "row"] ["value"] (defScope s_is_table) := ⟨rfl, rfl, rfl, by decide +kernel, rfl, by decide +kernel, by decide +kernel⟩
-- is_table: value 0, row 1
abbrev s_is_state : Stmt := topS 21
theorem sc_is_state : FnScope ["value", "table"] ["value"] (defScope s_is_state) := ⟨rfl, rfl, rfl, by decide +kernel, rfl, by decide +kernel, by decide +kernel⟩
-- is_state: value 0, table 1
abbrev s_table_in : Stmt := topS 22
theorem sc_table_in : FnScope ["state", "name", "found", "table"] ["state", "name"] (defScope s_table_in) := ⟨rfl, rfl, rfl, by decide +kernel, rfl, by decide +kernel, by decide +kernel⟩
-- table_in: state 0, name 1, found 2, table 3
abbrev s_row_in : Stmt := topS 23
theorem sc_row_in : FnScope ["table", "key", "found", "row"] ["table", "key"] (defScope s_row_in) := ⟨rfl, rfl, rfl, by decide +kernel, rfl, by decide +kernel, by decide +kernel⟩
-- row_in: table 0, key 1, found 2, row 3
abbrev s_digits_of : Stmt := topS 28
theorem sc_digits_of : FnScope ["number", "found"] ["number"] (defScope s_digits_of) := ⟨rfl, rfl, rfl, by decide +kernel, rfl, by decide +kernel, by decide +kernel⟩
-- digits_of: number 0, found 1
abbrev s_number_bytes : Stmt := topS 29
theorem sc_number_bytes : FnScope ["number", "digits"] ["number"] (defScope s_number_bytes) := ⟨rfl, rfl, rfl, by decide +kernel, rfl, by decide +kernel, by decide +kernel⟩
-- number_bytes: number 0, digits 1
abbrev s_check_of : Stmt := topS 30
theorem sc_check_of : FnScope ["data", "found", "byte"] ["data"] (defScope s_check_of) := ⟨rfl, rfl, rfl, by decide +kernel, rfl, by decide +kernel, by decide +kernel⟩
-- check_of: data 0, found 1, byte 2
abbrev s_text_bytes : Stmt := topS 33
theorem sc_text_bytes : FnScope ["text", "sign"] ["text"] (defScope s_text_bytes) := ⟨rfl, rfl, rfl, by decide +kernel, rfl, by decide +kernel, by decide +kernel⟩
-- text_bytes: text 0, sign 1
abbrev s_value_bytes : Stmt := topS 34
theorem sc_value_bytes : FnScope ["value"] ["value"] (defScope s_value_bytes) := ⟨rfl, rfl, rfl, by decide +kernel, rfl, by decide +kernel, by decide +kernel⟩
-- value_bytes: value 0
abbrev s_row_bytes : Stmt := topS 35
theorem sc_row_bytes : FnScope ["row", "value", "byte"] ["row"] (defScope s_row_bytes) := ⟨rfl, rfl, rfl, by decide +kernel, rfl, by decide +kernel, by decide +kernel⟩
-- row_bytes: row 0, value 1, byte 2
abbrev s_row_check : Stmt := topS 39
theorem sc_row_check : FnScope ["row", "data"] ["row"] (defScope s_row_check) := ⟨rfl, rfl, rfl, by decide +kernel, rfl, by decide +kernel, by decide +kernel⟩
-- row_check: row 0, data 1
abbrev s_rows_between : Stmt := topS 40
theorem sc_rows_between : FnScope ["table", "low", "high", "row"] ["table", "low", "high"] (defScope s_rows_between) := ⟨rfl, rfl, rfl, by decide +kernel, rfl, by decide +kernel, by decide +kernel⟩
-- rows_between: table 0, low 1, high 2, row 3
abbrev s_range_check : Stmt := topS 41
theorem sc_range_check : FnScope ["table", "low", "high", "rows", "row"] ["table", "low", "high"] (defScope s_range_check) := ⟨rfl, rfl, rfl, by decide +kernel, rfl, by decide +kernel, by decide +kernel⟩
-- range_check: table 0, low 1, high 2, rows 3, row 4
abbrev s_answer_to : Stmt := topS 46
theorem sc_answer_to : FnScope ["table", "question", "word", "low", "high"] ["table", "question"] (defScope s_answer_to) := ⟨rfl, rfl, rfl, by decide +kernel, rfl, by decide +kernel, by decide +kernel⟩
-- answer_to: table 0, question 1, word 2, low 3, high 4
abbrev s_mended : Stmt := topS 47
theorem sc_mended : FnScope ["mine", "other", "small", "repair"] ["mine", "other", "small"] (defScope s_mended) := ⟨rfl, rfl, rfl, by decide +kernel, rfl, by decide +kernel, by decide +kernel⟩
-- mended: mine 0, other 1, small 2, repair 3
abbrev s_schemas_differing : Stmt := topS 48
theorem sc_schemas_differing : FnScope ["one", "other", "mine", "yours", "table", "names", "name"] ["one", "other"] (defScope s_schemas_differing) := ⟨rfl, rfl, rfl, by decide +kernel, rfl, by decide +kernel, by decide +kernel⟩
-- schemas_differing: one 0, other 1, mine 2, yours 3, table 4, names 5, name 6
abbrev s_rows_differing : Stmt := topS 50
theorem sc_rows_differing : FnScope ["old", "new", "found", "table", "before", "keys", "row", "key"] ["old", "new"] (defScope s_rows_differing) := ⟨rfl, rfl, rfl, by decide +kernel, rfl, by decide +kernel, by decide +kernel⟩
-- rows_differing: old 0, new 1, found 2, table 3, before 4, keys 5, row 6, key 7
abbrev s_law_box : Stmt := topS 52
theorem sc_law_box : FnScope ["script"] ["script"] (defScope s_law_box) := ⟨rfl, rfl, rfl, by decide +kernel, rfl, by decide +kernel, by decide +kernel⟩
-- _law_box: script 0
abbrev s_law_load : Stmt := topS 53
theorem sc_law_load : FnScope ["box", "cells", "cell", "size", "first", "second"] ["box"] (defScope s_law_load) := ⟨rfl, rfl, rfl, by decide +kernel, rfl, by decide +kernel, by decide +kernel⟩
-- _law_load: box 0, cells 1, cell 2, size 3, first 4, second 5
abbrev s_law_draw : Stmt := topS 54
theorem sc_law_draw : FnScope ["box", "many", "digit"] ["box", "many"] (defScope s_law_draw) := ⟨rfl, rfl, rfl, by decide +kernel, rfl, by decide +kernel, by decide +kernel⟩
-- _law_draw: box 0, many 1, digit 2
abbrev s_law_same : Stmt := topS 55
theorem sc_law_same : FnScope ["a", "b", "k"] ["a", "b"] (defScope s_law_same) := ⟨rfl, rfl, rfl, by decide +kernel, rfl, by decide +kernel, by decide +kernel⟩
-- _law_same: a 0, b 1, k 2
abbrev s_law_rows : Stmt := topS 56
theorem sc_law_rows : FnScope ["box", "many", "made", "k", "key"] ["box", "many"] (defScope s_law_rows) := ⟨rfl, rfl, rfl, by decide +kernel, rfl, by decide +kernel, by decide +kernel⟩
-- _law_rows: box 0, many 1, made 2, k 3, key 4
abbrev s_law_others : Stmt := topS 57
theorem sc_law_others : FnScope ["box", "rows", "made", "row", "step", "key", "one"] ["box", "rows"] (defScope s_law_others) := ⟨rfl, rfl, rfl, by decide +kernel, rfl, by decide +kernel, by decide +kernel⟩
-- _law_others: box 0, rows 1, made 2, row 3, step 4, key 5, one 6
abbrev s_law_mended : Stmt := topS 58
theorem sc_law_mended : FnScope ["name", "schema", "rows", "others", "small", "waiting", "asked", "copied", "here", "turn", "word", "low", "high", "told", "row", "middle", "split"] ["name", "schema", "rows", "others", "small"] (defScope s_law_mended) := ⟨rfl, rfl, rfl, by decide +kernel, rfl, by decide +kernel, by decide +kernel⟩
-- _law_mended: name 0, schema 1, rows 2, others 3, small 4, waiting 5, asked 6, copied 7, here 8, turn 9, word 10, low 11, high 12, told 13, row 14, middle 15, split 16
abbrev s_law : Stmt := topS 59
theorem sc_law : FnScope ["script", "box", "schema", "turn", "rows", "others", "small", "mine", "other", "asked", "here", "copied", "repair", "k", "word", "low", "high", "due", "row", "state", "there", "wide", "told"] ["script"] (defScope s_law) := ⟨rfl, rfl, rfl, by decide +kernel, rfl, by decide +kernel, by decide +kernel⟩
-- law: script 0, box 1, schema 2, turn 3, rows 4, others 5, small 6, mine 7, other 8, asked 9, here 10, copied 11, repair 12, k 13, word 14, low 15, high 16, due 17, row 18, state 19, there 20, wide 21, told 22
def clsB : Stmt → List Stmt
  | .ClassDef (body := b) .. => b
  | _ => []
def forBody : Stmt → List Stmt
  | .For _ _ b _ _ => b
  | _ => []
abbrev m_init : Stmt := (clsB (topS 45)).getD 0 (.Pass ⟨0, 0, 0, 0⟩)
abbrev m_question : Stmt := (clsB (topS 45)).getD 1 (.Pass ⟨0, 0, 0, 0⟩)
abbrev m_table : Stmt := (clsB (topS 45)).getD 2 (.Pass ⟨0, 0, 0, 0⟩)
abbrev m_hear : Stmt := (clsB (topS 45)).getD 3 (.Pass ⟨0, 0, 0, 0⟩)
abbrev m_take : Stmt := (clsB (topS 45)).getD 4 (.Pass ⟨0, 0, 0, 0⟩)
abbrev m_look : Stmt := (clsB (topS 45)).getD 5 (.Pass ⟨0, 0, 0, 0⟩)
abbrev m_asked : Stmt := (clsB (topS 45)).getD 6 (.Pass ⟨0, 0, 0, 0⟩)
abbrev m_copied : Stmt := (clsB (topS 45)).getD 7 (.Pass ⟨0, 0, 0, 0⟩)
theorem sm_init : FnScope ["self", "table", "small"] ["self", "table", "small"] (defScope m_init) := ⟨rfl, rfl, rfl, by decide +kernel, rfl, by decide +kernel, by decide +kernel⟩
theorem sm_question : FnScope ["self"] ["self"] (defScope m_question) := ⟨rfl, rfl, rfl, by decide +kernel, rfl, by decide +kernel, by decide +kernel⟩
theorem sm_table : FnScope ["self"] ["self"] (defScope m_table) := ⟨rfl, rfl, rfl, by decide +kernel, rfl, by decide +kernel, by decide +kernel⟩
theorem sm_hear : FnScope ["self", "told", "word", "low", "high"] ["self", "told"] (defScope m_hear) := ⟨rfl, rfl, rfl, by decide +kernel, rfl, by decide +kernel, by decide +kernel⟩
theorem sm_take : FnScope ["self", "low", "high", "rows", "others", "row"] ["self", "low", "high", "rows"] (defScope m_take) := ⟨rfl, rfl, rfl, by decide +kernel, rfl, by decide +kernel, by decide +kernel⟩
theorem sm_look : FnScope ["self", "low", "high", "many", "middle"] ["self", "low", "high", "many"] (defScope m_look) := ⟨rfl, rfl, rfl, by decide +kernel, rfl, by decide +kernel, by decide +kernel⟩
theorem sm_asked : FnScope ["self"] ["self"] (defScope m_asked) := ⟨rfl, rfl, rfl, by decide +kernel, rfl, by decide +kernel, by decide +kernel⟩
theorem sm_copied : FnScope ["self"] ["self"] (defScope m_copied) := ⟨rfl, rfl, rfl, by decide +kernel, rfl, by decide +kernel, by decide +kernel⟩
section
variable {P : Program} {w : World} {K : PySem.W.Frag} {mg : Str → Option Value} {base : Heap}
/-! ### the box of draws: a list, its first item a list of its own -/
def Bx (M : Mem) (p c : Addr) : Prop := ∃ (cs : List Int) (a b : Int), M p = some (.lst [.ptr c, .int a, .int b]) ∧ M c = some (.lst (cs.map .int)) ∧ p ≠ c ∧ 0 ≤ a ∧ 0 ≤ b ∧ b < 4294967296
/-- nothing else is changed -/
def Els (M M' : Mem) (p c : Addr) : Prop := ∀ x, x ≠ p → x ≠ c → M' x = M x
theorem Els.refl (M : Mem) (p c : Addr) : Els M M p c := fun _ _ _ => rfl
theorem Els.trans {M M' M'' : Mem} {p c : Addr} (h : Els M M' p c) (h' : Els M' M'' p c) : Els M M'' p c := fun x a b => (h' x a b).trans (h x a b)
def S_box : SpD := fun ds M Q => ∃ ns : List Int, ds = [.scr ns] ∧ ns.length ≤ 63 ∧ ∀ p c M', M p = none → M c = none → Bx M' p c → Els M M' p c → Q (.ptr p) M'
theorem d_box (F : Df K mg "_law_box" s_law_box ["script"]) (B : Blt mg) : Cal P w K mg base 1 "_law_box" 1 S_box := by
  refine dfn' F sc_law_box rfl fun f cdv A outer s H E ds M Q hr hl hs => ?_
  obtain ⟨ns, rfl, hn, q⟩ := hs
  refine wss_one (ws_ret (we_lstM (wa_cons (we_ct call_list_of B.list bi_list (wa_cons (ee_sl sl_list (ee_v 0 rfl) eo_none (eo_some ee_int) (sd_scr (wa_nil (cd_lstM (.inr (.inl rfl)) fun c hc => ?_))))) ))))
  refine wa_cons (EE.to ee_int (wa_cons (EE.to (ee_add ee_int (ee_cb call_len B.len bi_len (ea_cons (ee_v 0 rfl) ea_nil) (cd_lenC ⟨rfl, rfl⟩))) (wa_nil ⟨by exact small30, fun p hp => ?_⟩))))
  have ne : p ≠ c := fun e => by subst e; rw [updM_same] at hp; cases hp
  have hpM : M p = none := by rw [updM_ne ne] at hp; exact hp
  exact q p c _ hpM hc ⟨_, 0, _, updM_same, by rw [updM_ne ne.symm]; exact updM_same, ne, by omega, by omega, by omega⟩ fun x h1 h2 => by rw [updM_ne h1, updM_ne h2]
def S_load : SpD := fun ds M Q => ∃ (p c : Addr), ds = [.ptr p] ∧ Bx M p c ∧ ∀ r M', 0 ≤ r → Bx M' p c → Els M M' p c → Q (.int r) M'
theorem d_load (F : Df K mg "_law_load" s_law_load ["box"]) (B : Blt mg) : Cal P w K mg base 1 "_law_load" 1 S_load := by
  refine dfn' F sc_law_load rfl fun f cdv A outer s H E ds M Q hr hl hs => ?_
  obtain ⟨p, c, rfl, hB, q⟩ := hs
  have nd := sc_law_load.nd
  obtain ⟨cs, a, b, hp, hc, ne, ha, hb, hb2⟩ := id hB
  -- behind the if
  have rest : ∀ (x y : Option D) (M1 : Mem), Bx M1 p c → Els M M1 p c → WSs (cxOf CX0 P w K mg base ["box", "cells", "cell", "size", "first", "second"] "_law_load" (defScope s_law_load) f cdv A outer s H E).nox ((defBody s_law_load).drop 2) [some (.ptr p), some (.ptr c), x, y, none, none] M1 { nx := fun _ M' => Q .non M', rt := Q } := fun x y M1 hB1 hE => by
    obtain ⟨cs, a, b, hp, hc, ne, ha, hb, hb2⟩ := hB1
    refine wss_cons (ws_set 4 nd (EE.to (ee_mod (ee_ct call_int1 B.int bi_int (ea_cons (ee_add (ee_mul (ee_ix ix_list (ee_v 0 rfl) ee_int (od_ixL (.inr ⟨p, rfl, hp⟩) rfl ⟨rfl, rfl⟩)) ee_int (.inr ⟨by decide, by decide⟩)) ee_int) ea_nil) (cd_int ⟨rfl, rfl⟩)) ee_int (by decide)) ?_))
    generalize h1 : (b * 48271 + 17) % 2147483629 = first
    refine wss_cons (ws_set 5 nd (EE.to (ee_mod (ee_ct call_int1 B.int bi_int (ea_cons (ee_add (ee_mul (ee_v 4 rfl) ee_int (.inr ⟨by decide, by decide⟩)) ee_int) ea_nil) (cd_int ⟨rfl, rfl⟩)) ee_int (by decide)) ?_))
    generalize h2 : (first * 69621 + 5) % 2147483587 = second
    refine wss_cons (ws_sub set_list (EE.to (ee_mod (ee_ct call_int1 B.int bi_int (ea_cons (ee_add (ee_mul (ee_v 5 rfl) ee_int (.inr ⟨by decide, by decide⟩)) ee_int) ea_nil) (cd_int ⟨rfl, rfl⟩)) ee_int (by decide)) (EE.to (ee_v 0 rfl) (EE.to ee_int (sd_setL hp rfl ?_)))))
    generalize h3 : (second * 40692 + 3) % 2147483563 = third
    have f0 : 0 ≤ first := by rw [← h1]; exact Int.emod_nonneg _ (by decide)
    have s0 : 0 ≤ second := by rw [← h2]; exact Int.emod_nonneg _ (by decide)
    have t0 : 0 ≤ third := by rw [← h3]; exact Int.emod_nonneg _ (by decide)
    have t1 : third < 2147483563 := by rw [← h3]; exact Int.emod_lt_of_pos _ (by decide)
    refine wss_one (ws_ret (EE.to (ee_add (ee_add (ee_mul (ee_v 4 rfl) ee_int (.inr ⟨by decide, by decide⟩)) (ee_mul (ee_v 5 rfl) ee_int (.inr ⟨by decide, by decide⟩))) (ee_ix ix_list (ee_v 0 rfl) ee_int (od_ixL (.inr ⟨p, rfl, updM_same⟩) rfl ⟨rfl, rfl⟩))) (q _ _ (by omega) ⟨cs, a, third, updM_same, by rw [updM_ne ne.symm]; exact hc, ne, ha, t0, by omega⟩ (hE.trans fun x h1 h2 => updM_ne h1))))
  refine wss_cons (ws_set 1 nd (EE.to (ee_ix ix_list (ee_v 0 rfl) ee_int (od_ixL (.inr ⟨p, rfl, hp⟩) rfl ⟨rfl, rfl⟩)) ?_))
  refine wss_cons (ws_ifE (et_gt (ee_cb call_len B.len bi_len (ea_cons (ee_v 1 rfl) ea_nil) (cd_lenL (.inr ⟨c, rfl, hc⟩) ⟨rfl, rfl⟩)) ee_int) (fun h => ?_) fun _ => wss_nil (rest _ _ M hB (Els.refl _ _ _)))
  cases cs with
  | nil => exact absurd (of_decide_eq_true h) (by decide)
  | cons n cs =>
    refine wss_cons (ws_set 2 nd (we_ct call_int1 B.int bi_int (wa_cons (we_bm PySem.F.plainAttrs_list PySem.F.slot_list_pop PySem.F.type_list_pop mt_popAt (EE.to (ee_v 1 rfl) ⟨ty_lst (.inr ⟨c, rfl, hc⟩), wa_cons (EE.to ee_int (wa_nil (md_pop0 hc (wa_nil (cd_int ?_)))))⟩)))))
    have hB1 : Bx (updM M c (some (.lst (cs.map .int)))) p c := ⟨cs, a, b, by rw [updM_ne ne]; exact hp, updM_same, ne, ha, hb, hb2⟩
    have hE1 : Els M (updM M c (some (.lst (cs.map .int)))) p c := fun x h1 h2 => updM_ne h2
    generalize updM M c (some (.lst (cs.map .int))) = M1 at hB1 hE1 ⊢
    refine wss_cons (ws_set 3 nd (WE.imp (Q := fun d M2 => (∃ z, d = .int z ∧ 0 ≤ z) ∧ M2 = M1) (we_if (ET.to (et_ge (ee_v 2 rfl) ee_int) ⟨fun h => EE.to (ee_mul ee_int (ee_v 2 rfl) (.inl ⟨by decide, by decide⟩)) ⟨⟨_, rfl, by have := of_decide_eq_true h; omega⟩, rfl⟩, fun h => EE.to (ee_sub (ee_mul (ee_neg ee_int) (ee_v 2 rfl) (.inl ⟨by decide, by decide⟩)) ee_int) ⟨⟨_, rfl, by have := of_decide_eq_false h; omega⟩, rfl⟩⟩)) fun d M2 ⟨⟨z, e1, hz⟩, e2⟩ => ?_))
    subst e1; subst e2
    refine wss_cons (ws_ifE (et_ge (ee_v 3 rfl) ee_int) (fun _ => wss_one (ws_ret (EE.to (ee_v 3 rfl) (q _ _ hz hB1 hE1)))) fun _ => wss_nil ?_)
    obtain ⟨cs2, a2, b2, hp2, hc2, ne2, ha2, hb2', hb22⟩ := hB1
    refine wss_one (ws_sub set_list (EE.to (ee_mod (ee_ct call_int1 B.int bi_int (ea_cons (ee_add (ee_add (ee_mul (ee_ix ix_list (ee_v 0 rfl) ee_int (od_ixL (.inr ⟨p, rfl, hp2⟩) rfl ⟨rfl, rfl⟩)) ee_int (.inr ⟨by decide, by decide⟩)) (ee_mul (ee_v 3 rfl) ee_int (.inr ⟨by decide, by decide⟩))) ee_int) ea_nil) (cd_int ⟨rfl, rfl⟩)) ee_int (by decide)) (EE.to (ee_v 0 rfl) (EE.to ee_int (sd_setL hp2 rfl ?_)))))
    generalize h3 : (b2 * 69621 + z * 48271 + 11) % 2147483647 = third
    have t0 : 0 ≤ third := by rw [← h3]; exact Int.emod_nonneg _ (by decide)
    have t1 : third < 2147483647 := by rw [← h3]; exact Int.emod_lt_of_pos _ (by decide)
    exact rest _ _ _ ⟨cs2, a2, third, updM_same, by rw [updM_ne ne2.symm]; exact hc2, ne2, ha2, t0, by omega⟩ (hE1.trans fun x h1 h2 => updM_ne h1)
def S_draw : SpD := fun ds M Q => ∃ (p c : Addr) (m : Int), ds = [.ptr p, .int m] ∧ Bx M p c ∧ 0 < m ∧ m < 1073741824 ∧ ∀ r M', 0 ≤ r → r < m → Bx M' p c → Els M M' p c → Q (.int r) M'
theorem d_draw (F : Df K mg "_law_draw" s_law_draw ["box", "many"]) (B : Blt mg) (C1 : Cal P w K mg base 1 "_law_load" 1 S_load) : Cal P w K mg base 2 "_law_draw" 2 S_draw := by
  refine dfn' F sc_law_draw rfl fun f cdv A outer s H E ds M Q hr hl hs => ?_
  obtain ⟨p, c, m, rfl, hB, m0, m1, q⟩ := hs
  have nd := sc_law_draw.nd
  have rest : ∀ (M1 : Mem), Bx M1 p c → Els M M1 p c → WSs (cxOf CX0 P w K mg base ["box", "many", "digit"] "_law_draw" (defScope s_law_draw) f cdv A outer s H E).nox ((defBody s_law_draw).drop 1) [some (.ptr p), some (.int m), none] M1 { nx := fun _ M' => Q .non M', rt := Q } := fun M1 hB1 hE => by
    obtain ⟨cs, a, b, hp, hc, ne, ha, hb, hb2⟩ := hB1
    refine wss_cons (ws_set 2 nd (EE.to (ee_mod (ee_ct call_int1 B.int bi_int (ea_cons (ee_ix ix_list (ee_v 0 rfl) ee_int (od_ixL (.inr ⟨p, rfl, hp⟩) rfl ⟨rfl, rfl⟩)) ea_nil) (cd_int ⟨rfl, rfl⟩)) (ee_v 1 rfl) m0) ?_))
    refine wss_cons (ws_sub set_list (EE.to (ee_fdiv (ee_ix ix_list (ee_v 0 rfl) ee_int (od_ixL (.inr ⟨p, rfl, hp⟩) rfl ⟨rfl, rfl⟩)) (ee_v 1 rfl) ⟨m0, by omega⟩) (EE.to (ee_v 0 rfl) (EE.to ee_int (sd_setL hp rfl ?_)))))
    exact wss_one (ws_ret (EE.to (ee_v 2 rfl) (q _ _ (Int.emod_nonneg _ (by omega)) (Int.emod_lt_of_pos _ m0) ⟨cs, a / m, b, updM_same, by rw [updM_ne ne.symm]; exact hc, ne, Int.ediv_nonneg ha (by omega), hb, hb2⟩ (hE.trans fun x h1 h2 => updM_ne h1))))
  obtain ⟨cs, a, b, hp, hc, ne, ha, hb, hb2⟩ := id hB
  refine wss_cons (ws_ifE (et_lt (ee_ix ix_list (ee_v 0 rfl) ee_int (od_ixL (.inr ⟨p, rfl, hp⟩) rfl ⟨rfl, rfl⟩)) (ee_v 1 rfl)) (fun _ => ?_) fun _ => wss_nil (rest M hB (Els.refl _ _ _)))
  refine wss_one (ws_sub set_list (we_call C1 hr (EA.to (ea_cons (ee_v 0 rfl) ea_nil) ⟨rfl, p, c, rfl, hB, fun r M1 r0 hB1 hE => ?_⟩)))
  obtain ⟨cs1, a1, b1, hp1, hc1, ne1, ha1, hb1, hb21⟩ := hB1
  refine EE.to (ee_v 0 rfl) (EE.to ee_int (sd_setL hp1 rfl ?_))
  exact rest _ ⟨cs1, r, b1, updM_same, by rw [updM_ne ne1.symm]; exact hc1, ne1, r0, hb1, hb21⟩ (hE.trans fun x h1 h2 => updM_ne h1)
end
section
variable {P : Program} {w : World} {K : PySem.W.Frag} {mg : Str → Option Value} {base : Heap}
/-! ### _law_same -/
def S_same (n : Nat) : SpD := fun ds M Q => ∃ a b, ds = [a, b] ∧ wf 900 n a = true ∧ wf 900 n b = true ∧ Q (.bl (eqD a b)) M
theorem d_same_step {n : Nat} (F : Df K mg "_law_same" s_law_same ["a", "b"]) (B : Blt mg) (C : Cal P w K mg base n "_law_same" 2 (S_same n)) : Cal P w K mg base (n + 1) "_law_same" 2 (S_same (n + 1)) := by
  refine dfn' F sc_law_same rfl fun f cdv A outer s H E ds M Q hr hl hs => ?_
  obtain ⟨a, b, rfl, ha, hb, q⟩ := hs
  have nd := sc_law_same.nd
  have la := pl_lk M (wf_pl ha)
  have lb := pl_lk M (wf_pl hb)
  refine wss_cons (ws_ifE (ww_pt (ew_or (ww_pt (ew_and (et_val (ee_isT B.isinstance B.tuple (ee_v 0 rfl) la)) fun _ => ww_and1 (et_val (ee_isT B.isinstance B.tuple (ee_v 1 rfl) lb)))) fun _ => ww_or1 (ww_pt (ew_and (et_val (ee_isL B.isinstance B.list (ee_v 0 rfl) la)) fun _ => ww_and1 (et_val (ee_isL B.isinstance B.list (ee_v 1 rfl) lb)))))) (fun h => ?_) fun h1 => wss_nil ?_)
  · -- two tuples, two lists
    rcases Bool.or_eq_true_iff.mp h with h | h
    · obtain ⟨h1, h2⟩ := Bool.and_eq_true_iff.mp h
      obtain ⟨as, rfl⟩ := isT_of h1
      obtain ⟨bs, rfl⟩ := isT_of h2
      obtain ⟨za, wa⟩ := wf_tup ha
      obtain ⟨zb, wb⟩ := wf_tup hb
      have e : eqD (.tup as) (.tup bs) = (decide ((as.length : Int) = (bs.length : Int)) && ((List.range as.length).map fun j => eqD (as.getD j .non) (bs.getD j .non)).all id) := (eqD_of ⟨fun h => congrArg _ (eq_lists.mp h), fun h => eq_lists.mpr (D.tup.inj h)⟩).symm
      rw [e] at q
      refine wss_one (ws_ret (EE.to (ee_and (ee_eqI (ee_cb call_len B.len bi_len (ea_cons (ee_v 0 rfl) ea_nil) (cd_lenT ⟨rfl, rfl⟩)) (ee_cb call_len B.len bi_len (ea_cons (ee_v 1 rfl) ea_nil) (cd_lenT ⟨rfl, rfl⟩))) fun hl => we_one ?_) q))
      have hl' : as.length = bs.length := by have := of_decide_eq_true hl; omega
      refine ee_cb (cr_all rfl) B.all bi_all (ea_cons (ee_lc1 2 (ds := rngD 0 as.length) (fun d => .bl (eqD (as.getD (intOf d).toNat .non) (bs.getD (intOf d).toNat .non))) rfl nd (wi_rng1 B.range (EA.to (ea_cons (ee_cb call_len B.len bi_len (ea_cons (ee_v 0 rfl) ea_nil) (cd_lenT ⟨rfl, rfl⟩)) ea_nil) ⟨_, rfl, by omega, by omega, rfl, rfl, trivial⟩)) (by rw [rngD_len]; exact lt1000 (by omega)) fun j d hd s H C' cl fp => ?_) ea_nil) (cd_all (bs := (List.range as.length).map fun j => eqD (as.getD j .non) (bs.getD j .non)) (.inl ?_) ⟨rfl, rfl⟩)
      · obtain ⟨hj, rfl⟩ := rngD_at hd
        have ej : (intOf (.int (0 + (j : Int)))).toNat = j := by show (0 + (j : Int)).toNat = j; omega
        rw [ej]
        refine we_call C hr (EA.to (ea_cons (ee_ix ix_tup (ee_v 0 rfl) (ee_v 2 rfl) (od_ixT (atI_of hj) ⟨rfl, rfl⟩)) (ea_cons (ee_ix ix_tup (ee_v 1 rfl) (ee_v 2 rfl) (od_ixT (atI_of (by omega)) ⟨rfl, rfl⟩)) ea_nil)) ⟨rfl, _, _, rfl, wa _ ?_, wb _ ?_, rfl, rfl⟩)
        · rw [DL.getD_at hj]; exact List.getElem_mem hj
        · rw [DL.getD_at (by omega)]; exact List.getElem_mem _
      · unfold rngD
        rw [List.map_map, List.map_map]
        congr 1
        apply List.map_congr_left
        intro j _
        show D.bl (eqD (as.getD (0 + (j : Int)).toNat .non) (bs.getD (0 + (j : Int)).toNat .non)) = D.bl (eqD (as.getD j .non) (bs.getD j .non))
        rw [show (0 + (j : Int)).toNat = j by omega]
    · obtain ⟨h1, h2⟩ := Bool.and_eq_true_iff.mp h
      have h1' : ∃ as, a = .lst as := by cases a <;> first | exact ⟨_, rfl⟩ | exact absurd (show false = true from h1) Bool.false_ne_true | exact absurd (show false = true from ha) Bool.false_ne_true
      have h2' : ∃ bs, b = .lst bs := by cases b <;> first | exact ⟨_, rfl⟩ | exact absurd (show false = true from h2) Bool.false_ne_true | exact absurd (show false = true from hb) Bool.false_ne_true
      obtain ⟨as, rfl⟩ := h1'
      obtain ⟨bs, rfl⟩ := h2'
      obtain ⟨za, wa⟩ := wf_lst ha
      obtain ⟨zb, wb⟩ := wf_lst hb
      have e : eqD (.lst as) (.lst bs) = (decide ((as.length : Int) = (bs.length : Int)) && ((List.range as.length).map fun j => eqD (as.getD j .non) (bs.getD j .non)).all id) := (eqD_of ⟨fun h => congrArg _ (eq_lists.mp h), fun h => eq_lists.mpr (D.lst.inj h)⟩).symm
      rw [e] at q
      refine wss_one (ws_ret (EE.to (ee_and (ee_eqI (ee_cb call_len B.len bi_len (ea_cons (ee_v 0 rfl) ea_nil) (cd_lenL (.inl rfl) ⟨rfl, rfl⟩)) (ee_cb call_len B.len bi_len (ea_cons (ee_v 1 rfl) ea_nil) (cd_lenL (.inl rfl) ⟨rfl, rfl⟩))) fun hl => we_one ?_) q))
      have hl' : as.length = bs.length := by have := of_decide_eq_true hl; omega
      refine ee_cb (cr_all rfl) B.all bi_all (ea_cons (ee_lc1 2 (ds := rngD 0 as.length) (fun d => .bl (eqD (as.getD (intOf d).toNat .non) (bs.getD (intOf d).toNat .non))) rfl nd (wi_rng1 B.range (EA.to (ea_cons (ee_cb call_len B.len bi_len (ea_cons (ee_v 0 rfl) ea_nil) (cd_lenL (.inl rfl) ⟨rfl, rfl⟩)) ea_nil) ⟨_, rfl, by omega, by omega, rfl, rfl, trivial⟩)) (by rw [rngD_len]; exact lt1000 (by omega)) fun j d hd s H C' cl fp => ?_) ea_nil) (cd_all (bs := (List.range as.length).map fun j => eqD (as.getD j .non) (bs.getD j .non)) (.inl ?_) ⟨rfl, rfl⟩)
      · obtain ⟨hj, rfl⟩ := rngD_at hd
        have ej : (intOf (.int (0 + (j : Int)))).toNat = j := by show (0 + (j : Int)).toNat = j; omega
        rw [ej]
        refine we_call C hr (EA.to (ea_cons (ee_ix ix_list (ee_v 0 rfl) (ee_v 2 rfl) (od_ixL (.inl rfl) (atI_of hj) ⟨rfl, rfl⟩)) (ea_cons (ee_ix ix_list (ee_v 1 rfl) (ee_v 2 rfl) (od_ixL (.inl rfl) (atI_of (by omega)) ⟨rfl, rfl⟩)) ea_nil)) ⟨rfl, _, _, rfl, wa _ ?_, wb _ ?_, rfl, rfl⟩)
        · rw [DL.getD_at hj]; exact List.getElem_mem hj
        · rw [DL.getD_at (by omega)]; exact List.getElem_mem _
      · unfold rngD
        rw [List.map_map, List.map_map]
        congr 1
        apply List.map_congr_left
        intro j _
        show D.bl (eqD (as.getD (0 + (j : Int)).toNat .non) (bs.getD (0 + (j : Int)).toNat .non)) = D.bl (eqD (as.getD j .non) (bs.getD j .non))
        rw [show (0 + (j : Int)).toNat = j by omega]
  refine wss_cons (ws_ifE (ww_pt (ew_or (et_val (ee_isB B.isinstance B.bool (ee_v 0 rfl) la)) fun _ => ww_or1 (et_val (ee_isB B.isinstance B.bool (ee_v 1 rfl) lb)))) (fun h => ?_) fun h2 => wss_nil ?_)
  · rw [← same_leaf2 h] at q
    refine wss_one (ws_ret (EE.to (ee_and (ee_isB B.isinstance B.bool (ee_v 0 rfl) la) fun k1 => ee_and (ee_isB B.isinstance B.bool (ee_v 1 rfl) lb) fun k2 => we_one ?_) q))
    obtain ⟨x, rfl⟩ := isB_of k1
    obtain ⟨y, rfl⟩ := isB_of k2
    refine ee_cmp op_eq (ee_v 0 rfl) (ee_v 1 rfl) (od_eqB ⟨?_, rfl⟩)
    exact congrArg D.bl (eqD_of ⟨fun h => congrArg _ (of_decide_eq_true h), fun h => decide_eq_true (D.bl.inj h)⟩)
  refine wss_cons (ws_ifE (ww_pt (ew_or (ww_pt (ew_and (et_val (ee_isI B.isinstance B.int (ee_v 0 rfl) la)) fun _ => ww_and1 (et_val (ee_isI B.isinstance B.int (ee_v 1 rfl) lb)))) fun _ => ww_or1 (ww_pt (ew_and (et_val (ee_isS B.isinstance B.str (ee_v 0 rfl) la)) fun _ => ww_and1 (et_val (ee_isS B.isinstance B.str (ee_v 1 rfl) lb)))))) (fun h => ?_) fun h3 => wss_nil ?_)
  · obtain ⟨k1, k2⟩ := Bool.or_eq_false_iff.mp h2
    rcases Bool.or_eq_true_iff.mp h with h | h
    · obtain ⟨j1, j2⟩ := Bool.and_eq_true_iff.mp h
      obtain ⟨x, rfl⟩ := isI_of (d := a) (by rw [j1, k1]; rfl)
      obtain ⟨y, rfl⟩ := isI_of (d := b) (by rw [j2, k2]; rfl)
      refine wss_one (ws_ret (EE.to (ee_eqI (ee_v 0 rfl) (ee_v 1 rfl)) ?_))
      rw [eqD_of (a := .int x) (b := .int y) ⟨fun h => congrArg _ (of_decide_eq_true h), fun h => decide_eq_true (D.int.inj h)⟩]
      exact q
    · obtain ⟨j1, j2⟩ := Bool.and_eq_true_iff.mp h
      obtain ⟨x, rfl⟩ := isS_of j1
      obtain ⟨y, rfl⟩ := isS_of j2
      refine wss_one (ws_ret (ee_cmp op_eq (ee_v 0 rfl) (ee_v 1 rfl) (od_eqS ?_)))
      rw [eqD_of (a := .str x) (b := .str y) ⟨fun h => congrArg _ (of_decide_eq_true h), fun h => decide_eq_true (D.str.inj h)⟩]
      exact q
  · rw [← same_leaf4 (wf_pl ha) (wf_pl hb) h1 h2 h3] at q
    exact wss_one (ws_ret (EE.to (ee_and (ee_cmp op_isN (ee_v 0 rfl) ee_non (od_isN ⟨rfl, rfl⟩)) fun _ => we_one (ee_cmp op_isN (ee_v 1 rfl) ee_non (od_isN ⟨rfl, rfl⟩))) q))
theorem d_same0 (F : Df K mg "_law_same" s_law_same ["a", "b"]) : Cal P w K mg base 0 "_law_same" 2 (S_same 0) := by
  obtain ⟨f, fd, F, hm, hb⟩ := F
  have no : ∀ vs H R E, ¬ spD K 2 (S_same 0) vs H R E := fun vs H R E h => by
    obtain ⟨_, _, _, _, _, _, _, ⟨_, _, _, z, _⟩, _⟩ := h
    cases z
  exact ⟨f, fd, ["a", "b"], ⟨fun vs H R E h => absurd h (no vs H R E), fun A outer s H args us vs R E _ _ _ _ h => absurd h (no vs H R E)⟩, hm, F.kp, hb⟩
theorem d_same (F : Df K mg "_law_same" s_law_same ["a", "b"]) (B : Blt mg) : ∀ n : Nat, Cal P w K mg base n "_law_same" 2 (S_same n)
  | 0 => d_same0 F
  | n + 1 => d_same_step F B (d_same F B n)
end
end K23
set_option Elab.async false
set_option linter.all false
set_option maxRecDepth 100000
set_option maxHeartbeats 4000000
namespace K23
open PySem L2 PyProof.Rows DL
/-! ### bytes: digits, checks -/
/-- the digits of n, before rest -/
def dg : Nat → Nat → List Int → List Int
  | 0, _, rest => rest
  | k + 1, n, rest => if n = 0 then rest else dg k (n / 256) (((n % 256 : Nat) : Int) :: rest)
theorem dg_zero (k : Nat) (rest : List Int) : dg k 0 rest = rest := by cases k <;> rfl
theorem dg_len : ∀ (k n : Nat) (rest : List Int), (dg k n rest).length ≤ k + rest.length
  | 0, n, rest => by show rest.length ≤ 0 + rest.length; omega
  | k + 1, n, rest => by
    show (if n = 0 then rest else dg k (n / 256) (((n % 256 : Nat) : Int) :: rest)).length ≤ k + 1 + rest.length
    by_cases h : n = 0
    · rw [if_pos h]; omega
    · rw [if_neg h]
      have := dg_len k (n / 256) (((n % 256 : Nat) : Int) :: rest)
      rw [List.length_cons] at this
      omega
theorem dg_step {k n : Nat} {rest : List Int} (h : 0 < n) : dg (k + 1) n rest = dg k (n / 256) (((n % 256 : Nat) : Int) :: rest) := if_neg (by omega)
def chk (ds : List Int) : Int := ds.foldl (fun m b => (m * 262147 + b + 1) % 4294967291) 1
structure Cn (mg : Str → Option Value) : Prop where
  byte : ∃ t, mg "BYTE" = some (.int 256 t)
  round : ∃ t, mg "ROUND" = some (.int 4294967291 t)
  step : ∃ t, mg "STEP" = some (.int 262147 t)
/-- a number's bytes -/
def nb (n : Nat) : List Int := ((dg 64 n []).length : Int) :: dg 64 n []
theorem nb_len (n : Nat) : (nb n).length ≤ 65 := by
  have := dg_len 64 n []
  unfold nb
  rw [List.length_cons]
  simpa using this
theorem chk_snoc (bs : List Int) (b : Int) : chk (bs ++ [b]) = (chk bs * 262147 + b + 1) % 4294967291 := by unfold chk; rw [List.foldl_append]; rfl
theorem chk_range (bs : List Int) : 0 ≤ chk bs ∧ chk bs < 4294967291 := by
  rcases List.eq_nil_or_concat bs with rfl | ⟨l, b, rfl⟩
  · exact ⟨by decide, by decide⟩
  · rw [List.concat_eq_append, chk_snoc]
    exact ⟨Int.emod_nonneg _ (by decide), Int.emod_lt_of_pos _ (by decide)⟩
theorem take_snoc {bs : List Int} {i : Nat} {b : Int} (h : bs[i]? = some b) : bs.take (i + 1) = bs.take i ++ [b] := by rw [List.take_add_one, h]; rfl
section
variable {P : Program} {w : World} {K : PySem.W.Frag} {mg : Str → Option Value} {base : Heap}
def S_digits : SpD := fun ds M Q => ∃ n : Nat, ds = [.int (n : Int)] ∧ n < 256 ^ 64 ∧ Q (.lst ((dg 64 n []).map .int)) M
theorem d_digits (F : Df K mg "digits_of" s_digits_of ["number"]) (C : Cn mg) : Cal P w K mg base 1 "digits_of" 1 S_digits := by
  refine dfn' F sc_digits_of rfl fun f cdv A outer s H E ds M Q hr hl hs => ?_
  obtain ⟨n, rfl, hn, q⟩ := hs
  have nd := sc_digits_of.nd
  obtain ⟨t, hb⟩ := C.byte
  refine wss_cons (ws_set 1 nd (EE.to (ee_lst ea_nil) ?_))
  refine wss_cons (ws_while PassesOwn.never (fun m sg1 M1 => ∃ (j : Nat) (rest : List Int), j < 256 ^ m ∧ m ≤ 64 ∧ sg1 = [some (.int (j : Int)), some (.lst (rest.map .int))] ∧ M1 = M ∧ dg m j rest = dg 64 n [] ∧ rest.length + m ≤ 64) ⟨64, n, [], hn, Nat.le_refl _, rfl, rfl, rfl, by decide⟩ fun m sg1 M1 ⟨j, rest, hj, hm, e1, e2, e3, hrl⟩ => ?_)
  subst e1; subst e2
  refine ET.to (et_gt (ee_v 0 rfl) ee_int) ⟨fun h => ?_, fun h => ?_⟩
  · have h0 : 0 < j := by have := of_decide_eq_true h; omega
    cases m with
    | zero => exact absurd hj (by show ¬ j < 1; omega)
    | succ m =>
      have hd := dg_step (k := m) (rest := rest) h0
      have hq : j / 256 < 256 ^ m := by
        rw [Nat.div_lt_iff_lt_mul (by decide)]
        rw [Nat.pow_succ] at hj
        exact hj
      have hlen : rest.length + 1 ≤ 1000 := by omega
      refine wss_cons (ws_set 1 nd (EE.to (ee_op op_cat (ee_lst (ea_cons (ee_mod (ee_v 0 rfl) (ee_gi hb) (by decide)) ea_nil)) (ee_v 1 rfl) (od_cat (.inl rfl) (.inl rfl) ?_ ⟨rfl, rfl⟩)) ?_))
      · rw [List.length_map]
        exact Nat.le_trans (show 1 + rest.length ≤ 1000 by omega) (by decide)
      refine wss_one (ws_set 0 nd (EE.to (ee_fdiv (ee_v 0 rfl) (ee_gi hb) ⟨by decide, by decide⟩) ⟨m, by omega, j / 256, ((j % 256 : Nat) : Int) :: rest, hq, by omega, ?_, rfl, ?_, ?_⟩))
      · rfl
      · rw [← e3, hd]
      · rw [List.length_cons]; omega
  · have h0 : j = 0 := by have := of_decide_eq_false h; omega
    subst h0
    rw [dg_zero] at e3
    subst e3
    exact wss_one (ws_ret (EE.to (ee_v 1 rfl) q))
def S_nbytes : SpD := fun ds M Q => ∃ n : Nat, ds = [.int (n : Int)] ∧ n < 256 ^ 64 ∧ Q (.lst ((nb n).map .int)) M
theorem d_number_bytes (F : Df K mg "number_bytes" s_number_bytes ["number"]) (B : Blt mg) (C1 : Cal P w K mg base 1 "digits_of" 1 S_digits) : Cal P w K mg base 2 "number_bytes" 1 S_nbytes := by
  refine dfn' F sc_number_bytes rfl fun f cdv A outer s H E ds M Q hr hl hs => ?_
  obtain ⟨n, rfl, hn, q⟩ := hs
  have nd := sc_number_bytes.nd
  have l := dg_len 64 n []
  refine wss_cons (ws_set 1 nd (we_call C1 hr (EA.to (ea_cons (ee_v 0 rfl) ea_nil) ⟨rfl, n, rfl, hn, ?_⟩)))
  refine wss_one (ws_ret (EE.to (ee_op op_cat (ee_lst (ea_cons (ee_cb call_len B.len bi_len (ea_cons (ee_v 1 rfl) ea_nil) (cd_lenL (.inl rfl) ⟨rfl, rfl⟩)) ea_nil)) (ee_v 1 rfl) (od_cat (.inl rfl) (.inl rfl) ?_ ⟨rfl, rfl⟩)) ?_))
  · rw [List.length_map]
    exact Nat.le_trans (show 1 + _ ≤ 1000 by simp at l; omega) (by decide)
  · rw [List.length_map]
    exact q
def S_check_of : SpD := fun ds M Q => ∃ bs : List Int, ds = [tI bs] ∧ Q (.int (chk bs)) M
theorem d_check_of (F : Df K mg "check_of" s_check_of ["data"]) (C : Cn mg) : Cal P w K mg base 1 "check_of" 1 S_check_of := by
  refine dfn' F sc_check_of rfl fun f cdv A outer s H E ds M Q hr hl hs => ?_
  obtain ⟨bs, rfl, q⟩ := hs
  have nd := sc_check_of.nd
  obtain ⟨t1, hr1⟩ := C.round
  obtain ⟨t2, hs1⟩ := C.step
  refine wss_cons (ws_set 1 nd (EE.to ee_int ?_))
  refine wss_cons (ws_for PassesOwn.never rfl (Qi := ItQ (bs.map .int) M) (wi_tup (EE.to (ee_v 0 rfl) ⟨_, rfl, rfl, rfl, trivial⟩)) fun ds C M0 ⟨e1, e2, hC⟩ => ?_)
  subst e1; subst e2
  refine ⟨fun i sg1 M1 => M1 = M0 ∧ ∃ o, sg1 = [some (tI bs), some (.int (chk (bs.take i))), o], ⟨rfl, none, rfl⟩, fun i sg1 M1 ⟨e, _⟩ => by rw [e]; exact hC, fun i d sg1 M1 hd ⟨e1, o, e2⟩ => ?_, fun sg1 M1 ⟨e1, o, e2⟩ => ?_⟩
  · subst e1; subst e2
    obtain ⟨b, hb, rfl⟩ := at_map hd
    refine ⟨_, _, wg_name 2 nd, wss_one (ws_set 1 nd (EE.to (ee_mod (ee_add (ee_add (ee_mul (ee_v 1 rfl) (ee_gi hs1) (.inr ⟨by decide, by decide⟩)) (ee_v 2 rfl)) ee_int) (ee_gi hr1) (by decide)) ⟨rfl, some (.int b), ?_⟩))⟩
    rw [take_snoc hb, chk_snoc]
    rfl
  · subst e1; subst e2
    rw [List.length_map, List.take_length]
    exact wss_one (ws_ret (EE.to (ee_v 1 rfl) q))
end
end K23
set_option Elab.async false
set_option linter.all false
set_option maxRecDepth 100000
set_option maxHeartbeats 4000000
namespace K23
open PySem L2 PyProof.Rows DL
/-! ### texts, values, rows in bytes -/
def lettersS : Str := "abcdefghijklmnopqrstuvwxyz0123456789-"
def lettersL : List Nat := lettersS.cps.toList
def idxC (c : Nat) : Nat := lettersL.findIdx (· == c)
theorem occ_letters {c : Nat} (h : c ∈ lettersL) : ∃ rest, Builtin.Str.occurrences lettersS (sgn c) 0 lettersS.length 1 = idxC c :: rest := by
  have key : (lettersL.all fun c => decide ((Builtin.Str.occurrences lettersS (sgn c) 0 lettersS.length 1).head? = some (idxC c))) = true := by decide +kernel
  have := of_decide_eq_true (List.all_eq_true.mp key c h)
  cases e : Builtin.Str.occurrences lettersS (sgn c) 0 lettersS.length 1 with
  | nil => rw [e] at this; cases this
  | cons a rest => rw [e] at this; cases this; exact ⟨rest, rfl⟩
def txtB (x : Str) : List Int := nb x.length ++ x.cps.toList.map fun c => (idxC c : Int)
def zz (v : Int) : Nat := (if v ≥ 0 then 2 * v else -2 * v - 1).toNat
theorem zz_eq (v : Int) : (zz v : Int) = if v ≥ 0 then 2 * v else -2 * v - 1 := by
  unfold zz
  split <;> omega
def valB : D → List Int
  | .str x => 0 :: txtB x
  | .int v => 1 :: nb (zz v)
  | _ => []
def OkV : D → Prop
  | .str x => x.length ≤ 12 ∧ ∀ c ∈ x.cps.toList, c ∈ lettersL
  | .int v => v.natAbs < 4611686018427387904
  | _ => False
def rowB (ds : List D) : List Int := nb ds.length ++ ds.flatMap valB
theorem zz_lt {v : Int} (h : v.natAbs < 4611686018427387904) : zz v < 256 ^ 64 := by
  have : zz v < 9223372036854775808 := by unfold zz; split <;> omega
  exact Nat.lt_trans this (by decide)
theorem txtB_len {x : Str} (h : x.length ≤ 12) : (txtB x).length ≤ 77 := by
  have := nb_len x.length
  unfold txtB
  rw [List.length_append, List.length_map]
  have : x.cps.toList.length = x.length := Array.length_toList
  omega
theorem valB_len {d : D} (h : OkV d) : (valB d).length ≤ 78 := by
  cases d with
  | str x => have := txtB_len h.1; show (txtB x).length + 1 ≤ 78; omega
  | int v => have := nb_len (zz v); show (nb (zz v)).length + 1 ≤ 78; omega
  | _ => exact h.elim
theorem flat_len {ds : List D} (h : ∀ d ∈ ds, OkV d) : (ds.flatMap valB).length ≤ 78 * ds.length := by
  induction ds with
  | nil => exact Nat.zero_le _
  | cons d ds ih =>
    rw [List.flatMap_cons, List.length_append, List.length_cons]
    have a := valB_len (h d List.mem_cons_self)
    have b := ih fun x hx => h x (List.mem_cons_of_mem _ hx)
    omega
structure Ct (K : PySem.W.Frag) (mg : Str → Option Value) : Prop where
  letters : ∃ t, mg "LETTERS" = some (.str lettersS t)
  kinds : ∃ a, mg "KINDS" = some (.ref a) ∧ GT K a ["text", "whole"]
section
variable {P : Program} {w : World} {K : PySem.W.Frag} {mg : Str → Option Value} {base : Heap}
def idxD : D → D
  | .str y => .int (idxC (y.cps.getD 0 0) : Int)
  | _ => .non
theorem signs_idx (x : Str) : (sgnsD x).map idxD = (x.cps.toList.map fun c => (idxC c : Int)).map D.int := by
  unfold sgnsD
  rw [List.map_map, List.map_map]
  exact List.map_congr_left fun c _ => rfl
theorem len12 {n : Nat} (h : n ≤ 12) : n ≤ sizeLine := Nat.le_trans h (by decide)
def S_txt : SpD := fun ds M Q => ∃ x : Str, ds = [.str x] ∧ x.length ≤ 12 ∧ (∀ c ∈ x.cps.toList, c ∈ lettersL) ∧ Q (.lst ((txtB x).map .int)) M
theorem d_text_bytes (F : Df K mg "text_bytes" s_text_bytes ["text"]) (B : Blt mg) (C : Ct K mg) (C1 : Cal P w K mg base 2 "number_bytes" 1 S_nbytes) : Cal P w K mg base 3 "text_bytes" 1 S_txt := by
  refine dfn' F sc_text_bytes rfl fun f cdv A outer s H E ds M Q hr hl hs => ?_
  obtain ⟨x, rfl, hx, hc, q⟩ := hs
  have nd := sc_text_bytes.nd
  obtain ⟨t, hL⟩ := C.letters
  have hnb := nb_len x.length
  have hsz : x.cps.toList.length = x.length := Array.length_toList
  refine wss_one (ws_ret (EE.to (EE.is (ee_op op_cat (we_call C1 hr (EA.to (ea_cons (ee_cb call_len B.len bi_len (ea_cons (ee_v 0 rfl) ea_nil) (cd_lenS (len12 hx) ⟨rfl, rfl⟩)) ea_nil) ⟨rfl, x.length, rfl, Nat.lt_of_le_of_lt hx (by decide), rfl, rfl⟩)) (ee_lc1 1 (ds := sgnsD x) idxD rfl nd (wi_str (EE.to (ee_v 0 rfl) ⟨x, rfl, rfl, rfl, trivial⟩)) (by unfold sgnsD; rw [List.length_map]; exact lt1000 (by omega)) fun j d hd => ?_) (od_cat (.inl rfl) (.inl rfl) ?_ ⟨rfl, rfl⟩)) ?_) q))
  · obtain ⟨c, hc0, rfl⟩ := at_map hd
    obtain ⟨rest, ho⟩ := occ_letters (hc c (List.mem_of_getElem? hc0))
    exact fun s H C cl fp => we_bm PySem.F.plainAttrs_str PySem.F.slot_str_index PySem.F.type_str_index mt_sindex (EE.to (ee_gs hL) ⟨ty_str, EA.to (ea_cons (ee_v 1 rfl) ea_nil) (md_sindex ho ⟨rfl, rfl⟩)⟩)
  · rw [List.length_map, List.length_map]
    unfold sgnsD
    rw [List.length_map]
    exact Nat.le_trans (show _ ≤ 1000 by omega) (by decide)
  · rw [signs_idx, ← List.map_append]
    rfl
def S_val : SpD := fun ds M Q => ∃ d : D, ds = [d] ∧ OkV d ∧ Q (.lst ((valB d).map .int)) M
theorem d_value_bytes (F : Df K mg "value_bytes" s_value_bytes ["value"]) (B : Blt mg) (C : Ct K mg) (C1 : Cal P w K mg base 2 "number_bytes" 1 S_nbytes) (C2 : Cal P w K mg base 3 "text_bytes" 1 S_txt) : Cal P w K mg base 4 "value_bytes" 1 S_val := by
  refine dfn' F sc_value_bytes rfl fun f cdv A outer s H E ds M Q hr hl hs => ?_
  obtain ⟨d, rfl, hd, q⟩ := hs
  have nd := sc_value_bytes.nd
  obtain ⟨a, hK, g⟩ := C.kinds
  have ix : ∀ {z : Str} {j : Nat} {p1 p2 p3 p4 : Pos} {n : Nat}, [("text" : Str), "whole"][j]? = some z → (∀ m, m < j → [("text" : Str), "whole"][m]? ≠ some z) → (p2.endLine == p4.line) = true → EE (cxOf CX0 P w K mg base ["value"] "value_bytes" (defScope s_value_bytes) f cdv A outer s H E).nox (.Call (.Attribute (.Name "KINDS" p1) "index" p2) [.Constant (.str z) n p3] [] p4) [some d] M (.int (j : Int)) := fun h1 h2 h3 => we_bm PySem.F.plainAttrs_tuple PySem.F.slot_tuple_index PySem.F.type_tuple_index mt_tup_index (EE.to (ee_gp hK) ⟨ty_gt g, EA.to (ea_cons ee_str ea_nil) (md_indexG g h1 h2 ⟨rfl, rfl⟩)⟩) (hline := h3)
  cases d with
  | str x =>
    refine wss_cons (ws_ifE (k := true) (et_val (ee_isS B.isinstance B.str (ee_v 0 (d := .str x) rfl) trivial)) (fun _ => ?_) fun h => Bool.noConfusion h)
    refine wss_one (ws_ret (EE.to (EE.is (ee_op op_cat (ee_lst (ea_cons (ix (j := 0) rfl (fun m hm => absurd hm (Nat.not_lt_zero _)) rfl) ea_nil)) (we_call C2 hr (EA.to (ea_cons (ee_v 0 rfl) ea_nil) ⟨rfl, x, rfl, hd.1, hd.2, rfl, rfl⟩)) (od_cat (.inl rfl) (.inl rfl) ?_ ⟨rfl, rfl⟩)) rfl) q))
    rw [List.length_map]
    have := txtB_len hd.1
    exact Nat.le_trans (show 1 + _ ≤ 1000 by omega) (by decide)
  | int v =>
    refine wss_cons (ws_ifE (k := false) (et_val (ee_isS B.isinstance B.str (ee_v 0 (d := .int v) rfl) trivial)) (fun h => Bool.noConfusion h) fun _ => wss_nil ?_)
    refine wss_one (ws_ret (EE.to (EE.is (ee_op op_cat (ee_lst (ea_cons (ix (j := 1) rfl (fun m hm => by have : m = 0 := by omega
                                                                                                         subst this; decide) rfl) ea_nil)) (we_call C1 (hr.mono (by omega)) (EA.to (ea_cons (EE.is (d' := .int (zz v : Int)) (ee_if (x := .int (if v ≥ 0 then 2 * v else -2 * v - 1)) (et_ge (ee_v 0 rfl) ee_int) (fun h => ?_) fun h => ?_) (by rw [zz_eq])) ea_nil) ⟨rfl, zz v, rfl, zz_lt hd, rfl, rfl⟩)) (od_cat (.inl rfl) (.inl rfl) ?_ ⟨rfl, rfl⟩)) rfl) q))
    · have h := of_decide_eq_true h
      rw [if_pos h]
      exact ee_mul ee_int (ee_v 0 rfl) (.inl ⟨by decide, by decide⟩)
    · have h := of_decide_eq_false h
      rw [if_neg h]
      exact ee_sub (ee_mul (ee_neg ee_int) (ee_v 0 rfl) (.inl ⟨by decide, by decide⟩)) ee_int
    · rw [List.length_map]
      have := nb_len (zz v)
      exact Nat.le_trans (show 1 + _ ≤ 1000 by omega) (by decide)
  | _ => exact hd.elim
end
end K23
set_option Elab.async false
set_option linter.all false
set_option maxRecDepth 100000
set_option maxHeartbeats 4000000
namespace K23
open PySem L2 PyProof.Rows DL
/-! ### rows in bytes, and their checks -/
def OkR (ds : List D) : Prop := ds.length ≤ 6 ∧ ∀ d ∈ ds, OkV d
theorem rowB_len {ds : List D} (h : OkR ds) : (rowB ds).length ≤ 600 := by
  have a := nb_len ds.length
  have b := flat_len h.2
  have c := h.1
  unfold rowB
  rw [List.length_append]
  omega
def rowCk (ds : List D) : Int := (chk (rowB ds) * 2147483647 + chk ((rowB ds).reverse ++ [7])) % 2305843009213693951
theorem flat_int (ds : List D) : (ds.flatMap fun d => ((valB d).map D.int).map fun e => e) = (ds.flatMap valB).map D.int := by
  rw [List.map_flatMap]
  congr 1
  funext d
  rw [List.map_id']
structure Cs (mg : Str → Option Value) : Prop where
  sr : ∃ t, mg "SUM_ROUND" = some (.int 2305843009213693951 t)
  wide : ∃ t, mg "WIDE" = some (.int 1073741824 t)
section
variable {P : Program} {w : World} {K : PySem.W.Frag} {mg : Str → Option Value} {base : Heap}
def S_row : SpD := fun ds M Q => ∃ rs : List D, ds = [.tup rs] ∧ OkR rs ∧ Q (.lst ((rowB rs).map .int)) M
theorem d_row_bytes (F : Df K mg "row_bytes" s_row_bytes ["row"]) (B : Blt mg) (C1 : Cal P w K mg base 2 "number_bytes" 1 S_nbytes) (C2 : Cal P w K mg base 4 "value_bytes" 1 S_val) : Cal P w K mg base 5 "row_bytes" 1 S_row := by
  refine dfn' F sc_row_bytes rfl fun f cdv A outer s H E ds M Q hr hl hs => ?_
  obtain ⟨rs, rfl, ho, q⟩ := hs
  have nd := sc_row_bytes.nd
  have l1 := nb_len rs.length
  have l2 := flat_len ho.2
  have l3 := ho.1
  refine wss_one (ws_ret (EE.to (EE.is (ee_op op_cat (we_call C1 (hr.mono (by omega)) (EA.to (ea_cons (ee_cb call_len B.len bi_len (ea_cons (ee_v 0 rfl) ea_nil) (cd_lenT ⟨rfl, rfl⟩)) ea_nil) ⟨rfl, rs.length, rfl, Nat.lt_of_le_of_lt l3 (by decide), rfl, rfl⟩)) (ee_lc22 1 2 (ds := rs) (fun d => (valB d).map D.int) (fun d e => e) rfl nd (wi_tup (EE.to (ee_v 0 rfl) ⟨_, rfl, rfl, rfl, trivial⟩)) ?_ (fun a d hd s H C cl fp => ?_) fun a b d e hd he s H C cl fp => ee_v 2 rfl) (od_cat (.inl rfl) (.inl rfl) ?_ ⟨rfl, rfl⟩)) ?_) q))
  · rw [← List.map_flatMap, List.length_map]
    exact lt1000 (by omega)
  · exact wi_lst (we_call C2 hr (EA.to (ea_cons (ee_v 1 rfl) ea_nil) ⟨rfl, d, rfl, ho.2 d (List.mem_of_getElem? hd), _, .inl rfl, rfl, rfl, .inl rfl⟩))
  · rw [flat_int, List.length_map, List.length_map]
    exact Nat.le_trans (show _ ≤ 1000 by omega) (by decide)
  · rw [flat_int, ← List.map_append]
    rfl
def S_rck : SpD := fun ds M Q => ∃ rs : List D, ds = [.tup rs] ∧ OkR rs ∧ Q (.int (rowCk rs)) M
theorem d_row_check (F : Df K mg "row_check" s_row_check ["row"]) (B : Blt mg) (C : Cs mg) (C1 : Cal P w K mg base 5 "row_bytes" 1 S_row) (C2 : Cal P w K mg base 1 "check_of" 1 S_check_of) : Cal P w K mg base 6 "row_check" 1 S_rck := by
  refine dfn' F sc_row_check rfl fun f cdv A outer s H E ds M Q hr hl hs => ?_
  obtain ⟨rs, rfl, ho, q⟩ := hs
  have nd := sc_row_check.nd
  obtain ⟨t, hS⟩ := C.sr
  have l := rowB_len ho
  refine wss_cons (ws_set 1 nd (EE.to (ee_ct call_tuple_of B.tuple bi_tuple (ea_cons (we_call C1 hr (EA.to (ea_cons (ee_v 0 rfl) ea_nil) ⟨rfl, rs, rfl, ho, rfl, rfl⟩)) ea_nil) (cd_tupL (.inl rfl) ⟨rfl, rfl⟩)) ?_))
  refine wss_one (ws_ret (EE.to (ee_mod (ee_add (ee_mul (we_call C2 (hr.mono (by omega)) (EA.to (ea_cons (ee_v 1 rfl) ea_nil) ⟨rfl, rowB rs, rfl, rfl, rfl⟩)) ee_int (.inr ⟨by decide, by decide⟩)) (we_call C2 (hr.mono (by omega)) (EA.to (ea_cons (EE.is (ee_op op_catA (we_revT (EE.to (ee_v 1 rfl) ⟨_, rfl, rfl, rfl⟩)) (ee_tup (ea_cons ee_int ea_nil)) (od_catT ?_ ⟨rfl, rfl⟩)) ?_) ea_nil) ⟨rfl, (rowB rs).reverse ++ [7], rfl, rfl, rfl⟩))) (ee_gi hS) (by decide)) q))
  · rw [List.length_reverse, List.length_map]
    exact Nat.le_trans (show _ + 1 ≤ 1000 by omega) (by decide)
  · unfold tI
    rw [List.map_append, List.map_reverse]
    rfl
end
end K23
set_option Elab.async false
set_option linter.all false
set_option maxRecDepth 100000
set_option maxHeartbeats 4000000
namespace DL
open PySem L2 PyProof.Rows
section
variable {X : Cx} {sg : Sg} {M : Mem} {a b c : Expr} {i j l : Int} {pos : Pos}
theorem et_le_lt (ha : EE X a sg M (.int i)) (hb : EE X b sg M (.int j)) (hc : EE X c sg M (.int l)) (hm : lastMarks [.LtE, .Lt] [b, c] = false := by with_unfolding_all rfl) : ET X (.Compare a [.LtE, .Lt] [b, c] pos) sg M (decide (i ≤ j) && decide (j < l)) := wt_chain op_le op_lt (tri_I (p := fun i j => decide (i ≤ j)) (p' := fun i j => decide (i < j)) ha hb hc ⟨rfl, rfl⟩) hm
end
end DL
namespace K23
open PySem L2 PyProof.Rows DL
/-! ### rows of tables; checks of ranges -/
/-- a row of a table: its key, its number -/
abbrev Rw := Int × Int
def cells (r : Rw) : List D := [.int r.1, .int r.2]
def rwD (r : Rw) : D := .tup (cells r)
structure OkW (r : Rw) : Prop where
  k0 : 0 ≤ r.1
  k1 : r.1 ≤ 1000000000
  v_ : r.2.natAbs ≤ 100
theorem ok_cells {r : Rw} (h : OkW r) : OkR (cells r) := by
  refine ⟨by show 2 ≤ 6; decide, fun d hd => ?_⟩
  have a := h.k0
  have b := h.k1
  have c := h.v_
  simp only [cells, List.mem_cons, List.not_mem_nil, or_false] at hd
  rcases hd with rfl | rfl
  · show r.1.natAbs < 4611686018427387904; omega
  · show r.2.natAbs < 4611686018427387904; omega
def rowsD (rs : List Rw) : D := .tup (rs.map rwD)
def inR (rs : List Rw) (lo hi : Int) : List Rw := rs.filter fun r => decide (lo ≤ r.1) && decide (r.1 < hi)
def cks (rs : List Rw) : List Int := rs.map fun r => rowCk (cells r)
def rngN (rs : List Rw) (lo hi : Int) : Int × Int := ((inR rs lo hi).length, (cks (inR rs lo hi)).sum % 2305843009213693951)
def prD (p : Int × Int) : D := .tup [.int p.1, .int p.2]
def keyD (d : D) : Int := intOf ((itemsD d).getD 0 .non)
theorem key_rw (r : Rw) : keyD (rwD r) = r.1 := rfl
theorem inR_D (rs : List Rw) (lo hi : Int) : ((rs.map rwD).filter fun d => decide (lo ≤ keyD d) && decide (keyD d < hi)).map (fun d => d) = (inR rs lo hi).map rwD := by
  rw [List.map_id', List.filter_map]
  rfl
section
variable {P : Program} {w : World} {K : PySem.W.Frag} {mg : Str → Option Value} {base : Heap}
def S_betw : SpD := fun ds M Q => ∃ (a b : D) (rs : List Rw) (lo hi : Int), ds = [.tup [a, b, rowsD rs], .int lo, .int hi] ∧ rs.length < 900 ∧ Q (rowsD (inR rs lo hi)) M
theorem d_betw (F : Df K mg "rows_between" s_rows_between ["table", "low", "high"]) (B : Blt mg) : Cal P w K mg base 1 "rows_between" 3 S_betw := by
  refine dfn' F sc_rows_between rfl fun f cdv A outer s H E ds M Q hr hl hs => ?_
  obtain ⟨a, b, rs, lo, hi, rfl, hz, q⟩ := hs
  have nd := sc_rows_between.nd
  refine wss_one (ws_ret (EE.to (EE.is (ee_ct call_tuple_of B.tuple bi_tuple (ea_cons (ee_lc1if 3 (ds := rs.map rwD) (fun d => decide (lo ≤ keyD d) && decide (keyD d < hi)) (fun d => d) rfl nd (wi_tup (EE.to (ee_ix ix_tup (ee_v 0 rfl) ee_int (od_ixT (d := rowsD rs) rfl ⟨rfl, rfl⟩)) ⟨_, rfl, rfl, rfl, trivial⟩)) (lt1000 (by rw [List.length_map]; omega)) (fun j d hd => ?_) fun j d hd _ s H C cl fp => ee_v 3 rfl) ea_nil) (cd_tupL (.inl rfl) ⟨rfl, rfl⟩)) ?_) q))
  · obtain ⟨r, hr0, rfl⟩ := at_map hd
    exact fun s H C cl fp => et_le_lt (ee_v 1 rfl) (ee_ix ix_tup (ee_v 3 rfl) ee_int (od_ixT rfl ⟨rfl, rfl⟩)) (ee_v 2 rfl)
  · exact congrArg D.tup (inR_D rs lo hi)
def S_rng : SpD := fun ds M Q => ∃ (a b : D) (rs : List Rw) (lo hi : Int), ds = [.tup [a, b, rowsD rs], .int lo, .int hi] ∧ rs.length < 900 ∧ (∀ r ∈ rs, OkW r) ∧ Q (prD (rngN rs lo hi)) M
theorem inR_sub {rs : List Rw} {lo hi : Int} {r : Rw} (h : r ∈ inR rs lo hi) : r ∈ rs := (List.mem_filter.mp h).1
theorem inR_len (rs : List Rw) (lo hi : Int) : (inR rs lo hi).length ≤ rs.length := List.length_filter_le _ _
theorem d_range (F : Df K mg "range_check" s_range_check ["table", "low", "high"]) (B : Blt mg) (C : Cs mg) (C1 : Cal P w K mg base 1 "rows_between" 3 S_betw) (C2 : Cal P w K mg base 6 "row_check" 1 S_rck) : Cal P w K mg base 7 "range_check" 3 S_rng := by
  refine dfn' F sc_range_check rfl fun f cdv A outer s H E ds M Q hr hl hs => ?_
  obtain ⟨a, b, rs, lo, hi, rfl, hz, ho, q⟩ := hs
  have nd := sc_range_check.nd
  obtain ⟨t, hS⟩ := C.sr
  have l := inR_len rs lo hi
  refine wss_cons (ws_set 3 nd (we_call C1 (hr.mono (by omega)) (EA.to (ea_cons (ee_v 0 rfl) (ea_cons (ee_v 1 rfl) (ea_cons (ee_v 2 rfl) ea_nil))) ⟨rfl, a, b, rs, lo, hi, rfl, hz, ?_⟩)))
  refine wss_one (ws_ret (EE.to (EE.is (ee_tup (ea_cons (ee_cb call_len B.len bi_len (ea_cons (ee_v 3 rfl) ea_nil) (cd_lenT ⟨rfl, rfl⟩)) (ea_cons (ee_mod (ee_cb (cr_sum rfl) B.sum bi_sum (ea_cons (ee_lc1 4 (ds := (inR rs lo hi).map rwD) (fun d => .int (rowCk (itemsD d))) rfl nd (wi_tup (EE.to (ee_v 3 rfl) ⟨_, rfl, rfl, rfl, trivial⟩)) (lt1000 (by rw [List.length_map]; omega)) fun j d hd => ?_) ea_nil) (cd_sum (ns := cks (inR rs lo hi)) (.inl ?_) ⟨rfl, rfl⟩)) (ee_gi hS) (by decide)) ea_nil))) ?_) q))
  · obtain ⟨r, hr0, rfl⟩ := at_map hd
    exact fun s H C cl fp => we_call C2 hr (EA.to (ea_cons (ee_v 4 rfl) ea_nil) ⟨rfl, cells r, rfl, ok_cells (ho r (inR_sub (List.mem_of_getElem? hr0))), rfl, rfl⟩)
  · rw [List.map_map]
    unfold cks
    rw [List.map_map]
    rfl
  · rw [List.length_map]
    rfl
end
end K23
set_option Elab.async false
set_option linter.all false
set_option maxRecDepth 100000
set_option maxHeartbeats 4000000
namespace K23
open PySem L2 PyProof.Rows DL
/-! ### names, numbers, values -/
def smallS : Str := "abcdefghijklmnopqrstuvwxyz"
def digitsS : Str := "0123456789"
def resL : List Str := ["all", "any", "none"]
structure Cq (K : PySem.W.Frag) (mg : Str → Option Value) : Prop where
  res : ∃ a, mg "RESERVED" = some (.ref a) ∧ GT K a resL
  small : ∃ t, mg "SMALL" = some (.str smallS t)
  digits : ∃ t, mg "DIGITS" = some (.str digitsS t)
  signs_ : ∃ t, mg "SIGNS" = some (.str lettersS t)
  great : ∃ t, mg "GREATEST" = some (.int 1000000000 t)
  longest : ∃ t, mg "LONGEST_TEXT" = some (.int 12 t)
  fields : ∃ t, mg "MOST_FIELDS" = some (.int 6 t)
  rows : ∃ t, mg "MOST_ROWS" = some (.int 100 t)
  key : ∃ a, mg "KEY" = some (.ref a) ∧ GT K a ["id", "whole"]
def smallL : List Nat := smallS.cps.toList
def digitsL : List Nat := digitsS.cps.toList
def sgC (d : D) : Nat := match d with
  | .str x => x.cps.getD 0 0
  | _ => 0
def nameOk (x : Str) : Bool := decide (1 ≤ x.length) && (decide (x.length ≤ 8) && (decide (x ∉ resL) && (decide (x.cps.getD 0 0 ∈ smallL) && x.cps.toList.all fun c => decide (c ∈ smallL) || decide (c ∈ digitsL))))
def ascB (ns : List Int) : Bool := (List.range (ns.length - 1)).all fun k => decide (ns.getD k 0 < ns.getD (k + 1) 0)
def textOk (x : Str) : Bool := decide (x.length ≤ 12) && x.cps.toList.all fun c => decide (c ∈ lettersL)
section
variable {P : Program} {w : World} {K : PySem.W.Frag} {mg : Str → Option Value} {base : Heap}
def S_num : SpD := fun ds M Q => ∃ x lo hi, ds = [x, .int lo, .int hi] ∧ pl x = true ∧ Q (.bl (wholeB x lo hi)) M
theorem d_number (F : Df K mg "is_number" s_is_number ["value", "least", "most"]) (B : Blt mg) : Cal P w K mg base 1 "is_number" 3 S_num := by
  refine dfn' F sc_is_number rfl fun f cdv A outer s H E ds M Q hr hl hs => ?_
  obtain ⟨x, lo, hi, rfl, hp, q⟩ := hs
  refine wss_one (ws_ret (EE.to ((ee_and (ee_isI B.isinstance B.int (ee_v 0 rfl) (pl_lk M hp)) fun h1 => ee_and (q := decide (lo ≤ intOf x) && decide (intOf x ≤ hi)) (ee_not (ee_isB B.isinstance B.bool (ee_v 0 rfl) (pl_lk M hp))) fun h2 => we_one ?_).is (congrArg D.bl (Bool.and_assoc _ _ _).symm)) q))
  obtain ⟨i, rfl⟩ := isI_of (d := x) (by rw [h1, h2]; rfl)
  exact ee_le_le (ee_v 1 rfl) (ee_v 0 rfl) (ee_v 2 rfl)
/-- a name is taken -/
def S_name : SpD := fun ds M Q => ∃ x : Str, ds = [.str x] ∧ nameOk x = true ∧ Q (.bl true) M
theorem d_name (F : Df K mg "is_name" s_is_name ["value"]) (B : Blt mg) (C : Cq K mg) : Cal P w K mg base 1 "is_name" 1 S_name := by
  refine dfn' F sc_is_name rfl fun f cdv A outer s H E ds M Q hr hl hs => ?_
  obtain ⟨x, rfl, hx, q⟩ := hs
  have nd := sc_is_name.nd
  obtain ⟨a, hres, gres⟩ := C.res
  obtain ⟨t1, hsm⟩ := C.small
  obtain ⟨t2, hdg⟩ := C.digits
  unfold nameOk at hx
  simp only [Bool.and_eq_true, decide_eq_true_eq] at hx
  obtain ⟨h1, h2, h3, h4, h5⟩ := hx
  have hsz : x.cps.toList.length = x.length := Array.length_toList
  have h0 : atI x.cps.toList ((0 : Nat) : Int) = some (x.cps.getD 0 0) := atI_nat (by
    have hlt : 0 < x.cps.size := h1
    rw [Array.getElem?_toList, Array.getElem?_eq_getElem hlt]
    simp [Array.getD, hlt])
  refine wss_cons (ws_ifE (k := false) (ww_pt (ew_or (p := false) (q := false) (ET.is (et_not (et_val (ee_isS B.isinstance B.str (ee_v 0 (d := .str x) rfl) trivial))) rfl) fun _ => ew_or (p := false) (q := false) (ET.is (et_not (et_le_le ee_int (ee_cb call_len B.len bi_len (ea_cons (ee_v 0 rfl) ea_nil) (cd_lenS (Nat.le_trans h2 (by decide)) ⟨rfl, rfl⟩)) ee_int)) ?_) fun _ => ww_or1 (ET.is (et_cmp op_in_seq (ee_v 0 rfl) (ee_gp hres) (od_inG gres ⟨_, rfl, rfl, rfl⟩)) ?_))) (fun h => Bool.noConfusion h) fun _ => wss_nil ?_)
  · rw [decide_eq_true (show (1 : Int) ≤ (x.length : Int) by omega), decide_eq_true (show (x.length : Int) ≤ 8 by omega)]
    rfl
  · exact decide_eq_false h3
  · refine wss_one (ws_ret (EE.to (ee_and (p := true) (q := true) (EE.is (ee_cmp op_in_sign (ee_ix ix_str (ee_v 0 rfl) ee_int (od_ixS (Nat.le_trans h2 (by decide)) h0 ⟨rfl, rfl⟩)) (ee_gs hsm) (od_inC ⟨rfl, rfl⟩)) ?_) fun _ => we_one (ee_cb (cr_all rfl) B.all bi_all (ea_cons (ee_lc1 1 (ds := sgnsD x) (fun d => .bl (decide (sgC d ∈ smallL) || decide (sgC d ∈ digitsL))) rfl nd (wi_str (EE.to (ee_v 0 rfl) ⟨x, rfl, rfl, rfl, trivial⟩)) (by unfold sgnsD; rw [List.length_map]; exact lt1000 (by omega)) fun j d hd => ?_) ea_nil) (cd_all (bs := x.cps.toList.map fun c => decide (c ∈ smallL) || decide (c ∈ digitsL)) (.inl ?_) ⟨?_, rfl⟩))) q))
    · exact congrArg D.bl (decide_eq_true h4)
    · obtain ⟨c, hc0, rfl⟩ := at_map hd
      exact fun s H C cl fp => ee_or (ee_cmp op_in_sign (ee_v 1 rfl) (ee_gs hsm) (od_inC ⟨rfl, rfl⟩)) fun _ => we_one (ee_cmp op_in_sign (ee_v 1 rfl) (ee_gs hdg) (od_inC ⟨rfl, rfl⟩))
    · unfold sgnsD
      rw [List.map_map, List.map_map]
      rfl
    · rw [List.all_map]
      exact congrArg D.bl h5
/-- whole numbers, ascending or not -/
def S_asc : SpD := fun ds M Q => ∃ ns : List Int, ds = [.lst (ns.map .int)] ∧ ns.length < 900 ∧ Q (.bl (ascB ns)) M
theorem getD_at2 {ns : List Int} {k : Nat} (h : k < ns.length) : atI (ns.map D.int) (k : Int) = some (.int (ns.getD k 0)) := atI_nat (by rw [List.getElem?_map, List.getElem?_eq_getElem h, List.getD_eq_getElem?_getD, List.getElem?_eq_getElem h]; rfl)
theorem d_asc (F : Df K mg "is_ascending" s_is_ascending ["rows"]) (B : Blt mg) : Cal P w K mg base 1 "is_ascending" 1 S_asc := by
  refine dfn' F sc_is_ascending rfl fun f cdv A outer s H E ds M Q hr hl hs => ?_
  obtain ⟨ns, rfl, hz, q⟩ := hs
  have nd := sc_is_ascending.nd
  have ln : (ns.map D.int).length = ns.length := List.length_map ..
  refine wss_one (ws_ret (EE.to (ee_cb (cr_all rfl) B.all bi_all (ea_cons (ee_lc1 1 (ds := rngD 0 (ns.length - 1)) (fun d => .bl (decide (ns.getD (intOf d).toNat 0 < ns.getD ((intOf d).toNat + 1) 0))) rfl nd (wi_rng1 B.range (EA.to (ea_cons (ee_sub (ee_cb call_len B.len bi_len (ea_cons (ee_v 0 rfl) ea_nil) (cd_lenL (.inl rfl) ⟨rfl, rfl⟩)) ee_int) ea_nil) ⟨((ns.map D.int).length : Int) - 1, rfl, by omega, by omega, by rw [ln, show ((ns.length : Int) - 1).toNat = ns.length - 1 by omega], rfl, trivial⟩)) (by rw [rngD_len]; exact lt1000 (by omega)) fun j d hd => ?_) ea_nil) (cd_all (bs := (List.range (ns.length - 1)).map fun k => decide (ns.getD k 0 < ns.getD (k + 1) 0)) (.inl ?_) ⟨by rw [List.all_map]; rfl, rfl⟩)) q))
  · obtain ⟨hj, rfl⟩ := rngD_at hd
    rw [Int.zero_add]
    intro s H C cl fp
    refine EE.is (ee_lt (ee_ix ix_list (ee_v 0 rfl) (ee_v 1 rfl) (od_ixL (.inl rfl) (getD_at2 (by omega)) ⟨rfl, rfl⟩)) (ee_ix ix_list (ee_v 0 rfl) (ee_add (ee_v 1 rfl) ee_int) (od_ixL (.inl rfl) (show atI _ ((j : Int) + 1) = _ from by rw [show (j : Int) + 1 = ((j + 1 : Nat) : Int) by omega]; exact getD_at2 (by omega)) ⟨rfl, rfl⟩))) ?_
    show _ = D.bl (decide (ns.getD ((j : Int)).toNat 0 < ns.getD (((j : Int)).toNat + 1) 0))
    rw [Int.toNat_natCast]
  · unfold rngD
    rw [List.map_map, List.map_map]
    refine congrArg D.lst (List.map_congr_left fun k _ => ?_)
    show D.bl (decide (ns.getD (0 + (k : Int)).toNat 0 < ns.getD ((0 + (k : Int)).toNat + 1) 0)) = _
    rw [show (0 + (k : Int)).toNat = k by omega]
    rfl
/-- a value of a kind is taken -/
def S_value : SpD := fun ds M Q => ((∃ v : Int, ds = [.str "whole", .int v] ∧ -1000000000 ≤ v ∧ v ≤ 1000000000) ∨ ∃ x : Str, ds = [.str "text", .str x] ∧ textOk x = true) ∧ Q (.bl true) M
theorem d_value (F : Df K mg "is_value" s_is_value ["kind", "value"]) (B : Blt mg) (C : Cq K mg) (C1 : Cal P w K mg base 1 "is_number" 3 S_num) : Cal P w K mg base 2 "is_value" 2 S_value := by
  refine dfn' F sc_is_value rfl fun f cdv A outer s H E ds M Q hr hl hs => ?_
  obtain ⟨hc, q⟩ := hs
  have nd := sc_is_value.nd
  obtain ⟨t1, hg⟩ := C.great
  obtain ⟨t2, hlo⟩ := C.longest
  obtain ⟨t3, hsg⟩ := C.signs_
  rcases hc with ⟨v, rfl, h1, h2⟩ | ⟨x, rfl, hx⟩
  · refine wss_cons (ws_ifE (k := true) (ET.is (et_cmp op_eq (ee_v 0 rfl) ee_str (od_eqS ⟨_, rfl, rfl, rfl⟩)) (by decide)) (fun _ => wss_one (ws_ret (EE.to (EE.is (we_call C1 hr (EA.to (ea_cons (ee_v 1 rfl) (ea_cons (ee_neg (ee_gi hg)) (ea_cons (ee_gi hg) ea_nil))) ⟨rfl, .int v, _, _, rfl, rfl, rfl, rfl⟩)) ?_) q))) fun h => Bool.noConfusion h)
    refine congrArg D.bl ?_
    show (true && (decide (-1000000000 ≤ v) && decide (v ≤ 1000000000))) = true
    rw [decide_eq_true h1, decide_eq_true h2]
    rfl
  · unfold textOk at hx
    simp only [Bool.and_eq_true, decide_eq_true_eq] at hx
    have hsz : x.cps.toList.length = x.length := Array.length_toList
    have hx1 := hx.1
    refine wss_cons (ws_ifE (k := false) (ET.is (et_cmp op_eq (ee_v 0 rfl) ee_str (od_eqS ⟨_, rfl, rfl, rfl⟩)) (by decide)) (fun h => Bool.noConfusion h) fun _ => wss_nil ?_)
    refine wss_one (ws_ret (EE.to (ee_and (p := true) (q := true) (ee_isS B.isinstance B.str (ee_v 1 (d := .str x) rfl) trivial) fun _ => ee_and (p := true) (q := true) (EE.is (ee_le (ee_cb call_len B.len bi_len (ea_cons (ee_v 1 rfl) ea_nil) (cd_lenS (Nat.le_trans hx.1 (by decide)) ⟨rfl, rfl⟩)) (ee_gi hlo)) (congrArg D.bl (decide_eq_true (by omega)))) fun _ => we_one (ee_cb (cr_all rfl) B.all bi_all (ea_cons (ee_lc1 2 (ds := sgnsD x) (fun d => .bl (decide (sgC d ∈ lettersL))) rfl nd (wi_str (EE.to (ee_v 1 rfl) ⟨x, rfl, rfl, rfl, trivial⟩)) (by unfold sgnsD; rw [List.length_map]; exact lt1000 (by omega)) fun j d hd => ?_) ea_nil) (cd_all (bs := x.cps.toList.map fun c => decide (c ∈ lettersL)) (.inl ?_) ⟨?_, rfl⟩))) q))
    · obtain ⟨c, hc0, rfl⟩ := at_map hd
      exact fun s H C cl fp => ee_cmp op_in_sign (ee_v 2 rfl) (ee_gs hsg) (od_inC ⟨rfl, rfl⟩)
    · unfold sgnsD
      rw [List.map_map, List.map_map]
      rfl
    · rw [List.all_map]
      exact congrArg D.bl hx.2
end
end K23
set_option Elab.async false
set_option linter.all false
set_option maxRecDepth 100000
set_option maxHeartbeats 4000000
namespace K23
open PySem L2 PyProof.Rows DL
/-! ### schemas, rows, tables that are taken -/
abbrev Fd := Str × Str
def fdD (p : Fd) : D := .tup [.str p.1, .str p.2]
def fsD (fs : List Fd) : D := .tup (fs.map fdD)
def FdOk (p : Fd) : Prop := nameOk p.1 = true ∧ p.2 ∈ [("text" : Str), "whole"]
structure FsOk (fs : List Fd) : Prop where
  n0 : 1 ≤ fs.length
  n1 : fs.length ≤ 6
  ok : ∀ p ∈ fs, FdOk p
  key : fs[0]? = some (("id" : Str), ("whole" : Str))
  nd : (fs.map (·.1)).Nodup
def ValOk (kind : Str) (d : D) : Prop := (kind = "whole" ∧ ∃ v : Int, d = .int v ∧ -1000000000 ≤ v ∧ v ≤ 1000000000) ∨ (kind = "text" ∧ ∃ x : Str, d = .str x ∧ textOk x = true)
structure RwOk (fs : List Fd) (ps : List D) : Prop where
  len : ps.length = fs.length
  n1 : fs.length ≤ 6
  key : ∃ k : Int, ps[0]? = some (.int k) ∧ 0 ≤ k ∧ k ≤ 1000000000
  ok : ∀ (i : Nat) (f : Fd) (p : D), fs[i]? = some f → ps[i]? = some p → ValOk f.2 p
theorem zip_at {fs : List D} {ps : List D} {i : Nat} {d : D} (h : (List.zipWith (fun a b => D.tup [a, b]) fs ps)[i]? = some d) : ∃ a b, fs[i]? = some a ∧ ps[i]? = some b ∧ d = .tup [a, b] := by
  rw [List.getElem?_zipWith] at h
  cases e1 : fs[i]? with
  | none => rw [e1] at h; cases h
  | some a =>
    cases e2 : ps[i]? with
    | none => rw [e1, e2] at h; cases h
    | some b => rw [e1, e2] at h; exact ⟨a, b, rfl, rfl, (Option.some.inj h).symm⟩
section
variable {P : Program} {w : World} {K : PySem.W.Frag} {mg : Str → Option Value} {base : Heap}
def S_field : SpD := fun ds M Q => ∃ p : Fd, ds = [fdD p] ∧ FdOk p ∧ Q (.bl true) M
theorem d_field (F : Df K mg "is_field" s_is_field ["value"]) (B : Blt mg) (C : Ct K mg) (C1 : Cal P w K mg base 1 "is_name" 1 S_name) : Cal P w K mg base 2 "is_field" 1 S_field := by
  refine dfn' F sc_is_field rfl fun f cdv A outer s H E ds M Q hr hl hs => ?_
  obtain ⟨p, rfl, hp, q⟩ := hs
  obtain ⟨a, hK, g⟩ := C.kinds
  refine wss_cons (ws_ifE (k := false) (ww_pt (ew_or (p := false) (q := false) (ET.is (et_not (et_val (ee_isT B.isinstance B.tuple (ee_v 0 (d := fdD p) rfl) trivial))) rfl) fun _ => ew_or (p := false) (q := false) (ET.is (et_neI (ee_cb call_len B.len bi_len (ea_cons (ee_v 0 (d := fdD p) rfl) ea_nil) (cd_lenT ⟨rfl, rfl⟩)) ee_int) rfl) fun _ => ww_or1 (ET.is (et_not (et_val (we_call C1 hr (EA.to (ea_cons (ee_ix ix_tup (ee_v 0 (d := fdD p) rfl) ee_int (od_ixT (d := .str p.1) rfl ⟨rfl, rfl⟩)) ea_nil) ⟨rfl, p.1, rfl, hp.1, rfl, rfl⟩)))) rfl))) (fun h => Bool.noConfusion h) fun _ => wss_nil ?_)
  refine wss_one (ws_ret (EE.to (ee_and (p := true) (q := true) (ee_isS B.isinstance B.str (ee_ix ix_tup (ee_v 0 (d := fdD p) rfl) ee_int (od_ixT (d := .str p.2) rfl ⟨rfl, rfl⟩)) trivial) fun _ => we_one (EE.is (ee_cmp op_in_seq (ee_ix ix_tup (ee_v 0 (d := fdD p) rfl) ee_int (od_ixT (d := .str p.2) rfl ⟨rfl, rfl⟩)) (ee_gp hK) (od_inG g ⟨rfl, rfl⟩)) (congrArg D.bl (decide_eq_true hp.2)))) q))
def S_schema : SpD := fun ds M Q => ∃ fs : List Fd, ds = [fsD fs] ∧ FsOk fs ∧ Q (.bl true) M
theorem d_schema (F : Df K mg "is_schema" s_is_schema ["value"]) (B : Blt mg) (B2 : Bl2 mg) (C : Cq K mg) (C1 : Cal P w K mg base 2 "is_field" 1 S_field) : Cal P w K mg base 3 "is_schema" 1 S_schema := by
  refine dfn' F sc_is_schema rfl fun f cdv A outer s H E ds M Q hr hl hs => ?_
  obtain ⟨fs, rfl, ho, q⟩ := hs
  have nd := sc_is_schema.nd
  obtain ⟨t, hmf⟩ := C.fields
  obtain ⟨a, hkey, gkey⟩ := C.key
  have n0 := ho.n0
  have n1 := ho.n1
  have ln : (fs.map fdD).length = fs.length := List.length_map ..
  have h0 : atI (fs.map fdD) ((0 : Nat) : Int) = some (fdD ("id", "whole")) := atI_nat (by rw [List.getElem?_map, ho.key]; rfl)
  refine wss_cons (ws_ifE (k := false) (ww_pt (ew_or (p := false) (q := false) (ET.is (et_not (et_val (ee_isT B.isinstance B.tuple (ee_v 0 (d := fsD fs) rfl) trivial))) rfl) fun _ => ww_or1 (ET.is (et_not (et_le_le ee_int (ee_cb call_len B.len bi_len (ea_cons (ee_v 0 (d := fsD fs) rfl) ea_nil) (cd_lenT ⟨rfl, rfl⟩)) (ee_gi hmf))) ?_))) (fun h => Bool.noConfusion h) fun _ => wss_nil ?_)
  · rw [ln, decide_eq_true (show (1 : Int) ≤ (fs.length : Int) by omega), decide_eq_true (show (fs.length : Int) ≤ 6 by omega)]
    rfl
  refine wss_cons (ws_ifE (k := false) (ET.is (et_not (et_val (ee_cb (cr_all rfl) B.all bi_all (ea_cons (ee_lc1 1 (ds := fs.map fdD) (fun _ => .bl true) rfl nd (wi_tup (EE.to (ee_v 0 (d := fsD fs) rfl) ⟨_, rfl, rfl, rfl, trivial⟩)) (lt1000 (by omega)) fun j d hd => ?_) ea_nil) (cd_all (bs := fs.map fun _ => true) (.inl (by rw [List.map_map, List.map_map]; rfl)) ⟨rfl, rfl⟩)))) ?_) (fun h => Bool.noConfusion h) fun _ => wss_nil ?_)
  · obtain ⟨p, hp, rfl⟩ := at_map hd
    exact fun s H C cl fp => we_call C1 hr (EA.to (ea_cons (ee_v 1 rfl) ea_nil) ⟨rfl, p, rfl, ho.ok p (List.mem_of_getElem? hp), rfl, rfl⟩)
  · rw [Bool.not_eq_false', List.all_map]
    exact List.all_eq_true.mpr fun _ _ => rfl
  refine wss_one (ws_ret (EE.to (ee_and (p := true) (q := true) (EE.is (ee_cmp (op_eqD hr.units) (ee_ix ix_tup (ee_v 0 (d := fsD fs) rfl) ee_int (od_ixT h0 ⟨rfl, rfl⟩)) (ee_gp hkey) (od_eqG gkey (d := .tuple [.str "id", .str "whole"]) (.inl ⟨rfl, rfl⟩) (by decide +kernel) (by decide +kernel) ⟨rfl, rfl⟩)) (congrArg D.bl (by decide +kernel))) fun _ => we_one (EE.is (ee_cmp op_eq (we_lenSet B.len B2.set rfl (EE.to (ee_lc1 1 (ds := fs.map fdD) (fun d => (itemsD d).getD 0 .non) rfl nd (wi_tup (EE.to (ee_v 0 (d := fsD fs) rfl) ⟨_, rfl, rfl, rfl, trivial⟩)) (lt1000 (by omega)) fun j d hd => ?_) ⟨fs.map (·.1), .inl ?_, by rw [List.length_map]; omega, rfl, rfl⟩)) (ee_cb call_len B.len bi_len (ea_cons (ee_v 0 (d := fsD fs) rfl) ea_nil) (cd_lenT ⟨rfl, rfl⟩)) (od_eqI ⟨rfl, rfl⟩)) ?_)) q))
  · obtain ⟨p, hp, rfl⟩ := at_map hd
    exact fun s H C cl fp => ee_ix ix_tup (ee_v 1 rfl) ee_int (od_ixT (d := .str p.1) rfl ⟨rfl, rfl⟩)
  · rw [List.map_map, List.map_map]
    rfl
  · refine congrArg D.bl (decide_eq_true ?_)
    rw [(uniq_all _).mpr ho.nd, List.length_map, ln]
def S_rowk : SpD := fun ds M Q => ∃ (fs : List Fd) (ps : List D), ds = [fsD fs, .tup ps] ∧ RwOk fs ps ∧ Q (.bl true) M
theorem d_row (F : Df K mg "is_row" s_is_row ["schema", "value"]) (B : Blt mg) (C : Cq K mg) (C1 : Cal P w K mg base 1 "is_number" 3 S_num) (C2 : Cal P w K mg base 2 "is_value" 2 S_value) : Cal P w K mg base 3 "is_row" 2 S_rowk := by
  refine dfn' F sc_is_row rfl fun f cdv A outer s H E ds M Q hr hl hs => ?_
  obtain ⟨fs, ps, rfl, ho, q⟩ := hs
  have nd := sc_is_row.nd
  obtain ⟨t, hg⟩ := C.great
  obtain ⟨k, hk, k0, k1⟩ := ho.key
  have n1 := ho.n1
  have hlen := ho.len
  have ln : (fs.map fdD).length = fs.length := List.length_map ..
  have h0 : atI ps ((0 : Nat) : Int) = some (.int k) := atI_nat hk
  refine wss_cons (ws_ifE (k := false) (ww_pt (ew_or (p := false) (q := false) (ET.is (et_not (et_val (ee_isT B.isinstance B.tuple (ee_v 1 (d := .tup ps) rfl) trivial))) rfl) fun _ => ew_or (p := false) (q := false) (ET.is (et_neI (ee_cb call_len B.len bi_len (ea_cons (ee_v 1 (d := .tup ps) rfl) ea_nil) (cd_lenT ⟨rfl, rfl⟩)) (ee_cb call_len B.len bi_len (ea_cons (ee_v 0 (d := fsD fs) rfl) ea_nil) (cd_lenT ⟨rfl, rfl⟩))) ?_) fun _ => ww_or1 (ET.is (et_not (et_val (we_call C1 (hr.mono (by omega)) (EA.to (ea_cons (ee_ix ix_tup (ee_v 1 (d := .tup ps) rfl) ee_int (od_ixT h0 ⟨rfl, rfl⟩)) (ea_cons ee_int (ea_cons (ee_gi hg) ea_nil))) ⟨rfl, .int k, _, _, rfl, rfl, rfl, rfl⟩)))) ?_))) (fun h => Bool.noConfusion h) fun _ => wss_nil ?_)
  · rw [ln, hlen, decide_eq_true rfl]
    rfl
  · show (!(true && (decide (0 ≤ k) && decide (k ≤ 1000000000)))) = false
    rw [decide_eq_true k0, decide_eq_true k1]
    rfl
  have hzl : (List.zipWith (fun a b => D.tup [a, b]) (fs.map fdD) ps).length < 1000 := by rw [List.length_zipWith, ln, hlen]; omega
  refine wss_one (ws_ret (EE.to (ee_cb (cr_all rfl) B.all bi_all (ea_cons (ee_lc2 2 3 (ds := List.zipWith (fun a b => D.tup [a, b]) (fs.map fdD) ps) (fun _ _ => .bl true) rfl nd (wi_zipT B.zip (EA.to (ea_cons (ee_v 0 (d := fsD fs) rfl) (ea_cons (ee_v 1 (d := .tup ps) rfl) ea_nil)) ⟨_, _, rfl, rfl, rfl, trivial⟩)) (lt1000 hzl) fun j d hd => ?_) ea_nil) (cd_all (bs := (List.zipWith (fun a b => D.tup [a, b]) (fs.map fdD) ps).map fun _ => true) (.inl (by rw [List.map_map]; rfl)) ⟨?_, rfl⟩)) q))
  · obtain ⟨a, b, ha, hb, rfl⟩ := zip_at hd
    obtain ⟨p, hp, rfl⟩ := at_map ha
    have hv := ho.ok j p b hp hb
    refine ⟨fdD p, b, rfl, fun s H C cl fp => we_call C2 (hr.mono (by omega)) (EA.to (ea_cons (ee_ix ix_tup (ee_v 2 (d := fdD p) rfl) ee_int (od_ixT (d := .str p.2) rfl ⟨rfl, rfl⟩)) (ea_cons (ee_v 3 rfl) ea_nil)) ⟨rfl, ?_, rfl, rfl⟩)⟩
    rcases hv with ⟨e, v, rfl, h1, h2⟩ | ⟨e, x, rfl, hx⟩
    · exact .inl ⟨v, by rw [e], h1, h2⟩
    · exact .inr ⟨x, by rw [e], hx⟩
  · rw [List.all_map]
    exact congrArg D.bl (List.all_eq_true.mpr fun _ _ => rfl)
end
end K23
set_option Elab.async false
set_option linter.all false
set_option maxRecDepth 100000
set_option maxHeartbeats 4000000
namespace K23
open PySem L2 PyProof.Rows DL
/-! ### tables that are taken; tuples of ints compared; the class Halving -/
theorem shapedT_int (ns : List Int) : SeqAt.shaped (.tuple (ns.map PyData.int)) = true := by
  refine Bool.and_eq_true_iff.mpr ⟨lay_int ns, decide_eq_true ?_⟩
  show PyData.depthAll (ns.map PyData.int) + 1 ≤ 64
  rw [depth_int]
  decide
theorem eqvA_int : ∀ a b : List Int, PyData.eqvAll (a.map PyData.int) (b.map PyData.int) = decide (a = b)
  | [], [] => rfl
  | [], _ :: _ => by simp [PyData.eqvAll]
  | _ :: _, [] => by simp [PyData.eqvAll]
  | x :: a, y :: b => by
    rw [List.map_cons, List.map_cons, PyData.eqvAll, eqvA_int a b]
    simp [PyData.eqv]
    rfl
theorem eqvT_int (a b : List Int) : PyData.eqv (.tuple (a.map PyData.int)) (.tuple (b.map PyData.int)) = decide (a = b) := by rw [PyData.eqv, eqvA_int]
theorem pydT {M : Mem} (ns : List Int) : PyD M (.tup (ns.map .int)) (.tuple (ns.map PyData.int)) := .inl ⟨plA_int ns, by show _ = PyData.tuple (toPyA (ns.map D.int)); rw [toPyA_int]⟩
theorem pr_eq (p q : Int × Int) : decide (([p.1, p.2] : List Int) = [q.1, q.2]) = decide (p = q) := decide_eq_decide.mpr ⟨fun h => by
  have h1 := (List.cons.inj h).1
  have h2 := (List.cons.inj (List.cons.inj h).2).1
  exact Prod.ext h1 h2, fun h => by rw [h]⟩
def tabD (n : Str) (fs : List Fd) (rs : List Rw) : D := .tup [.str n, fsD fs, rowsD rs]
def schF : List Fd := [("id", "whole"), ("n", "whole")]
def schF1 : List Fd := [("id", "whole")]
theorem sch_ok : FsOk schF := ⟨by decide, by decide, fun p hp => by
  simp only [schF, List.mem_cons, List.not_mem_nil, or_false] at hp
  rcases hp with rfl | rfl
  · exact ⟨by decide +kernel, by decide +kernel⟩
  · exact ⟨by decide +kernel, by decide +kernel⟩, rfl, by decide +kernel⟩
theorem sch_ok1 : FsOk schF1 := ⟨by decide, by decide, fun p hp => by
  rw [List.mem_singleton.mp hp]
  exact ⟨by decide +kernel, by decide +kernel⟩, rfl, by decide +kernel⟩
theorem rw_ok {r : Rw} (h : OkW r) : RwOk schF (cells r) := by
  have a := h.k0
  have b := h.k1
  have c := h.v_
  refine ⟨rfl, by decide, ⟨r.1, rfl, a, b⟩, fun i f p hf hp => ?_⟩
  match i, hf, hp with
  | 0, hf, hp => cases hf; cases hp; exact .inl ⟨rfl, r.1, rfl, by omega, by omega⟩
  | 1, hf, hp => cases hf; cases hp; exact .inl ⟨rfl, r.2, rfl, by omega, by omega⟩
  | _ + 2, hf, hp => cases hf
structure TbOk (n : Str) (fs : List Fd) (rs : List Rw) : Prop where
  nm : nameOk n = true
  fs_ : FsOk fs
  z : rs.length ≤ 100
  ok : ∀ r ∈ rs, RwOk fs (cells r)
  asc : ascB (rs.map (·.1)) = true
section
variable {P : Program} {w : World} {K : PySem.W.Frag} {mg : Str → Option Value} {base : Heap}
def S_table : SpD := fun ds M Q => ∃ (n : Str) (fs : List Fd) (rs : List Rw), ds = [tabD n fs rs] ∧ TbOk n fs rs ∧ Q (.bl true) M
theorem d_table (F : Df K mg "is_table" s_is_table ["value"]) (B : Blt mg) (C : Cq K mg) (C1 : Cal P w K mg base 1 "is_name" 1 S_name) (C2 : Cal P w K mg base 3 "is_schema" 1 S_schema) (C3 : Cal P w K mg base 3 "is_row" 2 S_rowk) (C4 : Cal P w K mg base 1 "is_ascending" 1 S_asc) : Cal P w K mg base 4 "is_table" 1 S_table := by
  refine dfn' F sc_is_table rfl fun f cdv A outer s H E ds M Q hr hl hs => ?_
  obtain ⟨n, fs, rs, rfl, T, q⟩ := hs
  have hz := T.z
  have nd := sc_is_table.nd
  obtain ⟨t, hmr⟩ := C.rows
  have ln : (rs.map rwD).length = rs.length := List.length_map ..
  have v0 : ∀ {sg : Sg} {M : Mem} {p1 p2 p3 : Pos} {j : Nat}, sg[0]? = some (some (tabD n fs rs)) → EE (cxOf CX0 P w K mg base ["value", "row"] "is_table" (defScope s_is_table) f cdv A outer s H E).nox (.Subscript (.Name "value" p1) (.Constant (.int 2) j p2) p3) sg M (rowsD rs) := fun h => ee_ix ix_tup (ee_v 0 h) ee_int (od_ixT (d := rowsD rs) rfl ⟨rfl, rfl⟩)
  refine wss_cons (ws_ifE (k := false) (ww_pt (ew_or (p := false) (q := false) (ET.is (et_not (et_val (ee_isT B.isinstance B.tuple (ee_v 0 (d := tabD n fs rs) rfl) trivial))) rfl) fun _ => ew_or (p := false) (q := false) (ET.is (et_neI (ee_cb call_len B.len bi_len (ea_cons (ee_v 0 (d := tabD n fs rs) rfl) ea_nil) (cd_lenT ⟨rfl, rfl⟩)) ee_int) rfl) fun _ => ew_or (p := false) (q := false) (ET.is (et_not (et_val (we_call C1 (hr.mono (by omega)) (EA.to (ea_cons (ee_ix ix_tup (ee_v 0 (d := tabD n fs rs) rfl) ee_int (od_ixT (d := .str n) rfl ⟨rfl, rfl⟩)) ea_nil) ⟨rfl, n, rfl, T.nm, rfl, rfl⟩)))) rfl) fun _ => ww_or1 (ET.is (et_not (et_val (we_call C2 hr (EA.to (ea_cons (ee_ix ix_tup (ee_v 0 (d := tabD n fs rs) rfl) ee_int (od_ixT (d := fsD fs) rfl ⟨rfl, rfl⟩)) ea_nil) ⟨rfl, fs, rfl, T.fs_, rfl, rfl⟩)))) rfl))) (fun h => Bool.noConfusion h) fun _ => wss_nil ?_)
  refine wss_cons (ws_ifE (k := false) (ww_pt (ew_or (p := false) (q := false) (ET.is (et_not (et_val (ee_isT B.isinstance B.tuple (v0 rfl) trivial))) rfl) fun _ => ww_or1 (ET.is (et_gt (ee_cb call_len B.len bi_len (ea_cons (v0 rfl) ea_nil) (cd_lenT ⟨rfl, rfl⟩)) (ee_gi hmr)) (decide_eq_false (by rw [ln]; omega))))) (fun h => Bool.noConfusion h) fun _ => wss_nil ?_)
  refine wss_one (ws_ret (EE.to (ee_and (p := true) (q := true) (ee_cb (cr_all rfl) B.all bi_all (ea_cons (ee_lc1 1 (ds := rs.map rwD) (fun _ => .bl true) rfl nd (wi_tup (EE.to (v0 rfl) ⟨_, rfl, rfl, rfl, trivial⟩)) (lt1000 (by omega)) fun j d hd => ?_) ea_nil) (cd_all (bs := rs.map fun _ => true) (.inl (by rw [List.map_map, List.map_map]; rfl)) ⟨?_, rfl⟩)) fun _ => we_one (we_call C4 (hr.mono (by omega)) (EA.to (ea_cons (ee_lc1 1 (ds := rs.map rwD) (fun d => .int (keyD d)) rfl nd (wi_tup (EE.to (v0 rfl) ⟨_, rfl, rfl, rfl, trivial⟩)) (lt1000 (by omega)) fun j d hd => ?_) ea_nil) ⟨rfl, rs.map (·.1), ?_, by rw [List.length_map]; omega, congrArg D.bl T.asc, rfl⟩))) q))
  · obtain ⟨r, hr0, rfl⟩ := at_map hd
    exact fun s H C cl fp => we_call C3 hr (EA.to (ea_cons (ee_ix ix_tup (ee_v 0 (d := tabD n fs rs) rfl) ee_int (od_ixT (d := fsD fs) rfl ⟨rfl, rfl⟩)) (ea_cons (ee_v 1 rfl) ea_nil)) ⟨rfl, fs, cells r, rfl, T.ok r (List.mem_of_getElem? hr0), rfl, rfl⟩)
  · rw [List.all_map]
    exact congrArg D.bl (List.all_eq_true.mpr fun _ _ => rfl)
  · obtain ⟨r, hr0, rfl⟩ := at_map hd
    exact fun s H C cl fp => ee_ix ix_tup (ee_v 1 rfl) ee_int (od_ixT (d := .int r.1) rfl ⟨rfl, rfl⟩)
  · rw [List.map_map, List.map_map]
    rfl
end
end K23
set_option Elab.async false
set_option linter.all false
set_option maxRecDepth 100000
set_option maxHeartbeats 4000000
namespace K23
open PySem L2 PyProof.Rows DL
/-! ### the plain repair: its states, its steps, and that it comes to an end -/
structure Good (rs : List Rw) : Prop where
  ok : ∀ r ∈ rs, OkW r
  asc : rs.Pairwise fun a b => a.1 < b.1
theorem asc_ext : ∀ {a b : List Rw}, a.Pairwise (fun x y => x.1 < y.1) → b.Pairwise (fun x y => x.1 < y.1) → (∀ r, r ∈ a ↔ r ∈ b) → a = b
  | [], [], _, _, _ => rfl
  | [], y :: b, _, _, h => by have := (h y).mpr List.mem_cons_self; cases this
  | x :: a, [], _, _, h => by have := (h x).mp List.mem_cons_self; cases this
  | x :: a, y :: b, ha, hb, h => by
    obtain ⟨a1, a2⟩ := List.pairwise_cons.mp ha
    obtain ⟨b1, b2⟩ := List.pairwise_cons.mp hb
    have e : x = y := by
      rcases List.mem_cons.mp ((h x).mp List.mem_cons_self) with e | h1
      · exact e
      · rcases List.mem_cons.mp ((h y).mpr List.mem_cons_self) with e | h2
        · exact e.symm
        · have := a1 _ h2
          have := b1 _ h1
          omega
    subst e
    rw [asc_ext a2 b2 fun r => ⟨fun hr => ?_, fun hr => ?_⟩]
    · rcases List.mem_cons.mp ((h r).mp (List.mem_cons_of_mem _ hr)) with e | h1
      · have := a1 _ hr
        rw [e] at this
        omega
      · exact h1
    · rcases List.mem_cons.mp ((h r).mpr (List.mem_cons_of_mem _ hr)) with e | h1
      · have := b1 _ hr
        rw [e] at this
        omega
      · exact h1
structure Qn where
  rows : Bool
  lo : Int
  hi : Int
structure RS where
  rows : List Rw
  wait : List Qn
  copied : Nat
  asked : Nat
def outR (rs : List Rw) (lo hi : Int) : List Rw := rs.filter fun r => !(decide (lo ≤ r.1) && decide (r.1 < hi))
/-- the rows between lo and hi are taken from the others -/
def ins (rs os : List Rw) (lo hi : Int) : List Rw := (rs.filter fun r => decide (r.1 < lo)) ++ (inR os lo hi ++ rs.filter fun r => decide (lo ≤ r.1) && decide (hi ≤ r.1))
theorem mem_inR {rs : List Rw} {lo hi : Int} {r : Rw} : r ∈ inR rs lo hi ↔ r ∈ rs ∧ lo ≤ r.1 ∧ r.1 < hi := by
  unfold inR
  rw [List.mem_filter, Bool.and_eq_true, decide_eq_true_iff, decide_eq_true_iff]
theorem mem_outR {rs : List Rw} {lo hi : Int} {r : Rw} : r ∈ outR rs lo hi ↔ r ∈ rs ∧ ¬(lo ≤ r.1 ∧ r.1 < hi) := by
  unfold outR
  rw [List.mem_filter, Bool.not_eq_true', ← Bool.not_eq_true, Bool.and_eq_true, decide_eq_true_iff, decide_eq_true_iff]
theorem mem_ins {rs os : List Rw} {lo hi : Int} (h : lo ≤ hi) {r : Rw} : r ∈ ins rs os lo hi ↔ r ∈ outR rs lo hi ++ inR os lo hi := by
  unfold ins
  rw [List.mem_append, List.mem_append, List.mem_append, mem_inR, mem_outR, List.mem_filter, List.mem_filter, decide_eq_true_iff, Bool.and_eq_true, decide_eq_true_iff, decide_eq_true_iff]
  constructor
  · rintro (⟨a, b⟩ | a | ⟨a, b, c⟩)
    · exact .inl ⟨a, by omega⟩
    · exact .inr a
    · exact .inl ⟨a, by omega⟩
  · rintro (⟨a, b⟩ | a)
    · by_cases c : r.1 < lo
      · exact .inl ⟨a, c⟩
      · exact .inr (.inr ⟨a, by omega, by omega⟩)
    · exact .inr (.inl a)
theorem ins_good {rs os : List Rw} {lo hi : Int} (h : lo ≤ hi) (h1 : Good rs) (h2 : Good os) : Good (ins rs os lo hi) := by
  refine ⟨fun r hr => ?_, ?_⟩
  · rcases List.mem_append.mp ((mem_ins h).mp hr) with hr | hr
    · exact h1.ok r (mem_outR.mp hr).1
    · exact h2.ok r (mem_inR.mp hr).1
  · unfold ins
    rw [List.pairwise_append, List.pairwise_append]
    refine ⟨h1.asc.filter _, ⟨h2.asc.filter _, h1.asc.filter _, fun a ha b hb => ?_⟩, fun a ha b hb => ?_⟩
    · have a1 := mem_inR.mp ha
      have b1 := (List.mem_filter.mp hb).2
      rw [Bool.and_eq_true, decide_eq_true_iff, decide_eq_true_iff] at b1
      omega
    · have a1 := of_decide_eq_true (List.mem_filter.mp ha).2
      rcases List.mem_append.mp hb with hb | hb
      · have b1 := mem_inR.mp hb
        omega
      · have b1 := (List.mem_filter.mp hb).2
        rw [Bool.and_eq_true, decide_eq_true_iff, decide_eq_true_iff] at b1
        omega
def step (os : List Rw) (small : Int) (s : RS) : RS := match s.wait with
  | [] => s
  | q :: w =>
    if q.rows then ⟨ins s.rows os q.lo q.hi, w, s.copied + (inR os q.lo q.hi).length, s.asked + 1⟩
    else if rngN os q.lo q.hi = rngN s.rows q.lo q.hi then ⟨s.rows, w, s.copied, s.asked + 1⟩
    else if ((inR os q.lo q.hi).length : Int) ≤ small ∨ q.hi - q.lo = 1 then ⟨s.rows, ⟨true, q.lo, q.hi⟩ :: w, s.copied, s.asked + 1⟩
    else ⟨s.rows, ⟨false, q.lo, (q.lo + q.hi) / 2⟩ :: ⟨false, (q.lo + q.hi) / 2, q.hi⟩ :: w, s.copied, s.asked + 1⟩
def sts (rs os : List Rw) (small : Int) : Nat → RS
  | 0 => ⟨rs, [⟨false, 0, 1073741824⟩], 0, 0⟩
  | t + 1 => step os small (sts rs os small t)
/-- a question's width is a power of two -/
def QOk (q : Qn) : Prop := 0 ≤ q.lo ∧ ∃ j : Nat, j ≤ 30 ∧ q.hi - q.lo = ((2 ^ j : Nat) : Int)
theorem pow_pos2 (j : Nat) : 0 < 2 ^ j := Nat.pos_of_ne_zero (by simp)
theorem pow_half (j : Nat) : 2 ^ (j + 1) = 2 * 2 ^ j := by rw [Nat.pow_succ]; omega
theorem QOk.le {q : Qn} (h : QOk q) : q.lo ≤ q.hi := by
  obtain ⟨_, j, _, e⟩ := h
  have := pow_pos2 j
  omega
structure SOk (rs os : List Rw) (s : RS) : Prop where
  g : Good s.rows
  w : ∀ q ∈ s.wait, QOk q
  m : ∀ r ∈ s.rows, r ∈ rs ∨ r ∈ os
theorem half_ok {q : Qn} (h : QOk q) (h1 : q.hi - q.lo ≠ 1) : ∃ j : Nat, j ≤ 29 ∧ q.hi - q.lo = ((2 ^ (j + 1) : Nat) : Int) ∧ (q.lo + q.hi) / 2 - q.lo = ((2 ^ j : Nat) : Int) ∧ q.hi - (q.lo + q.hi) / 2 = ((2 ^ j : Nat) : Int) ∧ 0 ≤ (q.lo + q.hi) / 2 := by
  obtain ⟨h0, j, hj, e⟩ := h
  match j with
  | 0 => exact absurd e h1
  | j + 1 =>
    have e2 := e
    rw [pow_half] at e2
    have := pow_pos2 j
    exact ⟨j, by omega, e, by omega, by omega, by omega⟩
theorem step_ok {rs os : List Rw} {small : Int} {s : RS} (h : SOk rs os s) (h2 : Good os) : SOk rs os (step os small s) := by
  obtain ⟨rows, wait, copied, asked⟩ := s
  cases wait with
  | nil => exact h
  | cons q w =>
    have hq := h.w q List.mem_cons_self
    have hw : ∀ x ∈ w, QOk x := fun x hx => h.w x (List.mem_cons_of_mem _ hx)
    unfold step
    dsimp only
    split
    · refine ⟨ins_good hq.le h.g h2, hw, fun r hr => ?_⟩
      rcases List.mem_append.mp ((mem_ins hq.le).mp hr) with hr | hr
      · exact h.m r (mem_outR.mp hr).1
      · exact .inr (mem_inR.mp hr).1
    · split
      · exact ⟨h.g, hw, h.m⟩
      · split
        · refine ⟨h.g, fun x hx => ?_, h.m⟩
          rcases List.mem_cons.mp hx with rfl | hx
          · exact hq
          · exact hw x hx
        · rename_i c
          obtain ⟨j, hj, e, e1, e2, e3⟩ := half_ok hq fun z => c (.inr z)
          refine ⟨h.g, fun x hx => ?_, h.m⟩
          rcases List.mem_cons.mp hx with rfl | hx
          · exact ⟨hq.1, j, by omega, e1⟩
          · rcases List.mem_cons.mp hx with rfl | hx
            · exact ⟨e3, j, by omega, e2⟩
            · exact hw x hx
theorem sts_ok {rs os : List Rw} (small : Int) (h1 : Good rs) (h2 : Good os) : ∀ t, SOk rs os (sts rs os small t)
  | 0 => ⟨h1, fun q hq => by rw [List.mem_singleton.mp hq]; exact ⟨(show (0 : Int) ≤ 0 by decide), 30, by decide, by decide⟩, fun r hr => .inl hr⟩
  | t + 1 => step_ok (sts_ok small h1 h2 t) h2
/-- how many of the keys lie in a range -/
def cntK (ks : List Int) (lo hi : Int) : Nat := (ks.filter fun k => decide (lo ≤ k) && decide (k < hi)).length
theorem cntK_split (ks : List Int) {lo m hi : Int} (h1 : lo ≤ m) (h2 : m ≤ hi) : cntK ks lo hi = cntK ks lo m + cntK ks m hi := by
  unfold cntK
  induction ks with
  | nil => rfl
  | cons k ks ih =>
    simp only [List.filter_cons]
    by_cases a : lo ≤ k <;> by_cases b : k < m <;> by_cases c : k < hi <;> by_cases d : m ≤ k <;> simp [a, b, c, d] <;> omega
theorem cntK_pos {ks : List Int} {lo hi k : Int} (h : k ∈ ks) (h1 : lo ≤ k) (h2 : k < hi) : 0 < cntK ks lo hi := by
  refine List.length_pos_of_mem (a := k) (List.mem_filter.mpr ⟨h, ?_⟩)
  rw [decide_eq_true h1, decide_eq_true h2]
  rfl
/-- what a question may yet cost: its width is 2^j -/
def lg (n : Int) : Nat := n.toNat.log2
theorem lg_pow (j : Nat) : lg ((2 ^ j : Nat) : Int) = j := by
  unfold lg
  rw [Int.toNat_natCast]
  exact Nat.log2_two_pow
def pot (ks : List Int) (q : Qn) : Nat := if q.rows then 1 else 1 + (2 * lg (q.hi - q.lo) + 1) * cntK ks q.lo q.hi
def pots (ks : List Int) (w : List Qn) : Nat := (w.map (pot ks)).sum
theorem rng_ne {a b : List Rw} {lo hi : Int} (h : rngN a lo hi ≠ rngN b lo hi) : ∃ r, (r ∈ a ∨ r ∈ b) ∧ lo ≤ r.1 ∧ r.1 < hi := by
  cases ha : inR a lo hi with
  | cons r _ =>
    have := mem_inR.mp (show r ∈ inR a lo hi by rw [ha]; exact List.mem_cons_self)
    exact ⟨r, .inl this.1, this.2⟩
  | nil =>
    cases hb : inR b lo hi with
    | cons r _ =>
      have := mem_inR.mp (show r ∈ inR b lo hi by rw [hb]; exact List.mem_cons_self)
      exact ⟨r, .inr this.1, this.2⟩
    | nil => exact absurd (by unfold rngN; rw [ha, hb]) h
theorem step_pot {rs os : List Rw} {small : Int} {s : RS} (h : SOk rs os s) (hw : s.wait ≠ []) : pots ((rs ++ os).map (·.1)) (step os small s).wait < pots ((rs ++ os).map (·.1)) s.wait := by
  obtain ⟨rows, wait, copied, asked⟩ := s
  cases wait with
  | nil => exact absurd rfl hw
  | cons q w =>
    have hq := h.w q List.mem_cons_self
    generalize hks : (rs ++ os).map (·.1) = ks
    have p1 : 1 ≤ pot ks q := by unfold pot; split <;> omega
    have e0 : pots ks (q :: w) = pot ks q + pots ks w := by unfold pots; rw [List.map_cons, List.sum_cons]
    show pots ks _ < pots ks (q :: w)
    rw [e0]
    unfold step
    dsimp only
    split
    · show pots ks w < _; omega
    · rename_i nr
      split
      · show pots ks w < _; omega
      · rename_i ne
        obtain ⟨r, hr, r1, r2⟩ := rng_ne ne
        have hk : r.1 ∈ ks := by
          rw [← hks]
          refine List.mem_map_of_mem (List.mem_append.mpr ?_)
          rcases hr with hr | hr
          · exact .inr hr
          · exact h.m r hr
        have c1 := cntK_pos hk r1 r2
        have pq : pot ks q = 1 + (2 * lg (q.hi - q.lo) + 1) * cntK ks q.lo q.hi := if_neg nr
        split
        · have e1 : pots ks (⟨true, q.lo, q.hi⟩ :: w) = 1 + pots ks w := by unfold pots; rw [List.map_cons, List.sum_cons]; rfl
          show pots ks (⟨true, q.lo, q.hi⟩ :: w) < _
          rw [e1, pq, Nat.add_mul, Nat.one_mul]
          omega
        · rename_i c
          obtain ⟨j, hj, e, f1, f2, f3⟩ := half_ok hq fun z => c (.inr z)
          have sp := cntK_split ks (lo := q.lo) (m := (q.lo + q.hi) / 2) (hi := q.hi) (by have := pow_pos2 j; omega) (by have := pow_pos2 j; omega)
          have e1 : pots ks (⟨false, q.lo, (q.lo + q.hi) / 2⟩ :: ⟨false, (q.lo + q.hi) / 2, q.hi⟩ :: w) = (1 + (2 * j + 1) * cntK ks q.lo ((q.lo + q.hi) / 2)) + ((1 + (2 * j + 1) * cntK ks ((q.lo + q.hi) / 2) q.hi) + pots ks w) := by
            unfold pots
            rw [List.map_cons, List.sum_cons, List.map_cons, List.sum_cons]
            show (1 + (2 * lg ((q.lo + q.hi) / 2 - q.lo) + 1) * _) + ((1 + (2 * lg (q.hi - (q.lo + q.hi) / 2) + 1) * _) + _) = _
            rw [f1, f2, lg_pow]
          show pots ks (⟨false, q.lo, (q.lo + q.hi) / 2⟩ :: ⟨false, (q.lo + q.hi) / 2, q.hi⟩ :: w) < _
          rw [e1, pq, e, lg_pow]
          rw [sp] at c1 ⊢
          generalize cntK ks q.lo ((q.lo + q.hi) / 2) = a at *
          generalize cntK ks ((q.lo + q.hi) / 2) q.hi = b at *
          have : (2 * (j + 1) + 1) * (a + b) = (2 * j + 1) * a + (2 * j + 1) * b + 2 * (a + b) := by
            rw [show 2 * (j + 1) + 1 = (2 * j + 1) + 2 by omega, Nat.add_mul, Nat.mul_add]
          omega
theorem sts_go {rs os : List Rw} {small : Int} (h1 : Good rs) (h2 : Good os) : ∀ m t : Nat, pots ((rs ++ os).map (·.1)) (sts rs os small t).wait ≤ m → ∃ N, t ≤ N ∧ N ≤ t + m ∧ (sts rs os small N).wait = [] ∧ ∀ u, t ≤ u → u < N → (sts rs os small u).wait ≠ []
  | m, t, hm => by
    by_cases e : (sts rs os small t).wait = []
    · exact ⟨t, Nat.le_refl _, Nat.le_add_right _ _, e, fun u a b => by omega⟩
    · have hp := step_pot (small := small) (sts_ok small h1 h2 t) e
      match m, hm with
      | 0, hm => omega
      | m + 1, hm =>
        obtain ⟨N, a, b, c, d⟩ := sts_go h1 h2 m (t + 1) (by show pots _ (step os small (sts rs os small t)).wait ≤ m; omega)
        refine ⟨N, by omega, by omega, c, fun u u1 u2 => ?_⟩
        by_cases z : u = t
        · rw [z]; exact e
        · exact d u (by omega) u2
theorem sts_end {rs os : List Rw} (small : Int) (h1 : Good rs) (h2 : Good os) : ∃ N, N ≤ 1 + 61 * (rs.length + os.length) ∧ (sts rs os small N).wait = [] ∧ ∀ t, t < N → (sts rs os small t).wait ≠ [] := by
  have hp : pots ((rs ++ os).map (·.1)) (sts rs os small 0).wait ≤ 1 + 61 * (rs.length + os.length) := by
    show pots ((rs ++ os).map (·.1)) [⟨false, 0, 1073741824⟩] ≤ _
    have hc : cntK ((rs ++ os).map (·.1)) 0 1073741824 ≤ rs.length + os.length := by
      unfold cntK
      refine Nat.le_trans (List.length_filter_le _ _) ?_
      rw [List.length_map, List.length_append]
      exact Nat.le_refl _
    have hl : lg (1073741824 - 0) = 30 := lg_pow 30
    have e : pots ((rs ++ os).map (·.1)) [⟨false, 0, 1073741824⟩] = 1 + (2 * lg (1073741824 - 0) + 1) * cntK ((rs ++ os).map (·.1)) 0 1073741824 + 0 := rfl
    rw [e, hl]
    omega
  obtain ⟨N, _, b, c, d⟩ := sts_go h1 h2 _ 0 hp
  exact ⟨N, by omega, c, fun t ht => d t (Nat.zero_le _) ht⟩
end K23
set_option Elab.async false
set_option linter.all false
set_option maxRecDepth 100000
set_option maxHeartbeats 4000000
namespace K23
open PySem L2 PyProof.Rows DL
/-! ### Repair: its state, its methods -/
def qD (q : Qn) : D := .tup [.str (if q.rows then "rows" else "checks"), .int q.lo, .int q.hi]
def rpF (n : Str) (fs : List Fd) (small : Int) (s : RS) : List (Str × D) := [("_name", .str n), ("_schema", fsD fs), ("_rows", rowsD s.rows), ("_small", .int small), ("_waiting", .lst (s.wait.map qD)), ("_copied", .int (s.copied : Int)), ("_asked", .int (s.asked : Int))]
def rp0 (rs : List Rw) : RS := ⟨rs, [⟨false, 0, 1073741824⟩], 0, 0⟩
def qO (s : RS) : D := match s.wait with
  | [] => .non
  | q :: _ => qD q
def ansD (os : List Rw) (q : Qn) : D := if q.rows then rowsD (inR os q.lo q.hi) else prD (rngN os q.lo q.hi)
/-- the method m of the class stands behind its def -/
def Dm (K : PySem.W.Frag) (C : Addr) (m q : Str) (st : Stmt) (ps : List Str) : Prop := ∃ f fd, Fun K m q st f fd ∧ Meth K C m f ∧ Binds K fd ps []
def Di (K : PySem.W.Frag) (mg : Str → Option Value) (x : Str) (C : Addr) (q : Str) (st : Stmt) (ps : List Str) : Prop := ∃ f fd, Fun K "__init__" q st f fd ∧ Mk K C f ∧ mg x = some (.ref C) ∧ Binds K fd ps []
structure HC (K : PySem.W.Frag) (C : Addr) : Prop where
  cls : Cls K C
  na : ∀ f : Str, f ∈ [("_name" : Str), "_schema", "_rows", "_small", "_waiting", "_copied", "_asked"] → NoAttr K C f
structure Cr (mg : Str → Option Value) : Prop where
  checks : ∃ t, mg "CHECKS" = some (.str "checks" t)
  rows : ∃ t, mg "ROWS" = some (.str "rows" t)
/-- what sorted makes of both parts -/
theorem srt_is {rs os : List Rw} {lo hi : Int} (h : lo ≤ hi) (h1 : Good rs) (h2 : Good os) {ps : List (Int × Int)} (hp : ps.Perm (outR rs lo hi ++ inR os lo hi)) (hs : SrtP ps) : ps = ins rs os lo hi := by
  have hn : ((outR rs lo hi ++ inR os lo hi).map (·.1)).Nodup := by
    have asc_nd : ∀ {l : List Rw}, l.Pairwise (fun a b => a.1 < b.1) → (l.map (·.1)).Nodup := fun {l} hl => by
      rw [List.nodup_iff_pairwise_ne, List.pairwise_map]
      exact hl.imp fun h => by omega
    rw [List.map_append, List.nodup_append]
    refine ⟨asc_nd (h1.asc.filter _), asc_nd (h2.asc.filter _), fun a ha b hb => ?_⟩
    obtain ⟨x, hx, rfl⟩ := List.mem_map.mp ha
    obtain ⟨y, hy, rfl⟩ := List.mem_map.mp hb
    have x1 := (mem_outR.mp hx).2
    have y1 := (mem_inR.mp hy).2
    intro e
    rw [e] at x1
    exact x1 y1
  have hn2 : (ps.map (·.1)).Nodup := (hp.map _).nodup_iff.mpr hn
  rw [List.nodup_iff_pairwise_ne, List.pairwise_map] at hn2
  refine asc_ext ((hs.and hn2).imp fun {a b} hab => ?_) (ins_good h h1 h2).asc fun r => hp.mem_iff.trans (mem_ins h).symm
  have q1 := SrtO.lexB_no.mp hab.1
  have q2 := hab.2
  omega
section
variable {P : Program} {w : World} {K : PySem.W.Frag} {mg : Str → Option Value} {base : Heap} {C : Addr}
theorem dfm {m q : Str} {st : Stmt} {N ps : List Str} {k n : Nat} {S : SpD} (F : Dm K C m q st ps) (sc : FnScope N ps (defScope st)) (hn : ps.length = n)
    (body : ∀ (f : Addr) (cdv : Value) (A : Around) (outer : List Env) (s : Shared) (H : Hp) (E : XK) (ds : List D) (M : Mem) (Q : D → Mem → Prop), Room k (A.deeper (envOfC q (defScope st) s.heap.objs.size f cdv)) → ds.length = n → S ds M Q →
      WSs (cxOf CX0 P w K mg base N q (defScope st) f cdv A outer s H E).nox (defBody st) (startD N ds) M { nx := fun _ M' => Q .non M', rt := Q }) : CalM P w K mg base (k + 1) C m n S := by
  obtain ⟨f, fd, F, hm, hb⟩ := F
  exact ⟨f, fd, ps, dfnF F sc hn body, hm, hb⟩
theorem dfi {x q : Str} {st : Stmt} {N ps : List Str} {k n : Nat} {S : SpD} (F : Di K mg x C q st ps) (sc : FnScope N ps (defScope st)) (hn : ps.length = n)
    (body : ∀ (f : Addr) (cdv : Value) (A : Around) (outer : List Env) (s : Shared) (H : Hp) (E : XK) (ds : List D) (M : Mem) (Q : D → Mem → Prop), Room k (A.deeper (envOfC q (defScope st) s.heap.objs.size f cdv)) → ds.length = n → S ds M Q →
      WSs (cxOf CX0 P w K mg base N q (defScope st) f cdv A outer s H E).nox (defBody st) (startD N ds) M { nx := fun _ M' => Q .non M', rt := Q }) : CalI P w K mg base (k + 1) x C n S := by
  obtain ⟨f, fd, F, hm, hg, hb⟩ := F
  exact ⟨f, fd, ps, dfnF F sc hn body, hm, hg, hb⟩
def S_init (C : Addr) : SpD := fun ds M Q => ∃ (a : Addr) (n : Str) (fs : List Fd) (rs : List Rw) (small : Int), ds = [.ptr a, tabD n fs rs, .int small] ∧ M a = some (.ins C []) ∧ Q .non (updM M a (some (.ins C (rpF n fs small (rp0 rs)))))
theorem d_init (F : Di K mg "Repair" C "Repair.__init__" m_init ["self", "table", "small"]) (T : HC K C) (Cc : Cs mg) (Cw : Cr mg) : CalI P w K mg base 1 "Repair" C 3 (S_init C) := by
  refine dfi F sm_init rfl fun f cdv A outer s H E ds M Q hr hl hs => ?_
  obtain ⟨a, n, fs, rs, small, rfl, hm, q⟩ := hs
  have nd := sm_init.nd
  obtain ⟨t, hw⟩ := Cc.wide
  obtain ⟨t2, hc⟩ := Cw.checks
  refine wss_cons (ws_asgm (EE.to (ee_v 1 (d := tabD n fs rs) rfl) (wgm_tup rfl (wgms_cons (wgm_fld (EE.to (ee_v 0 rfl) ⟨a, C, _, rfl, hm, T.cls, T.na _ (by decide), (show 0 < 1000 by decide), ?_⟩))))))
  refine wgms_cons (wgm_fld (EE.to (ee_v 0 rfl) ⟨a, C, _, rfl, updM_same, T.cls, T.na _ (by decide), (show 1 < 1000 by decide), ?_⟩))
  refine wgms_cons (wgm_fld (EE.to (ee_v 0 rfl) ⟨a, C, _, rfl, updM_same, T.cls, T.na _ (by decide), (show 2 < 1000 by decide), wgms_nil ?_⟩))
  refine wss_one (ws_asgm (EE.to (ee_tup (ea_cons (ee_v 2 rfl) (ea_cons (ee_lst (ea_cons (ee_tup (ea_cons (ee_gs hc) (ea_cons ee_int (ea_cons (ee_gi hw) ea_nil)))) ea_nil)) (ea_cons ee_int (ea_cons ee_int ea_nil))))) ?_))
  refine wgm_tup rfl (wgms_cons (wgm_fld (EE.to (ee_v 0 rfl) ⟨a, C, _, rfl, updM_same, T.cls, T.na _ (by decide), (show 3 < 1000 by decide), ?_⟩)))
  refine wgms_cons (wgm_fld (EE.to (ee_v 0 rfl) ⟨a, C, _, rfl, updM_same, T.cls, T.na _ (by decide), (show 4 < 1000 by decide), ?_⟩))
  refine wgms_cons (wgm_fld (EE.to (ee_v 0 rfl) ⟨a, C, _, rfl, updM_same, T.cls, T.na _ (by decide), (show 5 < 1000 by decide), ?_⟩))
  refine wgms_cons (wgm_fld (EE.to (ee_v 0 rfl) ⟨a, C, _, rfl, updM_same, T.cls, T.na _ (by decide), (show 6 < 1000 by decide), wgms_nil ?_⟩))
  rw [updM_upd, updM_upd, updM_upd, updM_upd, updM_upd, updM_upd]
  exact q
/-- a method that only reads -/
def S_get (C : Addr) (g : Str → List Fd → Int → RS → D) : SpD := fun ds M Q => ∃ (a : Addr) (n : Str) (fs : List Fd) (small : Int) (s : RS), ds = [.ptr a] ∧ M a = some (.ins C (rpF n fs small s)) ∧ Q (g n fs small s) M
theorem d_quest (F : Dm K C "question" "Repair.question" m_question ["self"]) (T : HC K C) : CalM P w K mg base 1 C "question" 1 (S_get C fun _ _ _ s => qO s) := by
  refine dfm F sm_question rfl fun f cdv A outer s H E ds M Q hr hl hs => ?_
  obtain ⟨a, n, fs, small, ⟨rows, wait, copied, asked⟩, rfl, hm, q⟩ := hs
  have fl : ∀ {p1 p2 : Pos}, EE (cxOf CX0 P w K mg base ["self"] "Repair.question" (defScope m_question) f cdv A outer s H E).nox (.Attribute (.Name "self" p1) "_waiting" p2) [some (.ptr a)] M (.lst (wait.map qD)) := fun {_ _} => we_fld (EE.to (ee_v 0 rfl) ⟨a, C, _, _, rfl, hm, T.cls, T.na _ (by decide), rfl, rfl, rfl⟩)
  refine wss_one (ws_ret (EE.to (ee_if (x := qO ⟨rows, wait, copied, asked⟩) (et_truL fl (.inl rfl)) (fun h => ?_) fun h => ?_) q))
  · cases wait with
    | nil => cases h
    | cons q0 w => exact ee_ix ix_list fl ee_int (od_ixL (.inl rfl) (by have := atI_nat (xs := (q0 :: w).map qD) (j := 0) (v := qD q0) rfl; exact this) ⟨rfl, rfl⟩)
  · cases wait with
    | nil => exact ee_non
    | cons q0 w => cases h
theorem d_table_ (F : Dm K C "table" "Repair.table" m_table ["self"]) (T : HC K C) : CalM P w K mg base 1 C "table" 1 (S_get C fun n fs _ s => tabD n fs s.rows) := by
  refine dfm F sm_table rfl fun f cdv A outer s H E ds M Q hr hl hs => ?_
  obtain ⟨a, n, fs, small, st, rfl, hm, q⟩ := hs
  have fl : ∀ {f' : Str} {d : D} {p1 p2 : Pos} (hf : f' ∈ [("_name" : Str), "_schema", "_rows", "_small", "_waiting", "_copied", "_asked"]), (rpF n fs small st).lookup f' = some d → EE (cxOf CX0 P w K mg base ["self"] "Repair.table" (defScope m_table) f cdv A outer s H E).nox (.Attribute (.Name "self" p1) f' p2) [some (.ptr a)] M d := fun hf hl => we_fld (EE.to (ee_v 0 rfl) ⟨a, C, _, _, rfl, hm, T.cls, T.na _ hf, hl, rfl, rfl⟩)
  exact wss_one (ws_ret (EE.to (ee_tup (ea_cons (fl (by decide) rfl) (ea_cons (fl (by decide) rfl) (ea_cons (fl (by decide) rfl) ea_nil)))) q))
theorem d_asked (F : Dm K C "asked" "Repair.asked" m_asked ["self"]) (T : HC K C) : CalM P w K mg base 1 C "asked" 1 (S_get C fun _ _ _ s => .int (s.asked : Int)) := by
  refine dfm F sm_asked rfl fun f cdv A outer s H E ds M Q hr hl hs => ?_
  obtain ⟨a, n, fs, small, st, rfl, hm, q⟩ := hs
  exact wss_one (ws_ret (we_fld (EE.to (ee_v 0 rfl) ⟨a, C, _, .int (st.asked : Int), rfl, hm, T.cls, T.na _ (by decide), rfl, q⟩)))
theorem d_copied (F : Dm K C "copied" "Repair.copied" m_copied ["self"]) (T : HC K C) : CalM P w K mg base 1 C "copied" 1 (S_get C fun _ _ _ s => .int (s.copied : Int)) := by
  refine dfm F sm_copied rfl fun f cdv A outer s H E ds M Q hr hl hs => ?_
  obtain ⟨a, n, fs, small, st, rfl, hm, q⟩ := hs
  exact wss_one (ws_ret (we_fld (EE.to (ee_v 0 rfl) ⟨a, C, _, .int (st.copied : Int), rfl, hm, T.cls, T.na _ (by decide), rfl, q⟩)))
/-- the others' rows are taken -/
def S_take (C : Addr) : SpD := fun ds M Q => ∃ (a : Addr) (n : Str) (fs : List Fd) (small : Int) (s : RS) (os : List Rw) (lo hi : Int), ds = [.ptr a, .int lo, .int hi, rowsD (inR os lo hi)] ∧ M a = some (.ins C (rpF n fs small s)) ∧ lo ≤ hi ∧ Good s.rows ∧ Good os ∧ s.rows.length < 400 ∧ os.length < 400 ∧ Q .non (updM M a (some (.ins C (rpF n fs small ⟨ins s.rows os lo hi, s.wait, s.copied + (inR os lo hi).length, s.asked⟩))))
theorem outR_D (rs : List Rw) (lo hi : Int) : ((rs.map rwD).filter fun d => !(decide (lo ≤ keyD d) && decide (keyD d < hi))).map (fun d => d) = (outR rs lo hi).map rwD := by
  rw [List.map_id', List.filter_map]
  rfl
theorem d_take (F : Dm K C "_take" "Repair._take" m_take ["self", "low", "high", "rows"]) (T : HC K C) (B : Blt mg) : CalM P w K mg base 1 C "_take" 4 (S_take C) := by
  refine dfm F sm_take rfl fun f cdv A outer s H E ds M Q hr hl hs => ?_
  obtain ⟨a, n, fs, small, ⟨rows, wait, copied, asked⟩, os, lo, hi, rfl, hm, hle, g1, g2, z1, z2, q⟩ := hs
  have nd := sm_take.nd
  have z1 : rows.length < 400 := z1
  have li := inR_len os lo hi
  have lo_ : (outR rows lo hi).length ≤ rows.length := List.length_filter_le _ _
  have fl : ∀ {f' : Str} {d : D} {p1 p2 : Pos} {sg : Sg} (hf : f' ∈ [("_name" : Str), "_schema", "_rows", "_small", "_waiting", "_copied", "_asked"]), (rpF n fs small ⟨rows, wait, copied, asked⟩).lookup f' = some d → sg[0]? = some (some (.ptr a)) → EE (cxOf CX0 P w K mg base ["self", "low", "high", "rows", "others", "row"] "Repair._take" (defScope m_take) f cdv A outer s H E).nox (.Attribute (.Name "self" p1) f' p2) sg M d := fun hf hl hs => we_fld (EE.to (ee_v 0 hs) ⟨a, C, _, _, rfl, hm, T.cls, T.na _ hf, hl, rfl, rfl⟩)
  refine wss_cons (ws_setLcE 4 [("row", 5)] rfl nd (wi_tup (EE.to (fl (d := rowsD rows) (by decide) rfl rfl) ⟨_, rfl, rfl, rfl, trivial⟩)) (LcOk.to (d := .lst ((outR rows lo hi).map rwD)) (LcOk.imp (ok_lc1if (ds := rows.map rwD) 5 (fun d => !(decide (lo ≤ keyD d) && decide (keyD d < hi))) (fun d => d) rfl nd (lt1000 (by rw [List.length_map]; omega)) (fun j d hd => ?_) fun j d hd _ s H C cl fp => ee_v 5 rfl) fun z M' ⟨e1, e2⟩ => ⟨e1.trans (congrArg D.lst (outR_D rows lo hi)), e2⟩) ?_))
  · obtain ⟨r, hr0, rfl⟩ := at_map hd
    exact fun s H C cl fp => et_not (et_le_lt (ee_v 1 rfl) (ee_ix ix_tup (ee_v 5 rfl) ee_int (od_ixT rfl ⟨rfl, rfl⟩)) (ee_v 2 rfl))
  have cat : ((outR rows lo hi).map rwD) ++ ((inR os lo hi).map rwD) = (outR rows lo hi ++ inR os lo hi).map DL.pairD := by rw [← List.map_append]; rfl
  refine wss_one (ws_asgm (EE.to (d := .tup [rowsD (ins rows os lo hi), .int ((copied : Int) + ((inR os lo hi).length : Int))]) (ee_tup (ea_cons (ee_ct call_tuple_of B.tuple bi_tuple (ea_cons (ee_cb cr_srt B.sorted bi_sorted (ea_cons (EE.is (ee_op op_cat (ee_v 4 (d := .lst ((outR rows lo hi).map rwD)) rfl) (ee_ct call_list_of B.list bi_list (ea_cons (ee_v 3 rfl) ea_nil) (cd_lst (.inl rfl) ⟨rfl, rfl⟩)) (od_cat (.inl rfl) (.inl rfl) (by rw [List.length_map, List.length_map]; exact Nat.le_of_lt (lt1000 (by omega))) ⟨rfl, rfl⟩)) (congrArg D.lst cat)) ea_nil) (cd_srt (.inl rfl) fun ps hp hs => ⟨by rw [srt_is hle g1 g2 hp hs]; rfl, rfl⟩)) ea_nil) (cd_tupL (.inl rfl) ⟨rfl, rfl⟩)) (ea_cons (ee_add (fl (d := .int (copied : Int)) (by decide) rfl rfl) (EE.is (ee_cb call_len B.len bi_len (ea_cons (ee_v 3 rfl) ea_nil) (cd_lenT ⟨rfl, rfl⟩)) (by rw [List.length_map]))) ea_nil))) ?_))
  refine wgm_tup rfl (wgms_cons (wgm_fld (EE.to (ee_v 0 rfl) ⟨a, C, _, rfl, hm, T.cls, T.na _ (by decide), (show 7 < 1000 by decide), ?_⟩)))
  refine wgms_cons (wgm_fld (EE.to (ee_v 0 rfl) ⟨a, C, _, rfl, updM_same, T.cls, T.na _ (by decide), (show 7 < 1000 by decide), wgms_nil ?_⟩))
  rw [updM_upd]
  exact q
end
end K23
set_option Elab.async false
set_option linter.all false
set_option maxRecDepth 100000
set_option maxHeartbeats 4000000
namespace K23
open PySem L2 PyProof.Rows DL
/-! ### _look, hear, answer_to, mended -/
theorem eqv_pr (p c : Int × Int) : PyData.eqv (.tuple (([p.1, p.2] : List Int).map PyData.int)) (.tuple (([c.1, c.2] : List Int).map PyData.int)) = decide (p = c) := by rw [eqvT_int, pr_eq]
def Up (M M' : Mem) : Prop := ∀ a o, M a = some o → M' a = some o
theorem Up.refl (M : Mem) : Up M M := fun _ _ h => h
theorem Up.new {M : Mem} {p : Addr} {o : Option MO} (hp : M p = none) : Up M (updM M p o) := fun a o' h => by
  rw [updM_ne fun e => by rw [e, hp] at h; cases h]
  exact h
def lookW (small : Int) (lo hi : Int) (many : Int) (w : List Qn) : List Qn := if many ≤ small ∨ hi - lo = 1 then ⟨true, lo, hi⟩ :: w else ⟨false, lo, (lo + hi) / 2⟩ :: ⟨false, (lo + hi) / 2, hi⟩ :: w
section
variable {P : Program} {w : World} {K : PySem.W.Frag} {mg : Str → Option Value} {base : Heap} {C : Addr}
def S_look (C : Addr) : SpD := fun ds M Q => ∃ (a : Addr) (n : Str) (fs : List Fd) (small : Int) (s : RS) (lo hi many : Int), ds = [.ptr a, .int lo, .int hi, .int many] ∧ M a = some (.ins C (rpF n fs small s)) ∧ s.wait.length < 90000 ∧ Q .non (updM M a (some (.ins C (rpF n fs small ⟨s.rows, lookW small lo hi many s.wait, s.copied, s.asked⟩))))
theorem big_i {n : Nat} (h : n < 100000) : n ≤ sizeLine := Nat.le_trans (show n ≤ 200000 by omega) (by decide)
theorem d_look (F : Dm K C "_look" "Repair._look" m_look ["self", "low", "high", "many"]) (T : HC K C) (Cw : Cr mg) : CalM P w K mg base 1 C "_look" 4 (S_look C) := by
  refine dfm F sm_look rfl fun f cdv A outer s H E ds M Q hr hl hs => ?_
  obtain ⟨a, n, fs, small, ⟨rows, wait, copied, asked⟩, lo, hi, many, rfl, hm, z, q⟩ := hs
  have nd := sm_look.nd
  have z : wait.length < 90000 := z
  obtain ⟨t1, hc⟩ := Cw.checks
  obtain ⟨t2, hr2⟩ := Cw.rows
  have fl : ∀ {f' : Str} {d : D} {p1 p2 : Pos} {sg : Sg} (hf : f' ∈ [("_name" : Str), "_schema", "_rows", "_small", "_waiting", "_copied", "_asked"]), (rpF n fs small ⟨rows, wait, copied, asked⟩).lookup f' = some d → sg[0]? = some (some (.ptr a)) → EE (cxOf CX0 P w K mg base ["self", "low", "high", "many", "middle"] "Repair._look" (defScope m_look) f cdv A outer s H E).nox (.Attribute (.Name "self" p1) f' p2) sg M d := fun hf hl hs => we_fld (EE.to (ee_v 0 hs) ⟨a, C, _, _, rfl, hm, T.cls, T.na _ hf, hl, rfl, rfl⟩)
  refine wss_one (ws_ifE (k := decide (many ≤ small) || decide (hi - lo = 1)) (ww_pt (ew_or (et_le (ee_v 3 rfl) (fl (d := .int small) (by decide) rfl rfl)) fun _ => ww_or1 (et_eqI (ee_sub (ee_v 2 rfl) (ee_v 1 rfl)) ee_int))) (fun h => ?_) fun h => ?_)
  · rw [Bool.or_eq_true, decide_eq_true_iff, decide_eq_true_iff] at h
    have e : lookW small lo hi many wait = ⟨true, lo, hi⟩ :: wait := if_pos h
    rw [e] at q
    refine wss_one (ws_fld (EE.to (d := .lst ((⟨true, lo, hi⟩ :: wait).map qD)) (ee_op op_cat (ee_lst (ea_cons (ee_tup (ea_cons (ee_gs hr2) (ea_cons (ee_v 1 rfl) (ea_cons (ee_v 2 rfl) ea_nil)))) ea_nil)) (fl (d := .lst (wait.map qD)) (by decide) rfl rfl) (od_cat (.inl rfl) (.inl rfl) (by rw [List.length_map]; exact big_i (show 1 + wait.length < 100000 by omega)) ⟨rfl, rfl⟩)) (EE.to (ee_v 0 rfl) ⟨a, C, _, rfl, hm, T.cls, T.na _ (by decide), (show 7 < 1000 by decide), ?_⟩)))
    exact q
  · rw [Bool.or_eq_false_iff, decide_eq_false_iff_not, decide_eq_false_iff_not] at h
    have e : lookW small lo hi many wait = ⟨false, lo, (lo + hi) / 2⟩ :: ⟨false, (lo + hi) / 2, hi⟩ :: wait := if_neg fun z => z.elim h.1 h.2
    rw [e] at q
    refine wss_cons (ws_set 4 nd (EE.to (ee_fdiv (ee_add (ee_v 1 rfl) (ee_v 2 rfl)) ee_int ⟨by decide, by decide⟩) ?_))
    generalize (lo + hi) / 2 = m at q ⊢
    refine wss_one (ws_fld (EE.to (d := .lst ((⟨false, lo, m⟩ :: ⟨false, m, hi⟩ :: wait).map qD)) (ee_op op_cat (ee_lst (ea_cons (ee_tup (ea_cons (ee_gs hc) (ea_cons (ee_v 1 rfl) (ea_cons (ee_v 4 rfl) ea_nil)))) (ea_cons (ee_tup (ea_cons (ee_gs hc) (ea_cons (ee_v 4 rfl) (ea_cons (ee_v 2 rfl) ea_nil)))) ea_nil))) (fl (d := .lst (wait.map qD)) (by decide) rfl rfl) (od_cat (.inl rfl) (.inl rfl) (by rw [List.length_map]; exact big_i (show 2 + wait.length < 100000 by omega)) ⟨rfl, rfl⟩)) (EE.to (ee_v 0 rfl) ⟨a, C, _, rfl, hm, T.cls, T.na _ (by decide), (show 7 < 1000 by decide), ?_⟩)))
    exact q
def S_hear (C : Addr) : SpD := fun ds M Q => ∃ (a : Addr) (n : Str) (fs : List Fd) (small : Int) (s : RS) (os : List Rw) (q : Qn) (wt : List Qn), ds = [.ptr a, ansD os q] ∧ M a = some (.ins C (rpF n fs small s)) ∧ s.wait = q :: wt ∧ wt.length < 80000 ∧ q.lo ≤ q.hi ∧ Good s.rows ∧ Good os ∧ s.rows.length < 400 ∧ os.length < 400 ∧ Q .non (updM M a (some (.ins C (rpF n fs small (step os small s)))))
theorem d_hear (F : Dm K C "hear" "Repair.hear" m_hear ["self", "told"]) (T : HC K C) (Cw : Cr mg) (C1 : CalM P w K mg base 1 C "_take" 4 (S_take C)) (C2 : CalM P w K mg base 1 C "_look" 4 (S_look C)) (C3 : CalM P w K mg base 1 C "table" 1 (S_get C fun n fs _ s => tabD n fs s.rows)) (C4 : Cal P w K mg base 7 "range_check" 3 S_rng) : CalM P w K mg base 8 C "hear" 2 (S_hear C) := by
  refine dfm F sm_hear rfl fun f cdv A outer s H E ds M Q hr hl hs => ?_
  obtain ⟨a, n, fs, small, ⟨rows, wait, copied, asked⟩, os, ⟨isr, lo, hi⟩, wt, rfl, hm, hw, z, hle, g1, g2, z1, z2, q⟩ := hs
  have hw : wait = ⟨isr, lo, hi⟩ :: wt := hw
  subst hw
  have nd := sm_hear.nd
  have hle : lo ≤ hi := hle
  have z1 : rows.length < 400 := z1
  obtain ⟨t2, hr2⟩ := Cw.rows
  have fl : ∀ {f' : Str} {d : D} {p1 p2 : Pos} {sg : Sg} {M : Mem} {st : RS} (hf : f' ∈ [("_name" : Str), "_schema", "_rows", "_small", "_waiting", "_copied", "_asked"]), (rpF n fs small st).lookup f' = some d → sg[0]? = some (some (.ptr a)) → M a = some (.ins C (rpF n fs small st)) → EE (cxOf CX0 P w K mg base ["self", "told", "word", "low", "high"] "Repair.hear" (defScope m_hear) f cdv A outer s H E).nox (.Attribute (.Name "self" p1) f' p2) sg M d := fun hf hl hs hm => we_fld (EE.to (ee_v 0 hs) ⟨a, C, _, _, rfl, hm, T.cls, T.na _ hf, hl, rfl, rfl⟩)
  refine wss_cons (ws_asg (EE.to (d := qD ⟨isr, lo, hi⟩) (ee_ix ix_list (fl (d := .lst ((⟨isr, lo, hi⟩ :: wt).map qD)) (by decide) rfl rfl hm) ee_int (od_ixL (.inl rfl) (by have := atI_nat (xs := (⟨isr, lo, hi⟩ :: wt).map qD) (j := 0) (v := qD ⟨isr, lo, hi⟩) rfl; exact this) ⟨rfl, rfl⟩)) ⟨_, _, wg_tup rfl (wgs_cons (wg_name 2 nd) (wgs_cons (wg_name 3 nd) (wgs_cons (wg_name 4 nd) wgs_nil))), ?_⟩))
  show WSs _ _ [some (.ptr a), some (ansD os ⟨isr, lo, hi⟩), some (.str (if isr then "rows" else "checks")), some (.int lo), some (.int hi)] _ _
  refine wss_cons (ws_asgm (EE.to (d := .tup [.lst (wt.map qD), .int ((asked : Int) + 1)]) (ee_tup (ea_cons (EE.is (ee_sl sl_list (fl (d := .lst ((⟨isr, lo, hi⟩ :: wt).map qD)) (by decide) rfl rfl hm) (eo_some ee_int) eo_none (sd_lst (.inl rfl) ⟨rfl, rfl⟩)) (by have := cut_fromN ((⟨isr, lo, hi⟩ :: wt).map qD) 1; exact congrArg D.lst this)) (ea_cons (ee_add (fl (d := .int (asked : Int)) (by decide) rfl rfl hm) ee_int) ea_nil))) ?_))
  refine wgm_tup rfl (wgms_cons (wgm_fld (EE.to (ee_v 0 rfl) ⟨a, C, _, rfl, hm, T.cls, T.na _ (by decide), (show 7 < 1000 by decide), ?_⟩)))
  refine wgms_cons (wgm_fld (EE.to (ee_v 0 rfl) ⟨a, C, _, rfl, updM_same, T.cls, T.na _ (by decide), (show 7 < 1000 by decide), wgms_nil ?_⟩))
  rw [updM_upd]
  have ea : (asked : Int) + 1 = ((asked + 1 : Nat) : Int) := by omega
  rw [ea]
  show WSs _ _ _ (updM M a (some (.ins C (rpF n fs small ⟨rows, wt, copied, asked + 1⟩)))) _
  have hm1 : (updM M a (some (.ins C (rpF n fs small ⟨rows, wt, copied, asked + 1⟩)))) a = some (.ins C (rpF n fs small ⟨rows, wt, copied, asked + 1⟩)) := updM_same
  cases isr with
  | true =>
    refine wss_one (ws_ifE (k := true) (ET.is (et_cmp op_eq (ee_v 2 rfl) (ee_gs hr2) (od_eqS ⟨_, rfl, rfl, rfl⟩)) (by decide +kernel)) (fun _ => ?_) fun h => Bool.noConfusion h)
    refine wss_one (ws_expr (we_meth T.cls C1 (hr.mono (by omega)) (EE.to (ee_v 0 rfl) ⟨a, _, rfl, hm1, rfl, EA.to (ea_cons (ee_v 3 rfl) (ea_cons (ee_v 4 rfl) (ea_cons (ee_v 1 rfl) ea_nil))) ⟨rfl, a, n, fs, small, _, os, lo, hi, rfl, hm1, hle, g1, g2, z1, z2, ?_⟩⟩)))
    rw [updM_upd]
    exact q
  | false =>
    refine wss_one (ws_ifE (k := false) (ET.is (et_cmp op_eq (ee_v 2 rfl) (ee_gs hr2) (od_eqS ⟨_, rfl, rfl, rfl⟩)) (by decide +kernel)) (fun h => Bool.noConfusion h) fun _ => ?_)
    refine wss_one (ws_ifE (k := !decide (rngN os lo hi = rngN rows lo hi)) (ET.is (et_cmp (op_neD hr.units) (ee_v 1 (d := prD (rngN os lo hi)) rfl) (we_call C4 hr (EA.to (ea_cons (we_meth0 T.cls C3 (hr.mono (by omega)) (EE.to (ee_v 0 rfl) ⟨a, _, rfl, hm1, rfl, a, n, fs, small, _, rfl, hm1, rfl, rfl⟩)) (ea_cons (ee_v 3 rfl) (ea_cons (ee_v 4 rfl) ea_nil))) ⟨rfl, .str n, fsD fs, rows, lo, hi, rfl, by omega, g1.ok, rfl, rfl⟩)) (od_neD (x := prD (rngN os lo hi)) (y := prD (rngN rows lo hi)) (pydT [(rngN os lo hi).1, (rngN os lo hi).2]) (pydT [(rngN rows lo hi).1, (rngN rows lo hi).2]) (shapedT_int _) (shapedT_int _) ⟨_, rfl, rfl, rfl⟩)) (congrArg not (eqv_pr _ _))) (fun h => ?_) fun h => wss_nil ?_)
    · rw [Bool.not_eq_true', decide_eq_false_iff_not] at h
      have e : step os small ⟨rows, ⟨false, lo, hi⟩ :: wt, copied, asked⟩ = ⟨rows, lookW small lo hi ((inR os lo hi).length : Int) wt, copied, asked + 1⟩ := by
        unfold step lookW
        dsimp only
        rw [if_neg Bool.false_ne_true, if_neg h]
        split <;> rfl
      rw [e] at q
      refine wss_one (ws_expr (we_meth T.cls C2 (hr.mono (by omega)) (EE.to (ee_v 0 rfl) ⟨a, _, rfl, hm1, rfl, EA.to (ea_cons (ee_v 3 rfl) (ea_cons (ee_v 4 rfl) (ea_cons (ee_ix ix_tup (ee_v 1 (d := prD (rngN os lo hi)) rfl) ee_int (od_ixT (d := .int ((inR os lo hi).length : Int)) rfl ⟨rfl, rfl⟩)) ea_nil))) ⟨rfl, a, n, fs, small, _, lo, hi, _, rfl, hm1, show wt.length < 90000 by omega, ?_⟩⟩)))
      rw [updM_upd]
      exact q
    · rw [Bool.not_eq_false', decide_eq_true_iff] at h
      have e : step os small ⟨rows, ⟨false, lo, hi⟩ :: wt, copied, asked⟩ = ⟨rows, wt, copied, asked + 1⟩ := by
        unfold step
        dsimp only
        rw [if_neg Bool.false_ne_true, if_pos h]
      rw [e] at q
      exact q
def S_answer : SpD := fun ds M Q => ∃ (n : Str) (fs : List Fd) (os : List Rw) (q : Qn), ds = [tabD n fs os, qD q] ∧ os.length < 900 ∧ (∀ r ∈ os, OkW r) ∧ Q (ansD os q) M
theorem d_answer (F : Df K mg "answer_to" s_answer_to ["table", "question"]) (Cw : Cr mg) (C1 : Cal P w K mg base 1 "rows_between" 3 S_betw) (C2 : Cal P w K mg base 7 "range_check" 3 S_rng) : Cal P w K mg base 8 "answer_to" 2 S_answer := by
  refine dfn' F sc_answer_to rfl fun f cdv A outer s H E ds M Q hr hl hs => ?_
  obtain ⟨n, fs, os, ⟨isr, lo, hi⟩, rfl, hz, ho, q⟩ := hs
  have nd := sc_answer_to.nd
  obtain ⟨t2, hr2⟩ := Cw.rows
  refine wss_cons (ws_asg (EE.to (ee_v 1 rfl) ⟨_, _, wg_tup rfl (wgs_cons (wg_name 2 nd) (wgs_cons (wg_name 3 nd) (wgs_cons (wg_name 4 nd) wgs_nil))), ?_⟩))
  refine wss_one (ws_ret (EE.to (ee_if (k := isr) (x := ansD os ⟨isr, lo, hi⟩) (ET.is (et_cmp op_eq (ee_v 2 rfl) (ee_gs hr2) (od_eqS ⟨_, rfl, rfl, rfl⟩)) (by cases isr; exact (show decide (("checks" : Str) = "rows") = false by decide +kernel); exact (show decide (("rows" : Str) = "rows") = true by decide +kernel))) (fun h => ?_) fun h => ?_) q))
  · subst h
    exact we_call C1 (hr.mono (by omega)) (EA.to (ea_cons (ee_v 0 rfl) (ea_cons (ee_v 3 rfl) (ea_cons (ee_v 4 rfl) ea_nil))) ⟨rfl, .str n, fsD fs, os, lo, hi, rfl, hz, rfl, rfl⟩)
  · subst h
    exact we_call C2 hr (EA.to (ea_cons (ee_v 0 rfl) (ea_cons (ee_v 3 rfl) (ea_cons (ee_v 4 rfl) ea_nil))) ⟨rfl, .str n, fsD fs, os, lo, hi, rfl, hz, ho, rfl, rfl⟩)
end
end K23
set_option Elab.async false
set_option linter.all false
set_option maxRecDepth 100000
set_option maxHeartbeats 4000000
namespace K23
open PySem L2 PyProof.Rows DL
/-! ### mended -/
theorem len_sub : ∀ {a b : List Int}, a.Nodup → (∀ x ∈ a, x ∈ b) → a.length ≤ b.length
  | [], b, _, _ => Nat.zero_le _
  | x :: a, b, h, hs => by
    obtain ⟨h1, h2⟩ := List.nodup_cons.mp h
    have hb := hs x List.mem_cons_self
    have := len_sub (b := b.erase x) h2 fun y hy => (List.mem_erase_of_ne fun e => h1 (by rw [← e]; exact hy)).mpr (hs y (List.mem_cons_of_mem _ hy))
    rw [List.length_erase_of_mem hb] at this
    have := List.length_pos_of_mem hb
    rw [List.length_cons]
    omega
theorem good_nodup {rs : List Rw} (h : Good rs) : (rs.map (·.1)).Nodup := by
  rw [List.nodup_iff_pairwise_ne, List.pairwise_map]
  exact h.asc.imp fun h => by omega
theorem rows_len {rs os : List Rw} {s : RS} (h : SOk rs os s) : s.rows.length ≤ rs.length + os.length := by
  have := len_sub (b := (rs ++ os).map (·.1)) (good_nodup h.g) fun x hx => by
    obtain ⟨r, hr, rfl⟩ := List.mem_map.mp hx
    exact List.mem_map_of_mem (List.mem_append.mpr (h.m r hr))
  rw [List.length_map, List.length_map, List.length_append] at this
  exact this
theorem step_wait (os : List Rw) (small : Int) (s : RS) : (step os small s).wait.length ≤ s.wait.length + 1 := by
  obtain ⟨rows, wait, copied, asked⟩ := s
  cases wait with
  | nil => exact Nat.zero_le _
  | cons q w =>
    unfold step
    dsimp only
    split
    · show w.length ≤ _; rw [List.length_cons]; omega
    · split
      · show w.length ≤ _; rw [List.length_cons]; omega
      · split <;> simp
theorem sts_wait (rs os : List Rw) (small : Int) : ∀ t, (sts rs os small t).wait.length ≤ t + 1
  | 0 => Nat.le_refl _
  | t + 1 => by
    have := sts_wait rs os small t
    have := step_wait os small (sts rs os small t)
    show (step os small (sts rs os small t)).wait.length ≤ _
    omega
theorem step_asked {os : List Rw} {small : Int} {s : RS} (h : s.wait ≠ []) : (step os small s).asked = s.asked + 1 := by
  obtain ⟨rows, wait, copied, asked⟩ := s
  cases wait with
  | nil => exact absurd rfl h
  | cons q w =>
    unfold step
    dsimp only
    split
    · rfl
    · split
      · rfl
      · split <;> rfl
/-- the repair ends behind N questions -/
structure End (rs os : List Rw) (small : Int) (N : Nat) : Prop where
  le : N ≤ 1 + 61 * (rs.length + os.length)
  stop : (sts rs os small N).wait = []
  go : ∀ t, t < N → (sts rs os small t).wait ≠ []
theorem End.asked {rs os : List Rw} {small : Int} {N : Nat} (h : End rs os small N) : ∀ t, t ≤ N → (sts rs os small t).asked = t
  | 0, _ => rfl
  | t + 1, ht => (step_asked (h.go t ht)).trans (congrArg (· + 1) (h.asked t (by omega)))
theorem End.uniq {rs os : List Rw} {small : Int} {N N' : Nat} (h : End rs os small N) (h' : End rs os small N') : N = N' := by
  rcases Nat.lt_trichotomy N N' with c | c | c
  · exact absurd h.stop (h'.go N c)
  · exact c
  · exact absurd h'.stop (h.go N' c)
def mendD (n : Str) (fs : List Fd) (s : RS) : D := .tup [tabD n fs s.rows, .int (s.asked : Int), .int (s.copied : Int)]
section
variable {P : Program} {w : World} {K : PySem.W.Frag} {mg : Str → Option Value} {base : Heap} {C : Addr}
def S_mend : SpD := fun ds M Q => ∃ (n : Str) (fs : List Fd) (n2 : Str) (fs2 : List Fd) (rs os : List Rw) (small : Int), ds = [tabD n fs rs, tabD n2 fs2 os, .int small] ∧ Good rs ∧ Good os ∧ rs.length ≤ 100 ∧ os.length ≤ 100 ∧ ∀ N M', End rs os small N → Up M M' → Q (mendD n fs (sts rs os small N)) M'
theorem d_mended (F : Df K mg "mended" s_mended ["mine", "other", "small"]) (T : HC K C) (CI : CalI P w K mg base 1 "Repair" C 3 (S_init C)) (C1 : CalM P w K mg base 1 C "question" 1 (S_get C fun _ _ _ s => qO s)) (C2 : Cal P w K mg base 8 "answer_to" 2 S_answer) (C3 : CalM P w K mg base 8 C "hear" 2 (S_hear C)) (C4 : CalM P w K mg base 1 C "table" 1 (S_get C fun n fs _ s => tabD n fs s.rows)) (C5 : CalM P w K mg base 1 C "asked" 1 (S_get C fun _ _ _ s => .int (s.asked : Int))) (C6 : CalM P w K mg base 1 C "copied" 1 (S_get C fun _ _ _ s => .int (s.copied : Int))) : Cal P w K mg base 9 "mended" 3 S_mend := by
  refine dfn' F sc_mended rfl fun f cdv A outer s H E ds M Q hr hl hs => ?_
  obtain ⟨n, fs, n2, fs2, rs, os, small, rfl, g1, g2, z1, z2, q⟩ := hs
  have nd := sc_mended.nd
  obtain ⟨N, hN1, hN2, hN3⟩ := sts_end small g1 g2
  have hN : End rs os small N := ⟨hN1, hN2, hN3⟩
  have q := fun M' => q N M' hN
  refine wss_cons (ws_set 3 nd (we_make CI (hr.mono (by omega)) (EA.to (ea_cons (ee_v 0 rfl) (ea_cons (ee_v 2 rfl) ea_nil)) fun a ha => ⟨rfl, a, n, fs, rs, small, rfl, updM_same, rfl, ?_⟩)))
  rw [updM_upd]
  show WSs _ _ [some (tabD n fs rs), some (tabD n2 fs2 os), some (.int small), some (.ptr a)] _ _
  refine wss_cons (ws_while PassesOwn.never (fun m sg1 M1 => ∃ t, t ≤ N ∧ m = N - t ∧ M1 = updM M a (some (.ins C (rpF n fs small (sts rs os small t)))) ∧ Fg [some (tabD n fs rs), some (tabD n2 fs2 os), some (.int small), some (.ptr a)] sg1) ⟨N, 0, Nat.zero_le _, rfl, rfl, ⟨rfl, rfl, rfl, rfl, trivial⟩⟩ fun m sg1 M1 ⟨t, e0, e1, e2, hg⟩ => ?_)
  subst e2
  have hm1 : (updM M a (some (.ins C (rpF n fs small (sts rs os small t))))) a = some (.ins C (rpF n fs small (sts rs os small t))) := updM_same
  have g3 := hg.at 3 (.ptr a) rfl
  have ok := sts_ok small g1 g2 t
  refine ET.to (et_cmp op_notN (we_meth0 T.cls C1 (hr.mono (by omega)) (EE.to (ee_v 3 g3) ⟨a, _, rfl, hm1, rfl, a, n, fs, small, _, rfl, hm1, rfl, rfl⟩)) ee_non (od_notN ⟨_, rfl, rfl, rfl⟩)) ⟨fun h => ?_, fun h => ?_⟩
  · cases hw : (sts rs os small t).wait with
    | nil =>
      dsimp only at h
      rw [show qO (sts rs os small t) = .non by unfold qO; rw [hw]] at h
      cases h
    | cons q0 wt =>
      have hq : qO (sts rs os small t) = qD q0 := by unfold qO; rw [hw]
      have hlt : t < N := by
        rcases Nat.lt_or_ge t N with c | c
        · exact c
        · have : t = N := by omega
          rw [this, hN2] at hw
          cases hw
      have lw := sts_wait rs os small t
      rw [hw, List.length_cons] at lw
      have lr := rows_len ok
      refine wss_fg hg ?_
      refine wss_one (ws_expr (we_meth T.cls C3 hr (EE.to (ee_v 3 rfl) ⟨a, _, rfl, hm1, rfl, EA.to (ea_cons (we_call C2 hr (EA.to (ea_cons (ee_v 1 rfl) (ea_cons (EE.is (we_meth0 T.cls C1 (hr.mono (by omega)) (EE.to (ee_v 3 rfl) ⟨a, _, rfl, hm1, rfl, a, n, fs, small, _, rfl, hm1, rfl, rfl⟩)) hq) ea_nil)) ⟨rfl, n2, fs2, os, q0, rfl, by omega, g2.ok, rfl, rfl⟩)) ea_nil) ⟨rfl, a, n, fs, small, _, os, q0, wt, rfl, hm1, hw, by omega, (ok.w q0 (by rw [hw]; exact List.mem_cons_self)).le, ok.g, g2, by omega, by omega, ?_⟩⟩)))
      rw [updM_upd]
      exact ⟨N - (t + 1), by omega, t + 1, hlt, rfl, rfl, ⟨rfl, rfl, rfl, rfl, trivial⟩⟩
  · have hw : (sts rs os small t).wait = [] := by
      cases hw : (sts rs os small t).wait with
      | nil => rfl
      | cons q0 wt =>
        dsimp only at h
        rw [show qO (sts rs os small t) = qD q0 by unfold qO; rw [hw]] at h
        cases h
    have : t = N := by
      rcases Nat.lt_or_ge t N with c | c
      · exact absurd hw (hN3 t c)
      · omega
    subst this
    refine wss_fg hg ?_
    exact wss_one (ws_ret (EE.to (ee_tup (ea_cons (we_meth0 T.cls C4 (hr.mono (by omega)) (EE.to (ee_v 3 rfl) ⟨a, _, rfl, hm1, rfl, a, n, fs, small, _, rfl, hm1, rfl, rfl⟩)) (ea_cons (we_meth0 T.cls C5 (hr.mono (by omega)) (EE.to (ee_v 3 rfl) ⟨a, _, rfl, hm1, rfl, a, n, fs, small, _, rfl, hm1, rfl, rfl⟩)) (ea_cons (we_meth0 T.cls C6 (hr.mono (by omega)) (EE.to (ee_v 3 rfl) ⟨a, _, rfl, hm1, rfl, a, n, fs, small, _, rfl, hm1, rfl, rfl⟩)) ea_nil)))) (q _ (Up.new ha))))
end
end K23
set_option Elab.async false
set_option linter.all false
set_option maxRecDepth 100000
set_option maxHeartbeats 4000000
namespace K23
open PySem L2 PyProof.Rows DL
/-! ### states that are taken; tables and rows looked up; rows that differ -/
theorem od_ltS {K : PySem.W.Frag} {M : Mem} {Q : D → Mem → Prop} {i j : Str} (q : Q (.bl (decide (i.cps.toList < j.cps.toList))) M) : OpD K (fun x y H Q => ∃ i j, x = .str i ∧ y = .str j ∧ Q (.bl (decide (i.cps.toList < j.cps.toList))) H) (.str i) (.str j) M Q := fun G H v u R w rx ry k => by
  cases rx; cases ry
  exact ⟨i, j, rfl, rfl, k _ _ (PV.here w (.bl _) q)⟩
def ltS (a b : Str) : Bool := decide (a.cps.toList < b.cps.toList)
def ascS (xs : List Str) : Bool := (List.range (xs.length - 1)).all fun k => ltS (xs.getD k "") (xs.getD (k + 1) "")
theorem getS_at {xs : List Str} {k : Nat} (h : k < xs.length) : atI (xs.map D.str) (k : Int) = some (.str (xs.getD k "")) := atI_nat (by rw [List.getElem?_map, List.getElem?_eq_getElem h, List.getD_eq_getElem?_getD, List.getElem?_eq_getElem h]; rfl)
structure Tb where
  n : Str
  fs : List Fd
  rs : List Rw
def tbD (t : Tb) : D := tabD t.n t.fs t.rs
structure Cm (mg : Str → Option Value) : Prop where
  tables : ∃ t, mg "MOST_TABLES" = some (.int 4 t)
def atK (rs : List Rw) (k : Int) : List Rw := rs.filter fun r => decide (r.1 = k)
theorem mem_at {rs : List Rw} {k : Int} {r : Rw} : r ∈ atK rs k ↔ r ∈ rs ∧ r.1 = k := by
  unfold atK
  rw [List.mem_filter, decide_eq_true_iff]
def rowO (l : List Rw) : D := match l with
  | [] => .non
  | r :: _ => rwD r
section
variable {P : Program} {w : World} {K : PySem.W.Frag} {mg : Str → Option Value} {base : Heap}
def S_ascS : SpD := fun ds M Q => ∃ xs : List Str, ds = [.lst (xs.map .str)] ∧ xs.length < 900 ∧ Q (.bl (ascS xs)) M
theorem d_ascS (F : Df K mg "is_ascending" s_is_ascending ["rows"]) (B : Blt mg) : Cal P w K mg base 1 "is_ascending" 1 S_ascS := by
  refine dfn' F sc_is_ascending rfl fun f cdv A outer s H E ds M Q hr hl hs => ?_
  obtain ⟨xs, rfl, hz, q⟩ := hs
  have nd := sc_is_ascending.nd
  have ln : (xs.map D.str).length = xs.length := List.length_map ..
  refine wss_one (ws_ret (EE.to (ee_cb (cr_all rfl) B.all bi_all (ea_cons (ee_lc1 1 (ds := rngD 0 (xs.length - 1)) (fun d => .bl (ltS (xs.getD (intOf d).toNat "") (xs.getD ((intOf d).toNat + 1) ""))) rfl nd (wi_rng1 B.range (EA.to (ea_cons (ee_sub (ee_cb call_len B.len bi_len (ea_cons (ee_v 0 rfl) ea_nil) (cd_lenL (.inl rfl) ⟨rfl, rfl⟩)) ee_int) ea_nil) ⟨((xs.map D.str).length : Int) - 1, rfl, by omega, by rw [ln]; omega, by rw [ln, show ((xs.length : Int) - 1).toNat = xs.length - 1 by omega], rfl, trivial⟩)) (lt1000 (by rw [rngD_len]; omega)) fun j d hd => ?_) ea_nil) (cd_all (bs := (List.range (xs.length - 1)).map fun k => ltS (xs.getD k "") (xs.getD (k + 1) "")) (.inl ?_) ⟨rfl, rfl⟩)) (by rw [List.all_map]; exact q)))
  · obtain ⟨hj, rfl⟩ := rngD_at hd
    rw [Int.zero_add]
    intro s H C cl fp
    refine EE.is (ee_cmp op_lt_str (ee_ix ix_list (ee_v 0 rfl) (ee_v 1 rfl) (od_ixL (.inl rfl) (getS_at (by omega)) ⟨rfl, rfl⟩)) (ee_ix ix_list (ee_v 0 rfl) (ee_add (ee_v 1 rfl) ee_int) (od_ixL (.inl rfl) (show atI _ ((j : Int) + 1) = _ from by rw [show (j : Int) + 1 = ((j + 1 : Nat) : Int) by omega]; exact getS_at (by omega)) ⟨rfl, rfl⟩)) (od_ltS ⟨rfl, rfl⟩)) ?_
    show _ = D.bl (ltS (xs.getD ((j : Int)).toNat "") (xs.getD (((j : Int)).toNat + 1) ""))
    rw [Int.toNat_natCast]
    rfl
  · unfold rngD
    rw [List.map_map, List.map_map]
    refine congrArg D.lst (List.map_congr_left fun k _ => ?_)
    show D.bl (ltS (xs.getD (0 + (k : Int)).toNat "") (xs.getD ((0 + (k : Int)).toNat + 1) "")) = _
    rw [show (0 + (k : Int)).toNat = k by omega]
    rfl
def S_state : SpD := fun ds M Q => ∃ ts : List Tb, ds = [.tup (ts.map tbD)] ∧ ts.length ≤ 4 ∧ (∀ t ∈ ts, TbOk t.n t.fs t.rs) ∧ ascS (ts.map (·.n)) = true ∧ Q (.bl true) M
theorem d_state (F : Df K mg "is_state" s_is_state ["value"]) (B : Blt mg) (Cx : Cm mg) (C1 : Cal P w K mg base 4 "is_table" 1 S_table) (C2 : Cal P w K mg base 1 "is_ascending" 1 S_ascS) : Cal P w K mg base 5 "is_state" 1 S_state := by
  refine dfn' F sc_is_state rfl fun f cdv A outer s H E ds M Q hr hl hs => ?_
  obtain ⟨ts, rfl, hz, ho, ha, q⟩ := hs
  have nd := sc_is_state.nd
  obtain ⟨t, hmt⟩ := Cx.tables
  have ln : (ts.map tbD).length = ts.length := List.length_map ..
  refine wss_cons (ws_ifE (k := false) (ww_pt (ew_or (p := false) (q := false) (ET.is (et_not (et_val (ee_isT B.isinstance B.tuple (ee_v 0 (d := .tup (ts.map tbD)) rfl) trivial))) rfl) fun _ => ew_or (p := false) (q := false) (ET.is (et_gt (ee_cb call_len B.len bi_len (ea_cons (ee_v 0 rfl) ea_nil) (cd_lenT ⟨rfl, rfl⟩)) (ee_gi hmt)) (decide_eq_false (by rw [ln]; omega))) fun _ => ww_or1 (ET.is (et_not (et_val (ee_cb (cr_all rfl) B.all bi_all (ea_cons (ee_lc1 1 (ds := ts.map tbD) (fun _ => .bl true) rfl nd (wi_tup (EE.to (ee_v 0 rfl) ⟨_, rfl, rfl, rfl, trivial⟩)) (lt1000 (by omega)) fun j d hd => ?_) ea_nil) (cd_all (bs := ts.map fun _ => true) (.inl (by rw [List.map_map, List.map_map]; rfl)) ⟨rfl, rfl⟩)))) ?_))) (fun h => Bool.noConfusion h) fun _ => wss_nil ?_)
  · obtain ⟨t, ht, rfl⟩ := at_map hd
    exact fun s H C cl fp => we_call C1 hr (EA.to (ea_cons (ee_v 1 rfl) ea_nil) ⟨rfl, t.n, t.fs, t.rs, rfl, ho t (List.mem_of_getElem? ht), rfl, rfl⟩)
  · rw [List.all_map]
    exact congrArg not (List.all_eq_true.mpr fun _ _ => rfl)
  · refine wss_one (ws_ret (EE.to (we_call C2 (hr.mono (by omega)) (EA.to (ea_cons (ee_lc1 1 (ds := ts.map tbD) (fun d => (itemsD d).getD 0 .non) rfl nd (wi_tup (EE.to (ee_v 0 rfl) ⟨_, rfl, rfl, rfl, trivial⟩)) (lt1000 (by omega)) fun j d hd => ?_) ea_nil) ⟨rfl, ts.map (·.n), ?_, by rw [List.length_map]; omega, congrArg D.bl ha, rfl⟩)) q))
    · obtain ⟨t, ht, rfl⟩ := at_map hd
      exact fun s H C cl fp => ee_ix ix_tup (ee_v 1 rfl) ee_int (od_ixT (d := .str t.n) rfl ⟨rfl, rfl⟩)
    · rw [List.map_map, List.map_map]
      rfl
/-- the one table of a state of one -/
def S_tin : SpD := fun ds M Q => ∃ (n : Str) (fs : List Fd) (rs : List Rw), ds = [.tup [tabD n fs rs], .str n] ∧ Q (tabD n fs rs) M
theorem d_table_in (F : Df K mg "table_in" s_table_in ["state", "name"]) : Cal P w K mg base 1 "table_in" 2 S_tin := by
  refine dfn' F sc_table_in rfl fun f cdv A outer s H E ds M Q hr hl hs => ?_
  obtain ⟨n, fs, rs, rfl, q⟩ := hs
  have nd := sc_table_in.nd
  refine wss_cons (ws_setLcE 2 [("table", 3)] rfl nd (wi_tup (EE.to (ee_v 0 rfl) ⟨_, rfl, rfl, rfl, trivial⟩)) (LcOk.to (d := .lst [tabD n fs rs]) (ok_lc1if (ds := [tabD n fs rs]) 3 (fun d => true) (fun d => d) rfl nd (lt1000 (show 1 < 1000 by decide)) (fun j d hd => ?_) fun j d hd _ s H C cl fp => ee_v 3 rfl) ?_))
  · match j, hd with
    | 0, hd =>
      cases hd
      exact fun s H C cl fp => ET.is (et_cmp op_eq (ee_ix ix_tup (ee_v 3 rfl) ee_int (od_ixT (d := .str n) rfl ⟨rfl, rfl⟩)) (ee_v 1 rfl) (od_eqS ⟨_, rfl, rfl, rfl⟩)) (decide_eq_true rfl)
  · exact wss_one (ws_ret (EE.to (ee_if (k := true) (ET.is (et_truL (ee_v 2 rfl) (.inl rfl)) rfl) (fun _ => ee_ix ix_list (ee_v 2 rfl) ee_int (od_ixL (.inl rfl) rfl ⟨rfl, rfl⟩)) fun h => Bool.noConfusion h) q))
theorem filt_at (rs : List Rw) (k : Int) : ((rs.map rwD).filter fun d => decide (keyD d = k)).map (fun d => d) = (atK rs k).map rwD := by
  rw [List.map_id', List.filter_map]
  rfl
/-- the row of a key, or None -/
def S_rin : SpD := fun ds M Q => ∃ (n : Str) (fs : List Fd) (rs : List Rw) (k : Int), ds = [tabD n fs rs, .int k] ∧ rs.length < 900 ∧ Q (rowO (atK rs k)) M
theorem d_row_in (F : Df K mg "row_in" s_row_in ["table", "key"]) : Cal P w K mg base 1 "row_in" 2 S_rin := by
  refine dfn' F sc_row_in rfl fun f cdv A outer s H E ds M Q hr hl hs => ?_
  obtain ⟨n, fs, rs, k, rfl, hz, q⟩ := hs
  have nd := sc_row_in.nd
  refine wss_cons (ws_setLcE 2 [("row", 3)] rfl nd (wi_tup (EE.to (ee_ix ix_tup (ee_v 0 rfl) ee_int (od_ixT (d := rowsD rs) rfl ⟨rfl, rfl⟩)) ⟨_, rfl, rfl, rfl, trivial⟩)) (LcOk.to (d := .lst ((atK rs k).map rwD)) (LcOk.imp (ok_lc1if (ds := rs.map rwD) 3 (fun d => decide (keyD d = k)) (fun d => d) rfl nd (lt1000 (by rw [List.length_map]; omega)) (fun j d hd => ?_) fun j d hd _ s H C cl fp => ee_v 3 rfl) fun z M' ⟨e1, e2⟩ => ⟨e1.trans (congrArg D.lst (filt_at rs k)), e2⟩) ?_))
  · obtain ⟨r, hr0, rfl⟩ := at_map hd
    exact fun s H C cl fp => et_eqI (ee_ix ix_tup (ee_v 3 rfl) ee_int (od_ixT (d := .int r.1) rfl ⟨rfl, rfl⟩)) (ee_v 1 rfl)
  · cases hk : atK rs k with
    | nil =>
      rw [hk] at q
      exact wss_one (ws_ret (EE.to (ee_if (k := false) (ET.is (et_truL (ee_v 2 rfl) (.inl rfl)) rfl) (fun h => Bool.noConfusion h) fun _ => ee_non) q))
    | cons r l =>
      rw [hk] at q
      exact wss_one (ws_ret (EE.to (ee_if (k := true) (ET.is (et_truL (ee_v 2 rfl) (.inl rfl)) rfl) (fun _ => ee_ix ix_list (ee_v 2 rfl) ee_int (od_ixL (.inl rfl) (by have := atI_nat (xs := (r :: l).map rwD) (j := 0) (v := rwD r) rfl; exact this) ⟨rfl, rfl⟩)) fun h => Bool.noConfusion h) q))
end
end K23
set_option Elab.async false
set_option linter.all false
set_option maxRecDepth 100000
set_option maxHeartbeats 4000000
namespace K23
open PySem L2 PyProof.Rows DL
/-! ### rows_differing -/
theorem asc_uniq : ∀ {l : List Rw} {r r' : Rw}, l.Pairwise (fun a b => a.1 < b.1) → r ∈ l → r' ∈ l → r.1 = r'.1 → r = r'
  | [], _, _, _, h, _, _ => by cases h
  | x :: l, r, r', hp, h, h', e => by
    obtain ⟨p1, p2⟩ := List.pairwise_cons.mp hp
    rcases List.mem_cons.mp h with a | a <;> rcases List.mem_cons.mp h' with b | b
    · rw [a, b]
    · have := p1 _ b
      rw [← e, a] at this
      omega
    · have := p1 _ a
      rw [e, b] at this
      omega
    · exact asc_uniq p2 a b e
theorem head_at {rs : List Rw} (h : Good rs) {r : Rw} (hr : r ∈ rs) : (atK rs r.1).head? = some r := by
  have hm : r ∈ atK rs r.1 := mem_at.mpr ⟨hr, rfl⟩
  cases e : atK rs r.1 with
  | nil => rw [e] at hm; cases hm
  | cons x l =>
    have hx := mem_at.mp (show x ∈ atK rs r.1 by rw [e]; exact List.mem_cons_self)
    rw [asc_uniq h.asc hr hx.1 hx.2.symm]
    rfl
def diff (rs os : List Rw) (k : Int) : Bool := !decide ((atK rs k).head? = (atK os k).head?)
theorem at_none {rs : List Rw} {k : Int} (h : k ∉ rs.map (·.1)) : atK rs k = [] := by
  unfold atK
  rw [List.filter_eq_nil_iff]
  intro r hr z
  exact h (by rw [← of_decide_eq_true z]; exact List.mem_map_of_mem hr)
theorem dl_iff {rs os : List Rw} (h1 : Good rs) (h2 : Good os) {ys : List Int} (hk : ∀ k, k ∈ ys ↔ k ∈ (rs ++ os).map (·.1)) : ys.filter (diff rs os) = [] ↔ rs = os := by
  constructor
  · intro h
    have all : ∀ k, (atK rs k).head? = (atK os k).head? := fun k => by
      by_cases m : k ∈ ys
      · have := List.filter_eq_nil_iff.mp h k m
        unfold diff at this
        rw [Bool.not_eq_true', Bool.not_eq_false, decide_eq_true_iff] at this
        exact this
      · have h2 : k ∉ (rs ++ os).map (·.1) := fun z => m ((hk k).mpr z)
        rw [List.map_append, List.mem_append] at h2
        rw [at_none fun z => h2 (.inl z), at_none fun z => h2 (.inr z)]
    refine asc_ext h1.asc h2.asc fun r => ⟨fun hr => ?_, fun hr => ?_⟩
    · have e := head_at h1 hr
      rw [all] at e
      exact (mem_at.mp (List.mem_of_mem_head? (by rw [e]; exact rfl))).1
    · have e := head_at h2 hr
      rw [← all] at e
      exact (mem_at.mp (List.mem_of_mem_head? (by rw [e]; exact rfl))).1
  · intro h
    subst h
    rw [List.filter_eq_nil_iff]
    intro k _ z
    unfold diff at z
    rw [decide_eq_true rfl] at z
    cases z
def pyO : List Rw → PyData
  | [] => .none
  | r :: _ => .tuple [.int r.1, .int r.2]
theorem pyd_row {M : Mem} (l : List Rw) : PyD M (rowO l) (pyO l) := by cases l <;> exact .inl ⟨rfl, rfl⟩
theorem sh_row (l : List Rw) : SeqAt.shaped (pyO l) = true := by cases l <;> rfl
theorem eqv_row (a b : List Rw) : PyData.eqv (pyO a) (pyO b) = decide (a.head? = b.head?) := by
  cases a with
  | nil => cases b <;> simp [pyO, PyData.eqv]
  | cons x a =>
    cases b with
    | nil => simp [pyO, PyData.eqv]
    | cons y b =>
      obtain ⟨x1, x2⟩ := x
      obtain ⟨y1, y2⟩ := y
      rw [Bool.eq_iff_iff]
      simp [pyO, PyData.eqv, PyData.eqvAll]
theorem filt_kd (n : Str) (p : Int → Bool) (ys : List Int) : ((ys.map D.int).filter fun d => p (intOf d)).map (fun d => D.tup [.str n, d]) = (ys.filter p).map fun k => D.tup [.str n, .int k] := by
  rw [List.filter_map, List.map_map]
  rfl
section
variable {P : Program} {w : World} {K : PySem.W.Frag} {mg : Str → Option Value} {base : Heap}
def S_rdiff : SpD := fun ds M Q => ∃ (n : Str) (rs os : List Rw), ds = [.tup [tabD n schF rs], .tup [tabD n schF os]] ∧ Good rs ∧ Good os ∧ rs.length + os.length < 64 ∧ ∀ dl : List Int, (dl = [] ↔ rs = os) → Q (.tup (dl.map fun k => .tup [.str n, .int k])) M
theorem d_rdiff (F : Df K mg "rows_differing" s_rows_differing ["old", "new"]) (B : Blt mg) (B2 : Bl2 mg) (C1 : Cal P w K mg base 1 "table_in" 2 S_tin) (C2 : Cal P w K mg base 1 "row_in" 2 S_rin) : Cal P w K mg base 2 "rows_differing" 2 S_rdiff := by
  refine dfn' F sc_rows_differing rfl fun f cdv A outer s H E ds M Q hr hl hs => ?_
  obtain ⟨n, rs, os, rfl, g1, g2, hz, q⟩ := hs
  have nd := sc_rows_differing.nd
  have cat : (rs.map rwD) ++ (os.map rwD) = (rs ++ os).map rwD := (List.map_append ..).symm
  refine wss_cons (ws_set 2 nd (we_lstM (wa_nil ⟨by exact small30, fun p hp => ?_⟩)))
  refine wss_cons (ws_for PassesOwn.never rfl (Qi := fun es C M0 => es = [tabD n schF os] ∧ M0 = updM M p (some (.lst [])) ∧ ∀ M1, C M1) (wi_tup (EE.to (ee_v 1 rfl) ⟨_, rfl, rfl, rfl, fun _ => trivial⟩)) fun es C M0 ⟨e1, e2, hC⟩ => ?_)
  subst e1; subst e2
  refine ⟨fun i sg1 M1 => ∃ dl : List Int, M1 = updM M p (some (.lst (dl.map fun k => .tup [.str n, .int k]))) ∧ (i = 1 → (dl = [] ↔ rs = os)) ∧ (i = 0 → dl = []) ∧ Fg [some (.tup [tabD n schF rs]), some (.tup [tabD n schF os]), some (.ptr p), none, none, none, none, none] sg1, ⟨[], rfl, fun h => (by cases h), fun _ => rfl, ⟨rfl, rfl, rfl, trivial⟩⟩, fun i sg1 M1 _ => hC _, fun i d sg1 M1 he ⟨dl, e0, e1, e2, hg⟩ => ?_, fun sg1 M1 ⟨dl, e0, e1, e2, hg⟩ => ?_⟩
  · match i, he with
    | 0, he =>
      cases he
      have := e2 rfl
      subst this
      subst e0
      refine ⟨_, _, wg_name 3 nd, wss_fg (fg_set hg 3 _) ?_⟩
      refine wss_cons (ws_set 4 nd (we_call C1 hr (EA.to (ea_cons (ee_v 0 rfl) (ea_cons (ee_ix ix_tup (ee_v 3 rfl) ee_int (od_ixT (d := .str n) rfl ⟨rfl, rfl⟩)) ea_nil)) ⟨rfl, n, schF, rs, rfl, ?_⟩)))
      show WSs _ _ [some (.tup [tabD n schF rs]), some (.tup [tabD n schF os]), some (.ptr p), some (tabD n schF os), some (tabD n schF rs), none, none, none] _ _
      refine wss_one (ws_ifE (k := true) (ww_pt (ew_and (p := true) (q := true) (ET.is (et_cmp op_notN (ee_v 4 rfl) ee_non (od_notN ⟨_, rfl, rfl, rfl⟩)) rfl) fun _ => ww_and1 (ET.is (et_cmp (op_eqD hr.units) (ee_ix ix_tup (ee_v 4 rfl) ee_int (od_ixT (d := fsD schF) rfl ⟨rfl, rfl⟩)) (ee_ix ix_tup (ee_v 3 rfl) ee_int (od_ixT (d := fsD schF) rfl ⟨rfl, rfl⟩)) (od_eqD (.inl ⟨rfl, rfl⟩) (.inl ⟨rfl, rfl⟩) (by decide +kernel) (by decide +kernel) ⟨_, rfl, rfl, rfl⟩)) (by decide +kernel)))) (fun _ => ?_) fun h => Bool.noConfusion h)
      refine wss_cons (ws_set 5 nd (we_sortSet B.sorted B2.set rfl (EE.to (ee_lc1 6 (ds := (rs ++ os).map rwD) (fun d => .int (keyD d)) rfl nd (wi_tup (EE.to (ee_op op_catA (ee_ix ix_tup (ee_v 4 rfl) ee_int (od_ixT (d := rowsD rs) rfl ⟨rfl, rfl⟩)) (ee_ix ix_tup (ee_v 3 rfl) ee_int (od_ixT (d := rowsD os) rfl ⟨rfl, rfl⟩)) (od_catT (by rw [List.length_map, List.length_map]; exact Nat.le_of_lt (lt1000 (by omega))) ⟨rfl, rfl⟩)) ⟨_, rfl, by rw [cat], rfl, trivial⟩)) (lt1000 (by rw [List.length_map, List.length_append]; omega)) fun j d hd => ?_) ⟨(rs ++ os).map (·.1), .inl ?_, by rw [List.length_map, List.length_append]; exact hz, fun ys h1 h2 => ?_⟩)))
      · obtain ⟨r, hr0, rfl⟩ := at_map hd
        exact fun s H C cl fp => ee_ix ix_tup (ee_v 6 rfl) ee_int (od_ixT (d := .int r.1) rfl ⟨rfl, rfl⟩)
      · rw [List.map_map, List.map_map]
        rfl
      · have hly := len_sub (h1.imp fun h => by omega) fun x hx => (h2 x).mp hx
        rw [List.length_map, List.length_append] at hly
        have hfl : (ys.filter (diff rs os)).length ≤ ys.length := List.length_filter_le _ _
        show WSs _ _ [some (.tup [tabD n schF rs]), some (.tup [tabD n schF os]), some (.ptr p), some (tabD n schF os), some (tabD n schF rs), some (.lst (ys.map .int)), none, none] _ _
        refine wss_one (ws_expr (we_bm PySem.F.plainAttrs_list PySem.F.slot_list_extend PySem.F.type_list_extend mt_extend (EE.to (ee_v 2 rfl) ⟨ty_lst (.inr ⟨p, rfl, updM_same⟩), EA.to (ea_cons (EE.is (ee_lc1if 7 (ds := ys.map .int) (fun d => diff rs os (intOf d)) (fun d => .tup [.str n, d]) rfl nd (wi_lst (EE.to (ee_v 5 rfl) ⟨_, .inl rfl, rfl, rfl, .inl rfl⟩)) (lt1000 (by rw [List.length_map]; omega)) (fun j d hd => ?_) fun j d hd _ s H C cl fp => ee_tup (ea_cons (ee_ix ix_tup (ee_v 3 rfl) ee_int (od_ixT (d := .str n) rfl ⟨rfl, rfl⟩)) (ea_cons (ee_v 7 rfl) ea_nil))) (congrArg D.lst (filt_kd n (diff rs os) ys))) ea_nil) (md_extend updM_same (.inl rfl) (by rw [List.length_map, List.length_map, List.length_nil]; exact Nat.le_of_lt (lt1000 (by omega))) ?_)⟩)))
        · obtain ⟨k, hk, rfl⟩ := at_map hd
          exact fun s H C cl fp => ET.is (et_cmp (op_neD hr.units) (we_call C2 hr (EA.to (ea_cons (ee_v 4 rfl) (ea_cons (ee_v 7 rfl) ea_nil)) ⟨rfl, n, schF, rs, k, rfl, by omega, rfl, rfl⟩)) (we_call C2 hr (EA.to (ea_cons (ee_v 3 rfl) (ea_cons (ee_v 7 rfl) ea_nil)) ⟨rfl, n, schF, os, k, rfl, by omega, rfl, rfl⟩)) (od_neD (pyd_row _) (pyd_row _) (sh_row _) (sh_row _) ⟨_, rfl, rfl, rfl⟩)) (congrArg not (eqv_row _ _))
        · rw [updM_upd]
          exact ⟨ys.filter (diff rs os), rfl, fun _ => dl_iff g1 g2 h2, fun h => (by cases h), ⟨rfl, rfl, rfl, trivial⟩⟩
    | i + 1, he => cases he
  · subst e0
    refine wss_fg hg ?_
    refine wss_freeze (i := 2) updM_same rfl ?_
    rw [updM_upd, updM_id hp]
    exact wss_one (ws_ret (EE.to (ee_ct call_tuple_of B.tuple bi_tuple (ea_cons (ee_v 2 rfl) ea_nil) (cd_tupL (.inl rfl) ⟨rfl, rfl⟩)) (q dl (e1 rfl))))
end
end K23
set_option Elab.async false
set_option linter.all false
set_option maxRecDepth 100000
set_option maxHeartbeats 4000000
namespace K23
open PySem L2 PyProof.Rows DL
/-! ### rows kept by their keys -/
def kvR (rs : List Rw) : KD := rs.map fun r => (.inl r.1, rwD r)
def putR (rs : List Rw) (r : Rw) : List Rw := if rs.any (fun x => decide (x.1 = r.1)) then rs.map fun x => if x.1 = r.1 then r else x else rs ++ [r]
def keysR (rs : List Rw) : List Int := rs.map (·.1)
theorem pk_kvR (rs : List Rw) (r : Rw) : pk (kvR rs) (.inl r.1) (rwD r) = kvR (putR rs r) := by
  have ha : ((kvR rs).any fun p => decide (p.1 = .inl r.1)) = rs.any fun x => decide (x.1 = r.1) := by
    unfold kvR
    rw [List.any_map]
    congr 1
    funext x
    exact decide_eq_decide.mpr ⟨fun h => Sum.inl.inj h, fun h => by show Sum.inl x.1 = _; rw [h]⟩
  unfold pk putR
  rw [ha]
  by_cases c : (rs.any fun x => decide (x.1 = r.1)) = true
  · rw [if_pos c, if_pos c]
    unfold kvR
    rw [List.map_map, List.map_map]
    refine List.map_congr_left fun x _ => ?_
    show (if (Sum.inl x.1 : Key) = .inl r.1 then ((Sum.inl x.1 : Key), rwD r) else (.inl x.1, rwD x)) = ((.inl (if x.1 = r.1 then r else x).1 : Key), rwD (if x.1 = r.1 then r else x))
    by_cases e : x.1 = r.1
    · rw [if_pos e, if_pos (by rw [e]), e]
    · rw [if_neg e, if_neg fun z => e (Sum.inl.inj z)]
  · rw [if_neg c, if_neg c]
    unfold kvR
    rw [List.map_append]
    rfl
theorem gk_kvR (rs : List Rw) (k : Int) : gk (kvR rs) (.inl k) = (rs.find? fun x => decide (x.1 = k)).map rwD := by
  unfold gk kvR
  rw [List.find?_map, Option.map_map]
  have : ((fun p : Key × D => decide (p.1 = .inl k)) ∘ fun r : Rw => ((.inl r.1 : Key), rwD r)) = fun x => decide (x.1 = k) := by
    funext x
    exact decide_eq_decide.mpr ⟨fun h => Sum.inl.inj h, fun h => by show Sum.inl x.1 = _; rw [h]⟩
  rw [this]
  rfl
theorem keys_put (rs : List Rw) (r : Rw) : keysR (putR rs r) = if rs.any (fun x => decide (x.1 = r.1)) then keysR rs else keysR rs ++ [r.1] := by
  unfold putR keysR
  split
  · rw [List.map_map]
    refine List.map_congr_left fun x _ => ?_
    show (if x.1 = r.1 then r else x).1 = x.1
    by_cases e : x.1 = r.1
    · rw [if_pos e, e]
    · rw [if_neg e]
  · rw [List.map_append]
    rfl
theorem nodup_put {rs : List Rw} (r : Rw) (h : (keysR rs).Nodup) : (keysR (putR rs r)).Nodup := by
  rw [keys_put]
  split
  · exact h
  · rename_i c
    rw [List.nodup_append]
    refine ⟨h, List.nodup_cons.mpr ⟨List.not_mem_nil, List.nodup_nil⟩, fun a ha b hb => ?_⟩
    rw [List.mem_singleton.mp hb]
    intro e
    obtain ⟨x, hx, rfl⟩ := List.mem_map.mp ha
    exact c (List.any_eq_true.mpr ⟨x, hx, decide_eq_true e⟩)
theorem ok_put {rs : List Rw} {r : Rw} (h : ∀ x ∈ rs, OkW x) (hr : OkW r) : ∀ x ∈ putR rs r, OkW x := fun x hx => by
  unfold putR at hx
  split at hx
  · obtain ⟨y, hy, rfl⟩ := List.mem_map.mp hx
    split
    · exact hr
    · exact h y hy
  · rcases List.mem_append.mp hx with hx | hx
    · exact h x hx
    · rw [List.mem_singleton.mp hx]; exact hr
theorem len_put (rs : List Rw) (r : Rw) : (putR rs r).length ≤ rs.length + 1 := by
  unfold putR
  split
  · rw [List.length_map]; omega
  · rw [List.length_append]; exact Nat.le_refl _
theorem find_of {rs : List Rw} {k : Int} (h : k ∈ keysR rs) : ∃ r, rs.find? (fun x => decide (x.1 = k)) = some r ∧ r ∈ rs ∧ r.1 = k := by
  obtain ⟨x, hx, e⟩ := List.mem_map.mp h
  have e : x.1 = k := e
  cases hf : rs.find? (fun x => decide (x.1 = k)) with
  | none =>
    have := List.find?_eq_none.mp hf x hx
    exact absurd (decide_eq_true e) this
  | some r => exact ⟨r, rfl, List.mem_of_find?_eq_some hf, of_decide_eq_true (List.find?_some (p := fun x : Rw => decide (x.1 = k)) hf)⟩
def look (rs : List Rw) (k : Int) : Rw := (rs.find? fun x => decide (x.1 = k)).getD (k, 0)
theorem look_of {rs : List Rw} {k : Int} (h : k ∈ keysR rs) : look rs k ∈ rs ∧ (look rs k).1 = k ∧ gk (kvR rs) (.inl k) = some (rwD (look rs k)) := by
  obtain ⟨r, e, h1, h2⟩ := find_of h
  have : look rs k = r := by unfold look; rw [e]; rfl
  rw [this, gk_kvR, e]
  exact ⟨h1, h2, rfl⟩
theorem good_sorted {rs : List Rw} {ys : List Int} (ho : ∀ r ∈ rs, OkW r) (hn : (keysR rs).Nodup) (hp : ys.Perm (keysR rs)) (hs : ys.Pairwise (· ≤ ·)) : Good (ys.map (look rs)) := by
  have hy : ys.Nodup := hp.nodup_iff.mpr hn
  refine ⟨fun r hr => ?_, ?_⟩
  · obtain ⟨k, hk, rfl⟩ := List.mem_map.mp hr
    exact ho _ (look_of (hp.mem_iff.mp hk)).1
  · rw [List.pairwise_map]
    have h2 := hs.and hy
    refine (List.Pairwise.imp_of_mem (fun {a b} ha hb h => ?_) h2)
    rw [(look_of (hp.mem_iff.mp ha)).2.1, (look_of (hp.mem_iff.mp hb)).2.1]
    have h1 := h.1
    have h3 := h.2
    omega
theorem kv_keys (rs : List Rw) : (kvR rs).map (·.1) = (keysR rs).map Sum.inl := by
  unfold kvR keysR
  rw [List.map_map, List.map_map]
  rfl
/-- a sorted read-out as data -/
theorem good_D (rs : List Rw) (ys : List Int) : (ys.map D.int).map (fun d => rwD (look rs (intOf d))) = (ys.map (look rs)).map rwD := by
  rw [List.map_map, List.map_map]
  rfl
theorem Bx.upd {M : Mem} {p c a : Addr} {o : Option MO} (h : Bx M p c) (h1 : a ≠ p) (h2 : a ≠ c) : Bx (updM M a o) p c := by
  obtain ⟨cs, x, y, hp, hc, r⟩ := h
  exact ⟨cs, x, y, by rw [updM_ne (Ne.symm h1)]; exact hp, by rw [updM_ne (Ne.symm h2)]; exact hc, r⟩
theorem Bx.new {M : Mem} {p c a : Addr} (h : Bx M p c) (ha : M a = none) : a ≠ p ∧ a ≠ c := by
  obtain ⟨cs, x, y, hp, hc, r⟩ := h
  exact ⟨fun z => (by rw [z, hp] at ha; cases ha), fun z => (by rw [z, hc] at ha; cases ha)⟩
theorem Bx.up {M M' : Mem} {p c : Addr} (h : Bx M p c) (u : Up M M') : Bx M' p c := by
  obtain ⟨cs, x, y, hp, hc, r⟩ := h
  exact ⟨cs, x, y, u _ _ hp, u _ _ hc, r⟩
theorem pick2 {a b : D} {i : Int} (h0 : 0 ≤ i) (h1 : i < 2) : atI [a, b] i = some (if i = 0 then a else b) := by
  have : i = 0 ∨ i = 1 := by omega
  rcases this with rfl | rfl <;> rfl
theorem units65 {k : Nat} {A : Around} (r : Room k A) : A.units + 65 < cLine := by have := r.un; omega
theorem LcOk.ex {X : Cx} {scope : Scope} {vs : List Nat} {tg elt : Expr} {ifs : List Expr} {sg : Sg} {Qi : List D → (Mem → Prop) → Mem → Prop} {Q : D → Mem → Prop} (h : ∀ ds C M0, Qi ds C M0 → ∃ Qi' : List D → (Mem → Prop) → Mem → Prop, Qi' ds C M0 ∧ LcOk X scope vs tg elt ifs sg Qi' Q) : LcOk X scope vs tg elt ifs sg Qi Q := fun ds C M0 q => let ⟨_, a, b⟩ := h ds C M0 q; b ds C M0 a
section
variable {P : Program} {w : World} {K : PySem.W.Frag} {mg : Str → Option Value} {base : Heap}
def S_lrows : SpD := fun ds M Q => ∃ (p c : Addr) (m : Nat), ds = [.ptr p, .int (m : Int)] ∧ Bx M p c ∧ m ≤ 40 ∧ ∀ rs M', Good rs → rs.length ≤ m → Bx M' p c → Q (rowsD rs) M'
theorem d_lrows (F : Df K mg "_law_rows" s_law_rows ["box", "many"]) (B : Blt mg) (C1 : Cal P w K mg base 2 "_law_draw" 2 S_draw) : Cal P w K mg base 3 "_law_rows" 2 S_lrows := by
  refine dfn' F sc_law_rows rfl fun f cdv A outer s H E ds M Q hr hl hs => ?_
  obtain ⟨p, c, m, rfl, hB, hm40, q⟩ := hs
  have nd := sc_law_rows.nd
  have hu : (cxOf CX0 P w K mg base ["box", "many", "made", "k", "key"] "_law_rows" (defScope s_law_rows) f cdv A outer s H E).nox.A.units + 1 < cLine := Nat.lt_of_le_of_lt (Nat.add_le_add_left (show 1 ≤ 65 by decide) _) (units65 hr)
  refine wss_cons (ws_set 2 nd (we_knew fun d hd => ?_))
  obtain ⟨n1, n2⟩ := hB.new hd
  have hB0 := hB.upd (o := some (.dic (kvR []))) n1 n2
  have hd0 : (updM M d (some (.dic (kvR [])))) d = some (.dic (kvR [])) := updM_same
  show WSs _ _ [some (.ptr p), some (.int (m : Int)), some (.ptr d), none, none] (updM M d (some (.dic (kvR [])))) _
  generalize updM M d (some (.dic (kvR []))) = M1 at hB0 hd0 ⊢
  have draw : ∀ {a : Int} {p1 p2 p3 p4 : Pos} {j : Nat} {sg : Sg} {M : Mem} {Q : D → Mem → Prop}, sg[0]? = some (some (.ptr p)) → Bx M p c → 0 < a → a < 1073741824 → (∀ r M', 0 ≤ r → r < a → Bx M' p c → Els M M' p c → Q (.int r) M') → WE (cxOf CX0 P w K mg base ["box", "many", "made", "k", "key"] "_law_rows" (defScope s_law_rows) f cdv A outer s H E).nox (.Call (.Name "_law_draw" p1) [.Name "box" p2, .Constant (.int a) j p3] [] p4) sg M Q := fun h hB h0 h1 q => we_call C1 hr (EA.to (ea_cons (ee_v 0 h) (ea_cons ee_int ea_nil)) ⟨rfl, p, c, _, rfl, hB, h0, h1, q⟩)
  refine wss_cons (ws_for PassesOwn.never rfl (Qi := fun es C M0 => es = rngD 0 m ∧ M0 = M1 ∧ ∀ M1, C M1) (wi_rng1 B.range (EA.to (ea_cons (ee_v 1 rfl) ea_nil) ⟨(m : Int), rfl, by omega, by omega, by rw [Int.toNat_natCast], rfl, fun _ => trivial⟩)) fun es C M0 ⟨e1, e2, hC⟩ => ?_)
  subst e1; subst e2
  refine ⟨fun i sg1 M1 => ∃ rs : List Rw, (∀ r ∈ rs, OkW r) ∧ (keysR rs).Nodup ∧ rs.length ≤ i ∧ i ≤ m ∧ Bx M1 p c ∧ M1 d = some (.dic (kvR rs)) ∧ Fg [some (.ptr p), none, some (.ptr d), none, none] sg1, ⟨[], fun r hr => (by cases hr), List.nodup_nil, Nat.le_refl _, Nat.zero_le _, hB0, hd0, ⟨rfl, rfl, trivial⟩⟩, fun _ sg1 M1 _ => hC _, fun i e sg1 M1 he ⟨rs, ho, hn, hl1, hi, hB1, hd1, hg⟩ => ?_, fun sg1 M1 ⟨rs, ho, hn, hl1, hi, hB1, hd1, hg⟩ => ?_⟩
  · obtain ⟨hj, rfl⟩ := rngD_at he
    refine ⟨_, _, wg_name 3 nd, wss_fg (fg_set hg 3 _) ?_⟩
    show WSs _ _ [some (.ptr p), none, some (.ptr d), some _, none] _ _
    refine wss_cons (ws_set 4 nd (we_ix ix_tup (Qa := fun x M2 => ∃ a b : Int, x = .tup [.int a, .int b] ∧ (0 ≤ a ∧ a ≤ 1000000000) ∧ (0 ≤ b ∧ b ≤ 1000000000) ∧ Bx M2 p c ∧ Els M1 M2 p c) (we_tup (wa_cons (draw rfl hB1 (by decide) (by decide) fun a M2 a0 a1 hB2 hE2 => wa_cons (draw rfl hB2 (by decide) (by decide) fun b M3 b0 b1 hB3 hE3 => wa_nil ⟨by exact small30, a, b, rfl, ⟨a0, by omega⟩, ⟨b0, by omega⟩, hB3, hE2.trans hE3⟩)))) fun x M2 ⟨a, b, e1, ha, hb, hB2, hE2⟩ => ?_))
    subst e1
    refine draw rfl hB2 (by decide) (by decide) fun j M3 j0 j1 hB3 hE3 => od_ixT (pick2 j0 j1) ?_
    obtain ⟨k, hk, hk0, hk1⟩ : ∃ k : Int, (if j = 0 then D.int a else D.int b) = .int k ∧ 0 ≤ k ∧ k ≤ 1000000000 := by
      by_cases h : j = 0
      · exact ⟨a, if_pos h, ha.1, ha.2⟩
      · exact ⟨b, if_neg h, hb.1, hb.2⟩
    rw [hk]
    show WSs _ _ [some (.ptr p), none, some (.ptr d), some _, some (.int k)] _ _
    refine wss_one (ws_kput hu (we_tup (wa_cons (EE.to (ee_v 4 rfl) (wa_cons (we_op op_sub (Qa := fun x M4 => ∃ v : Int, x = .int v ∧ 0 ≤ v ∧ v < 5 ∧ Bx M4 p c ∧ Els M3 M4 p c) (draw rfl hB3 (by decide) (by decide) fun v M4 v0 v1 hB4 hE4 => ⟨v, rfl, v0, v1, hB4, hE4⟩) fun x M4 ⟨v, e1, v0, v1, hB4, hE4⟩ => ?_))))))
    subst e1
    have hd4 : M4 d = some (.dic (kvR rs)) := (hE4 d n1 n2).trans ((hE3 d n1 n2).trans ((hE2 d n1 n2).trans hd1))
    refine EE.to ee_int (od_I0 (wa_nil ⟨by exact small30, EE.to (ee_v 2 rfl) (EE.to (ee_v 4 rfl) ⟨d, kvR rs, .inl k, rfl, rfl, hd4, lt1000 (by unfold kvR; rw [List.length_map]; omega), ?_⟩)⟩))
    have hput : pk (kvR rs) (.inl k) (.tup [.int k, .int (v - 2)]) = kvR (putR rs (k, v - 2)) := pk_kvR rs (k, v - 2)
    rw [hput]
    refine ⟨putR rs (k, v - 2), ok_put ho ⟨hk0, hk1, by show (v - 2).natAbs ≤ 100; omega⟩, nodup_put _ hn, by have := len_put rs (k, v - 2); omega, hj, hB4.upd n1 n2, updM_same, ⟨rfl, rfl, trivial⟩⟩
  · rw [rngD_len] at hl1
    refine wss_fg hg ?_
    have lk : (keysR rs).length = rs.length := List.length_map ..
    refine wss_one (ws_ret (we_ct call_tuple_of B.tuple bi_tuple (wa_cons (we_lc [("key", 4)] rfl nd (blkOk_by (by with_unfolding_all rfl)) (Qi := fun es C M0 => ∃ ys : List Int, es = ys.map .int ∧ ys.Perm (keysR rs) ∧ ys.Pairwise (· ≤ ·) ∧ M0 = M1 ∧ ∀ M1 : Mem, C M1) (wi_lst (we_cb (call_sortedDI rfl) B.sorted bi_sorted (EA.to (ea_cons (ee_v 2 rfl) ea_nil) (cd_sortedK hd1 (kv_keys rs) (by omega) fun ys hp hs => ⟨ys.map .int, .inl rfl, ys, rfl, hp, hs, rfl, fun _ => .inl rfl⟩)))) (LcOk.ex fun es C M0 ⟨ys, e1, hp, hs, e2, hC⟩ => ?_) (Nat.zero_le _)))))
    subst e1; subst e2
    have hyl : ys.length = rs.length := hp.length_eq.trans lk
    refine ⟨ItQ (ys.map .int) M0, ⟨rfl, rfl, hC _⟩, LcOk.to (d := .lst ((ys.map (look rs)).map rwD)) (LcOk.imp (ok_lc1 (ds := ys.map .int) 4 (fun d => rwD (look rs (intOf d))) rfl nd (lt1000 (by rw [List.length_map]; omega)) fun j e he => ?_) fun z M' ⟨e1, e2⟩ => ⟨e1.trans (congrArg D.lst (good_D rs ys)), e2⟩) ?_⟩
    · obtain ⟨k, hk, rfl⟩ := at_map he
      have := look_of (rs := rs) (k := k) (hp.mem_iff.mp (List.mem_of_getElem? hk))
      exact fun s H C cl fp => we_kget hu (EE.to (ee_v 2 rfl) (EE.to (ee_v 4 rfl) ⟨d, kvR rs, .inl k, _, rfl, rfl, .inl hd1, this.2.2, rfl, rfl⟩))
    · refine wa_nil (cd_tupL (.inl rfl) (q _ M0 (good_sorted ho hn hp hs) (by rw [List.length_map]; omega) hB1))
end
end K23
set_option Elab.async false
set_option linter.all false
set_option maxRecDepth 100000
set_option maxHeartbeats 4000000
namespace K23
open PySem L2 PyProof.Rows DL
/-! ### rows as plain data; _law_others -/
def pyR (r : Rw) : PyData := .tuple [.int r.1, .int r.2]
theorem plA_rw : ∀ rs : List Rw, plA (rs.map rwD) = true
  | [] => rfl
  | r :: rs => by
    show (pl (rwD r) && plA (rs.map rwD)) = true
    rw [plA_rw rs]; rfl
theorem toPyA_rw : ∀ rs : List Rw, toPyA (rs.map rwD) = rs.map pyR
  | [] => rfl
  | r :: rs => congrArg (pyR r :: ·) (toPyA_rw rs)
theorem lay_rw : ∀ {rs : List Rw}, (∀ r ∈ rs, OkW r) → PyData.canLayAll0 (rs.map pyR) = true
  | [], _ => rfl
  | r :: rs, h => by
    show (PyData.canLay0 (pyR r) && PyData.canLayAll0 (rs.map pyR)) = true
    rw [lay_rw fun x hx => h x (List.mem_cons_of_mem _ hx)]; rfl
theorem depth_rw : ∀ rs : List Rw, PyData.depthAll (rs.map pyR) ≤ 1
  | [] => by decide
  | r :: rs => by
    show max (PyData.depth (pyR r)) (PyData.depthAll (rs.map pyR)) ≤ 1
    exact Nat.max_le.mpr ⟨Nat.le_refl 1, depth_rw rs⟩
theorem shapedT_rw {rs : List Rw} (h : ∀ r ∈ rs, OkW r) : SeqAt.shaped (.tuple (rs.map pyR)) = true := Bool.and_eq_true_iff.mpr ⟨lay_rw h, decide_eq_true (by show PyData.depthAll (rs.map pyR) + 1 ≤ 64; have := depth_rw rs; omega)⟩
theorem shapedL_rw {rs : List Rw} (h : ∀ r ∈ rs, OkW r) : SeqAt.shaped (.list (rs.map pyR)) = true := Bool.and_eq_true_iff.mpr ⟨lay_rw h, decide_eq_true (by show PyData.depthAll (rs.map pyR) + 1 ≤ 64; have := depth_rw rs; omega)⟩
theorem eqv_rw (a b : Rw) : PyData.eqv (pyR a) (pyR b) = decide (a = b) := by
  obtain ⟨a1, a2⟩ := a
  obtain ⟨b1, b2⟩ := b
  unfold pyR
  rw [Bool.eq_iff_iff]
  simp [PyData.eqv, PyData.eqvAll]
theorem eqvA_rw : ∀ a b : List Rw, PyData.eqvAll (a.map pyR) (b.map pyR) = decide (a = b)
  | [], [] => rfl
  | [], _ :: _ => by simp [PyData.eqvAll]
  | _ :: _, [] => by simp [PyData.eqvAll]
  | x :: a, y :: b => by
    rw [List.map_cons, List.map_cons, PyData.eqvAll, eqvA_rw a b, eqv_rw, Bool.eq_iff_iff]
    simp
theorem eqvT_rw (a b : List Rw) : PyData.eqv (.tuple (a.map pyR)) (.tuple (b.map pyR)) = decide (a = b) := by rw [PyData.eqv, eqvA_rw]
theorem eqvL_rw (a b : List Rw) : PyData.eqv (.list (a.map pyR)) (.list (b.map pyR)) = decide (a = b) := by rw [PyData.eqv, eqvA_rw]
theorem pydT_rw {M : Mem} (rs : List Rw) : PyD M (rowsD rs) (.tuple (rs.map pyR)) := .inl ⟨plA_rw rs, by show _ = PyData.tuple (toPyA (rs.map rwD)); rw [toPyA_rw]⟩
theorem pydL_rw {M : Mem} (rs : List Rw) : PyD M (.lst (rs.map rwD)) (.list (rs.map pyR)) := .inr ⟨_, .inl rfl, plA_rw rs, by rw [toPyA_rw]⟩
theorem Bx.newOf {M : Mem} {p c d : Addr} {kvs : KD} (h : Bx M p c) (hd : M d = some (.dic kvs)) : d ≠ p ∧ d ≠ c := by
  obtain ⟨cs, x, y, hp, hc, r⟩ := h
  exact ⟨fun z => (by rw [z, hp] at hd; cases hd), fun z => (by rw [z, hc] at hd; cases hd)⟩
theorem mk_kv : ∀ (bs as : List Rw), (keysR (as ++ bs)).Nodup → mk (kvR as) (kvR bs) = kvR (as ++ bs)
  | [], as, _ => by rw [List.append_nil]; rfl
  | b :: bs, as, h => by
    show mk (pk (kvR as) (.inl b.1) (rwD b)) (kvR bs) = _
    have e : putR as b = as ++ [b] := by
      unfold putR
      refine if_neg fun z => ?_
      obtain ⟨x, hx, hk⟩ := List.any_eq_true.mp z
      have hk : x.1 = b.1 := of_decide_eq_true hk
      unfold keysR at h
      rw [List.map_append, List.nodup_append] at h
      exact h.2.2 x.1 (List.mem_map_of_mem hx) b.1 (by simp) hk
    rw [pk_kvR, e, mk_kv bs (as ++ [b]) (by rw [List.append_assoc]; exact h), List.append_assoc]
    rfl
theorem mk_kv0 {rs : List Rw} (h : (keysR rs).Nodup) : mk [] (kvR rs) = kvR rs := mk_kv rs [] h
def prW (r : Rw) : D := .tup [.int r.1, rwD r]
theorem pr_kv (rs : List Rw) : (kvR rs).map (fun p => D.tup [kD p.1, p.2]) = rs.map prW := by
  unfold kvR
  rw [List.map_map]
  rfl
theorem kd_kv (rs : List Rw) : ((kvR rs).map fun p => kD p.1) = rs.map fun r => D.int r.1 := by
  unfold kvR
  rw [List.map_map]
  rfl
theorem sub_keys {a b : List Rw} (h : a.Sublist b) : (keysR b).Nodup → (keysR a).Nodup := (h.map _).nodup
theorem find_self : ∀ {rs : List Rw} {r : Rw}, (keysR rs).Nodup → r ∈ rs → gk (kvR rs) (.inl r.1) = some (rwD r)
  | [], _, _, h => by cases h
  | x :: rs, r, hn, h => by
    have hn2 := List.nodup_cons.mp hn
    unfold gk kvR
    rw [List.map_cons]
    rcases List.mem_cons.mp h with rfl | h
    · rw [List.find?_cons_of_pos (by exact decide_eq_true rfl)]
      rfl
    · rw [List.find?_cons_of_neg fun z => ?_]
      · exact find_self hn2.2 h
      · have e : x.1 = r.1 := Sum.inl.inj (of_decide_eq_true z)
        exact hn2.1 (by show x.1 ∈ _; rw [e]; exact List.mem_map_of_mem h)
section
variable {P : Program} {w : World} {K : PySem.W.Frag} {mg : Str → Option Value} {base : Heap}
def S_oth : SpD := fun ds M Q => ∃ (p c : Addr) (rs : List Rw), ds = [.ptr p, rowsD rs] ∧ Bx M p c ∧ Good rs ∧ rs.length ≤ 40 ∧ ∀ os M', Good os → os.length ≤ rs.length + 4 → Bx M' p c → Q (rowsD os) M'
theorem d_others (F : Df K mg "_law_others" s_law_others ["box", "rows"]) (B : Blt mg) (B2 : Bl2 mg) (C1 : Cal P w K mg base 2 "_law_draw" 2 S_draw) : Cal P w K mg base 3 "_law_others" 2 S_oth := by
  refine dfn' F sc_law_others rfl fun f cdv A outer s H E ds M Q hr hl hs => ?_
  obtain ⟨p, c, rs, rfl, hB, hG, hz, q⟩ := hs
  have nd := sc_law_others.nd
  have hu : (cxOf CX0 P w K mg base ["box", "rows", "made", "row", "step", "key", "one"] "_law_others" (defScope s_law_others) f cdv A outer s H E).nox.A.units + 1 < cLine := Nat.lt_of_le_of_lt (Nat.add_le_add_left (show 1 ≤ 65 by decide) _) (units65 hr)
  refine wss_cons (ws_set 2 nd (we_ct (call_dictP rfl) B2.dict bi_dict (EA.to (ea_cons (ee_lc1 3 (ds := rs.map rwD) (fun d => .tup [.int (keyD d), d]) rfl nd (wi_tup (EE.to (ee_v 1 (d := rowsD rs) rfl) ⟨_, rfl, rfl, rfl, trivial⟩)) (lt1000 (by rw [List.length_map]; omega)) fun j d hd => ?_) ea_nil) (cd_dictP (ps := kvR rs) (.inl ?_) fun d hd => ?_))))
  · obtain ⟨r, hr0, rfl⟩ := at_map hd
    exact fun s H C cl fp => ee_tup (ea_cons (ee_ix ix_tup (ee_v 3 rfl) ee_int (od_ixT (d := .int r.1) rfl ⟨rfl, rfl⟩)) (ea_cons (ee_v 3 rfl) ea_nil))
  · rw [pr_kv, List.map_map]
    rfl
  rw [mk_kv0 (good_nodup hG)]
  obtain ⟨n1, n2⟩ := hB.new hd
  have hB0 := hB.upd (o := some (.dic (kvR rs))) n1 n2
  have hd0 : (updM M d (some (.dic (kvR rs)))) d = some (.dic (kvR rs)) := updM_same
  show WSs _ _ [some (.ptr p), some (rowsD rs), some (.ptr d), none, none, none, none] (updM M d (some (.dic (kvR rs)))) _
  generalize updM M d (some (.dic (kvR rs))) = M1 at hB0 hd0 ⊢
  refine wss_cons (ws_for PassesOwn.never rfl (Qi := fun es C M0 => ∃ n : Nat, n ≤ 4 ∧ es = rngD 0 n ∧ Bx M0 p c ∧ M0 d = some (.dic (kvR rs)) ∧ ∀ M1, C M1) (wi_rng1 B.range (wa_cons (we_call C1 hr (EA.to (ea_cons (ee_v 0 rfl) (ea_cons ee_int ea_nil)) ⟨rfl, p, c, _, rfl, hB0, by decide, by decide, fun n M2 n0 n3 hB2 hE2 => wa_nil ⟨n, rfl, by omega, by omega, n.toNat, by omega, rfl, hB2, (hE2 d n1 n2).trans hd0, fun _ => trivial⟩⟩)))) fun es C M0 ⟨n, hn2, e1, hBn, hdn, hC⟩ => ?_)
  subst e1
  refine ⟨fun i sg1 M1 => ∃ (d : Addr) (ts : List Rw), (∀ r ∈ ts, OkW r) ∧ (keysR ts).Nodup ∧ ts.length ≤ rs.length + i ∧ i ≤ n ∧ Bx M1 p c ∧ M1 d = some (.dic (kvR ts)) ∧ Fg [some (.ptr p), some (rowsD rs), some (.ptr d), none, none, none, none] sg1, ⟨d, rs, hG.ok, good_nodup hG, Nat.le_refl _, Nat.zero_le _, hBn, hdn, ⟨rfl, rfl, rfl, trivial⟩⟩, fun _ sg1 M1 _ => hC _, fun i e sg1 M1 he ⟨d, ts, ho, hn, hl1, hi, hB1, hd1, hg⟩ => ?_, fun sg1 M1 ⟨d, ts, ho, hn, hl1, hi, hB1, hd1, hg⟩ => ?_⟩
  · obtain ⟨hj, rfl⟩ := rngD_at he
    refine ⟨_, _, wg_name 4 nd, wss_fg (fg_set hg 4 _) ?_⟩
    show WSs _ _ [some (.ptr p), some (rowsD rs), some (.ptr d), none, some _, none, none] _ _
    have n12 := hB1.newOf hd1
    obtain ⟨n1, n2⟩ := n12
    refine wss_cons (ws_set 5 nd (WE.imp (Q := fun x M2 => ∃ k : Int, x = .int k ∧ 0 ≤ k ∧ k ≤ 1000000000 ∧ Bx M2 p c ∧ Els M1 M2 p c) ?_ fun x M2 ⟨k, e1, k0, k1, hB2, hE2⟩ => ?_))
    · have big : ∀ {M2 : Mem} {p1 p2 p3 p4 : Pos} {j : Nat} {sg : Sg}, sg[0]? = some (some (.ptr p)) → Bx M2 p c → Els M1 M2 p c → WE (cxOf CX0 P w K mg base ["box", "rows", "made", "row", "step", "key", "one"] "_law_others" (defScope s_law_others) f cdv A outer s H E).nox (.Call (.Name "_law_draw" p1) [.Name "box" p2, .Constant (.int 60) j p3] [] p4) sg M2 (fun x M2 => ∃ k : Int, x = .int k ∧ 0 ≤ k ∧ k ≤ 1000000000 ∧ Bx M2 p c ∧ Els M1 M2 p c) := fun h hB h2 => we_call C1 hr (EA.to (ea_cons (ee_v 0 h) (ea_cons ee_int ea_nil)) ⟨rfl, p, c, _, rfl, hB, by decide, by decide, fun r M' r0 r1 hB' hE' => ⟨r, rfl, r0, by omega, hB', h2.trans hE'⟩⟩)
      refine we_if (ww_pt (ww_and (ET.to (et_cmp (op_neD hr.units) (ee_v 1 (d := rowsD rs) rfl) (ee_tup ea_nil) (od_neD (pydT_rw rs) (pydT_rw []) (shapedT_rw hG.ok) (shapedT_rw fun r hr => (by cases hr)) ⟨_, rfl, rfl, rfl⟩)) ⟨fun h => ⟨fun z => Bool.noConfusion z, fun _ => big rfl hB1 (Els.refl _ _ _)⟩, fun h => ?_⟩)))
      have hne : rs ≠ [] := fun e => by rw [e] at h; cases h
      have hpos : 0 < rs.length := List.length_pos_iff.mpr hne
      refine ww_and1 (wt_cmp op_eq (Qa := fun d M3 => ∃ r, d = .int r ∧ Bx M3 p c ∧ Els M1 M3 p c) (we_call C1 hr (EA.to (ea_cons (ee_v 0 rfl) (ea_cons ee_int ea_nil)) ⟨rfl, p, c, _, rfl, hB1, by decide, by decide, fun r M3 _ _ hB3 hE3 => ⟨r, rfl, hB3, hE3⟩⟩)) fun x M3 ⟨r, e1, hB3, hE3⟩ => EE.to ee_int ?_)
      subst e1
      refine od_eqI ⟨_, rfl, fun _ => ?_, fun _ => big rfl hB3 hE3⟩
      refine we_ix ix_tup (Qa := fun x M4 => ∃ r ∈ rs, x = rwD r ∧ Bx M4 p c ∧ Els M1 M4 p c) (we_ix ix_tup (Qa := fun x M4 => x = rowsD rs ∧ M4 = M3) (EE.to (ee_v 1 rfl) ⟨rfl, rfl⟩) fun x M4 ⟨e1, e2⟩ => ?_) fun x M4 ⟨r, hr0, e1, hB4, hE4⟩ => EE.to ee_int ?_
      · subst e1; subst e2
        refine we_call C1 hr (EA.to (ea_cons (ee_v 0 rfl) (ea_cons (ee_cb call_len B.len bi_len (ea_cons (ee_v 1 (d := rowsD rs) rfl) ea_nil) (cd_lenT ⟨rfl, rfl⟩)) ea_nil)) ⟨rfl, p, c, _, rfl, hB3, by rw [List.length_map]; omega, by rw [List.length_map]; omega, fun j M5 j0 j1 hB5 hE5 => ?_⟩)
        rw [List.length_map] at j1
        have hlt : j.toNat < rs.length := by omega
        have at_ : atI (rs.map rwD) ((j.toNat : Nat) : Int) = some (rwD rs[j.toNat]) := atI_nat (by rw [List.getElem?_map, List.getElem?_eq_getElem hlt]; rfl)
        rw [show ((j.toNat : Nat) : Int) = j by omega] at at_
        exact od_ixT at_ ⟨_, List.getElem_mem hlt, rfl, hB5, hE3.trans hE5⟩
      · subst e1
        exact od_ixT (d := .int r.1) rfl ⟨_, rfl, (hG.ok r hr0).k0, (hG.ok r hr0).k1, hB4, hE4⟩
    · subst e1
      have hd2 : M2 d = some (.dic (kvR ts)) := (hE2 d n1 n2).trans hd1
      show WSs _ _ [some (.ptr p), some (rowsD rs), some (.ptr d), none, some _, some (.int k), none] _ _
      refine wss_cons (ws_kput hu (EE.to (ee_tup (ea_cons (ee_v 5 rfl) (ea_cons ee_int ea_nil))) (EE.to (ee_v 2 rfl) (EE.to (ee_v 5 rfl) ⟨d, kvR ts, .inl k, rfl, rfl, hd2, lt1000 (by unfold kvR; rw [List.length_map]; omega), ?_⟩))))
      have hput : pk (kvR ts) (.inl k) (.tup [.int k, .int 7]) = kvR (putR ts (k, 7)) := pk_kvR ts (k, 7)
      rw [hput]
      have ho3 := ok_put ho (r := (k, 7)) ⟨k0, k1, (show (7 : Int).natAbs ≤ 100 by decide)⟩
      have hn3 := nodup_put (k, 7) hn
      have hl3 := len_put ts (k, 7)
      generalize putR ts (k, 7) = us at ho3 hn3 hl3 ⊢
      have hB3 : Bx (updM M2 d (some (.dic (kvR us)))) p c := hB2.upd n1 n2
      have hd3 : (updM M2 d (some (.dic (kvR us)))) d = some (.dic (kvR us)) := updM_same
      show WSs _ _ [some (.ptr p), some (rowsD rs), some (.ptr d), none, some _, some (.int k), none] (updM M2 d (some (.dic (kvR us)))) _
      generalize updM M2 d (some (.dic (kvR us))) = M3 at hB3 hd3 ⊢
      refine wss_one (ws_set 2 nd (we_ct (call_dictP rfl) B2.dict bi_dict (wa_cons (we_lock hd3 fun o vs => we_lc [("one", 6)] rfl nd (blkOk_by (by with_unfolding_all rfl)) (Qi := fun es C M4 => es = us.map (fun r => D.int r.1) ∧ Bx M4 p c ∧ M4 d = some (.fdc o vs (kvR us)) ∧ C = fun M => M d = some (.fdc o vs (kvR us))) (wi_keys (EE.to (ee_v 2 rfl) ⟨d, o, vs, kvR us, rfl, updM_same, kd_kv us, hB3.upd n1 n2, updM_same, rfl⟩)) (fun es C M4 ⟨e1, hB4, hd4, eC⟩ => ?_) (Nat.le_refl _)))))
      subst e1; subst eC
      refine ⟨fun i acc M5 => ∃ ys : List Rw, ys.Sublist (us.take i) ∧ acc = ys.map prW ∧ Bx M5 p c ∧ M5 d = some (.fdc o vs (kvR us)), ⟨[], List.nil_sublist _, rfl, hB4, hd4⟩, fun i acc M5 ⟨ys, h1, h2, h3, h4⟩ => ⟨h4, ?_⟩, fun i e acc M5 he ⟨ys, h1, h2, h3, h4⟩ => ?_, fun acc M5 ⟨ys, h1, h2, h3, h4⟩ => ?_⟩
      · rw [h2, List.length_map]
        have := h1.length_le
        rw [List.length_take] at this
        exact lt1000 (by omega)
      · obtain ⟨r, hr0, rfl⟩ := at_map he
        have tk : us.take (i + 1) = us.take i ++ [r] := by rw [List.take_add_one, hr0]; rfl
        refine turn1 6 (List.mem_singleton.mpr rfl) nd (by first | exact Or.inl rfl | exact Or.inr rfl) rfl (fun b M6 => Bx M6 p c ∧ M6 d = some (.fdc o vs (kvR us))) (fun s H C cl fp => ww_pt (ww_or (ET.to (et_neI (ee_v 6 rfl) (ee_v 5 rfl)) ⟨fun h => ⟨h3, h4⟩, fun h => ww_or1 (wt_cmp op_gt (Qa := fun d' M6 => ∃ r : Int, d' = .int r ∧ Bx M6 p c ∧ M6 d = some (.fdc o vs (kvR us))) (we_call C1 hr (EA.to (ea_cons (ee_v 0 rfl) (ea_cons ee_int ea_nil)) ⟨rfl, p, c, _, rfl, h3, by decide, by decide, fun r M6 _ _ hB6 hE6 => ⟨r, rfl, hB6, (hE6 d n1 n2).trans h4⟩⟩)) fun x M6 ⟨r, e1, hB6, hd6⟩ => EE.to ee_int (by subst e1; exact od_B0 ⟨_, rfl, hB6, hd6⟩))⟩))) (fun M6 ⟨hB6, hd6⟩ s H C cl fp => we_tup (wa_cons (EE.to (ee_v 6 rfl) (wa_cons (we_kget hu (EE.to (ee_v 2 rfl) (EE.to (ee_v 6 rfl) ⟨d, kvR us, .inl r.1, rwD r, rfl, rfl, .inr ⟨o, vs, hd6⟩, find_self hn3 (List.mem_of_getElem? hr0), wa_nil ⟨by exact small30, ys ++ [r], ?_, ?_, hB6, hd6⟩⟩))))))) (fun M6 ⟨hB6, hd6⟩ => ⟨ys, ?_, h2, hB6, hd6⟩)
        · rw [tk]; exact h1.append (List.Sublist.refl _)
        · rw [h2, List.map_append]; rfl
        · rw [tk]; exact h1.trans (List.sublist_append_left _ _)
      · rw [List.length_map, List.take_length] at h1
        refine ⟨h4, wa_nil (cd_dictP (ps := kvR ys) (.inl ?_) fun d2 hd2' => ?_)⟩
        · rw [h2, pr_kv]
        · have hny := sub_keys h1 hn3
          have hB5 : Bx (updM M5 d (some (.dic (kvR us)))) p c := h3.upd n1 n2
          obtain ⟨m1, m2⟩ := hB5.new hd2'
          have hly := h1.length_le
          rw [mk_kv0 hny]
          exact ⟨d2, ys, fun x hx => ho3 x (h1.subset hx), hny, by omega, hj, hB5.upd m1 m2, updM_same, ⟨rfl, rfl, rfl, trivial⟩⟩
  · rw [rngD_len] at hl1
    refine wss_fg hg ?_
    have lk : (keysR ts).length = ts.length := List.length_map ..
    refine wss_one (ws_ret (we_ct call_tuple_of B.tuple bi_tuple (wa_cons (we_lc [("key", 5)] rfl nd (blkOk_by (by with_unfolding_all rfl)) (Qi := fun es C M0 => ∃ ys : List Int, es = ys.map .int ∧ ys.Perm (keysR ts) ∧ ys.Pairwise (· ≤ ·) ∧ M0 = M1 ∧ ∀ M1 : Mem, C M1) (wi_lst (we_cb (call_sortedDI rfl) B.sorted bi_sorted (EA.to (ea_cons (ee_v 2 rfl) ea_nil) (cd_sortedK hd1 (kv_keys ts) (by omega) fun ys hp hs => ⟨ys.map .int, .inl rfl, ys, rfl, hp, hs, rfl, fun _ => .inl rfl⟩)))) (LcOk.ex fun es C M0 ⟨ys, e1, hp, hs, e2, hC⟩ => ?_) (Nat.zero_le _)))))
    subst e1; subst e2
    have hyl : ys.length = ts.length := hp.length_eq.trans lk
    refine ⟨ItQ (ys.map .int) M0, ⟨rfl, rfl, hC _⟩, LcOk.to (d := .lst ((ys.map (look ts)).map rwD)) (LcOk.imp (ok_lc1 (ds := ys.map .int) 5 (fun d => rwD (look ts (intOf d))) rfl nd (lt1000 (by rw [List.length_map]; omega)) fun j e he => ?_) fun z M' ⟨e1, e2⟩ => ⟨e1.trans (congrArg D.lst (good_D ts ys)), e2⟩) ?_⟩
    · obtain ⟨k, hk, rfl⟩ := at_map he
      have := look_of (rs := ts) (k := k) (hp.mem_iff.mp (List.mem_of_getElem? hk))
      exact fun s H C cl fp => we_kget hu (EE.to (ee_v 2 rfl) (EE.to (ee_v 5 rfl) ⟨d, kvR ts, .inl k, _, rfl, rfl, .inl hd1, this.2.2, rfl, rfl⟩))
    · refine wa_nil (cd_tupL (.inl rfl) (q _ M0 (good_sorted ho hn hp hs) (by rw [List.length_map]; omega) hB1))
end
end K23
set_option Elab.async false
set_option linter.all false
set_option maxRecDepth 100000
set_option maxHeartbeats 4000000
namespace K23
open PySem L2 PyProof.Rows DL
/-! ### _law_mended -/
def pyQ (q : Qn) : PyData := .tuple [.str (if q.rows then "rows" else "checks"), .int q.lo, .int q.hi]
theorem plA_q : ∀ w : List Qn, plA (w.map qD) = true
  | [] => rfl
  | q :: w => by
    show (pl (qD q) && plA (w.map qD)) = true
    rw [plA_q w]; rfl
theorem toPyA_q : ∀ w : List Qn, toPyA (w.map qD) = w.map pyQ
  | [] => rfl
  | q :: w => congrArg (pyQ q :: ·) (toPyA_q w)
theorem lay_q : ∀ w : List Qn, PyData.canLayAll0 (w.map pyQ) = true
  | [] => rfl
  | ⟨r, lo, hi⟩ :: w => by
    show (PyData.canLay0 (pyQ ⟨r, lo, hi⟩) && PyData.canLayAll0 (w.map pyQ)) = true
    rw [lay_q w]
    cases r
    · show ((PyData.strOk "checks" && (true && (true && true))) && true) = true
      rw [show PyData.strOk "checks" = true by decide +kernel]
      rfl
    · show ((PyData.strOk "rows" && (true && (true && true))) && true) = true
      rw [show PyData.strOk "rows" = true by decide +kernel]
      rfl
theorem depth_q : ∀ w : List Qn, PyData.depthAll (w.map pyQ) ≤ 1
  | [] => by decide
  | q :: w => by
    show max (PyData.depth (pyQ q)) (PyData.depthAll (w.map pyQ)) ≤ 1
    exact Nat.max_le.mpr ⟨Nat.le_refl 1, depth_q w⟩
theorem shapedL_q (w : List Qn) : SeqAt.shaped (.list (w.map pyQ)) = true := Bool.and_eq_true_iff.mpr ⟨lay_q w, decide_eq_true (by show PyData.depthAll (w.map pyQ) + 1 ≤ 64; have := depth_q w; omega)⟩
theorem pydL_q {M : Mem} (w : List Qn) : PyD M (.lst (w.map qD)) (.list (w.map pyQ)) := .inr ⟨_, .inl rfl, plA_q w, by rw [toPyA_q]⟩
theorem eqvL_q (w : List Qn) : PyData.eqv (.list (w.map pyQ)) (.list []) = w.isEmpty := by
  cases w <;> simp [PyData.eqv, PyData.eqvAll]
def qs (rs os : List Rw) (small : Int) (t : Nat) : Qn := (sts rs os small t).wait.headD ⟨false, 0, 0⟩
def ask (rs os : List Rw) (small : Int) (n : Nat) : List D := (List.range n).map fun t => qD (qs rs os small t)
theorem ask_len (rs os : List Rw) (small : Int) (n : Nat) : (ask rs os small n).length = n := by unfold ask; rw [List.length_map, List.length_range]
theorem ask_succ (rs os : List Rw) (small : Int) (n : Nat) : ask rs os small (n + 1) = ask rs os small n ++ [qD (qs rs os small n)] := by
  unfold ask
  rw [List.range_succ, List.map_append]
  rfl
section
variable {P : Program} {w : World} {K : PySem.W.Frag} {mg : Str → Option Value} {base : Heap}
theorem lt_i {n : Nat} (h : n < 100000) : n < sizeLine := Nat.lt_of_lt_of_le (show n < 200000 by omega) (by decide)
def S_lmend : SpD := fun ds M Q => ∃ (n : Str) (fs : List Fd) (rs os : List Rw) (small : Int), ds = [.str n, fsD fs, rowsD rs, rowsD os, .int small] ∧ Good rs ∧ Good os ∧ rs.length + os.length ≤ 40 ∧ ∀ N, End rs os small N → Q (.tup [.lst (ask rs os small N), rowsD (sts rs os small N).rows, .int ((sts rs os small N).copied : Int)]) M
theorem d_lmended (F : Df K mg "_law_mended" s_law_mended ["name", "schema", "rows", "others", "small"]) (B : Blt mg) (C2 : Cal P w K mg base 7 "range_check" 3 S_rng) : Cal P w K mg base 8 "_law_mended" 5 S_lmend := by
  refine dfn' F sc_law_mended rfl fun f cdv A outer s H E ds M Q hr hl hs => ?_
  obtain ⟨n, fs, rs, os, small, rfl, g1, g2, hz, q⟩ := hs
  have nd := sc_law_mended.nd
  obtain ⟨N, hN1, hN2, hN3⟩ := sts_end small g1 g2
  have q := q N ⟨hN1, hN2, hN3⟩
  have hN : N ≤ 2900 := by omega
  refine wss_cons (ws_asg (we_tup (wa_cons (EE.to (ee_lst (ea_cons (ee_tup (ea_cons ee_str (ea_cons ee_int (ea_cons ee_int ea_nil)))) ea_nil)) (wa_cons (we_lstM (wa_nil ⟨by exact small30, fun p hp => ?_⟩)))))))
  refine wa_cons (EE.to ee_int (wa_cons (EE.to (ee_v 2 rfl) (wa_nil ⟨by exact small30, _, _, wg_tup rfl (wgs_cons (wg_name 5 nd) (wgs_cons (wg_name 6 nd) (wgs_cons (wg_name 7 nd) (wgs_cons (wg_name 8 nd) wgs_nil)))), ?_⟩))))
  refine wss_cons (ws_for PassesOwn.never rfl (Qi := fun es C M0 => es = rngD 0 3000 ∧ M0 = updM M p (some (.lst [])) ∧ ∀ M1, C M1) (wi_rng1 B.range (EA.to (ea_cons ee_int ea_nil) ⟨3000, rfl, by decide, by decide, rfl, rfl, fun _ => trivial⟩)) fun es C M0 ⟨e1, e2, hC⟩ => ?_)
  subst e1; subst e2
  refine ⟨fun i sg1 M1 => i ≤ N ∧ M1 = updM M p (some (.lst (ask rs os small i))) ∧ Fg [some (.str n), some (fsD fs), some (rowsD rs), some (rowsD os), some (.int small), some (.lst ((sts rs os small i).wait.map qD)), some (.ptr p), some (.int ((sts rs os small i).copied : Int)), some (rowsD (sts rs os small i).rows), none, none, none, none, none, none, none, none] sg1, ⟨Nat.zero_le _, rfl, ⟨rfl, rfl, rfl, rfl, rfl, rfl, rfl, rfl, rfl, trivial⟩⟩, fun i sg1 M1 _ => hC _, fun i d sg1 M1 he ⟨hi, e, hg⟩ => ?_, fun sg1 M1 ⟨hi, _, _⟩ => absurd hi (by rw [rngD_len]; omega)⟩
  subst e
  obtain ⟨hj, rfl⟩ := rngD_at he
  refine ⟨_, _, wg_name 9 nd, wss_fg (fg_set hg 9 _) ?_⟩
  have ok := sts_ok small g1 g2 i
  have lw := sts_wait rs os small i
  have lr := rows_len ok
  have hst : sts rs os small (i + 1) = step os small (sts rs os small i) := rfl
  have hqs : qs rs os small i = (sts rs os small i).wait.headD ⟨false, 0, 0⟩ := rfl
  refine wss_cons (ws_ifE (k := (sts rs os small i).wait.isEmpty) (ET.is (et_cmp (op_eqD hr.units) (ee_v 5 rfl) (ee_lst ea_nil) (od_eqD (pydL_q _) (pydL_q []) (shapedL_q _) (shapedL_q []) ⟨_, rfl, rfl, rfl⟩)) (eqvL_q _)) (fun h => ?_) fun h => wss_nil ?_)
  · have hw := List.isEmpty_iff.mp h
    have : i = N := by
      rcases Nat.lt_or_ge i N with c | c
      · exact absurd hw (hN3 i c)
      · omega
    subst this
    refine wss_freeze (i := 6) updM_same rfl ?_
    rw [updM_upd, updM_id hp]
    exact wss_one (ws_ret (EE.to (ee_tup (ea_cons (ee_v 6 rfl) (ea_cons (ee_v 8 rfl) (ea_cons (ee_v 7 rfl) ea_nil)))) q))
  · have hlt : i < N := by
      rcases Nat.lt_or_ge i N with c | c
      · exact c
      · have : i = N := by omega
        rw [this, hN2] at h
        cases h
    obtain ⟨⟨isr, lo, hi2⟩, wt, hw⟩ : ∃ q0 wt, (sts rs os small i).wait = q0 :: wt := by
      cases hw : (sts rs os small i).wait with
      | nil => rw [hw] at h; cases h
      | cons q0 wt => exact ⟨q0, wt, rfl⟩
    have hqo := ok.w _ (by rw [hw]; exact List.mem_cons_self)
    rw [hw, List.length_cons] at lw
    have hq0 : qs rs os small i = ⟨isr, lo, hi2⟩ := by rw [hqs, hw]; rfl
    have gg := ok.g
    generalize sts rs os small i = st at *
    obtain ⟨rows, wait, copied, asked⟩ := st
    have hw : wait = ⟨isr, lo, hi2⟩ :: wt := hw
    subst hw
    have lr : rows.length ≤ rs.length + os.length := lr
    have hle : lo ≤ hi2 := hqo.le
    have li := inR_len os lo hi2
    have lo_ : (outR rows lo hi2).length ≤ rows.length := List.length_filter_le _ _
    refine wss_cons (ws_asg (EE.to (d := qD ⟨isr, lo, hi2⟩) (ee_ix ix_list (ee_v 5 (d := .lst ((⟨isr, lo, hi2⟩ :: wt).map qD)) rfl) ee_int (od_ixL (.inl rfl) (by have := atI_nat (xs := (⟨isr, lo, hi2⟩ :: wt).map qD) (j := 0) (v := qD ⟨isr, lo, hi2⟩) rfl; exact this) ⟨rfl, rfl⟩)) ⟨_, _, wg_tup rfl (wgs_cons (wg_name 10 nd) (wgs_cons (wg_name 11 nd) (wgs_cons (wg_name 12 nd) wgs_nil))), ?_⟩))
    refine wss_cons (ws_par 5 13 rfl nd (wa_cons (EE.to (d := .lst (wt.map qD)) (EE.is (ee_sl sl_list (ee_v 5 (d := .lst ((⟨isr, lo, hi2⟩ :: wt).map qD)) rfl) (eo_some ee_int) eo_none (sd_lst (.inl rfl) ⟨rfl, rfl⟩)) (by have := cut_fromN ((⟨isr, lo, hi2⟩ :: wt).map qD) 1; exact congrArg D.lst this)) (wa_cons (EE.to (d := rowsD (inR os lo hi2)) (EE.is (ee_ct call_tuple_of B.tuple bi_tuple (ea_cons (ee_lc1if 14 (ds := os.map rwD) (fun d => decide (lo ≤ keyD d) && decide (keyD d < hi2)) (fun d => d) rfl nd (wi_tup (EE.to (ee_v 3 rfl) ⟨_, rfl, rfl, rfl, trivial⟩)) (lt1000 (by rw [List.length_map]; omega)) (fun j d hd => ?_) fun j d hd _ s H C cl fp => ee_v 14 rfl) ea_nil) (cd_tupL (.inl rfl) ⟨rfl, rfl⟩)) (congrArg D.tup (inR_D os lo hi2))) (wa_nil ⟨_, _, rfl, ?_⟩))))))
    · obtain ⟨r, hr0, rfl⟩ := at_map hd
      exact fun s H C cl fp => et_le_lt (ee_v 11 rfl) (ee_ix ix_tup (ee_v 14 rfl) ee_int (od_ixT rfl ⟨rfl, rfl⟩)) (ee_v 12 rfl)
    refine wss_cons (ws_expr (we_bm PySem.F.plainAttrs_list PySem.F.slot_list_append PySem.F.type_list_append mt_append (EE.to (ee_v 6 rfl) ⟨ty_lst (.inr ⟨p, rfl, updM_same⟩), EA.to (ea_cons (EE.is (d' := qD ⟨isr, lo, hi2⟩) (ee_tup (ea_cons (ee_v 10 rfl) (ea_cons (ee_v 11 rfl) (ea_cons (ee_v 12 rfl) ea_nil)))) rfl) ea_nil) (md_append updM_same (by rw [ask_len]; exact lt_i (by omega)) ?_)⟩)))
    rw [updM_upd]
    have e3 : ask rs os small i ++ [qD ⟨isr, lo, hi2⟩] = ask rs os small (i + 1) := by rw [ask_succ, hq0]
    rw [e3]
    show WSs _ _ [some (.str n), some (fsD fs), some (rowsD rs), some (rowsD os), some (.int small), some (.lst (wt.map qD)), some (.ptr p), some (.int (copied : Int)), some (rowsD rows), some _, some (.str (if isr then "rows" else "checks")), some (.int lo), some (.int hi2), some (rowsD (inR os lo hi2)), none, none, none] _ _
    cases isr with
    | true =>
      refine wss_one (ws_ifE (k := true) (ET.is (et_cmp op_eq (ee_v 10 rfl) ee_str (od_eqS ⟨_, rfl, rfl, rfl⟩)) (by decide +kernel)) (fun _ => ?_) fun h => Bool.noConfusion h)
      have cat : ((outR rows lo hi2).map rwD) ++ ((inR os lo hi2).map rwD) = (outR rows lo hi2 ++ inR os lo hi2).map DL.pairD := by rw [← List.map_append]; rfl
      refine wss_cons (ws_set 8 nd (EE.to (d := rowsD (ins rows os lo hi2)) (ee_ct call_tuple_of B.tuple bi_tuple (ea_cons (ee_cb cr_srt B.sorted bi_sorted (ea_cons (EE.is (ee_op op_cat (EE.is (ee_lc1if 14 (ds := rows.map rwD) (fun d => !(decide (lo ≤ keyD d) && decide (keyD d < hi2))) (fun d => d) rfl nd (wi_tup (EE.to (ee_v 8 rfl) ⟨_, rfl, rfl, rfl, trivial⟩)) (lt1000 (by rw [List.length_map]; omega)) (fun j d hd => ?_) fun j d hd _ s H C cl fp => ee_v 14 rfl) (congrArg D.lst (outR_D rows lo hi2))) (ee_ct call_list_of B.list bi_list (ea_cons (ee_v 13 rfl) ea_nil) (cd_lst (.inl rfl) ⟨rfl, rfl⟩)) (od_cat (.inl rfl) (.inl rfl) (by rw [List.length_map, List.length_map]; exact Nat.le_of_lt (lt1000 (by omega))) ⟨rfl, rfl⟩)) (congrArg D.lst cat)) ea_nil) (cd_srt (.inl rfl) fun ps hp hs => ⟨by rw [srt_is hle gg g2 hp hs]; rfl, rfl⟩)) ea_nil) (cd_tupL (.inl rfl) ⟨rfl, rfl⟩)) ?_))
      · obtain ⟨r, hr0, rfl⟩ := at_map hd
        exact fun s H C cl fp => et_not (et_le_lt (ee_v 11 rfl) (ee_ix ix_tup (ee_v 14 rfl) ee_int (od_ixT rfl ⟨rfl, rfl⟩)) (ee_v 12 rfl))
      refine wss_one (ws_set 7 nd (EE.to (d := .int ((copied + (inR os lo hi2).length : Nat) : Int)) (EE.is (ee_add (ee_v 7 rfl) (ee_cb call_len B.len bi_len (ea_cons (ee_v 13 rfl) ea_nil) (cd_lenT ⟨rfl, rfl⟩))) (by rw [List.length_map]; rfl)) ?_))
      exact ⟨hlt, rfl, by rw [hst]; exact ⟨rfl, rfl, rfl, rfl, rfl, rfl, rfl, rfl, rfl, trivial⟩⟩
    | false =>
      refine wss_one (ws_ifE (k := false) (ET.is (et_cmp op_eq (ee_v 10 rfl) ee_str (od_eqS ⟨_, rfl, rfl, rfl⟩)) (by decide +kernel)) (fun h => Bool.noConfusion h) fun _ => ?_)
      refine wss_one (ws_ifE (k := !decide (rngN rows lo hi2 = rngN os lo hi2)) (ET.is (et_cmp (op_neD hr.units) (we_call C2 hr (EA.to (ea_cons (ee_tup (ea_cons (ee_v 0 rfl) (ea_cons (ee_v 1 rfl) (ea_cons (ee_v 8 rfl) ea_nil)))) (ea_cons (ee_v 11 rfl) (ea_cons (ee_v 12 rfl) ea_nil))) ⟨rfl, .str n, fsD fs, rows, lo, hi2, rfl, by omega, gg.ok, rfl, rfl⟩)) (we_call C2 hr (EA.to (ea_cons (ee_tup (ea_cons (ee_v 0 rfl) (ea_cons (ee_v 1 rfl) (ea_cons (ee_v 3 rfl) ea_nil)))) (ea_cons (ee_v 11 rfl) (ea_cons (ee_v 12 rfl) ea_nil))) ⟨rfl, .str n, fsD fs, os, lo, hi2, rfl, by omega, g2.ok, rfl, rfl⟩)) (od_neD (x := prD (rngN rows lo hi2)) (y := prD (rngN os lo hi2)) (pydT [(rngN rows lo hi2).1, (rngN rows lo hi2).2]) (pydT [(rngN os lo hi2).1, (rngN os lo hi2).2]) (shapedT_int _) (shapedT_int _) ⟨_, rfl, rfl, rfl⟩)) (congrArg not (eqv_pr _ _))) (fun h => ?_) fun h => wss_nil ?_)
      · rw [Bool.not_eq_true', decide_eq_false_iff_not] at h
        have e : step os small ⟨rows, ⟨false, lo, hi2⟩ :: wt, copied, asked⟩ = ⟨rows, lookW small lo hi2 ((inR os lo hi2).length : Int) wt, copied, asked + 1⟩ := by
          unfold step lookW
          dsimp only
          rw [if_neg Bool.false_ne_true, if_neg fun z => h z.symm]
          split <;> rfl
        rw [e] at hst
        refine wss_cons (ws_set 15 nd (EE.to (ee_fdiv (ee_add (ee_v 11 rfl) (ee_v 12 rfl)) ee_int ⟨by decide, by decide⟩) ?_))
        unfold lookW at hst
        generalize (lo + hi2) / 2 = m at *
        refine wss_cons (ws_set 16 nd (EE.to (d := .lst [qD ⟨false, lo, m⟩, qD ⟨false, m, hi2⟩]) (ee_lst (ea_cons (ee_tup (ea_cons ee_str (ea_cons (ee_v 11 rfl) (ea_cons (ee_v 15 rfl) ea_nil)))) (ea_cons (ee_tup (ea_cons ee_str (ea_cons (ee_v 15 rfl) (ea_cons (ee_v 12 rfl) ea_nil)))) ea_nil))) ?_))
        have l13 : ((inR os lo hi2).map rwD).length = (inR os lo hi2).length := List.length_map ..
        refine wss_one (ws_set 5 nd (EE.to (d := .lst ((if ((inR os lo hi2).length : Int) ≤ small ∨ hi2 - lo = 1 then ⟨true, lo, hi2⟩ :: wt else ⟨false, lo, m⟩ :: ⟨false, m, hi2⟩ :: wt : List Qn).map qD)) (EE.is (ee_op op_cat (ee_if (k := decide (((inR os lo hi2).length : Int) ≤ small) || decide (hi2 - lo = 1)) (x := .lst (if ((inR os lo hi2).length : Int) ≤ small ∨ hi2 - lo = 1 then [qD ⟨true, lo, hi2⟩] else [qD ⟨false, lo, m⟩, qD ⟨false, m, hi2⟩])) (ww_pt (ew_or (et_le (EE.is (ee_cb call_len B.len bi_len (ea_cons (ee_v 13 rfl) ea_nil) (cd_lenT ⟨rfl, rfl⟩)) (by rw [l13])) (ee_v 4 rfl)) fun _ => ww_or1 (et_eqI (ee_sub (ee_v 12 rfl) (ee_v 11 rfl)) ee_int))) (fun h => ?_) fun h => ?_) (ee_v 5 rfl) (od_cat (.inl rfl) (.inl rfl) ?_ ⟨rfl, rfl⟩)) ?_) ?_))
        · rw [Bool.or_eq_true, decide_eq_true_iff, decide_eq_true_iff] at h
          rw [if_pos h]
          exact ee_lst (ea_cons (ee_tup (ea_cons ee_str (ea_cons (ee_v 11 rfl) (ea_cons (ee_v 12 rfl) ea_nil)))) ea_nil)
        · rw [Bool.or_eq_false_iff, decide_eq_false_iff_not, decide_eq_false_iff_not] at h
          rw [if_neg (show ¬(((inR os lo hi2).length : Int) ≤ small ∨ hi2 - lo = 1) from fun z => z.elim h.1 h.2)]
          exact ee_v 16 rfl
        · rw [List.length_map]
          split
          · exact big_i (show 1 + wt.length < 100000 by omega)
          · exact big_i (show 2 + wt.length < 100000 by omega)
        · split <;> rfl
        · exact ⟨hlt, rfl, by rw [hst]; exact ⟨rfl, rfl, rfl, rfl, rfl, rfl, rfl, rfl, rfl, trivial⟩⟩
      · rw [Bool.not_eq_false', decide_eq_true_iff] at h
        have e : step os small ⟨rows, ⟨false, lo, hi2⟩ :: wt, copied, asked⟩ = ⟨rows, wt, copied, asked + 1⟩ := by
          unfold step
          dsimp only
          rw [if_neg Bool.false_ne_true, if_pos h.symm]
        rw [e] at hst
        exact ⟨hlt, rfl, by rw [hst]; exact ⟨rfl, rfl, rfl, rfl, rfl, rfl, rfl, rfl, rfl, trivial⟩⟩
end
end K23
set_option Elab.async false
set_option linter.all false
set_option maxRecDepth 100000
set_option maxHeartbeats 4000000
namespace K23
open PySem L2 PyProof.Rows DL
/-! ### the law's turn: the tables, and how they are mended -/
def stD (rs : List Rw) : D := .tup [tabD "cup" schF rs, tabD "tea" schF []]
def thD (os : List Rw) : D := .tup [tabD "cup" schF1 [], tabD "pot" schF [], tabD "tea" schF os]
/-- at the law's own states -/
def S_sdiff : SpD := fun ds M Q => ∃ rs os : List Rw, (ds = [stD rs, thD os] ∧ ∀ M', Up M M' → Q (.tup [.str "cup", .str "pot"]) M') ∨ (ds = [stD rs, stD rs] ∧ ∀ M', Up M M' → Q (.tup []) M')
structure CL (P : Program) (w : World) (K : PySem.W.Frag) (mg : Str → Option Value) (base : Heap) (C : Addr) : Prop where
  B : Blt mg
  B2 : Bl2 mg
  t : HC K C
  box : Cal P w K mg base 1 "_law_box" 1 S_box
  draw : Cal P w K mg base 2 "_law_draw" 2 S_draw
  same : Cal P w K mg base 5 "_law_same" 2 (S_same 5)
  rows : Cal P w K mg base 3 "_law_rows" 2 S_lrows
  others : Cal P w K mg base 3 "_law_others" 2 S_oth
  lmend : Cal P w K mg base 8 "_law_mended" 5 S_lmend
  table : Cal P w K mg base 4 "is_table" 1 S_table
  state : Cal P w K mg base 5 "is_state" 1 S_state
  mend : Cal P w K mg base 9 "mended" 3 S_mend
  rng : Cal P w K mg base 7 "range_check" 3 S_rng
  answer : Cal P w K mg base 8 "answer_to" 2 S_answer
  rdiff : Cal P w K mg base 2 "rows_differing" 2 S_rdiff
  make : CalI P w K mg base 1 "Repair" C 3 (S_init C)
  quest : CalM P w K mg base 1 C "question" 1 (S_get C fun _ _ _ s => qO s)
  tab : CalM P w K mg base 1 C "table" 1 (S_get C fun n fs _ s => tabD n fs s.rows)
  asked : CalM P w K mg base 1 C "asked" 1 (S_get C fun _ _ _ s => .int (s.asked : Int))
  copied : CalM P w K mg base 1 C "copied" 1 (S_get C fun _ _ _ s => .int (s.copied : Int))
  sdiff : Cal P w K mg base 1 "schemas_differing" 2 S_sdiff
  hear : CalM P w K mg base 8 C "hear" 2 (S_hear C)
abbrev NL : List Str := ["script", "box", "schema", "turn", "rows", "others", "small", "mine", "other", "asked", "here", "copied", "repair", "k", "word", "low", "high", "due", "row", "state", "there", "wide", "told"]
abbrev XL (P : Program) (w : World) (K : PySem.W.Frag) (mg : Str → Option Value) (base : Heap) (f : Addr) (cdv : Value) (A : Around) (outer : List Env) (s : Shared) (H : Hp) (E : XK) : Cx := (cxOf CX0 P w K mg base NL "law" (defScope s_law) f cdv A outer s H E).nox
abbrev turnB : List Stmt := forBody ((defBody s_law).getD 2 (.Pass ⟨0, 0, 0, 0⟩))
theorem asc_good {rs : List Rw} (h : Good rs) : ascB (rs.map (·.1)) = true := by
  unfold ascB
  rw [List.all_eq_true]
  intro i hi
  have hi := List.mem_range.mp hi
  rw [List.length_map] at hi
  have h1 : i < rs.length := by omega
  have h2 : i + 1 < rs.length := by omega
  rw [decide_eq_true_iff, List.getD_eq_getElem?_getD, List.getD_eq_getElem?_getD, List.getElem?_map, List.getElem?_map, List.getElem?_eq_getElem h1, List.getElem?_eq_getElem h2]
  exact List.pairwise_iff_getElem.mp h.asc i (i + 1) h1 h2 (Nat.lt_succ_self i)
theorem tb_ok {n : Str} {rs : List Rw} (hn : nameOk n = true) (h : Good rs) (hl : rs.length ≤ 100) : TbOk n schF rs := ⟨hn, sch_ok, hl, fun r hr => rw_ok (h.ok r hr), asc_good h⟩
theorem ew_is {X : Cx} {e : Expr} {sg : Sg} {M : Mem} {a b : Bool} (h : EW X e sg M a) (hb : a = b) : EW X e sg M b := by subst hb; exact h
structure Two (rs os : List Rw) (small : Int) (N : Nat) : Prop where
  g1 : Good rs
  g2 : Good os
  l1 : rs.length ≤ 12
  l2 : os.length ≤ 16
  n : End rs os small N
abbrev teaD (rs : List Rw) : D := tabD "tea" schF rs
theorem wf_tea {rs : List Rw} (h : rs.length ≤ 900) : wf 900 4 (teaD rs) = true := by
  refine tup_wf (by exact Nat.le_of_ble_eq_true rfl) fun d hd => ?_
  simp only [List.mem_cons, List.not_mem_nil, or_false] at hd
  rcases hd with rfl | rfl | rfl
  · rfl
  · rfl
  · exact tup_wf (by rw [List.length_map]; exact h) fun d hd => by
      obtain ⟨r, _, rfl⟩ := List.mem_map.mp hd
      rfl
/-- the names in a turn: box, schema, rows, others, small, mine, other, asked, here, copied -/
abbrev sgT (p : Addr) (rs os : List Rw) (small : Int) (N : Nat) : Sg := [none, some (.ptr p), some (fsD schF), none, some (rowsD rs), some (rowsD os), some (.int small), some (teaD rs), some (teaD os), some (.lst (ask rs os small N)), some (rowsD (sts rs os small N).rows), some (.int ((sts rs os small N).copied : Int)), none, none, none, none, none, none, none, none, none, none, none]
section
variable {P : Program} {w : World} {K : PySem.W.Frag} {mg : Str → Option Value} {base : Heap} {C : Addr} {f : Addr} {cdv : Value} {A : Around} {outer : List Env} {s : Shared} {H : Hp} {E : XK} {sg : Sg} {M : Mem} {pos pos' : Pos}
theorem ee_same {a b : Expr} {x y : D} (L : CL P w K mg base C) (hr : Room 9 (XL P w K mg base f cdv A outer s H E).A) (ha : EE (XL P w K mg base f cdv A outer s H E) a sg M x) (hb : EE (XL P w K mg base f cdv A outer s H E) b sg M y) (hx : wf 900 5 x = true) (hy : wf 900 5 y = true) (na : nst a = true := by rfl) (nb : nst b = true := by rfl) : EE (XL P w K mg base f cdv A outer s H E) (.Call (.Name "_law_same" pos) [a, b] [] pos') sg M (.bl (eqD x y)) :=
  we_call L.same (hr.mono (by omega)) (EA.to (ea_cons ha (ea_cons hb ea_nil (hs := star1 nb)) (hs := star1 na)) ⟨rfl, x, y, rfl, hx, hy, rfl, rfl⟩) (he := star1 na) (hpl := starN (by show (nst b && true) = true; rw [nb]; rfl))
theorem a_draw {a : Expr} {m : Int} {Q : D → Mem → Prop} {p c : Addr} {p1 p2 p4 : Pos} (L : CL P w K mg base C) (hr : Room 9 (XL P w K mg base f cdv A outer s H E).A) (hs : sg[1]? = some (some (.ptr p))) (ha : EE (XL P w K mg base f cdv A outer s H E) a sg M (.int m)) (hB : Bx M p c) (h0 : 0 < m) (h1 : m < 1073741824) (q : ∀ r M', 0 ≤ r → r < m → Bx M' p c → Els M M' p c → Q (.int r) M') (na : nst a = true := by rfl) :
    WE (XL P w K mg base f cdv A outer s H E) (.Call (.Name "_law_draw" p1) [.Name "box" p2, a] [] p4) sg M Q :=
  we_call L.draw (hr.mono (by omega)) (EA.to (ea_cons (ee_v 1 hs) (ea_cons ha ea_nil (hs := star1 na))) ⟨rfl, p, c, m, rfl, hB, h0, h1, q⟩) (hpl := starN (by show (nst a && true) = true; rw [na]; rfl))
/-- the tables; what the law's own mending tells -/
theorem a_tables {ED : EndsD} {p c : Addr} {o3 : Option D} (L : CL P w K mg base C) (hr : Room 9 (XL P w K mg base f cdv A outer s H E).A) (hB : Bx M p c)
    (q : ∀ (rs os : List Rw) (small : Int) (N : Nat) (M1 : Mem), Two rs os small N → Bx M1 p c → WSs (XL P w K mg base f cdv A outer s H E) (turnB.drop 4) (sgT p rs os small N) M1 ED) :
    WSs (XL P w K mg base f cdv A outer s H E) turnB [none, some (.ptr p), some (fsD schF), o3, none, none, none, none, none, none, none, none, none, none, none, none, none, none, none, none, none, none, none] M ED := by
  have nd := sc_law.nd
  have B := L.B
  refine wss_cons (ws_set 4 nd (we_call L.rows (hr.mono (by omega)) (wa_cons (EE.to (ee_v 1 rfl) (wa_cons (a_draw L hr rfl ee_int hB (by decide) (by decide) fun m M1 m0 m1 hB1 hE1 => wa_nil ⟨rfl, p, c, m.toNat, by rw [Int.toNat_of_nonneg m0], hB1, by omega, fun rs M2 hG hl hB2 => ?_⟩))))))
  refine wss_cons (ws_par 5 6 rfl nd (wa_cons (we_call L.others (hr.mono (by omega)) (EA.to (ea_cons (ee_v 1 rfl) (ea_cons (ee_v 4 rfl) ea_nil)) ⟨rfl, p, c, rs, rfl, hB2, hG, by omega, fun os M3 hG2 hl2 hB3 => wa_cons (a_draw L hr rfl ee_int hB3 (by decide) (by decide) fun small M4 s0 s1 hB4 hE4 => wa_nil ⟨_, _, rfl, ?_⟩)⟩))))
  refine wss_cons (ws_par 7 8 rfl nd (wa_cons (EE.to (d := teaD rs) (ee_tup (ea_cons ee_str (ea_cons (ee_v 2 rfl) (ea_cons (ee_v 4 rfl) ea_nil)))) (wa_cons (EE.to (d := teaD os) (ee_tup (ea_cons ee_str (ea_cons (ee_v 2 rfl) (ea_cons (ee_v 5 rfl) ea_nil)))) (wa_nil ⟨_, _, rfl, ?_⟩))))))
  refine wss_cons (ws_asg (we_call L.lmend (hr.mono (by omega)) (EA.to (ea_cons ee_str (ea_cons (ee_v 2 rfl) (ea_cons (ee_v 4 rfl) (ea_cons (ee_v 5 rfl) (ea_cons (ee_v 6 rfl) ea_nil))))) ⟨rfl, "tea", schF, rs, os, small, rfl, hG, hG2, by omega, fun N hN => ⟨_, _, wg_tup rfl (wgs_cons (wg_name 9 nd) (wgs_cons (wg_name 10 nd) (wgs_cons (wg_name 11 nd) wgs_nil))), ?_⟩⟩)))
  exact wss_fg (by exact ⟨rfl, rfl, rfl, rfl, rfl, rfl, rfl, rfl, rfl, rfl, trivial⟩) (q rs os small N M4 ⟨hG, hG2, by omega, by omega, hN⟩ hB4)
/-- tables are taken; mended is what the law tells -/
theorem a_mended {ED : EndsD} {p c : Addr} {rs os : List Rw} {small : Int} {N : Nat} (L : CL P w K mg base C) (hr : Room 9 (XL P w K mg base f cdv A outer s H E).A) (hB : Bx M p c) (T : Two rs os small N)
    (q : ∀ (M1 : Mem), Bx M1 p c → WSs (XL P w K mg base f cdv A outer s H E) (turnB.drop 5) (sgT p rs os small N) M1 ED) :
    WSs (XL P w K mg base f cdv A outer s H E) (turnB.drop 4) (sgT p rs os small N) M ED := by
  have nd := sc_law.nd
  have B := L.B
  have hz1 := T.l1
  have hz2 := T.l2
  have lr := rows_len (sts_ok small T.g1 T.g2 N)
  have ea := T.n.asked N (Nat.le_refl _)
  have tok : ∀ {rs : List Rw} {e : Expr} {p1 p2 : Pos} {sg : Sg} {M : Mem}, Good rs → rs.length ≤ 100 → EE (XL P w K mg base f cdv A outer s H E) e sg M (teaD rs) → nst e = true → EE (XL P w K mg base f cdv A outer s H E) (.Call (.Name "is_table" p1) [e] [] p2) sg M (.bl true) := fun hG hl he hn => we_call L.table (hr.mono (by omega)) (EA.to (ea_cons he ea_nil (hs := star1 hn)) ⟨rfl, "tea", schF, _, rfl, tb_ok (by decide +kernel) hG hl, rfl, rfl⟩) (he := star1 hn)
  have w5 : wf 900 5 (.tup [teaD (sts rs os small N).rows, .int (N : Int), .int ((sts rs os small N).copied : Int)]) = true := tup_wf (by exact Nat.le_of_ble_eq_true rfl) fun d hd => by
    simp only [List.mem_cons, List.not_mem_nil, or_false] at hd
    rcases hd with rfl | rfl | rfl
    · exact wf_tea (by omega)
    · rfl
    · rfl
  have hm : mendD "tea" schF (sts rs os small N) = .tup [teaD (sts rs os small N).rows, .int (N : Int), .int ((sts rs os small N).copied : Int)] := by unfold mendD; rw [ea]
  refine wss_cons (ws_if (ww_pt (ww_or (ET.to (ET.is (et_cmp op_notBl (tok T.g1 (by omega) (ee_v 7 rfl) rfl) ee_bl (od_notB ⟨_, rfl, rfl, rfl⟩)) rfl) ⟨fun h => Bool.noConfusion h, fun _ => ww_or (ET.to (ET.is (et_cmp op_notBl (tok T.g2 (by omega) (ee_v 8 rfl) rfl) ee_bl (od_notB ⟨_, rfl, rfl, rfl⟩)) rfl) ⟨fun h => Bool.noConfusion h, fun _ => ww_or1 (wt_not (wt_val (we_call L.same (hr.mono (by omega)) (wa_cons (we_call L.mend hr (EA.to (ea_cons (ee_v 7 rfl) (ea_cons (ee_v 8 rfl) (ea_cons (ee_v 6 rfl) ea_nil))) ⟨rfl, "tea", schF, "tea", schF, rs, os, small, rfl, T.g1, T.g2, by omega, by omega, fun N' M' hN' up => wa_cons (EE.to (ee_tup (ea_cons (ee_tup (ea_cons ee_str (ea_cons (ee_v 2 rfl) (ea_cons (ee_v 10 rfl) ea_nil)))) (ea_cons (ee_cb call_len B.len bi_len (ea_cons (ee_v 9 rfl) ea_nil) (cd_lenL (.inl rfl) ⟨rfl, rfl⟩)) (ea_cons (ee_v 11 rfl) ea_nil)))) (wa_nil ⟨rfl, _, _, rfl, ?_, ?_, _, rfl, ?_⟩))⟩))))))⟩)⟩))))
  · rw [End.uniq hN' T.n, hm]; exact w5
  · rw [ask_len]; exact w5
  · rw [End.uniq hN' T.n, hm, ask_len]
    rw [show (!eqD (D.tup [teaD (sts rs os small N).rows, .int (N : Int), .int ((sts rs os small N).copied : Int)]) (D.tup [.tup [.str "tea", fsD schF, rowsD (sts rs os small N).rows], .int (N : Int), .int ((sts rs os small N).copied : Int)])) = false from not_eqD rfl]
    exact ⟨fun h => Bool.noConfusion h, fun _ => wss_nil (q M' (hB.up up))⟩
end
end K23
set_option Elab.async false
set_option linter.all false
set_option maxRecDepth 100000
set_option maxHeartbeats 4000000
namespace K23
open PySem L2 PyProof.Rows DL
/-! ### the law's turn: the repair, question by question -/
section
variable {P : Program} {w : World} {K : PySem.W.Frag} {mg : Str → Option Value} {base : Heap} {C : Addr} {f : Addr} {cdv : Value} {A : Around} {outer : List Env} {s : Shared} {H : Hp} {E : XK} {sg : Sg} {M : Mem} {pos pos' : Pos}
theorem ans_wf {os : List Rw} (q : Qn) (h : os.length ≤ 900) : wf 900 5 (ansD os q) = true := by
  unfold ansD
  split
  · exact wf_mono (Nat.le_refl _) (by decide : 3 ≤ 5) (tup_wf (by rw [List.length_map]; exact Nat.le_trans (inR_len _ _ _) h) fun d hd => by
      obtain ⟨r, _, rfl⟩ := List.mem_map.mp hd
      rfl)
  · rfl
theorem a_repair {ED : EndsD} {p c : Addr} {rs os : List Rw} {small : Int} {N : Nat} (L : CL P w K mg base C) (hr : Room 9 (XL P w K mg base f cdv A outer s H E).A) (hB : Bx M p c) (T : Two rs os small N)
    (q : ∀ (M1 : Mem), Bx M1 p c → WSs (XL P w K mg base f cdv A outer s H E) (turnB.drop 8) (sgT p rs os small N) M1 ED) :
    WSs (XL P w K mg base f cdv A outer s H E) (turnB.drop 5) (sgT p rs os small N) M ED := by
  have nd := sc_law.nd
  have B := L.B
  have hz1 := T.l1
  have hz2 := T.l2
  have hNle := T.n.le
  refine wss_cons (ws_set 12 nd (we_make L.make (hr.mono (by omega)) (EA.to (ea_cons (ee_v 7 rfl) (ea_cons (ee_v 6 rfl) ea_nil)) fun a ha => ⟨rfl, a, "tea", schF, rs, small, rfl, updM_same, rfl, ?_⟩)))
  rw [updM_upd]
  have na := hB.new ha
  have hB2 := hB.upd (o := some (.ins C (rpF "tea" schF small (rp0 rs)))) na.1 na.2
  have ha2 : (updM M a (some (.ins C (rpF "tea" schF small (rp0 rs))))) a = some (.ins C (rpF "tea" schF small (sts rs os small 0))) := updM_same
  clear ha
  generalize updM M a (some (.ins C (rpF "tea" schF small (rp0 rs)))) = M2 at hB2 ha2 ⊢
  have la : (ask rs os small N).length = N := ask_len _ _ _ _
  refine wss_cons (ws_for PassesOwn.never rfl (Qi := fun es C M0 => es = rngD 0 N ∧ M0 = M2 ∧ ∀ M1, C M1) (wi_rng1 B.range (EA.to (ea_cons (ee_cb call_len B.len bi_len (ea_cons (ee_v 9 rfl) ea_nil) (cd_lenL (.inl rfl) ⟨rfl, rfl⟩)) ea_nil) ⟨((ask rs os small N).length : Int), rfl, by omega, by rw [la]; omega, by rw [la, Int.toNat_natCast], rfl, fun _ => trivial⟩)) fun es C' M0 ⟨e1, e2, hC⟩ => ?_)
  subst e1; subst e2
  refine ⟨fun i sg1 M1 => i ≤ N ∧ Bx M1 p c ∧ M1 a = some (.ins C (rpF "tea" schF small (sts rs os small i))) ∧ Fg [none, some (.ptr p), some (fsD schF), none, some (rowsD rs), some (rowsD os), some (.int small), some (teaD rs), some (teaD os), some (.lst (ask rs os small N)), some (rowsD (sts rs os small N).rows), some (.int ((sts rs os small N).copied : Int)), some (.ptr a), none, none, none, none, none, none, none, none, none, none] sg1, ⟨Nat.zero_le _, hB2, ha2, ⟨rfl, rfl, rfl, rfl, rfl, rfl, rfl, rfl, rfl, rfl, rfl, trivial⟩⟩, fun i sg1 M1 _ => hC _, fun i d sg1 M1 he ⟨hi, hB1, ha1, hg⟩ => ?_, fun sg1 M1 ⟨hi, hB1, ha1, hg⟩ => ?_⟩
  · obtain ⟨hj, rfl⟩ := rngD_at he
    have ok := sts_ok small T.g1 T.g2 i
    have lr := rows_len ok
    have lw := sts_wait rs os small i
    have ai := T.n.asked i (by omega)
    obtain ⟨⟨isr, lo, hi2⟩, wt, hw⟩ : ∃ q0 wt, (sts rs os small i).wait = q0 :: wt := by
      cases hw : (sts rs os small i).wait with
      | nil => exact absurd hw (T.n.go i hj)
      | cons q0 wt => exact ⟨q0, wt, rfl⟩
    have hqo := ok.w _ (by rw [hw]; exact List.mem_cons_self)
    rw [hw, List.length_cons] at lw
    have hle : lo ≤ hi2 := hqo.le
    have li := inR_len os lo hi2
    have hq0 : qs rs os small i = ⟨isr, lo, hi2⟩ := by unfold qs; rw [hw]; rfl
    have hqO : qO (sts rs os small i) = qD ⟨isr, lo, hi2⟩ := by unfold qO; rw [hw]
    have at_ : atI (ask rs os small N) (0 + (i : Int)) = some (qD ⟨isr, lo, hi2⟩) := by
      rw [Int.zero_add]
      refine atI_nat ?_
      unfold ask
      rw [List.getElem?_map, List.getElem?_range hj]
      show some (qD (qs rs os small i)) = _
      rw [hq0]
    refine ⟨_, _, wg_name 13 nd, wss_fg (fg_set hg 13 _) ?_⟩
    have ak : ∀ {sg : Sg} {M : Mem} {p1 p2 p3 : Pos}, sg[9]? = some (some (.lst (ask rs os small N))) → sg[13]? = some (some (.int (0 + (i : Int)))) → EE (XL P w K mg base f cdv A outer s H E) (.Subscript (.Name "asked" p1) (.Name "k" p2) p3) sg M (qD ⟨isr, lo, hi2⟩) := fun h1 h2 => ee_ix ix_list (ee_v 9 h1) (ee_v 13 h2) (od_ixL (.inl rfl) at_ ⟨rfl, rfl⟩)
    refine wss_cons (ws_ifE (k := false) (ET.is (et_not (et_val (ee_same L hr (x := .tup [qD ⟨isr, lo, hi2⟩, .int (i : Int)]) (y := .tup [qD ⟨isr, lo, hi2⟩, .int (0 + (i : Int))]) (ee_tup (ea_cons (EE.is (we_meth0 L.t.cls L.quest (hr.mono (by omega)) (EE.to (ee_v 12 rfl) ⟨a, _, rfl, ha1, rfl, a, "tea", schF, small, _, rfl, ha1, rfl, rfl⟩)) hqO) (ea_cons (EE.is (we_meth0 L.t.cls L.asked (hr.mono (by omega)) (EE.to (ee_v 12 rfl) ⟨a, _, rfl, ha1, rfl, a, "tea", schF, small, _, rfl, ha1, rfl, rfl⟩)) (by dsimp only; rw [ai])) ea_nil))) (ee_tup (ea_cons (ak rfl rfl) (ea_cons (ee_v 13 rfl) ea_nil))) rfl rfl))) (not_eqD (by rw [Int.zero_add]))) (fun h => Bool.noConfusion h) fun _ => wss_nil ?_)
    refine wss_cons (ws_asg (EE.to (ak rfl rfl) ⟨_, _, wg_tup rfl (wgs_cons (wg_name 14 nd) (wgs_cons (wg_name 15 nd) (wgs_cons (wg_name 16 nd) wgs_nil))), ?_⟩))
    refine wss_cons (ws_set 17 nd (EE.to (d := ansD os ⟨isr, lo, hi2⟩) (ee_if (k := isr) (ET.is (et_cmp op_eq (ee_v 14 rfl) ee_str (od_eqS ⟨_, rfl, rfl, rfl⟩)) (by cases isr; exact (show decide (("checks" : Str) = "rows") = false by decide +kernel); exact (show decide (("rows" : Str) = "rows") = true by decide +kernel))) (fun h => ?_) fun h => ?_) ?_))
    · subst h
      exact EE.is (ee_ct call_tuple_of B.tuple bi_tuple (ea_cons (ee_lc1if 18 (ds := os.map rwD) (fun d => decide (lo ≤ keyD d) && decide (keyD d < hi2)) (fun d => d) rfl nd (wi_tup (EE.to (ee_v 5 rfl) ⟨_, rfl, rfl, rfl, trivial⟩)) (lt1000 (by rw [List.length_map]; omega)) (fun j d hd => by
        obtain ⟨r, hr0, rfl⟩ := at_map hd
        exact fun s H C cl fp => et_le_lt (ee_v 15 rfl) (ee_ix ix_tup (ee_v 18 rfl) ee_int (od_ixT rfl ⟨rfl, rfl⟩)) (ee_v 16 rfl)) fun j d hd _ s H C cl fp => ee_v 18 rfl) ea_nil) (cd_tupL (.inl rfl) ⟨rfl, rfl⟩)) (congrArg D.tup (inR_D os lo hi2))
    · subst h
      exact we_call L.rng (hr.mono (by omega)) (EA.to (ea_cons (ee_v 8 rfl) (ea_cons (ee_v 15 rfl) (ea_cons (ee_v 16 rfl) ea_nil))) ⟨rfl, .str "tea", fsD schF, os, lo, hi2, rfl, by omega, T.g2.ok, rfl, rfl⟩)
    refine wss_cons (ws_ifE (k := false) (ET.is (et_not (et_val (ee_same L hr (x := ansD os ⟨isr, lo, hi2⟩) (y := ansD os ⟨isr, lo, hi2⟩) (we_call L.answer (hr.mono (by omega)) (EA.to (ea_cons (ee_v 8 rfl) (ea_cons (ak rfl rfl) ea_nil)) ⟨rfl, "tea", schF, os, ⟨isr, lo, hi2⟩, rfl, by omega, T.g2.ok, rfl, rfl⟩)) (ee_v 17 rfl) (ans_wf _ (by omega)) (ans_wf _ (by omega))))) (not_eqD rfl)) (fun h => Bool.noConfusion h) fun _ => wss_nil ?_)
    refine wss_one (ws_expr (we_meth L.t.cls L.hear (hr.mono (by omega)) (EE.to (ee_v 12 rfl) ⟨a, _, rfl, ha1, rfl, EA.to (ea_cons (ee_v 17 rfl) ea_nil) ⟨rfl, a, "tea", schF, small, _, os, ⟨isr, lo, hi2⟩, wt, rfl, ha1, hw, by omega, hle, ok.g, T.g2, by omega, by omega, ?_⟩⟩)))
    exact ⟨hj, hB1.upd na.1 na.2, updM_same, ⟨rfl, rfl, rfl, rfl, rfl, rfl, rfl, rfl, rfl, rfl, rfl, trivial⟩⟩
  · rw [rngD_len] at ha1
    refine wss_fg hg ?_
    have lr := rows_len (sts_ok small T.g1 T.g2 N)
    have ea := T.n.asked N (Nat.le_refl _)
    have hqO : qO (sts rs os small N) = .non := by unfold qO; rw [T.n.stop]
    have w5 : wf 900 5 (.tup [.non, teaD (sts rs os small N).rows, .int (N : Int), .int ((sts rs os small N).copied : Int)]) = true := tup_wf (by exact Nat.le_of_ble_eq_true rfl) fun d hd => by
      simp only [List.mem_cons, List.not_mem_nil, or_false] at hd
      rcases hd with rfl | rfl | rfl | rfl
      · rfl
      · exact wf_tea (by omega)
      · rfl
      · rfl
    refine wss_cons (ws_ifE (k := false) (ET.is (et_not (et_val (ee_same L hr (x := .tup [.non, teaD (sts rs os small N).rows, .int (N : Int), .int ((sts rs os small N).copied : Int)]) (y := .tup [.non, teaD (sts rs os small N).rows, .int (N : Int), .int ((sts rs os small N).copied : Int)])
      (ee_tup (ea_cons (EE.is (we_meth0 L.t.cls L.quest (hr.mono (by omega)) (EE.to (ee_v 12 rfl) ⟨a, _, rfl, ha1, rfl, a, "tea", schF, small, _, rfl, ha1, rfl, rfl⟩)) hqO) (ea_cons (we_meth0 L.t.cls L.tab (hr.mono (by omega)) (EE.to (ee_v 12 rfl) ⟨a, _, rfl, ha1, rfl, a, "tea", schF, small, _, rfl, ha1, rfl, rfl⟩)) (ea_cons (EE.is (we_meth0 L.t.cls L.asked (hr.mono (by omega)) (EE.to (ee_v 12 rfl) ⟨a, _, rfl, ha1, rfl, a, "tea", schF, small, _, rfl, ha1, rfl, rfl⟩)) (by dsimp only; rw [ea])) (ea_cons (we_meth0 L.t.cls L.copied (hr.mono (by omega)) (EE.to (ee_v 12 rfl) ⟨a, _, rfl, ha1, rfl, a, "tea", schF, small, _, rfl, ha1, rfl, rfl⟩)) ea_nil)))))
      (ee_tup (ea_cons ee_non (ea_cons (ee_tup (ea_cons ee_str (ea_cons (ee_v 2 rfl) (ea_cons (ee_v 10 rfl) ea_nil)))) (ea_cons (EE.is (ee_cb call_len B.len bi_len (ea_cons (ee_v 9 rfl) ea_nil) (cd_lenL (.inl rfl) ⟨rfl, rfl⟩)) (by rw [la])) (ea_cons (ee_v 11 rfl) ea_nil))))) w5 w5))) (not_eqD rfl)) (fun h => Bool.noConfusion h) fun _ => wss_nil (wss_fg (by exact ⟨rfl, rfl, rfl, rfl, rfl, rfl, rfl, rfl, rfl, rfl, trivial⟩) (q M1 hB1)))
end
end K23
set_option Elab.async false
set_option linter.all false
set_option maxRecDepth 100000
set_option maxHeartbeats 4000000
namespace K23
open PySem L2 PyProof.Rows DL
/-! ### the law's turn: nothing is copied where checks are alike; the rows that differ -/
theorem same_one {rs os : List Rw} {small : Int} {N : Nat} (h : End rs os small N) (e : rs = os) : N = 1 ∧ (sts rs os small N).copied = 0 := by
  subst e
  have s1 : sts rs rs small 1 = ⟨rs, [], 0, 1⟩ := by
    show step rs small ⟨rs, [⟨false, 0, 1073741824⟩], 0, 0⟩ = _
    unfold step
    dsimp only
    rw [if_neg Bool.false_ne_true, if_pos rfl]
  have : N = 1 := by
    rcases Nat.lt_trichotomy N 1 with c | c | c
    · have : N = 0 := by omega
      rw [this] at h
      cases h.stop
    · exact c
    · exact absurd (by rw [s1]) (h.go 1 c)
  subst this
  rw [s1]
  exact ⟨rfl, rfl⟩
theorem differ_two {rs os : List Rw} {small : Int} {N : Nat} (h : End rs os small N) (e : rngN rs 0 1073741824 ≠ rngN os 0 1073741824) : 2 ≤ N := by
  have s1 : (sts rs os small 1).wait ≠ [] := by
    show (step os small ⟨rs, [⟨false, 0, 1073741824⟩], 0, 0⟩).wait ≠ []
    unfold step
    dsimp only
    rw [if_neg Bool.false_ne_true, if_neg fun z => e z.symm]
    split <;> exact fun z => by cases z
  match N, h with
  | 0, h => cases h.stop
  | 1, h => exact absurd h.stop s1
  | N + 2, h => omega
def pyK (k : Int) : PyData := .tuple [.str "tea", .int k]
def kD' (k : Int) : D := .tup [.str "tea", .int k]
theorem plA_k : ∀ l : List Int, plA (l.map kD') = true
  | [] => rfl
  | k :: l => by
    show (pl (kD' k) && plA (l.map kD')) = true
    rw [plA_k l]; rfl
theorem toPyA_k : ∀ l : List Int, toPyA (l.map kD') = l.map pyK
  | [] => rfl
  | k :: l => congrArg (pyK k :: ·) (toPyA_k l)
theorem lay_k : ∀ l : List Int, PyData.canLayAll0 (l.map pyK) = true
  | [] => rfl
  | k :: l => by
    show (PyData.canLay0 (pyK k) && PyData.canLayAll0 (l.map pyK)) = true
    rw [lay_k l]
    show ((PyData.strOk "tea" && (true && true)) && true) = true
    rw [show PyData.strOk "tea" = true by decide +kernel]
    rfl
theorem depth_k : ∀ l : List Int, PyData.depthAll (l.map pyK) ≤ 1
  | [] => by decide
  | k :: l => by
    show max (PyData.depth (pyK k)) (PyData.depthAll (l.map pyK)) ≤ 1
    exact Nat.max_le.mpr ⟨Nat.le_refl 1, depth_k l⟩
theorem shapedT_k (l : List Int) : SeqAt.shaped (.tuple (l.map pyK)) = true := Bool.and_eq_true_iff.mpr ⟨lay_k l, decide_eq_true (by show PyData.depthAll (l.map pyK) + 1 ≤ 64; have := depth_k l; omega)⟩
theorem pydT_k {M : Mem} (l : List Int) : PyD M (.tup (l.map kD')) (.tuple (l.map pyK)) := .inl ⟨plA_k l, by show _ = PyData.tuple (toPyA (l.map kD')); rw [toPyA_k]⟩
theorem eqvT_k (l : List Int) : PyData.eqv (.tuple (l.map pyK)) (.tuple []) = l.isEmpty := by cases l <;> simp [PyData.eqv, PyData.eqvAll]
section
variable {P : Program} {w : World} {K : PySem.W.Frag} {mg : Str → Option Value} {base : Heap} {C : Addr} {f : Addr} {cdv : Value} {A : Around} {outer : List Env} {s : Shared} {H : Hp} {E : XK} {sg : Sg} {M : Mem} {pos pos' : Pos}
theorem ee_roweq {a b : Expr} {xs ys : List Rw} (hr : Room 9 (XL P w K mg base f cdv A outer s H E).A) (hx : ∀ r ∈ xs, OkW r) (hy : ∀ r ∈ ys, OkW r) (ha : EE (XL P w K mg base f cdv A outer s H E) a sg M (rowsD xs)) (hb : EE (XL P w K mg base f cdv A outer s H E) b sg M (rowsD ys)) (hm : behindInMarks .Eq b = false := by first | exact nomark _ | rfl) : ET (XL P w K mg base f cdv A outer s H E) (.Compare a [.Eq] [b] pos) sg M (decide (xs = ys)) := ET.is (et_cmp (op_eqD hr.units) ha hb (od_eqD (pydT_rw xs) (pydT_rw ys) (shapedT_rw hx) (shapedT_rw hy) ⟨_, rfl, rfl, rfl⟩) hm) (eqvT_rw _ _)
theorem ee_rowne {a b : Expr} {xs ys : List Rw} (hr : Room 9 (XL P w K mg base f cdv A outer s H E).A) (hx : ∀ r ∈ xs, OkW r) (hy : ∀ r ∈ ys, OkW r) (ha : EE (XL P w K mg base f cdv A outer s H E) a sg M (rowsD xs)) (hb : EE (XL P w K mg base f cdv A outer s H E) b sg M (rowsD ys)) (hm : behindInMarks .NotEq b = false := by first | exact nomark _ | rfl) : ET (XL P w K mg base f cdv A outer s H E) (.Compare a [.NotEq] [b] pos) sg M (!decide (xs = ys)) := ET.is (et_cmp (op_neD hr.units) ha hb (od_neD (pydT_rw xs) (pydT_rw ys) (shapedT_rw hx) (shapedT_rw hy) ⟨_, rfl, rfl, rfl⟩) hm) (congrArg not (eqvT_rw _ _))
theorem a_alike {ED : EndsD} {p : Addr} {rs os : List Rw} {small : Int} {N : Nat} (L : CL P w K mg base C) (hr : Room 9 (XL P w K mg base f cdv A outer s H E).A) (T : Two rs os small N)
    (q : WSs (XL P w K mg base f cdv A outer s H E) (turnB.drop 9) (sgT p rs os small N) M ED) :
    WSs (XL P w K mg base f cdv A outer s H E) (turnB.drop 8) (sgT p rs os small N) M ED := by
  have nd := sc_law.nd
  have B := L.B
  have hz1 := T.l1
  have hz2 := T.l2
  have la : (ask rs os small N).length = N := ask_len _ _ _ _
  have ok := sts_ok small T.g1 T.g2 N
  have len : ∀ {sg : Sg} {M : Mem} {p1 p2 p3 : Pos}, sg[9]? = some (some (.lst (ask rs os small N))) → EE (XL P w K mg base f cdv A outer s H E) (.Call (.Name "len" p1) [.Name "asked" p2] [] p3) sg M (.int (N : Int)) := fun h => EE.is (ee_cb call_len B.len bi_len (ea_cons (ee_v 9 h) ea_nil) (cd_lenL (.inl rfl) ⟨rfl, rfl⟩)) (by rw [la])
  refine wss_cons (ws_ifE (k := false) (ww_pt (ew_is (ew_or (p := false) (q := false) (ww_pt (ew_is (ew_and (p := decide (rs = os)) (q := !decide (((N : Int), ((sts rs os small N).copied : Int)) = (1, 0))) (ee_roweq hr T.g1.ok T.g2.ok (ee_v 4 rfl) (ee_v 5 rfl)) fun _ => ww_and1 (ET.is (et_cmp (op_neD hr.units) (ee_tup (ea_cons (len rfl) (ea_cons (ee_v 11 rfl) ea_nil))) (ee_tup (ea_cons ee_int (ea_cons ee_int ea_nil))) (od_neD (x := prD ((N : Int), ((sts rs os small N).copied : Int))) (y := prD (1, 0)) (pydT [(N : Int), ((sts rs os small N).copied : Int)]) (pydT [1, 0]) (shapedT_int _) (shapedT_int _) ⟨_, rfl, rfl, rfl⟩)) (congrArg not (eqv_pr ((N : Int), ((sts rs os small N).copied : Int)) (1, 0))))) ?_)) fun _ => ww_or1 (ww_pt (ew_is (ew_and (p := !decide ((sts rs os small N).rows = os)) (q := !decide (rngN rs 0 1073741824 = rngN os 0 1073741824) && decide ((N : Int) < 2)) (ee_rowne hr ok.g.ok T.g2.ok (ee_v 10 rfl) (ee_v 5 rfl)) fun _ => ew_and (ET.is (et_cmp (op_neD hr.units) (we_call L.rng (hr.mono (by omega)) (EA.to (ea_cons (ee_v 7 rfl) (ea_cons ee_int (ea_cons ee_int ea_nil))) ⟨rfl, .str "tea", fsD schF, rs, 0, 1073741824, rfl, by omega, T.g1.ok, rfl, rfl⟩)) (we_call L.rng (hr.mono (by omega)) (EA.to (ea_cons (ee_v 8 rfl) (ea_cons ee_int (ea_cons ee_int ea_nil))) ⟨rfl, .str "tea", fsD schF, os, 0, 1073741824, rfl, by omega, T.g2.ok, rfl, rfl⟩)) (od_neD (x := prD (rngN rs 0 1073741824)) (y := prD (rngN os 0 1073741824)) (pydT [(rngN rs 0 1073741824).1, (rngN rs 0 1073741824).2]) (pydT [(rngN os 0 1073741824).1, (rngN os 0 1073741824).2]) (shapedT_int _) (shapedT_int _) ⟨_, rfl, rfl, rfl⟩)) (congrArg not (eqv_pr _ _))) fun _ => ww_and1 (et_lt (len rfl) ee_int)) ?_))) rfl)) (fun h => Bool.noConfusion h) fun _ => wss_nil q)
  · by_cases e : rs = os
    · obtain ⟨a, b⟩ := same_one T.n e
      rw [a] at b ⊢
      rw [b, Bool.and_eq_false_iff]
      exact .inr rfl
    · rw [decide_eq_false e, Bool.false_and]
  · by_cases e : rngN rs 0 1073741824 = rngN os 0 1073741824
    · rw [decide_eq_true e, Bool.not_true, Bool.false_and, Bool.and_false]
    · have := differ_two T.n e
      rw [decide_eq_false (show ¬((N : Int) < 2) by omega), Bool.and_false, Bool.and_false]
end
end K23
set_option Elab.async false
set_option linter.all false
set_option maxRecDepth 100000
set_option maxHeartbeats 4000000
namespace K23
open PySem L2 PyProof.Rows DL
/-! ### the law's turn: rows_differing tells whether rows differ -/
theorem last_at {ds : List D} {n : Nat} (h : ds.length = n + 1) {a : D} (ha : ds[n]? = some a) : atI ds (-1) = some a := by
  unfold atI
  have : ixN ds.length (-1) = some n := by
    unfold ixN
    rw [if_neg (by decide), if_pos (by omega), h]
    congr 1
    omega
  rw [this]
  exact ha
section
variable {P : Program} {w : World} {K : PySem.W.Frag} {mg : Str → Option Value} {base : Heap} {C : Addr} {f : Addr} {cdv : Value} {A : Around} {outer : List Env} {s : Shared} {H : Hp} {E : XK} {sg : Sg} {M : Mem} {pos pos' : Pos}
theorem a_diff {ED : EndsD} {p : Addr} {rs os : List Rw} {small : Int} {N : Nat} (L : CL P w K mg base C) (hr : Room 9 (XL P w K mg base f cdv A outer s H E).A) (T : Two rs os small N)
    (q : WSs (XL P w K mg base f cdv A outer s H E) (turnB.drop 10) (sgT p rs os small N) M ED) :
    WSs (XL P w K mg base f cdv A outer s H E) (turnB.drop 9) (sgT p rs os small N) M ED := by
  have nd := sc_law.nd
  have B := L.B
  have hz1 := T.l1
  have hz2 := T.l2
  have la : (ask rs os small N).length = N := ask_len _ _ _ _
  have ok := sts_ok small T.g1 T.g2 N
  have lr := rows_len ok
  have N1 : 1 ≤ N := by
    rcases Nat.lt_or_ge N 1 with c | c
    · have : N = 0 := by omega
      have h := T.n.stop
      rw [this] at h
      cases h
    · exact c
  have lst : atI (ask rs os small N) (-1) = some (qD (qs rs os small (N - 1))) := by
    refine last_at (n := N - 1) (by rw [la]; omega) ?_
    unfold ask
    rw [List.getElem?_map, List.getElem?_range (by omega)]
    rfl
  refine wss_cons (ws_ifE (k := false) (ww_pt (ew_is (ew_or (p := false) (q := false) ?_ fun _ => ww_or1 ?_) rfl)) (fun h => Bool.noConfusion h) fun _ => wss_nil q)
  · refine ww_pt (ww_and (wt_cmp (op_eqD hr.units) (Qa := fun d M1 => ∃ dl : List Int, (dl = [] ↔ rs = os) ∧ d = .tup (dl.map kD') ∧ M1 = M) (we_call L.rdiff (hr.mono (by omega)) (EA.to (ea_cons (ee_tup (ea_cons (ee_v 7 rfl) ea_nil)) (ea_cons (ee_tup (ea_cons (ee_v 8 rfl) ea_nil)) ea_nil)) ⟨rfl, "tea", rs, os, rfl, T.g1, T.g2, by omega, fun dl h => ⟨dl, h, rfl, rfl⟩⟩)) fun x M1 ⟨dl, h, e1, e2⟩ => ?_))
    subst e1; subst e2
    refine EE.to (ee_tup ea_nil) (od_eqD (pydT_k dl) (pydT_k []) (shapedT_k dl) (shapedT_k []) ⟨_, rfl, fun _ => ⟨rfl, rfl⟩, fun hk => ?_⟩)
    have hk : PyData.eqv (.tuple (dl.map pyK)) (.tuple []) = true := hk
    rw [eqvT_k] at hk
    have e := h.mp (List.isEmpty_iff.mp hk)
    exact ww_and1 (ET.is (ee_rowne hr T.g1.ok T.g2.ok (ee_v 4 rfl) (ee_v 5 rfl)) (by rw [decide_eq_true e]; rfl))
  · refine ww_pt (ww_and (wt_cmp (op_neD hr.units) (Qa := fun d M1 => ∃ dl : List Int, (dl = [] ↔ (sts rs os small N).rows = os) ∧ d = .tup (dl.map kD') ∧ M1 = M) (we_call L.rdiff (hr.mono (by omega)) (EA.to (ea_cons (ee_tup (ea_cons (ee_tup (ea_cons ee_str (ea_cons (ee_v 2 rfl) (ea_cons (ee_v 10 rfl) ea_nil)))) ea_nil)) (ea_cons (ee_tup (ea_cons (ee_v 8 rfl) ea_nil)) ea_nil)) ⟨rfl, "tea", (sts rs os small N).rows, os, rfl, ok.g, T.g2, by omega, fun dl h => ⟨dl, h, rfl, rfl⟩⟩)) fun x M1 ⟨dl, h, e1, e2⟩ => ?_))
    subst e1; subst e2
    refine EE.to (ee_tup ea_nil) (od_neD (pydT_k dl) (pydT_k []) (shapedT_k dl) (shapedT_k []) ⟨_, rfl, fun _ => ⟨rfl, rfl⟩, fun hk => ?_⟩)
    have hk : (!PyData.eqv (.tuple (dl.map pyK)) (.tuple [])) = true := hk
    rw [eqvT_k] at hk
    have ne : ¬(sts rs os small N).rows = os := fun e => by
      rw [h.mpr e] at hk
      cases hk
    refine ww_and (ET.to (et_cmp op_eq (ee_ix ix_tup (ee_ix ix_list (ee_v 9 rfl) (ee_neg ee_int) (od_ixL (.inl rfl) lst ⟨rfl, rfl⟩)) ee_int (od_ixT (d := .str (if (qs rs os small (N - 1)).rows then "rows" else "checks")) rfl ⟨rfl, rfl⟩)) ee_str (od_eqS ⟨_, rfl, rfl, rfl⟩)) ⟨fun _ => ⟨rfl, rfl⟩, fun _ => ww_and1 (ET.is (ee_roweq hr ok.g.ok T.g2.ok (ee_v 10 rfl) (ee_v 5 rfl)) (decide_eq_false ne))⟩)
end
end K23
set_option Elab.async false
set_option linter.all false
set_option maxRecDepth 100000
set_option maxHeartbeats 4000000
namespace K23
open PySem L2 PyProof.Rows DL
/-! ### the law's last rows: mended over wide tables, reckoned out -/
def runQ (os : List Rw) (small : Int) : Nat → RS → Option RS
  | 0, s => if s.wait.isEmpty then some s else none
  | m + 1, s => if s.wait.isEmpty then some s else runQ os small m (step os small s)
theorem runQ_end {rs os : List Rw} {small : Int} {N : Nat} (h : End rs os small N) {s' : RS} : ∀ (m t : Nat), t ≤ N → runQ os small m (sts rs os small t) = some s' → s' = sts rs os small N
  | 0, t, ht, hr => by
    unfold runQ at hr
    split at hr
    · rename_i e
      have : t = N := by
        rcases Nat.lt_or_ge t N with c | c
        · exact absurd (List.isEmpty_iff.mp e) (h.go t c)
        · omega
      rw [← this]
      exact (Option.some.inj hr).symm
    · cases hr
  | m + 1, t, ht, hr => by
    unfold runQ at hr
    split at hr
    · rename_i e
      have : t = N := by
        rcases Nat.lt_or_ge t N with c | c
        · exact absurd (List.isEmpty_iff.mp e) (h.go t c)
        · omega
      rw [← this]
      exact (Option.some.inj hr).symm
    · rename_i e
      have : t < N := by
        rcases Nat.lt_or_ge t N with c | c
        · exact c
        · have : t = N := by omega
          rw [this, h.stop] at e
          exact absurd rfl e
      exact runQ_end h m (t + 1) this hr
def wideR : List Rw := (List.range 32).map fun k => ((2 * k : Nat), (2 * k : Nat))
def bentR : List Rw := wideR.take 9 ++ [(18, 5)] ++ wideR.drop 10
def seen (s : RS) : List Rw × Nat := (s.rows, s.copied)
theorem wide_run : (runQ bentR 1 200 (rp0 wideR)).map seen = some (bentR, 1) := by decide +kernel
theorem none_run : (runQ [] 0 10 (rp0 wideR)).map (fun s => (s.rows, s.copied, s.asked)) = some ([], 0, 2) := by decide +kernel
theorem wide_good : Good wideR := ⟨fun r hr => by
  obtain ⟨k, hk, rfl⟩ := List.mem_map.mp hr
  have := List.mem_range.mp hk
  exact ⟨by show (0 : Int) ≤ ((2 * k : Nat) : Int); omega, by show ((2 * k : Nat) : Int) ≤ 1000000000; omega, by show (((2 * k : Nat) : Int)).natAbs ≤ 100; omega⟩, by decide +kernel⟩
theorem bent_good : Good bentR := ⟨fun r hr => by
  unfold bentR at hr
  rcases List.mem_append.mp hr with hr | hr
  · rcases List.mem_append.mp hr with hr | hr
    · exact wide_good.ok r (List.mem_of_mem_take hr)
    · rw [List.mem_singleton.mp hr]
      exact ⟨(show (0 : Int) ≤ 18 by decide), (show (18 : Int) ≤ 1000000000 by decide), (show (5 : Int).natAbs ≤ 100 by decide)⟩
  · exact wide_good.ok r (List.mem_of_mem_drop hr), by decide +kernel⟩
theorem wide_end {N : Nat} (h : End wideR bentR 1 N) : (sts wideR bentR 1 N).rows = bentR ∧ (sts wideR bentR 1 N).copied = 1 := by
  have k := wide_run
  cases e : runQ bentR 1 200 (rp0 wideR) with
  | none => rw [e] at k; cases k
  | some s' =>
    rw [e] at k
    have k : seen s' = (bentR, 1) := Option.some.inj k
    rw [← runQ_end h 200 0 (Nat.zero_le _) e]
    exact ⟨congrArg (·.1) k, congrArg (·.2) k⟩
theorem none_end {N : Nat} (h : End wideR [] 0 N) : (sts wideR [] 0 N).rows = [] ∧ (sts wideR [] 0 N).copied = 0 ∧ (sts wideR [] 0 N).asked = 2 := by
  have k := none_run
  cases e : runQ [] 0 10 (rp0 wideR) with
  | none => rw [e] at k; cases k
  | some s' =>
    rw [e] at k
    have k : (s'.rows, s'.copied, s'.asked) = (([] : List Rw), 0, 2) := Option.some.inj k
    rw [← runQ_end h 10 0 (Nat.zero_le _) e]
    exact ⟨congrArg (·.1) k, congrArg (·.2.1) k, congrArg (·.2.2) k⟩
end K23
set_option Elab.async false
set_option linter.all false
set_option maxRecDepth 100000
set_option maxHeartbeats 4000000
namespace K23
open PySem L2 PyProof.Rows DL
/-! ### the law's turn: states; the law -/
theorem tb_nil {n : Str} {fs : List Fd} (hn : nameOk n = true) (hf : FsOk fs) : TbOk n fs [] := ⟨hn, hf, Nat.zero_le _, fun r hr => (by cases hr), rfl⟩
section
variable {P : Program} {w : World} {K : PySem.W.Frag} {mg : Str → Option Value} {base : Heap} {C : Addr} {f : Addr} {cdv : Value} {A : Around} {outer : List Env} {s : Shared} {H : Hp} {E : XK} {sg : Sg} {M : Mem} {pos pos' : Pos}
theorem a_states {ED : EndsD} {p c : Addr} {rs os : List Rw} {small : Int} {N : Nat} (L : CL P w K mg base C) (hr : Room 9 (XL P w K mg base f cdv A outer s H E).A) (hB : Bx M p c) (T : Two rs os small N)
    (q : ∀ sg1 M1, Fg [none, some (.ptr p), some (fsD schF), none, none, none, none, none, none, none, none, none, none, none, none, none, none, none, none, none, none, none, none] sg1 → Bx M1 p c → ED.nx sg1 M1) :
    WSs (XL P w K mg base f cdv A outer s H E) (turnB.drop 10) (sgT p rs os small N) M ED := by
  have nd := sc_law.nd
  have B := L.B
  have hz1 := T.l1
  have hz2 := T.l2
  refine wss_cons (ws_par 19 20 rfl nd (wa_cons (EE.to (d := stD rs) (ee_tup (ea_cons (ee_tup (ea_cons ee_str (ea_cons (ee_v 2 rfl) (ea_cons (ee_v 4 rfl) ea_nil)))) (ea_cons (ee_tup (ea_cons ee_str (ea_cons (ee_v 2 rfl) (ea_cons (ee_tup ea_nil) ea_nil)))) ea_nil))) (wa_cons (EE.to (d := thD os) (ee_tup (ea_cons (ee_tup (ea_cons ee_str (ea_cons (EE.is (d' := fsD schF1) (ee_sl sl_tupA (ee_v 2 (d := fsD schF) rfl) eo_none (eo_some ee_int) (sd_tup ⟨rfl, rfl⟩)) (congrArg D.tup (cut_toN (schF.map fdD) 1))) (ea_cons (ee_tup ea_nil) ea_nil)))) (ea_cons (ee_tup (ea_cons ee_str (ea_cons (ee_v 2 rfl) (ea_cons (ee_tup ea_nil) ea_nil)))) (ea_cons (ee_tup (ea_cons ee_str (ea_cons (ee_v 2 rfl) (ea_cons (ee_v 5 rfl) ea_nil)))) ea_nil)))) (wa_nil ⟨_, _, rfl, ?_⟩))))))
  have e1 : stD rs = .tup ([⟨"cup", schF, rs⟩, ⟨"tea", schF, []⟩].map tbD) := rfl
  have e2 : thD os = .tup ([⟨"cup", schF1, []⟩, ⟨"pot", schF, []⟩, ⟨"tea", schF, os⟩].map tbD) := rfl
  have cup : nameOk "cup" = true := by decide +kernel
  have pot : nameOk "pot" = true := by decide +kernel
  have tea : nameOk "tea" = true := by decide +kernel
  have o1 : ∀ t ∈ ([⟨"cup", schF, rs⟩, ⟨"tea", schF, []⟩] : List Tb), TbOk t.n t.fs t.rs := fun t ht => by
    simp only [List.mem_cons, List.not_mem_nil, or_false] at ht
    rcases ht with rfl | rfl
    · exact tb_ok cup T.g1 (show rs.length ≤ 100 by omega)
    · exact tb_nil tea sch_ok
  have o2 : ∀ t ∈ ([⟨"cup", schF1, []⟩, ⟨"pot", schF, []⟩, ⟨"tea", schF, os⟩] : List Tb), TbOk t.n t.fs t.rs := fun t ht => by
    simp only [List.mem_cons, List.not_mem_nil, or_false] at ht
    rcases ht with rfl | rfl | rfl
    · exact tb_nil cup sch_ok1
    · exact tb_nil pot sch_ok
    · exact tb_ok tea T.g2 (show os.length ≤ 100 by omega)
  refine wss_one (ws_if (ww_pt (ww_or (ET.to (ET.is (et_cmp op_notBl (we_call L.state (hr.mono (by omega)) (EA.to (ea_cons (ee_v 19 rfl) ea_nil) ⟨rfl, _, congrArg (fun x => [x]) e1, (show 2 ≤ 4 by decide), o1, (show ascS ["cup", "tea"] = true by decide +kernel), rfl, rfl⟩)) ee_bl (od_notB ⟨_, rfl, rfl, rfl⟩)) rfl) ⟨fun h => Bool.noConfusion h, fun _ => ?_⟩))))
  refine ww_or (ET.to (ET.is (et_cmp op_notBl (we_call L.state (hr.mono (by omega)) (EA.to (ea_cons (ee_v 20 rfl) ea_nil) ⟨rfl, _, congrArg (fun x => [x]) e2, (show 3 ≤ 4 by decide), o2, (show ascS ["cup", "pot", "tea"] = true by decide +kernel), rfl, rfl⟩)) ee_bl (od_notB ⟨_, rfl, rfl, rfl⟩)) rfl) ⟨fun h => Bool.noConfusion h, fun _ => ?_⟩)
  refine ww_or1 (wt_not (wt_val (we_call L.same (hr.mono (by omega)) (wa_cons (we_tup (wa_cons (we_call L.sdiff (hr.mono (by omega)) (EA.to (ea_cons (ee_v 19 rfl) (ea_cons (ee_v 20 rfl) ea_nil)) ⟨rfl, rs, os, .inl ⟨rfl, fun M2 u2 => ?_⟩⟩))))))))
  refine wa_cons (we_call L.sdiff (hr.mono (by omega)) (EA.to (ea_cons (ee_v 19 rfl) (ea_cons (ee_v 19 rfl) ea_nil)) ⟨rfl, rs, os, .inr ⟨rfl, fun M3 u3 => wa_nil ⟨by exact small30, ?_⟩⟩⟩))
  refine wa_cons (EE.to (ee_tup (ea_cons (ee_tup (ea_cons ee_str (ea_cons ee_str ea_nil))) (ea_cons (ee_tup ea_nil) ea_nil))) (wa_nil ⟨rfl, _, _, rfl, rfl, rfl, _, rfl, ?_⟩))
  rw [show (!eqD (D.tup [.tup [.str "cup", .str "pot"], .tup []]) (D.tup [.tup [.str "cup", .str "pot"], .tup []])) = false from not_eqD rfl]
  exact ⟨fun h => Bool.noConfusion h, fun _ => wss_nil (q _ M3 ⟨rfl, rfl, trivial⟩ ((hB.up u2).up u3))⟩
end
end K23
set_option Elab.async false
set_option linter.all false
set_option maxRecDepth 100000
set_option maxHeartbeats 4000000
namespace K23
open PySem L2 PyProof.Rows DL
/-! ### tables compared -/
def pyF : PyData := toPy (fsD schF)
def pyT (rs : List Rw) : PyData := .tuple [.str "tea", pyF, .tuple (rs.map pyR)]
theorem pyd_tea {M : Mem} (rs : List Rw) : PyD M (teaD rs) (pyT rs) := .inl ⟨by
  show (true && (pl (fsD schF) && (plA (rs.map rwD) && true))) = true
  rw [plA_rw]
  rfl, by
  show _ = PyData.tuple [.str "tea", pyF, .tuple (toPyA (rs.map rwD))]
  rw [toPyA_rw]
  rfl⟩
theorem sh_tea {rs : List Rw} (h : ∀ r ∈ rs, OkW r) : SeqAt.shaped (pyT rs) = true := by
  refine Bool.and_eq_true_iff.mpr ⟨?_, decide_eq_true ?_⟩
  · show (PyData.strOk "tea" && (PyData.canLay0 pyF && (PyData.canLayAll0 (rs.map pyR) && true))) = true
    rw [lay_rw h, show PyData.strOk "tea" = true by decide +kernel, show PyData.canLay0 pyF = true by decide +kernel]
    rfl
  · show max (PyData.depth (.str "tea")) (max (PyData.depth pyF) (max (PyData.depthAll (rs.map pyR) + 1) 0)) + 1 ≤ 64
    have := depth_rw rs
    have e1 : PyData.depth (.str "tea") = 0 := rfl
    have e2 : PyData.depth pyF = 2 := by decide +kernel
    rw [e1, e2]
    omega
theorem eqv_tea (a b : List Rw) : PyData.eqv (pyT a) (pyT b) = decide (a = b) := by
  have e : PyData.eqv pyF pyF = true := by decide +kernel
  unfold pyT
  rw [PyData.eqv, PyData.eqvAll, PyData.eqvAll, PyData.eqvAll, PyData.eqvAll, e, eqvT_rw, Bool.true_and, Bool.and_true]
  rw [show PyData.eqv (.str "tea") (.str "tea") = true by decide +kernel, Bool.true_and]
end K23
set_option Elab.async false
set_option linter.all false
set_option maxRecDepth 100000
set_option maxHeartbeats 4000000
namespace K23
open PySem L2 PyProof.Rows DL
/-! ### the law -/
section
variable {P : Program} {w : World} {K : PySem.W.Frag} {mg : Str → Option Value} {base : Heap} {C : Addr}
theorem law_body (L : CL P w K mg base C) : ∀ (f : Addr) (cdv : Value) (A : Around) (outer : List Env) (s : Shared) (H : Hp) (E : XK) (ds : List D) (M : Mem) (Q : D → Mem → Prop), Room 9 (A.deeper (envOfC "law" (defScope s_law) s.heap.objs.size f cdv)) → ds.length = 1 → S_script ds M Q →
    WSs (cxOf CX0 P w K mg base NL "law" (defScope s_law) f cdv A outer s H E).nox (defBody s_law) (startD NL ds) M { nx := fun _ M' => Q .non M', rt := Q } := by
  intro f cdv A outer s H E ds M Q hr hl hs
  obtain ⟨ns, rfl, hn, q⟩ := hs
  have nd := sc_law.nd
  have B := L.B
  refine wss_cons (ws_set 1 nd (we_call L.box (hr.mono (by omega)) (EA.to (ea_cons (ee_v 0 rfl) ea_nil) ⟨rfl, ns, rfl, hn, fun p c M1 hp0 hc0 hB _ => ?_⟩)))
  have fd : ∀ {sg : Sg} {M : Mem} {p1 p2 p3 : Pos} {j1 j2 k : Nat} {a b : Str}, EE (XL P w K mg base f cdv A outer s H E) (.Tuple [.Constant (.str a) j1 p1, .Constant (.str b) j2 p2] k p3) sg M (fdD (a, b)) := fun {_ _ _ _ _ _ _ _ _ _} => ee_tup (ea_cons ee_str (ea_cons ee_str ea_nil))
  refine wss_cons (ws_set 2 nd (EE.to (d := fsD schF) (ee_tup (ea_cons fd (ea_cons fd ea_nil))) ?_))
  refine wss_cons (ws_for PassesOwn.never rfl (Qi := fun es C M0 => es = rngD 0 3 ∧ M0 = M1 ∧ ∀ M1, C M1) (wi_rng1 B.range (EA.to (ea_cons ee_int ea_nil) ⟨3, rfl, by decide, by decide, rfl, rfl, fun _ => trivial⟩)) fun es C M0 ⟨e1, e2, hC⟩ => ?_)
  subst e1; subst e2
  refine ⟨fun i sg1 M1 => Fg [none, some (.ptr p), some (fsD schF), none, none, none, none, none, none, none, none, none, none, none, none, none, none, none, none, none, none, none, none] sg1 ∧ Bx M1 p c, ⟨⟨rfl, rfl, trivial⟩, hB⟩, fun i sg1 M1 _ => hC _, fun i d sg1 M1 he ⟨hg, hB1⟩ => ?_, fun sg1 M1 ⟨hg, hB1⟩ => wss_fg hg ?_⟩
  · obtain ⟨hi, rfl⟩ := rngD_at he
    refine ⟨_, _, wg_name 3 nd, wss_fg (fg_set hg 3 _) ?_⟩
    refine a_tables L hr hB1 fun rs os small N M2 T hB2 => ?_
    refine a_mended L hr hB2 T fun M3 hB3 => ?_
    refine a_repair L hr hB3 T fun M4 hB4 => ?_
    refine a_alike L hr T ?_
    refine a_diff L hr T ?_
    exact a_states L hr hB4 T fun sg2 M5 hg2 hB5 => ⟨hg2, hB5⟩
  · refine wss_cons (ws_set 21 nd (EE.to (d := rowsD wideR) (EE.is (ee_ct call_tuple_of B.tuple bi_tuple (ea_cons (ee_lc1 13 (ds := rngC 0 2 32) (fun d => .tup [d, d]) rfl nd (wi_rng3 B.range (EA.to (ea_cons ee_int (ea_cons ee_int (ea_cons ee_int ea_nil))) ⟨0, 64, 2, 32, rfl, ?_, rfl, rfl, trivial⟩)) (lt1000 (by decide +kernel)) fun j d hd s H C cl fp => ee_tup (ea_cons (ee_v 13 rfl) (ea_cons (ee_v 13 rfl) ea_nil))) ea_nil) (cd_tupL (.inl rfl) ⟨rfl, rfl⟩)) ?_) ?_))
    · exact ⟨by decide, by decide, by decide +kernel, by decide +kernel⟩
    · rfl
    have lw : (wideR.map rwD).length = 32 := by rw [List.length_map]; rfl
    have bv : D.tup (DL.cutD (wideR.map rwD) none (some 9) ++ [rwD (18, 5)] ++ DL.cutD (wideR.map rwD) (some 10) none) = rowsD bentR := by
      have a := cut_toN (wideR.map rwD) 9
      have b := cut_fromN (wideR.map rwD) 10
      rw [show ((9 : Nat) : Int) = 9 from rfl] at a
      rw [show ((10 : Nat) : Int) = 10 from rfl] at b
      rw [a, b]
      rfl
    have bent : ∀ {M : Mem} {sg : Sg} {p1 p2 p3 p4 p5 p6 p7 p8 p9 q1 q2 q3 q4 q5 : Pos} {j1 j2 j3 j4 k1 k2 : Nat}, sg[21]? = some (some (rowsD wideR)) → EE (XL P w K mg base f cdv A outer s H E) (.BinOp (.BinOp (.Subscript (.Name "wide" p1) (.Slice none (some (.Constant (.int 9) j1 p2)) none p3) p4) .Add (.Tuple [.Tuple [.Constant (.int 18) j2 p5, .Constant (.int 5) j3 p6] k1 p7] k2 p8) p9) .Add (.Subscript (.Name "wide" q1) (.Slice (some (.Constant (.int 10) j4 q3)) none none q4) q5) q2) sg M (rowsD bentR) := fun h => EE.is (ee_op op_catA (ee_op op_catA (ee_sl sl_tupA (ee_v 21 h) eo_none (eo_some ee_int) (sd_tup ⟨rfl, rfl⟩)) (ee_tup (ea_cons (ee_tup (ea_cons ee_int (ea_cons ee_int ea_nil))) ea_nil)) (od_catT (by have := cut_len (wideR.map rwD) none (some 9); rw [lw] at this; exact Nat.le_trans (show _ + 1 ≤ 100 by omega) (by decide)) ⟨rfl, rfl⟩)) (ee_sl sl_tupA (ee_v 21 h) (eo_some ee_int) eo_none (sd_tup ⟨rfl, rfl⟩)) (od_catT (by have a := cut_len (wideR.map rwD) none (some 9); have b := cut_len (wideR.map rwD) (some 10) none; rw [lw] at a b; rw [List.length_append]; exact Nat.le_trans (show _ + 1 + _ ≤ 100 by omega) (by decide)) ⟨rfl, rfl⟩)) bv
    refine wss_cons (ws_set 22 nd (we_call L.mend hr (EA.to (ea_cons (ee_tup (ea_cons ee_str (ea_cons (ee_v 2 rfl) (ea_cons (ee_v 21 rfl) ea_nil)))) (ea_cons (ee_tup (ea_cons ee_str (ea_cons (ee_v 2 rfl) (ea_cons (bent rfl) ea_nil)))) (ea_cons ee_int ea_nil))) ⟨rfl, "tea", schF, "tea", schF, wideR, bentR, 1, rfl, wide_good, bent_good, by decide, by decide, fun N M2 hN _ => ?_⟩)))
    have e1 : mendD "tea" schF (sts wideR bentR 1 N) = .tup [teaD bentR, .int ((sts wideR bentR 1 N).asked : Int), .int 1] := by
      unfold mendD
      rw [(wide_end hN).1, (wide_end hN).2]
      rfl
    rw [e1]
    generalize ((sts wideR bentR 1 N).asked : Int) = n0
    refine wss_one (ws_ret (we_and (EE.to (EE.is (d' := .bl true) (ee_cmp (op_eqD hr.units) (ee_ix ix_tup (ee_v 22 rfl) ee_int (od_ixT (d := teaD bentR) rfl ⟨rfl, rfl⟩)) (ee_tup (ea_cons ee_str (ea_cons (ee_v 2 rfl) (ea_cons (bent rfl) ea_nil)))) (od_eqD (pyd_tea bentR) (pyd_tea bentR) (sh_tea bent_good.ok) (sh_tea bent_good.ok) ⟨rfl, rfl⟩)) (by rw [eqv_tea, decide_eq_true rfl])) ⟨true, rfl, fun h => Bool.noConfusion h, fun _ => ?_⟩)))
    refine we_and (EE.to (EE.is (d' := .bl true) (ee_eqI (ee_ix ix_tup (ee_v 22 rfl) ee_int (od_ixT (d := .int 1) rfl ⟨rfl, rfl⟩)) ee_int) rfl) ⟨true, rfl, fun h => Bool.noConfusion h, fun _ => ?_⟩)
    refine we_one (we_cmp (op_eqD hr.units) (Qa := fun x M3 => x = .tup [teaD [], .int 2, .int 0]) (we_call L.mend hr (EA.to (ea_cons (ee_tup (ea_cons ee_str (ea_cons (ee_v 2 rfl) (ea_cons (ee_v 21 rfl) ea_nil)))) (ea_cons (ee_tup (ea_cons ee_str (ea_cons (ee_v 2 rfl) (ea_cons (ee_tup ea_nil) ea_nil)))) (ea_cons ee_int ea_nil))) ⟨rfl, "tea", schF, "tea", schF, wideR, [], 0, rfl, wide_good, ⟨fun r hr => (by cases hr), List.Pairwise.nil⟩, by decide, by decide, fun N M2 hN _ => ?_⟩)) fun x M3 e => ?_)
    · unfold mendD
      rw [(none_end hN).1, (none_end hN).2.1, (none_end hN).2.2]
      rfl
    · subst e
      refine EE.to (ee_tup (ea_cons (ee_tup (ea_cons ee_str (ea_cons (ee_v 2 rfl) (ea_cons (ee_tup ea_nil) ea_nil)))) (ea_cons ee_int (ea_cons ee_int ea_nil)))) (od_eqD (x := .tup [teaD [], .int 2, .int 0]) (y := .tup [teaD [], .int 2, .int 0]) (d := .tuple [pyT [], .int 2, .int 0]) (e := .tuple [pyT [], .int 2, .int 0]) (.inl ⟨rfl, rfl⟩) (.inl ⟨rfl, rfl⟩) (by decide +kernel) (by decide +kernel) ?_)
      rw [show PyData.eqv (.tuple [pyT [], .int 2, .int 0]) (.tuple [pyT [], .int 2, .int 0]) = true by decide +kernel]
      exact q M3
end
end K23
set_option Elab.async false
set_option linter.all false
set_option maxRecDepth 100000
set_option maxHeartbeats 4000000
namespace K23
open PySem L2 PyProof.Rows DL
/-! ### schemas_differing, at the law's own states -/
theorem perm3 {ys : List Str} (h : ys.Perm ["cup", "tea", "pot"]) (hs : sortedS ys = true) : ys = (["cup", "pot", "tea"] : List Str) := by
  have hl := h.length_eq
  match ys, hl with
  | [a, b, c], _ =>
    have nd : [a, b, c].Nodup := h.nodup_iff.mpr (by decide)
    have ma := h.mem_iff.mp (show a ∈ [a, b, c] by simp)
    have mb := h.mem_iff.mp (show b ∈ [a, b, c] by simp)
    have mc := h.mem_iff.mp (show c ∈ [a, b, c] by simp)
    simp only [List.mem_cons, List.not_mem_nil, or_false] at ma mb mc
    rcases ma with rfl | rfl | rfl <;> rcases mb with rfl | rfl | rfl <;> rcases mc with rfl | rfl | rfl <;> first | rfl | exact absurd nd (by decide) | exact absurd hs (by decide)
theorem perm2 {ys : List Str} (h : ys.Perm ["cup", "tea"]) (hs : sortedS ys = true) : ys = (["cup", "tea"] : List Str) := by
  have hl := h.length_eq
  match ys, hl with
  | [a, b], _ =>
    have nd : [a, b].Nodup := h.nodup_iff.mpr (by decide)
    have ma := h.mem_iff.mp (show a ∈ [a, b] by simp)
    have mb := h.mem_iff.mp (show b ∈ [a, b] by simp)
    simp only [List.mem_cons, List.not_mem_nil, or_false] at ma mb
    rcases ma with rfl | rfl <;> rcases mb with rfl | rfl <;> first | rfl | exact absurd nd (by decide) | exact absurd hs (by decide)
def kvT (ts : List Tb) : KD := ts.map fun t => (Sum.inr t.n, fsD t.fs)
def gN (kv : KD) (y : Str) : D := (gk kv (.inr y)).getD .non
def strOf : D → Str
  | .str x => x
  | _ => Str.empty
def neB (kv kw : KD) (y : Str) : Bool := !PyData.eqv (toPy (gN kv y)) (toPy (gN kw y))
def OkE (d : D) : Prop := DL.pl d = true ∧ SeqAt.shaped (toPy d) = true
structure Cmp (kv kw : KD) (xs ys zs : List Str) : Prop where
  keys : (kv.map fun p => kD p.1) ++ (kw.map fun p => kD p.1) = xs.map D.str
  few : xs.length < 64
  kl : kv.length < 30
  wl : kw.length < 30
  yl : ys.length < 30
  srt : ∀ us : List Str, us.Perm (uniq xs) → sortedS us = true → us = ys
  okv : ∀ y, OkE (gN kv y) ∧ OkE (gN kw y)
  fl : ys.filter (neB kv kw) = zs
theorem gN_of {p : D → Prop} (h0 : p .non) : ∀ {kv : KD}, (∀ q ∈ kv, p q.2) → ∀ y, p (gN kv y)
  | [], _, y => h0
  | q :: kv, h, y => by
    unfold gN gk
    by_cases e : q.1 = Sum.inr y
    · rw [List.find?_cons_of_pos (by exact decide_eq_true e)]
      exact h q List.mem_cons_self
    · rw [List.find?_cons_of_neg (by rw [decide_eq_false e]; exact Bool.false_ne_true)]
      exact gN_of (kv := kv) h0 (fun z hz => h z (List.mem_cons_of_mem _ hz)) y
theorem ok_non : OkE .non := ⟨rfl, by decide +kernel⟩
theorem ok_F : OkE (fsD schF) := ⟨rfl, by decide +kernel⟩
theorem ok_F1 : OkE (fsD schF1) := ⟨rfl, by decide +kernel⟩
section
variable {P : Program} {w : World} {K : PySem.W.Frag} {mg : Str → Option Value} {base : Heap}
theorem d_sdiff (F : Df K mg "schemas_differing" s_schemas_differing ["one", "other"]) (B : Blt mg) (B2 : Bl2 mg) : Cal P w K mg base 1 "schemas_differing" 2 S_sdiff := by
  refine dfn' F sc_schemas_differing rfl fun f cdv A outer s H E ds M Q hr hl hs => ?_
  have nd := sc_schemas_differing.nd
  have hu : (cxOf CX0 P w K mg base ["one", "other", "mine", "yours", "table", "names", "name"] "schemas_differing" (defScope s_schemas_differing) f cdv A outer s H E).nox.A.units + 1 < cLine := Nat.lt_of_le_of_lt (Nat.add_le_add_left (show 1 ≤ 65 by decide) _) (units65 hr)
  have body : ∀ (ts us : List Tb) (xs ys zs : List Str), ds = [.tup (ts.map tbD), .tup (us.map tbD)] → ts.length < 30 → us.length < 30 → mk [] (kvT ts) = kvT ts → mk [] (kvT us) = kvT us → Cmp (kvT ts) (kvT us) xs ys zs → (∀ M', Up M M' → Q (.tup (zs.map .str)) M') → WSs (cxOf CX0 P w K mg base ["one", "other", "mine", "yours", "table", "names", "name"] "schemas_differing" (defScope s_schemas_differing) f cdv A outer s H E).nox (defBody s_schemas_differing) (startD ["one", "other", "mine", "yours", "table", "names", "name"] ds) M { nx := fun _ M1 => Q .non M1, rt := Q } := by
    intro ts us xs ys zs e0 ht hu0 ek ew C q
    subst e0
    refine wss_cons (ws_asg (we_tup (wa_cons (we_ct (call_dictP rfl) B2.dict bi_dict (EA.to (ea_cons (ee_lc1 4 (ds := ts.map tbD) (fun d => .tup ((itemsD d).take 2)) rfl nd (wi_tup (EE.to (ee_v 0 rfl) ⟨_, rfl, rfl, rfl, trivial⟩)) (lt1000 (by rw [List.length_map]; omega)) fun j d hd => ?_) ea_nil) (cd_dictP (ps := kvT ts) (.inl ?_) fun p hp => ?_))))))
    · obtain ⟨t, _, rfl⟩ := at_map hd
      exact fun s H C cl fp => ee_sl sl_tupA (ee_v 4 rfl) eo_none (eo_some ee_int) (sd_tup ⟨rfl, rfl⟩)
    · unfold kvT
      rw [List.map_map, List.map_map]
      rfl
    rw [ek]
    refine wa_cons (we_ct (call_dictP rfl) B2.dict bi_dict (EA.to (ea_cons (ee_lc1 4 (ds := us.map tbD) (fun d => .tup ((itemsD d).take 2)) rfl nd (wi_tup (EE.to (ee_v 1 rfl) ⟨_, rfl, rfl, rfl, trivial⟩)) (lt1000 (by rw [List.length_map]; omega)) fun j d hd => ?_) ea_nil) (cd_dictP (ps := kvT us) (.inl ?_) fun p2 hp2 => ?_)))
    · obtain ⟨t, _, rfl⟩ := at_map hd
      exact fun s H C cl fp => ee_sl sl_tupA (ee_v 4 rfl) eo_none (eo_some ee_int) (sd_tup ⟨rfl, rfl⟩)
    · unfold kvT
      rw [List.map_map, List.map_map]
      rfl
    rw [ew]
    refine wa_nil ⟨Nat.le_of_lt (lt1000 (show 2 < 1000 by decide)), _, _, wg_tup rfl (wgs_cons (wg_name 2 nd) (wgs_cons (wg_name 3 nd) wgs_nil)), ?_⟩
    have hne : p ≠ p2 := fun z => by
      rw [← z, updM_same] at hp2
      cases hp2
    have h1 : (updM (updM M p (some (.dic (kvT ts)))) p2 (some (.dic (kvT us)))) p = some (.dic (kvT ts)) := by rw [updM_ne hne, updM_same]
    have h2 : (updM (updM M p (some (.dic (kvT ts)))) p2 (some (.dic (kvT us)))) p2 = some (.dic (kvT us)) := updM_same
    have up : Up M (updM (updM M p (some (.dic (kvT ts)))) p2 (some (.dic (kvT us)))) := fun a o h => Up.new hp2 a o (Up.new hp a o h)
    generalize updM (updM M p (some (.dic (kvT ts)))) p2 (some (.dic (kvT us))) = M2 at h1 h2 up ⊢
    refine wss_cons (ws_set 5 nd (we_sortSetS B.sorted B2.set rfl (EE.to (EE.is (ee_op op_cat (ee_ct (call_list_dK rfl) B.list bi_list (ea_cons (ee_v 2 rfl) ea_nil) (cd_listD h1 ⟨rfl, rfl⟩)) (ee_ct (call_list_dK rfl) B.list bi_list (ea_cons (ee_v 3 rfl) ea_nil) (cd_listD h2 ⟨rfl, rfl⟩)) (od_cat (.inl rfl) (.inl rfl) (by rw [List.length_map, List.length_map]; have := C.kl; have := C.wl; exact Nat.le_of_lt (lt1000 (by omega))) ⟨rfl, rfl⟩)) (congrArg D.lst C.keys)) ⟨xs, .inl rfl, C.few, fun ys' y1 y2 => ?_⟩)))
    rw [C.srt ys' y1 y2]
    refine wss_one (ws_ret (EE.to (ee_ct call_tuple_of B.tuple bi_tuple (ea_cons (ee_lc1if 6 (ds := ys.map .str) (fun d => neB (kvT ts) (kvT us) (strOf d)) (fun d => d) rfl nd (wi_lst (EE.to (ee_v 5 rfl) ⟨_, .inl rfl, rfl, rfl, .inl rfl⟩)) (lt1000 (by rw [List.length_map]; have := C.yl; omega)) (fun j d hd => ?_) fun j d hd _ s H C cl fp => ee_v 6 rfl) ea_nil) (cd_tupL (.inl rfl) ⟨rfl, rfl⟩)) ?_))
    · obtain ⟨y, _, rfl⟩ := at_map hd
      obtain ⟨⟨o1, o2⟩, o3, o4⟩ := C.okv y
      exact fun s H C cl fp => et_cmp (op_neD hr.units) (x := gN (kvT ts) y) (y := gN (kvT us) y) (we_getm hu (EE.to (ee_v 2 rfl) ⟨p, _, rfl, h1, EE.to (ee_v 6 rfl) ⟨_, .inr y, rfl, h1, rfl, rfl⟩⟩) ⟨rfl, rfl, rfl, rfl⟩) (we_getm hu (EE.to (ee_v 3 rfl) ⟨p2, _, rfl, h2, EE.to (ee_v 6 rfl) ⟨_, .inr y, rfl, h2, rfl, rfl⟩⟩) ⟨rfl, rfl, rfl, rfl⟩) (od_neD (.inl ⟨o1, rfl⟩) (.inl ⟨o3, rfl⟩) o2 o4 ⟨_, rfl, rfl, rfl⟩)
    · rw [List.filter_map, List.map_map]
      have e : (List.filter ((fun d => neB (kvT ts) (kvT us) (strOf d)) ∘ D.str) ys).map ((fun d => d) ∘ D.str) = zs.map D.str := by
        rw [← C.fl]
        rfl
      rw [e]
      exact q M2 up
  obtain ⟨rs, os, ⟨e, q⟩ | ⟨e, q⟩⟩ := hs
  · refine body [⟨"cup", schF, rs⟩, ⟨"tea", schF, []⟩] [⟨"cup", schF1, []⟩, ⟨"pot", schF, []⟩, ⟨"tea", schF, os⟩] ["cup", "tea", "cup", "pot", "tea"] ["cup", "pot", "tea"] ["cup", "pot"] e (show 2 < 30 by decide) (show 3 < 30 by decide) rfl rfl ⟨rfl, show 5 < 64 by decide, show 2 < 30 by decide, show 3 < 30 by decide, show 3 < 30 by decide, fun us h1 h2 => perm3 h1 h2, fun y => ⟨gN_of ok_non (fun q hq => ?_) y, gN_of ok_non (fun q hq => ?_) y⟩, ?_⟩ q
    · rcases List.mem_cons.mp hq with rfl | hq
      · exact ok_F
      · rw [List.mem_singleton.mp hq]; exact ok_F
    · rcases List.mem_cons.mp hq with rfl | hq
      · exact ok_F1
      · rcases List.mem_cons.mp hq with rfl | hq
        · exact ok_F
        · rw [List.mem_singleton.mp hq]; exact ok_F
    · show List.filter (neB [(Sum.inr "cup", fsD schF), (Sum.inr "tea", fsD schF)] [(Sum.inr "cup", fsD schF1), (Sum.inr "pot", fsD schF), (Sum.inr "tea", fsD schF)]) (["cup", "pot", "tea"] : List Str) = (["cup", "pot"] : List Str)
      decide +kernel
  · refine body [⟨"cup", schF, rs⟩, ⟨"tea", schF, []⟩] [⟨"cup", schF, rs⟩, ⟨"tea", schF, []⟩] ["cup", "tea", "cup", "tea"] ["cup", "tea"] [] e (show 2 < 30 by decide) (show 2 < 30 by decide) rfl rfl ⟨rfl, show 4 < 64 by decide, show 2 < 30 by decide, show 2 < 30 by decide, show 2 < 30 by decide, fun us h1 h2 => perm2 h1 h2, fun y => ⟨gN_of ok_non (fun q hq => ?_) y, gN_of ok_non (fun q hq => ?_) y⟩, ?_⟩ q
    · rcases List.mem_cons.mp hq with rfl | hq
      · exact ok_F
      · rw [List.mem_singleton.mp hq]; exact ok_F
    · rcases List.mem_cons.mp hq with rfl | hq
      · exact ok_F
      · rw [List.mem_singleton.mp hq]; exact ok_F
    · show List.filter (neB [(Sum.inr "cup", fsD schF), (Sum.inr "tea", fsD schF)] [(Sum.inr "cup", fsD schF), (Sum.inr "tea", fsD schF)]) (["cup", "tea"] : List Str) = []
      decide +kernel
end
end K23
set_option Elab.async false
set_option linter.all false
set_option maxRecDepth 100000
set_option maxHeartbeats 4000000
namespace K23
open PySem L2 PyProof.Rows DL
section
variable {w : World} {K : PySem.W.Frag} {mg : Str → Option Value}
set_option maxHeartbeats 0 in
theorem all_mk {P : Program} {h : Heap} {fa : Addr} (X : K.In h) (G : h.Ns mainGlobals mg) (hfa : mg "law" = some (.ref fa)) {f0 : Addr} {od0 an0 : Option Addr} {sl0 : Array (Option Value)} {oc0 kV0 dc0 pm0 cd0 ct0 : Value} {f1 : Addr} {od1 an1 : Option Addr} {sl1 : Array (Option Value)} {oc1 kV1 dc1 pm1 cd1 ct1 : Value} {f2 : Addr} {od2 an2 : Option Addr} {sl2 : Array (Option Value)} {oc2 kV2 dc2 pm2 cd2 ct2 : Value} {f3 : Addr} {od3 an3 : Option Addr} {sl3 : Array (Option Value)} {oc3 kV3 dc3 pm3 cd3 ct3 : Value} {f4 : Addr} {od4 an4 : Option Addr} {sl4 : Array (Option Value)} {oc4 kV4 dc4 pm4 cd4 ct4 : Value} {f5 : Addr} {od5 an5 : Option Addr} {sl5 : Array (Option Value)} {oc5 kV5 dc5 pm5 cd5 ct5 : Value} {f6 : Addr} {od6 an6 : Option Addr} {sl6 : Array (Option Value)} {oc6 kV6 dc6 pm6 cd6 ct6 : Value} {f7 : Addr} {od7 an7 : Option Addr} {sl7 : Array (Option Value)} {oc7 kV7 dc7 pm7 cd7 ct7 : Value} {f8 : Addr} {od8 an8 : Option Addr} {sl8 : Array (Option Value)} {oc8 kV8 dc8 pm8 cd8 ct8 : Value} {f9 : Addr} {od9 an9 : Option Addr} {sl9 : Array (Option Value)} {oc9 kV9 dc9 pm9 cd9 ct9 : Value} {f10 : Addr} {od10 an10 : Option Addr} {sl10 : Array (Option Value)} {oc10 kV10 dc10 pm10 cd10 ct10 : Value} {f11 : Addr} {od11 an11 : Option Addr} {sl11 : Array (Option Value)} {oc11 kV11 dc11 pm11 cd11 ct11 : Value} {f12 : Addr} {od12 an12 : Option Addr} {sl12 : Array (Option Value)} {oc12 kV12 dc12 pm12 cd12 ct12 : Value} {f13 : Addr} {od13 an13 : Option Addr} {sl13 : Array (Option Value)} {oc13 kV13 dc13 pm13 cd13 ct13 : Value} {f14 : Addr} {od14 an14 : Option Addr} {sl14 : Array (Option Value)} {oc14 kV14 dc14 pm14 cd14 ct14 : Value} {f15 : Addr} {od15 an15 : Option Addr} {sl15 : Array (Option Value)} {oc15 kV15 dc15 pm15 cd15 ct15 : Value} {f16 : Addr} {od16 an16 : Option Addr} {sl16 : Array (Option Value)} {oc16 kV16 dc16 pm16 cd16 ct16 : Value} {f17 : Addr} {od17 an17 : Option Addr} {sl17 : Array (Option Value)} {oc17 kV17 dc17 pm17 cd17 ct17 : Value} {f18 : Addr} {od18 an18 : Option Addr} {sl18 : Array (Option Value)} {oc18 kV18 dc18 pm18 cd18 ct18 : Value} {f19 : Addr} {od19 an19 : Option Addr} {sl19 : Array (Option Value)} {oc19 kV19 dc19 pm19 cd19 ct19 : Value} {f20 : Addr} {od20 an20 : Option Addr} {sl20 : Array (Option Value)} {oc20 kV20 dc20 pm20 cd20 ct20 : Value} {f21 : Addr} {od21 an21 : Option Addr} {sl21 : Array (Option Value)} {oc21 kV21 dc21 pm21 cd21 ct21 : Value} {f22 : Addr} {od22 an22 : Option Addr} {sl22 : Array (Option Value)} {oc22 kV22 dc22 pm22 cd22 ct22 : Value} {f23 : Addr} {od23 an23 : Option Addr} {sl23 : Array (Option Value)} {oc23 kV23 dc23 pm23 cd23 ct23 : Value} {f24 : Addr} {od24 an24 : Option Addr} {sl24 : Array (Option Value)} {oc24 kV24 dc24 pm24 cd24 ct24 : Value} {f25 : Addr} {od25 an25 : Option Addr} {sl25 : Array (Option Value)} {oc25 kV25 dc25 pm25 cd25 ct25 : Value} {f26 : Addr} {od26 an26 : Option Addr} {sl26 : Array (Option Value)} {oc26 kV26 dc26 pm26 cd26 ct26 : Value} {f27 : Addr} {od27 an27 : Option Addr} {sl27 : Array (Option Value)} {oc27 kV27 dc27 pm27 cd27 ct27 : Value} {f28 : Addr} {od28 an28 : Option Addr} {sl28 : Array (Option Value)} {oc28 kV28 dc28 pm28 cd28 ct28 : Value} {f29 : Addr} {od29 an29 : Option Addr} {sl29 : Array (Option Value)} {oc29 kV29 dc29 pm29 cd29 ct29 : Value} {f30 : Addr} {od30 an30 : Option Addr} {sl30 : Array (Option Value)} {oc30 kV30 dc30 pm30 cd30 ct30 : Value} {f31 : Addr} {od31 an31 : Option Addr} {sl31 : Array (Option Value)} {oc31 kV31 dc31 pm31 cd31 ct31 : Value} {t0 : Tok} {t1 : Tok} {t2 : Tok} {t3 : Tok} {t4 : Tok} {t5 : Tok} {t6 : Tok} {t7 : Tok} {t8 : Tok} {t9 : Tok} {C : Addr} {tqSMALL : Tok} {tqDIGITS : Tok} {tqSIGNS : Tok} {tqLETTERS : Tok} {tqCHECKS : Tok} {tqROWS : Tok} {gRESERVED : Addr} {gKINDS : Addr} {gKEY : Addr} {hinit : Addr} {odhinit anhinit : Option Addr} {slhinit : Array (Option Value)} {ochinit kVhinit dchinit pmhinit cdhinit cthinit : Value} {hquestion : Addr} {odhquestion anhquestion : Option Addr} {slhquestion : Array (Option Value)} {ochquestion kVhquestion dchquestion pmhquestion cdhquestion cthquestion : Value} {htable : Addr} {odhtable anhtable : Option Addr} {slhtable : Array (Option Value)} {ochtable kVhtable dchtable pmhtable cdhtable cthtable : Value} {hhear : Addr} {odhhear anhhear : Option Addr} {slhhear : Array (Option Value)} {ochhear kVhhear dchhear pmhhear cdhhear cthhear : Value} {htake : Addr} {odhtake anhtake : Option Addr} {slhtake : Array (Option Value)} {ochtake kVhtake dchtake pmhtake cdhtake cthtake : Value} {hlook : Addr} {odhlook anhlook : Option Addr} {slhlook : Array (Option Value)} {ochlook kVhlook dchlook pmhlook cdhlook cthlook : Value} {hasked : Addr} {odhasked anhasked : Option Addr} {slhasked : Array (Option Value)} {ochasked kVhasked dchasked pmhasked cdhasked cthasked : Value} {hcopied : Addr} {odhcopied anhcopied : Option Addr} {slhcopied : Array (Option Value)} {ochcopied kVhcopied dchcopied pmhcopied cdhcopied cthcopied : Value}
    (a0 : PySem.W.nsIn K mainGlobals "is_name" = some (some (.ref f0))) (l0 : K.lookup f0 = some ⟨oc0, od0, .func (PySem.W.fnOf "is_name" "is_name" (defArgs s_is_name) (defBody s_is_name) (defScope s_is_name) .none kV0 dc0 pm0 an0 cd0 ct0), sl0⟩) (c0 : PySem.W.codeIn K cd0 "is_name" = true) (k0 : PySem.W.keepIn K (.ref f0) = true)
    (a1 : PySem.W.nsIn K mainGlobals "is_number" = some (some (.ref f1))) (l1 : K.lookup f1 = some ⟨oc1, od1, .func (PySem.W.fnOf "is_number" "is_number" (defArgs s_is_number) (defBody s_is_number) (defScope s_is_number) .none kV1 dc1 pm1 an1 cd1 ct1), sl1⟩) (c1 : PySem.W.codeIn K cd1 "is_number" = true) (k1 : PySem.W.keepIn K (.ref f1) = true)
    (a2 : PySem.W.nsIn K mainGlobals "is_ascending" = some (some (.ref f2))) (l2 : K.lookup f2 = some ⟨oc2, od2, .func (PySem.W.fnOf "is_ascending" "is_ascending" (defArgs s_is_ascending) (defBody s_is_ascending) (defScope s_is_ascending) .none kV2 dc2 pm2 an2 cd2 ct2), sl2⟩) (c2 : PySem.W.codeIn K cd2 "is_ascending" = true) (k2 : PySem.W.keepIn K (.ref f2) = true)
    (a3 : PySem.W.nsIn K mainGlobals "is_value" = some (some (.ref f3))) (l3 : K.lookup f3 = some ⟨oc3, od3, .func (PySem.W.fnOf "is_value" "is_value" (defArgs s_is_value) (defBody s_is_value) (defScope s_is_value) .none kV3 dc3 pm3 an3 cd3 ct3), sl3⟩) (c3 : PySem.W.codeIn K cd3 "is_value" = true) (k3 : PySem.W.keepIn K (.ref f3) = true)
    (a4 : PySem.W.nsIn K mainGlobals "is_field" = some (some (.ref f4))) (l4 : K.lookup f4 = some ⟨oc4, od4, .func (PySem.W.fnOf "is_field" "is_field" (defArgs s_is_field) (defBody s_is_field) (defScope s_is_field) .none kV4 dc4 pm4 an4 cd4 ct4), sl4⟩) (c4 : PySem.W.codeIn K cd4 "is_field" = true) (k4 : PySem.W.keepIn K (.ref f4) = true)
    (a5 : PySem.W.nsIn K mainGlobals "is_schema" = some (some (.ref f5))) (l5 : K.lookup f5 = some ⟨oc5, od5, .func (PySem.W.fnOf "is_schema" "is_schema" (defArgs s_is_schema) (defBody s_is_schema) (defScope s_is_schema) .none kV5 dc5 pm5 an5 cd5 ct5), sl5⟩) (c5 : PySem.W.codeIn K cd5 "is_schema" = true) (k5 : PySem.W.keepIn K (.ref f5) = true)
    (a6 : PySem.W.nsIn K mainGlobals "is_row" = some (some (.ref f6))) (l6 : K.lookup f6 = some ⟨oc6, od6, .func (PySem.W.fnOf "is_row" "is_row" (defArgs s_is_row) (defBody s_is_row) (defScope s_is_row) .none kV6 dc6 pm6 an6 cd6 ct6), sl6⟩) (c6 : PySem.W.codeIn K cd6 "is_row" = true) (k6 : PySem.W.keepIn K (.ref f6) = true)
    (a7 : PySem.W.nsIn K mainGlobals "is_table" = some (some (.ref f7))) (l7 : K.lookup f7 = some ⟨oc7, od7, .func (PySem.W.fnOf "is_table" "is_table" (defArgs s_is_table) (defBody s_is_table) (defScope s_is_table) .none kV7 dc7 pm7 an7 cd7 ct7), sl7⟩) (c7 : PySem.W.codeIn K cd7 "is_table" = true) (k7 : PySem.W.keepIn K (.ref f7) = true)
    (a8 : PySem.W.nsIn K mainGlobals "is_state" = some (some (.ref f8))) (l8 : K.lookup f8 = some ⟨oc8, od8, .func (PySem.W.fnOf "is_state" "is_state" (defArgs s_is_state) (defBody s_is_state) (defScope s_is_state) .none kV8 dc8 pm8 an8 cd8 ct8), sl8⟩) (c8 : PySem.W.codeIn K cd8 "is_state" = true) (k8 : PySem.W.keepIn K (.ref f8) = true)
    (a9 : PySem.W.nsIn K mainGlobals "table_in" = some (some (.ref f9))) (l9 : K.lookup f9 = some ⟨oc9, od9, .func (PySem.W.fnOf "table_in" "table_in" (defArgs s_table_in) (defBody s_table_in) (defScope s_table_in) .none kV9 dc9 pm9 an9 cd9 ct9), sl9⟩) (c9 : PySem.W.codeIn K cd9 "table_in" = true) (k9 : PySem.W.keepIn K (.ref f9) = true)
    (a10 : PySem.W.nsIn K mainGlobals "row_in" = some (some (.ref f10))) (l10 : K.lookup f10 = some ⟨oc10, od10, .func (PySem.W.fnOf "row_in" "row_in" (defArgs s_row_in) (defBody s_row_in) (defScope s_row_in) .none kV10 dc10 pm10 an10 cd10 ct10), sl10⟩) (c10 : PySem.W.codeIn K cd10 "row_in" = true) (k10 : PySem.W.keepIn K (.ref f10) = true)
    (a11 : PySem.W.nsIn K mainGlobals "digits_of" = some (some (.ref f11))) (l11 : K.lookup f11 = some ⟨oc11, od11, .func (PySem.W.fnOf "digits_of" "digits_of" (defArgs s_digits_of) (defBody s_digits_of) (defScope s_digits_of) .none kV11 dc11 pm11 an11 cd11 ct11), sl11⟩) (c11 : PySem.W.codeIn K cd11 "digits_of" = true) (k11 : PySem.W.keepIn K (.ref f11) = true)
    (a12 : PySem.W.nsIn K mainGlobals "number_bytes" = some (some (.ref f12))) (l12 : K.lookup f12 = some ⟨oc12, od12, .func (PySem.W.fnOf "number_bytes" "number_bytes" (defArgs s_number_bytes) (defBody s_number_bytes) (defScope s_number_bytes) .none kV12 dc12 pm12 an12 cd12 ct12), sl12⟩) (c12 : PySem.W.codeIn K cd12 "number_bytes" = true) (k12 : PySem.W.keepIn K (.ref f12) = true)
    (a13 : PySem.W.nsIn K mainGlobals "check_of" = some (some (.ref f13))) (l13 : K.lookup f13 = some ⟨oc13, od13, .func (PySem.W.fnOf "check_of" "check_of" (defArgs s_check_of) (defBody s_check_of) (defScope s_check_of) .none kV13 dc13 pm13 an13 cd13 ct13), sl13⟩) (c13 : PySem.W.codeIn K cd13 "check_of" = true) (k13 : PySem.W.keepIn K (.ref f13) = true)
    (a14 : PySem.W.nsIn K mainGlobals "text_bytes" = some (some (.ref f14))) (l14 : K.lookup f14 = some ⟨oc14, od14, .func (PySem.W.fnOf "text_bytes" "text_bytes" (defArgs s_text_bytes) (defBody s_text_bytes) (defScope s_text_bytes) .none kV14 dc14 pm14 an14 cd14 ct14), sl14⟩) (c14 : PySem.W.codeIn K cd14 "text_bytes" = true) (k14 : PySem.W.keepIn K (.ref f14) = true)
    (a15 : PySem.W.nsIn K mainGlobals "value_bytes" = some (some (.ref f15))) (l15 : K.lookup f15 = some ⟨oc15, od15, .func (PySem.W.fnOf "value_bytes" "value_bytes" (defArgs s_value_bytes) (defBody s_value_bytes) (defScope s_value_bytes) .none kV15 dc15 pm15 an15 cd15 ct15), sl15⟩) (c15 : PySem.W.codeIn K cd15 "value_bytes" = true) (k15 : PySem.W.keepIn K (.ref f15) = true)
    (a16 : PySem.W.nsIn K mainGlobals "row_bytes" = some (some (.ref f16))) (l16 : K.lookup f16 = some ⟨oc16, od16, .func (PySem.W.fnOf "row_bytes" "row_bytes" (defArgs s_row_bytes) (defBody s_row_bytes) (defScope s_row_bytes) .none kV16 dc16 pm16 an16 cd16 ct16), sl16⟩) (c16 : PySem.W.codeIn K cd16 "row_bytes" = true) (k16 : PySem.W.keepIn K (.ref f16) = true)
    (a17 : PySem.W.nsIn K mainGlobals "row_check" = some (some (.ref f17))) (l17 : K.lookup f17 = some ⟨oc17, od17, .func (PySem.W.fnOf "row_check" "row_check" (defArgs s_row_check) (defBody s_row_check) (defScope s_row_check) .none kV17 dc17 pm17 an17 cd17 ct17), sl17⟩) (c17 : PySem.W.codeIn K cd17 "row_check" = true) (k17 : PySem.W.keepIn K (.ref f17) = true)
    (a18 : PySem.W.nsIn K mainGlobals "rows_between" = some (some (.ref f18))) (l18 : K.lookup f18 = some ⟨oc18, od18, .func (PySem.W.fnOf "rows_between" "rows_between" (defArgs s_rows_between) (defBody s_rows_between) (defScope s_rows_between) .none kV18 dc18 pm18 an18 cd18 ct18), sl18⟩) (c18 : PySem.W.codeIn K cd18 "rows_between" = true) (k18 : PySem.W.keepIn K (.ref f18) = true)
    (a19 : PySem.W.nsIn K mainGlobals "range_check" = some (some (.ref f19))) (l19 : K.lookup f19 = some ⟨oc19, od19, .func (PySem.W.fnOf "range_check" "range_check" (defArgs s_range_check) (defBody s_range_check) (defScope s_range_check) .none kV19 dc19 pm19 an19 cd19 ct19), sl19⟩) (c19 : PySem.W.codeIn K cd19 "range_check" = true) (k19 : PySem.W.keepIn K (.ref f19) = true)
    (a20 : PySem.W.nsIn K mainGlobals "answer_to" = some (some (.ref f20))) (l20 : K.lookup f20 = some ⟨oc20, od20, .func (PySem.W.fnOf "answer_to" "answer_to" (defArgs s_answer_to) (defBody s_answer_to) (defScope s_answer_to) .none kV20 dc20 pm20 an20 cd20 ct20), sl20⟩) (c20 : PySem.W.codeIn K cd20 "answer_to" = true) (k20 : PySem.W.keepIn K (.ref f20) = true)
    (a21 : PySem.W.nsIn K mainGlobals "mended" = some (some (.ref f21))) (l21 : K.lookup f21 = some ⟨oc21, od21, .func (PySem.W.fnOf "mended" "mended" (defArgs s_mended) (defBody s_mended) (defScope s_mended) .none kV21 dc21 pm21 an21 cd21 ct21), sl21⟩) (c21 : PySem.W.codeIn K cd21 "mended" = true) (k21 : PySem.W.keepIn K (.ref f21) = true)
    (a22 : PySem.W.nsIn K mainGlobals "schemas_differing" = some (some (.ref f22))) (l22 : K.lookup f22 = some ⟨oc22, od22, .func (PySem.W.fnOf "schemas_differing" "schemas_differing" (defArgs s_schemas_differing) (defBody s_schemas_differing) (defScope s_schemas_differing) .none kV22 dc22 pm22 an22 cd22 ct22), sl22⟩) (c22 : PySem.W.codeIn K cd22 "schemas_differing" = true) (k22 : PySem.W.keepIn K (.ref f22) = true)
    (a23 : PySem.W.nsIn K mainGlobals "rows_differing" = some (some (.ref f23))) (l23 : K.lookup f23 = some ⟨oc23, od23, .func (PySem.W.fnOf "rows_differing" "rows_differing" (defArgs s_rows_differing) (defBody s_rows_differing) (defScope s_rows_differing) .none kV23 dc23 pm23 an23 cd23 ct23), sl23⟩) (c23 : PySem.W.codeIn K cd23 "rows_differing" = true) (k23 : PySem.W.keepIn K (.ref f23) = true)
    (a24 : PySem.W.nsIn K mainGlobals "_law_box" = some (some (.ref f24))) (l24 : K.lookup f24 = some ⟨oc24, od24, .func (PySem.W.fnOf "_law_box" "_law_box" (defArgs s_law_box) (defBody s_law_box) (defScope s_law_box) .none kV24 dc24 pm24 an24 cd24 ct24), sl24⟩) (c24 : PySem.W.codeIn K cd24 "_law_box" = true) (k24 : PySem.W.keepIn K (.ref f24) = true)
    (a25 : PySem.W.nsIn K mainGlobals "_law_load" = some (some (.ref f25))) (l25 : K.lookup f25 = some ⟨oc25, od25, .func (PySem.W.fnOf "_law_load" "_law_load" (defArgs s_law_load) (defBody s_law_load) (defScope s_law_load) .none kV25 dc25 pm25 an25 cd25 ct25), sl25⟩) (c25 : PySem.W.codeIn K cd25 "_law_load" = true) (k25 : PySem.W.keepIn K (.ref f25) = true)
    (a26 : PySem.W.nsIn K mainGlobals "_law_draw" = some (some (.ref f26))) (l26 : K.lookup f26 = some ⟨oc26, od26, .func (PySem.W.fnOf "_law_draw" "_law_draw" (defArgs s_law_draw) (defBody s_law_draw) (defScope s_law_draw) .none kV26 dc26 pm26 an26 cd26 ct26), sl26⟩) (c26 : PySem.W.codeIn K cd26 "_law_draw" = true) (k26 : PySem.W.keepIn K (.ref f26) = true)
    (a27 : PySem.W.nsIn K mainGlobals "_law_same" = some (some (.ref f27))) (l27 : K.lookup f27 = some ⟨oc27, od27, .func (PySem.W.fnOf "_law_same" "_law_same" (defArgs s_law_same) (defBody s_law_same) (defScope s_law_same) .none kV27 dc27 pm27 an27 cd27 ct27), sl27⟩) (c27 : PySem.W.codeIn K cd27 "_law_same" = true) (k27 : PySem.W.keepIn K (.ref f27) = true)
    (a28 : PySem.W.nsIn K mainGlobals "_law_rows" = some (some (.ref f28))) (l28 : K.lookup f28 = some ⟨oc28, od28, .func (PySem.W.fnOf "_law_rows" "_law_rows" (defArgs s_law_rows) (defBody s_law_rows) (defScope s_law_rows) .none kV28 dc28 pm28 an28 cd28 ct28), sl28⟩) (c28 : PySem.W.codeIn K cd28 "_law_rows" = true) (k28 : PySem.W.keepIn K (.ref f28) = true)
    (a29 : PySem.W.nsIn K mainGlobals "_law_others" = some (some (.ref f29))) (l29 : K.lookup f29 = some ⟨oc29, od29, .func (PySem.W.fnOf "_law_others" "_law_others" (defArgs s_law_others) (defBody s_law_others) (defScope s_law_others) .none kV29 dc29 pm29 an29 cd29 ct29), sl29⟩) (c29 : PySem.W.codeIn K cd29 "_law_others" = true) (k29 : PySem.W.keepIn K (.ref f29) = true)
    (a30 : PySem.W.nsIn K mainGlobals "_law_mended" = some (some (.ref f30))) (l30 : K.lookup f30 = some ⟨oc30, od30, .func (PySem.W.fnOf "_law_mended" "_law_mended" (defArgs s_law_mended) (defBody s_law_mended) (defScope s_law_mended) .none kV30 dc30 pm30 an30 cd30 ct30), sl30⟩) (c30 : PySem.W.codeIn K cd30 "_law_mended" = true) (k30 : PySem.W.keepIn K (.ref f30) = true)
    (a31 : PySem.W.nsIn K mainGlobals "law" = some (some (.ref f31))) (l31 : K.lookup f31 = some ⟨oc31, od31, .func (PySem.W.fnOf "law" "law" (defArgs s_law) (defBody s_law) (defScope s_law) .none kV31 dc31 pm31 an31 cd31 ct31), sl31⟩) (c31 : PySem.W.codeIn K cd31 "law" = true) (k31 : PySem.W.keepIn K (.ref f31) = true)
    (z0 : PySem.W.nsIn K mainGlobals "isinstance" = some none)
    (z1 : PySem.W.nsIn K mainGlobals "int" = some none)
    (z2 : PySem.W.nsIn K mainGlobals "bool" = some none)
    (z3 : PySem.W.nsIn K mainGlobals "str" = some none)
    (z4 : PySem.W.nsIn K mainGlobals "tuple" = some none)
    (z5 : PySem.W.nsIn K mainGlobals "list" = some none)
    (z6 : PySem.W.nsIn K mainGlobals "len" = some none)
    (z7 : PySem.W.nsIn K mainGlobals "all" = some none)
    (z8 : PySem.W.nsIn K mainGlobals "any" = some none)
    (z9 : PySem.W.nsIn K mainGlobals "sum" = some none)
    (z10 : PySem.W.nsIn K mainGlobals "max" = some none)
    (z11 : PySem.W.nsIn K mainGlobals "min" = some none)
    (z12 : PySem.W.nsIn K mainGlobals "sorted" = some none)
    (z13 : PySem.W.nsIn K mainGlobals "range" = some none)
    (z14 : PySem.W.nsIn K mainGlobals "enumerate" = some none)
    (z15 : PySem.W.nsIn K mainGlobals "zip" = some none)
    (m0 : PySem.W.nsIn K mainGlobals "BYTE" = some (some (.int 256 t0)))
    (m1 : PySem.W.nsIn K mainGlobals "ROUND" = some (some (.int 4294967291 t1)))
    (m2 : PySem.W.nsIn K mainGlobals "STEP" = some (some (.int 262147 t2)))
    (m3 : PySem.W.nsIn K mainGlobals "GREATEST" = some (some (.int 1000000000 t3)))
    (m4 : PySem.W.nsIn K mainGlobals "LONGEST_TEXT" = some (some (.int 12 t4)))
    (m5 : PySem.W.nsIn K mainGlobals "MOST_FIELDS" = some (some (.int 6 t5)))
    (m6 : PySem.W.nsIn K mainGlobals "MOST_TABLES" = some (some (.int 4 t6)))
    (m7 : PySem.W.nsIn K mainGlobals "MOST_ROWS" = some (some (.int 100 t7)))
    (m8 : PySem.W.nsIn K mainGlobals "WIDE" = some (some (.int 1073741824 t8)))
    (m9 : PySem.W.nsIn K mainGlobals "SUM_ROUND" = some (some (.int 2305843009213693951 t9)))
    (xSMALL : PySem.W.nsIn K mainGlobals "SMALL" = some (some (.str "abcdefghijklmnopqrstuvwxyz" tqSMALL)))
    (xDIGITS : PySem.W.nsIn K mainGlobals "DIGITS" = some (some (.str "0123456789" tqDIGITS)))
    (xSIGNS : PySem.W.nsIn K mainGlobals "SIGNS" = some (some (.str "abcdefghijklmnopqrstuvwxyz0123456789-" tqSIGNS)))
    (xLETTERS : PySem.W.nsIn K mainGlobals "LETTERS" = some (some (.str "abcdefghijklmnopqrstuvwxyz0123456789-" tqLETTERS)))
    (xCHECKS : PySem.W.nsIn K mainGlobals "CHECKS" = some (some (.str "checks" tqCHECKS)))
    (xROWS : PySem.W.nsIn K mainGlobals "ROWS" = some (some (.str "rows" tqROWS)))
    (xRESERVED : PySem.W.nsIn K mainGlobals "RESERVED" = some (some (.ref gRESERVED)))
    (yRESERVED : tupOk K gRESERVED ["all", "any", "none"] = true)
    (xKINDS : PySem.W.nsIn K mainGlobals "KINDS" = some (some (.ref gKINDS)))
    (yKINDS : tupOk K gKINDS ["text", "whole"] = true)
    (xKEY : PySem.W.nsIn K mainGlobals "KEY" = some (some (.ref gKEY)))
    (yKEY : tupOk K gKEY ["id", "whole"] = true)
    (xset : PySem.W.nsIn K mainGlobals "set" = some none)
    (xdict : PySem.W.nsIn K mainGlobals "dict" = some none)
    (xC : PySem.W.nsIn K mainGlobals "Repair" = some (some (.ref C)))
    (xpg : PySem.W.plainGet K C Str.empty = true)
    (xhd : PySem.W.hasDictIn K C = true)
    (xpo : PySem.W.plainOver K C = true)
    (xsa : PySem.W.findIn K (.ref C) "__setattr__" = some (some (.builtin "object.__setattr__")))
    (xn_name : PySem.W.findIn K (.ref C) "_name" = some none)
    (xn_schema : PySem.W.findIn K (.ref C) "_schema" = some none)
    (xn_rows : PySem.W.findIn K (.ref C) "_rows" = some none)
    (xn_small : PySem.W.findIn K (.ref C) "_small" = some none)
    (xn_waiting : PySem.W.findIn K (.ref C) "_waiting" = some none)
    (xn_copied : PySem.W.findIn K (.ref C) "_copied" = some none)
    (xn_asked : PySem.W.findIn K (.ref C) "_asked" = some none)
    (xmk : PySem.W.makesIn K C = true)
    (xkp : PySem.W.keepIn K (.ref C) = true)
    (xainit : PySem.W.findIn K (.ref C) "__init__" = some (some (.ref hinit)))
    (xlinit : K.lookup hinit = some ⟨ochinit, odhinit, .func (PySem.W.fnOf "__init__" "Repair.__init__" (defArgs m_init) (defBody m_init) (defScope m_init) .none kVhinit dchinit pmhinit anhinit cdhinit cthinit), slhinit⟩)
    (xcinit : PySem.W.codeIn K cdhinit "Repair.__init__" = true)
    (xkinit : PySem.W.keepIn K (.ref hinit) = true)
    (xfinit : PySem.W.isFn K (.ref hinit) = true)
    (xaquestion : PySem.W.findIn K (.ref C) "question" = some (some (.ref hquestion)))
    (xlquestion : K.lookup hquestion = some ⟨ochquestion, odhquestion, .func (PySem.W.fnOf "question" "Repair.question" (defArgs m_question) (defBody m_question) (defScope m_question) .none kVhquestion dchquestion pmhquestion anhquestion cdhquestion cthquestion), slhquestion⟩)
    (xcquestion : PySem.W.codeIn K cdhquestion "Repair.question" = true)
    (xkquestion : PySem.W.keepIn K (.ref hquestion) = true)
    (xfquestion : PySem.W.isFn K (.ref hquestion) = true)
    (xatable : PySem.W.findIn K (.ref C) "table" = some (some (.ref htable)))
    (xltable : K.lookup htable = some ⟨ochtable, odhtable, .func (PySem.W.fnOf "table" "Repair.table" (defArgs m_table) (defBody m_table) (defScope m_table) .none kVhtable dchtable pmhtable anhtable cdhtable cthtable), slhtable⟩)
    (xctable : PySem.W.codeIn K cdhtable "Repair.table" = true)
    (xktable : PySem.W.keepIn K (.ref htable) = true)
    (xftable : PySem.W.isFn K (.ref htable) = true)
    (xahear : PySem.W.findIn K (.ref C) "hear" = some (some (.ref hhear)))
    (xlhear : K.lookup hhear = some ⟨ochhear, odhhear, .func (PySem.W.fnOf "hear" "Repair.hear" (defArgs m_hear) (defBody m_hear) (defScope m_hear) .none kVhhear dchhear pmhhear anhhear cdhhear cthhear), slhhear⟩)
    (xchear : PySem.W.codeIn K cdhhear "Repair.hear" = true)
    (xkhear : PySem.W.keepIn K (.ref hhear) = true)
    (xfhear : PySem.W.isFn K (.ref hhear) = true)
    (xatake : PySem.W.findIn K (.ref C) "_take" = some (some (.ref htake)))
    (xltake : K.lookup htake = some ⟨ochtake, odhtake, .func (PySem.W.fnOf "_take" "Repair._take" (defArgs m_take) (defBody m_take) (defScope m_take) .none kVhtake dchtake pmhtake anhtake cdhtake cthtake), slhtake⟩)
    (xctake : PySem.W.codeIn K cdhtake "Repair._take" = true)
    (xktake : PySem.W.keepIn K (.ref htake) = true)
    (xftake : PySem.W.isFn K (.ref htake) = true)
    (xalook : PySem.W.findIn K (.ref C) "_look" = some (some (.ref hlook)))
    (xllook : K.lookup hlook = some ⟨ochlook, odhlook, .func (PySem.W.fnOf "_look" "Repair._look" (defArgs m_look) (defBody m_look) (defScope m_look) .none kVhlook dchlook pmhlook anhlook cdhlook cthlook), slhlook⟩)
    (xclook : PySem.W.codeIn K cdhlook "Repair._look" = true)
    (xklook : PySem.W.keepIn K (.ref hlook) = true)
    (xflook : PySem.W.isFn K (.ref hlook) = true)
    (xaasked : PySem.W.findIn K (.ref C) "asked" = some (some (.ref hasked)))
    (xlasked : K.lookup hasked = some ⟨ochasked, odhasked, .func (PySem.W.fnOf "asked" "Repair.asked" (defArgs m_asked) (defBody m_asked) (defScope m_asked) .none kVhasked dchasked pmhasked anhasked cdhasked cthasked), slhasked⟩)
    (xcasked : PySem.W.codeIn K cdhasked "Repair.asked" = true)
    (xkasked : PySem.W.keepIn K (.ref hasked) = true)
    (xfasked : PySem.W.isFn K (.ref hasked) = true)
    (xacopied : PySem.W.findIn K (.ref C) "copied" = some (some (.ref hcopied)))
    (xlcopied : K.lookup hcopied = some ⟨ochcopied, odhcopied, .func (PySem.W.fnOf "copied" "Repair.copied" (defArgs m_copied) (defBody m_copied) (defScope m_copied) .none kVhcopied dchcopied pmhcopied anhcopied cdhcopied cthcopied), slhcopied⟩)
    (xccopied : PySem.W.codeIn K cdhcopied "Repair.copied" = true)
    (xkcopied : PySem.W.keepIn K (.ref hcopied) = true)
    (xfcopied : PySem.W.isFn K (.ref hcopied) = true)
    : ∃ fd : FuncData, (∀ (s : Shared) (v : Value), BindsTo s fd ⟨[v], []⟩ [("script", v)]) ∧ ∀ base : Heap, K.In base → base.Ns mainGlobals mg → FnOk P w K mg base CX0 10 fa fd ["script"] (spLaw K) := by
  have e := hfa.symm.trans (PySem.W.mg_of X G a31)
  cases e
  have B : Blt mg := ⟨PySem.W.mg_none_of X G z0, PySem.W.mg_none_of X G z1, PySem.W.mg_none_of X G z2, PySem.W.mg_none_of X G z3, PySem.W.mg_none_of X G z4, PySem.W.mg_none_of X G z5, PySem.W.mg_none_of X G z6, PySem.W.mg_none_of X G z7, PySem.W.mg_none_of X G z8, PySem.W.mg_none_of X G z9, PySem.W.mg_none_of X G z10, PySem.W.mg_none_of X G z11, PySem.W.mg_none_of X G z12, PySem.W.mg_none_of X G z13, PySem.W.mg_none_of X G z14, PySem.W.mg_none_of X G z15⟩
  have F_is_name : Df K mg "is_name" s_is_name ["value"] := df_mk X G a0 l0 c0 k0 fun _ _ _ _ _ _ us hl => match us, hl with | [_], _ => rfl
  have F_is_number : Df K mg "is_number" s_is_number ["value", "least", "most"] := df_mk X G a1 l1 c1 k1 fun _ _ _ _ _ _ us hl => match us, hl with | [_, _, _], _ => rfl
  have F_is_ascending : Df K mg "is_ascending" s_is_ascending ["rows"] := df_mk X G a2 l2 c2 k2 fun _ _ _ _ _ _ us hl => match us, hl with | [_], _ => rfl
  have F_is_value : Df K mg "is_value" s_is_value ["kind", "value"] := df_mk X G a3 l3 c3 k3 fun _ _ _ _ _ _ us hl => match us, hl with | [_, _], _ => rfl
  have F_is_field : Df K mg "is_field" s_is_field ["value"] := df_mk X G a4 l4 c4 k4 fun _ _ _ _ _ _ us hl => match us, hl with | [_], _ => rfl
  have F_is_schema : Df K mg "is_schema" s_is_schema ["value"] := df_mk X G a5 l5 c5 k5 fun _ _ _ _ _ _ us hl => match us, hl with | [_], _ => rfl
  have F_is_row : Df K mg "is_row" s_is_row ["schema", "value"] := df_mk X G a6 l6 c6 k6 fun _ _ _ _ _ _ us hl => match us, hl with | [_, _], _ => rfl
  have F_is_table : Df K mg "is_table" s_is_table ["value"] := df_mk X G a7 l7 c7 k7 fun _ _ _ _ _ _ us hl => match us, hl with | [_], _ => rfl
  have F_is_state : Df K mg "is_state" s_is_state ["value"] := df_mk X G a8 l8 c8 k8 fun _ _ _ _ _ _ us hl => match us, hl with | [_], _ => rfl
  have F_table_in : Df K mg "table_in" s_table_in ["state", "name"] := df_mk X G a9 l9 c9 k9 fun _ _ _ _ _ _ us hl => match us, hl with | [_, _], _ => rfl
  have F_row_in : Df K mg "row_in" s_row_in ["table", "key"] := df_mk X G a10 l10 c10 k10 fun _ _ _ _ _ _ us hl => match us, hl with | [_, _], _ => rfl
  have F_digits_of : Df K mg "digits_of" s_digits_of ["number"] := df_mk X G a11 l11 c11 k11 fun _ _ _ _ _ _ us hl => match us, hl with | [_], _ => rfl
  have F_number_bytes : Df K mg "number_bytes" s_number_bytes ["number"] := df_mk X G a12 l12 c12 k12 fun _ _ _ _ _ _ us hl => match us, hl with | [_], _ => rfl
  have F_check_of : Df K mg "check_of" s_check_of ["data"] := df_mk X G a13 l13 c13 k13 fun _ _ _ _ _ _ us hl => match us, hl with | [_], _ => rfl
  have F_text_bytes : Df K mg "text_bytes" s_text_bytes ["text"] := df_mk X G a14 l14 c14 k14 fun _ _ _ _ _ _ us hl => match us, hl with | [_], _ => rfl
  have F_value_bytes : Df K mg "value_bytes" s_value_bytes ["value"] := df_mk X G a15 l15 c15 k15 fun _ _ _ _ _ _ us hl => match us, hl with | [_], _ => rfl
  have F_row_bytes : Df K mg "row_bytes" s_row_bytes ["row"] := df_mk X G a16 l16 c16 k16 fun _ _ _ _ _ _ us hl => match us, hl with | [_], _ => rfl
  have F_row_check : Df K mg "row_check" s_row_check ["row"] := df_mk X G a17 l17 c17 k17 fun _ _ _ _ _ _ us hl => match us, hl with | [_], _ => rfl
  have F_rows_between : Df K mg "rows_between" s_rows_between ["table", "low", "high"] := df_mk X G a18 l18 c18 k18 fun _ _ _ _ _ _ us hl => match us, hl with | [_, _, _], _ => rfl
  have F_range_check : Df K mg "range_check" s_range_check ["table", "low", "high"] := df_mk X G a19 l19 c19 k19 fun _ _ _ _ _ _ us hl => match us, hl with | [_, _, _], _ => rfl
  have F_answer_to : Df K mg "answer_to" s_answer_to ["table", "question"] := df_mk X G a20 l20 c20 k20 fun _ _ _ _ _ _ us hl => match us, hl with | [_, _], _ => rfl
  have F_mended : Df K mg "mended" s_mended ["mine", "other", "small"] := df_mk X G a21 l21 c21 k21 fun _ _ _ _ _ _ us hl => match us, hl with | [_, _, _], _ => rfl
  have F_schemas_differing : Df K mg "schemas_differing" s_schemas_differing ["one", "other"] := df_mk X G a22 l22 c22 k22 fun _ _ _ _ _ _ us hl => match us, hl with | [_, _], _ => rfl
  have F_rows_differing : Df K mg "rows_differing" s_rows_differing ["old", "new"] := df_mk X G a23 l23 c23 k23 fun _ _ _ _ _ _ us hl => match us, hl with | [_, _], _ => rfl
  have F_law_box : Df K mg "_law_box" s_law_box ["script"] := df_mk X G a24 l24 c24 k24 fun _ _ _ _ _ _ us hl => match us, hl with | [_], _ => rfl
  have F_law_load : Df K mg "_law_load" s_law_load ["box"] := df_mk X G a25 l25 c25 k25 fun _ _ _ _ _ _ us hl => match us, hl with | [_], _ => rfl
  have F_law_draw : Df K mg "_law_draw" s_law_draw ["box", "many"] := df_mk X G a26 l26 c26 k26 fun _ _ _ _ _ _ us hl => match us, hl with | [_, _], _ => rfl
  have F_law_same : Df K mg "_law_same" s_law_same ["a", "b"] := df_mk X G a27 l27 c27 k27 fun _ _ _ _ _ _ us hl => match us, hl with | [_, _], _ => rfl
  have F_law_rows : Df K mg "_law_rows" s_law_rows ["box", "many"] := df_mk X G a28 l28 c28 k28 fun _ _ _ _ _ _ us hl => match us, hl with | [_, _], _ => rfl
  have F_law_others : Df K mg "_law_others" s_law_others ["box", "rows"] := df_mk X G a29 l29 c29 k29 fun _ _ _ _ _ _ us hl => match us, hl with | [_, _], _ => rfl
  have F_law_mended : Df K mg "_law_mended" s_law_mended ["name", "schema", "rows", "others", "small"] := df_mk X G a30 l30 c30 k30 fun _ _ _ _ _ _ us hl => match us, hl with | [_, _, _, _, _], _ => rfl
  refine ⟨PySem.W.fnOf "law" "law" (defArgs s_law) (defBody s_law) (defScope s_law) .none kV31 dc31 pm31 an31 cd31 ct31, fun s v => .of_eq rfl, fun base _ _ => ?_⟩
  have hC : mg "Repair" = some (.ref C) := PySem.W.mg_of X G xC
  have T : HC K C := ⟨⟨xpg, xhd, xpo, xsa⟩, fun f hf => by simp only [List.mem_cons, List.not_mem_nil, or_false] at hf; rcases hf with rfl | rfl | rfl | rfl | rfl | rfl | rfl; exact xn_name; exact xn_schema; exact xn_rows; exact xn_small; exact xn_waiting; exact xn_copied; exact xn_asked⟩
  have Finit : Di K mg "Repair" C "Repair.__init__" m_init ["self", "table", "small"] := ⟨_, _, fun_mk xlinit xcinit xkinit, ⟨xmk, xainit, xfinit, xkp⟩, hC, (fun_mk xlinit xcinit xkinit).binds (fun _ _ _ _ _ _ us hl => match us, hl with | [_, _, _], _ => rfl)⟩
  have Fmquestion : Dm K C "question" "Repair.question" m_question ["self"] := ⟨_, _, fun_mk xlquestion xcquestion xkquestion, ⟨xaquestion, xfquestion, xkquestion⟩, (fun_mk xlquestion xcquestion xkquestion).binds (fun _ _ _ _ _ _ us hl => match us, hl with | [_], _ => rfl)⟩
  have Fmtable : Dm K C "table" "Repair.table" m_table ["self"] := ⟨_, _, fun_mk xltable xctable xktable, ⟨xatable, xftable, xktable⟩, (fun_mk xltable xctable xktable).binds (fun _ _ _ _ _ _ us hl => match us, hl with | [_], _ => rfl)⟩
  have Fmhear : Dm K C "hear" "Repair.hear" m_hear ["self", "told"] := ⟨_, _, fun_mk xlhear xchear xkhear, ⟨xahear, xfhear, xkhear⟩, (fun_mk xlhear xchear xkhear).binds (fun _ _ _ _ _ _ us hl => match us, hl with | [_, _], _ => rfl)⟩
  have Fmtake : Dm K C "_take" "Repair._take" m_take ["self", "low", "high", "rows"] := ⟨_, _, fun_mk xltake xctake xktake, ⟨xatake, xftake, xktake⟩, (fun_mk xltake xctake xktake).binds (fun _ _ _ _ _ _ us hl => match us, hl with | [_, _, _, _], _ => rfl)⟩
  have Fmlook : Dm K C "_look" "Repair._look" m_look ["self", "low", "high", "many"] := ⟨_, _, fun_mk xllook xclook xklook, ⟨xalook, xflook, xklook⟩, (fun_mk xllook xclook xklook).binds (fun _ _ _ _ _ _ us hl => match us, hl with | [_, _, _, _], _ => rfl)⟩
  have Fmasked : Dm K C "asked" "Repair.asked" m_asked ["self"] := ⟨_, _, fun_mk xlasked xcasked xkasked, ⟨xaasked, xfasked, xkasked⟩, (fun_mk xlasked xcasked xkasked).binds (fun _ _ _ _ _ _ us hl => match us, hl with | [_], _ => rfl)⟩
  have Fmcopied : Dm K C "copied" "Repair.copied" m_copied ["self"] := ⟨_, _, fun_mk xlcopied xccopied xkcopied, ⟨xacopied, xfcopied, xkcopied⟩, (fun_mk xlcopied xccopied xkcopied).binds (fun _ _ _ _ _ _ us hl => match us, hl with | [_], _ => rfl)⟩
  have CN : Cn mg := ⟨⟨_, PySem.W.mg_of X G m0⟩, ⟨_, PySem.W.mg_of X G m1⟩, ⟨_, PySem.W.mg_of X G m2⟩⟩
  have CS : Cs mg := ⟨⟨_, PySem.W.mg_of X G m9⟩, ⟨_, PySem.W.mg_of X G m8⟩⟩
  have CT : Ct K mg := ⟨⟨_, PySem.W.mg_of X G xLETTERS⟩, ⟨_, PySem.W.mg_of X G xKINDS, gt_of yKINDS⟩⟩
  have CQ : Cq K mg := ⟨⟨_, PySem.W.mg_of X G xRESERVED, gt_of yRESERVED⟩, ⟨_, PySem.W.mg_of X G xSMALL⟩, ⟨_, PySem.W.mg_of X G xDIGITS⟩, ⟨_, PySem.W.mg_of X G xSIGNS⟩, ⟨_, PySem.W.mg_of X G m3⟩, ⟨_, PySem.W.mg_of X G m4⟩, ⟨_, PySem.W.mg_of X G m5⟩, ⟨_, PySem.W.mg_of X G m7⟩, ⟨_, PySem.W.mg_of X G xKEY, gt_of yKEY⟩⟩
  have CM : Cm mg := ⟨⟨_, PySem.W.mg_of X G m6⟩⟩
  have CR : Cr mg := ⟨⟨_, PySem.W.mg_of X G xCHECKS⟩, ⟨_, PySem.W.mg_of X G xROWS⟩⟩
  have B2 : Bl2 mg := ⟨PySem.W.mg_none_of X G xset, PySem.W.mg_none_of X G xdict⟩
  have load := d_load (P := P) (w := w) (base := base) F_law_load B
  have draw := d_draw F_law_draw B load
  have dig := d_digits (P := P) (w := w) (base := base) F_digits_of CN
  have nby := d_number_bytes F_number_bytes B dig
  have che := d_check_of (P := P) (w := w) (base := base) F_check_of CN
  have tby := d_text_bytes F_text_bytes B CT nby
  have vby := d_value_bytes F_value_bytes B CT nby tby
  have rby := d_row_bytes F_row_bytes B nby vby
  have rck := d_row_check F_row_check B CS rby che
  have bet := d_betw (P := P) (w := w) (base := base) F_rows_between B
  have rng := d_range F_range_check B CS bet rck
  have num := d_number (P := P) (w := w) (base := base) F_is_number B
  have nam := d_name (P := P) (w := w) (base := base) F_is_name B CQ
  have asc := d_asc (P := P) (w := w) (base := base) F_is_ascending B
  have ass := d_ascS (P := P) (w := w) (base := base) F_is_ascending B
  have val := d_value F_is_value B CQ num
  have fie := d_field F_is_field B CT nam
  have sch := d_schema F_is_schema B B2 CQ fie
  have roo := d_row F_is_row B CQ num val
  have tab := d_table F_is_table B CQ nam sch roo asc
  have ini := d_init (P := P) (w := w) (base := base) Finit T CS CR
  have que := d_quest (P := P) (w := w) (base := base) (mg := mg) Fmquestion T
  have tbl := d_table_ (P := P) (w := w) (base := base) (mg := mg) Fmtable T
  have ask := d_asked (P := P) (w := w) (base := base) (mg := mg) Fmasked T
  have cop := d_copied (P := P) (w := w) (base := base) (mg := mg) Fmcopied T
  have tak := d_take (P := P) (w := w) (base := base) Fmtake T B
  have loo := d_look (P := P) (w := w) (base := base) Fmlook T CR
  have hea := d_hear Fmhear T CR tak loo tbl rng
  have ans := d_answer F_answer_to CR bet rng
  have tin := d_table_in (P := P) (w := w) (base := base) F_table_in
  have rin := d_row_in (P := P) (w := w) (base := base) F_row_in
  have LL : CL P w K mg base C := { B := B, B2 := B2, t := T, box := d_box F_law_box B, draw := draw, same := d_same F_law_same B 5, rows := d_lrows F_law_rows B draw, others := d_others F_law_others B B2 draw, lmend := d_lmended F_law_mended B rng, table := tab, state := d_state F_is_state B CM tab ass, mend := d_mended F_mended T ini que ans hea tbl ask cop, rng := rng, answer := ans, rdiff := d_rdiff F_rows_differing B B2 tin rin, make := ini, quest := que, tab := tbl, asked := ask, copied := cop, sdiff := d_sdiff F_schemas_differing B B2, hear := hea }
  exact (dfnF (fun_mk l31 c31 k31) sc_law rfl (law_body LL)).imp fun _ _ _ _ h => spLaw_spD h
end
end K23
open PySem PySem.W PyProof.Rows
set_option maxHeartbeats 0 in
theorem PySem.Challenge.cw_changestold_k23_whole_parts_copied_anew_holds : PySem.Challenge.rw_changestold_k23_whole_parts_copied_anew.Holds := by
  w_on; o_law; k_head; (case hw => w_witness2)
  k_fill
  refine L2.walk_of (l := PySem.Challenge.rw_changestold_k23_whole_parts_copied_anew) (n := 63) (k := 10) (x := "script") (CX := fun _ => L2.CX0) (sp := fun w => DL.spLaw _) rfl (by decide) rfl ⟨rfl, by decide, by decide⟩ (fun w h Y => PySem.W.kIn_of Y) ?F (fun _ _ a ns hl _ hS => ⟨a, ns, rfl, hS, hl, fun _ => rfl⟩) (fun _ _ _ _ _ h => h)
  case F =>
    intro w mg fa h KX G hmg
    refine' K23.all_mk KX G hmg ?a0 ?l0 ?c0 ?k0 ?a1 ?l1 ?c1 ?k1 ?a2 ?l2 ?c2 ?k2 ?a3 ?l3 ?c3 ?k3 ?a4 ?l4 ?c4 ?k4 ?a5 ?l5 ?c5 ?k5 ?a6 ?l6 ?c6 ?k6 ?a7 ?l7 ?c7 ?k7 ?a8 ?l8 ?c8 ?k8 ?a9 ?l9 ?c9 ?k9 ?a10 ?l10 ?c10 ?k10 ?a11 ?l11 ?c11 ?k11 ?a12 ?l12 ?c12 ?k12 ?a13 ?l13 ?c13 ?k13 ?a14 ?l14 ?c14 ?k14 ?a15 ?l15 ?c15 ?k15 ?a16 ?l16 ?c16 ?k16 ?a17 ?l17 ?c17 ?k17 ?a18 ?l18 ?c18 ?k18 ?a19 ?l19 ?c19 ?k19 ?a20 ?l20 ?c20 ?k20 ?a21 ?l21 ?c21 ?k21 ?a22 ?l22 ?c22 ?k22 ?a23 ?l23 ?c23 ?k23 ?a24 ?l24 ?c24 ?k24 ?a25 ?l25 ?c25 ?k25 ?a26 ?l26 ?c26 ?k26 ?a27 ?l27 ?c27 ?k27 ?a28 ?l28 ?c28 ?k28 ?a29 ?l29 ?c29 ?k29 ?a30 ?l30 ?c30 ?k30 ?a31 ?l31 ?c31 ?k31 ?z0 ?z1 ?z2 ?z3 ?z4 ?z5 ?z6 ?z7 ?z8 ?z9 ?z10 ?z11 ?z12 ?z13 ?z14 ?z15 ?m0 ?m1 ?m2 ?m3 ?m4 ?m5 ?m6 ?m7 ?m8 ?m9 ?xSMALL ?xDIGITS ?xSIGNS ?xLETTERS ?xCHECKS ?xROWS ?xRESERVED ?yRESERVED ?xKINDS ?yKINDS ?xKEY ?yKEY ?xset ?xdict ?xC ?xpg ?xhd ?xpo ?xsa ?xn_name ?xn_schema ?xn_rows ?xn_small ?xn_waiting ?xn_copied ?xn_asked ?xmk ?xkp ?xainit ?xlinit ?xcinit ?xkinit ?xfinit ?xaquestion ?xlquestion ?xcquestion ?xkquestion ?xfquestion ?xatable ?xltable ?xctable ?xktable ?xftable ?xahear ?xlhear ?xchear ?xkhear ?xfhear ?xatake ?xltake ?xctake ?xktake ?xftake ?xalook ?xllook ?xclook ?xklook ?xflook ?xaasked ?xlasked ?xcasked ?xkasked ?xfasked ?xacopied ?xlcopied ?xccopied ?xkcopied ?xfcopied
    (case a0 => k_is); (case l0 => k_is); (case c0 => k_is); (case k0 => k_is); (case a1 => k_is); (case l1 => k_is); (case c1 => k_is); (case k1 => k_is); (case a2 => k_is); (case l2 => k_is); (case c2 => k_is); (case k2 => k_is); (case a3 => k_is); (case l3 => k_is); (case c3 => k_is); (case k3 => k_is); (case a4 => k_is); (case l4 => k_is); (case c4 => k_is); (case k4 => k_is); (case a5 => k_is); (case l5 => k_is); (case c5 => k_is); (case k5 => k_is); (case a6 => k_is); (case l6 => k_is); (case c6 => k_is); (case k6 => k_is); (case a7 => k_is); (case l7 => k_is); (case c7 => k_is); (case k7 => k_is); (case a8 => k_is); (case l8 => k_is); (case c8 => k_is); (case k8 => k_is); (case a9 => k_is); (case l9 => k_is); (case c9 => k_is); (case k9 => k_is); (case a10 => k_is); (case l10 => k_is); (case c10 => k_is); (case k10 => k_is); (case a11 => k_is); (case l11 => k_is); (case c11 => k_is); (case k11 => k_is); (case a12 => k_is); (case l12 => k_is); (case c12 => k_is); (case k12 => k_is); (case a13 => k_is); (case l13 => k_is); (case c13 => k_is); (case k13 => k_is); (case a14 => k_is); (case l14 => k_is); (case c14 => k_is); (case k14 => k_is); (case a15 => k_is); (case l15 => k_is); (case c15 => k_is); (case k15 => k_is); (case a16 => k_is); (case l16 => k_is); (case c16 => k_is); (case k16 => k_is); (case a17 => k_is); (case l17 => k_is); (case c17 => k_is); (case k17 => k_is); (case a18 => k_is); (case l18 => k_is); (case c18 => k_is); (case k18 => k_is); (case a19 => k_is); (case l19 => k_is); (case c19 => k_is); (case k19 => k_is); (case a20 => k_is); (case l20 => k_is); (case c20 => k_is); (case k20 => k_is); (case a21 => k_is); (case l21 => k_is); (case c21 => k_is); (case k21 => k_is); (case a22 => k_is); (case l22 => k_is); (case c22 => k_is); (case k22 => k_is); (case a23 => k_is); (case l23 => k_is); (case c23 => k_is); (case k23 => k_is); (case a24 => k_is); (case l24 => k_is); (case c24 => k_is); (case k24 => k_is); (case a25 => k_is); (case l25 => k_is); (case c25 => k_is); (case k25 => k_is); (case a26 => k_is); (case l26 => k_is); (case c26 => k_is); (case k26 => k_is); (case a27 => k_is); (case l27 => k_is); (case c27 => k_is); (case k27 => k_is); (case a28 => k_is); (case l28 => k_is); (case c28 => k_is); (case k28 => k_is); (case a29 => k_is); (case l29 => k_is); (case c29 => k_is); (case k29 => k_is); (case a30 => k_is); (case l30 => k_is); (case c30 => k_is); (case k30 => k_is); (case a31 => k_is); (case l31 => k_is); (case c31 => k_is); (case k31 => k_is); (case z0 => k_is); (case z1 => k_is); (case z2 => k_is); (case z3 => k_is); (case z4 => k_is); (case z5 => k_is); (case z6 => k_is); (case z7 => k_is); (case z8 => k_is); (case z9 => k_is); (case z10 => k_is); (case z11 => k_is); (case z12 => k_is); (case z13 => k_is); (case z14 => k_is); (case z15 => k_is); (case m0 => k_is); (case m1 => k_is); (case m2 => k_is); (case m3 => k_is); (case m4 => k_is); (case m5 => k_is); (case m6 => k_is); (case m7 => k_is); (case m8 => k_is); (case m9 => k_is); (case xSMALL => k_is); (case xDIGITS => k_is); (case xSIGNS => k_is); (case xLETTERS => k_is); (case xCHECKS => k_is); (case xROWS => k_is); (case xRESERVED => k_is); (case yRESERVED => first | rfl | decide +kernel | k_is); (case xKINDS => k_is); (case yKINDS => first | rfl | decide +kernel | k_is); (case xKEY => k_is); (case yKEY => first | rfl | decide +kernel | k_is); (case xset => k_is); (case xdict => k_is); (case xC => k_is); (case xpg => k_is); (case xhd => k_is); (case xpo => k_is); (case xsa => k_is); (case xn_name => k_is); (case xn_schema => k_is); (case xn_rows => k_is); (case xn_small => k_is); (case xn_waiting => k_is); (case xn_copied => k_is); (case xn_asked => k_is); (case xmk => k_is); (case xkp => k_is); (case xainit => k_is); (case xlinit => k_is); (case xcinit => k_is); (case xkinit => k_is); (case xfinit => k_is); (case xaquestion => k_is); (case xlquestion => k_is); (case xcquestion => k_is); (case xkquestion => k_is); (case xfquestion => k_is); (case xatable => k_is); (case xltable => k_is); (case xctable => k_is); (case xktable => k_is); (case xftable => k_is); (case xahear => k_is); (case xlhear => k_is); (case xchear => k_is); (case xkhear => k_is); (case xfhear => k_is); (case xatake => k_is); (case xltake => k_is); (case xctake => k_is); (case xktake => k_is); (case xftake => k_is); (case xalook => k_is); (case xllook => k_is); (case xclook => k_is); (case xklook => k_is); (case xflook => k_is); (case xaasked => k_is); (case xlasked => k_is); (case xcasked => k_is); (case xkasked => k_is); (case xfasked => k_is); (case xacopied => k_is); (case xlcopied => k_is); (case xccopied => k_is); (case xkcopied => k_is); (case xfcopied => k_is)
