import PyProof.Rows.All
import Wide.All
import OpenK.AllK
import Wide.FinOn
import HandS.ForMost
import HandS.IsInst
import HandS.Style
import HandS.TupAny
import HandS.TupMul
import HandS.Zip
import HandS.Wide
import HandS.Codes
import KE.KTupSum
import KE.KDictKeyed
import PyProof.EqLayable
import PyProof.P3Eq
import HandS.Conv
import KE.KDictWalk
import KE.KDictDisplayH
import KE.KDictCopyH
import HandS.DictEq
import HandS.TupSets
import KE.SortData
import HandS.More
import HandS.Small
import KE.GoesEnum
import HandS.Deep
import PySem.Challenge.RW_carrydithers_k13_whole_results_share_all
set_option Elab.async false
set_option linter.all false
set_option maxRecDepth 100000
set_option maxHeartbeats 4000000
/-! CDLayer: a layer over HandS in which what a slot holds is told as data (PyData), apart from the heap.
G: the part of the heap that never changes any more; M: the list of what may still change. -/
namespace CD
open PySem PySem.Spec PyProof.Rows L2
/-! ### data in the heap -/
mutual
inductive Rp (K : PySem.W.Frag) (G : Hp) : V → PyData → Prop
  | non : Rp K G .non .none
  | bl (b : Bool) : Rp K G (.bl b) (.bool b)
  | int (i : Int) : Rp K G (.int i) (.int i)
  | str (x : Str) : Rp K G (.str x) (.str x)
  | lst {a : Addr} {xs : List V} {ds : List PyData} : G a = some (.lst xs) → RpAll K G xs ds → Rp K G (.ref a) (.list ds)
  | tup {a : Addr} {xs : List V} {ds : List PyData} : SqT K G a xs → RpAll K G xs ds → Rp K G (.ref a) (.tuple ds)
  | ptr (a : Addr) : Rp K G (.ref a) (.dict [(.int ((a : Nat) : Int), .none)])
inductive RpAll (K : PySem.W.Frag) (G : Hp) : List V → List PyData → Prop
  | nil : RpAll K G [] []
  | cons {v : V} {vs : List V} {d : PyData} {ds : List PyData} : Rp K G v d → RpAll K G vs ds → RpAll K G (v :: vs) (d :: ds)
end
/-- a pointer as data: what stands there is told elsewhere (in M) -/
abbrev ptrD (a : Addr) : PyData := .dict [(.int ((a : Nat) : Int), .none)]
theorem same_t {K : PySem.W.Frag} {H H' : Hp} {a : Addr} {xs : List V} (e : Same H H') (h : SqT K H a xs) : SqT K H' a xs := by
  rcases h with (h | ⟨o, h⟩) | h
  · exact .inl (.inl (e _ _ h))
  · exact .inl (.inr ⟨o, e _ _ h⟩)
  · exact .inr h
mutual
theorem Rp.mono {K : PySem.W.Frag} {G G' : Hp} (s : Same G G') : ∀ (d : PyData) (v : V), Rp K G v d → Rp K G' v d
  | .none, _, h => by cases h; exact .non
  | .bool b, _, h => by cases h; exact .bl b
  | .int i, _, h => by cases h; exact .int i
  | .str x, _, h => by cases h; exact .str x
  | .list ds, _, h => by
    cases h with
    | lst hs ha => exact .lst (s _ _ hs) (RpAll.mono s ds _ ha)
  | .tuple ds, _, h => by
    cases h with
    | tup hs ha => exact .tup (same_t s hs) (RpAll.mono s ds _ ha)
  | .dict _, _, h => by
    cases h with
    | ptr a => exact .ptr a
theorem RpAll.mono {K : PySem.W.Frag} {G G' : Hp} (s : Same G G') : ∀ (ds : List PyData) (vs : List V), RpAll K G vs ds → RpAll K G' vs ds
  | [], _, h => by cases h; exact .nil
  | d :: ds, _, h => by
    cases h with
    | cons h1 h2 => exact .cons (Rp.mono s d _ h1) (RpAll.mono s ds _ h2)
end
mutual
theorem Rp.dp {K : PySem.W.Frag} {G H : Hp} (s : Same G H) : ∀ (d : PyData) (v : V), d.canLay0 = true → Rp K G v d → Dp K H v d
  | .none, _, _, h => by cases h; exact .non
  | .bool b, _, _, h => by cases h; exact .bl b
  | .int i, _, _, h => by cases h; exact .int i
  | .str x, _, _, h => by cases h; exact .str x
  | .list ds, _, c, h => by
    cases h with
    | lst hs ha => exact .lst (SqL.of (s _ _ hs)) (RpAll.dp s ds _ c ha)
  | .tuple ds, _, c, h => by
    cases h with
    | tup hs ha => exact .tup (same_t s hs) (RpAll.dp s ds _ c ha)
  | .dict _, _, c, h => by simp [PyData.canLay0] at c
theorem RpAll.dp {K : PySem.W.Frag} {G H : Hp} (s : Same G H) : ∀ (ds : List PyData) (vs : List V), PyData.canLayAll0 ds = true → RpAll K G vs ds → DpAll K H vs ds
  | [], _, _, h => by cases h; exact .nil
  | d :: ds, _, c, h => by
    have c2 : (d.canLay0 && PyData.canLayAll0 ds) = true := c
    rw [Bool.and_eq_true] at c2
    cases h with
    | cons h1 h2 => exact .cons (Rp.dp s d _ c2.1 h1) (RpAll.dp s ds _ c2.2 h2)
end
section
variable {K : PySem.W.Frag} {G : Hp}
theorem RpAll.length : ∀ {vs : List V} {ds : List PyData}, RpAll K G vs ds → vs.length = ds.length
  | _, _, .nil => rfl
  | _, _, .cons _ t => by rw [List.length_cons, List.length_cons, RpAll.length t]
theorem RpAll.get : ∀ {vs : List V} {ds : List PyData} {i : Nat} {d : PyData}, RpAll K G vs ds → ds[i]? = some d → ∃ v, vs[i]? = some v ∧ Rp K G v d
  | _, _, _, _, .nil, e => by simp at e
  | _, _, 0, _, .cons r _, e => by simp at e; subst e; exact ⟨_, rfl, r⟩
  | _, _, i + 1, _, .cons _ t, e => by
    obtain ⟨v, h1, h2⟩ := RpAll.get (i := i) t (by simpa using e)
    exact ⟨v, by simpa using h1, h2⟩
theorem RpAll.getV : ∀ {vs : List V} {ds : List PyData} {i : Nat} {v : V}, RpAll K G vs ds → vs[i]? = some v → ∃ d, ds[i]? = some d ∧ Rp K G v d
  | _, _, _, _, .nil, e => by simp at e
  | _, _, 0, _, .cons r _, e => by simp at e; subst e; exact ⟨_, rfl, r⟩
  | _, _, i + 1, _, .cons _ t, e => by
    obtain ⟨v, h1, h2⟩ := RpAll.getV (i := i) t (by simpa using e)
    exact ⟨v, by simpa using h1, h2⟩
theorem RpAll.app : ∀ {vs us : List V} {ds es : List PyData}, RpAll K G vs ds → RpAll K G us es → RpAll K G (vs ++ us) (ds ++ es)
  | _, _, _, _, .nil, s => s
  | _, _, _, _, .cons r t, s => .cons r (RpAll.app t s)
theorem RpAll.take : ∀ {vs : List V} {ds : List PyData} (n : Nat), RpAll K G vs ds → RpAll K G (vs.take n) (ds.take n)
  | _, _, 0, _ => .nil
  | _, _, _ + 1, .nil => .nil
  | _, _, n + 1, .cons r t => .cons r (RpAll.take n t)
theorem RpAll.drop : ∀ {vs : List V} {ds : List PyData} (n : Nat), RpAll K G vs ds → RpAll K G (vs.drop n) (ds.drop n)
  | _, _, 0, r => r
  | _, _, _ + 1, .nil => .nil
  | _, _, n + 1, .cons _ t => RpAll.drop n t
theorem RpAll.rep {vs : List V} {ds : List PyData} (h : RpAll K G vs ds) : ∀ k : Nat, RpAll K G (List.replicate k vs).flatten (List.replicate k ds).flatten
  | 0 => .nil
  | k + 1 => by
    rw [List.replicate_succ, List.replicate_succ, List.flatten_cons, List.flatten_cons]
    exact h.app (RpAll.rep h k)
theorem RpAll.ints : ∀ {vs : List V} {ns : List Int}, RpAll K G vs (ns.map PyData.int) → vs = ns.map V.int
  | _, [], h => by cases h; rfl
  | _, n :: ns, h => by
    cases h with
    | cons h1 h2 => cases h1; rw [RpAll.ints h2]; rfl
theorem RpAll.of_ints : ∀ (ns : List Int), RpAll K G (ns.map V.int) (ns.map PyData.int)
  | [] => .nil
  | n :: ns => .cons (.int n) (RpAll.of_ints ns)
theorem RpAll.bls : ∀ {vs : List V} {bs : List Bool}, RpAll K G vs (bs.map PyData.bool) → vs = bs.map V.bl
  | _, [], h => by cases h; rfl
  | _, n :: ns, h => by
    cases h with
    | cons h1 h2 => cases h1; rw [RpAll.bls h2]; rfl
end
/-! ### what a slot holds; what may change -/
/-- data; a value as it is; the script (a list of ints that is read alone); unknown -/
inductive W where
  | d (x : PyData) | v (x : V) | s (ns : List Int) | u
def RepW (K : PySem.W.Frag) (G : Hp) (x : V) : W → Prop
  | .d y => Rp K G x y
  | .v y => x = y
  | .s ns => ∃ a, x = .ref a ∧ SqL K G a (ns.map V.int)
  | .u => True
theorem RepW.mono {K : PySem.W.Frag} {G G' : Hp} (s : Same G G') {x : V} : ∀ {w : W}, RepW K G x w → RepW K G' x w
  | .d y, h => Rp.mono s y x h
  | .v _, h => h
  | .s _, ⟨a, e, h⟩ => ⟨a, e, s.seq h⟩
  | .u, h => h
def RepS (K : PySem.W.Frag) (G : Hp) (o : Option (Option V)) : W → Prop
  | .d y => ∃ x, o = some (some x) ∧ Rp K G x y
  | .v y => o = some (some y)
  | .s ns => ∃ a, o = some (some (.ref a)) ∧ SqL K G a (ns.map V.int)
  | .u => True
theorem RepS.mono {K : PySem.W.Frag} {G G' : Hp} (s : Same G G') {o : Option (Option V)} : ∀ {w : W}, RepS K G o w → RepS K G' o w
  | .d y, ⟨x, e, h⟩ => ⟨x, e, Rp.mono s y x h⟩
  | .v _, h => h
  | .s _, ⟨a, e, h⟩ => ⟨a, e, s.seq h⟩
  | .u, h => h
structure RepE (K : PySem.W.Frag) (G : Hp) (σ : L2.St) (ρ : List W) : Prop where
  len : σ.length = ρ.length
  at_ : ∀ (i : Nat) (w : W), ρ[i]? = some w → RepS K G (σ[i]?) w
section
variable {K : PySem.W.Frag} {G G' : Hp} {σ : L2.St} {ρ : List W}
theorem RepE.mono (s : Same G G') (h : RepE K G σ ρ) : RepE K G' σ ρ := ⟨h.len, fun i w e => (h.at_ i w e).mono s⟩
theorem RepE.set (h : RepE K G σ ρ) {i : Nat} {x : V} {w : W} (r : RepW K G x w) : RepE K G (σ.set i (some x)) (ρ.set i w) := by
  refine ⟨by simp [h.len], fun j w' e => ?_⟩
  by_cases hj : i = j
  · subst hj
    rw [List.getElem?_set] at e
    simp only [if_true] at e
    split at e
    · rename_i hlt
      cases e
      have hl : i < σ.length := by rw [h.len]; exact hlt
      have e2 : (σ.set i (some x))[i]? = some (some x) := by rw [List.getElem?_set_self hl]
      rw [e2]
      cases w with
      | d y => exact ⟨x, rfl, r⟩
      | v y => rw [show x = y from r]; rfl
      | s ns => obtain ⟨a, e3, h3⟩ := r; exact ⟨a, by rw [e3], h3⟩
      | u => trivial
    · cases e
  · rw [List.getElem?_set_ne hj] at e
    rw [List.getElem?_set_ne hj]
    exact h.at_ j w' e
end
structure MO where
  φ : Hp → HO → Prop
  mono : ∀ {G G' : Hp} {o : HO}, Same G G' → φ G o → φ G' o
abbrev Mem := List (Addr × MO)
structure MemOk (G H : Hp) (M : Mem) : Prop where
  nd : (M.map (·.1)).Nodup
  at_ : ∀ p ∈ M, G p.1 = none ∧ ∃ o, H p.1 = some o ∧ p.2.φ G o
def mLst (K : PySem.W.Frag) (ds : List PyData) : MO := ⟨fun G o => ∃ xs, o = .lst xs ∧ RpAll K G xs ds, fun s ⟨xs, e, h⟩ => ⟨xs, e, RpAll.mono s ds xs h⟩⟩
/-- a source of draws: a list of two ints -/
def mSrc : MO := ⟨fun _ o => ∃ x y : Int, o = .lst [.int x, .int y], fun _ h => h⟩
theorem same_new {H : Hp} {p : Addr} {o : HO} (h : H p = none) : Same H (upd H p o) := fun b x e => by
  rw [upd_ne (ne_of_none e h)]
  exact e
theorem same_upd2 {G H : Hp} {p : Addr} {o : HO} (s : Same G H) : Same (upd G p o) (upd H p o) := fun b x e => by
  unfold upd at e ⊢
  split at e
  · rename_i q
    rw [if_pos q]
    exact e
  · rename_i q
    rw [if_neg q]
    exact s b x e
theorem same_mut {G H : Hp} {p : Addr} {o : HO} (s : Same G H) (h : G p = none) : Same G (upd H p o) := fun b x e => by
  rw [upd_ne (ne_of_none e h)]
  exact s b x e
section
variable {G G' H H' : Hp} {M : Mem} {p : Addr} {o : HO}
theorem MemOk.nil : MemOk G H [] := ⟨List.nodup_nil, fun _ h => nomatch h⟩
theorem MemOk.tail {m : Addr × MO} (h : MemOk G H (m :: M)) : MemOk G H M :=
  ⟨(List.nodup_cons.mp (by simpa using h.nd)).2, fun p hp => h.at_ p (List.mem_cons_of_mem _ hp)⟩
theorem MemOk.new (s : Same G H) (h : MemOk G H M) (hp : H p = none) : MemOk (upd G p o) (upd H p o) M :=
  ⟨h.nd, fun q hq => by
    obtain ⟨g, u, hu, hφ⟩ := h.at_ q hq
    have ne : q.1 ≠ p := ne_of_none hu hp
    exact ⟨by rw [upd_ne ne]; exact g, u, by rw [upd_ne ne]; exact hu, q.2.mono (same_new (s.free hp)) hφ⟩⟩
/-- a new object that G does not take in -/
theorem MemOk.new' (h : MemOk G H M) (hp : H p = none) : MemOk G (upd H p o) M :=
  ⟨h.nd, fun q hq => by
    obtain ⟨g, u, hu, hφ⟩ := h.at_ q hq
    exact ⟨g, u, by rw [upd_ne (ne_of_none hu hp)]; exact hu, hφ⟩⟩
theorem MemOk.push {m : MO} (s : Same G H) (h : MemOk G H M) (hp : H p = none) (ho : m.φ G o) : MemOk G (upd H p o) ((p, m) :: M) := by
  refine ⟨?_, fun q hq => ?_⟩
  · rw [List.map_cons, List.nodup_cons]
    refine ⟨fun hm => ?_, h.nd⟩
    obtain ⟨q, hq, e⟩ := List.mem_map.mp hm
    obtain ⟨_, u, hu, _⟩ := h.at_ q hq
    exact ne_of_none hu hp e
  · rcases List.mem_cons.mp hq with rfl | hq
    · exact ⟨s.free hp, o, upd_same, ho⟩
    · exact (h.new' hp).at_ q hq
theorem MemOk.put {m m' : MO} (h : MemOk G H ((p, m) :: M)) (ho : m'.φ G o) : MemOk G (upd H p o) ((p, m') :: M) := by
  have hn : p ∉ M.map (·.1) := (List.nodup_cons.mp (by simpa using h.nd)).1
  refine ⟨by simpa using h.nd, fun q hq => ?_⟩
  rcases List.mem_cons.mp hq with rfl | hq
  · exact ⟨(h.at_ (p, m) List.mem_cons_self).1, o, upd_same, ho⟩
  · obtain ⟨g, u, hu, hφ⟩ := h.at_ q (List.mem_cons_of_mem _ hq)
    have ne : q.1 ≠ p := fun e => hn (e ▸ List.mem_map.mpr ⟨q, hq, rfl⟩)
    exact ⟨g, u, by rw [upd_ne ne]; exact hu, hφ⟩
theorem MemOk.head {m : MO} (h : MemOk G H ((p, m) :: M)) : G p = none ∧ ∃ o, H p = some o ∧ m.φ G o := h.at_ (p, m) List.mem_cons_self
/-- the head is laid to the part that stays -/
theorem MemOk.freeze {m : MO} (s : Same G H) (h : MemOk G H ((p, m) :: M)) (ho : H p = some o) : Same G (upd G p o) ∧ Same (upd G p o) H ∧ MemOk (upd G p o) H M := by
  have hg := h.head.1
  have s1 : Same G (upd G p o) := same_new hg
  have hn : p ∉ M.map (·.1) := (List.nodup_cons.mp (by simpa using h.nd)).1
  refine ⟨s1, fun b x e => ?_, ⟨h.tail.nd, fun q hq => ?_⟩⟩
  · unfold upd at e
    split at e
    · rename_i q
      cases e
      rw [q]
      exact ho
    · exact s b x e
  · obtain ⟨g, u, hu, hφ⟩ := h.tail.at_ q hq
    have ne : q.1 ≠ p := fun e => hn (e ▸ List.mem_map.mpr ⟨q, hq, rfl⟩)
    exact ⟨by rw [upd_ne ne]; exact g, u, hu, q.2.mono s1 hφ⟩
theorem MemOk.rot {m : Addr × MO} (h : MemOk G H (m :: M)) : MemOk G H (M ++ [m]) := by
  refine ⟨?_, fun q hq => h.at_ q (by rcases List.mem_append.mp hq with z | z; exact List.mem_cons_of_mem _ z; rw [List.mem_singleton.mp z]; exact List.mem_cons_self)⟩
  have := h.nd
  rw [List.map_cons, List.nodup_cons] at this
  rw [List.map_append, List.nodup_append]
  refine ⟨this.2, by simp, fun a ha b hb => ?_⟩
  have : b = m.1 := by simpa using hb
  rintro rfl
  rw [this] at ha
  exact (by assumption : m.1 ∉ M.map (·.1) ∧ _).1 ha
theorem MemOk.unrot {m : Addr × MO} (h : MemOk G H (M ++ [m])) : MemOk G H (m :: M) := by
  refine ⟨?_, fun q hq => h.at_ q (by rcases List.mem_cons.mp hq with rfl | z; exact List.mem_append_right _ (List.mem_singleton.mpr rfl); exact List.mem_append_left _ z)⟩
  have := h.nd
  rw [List.map_append, List.nodup_append] at this
  rw [List.map_cons, List.nodup_cons]
  exact ⟨fun hm => this.2.2 _ hm m.1 (by simp) rfl, this.1⟩
end
end CD
/-! CDLayer2: readings at the level of data, in continuation style. -/
namespace CD
open PySem PySem.Spec PyProof.Rows L2
/-! ### the readings -/
def TX (K : PySem.W.Frag) (t : TE) (ρ : List W) (M : Mem) (P : W → Mem → Prop) : Prop :=
  ∀ (σ : L2.St) (G H : Hp) (Q : VK), Same G H → RepE K G σ ρ → MemOk G H M →
    (∀ (v : V) (G' H' : Hp) (w : W) (M' : Mem), P w M' → Same G G' → Same G' H' → MemOk G' H' M' → RepW K G' v w → Q v H') → t σ H Q
def BX (K : PySem.W.Frag) (t : TT) (ρ : List W) (M : Mem) (P : Bool → Mem → Prop) : Prop :=
  ∀ (σ : L2.St) (G H : Hp) (Q : Bool → Hp → Prop), Same G H → RepE K G σ ρ → MemOk G H M →
    (∀ (b : Bool) (G' H' : Hp) (M' : Mem), P b M' → Same G G' → Same G' H' → MemOk G' H' M' → Q b H') → t σ H Q
inductive RepA (K : PySem.W.Frag) (G : Hp) : List V → List W → Prop
  | nil : RepA K G [] []
  | cons {v : V} {vs : List V} {w : W} {ws : List W} : RepW K G v w → RepA K G vs ws → RepA K G (v :: vs) (w :: ws)
theorem RepA.mono {K : PySem.W.Frag} {G G' : Hp} (s : Same G G') : ∀ {vs : List V} {ws : List W}, RepA K G vs ws → RepA K G' vs ws
  | _, _, .nil => .nil
  | _, _, .cons r t => .cons (r.mono s) (RepA.mono s t)
theorem RepA.length {K : PySem.W.Frag} {G : Hp} : ∀ {vs : List V} {ws : List W}, RepA K G vs ws → vs.length = ws.length
  | _, _, .nil => rfl
  | _, _, .cons _ t => by rw [List.length_cons, List.length_cons, RepA.length t]
def AX (K : PySem.W.Frag) (t : TA) (ρ : List W) (M : Mem) (P : List W → Mem → Prop) : Prop :=
  ∀ (σ : L2.St) (G H : Hp) (Q : List V → Hp → Prop), Same G H → RepE K G σ ρ → MemOk G H M →
    (∀ (vs : List V) (G' H' : Hp) (ws : List W) (M' : Mem), P ws M' → Same G G' → Same G' H' → MemOk G' H' M' → RepA K G' vs ws → Q vs H') → t σ H Q
/-- a part of a slice -/
def OX (K : PySem.W.Frag) (t : TO) (ρ : List W) (M : Mem) (P : Option Int → Mem → Prop) : Prop :=
  ∀ (σ : L2.St) (G H : Hp) (Q : Option Int → Hp → Prop), Same G H → RepE K G σ ρ → MemOk G H M →
    (∀ (o : Option Int) (G' H' : Hp) (M' : Mem), P o M' → Same G G' → Same G' H' → MemOk G' H' M' → Q o H') → t σ H Q
/-- two values joined -/
def RX (K : PySem.W.Frag) (r : R2) (wa wb : W) (M : Mem) (P : W → Mem → Prop) : Prop :=
  ∀ (x y : V) (G H : Hp) (Q : VK), Same G H → MemOk G H M → RepW K G x wa → RepW K G y wb →
    (∀ (v : V) (G' H' : Hp) (w : W) (M' : Mem), P w M' → Same G G' → Same G' H' → MemOk G' H' M' → RepW K G' v w → Q v H') → r x y H Q
/-- a built-in's call by values -/
def CX (K : PySem.W.Frag) (r : List V → Hp → VK → Prop) (ws : List W) (M : Mem) (P : W → Mem → Prop) : Prop :=
  ∀ (vs : List V) (G H : Hp) (Q : VK), Same G H → MemOk G H M → RepA K G vs ws →
    (∀ (v : V) (G' H' : Hp) (w : W) (M' : Mem), P w M' → Same G G' → Same G' H' → MemOk G' H' M' → RepW K G' v w → Q v H') → r vs H Q
/-- a promise at the level of data -/
def FnP (K : PySem.W.Frag) (R : List W → Mem → (W → Mem → Prop) → Prop) : Sp := fun vs H Q _ =>
  ∃ (G : Hp) (M : Mem) (ws : List W) (P : W → Mem → Prop), Same G H ∧ MemOk G H M ∧ RepA K G vs ws ∧ R ws M P ∧
    ∀ (v : V) (G' H' : Hp) (w : W) (M' : Mem), P w M' → Same G G' → Same G' H' → MemOk G' H' M' → RepW K G' v w → Q v H'
def MemLe (M M' : Mem) : Prop := ∀ G H : Hp, MemOk G H M → MemOk G H M'
section
variable {K : PySem.W.Frag} {ρ : List W} {M M' : Mem} {P P' : W → Mem → Prop} {ta tb tc : TE} {r r' : R2}
theorem TX.imp (h : TX K ta ρ M P) (k : ∀ w M', P w M' → P' w M') : TX K ta ρ M P' := fun σ G H Q s e m q => h σ G H Q s e m fun v G' H' w M' p => q v G' H' w M' (k w M' p)
theorem TX.weak (h : TX K ta ρ M fun w M1 => ∃ M2, MemLe M1 M2 ∧ P w M2) : TX K ta ρ M P := fun σ G H Q s e m q => h σ G H Q s e m fun v G' H' w M' ⟨M2, l, p⟩ s1 s2 m' r => q v G' H' w M2 p s1 s2 (l G' H' m') r
theorem TX.pre (l : MemLe M M') (h : TX K ta ρ M' P) : TX K ta ρ M P := fun σ G H Q s e m q => h σ G H Q s e (l G H m) q
theorem BX.imp {t : TT} {P P' : Bool → Mem → Prop} (h : BX K t ρ M P) (k : ∀ w M', P w M' → P' w M') : BX K t ρ M P' := fun σ G H Q s e m q => h σ G H Q s e m fun v G' H' M' p => q v G' H' M' (k v M' p)
theorem tx_var {i : Nat} {x : PyData} (h : ρ[i]? = some (.d x)) (k : P (.d x) M) : TX K (tVar i) ρ M P := fun σ G H Q s e m q => by
  obtain ⟨v, h1, h2⟩ := e.at_ i _ h
  exact ⟨v, h1, q v G H _ M k (Same.refl G) s m h2⟩
/-- a raw value -/
theorem tx_varv {i : Nat} {x : V} (h : ρ[i]? = some (.v x)) (k : P (.v x) M) : TX K (tVar i) ρ M P := fun σ G H Q s e m q => by
  have h1 : σ[i]? = some (some x) := e.at_ i _ h
  exact ⟨x, h1, q x G H _ M k (Same.refl G) s m rfl⟩
/-- the script -/
theorem tx_vars {i : Nat} {ns : List Int} (h : ρ[i]? = some (.s ns)) (k : P (.s ns) M) : TX K (tVar i) ρ M P := fun σ G H Q s e m q => by
  obtain ⟨a, h1, h2⟩ := e.at_ i _ h
  exact ⟨_, h1, q _ G H _ M k (Same.refl G) s m ⟨a, rfl, h2⟩⟩
theorem tx_int {n : Int} (k : P (.d (.int n)) M) : TX K (tC (.int n)) ρ M P := fun σ G H Q s e m q => q _ G H _ M k (Same.refl G) s m (.int n)
theorem tx_bl {b : Bool} (k : P (.d (.bool b)) M) : TX K (tC (.bl b)) ρ M P := fun σ G H Q s e m q => q _ G H _ M k (Same.refl G) s m (.bl b)
theorem tx_str {x : Str} (k : P (.d (.str x)) M) : TX K (tC (.str x)) ρ M P := fun σ G H Q s e m q => q _ G H _ M k (Same.refl G) s m (.str x)
theorem tx_non (k : P (.d .none) M) : TX K (tC .non) ρ M P := fun σ G H Q s e m q => q _ G H _ M k (Same.refl G) s m .non
/-- a constant of the module that is data -/
theorem tx_glob {v : V} {x : PyData} (h : ∀ G, Rp K G v x) (k : P (.d x) M) : TX K (tC v) ρ M P := fun σ G H Q s e m q => q _ G H _ M k (Same.refl G) s m (h G)
theorem tx_raw {v : V} (k : P (.v v) M) : TX K (tC v) ρ M P := fun σ G H Q s e m q => q _ G H _ M k (Same.refl G) s m rfl
theorem tx_op (h : TX K ta ρ M fun wa M1 => TX K tb ρ M1 fun wb M2 => RX K r wa wb M2 P) : TX K (tOp r ta tb) ρ M P := fun σ G H Q s e m q =>
  h σ G H _ s e m fun v1 G1 H1 wa M1 h1 s1 s1' m1 r1 => h1 σ G1 H1 _ s1' (e.mono s1) m1 fun v2 G2 H2 wb M2 h2 s2 s2' m2 r2 =>
    h2 v1 v2 G2 H2 Q s2' m2 (r1.mono s2) r2 fun v G' H' w M' p a b c d => q v G' H' w M' p ((s1.trans s2).trans a) b c d
/-- one-place operators on ints -/
theorem tx_un {g : Int → V} (h : TX K ta ρ M fun wa M1 => ∃ n, wa = .d (.int n) ∧ ∃ y, (∀ G, RepW K G (g n) y) ∧ P y M1) : TX K (tUn (rU g) ta) ρ M P := fun σ G H Q s e m q =>
  h σ G H _ s e m fun v1 G1 H1 wa M1 ⟨n, e1, y, hy, p⟩ s1 s1' m1 r1 => by
    subst e1
    cases r1
    exact ⟨n, rfl, q _ G1 H1 y M1 p s1 s1' m1 (hy G1)⟩
theorem tx_neg (h : TX K ta ρ M fun wa M1 => ∃ n, wa = .d (.int n) ∧ P (.d (.int (-n))) M1) : TX K (tUn (rU fun i => .int (-i)) ta) ρ M P :=
  tx_un (h.imp fun w M' ⟨n, e, p⟩ => ⟨n, e, .d (.int (-n)), fun G => .int _, p⟩)
/-- a < b < c, of ints -/
theorem tx_chain (h : TX K ta ρ M fun wa M1 => TX K tb ρ M1 fun wb M2 => RX K r wa wb M2 fun wr M3 => ∃ k, wr = .d (.bool k) ∧ (k = false → P (.d (.bool false)) M3) ∧ (k = true → TX K tc ρ M3 fun wc M4 => RX K r' wb wc M4 P)) :
    TX K (tChain r r' ta tb tc) ρ M P := fun σ G H Q s e m q =>
  h σ G H _ s e m fun v1 G1 H1 wa M1 h1 s1 s1' m1 r1 => h1 σ G1 H1 _ s1' (e.mono s1) m1 fun v2 G2 H2 wb M2 h2 s2 s2' m2 r2 =>
    h2 v1 v2 G2 H2 _ s2' m2 (r1.mono s2) r2 fun v3 G3 H3 w3 M3 ⟨k, ek, pf, pt⟩ s3 s3' m3 r3 => by
      subst ek
      cases r3
      refine ⟨k, rfl, ?_⟩
      cases k with
      | false =>
        rw [if_neg Bool.false_ne_true]
        exact q _ G3 H3 _ M3 (pf rfl) ((s1.trans s2).trans s3) s3' m3 (.bl false)
      | true =>
        rw [if_pos rfl]
        exact pt rfl σ G3 H3 _ s3' (e.mono ((s1.trans s2).trans s3)) m3 fun v4 G4 H4 w4 M4 h4 s4 s4' m4 r4 =>
          h4 v2 v4 G4 H4 Q s4' m4 (r2.mono (s3.trans s4)) r4 fun v G' H' w M' p a b c d => q v G' H' w M' p ((((s1.trans s2).trans s3).trans s4).trans a) b c d
theorem tx_and (h : TX K ta ρ M fun wa M1 => ∃ a, wa = .d (.bool a) ∧ (a = false → P (.d (.bool false)) M1) ∧ (a = true → TX K tb ρ M1 P)) : TX K (tAndV ta tb) ρ M P := fun σ G H Q s e m q =>
  h σ G H _ s e m fun v1 G1 H1 wa M1 ⟨a, ea, pf, pt⟩ s1 s1' m1 r1 => by
    subst ea
    cases r1
    refine ⟨a, rfl, ?_⟩
    cases a with
    | false =>
      rw [if_neg Bool.false_ne_true]
      exact q _ G1 H1 _ M1 (pf rfl) s1 s1' m1 (.bl false)
    | true =>
      rw [if_pos rfl]
      exact pt rfl σ G1 H1 Q s1' (e.mono s1) m1 fun v G' H' w M' p a b c d => q v G' H' w M' p (s1.trans a) b c d
theorem tx_or (h : TX K ta ρ M fun wa M1 => ∃ a, wa = .d (.bool a) ∧ (a = true → P (.d (.bool true)) M1) ∧ (a = false → TX K tb ρ M1 P)) : TX K (tOrV ta tb) ρ M P := fun σ G H Q s e m q =>
  h σ G H _ s e m fun v1 G1 H1 wa M1 ⟨a, ea, pt, pf⟩ s1 s1' m1 r1 => by
    subst ea
    cases r1
    refine ⟨a, rfl, ?_⟩
    cases a with
    | true =>
      rw [if_pos rfl]
      exact q _ G1 H1 _ M1 (pt rfl) s1 s1' m1 (.bl true)
    | false =>
      rw [if_neg Bool.false_ne_true]
      exact pf rfl σ G1 H1 Q s1' (e.mono s1) m1 fun v G' H' w M' p a b c d => q v G' H' w M' p (s1.trans a) b c d
theorem tx_not (h : TX K ta ρ M fun wa M1 => ∃ a, wa = .d (.bool a) ∧ P (.d (.bool (!a))) M1) : TX K (tNotV ta) ρ M P := fun σ G H Q s e m q =>
  h σ G H _ s e m fun v1 G1 H1 wa M1 ⟨a, ea, p⟩ s1 s1' m1 r1 => by
    subst ea
    cases r1
    exact ⟨a, rfl, q _ G1 H1 _ M1 p s1 s1' m1 (.bl _)⟩
theorem tx_if {t : TT} (h : BX K t ρ M fun b M1 => (b = true → TX K ta ρ M1 P) ∧ (b = false → TX K tb ρ M1 P)) : TX K (tIf t ta tb) ρ M P := fun σ G H Q s e m q =>
  h σ G H _ s e m fun b G1 H1 M1 ⟨pt, pf⟩ s1 s1' m1 => by
    cases b with
    | true =>
      rw [if_pos rfl]
      exact pt rfl σ G1 H1 Q s1' (e.mono s1) m1 fun v G' H' w M' p a b c d => q v G' H' w M' p (s1.trans a) b c d
    | false =>
      rw [if_neg Bool.false_ne_true]
      exact pf rfl σ G1 H1 Q s1' (e.mono s1) m1 fun v G' H' w M' p a b c d => q v G' H' w M' p (s1.trans a) b c d
/-! tests -/
section
variable {PB : Bool → Mem → Prop} {t u : TT}
theorem bx_test (h : TX K ta ρ M fun w M1 => ∃ b, w = .d (.bool b) ∧ PB b M1) : BX K (tTest ta) ρ M PB := fun σ G H Q s e m q =>
  h σ G H _ s e m fun v1 G1 H1 wa M1 ⟨b, eb, p⟩ s1 s1' m1 r1 => by
    subst eb
    cases r1
    exact ⟨b, rfl, q b G1 H1 M1 p s1 s1' m1⟩
theorem bx_val (h : TX K ta ρ M fun w M1 => ∃ b, w = .d (.bool b) ∧ PB b M1) : BX K (tB ta) ρ M PB := fun σ G H Q s e m q =>
  h σ G H _ s e m fun v1 G1 H1 wa M1 ⟨b, eb, p⟩ s1 s1' m1 r1 => by
    subst eb
    cases r1
    exact ⟨b, rfl, q b G1 H1 M1 p s1 s1' m1⟩
theorem bx_and (h : BX K t ρ M fun b M1 => (b = false → PB false M1) ∧ (b = true → BX K u ρ M1 PB)) : BX K (tAnd t u) ρ M PB := fun σ G H Q s e m q =>
  h σ G H _ s e m fun b G1 H1 M1 ⟨pf, pt⟩ s1 s1' m1 => by
    cases b with
    | false =>
      rw [if_neg Bool.false_ne_true]
      exact q false G1 H1 M1 (pf rfl) s1 s1' m1
    | true =>
      rw [if_pos rfl]
      exact pt rfl σ G1 H1 Q s1' (e.mono s1) m1 fun b G' H' M' p a c d => q b G' H' M' p (s1.trans a) c d
theorem bx_or (h : BX K t ρ M fun b M1 => (b = true → PB true M1) ∧ (b = false → BX K u ρ M1 PB)) : BX K (tOr t u) ρ M PB := fun σ G H Q s e m q =>
  h σ G H _ s e m fun b G1 H1 M1 ⟨pt, pf⟩ s1 s1' m1 => by
    cases b with
    | true =>
      rw [if_pos rfl]
      exact q true G1 H1 M1 (pt rfl) s1 s1' m1
    | false =>
      rw [if_neg Bool.false_ne_true]
      exact pf rfl σ G1 H1 Q s1' (e.mono s1) m1 fun b G' H' M' p a c d => q b G' H' M' p (s1.trans a) c d
theorem bx_not (h : BX K t ρ M fun b M1 => PB (!b) M1) : BX K (tNot t) ρ M PB := fun σ G H Q s e m q =>
  h σ G H _ s e m fun b G1 H1 M1 p s1 s1' m1 => q (!b) G1 H1 M1 p s1 s1' m1
theorem bx_yes (h : PB true M) : BX K tYes ρ M PB := fun σ G H Q s e m q => q true G H M h (Same.refl G) s m
end
/-! arguments -/
section
variable {PA : List W → Mem → Prop} {tr : TA}
theorem ax_nil (h : PA [] M) : AX K tNil ρ M PA := fun σ G H Q s e m q => q [] G H [] M h (Same.refl G) s m .nil
theorem ax_cons (h : TX K ta ρ M fun w M1 => AX K tr ρ M1 fun ws M2 => PA (w :: ws) M2) : AX K (tCons ta tr) ρ M PA := fun σ G H Q s e m q =>
  h σ G H _ s e m fun v1 G1 H1 wa M1 h1 s1 s1' m1 r1 => h1 σ G1 H1 _ s1' (e.mono s1) m1 fun vs G2 H2 ws M2 h2 s2 s2' m2 r2 =>
    q (v1 :: vs) G2 H2 (wa :: ws) M2 h2 (s1.trans s2) s2' m2 (.cons (r1.mono s2) r2)
end
theorem RepA.data {G : Hp} : ∀ {vs : List V} {ds : List PyData}, RepA K G vs (ds.map W.d) → RpAll K G vs ds
  | _, [], h => by cases h; exact .nil
  | _, d :: ds, h => by
    cases h with
    | cons h1 h2 => exact .cons h1 (RepA.data h2)
theorem tx_tup {t : TA} (h : AX K t ρ M fun ws M1 => ∃ ds, ws = ds.map W.d ∧ ds.length ≤ 100000 ∧ P (.d (.tuple ds)) M1) : TX K (tTup t) ρ M P := fun σ G H Q s e m q =>
  h σ G H _ s e m fun vs G1 H1 ws M1 ⟨ds, ed, hl, p⟩ s1 s1' m1 r1 => by
    subst ed
    have hv := r1.data
    have hlen := hv.length
    refine ⟨Nat.le_trans (by omega) (by decide : 100000 ≤ sizeLine), fun a ha => ?_⟩
    exact q _ (upd G1 a (.tup vs)) _ _ M1 p (s1.trans (same_new (s1'.free ha))) (same_upd2 s1') (m1.new s1' ha) (.tup (SqT.of upd_same) (RpAll.mono (same_new (s1'.free ha)) _ _ hv))
theorem tx_lst {t : TA} (h : AX K t ρ M fun ws M1 => ∃ ds, ws = ds.map W.d ∧ ds.length ≤ 100000 ∧ P (.d (.list ds)) M1) : TX K (tLst t) ρ M P := fun σ G H Q s e m q =>
  h σ G H _ s e m fun vs G1 H1 ws M1 ⟨ds, ed, hl, p⟩ s1 s1' m1 r1 => by
    subst ed
    have hv := r1.data
    have hlen := hv.length
    refine ⟨Nat.le_trans (by omega) (by decide : 100000 ≤ sizeLine), fun a ha => ?_⟩
    exact q _ (upd G1 a (.lst vs)) _ _ M1 p (s1.trans (same_new (s1'.free ha))) (same_upd2 s1') (m1.new s1' ha) (.lst upd_same (RpAll.mono (same_new (s1'.free ha)) _ _ hv))
/-- a new list that may change -/
theorem tx_lstM {t : TA} (h : AX K t ρ M fun ws M1 => ∃ ds, ws = ds.map W.d ∧ ds.length ≤ 100000 ∧ ∀ p, P (.v (.ref p)) ((p, mLst K ds) :: M1)) : TX K (tLst t) ρ M P := fun σ G H Q s e m q =>
  h σ G H _ s e m fun vs G1 H1 ws M1 ⟨ds, ed, hl, p⟩ s1 s1' m1 r1 => by
    subst ed
    have hv := r1.data
    have hlen := hv.length
    refine ⟨Nat.le_trans (by omega) (by decide : 100000 ≤ sizeLine), fun a ha => ?_⟩
    exact q _ G1 _ _ _ (p a) s1 (same_mut s1' (s1'.free ha)) (m1.push s1' ha ⟨vs, rfl, hv⟩) rfl
theorem tx_call {R : List W → Mem → (W → Mem → Prop) → Prop} {E : XK} {t : TA} (h : AX K t ρ M fun ws M1 => R ws M1 P) : TX K (tCall (FnP K R) [] E t) ρ M P := fun σ G H Q s e m q =>
  h σ G H _ s e m fun vs G1 H1 ws M1 hR s1 s1' m1 r1 => by
    show FnP K R (vs ++ []) H1 Q E
    rw [List.append_nil]
    exact ⟨G1, M1, ws, P, s1', m1, r1, hR, fun v G' H' w M' p a b c d => q v G' H' w M' p (s1.trans a) b c d⟩
theorem tx_cb {rc : List V → Hp → VK → Prop} {t : TA} (h : AX K t ρ M fun ws M1 => CX K rc ws M1 P) : TX K (tCB rc t) ρ M P := fun σ G H Q s e m q =>
  h σ G H _ s e m fun vs G1 H1 ws M1 hR s1 s1' m1 r1 => hR vs G1 H1 Q s1' m1 r1 fun v G' H' w M' p a b c d => q v G' H' w M' p (s1.trans a) b c d
/-! slices -/
theorem ox_no {PO : Option Int → Mem → Prop} (h : PO none M) : OX K tNoPart ρ M PO := fun σ G H Q s e m q => q none G H M h (Same.refl G) s m
theorem ox_some {PO : Option Int → Mem → Prop} (h : TX K ta ρ M fun w M1 => ∃ n, w = .d (.int n) ∧ PO (some n) M1) : OX K (tPart ta) ρ M PO := fun σ G H Q s e m q =>
  h σ G H _ s e m fun v1 G1 H1 wa M1 ⟨n, en, p⟩ s1 s1' m1 r1 => by
    subst en
    cases r1
    exact ⟨n, rfl, q (some n) G1 H1 M1 p s1 s1' m1⟩
def cutD {α : Type} (xs : List α) (lo hi : Option Int) : List α := (xs.drop (HT.sIx xs.length 0 lo)).take (HT.sIx xs.length xs.length hi - HT.sIx xs.length 0 lo)
theorem RpAll.cut {G : Hp} {vs : List V} {ds : List PyData} (h : RpAll K G vs ds) (lo hi : Option Int) : RpAll K G (cutV vs lo hi) (cutD ds lo hi) := by
  unfold cutV cutD
  rw [h.length]
  exact (h.drop _).take _
theorem cutD_whole {α : Type} {xs : List α} {lo hi : Option Int} (h : HT.sIx xs.length 0 lo = 0 ∧ HT.sIx xs.length xs.length hi = xs.length) : cutD xs lo hi = xs := by
  unfold cutD
  rw [h.1, h.2]
  simp
theorem tx_slT {tl th : TO} (h : TX K ta ρ M fun w M1 => OX K tl ρ M1 fun lo M2 => OX K th ρ M2 fun hi M3 => ∃ ds, w = .d (.tuple ds) ∧ P (.d (.tuple (cutD ds lo hi))) M3) : TX K (tSl (rSlA K) ta tl th) ρ M P := fun σ G H Q s e m q =>
  h σ G H _ s e m fun v1 G1 H1 wa M1 h1 s1 s1' m1 r1 => h1 σ G1 H1 _ s1' (e.mono s1) m1 fun lo G2 H2 M2 h2 s2 s2' m2 => h2 σ G2 H2 _ s2' (e.mono (s1.trans s2)) m2 fun hi G3 H3 M3 ⟨ds, ew, p⟩ s3 s3' m3 => by
    subst ew
    have r3 := Rp.mono (s2.trans s3) _ _ r1
    cases r3 with
    | @tup a xs _ hq ha =>
      refine ⟨a, xs, rfl, same_t s3' hq, fun hw => ?_, fun hw b hb => ?_⟩
      · have hw' : HT.sIx ds.length 0 lo = 0 ∧ HT.sIx ds.length ds.length hi = ds.length := by
          rw [← ha.length]
          exact hw
        rw [cutD_whole hw'] at p
        exact q _ G3 H3 _ M3 p ((s1.trans s2).trans s3) s3' m3 (.tup hq ha)
      · exact q _ (upd G3 b (.tup (cutV xs lo hi))) _ _ M3 p (((s1.trans s2).trans s3).trans (same_new (s3'.free hb))) (same_upd2 s3') (m3.new s3' hb) (.tup (SqT.of upd_same) (RpAll.mono (same_new (s3'.free hb)) _ _ (ha.cut lo hi)))
theorem tx_slL {tl th : TO} (h : TX K ta ρ M fun w M1 => OX K tl ρ M1 fun lo M2 => OX K th ρ M2 fun hi M3 => ∃ ds, w = .d (.list ds) ∧ P (.d (.list (cutD ds lo hi))) M3) : TX K (tSl (rSlL K) ta tl th) ρ M P := fun σ G H Q s e m q =>
  h σ G H _ s e m fun v1 G1 H1 wa M1 h1 s1 s1' m1 r1 => h1 σ G1 H1 _ s1' (e.mono s1) m1 fun lo G2 H2 M2 h2 s2 s2' m2 => h2 σ G2 H2 _ s2' (e.mono (s1.trans s2)) m2 fun hi G3 H3 M3 ⟨ds, ew, p⟩ s3 s3' m3 => by
    subst ew
    have r3 := Rp.mono (s2.trans s3) _ _ r1
    cases r3 with
    | @lst a xs _ hq ha =>
      refine ⟨a, xs, rfl, SqL.of (s3' _ _ hq), fun b hb => ?_⟩
      exact q _ (upd G3 b (.lst (cutV xs lo hi))) _ _ M3 p (((s1.trans s2).trans s3).trans (same_new (s3'.free hb))) (same_upd2 s3') (m3.new s3' hb) (.lst upd_same (RpAll.mono (same_new (s3'.free hb)) _ _ (ha.cut lo hi)))
end
end CD
/-! CDLayer3: operators and built-ins by values. -/
namespace CD
open PySem PySem.Spec PyProof.Rows L2
section
variable {K : PySem.W.Frag} {ρ : List W} {M M' : Mem} {P P' : W → Mem → Prop}
/-! ### ints -/
theorem rx_add {a b : Int} (h : P (.d (.int (a + b))) M) : RX K (rI0 fun i j => .int (i + j)) (.d (.int a)) (.d (.int b)) M P := fun x y G H Q s m rx ry q => by
  cases rx; cases ry
  exact ⟨a, b, rfl, rfl, q _ G H _ M h (Same.refl G) s m (.int _)⟩
theorem rx_sub {a b : Int} (h : P (.d (.int (a - b))) M) : RX K (rI0 fun i j => .int (i - j)) (.d (.int a)) (.d (.int b)) M P := fun x y G H Q s m rx ry q => by
  cases rx; cases ry
  exact ⟨a, b, rfl, rfl, q _ G H _ M h (Same.refl G) s m (.int _)⟩
theorem rx_mul {a b : Int} (c : CMul a b) (h : P (.d (.int (a * b))) M) : RX K (rI CMul fun i j => .int (i * j)) (.d (.int a)) (.d (.int b)) M P := fun x y G H Q s m rx ry q => by
  cases rx; cases ry
  exact ⟨a, b, rfl, rfl, c, q _ G H _ M h (Same.refl G) s m (.int _)⟩
theorem rx_mod {a b : Int} (c : 0 < b) (h : P (.d (.int (a % b))) M) : RX K (rI (fun _ j => 0 < j) fun i j => .int (i % j)) (.d (.int a)) (.d (.int b)) M P := fun x y G H Q s m rx ry q => by
  cases rx; cases ry
  exact ⟨a, b, rfl, rfl, c, q _ G H _ M h (Same.refl G) s m (.int _)⟩
theorem rx_fdiv {a b : Int} (c : CDiv a b) (h : P (.d (.int (a / b))) M) : RX K (rI CDiv fun i j => .int (i / j)) (.d (.int a)) (.d (.int b)) M P := fun x y G H Q s m rx ry q => by
  cases rx; cases ry
  exact ⟨a, b, rfl, rfl, c, q _ G H _ M h (Same.refl G) s m (.int _)⟩
theorem rx_fdivW {a b : Int} (c : CDivW a b) (h : P (.d (.int (a / b))) M) : RX K (rI CDivW fun i j => .int (i / j)) (.d (.int a)) (.d (.int b)) M P := fun x y G H Q s m rx ry q => by
  cases rx; cases ry
  exact ⟨a, b, rfl, rfl, c, q _ G H _ M h (Same.refl G) s m (.int _)⟩
theorem rx_pow {a b : Int} (c : CPow a b) (h : P (.d (.int (a ^ b.toNat))) M) : RX K (rI CPow fun i j => .int (i ^ j.toNat)) (.d (.int a)) (.d (.int b)) M P := fun x y G H Q s m rx ry q => by
  cases rx; cases ry
  exact ⟨a, b, rfl, rfl, c, q _ G H _ M h (Same.refl G) s m (.int _)⟩
theorem rx_lt {a b : Int} (h : P (.d (.bool (decide (a < b)))) M) : RX K (rI0 fun i j => .bl (decide (i < j))) (.d (.int a)) (.d (.int b)) M P := fun x y G H Q s m rx ry q => by
  cases rx; cases ry
  exact ⟨a, b, rfl, rfl, q _ G H _ M h (Same.refl G) s m (.bl _)⟩
theorem rx_le {a b : Int} (h : P (.d (.bool (decide (a ≤ b)))) M) : RX K (rI0 fun i j => .bl (decide (i ≤ j))) (.d (.int a)) (.d (.int b)) M P := fun x y G H Q s m rx ry q => by
  cases rx; cases ry
  exact ⟨a, b, rfl, rfl, q _ G H _ M h (Same.refl G) s m (.bl _)⟩
theorem rx_gt {a b : Int} (h : P (.d (.bool (decide (b < a)))) M) : RX K (rI0 fun i j => .bl (decide (j < i))) (.d (.int a)) (.d (.int b)) M P := fun x y G H Q s m rx ry q => by
  cases rx; cases ry
  exact ⟨a, b, rfl, rfl, q _ G H _ M h (Same.refl G) s m (.bl _)⟩
theorem rx_ge {a b : Int} (h : P (.d (.bool (decide (b ≤ a)))) M) : RX K (rI0 fun i j => .bl (decide (j ≤ i))) (.d (.int a)) (.d (.int b)) M P := fun x y G H Q s m rx ry q => by
  cases rx; cases ry
  exact ⟨a, b, rfl, rfl, q _ G H _ M h (Same.refl G) s m (.bl _)⟩
theorem rx_eqI {a b : Int} (h : P (.d (.bool (decide (a = b)))) M) : RX K rEq (.d (.int a)) (.d (.int b)) M P := fun x y G H Q s m rx ry q => by
  cases rx; cases ry
  have e : decide (V.int a = V.int b) = decide (a = b) := decide_eq_decide.mpr ⟨fun z => V.int.inj z, fun z => by rw [z]⟩
  refine ⟨rfl, ?_⟩
  rw [e]
  exact q _ G H _ M h (Same.refl G) s m (.bl _)
theorem rx_neI {a b : Int} (h : P (.d (.bool (!decide (a = b)))) M) : RX K rNe (.d (.int a)) (.d (.int b)) M P := fun x y G H Q s m rx ry q => by
  cases rx; cases ry
  have e : decide (V.int a = V.int b) = decide (a = b) := decide_eq_decide.mpr ⟨fun z => V.int.inj z, fun z => by rw [z]⟩
  refine ⟨rfl, ?_⟩
  rw [e]
  exact q _ G H _ M h (Same.refl G) s m (.bl _)
theorem rx_eqS {a b : Str} (h : P (.d (.bool (decide (a = b)))) M) : RX K rEq (.d (.str a)) (.d (.str b)) M P := fun x y G H Q s m rx ry q => by
  cases rx; cases ry
  have e : decide (V.str a = V.str b) = decide (a = b) := decide_eq_decide.mpr ⟨fun z => V.str.inj z, fun z => by rw [z]⟩
  refine ⟨rfl, ?_⟩
  rw [e]
  exact q _ G H _ M h (Same.refl G) s m (.bl _)
/-! ### data -/
theorem rx_eqD {x y : PyData} (hx : SeqAt.shaped x = true) (hy : SeqAt.shaped y = true) (h : P (.d (.bool (PyData.eqv x y))) M) : RX K (rEqD K) (.d x) (.d y) M P := fun u v G H Q s m rx ry q =>
  ⟨x, y, Rp.dp s _ _ (SeqAt.canLay_of_shaped hx) rx, Rp.dp s _ _ (SeqAt.canLay_of_shaped hy) ry, hx, hy, q _ G H _ M h (Same.refl G) s m (.bl _)⟩
theorem rx_neD {x y : PyData} (hx : SeqAt.shaped x = true) (hy : SeqAt.shaped y = true) (h : P (.d (.bool (!PyData.eqv x y))) M) : RX K (rNeD K) (.d x) (.d y) M P := fun u v G H Q s m rx ry q =>
  ⟨x, y, Rp.dp s _ _ (SeqAt.canLay_of_shaped hx) rx, Rp.dp s _ _ (SeqAt.canLay_of_shaped hy) ry, hx, hy, q _ G H _ M h (Same.refl G) s m (.bl _)⟩
theorem rx_catT {xs ys : List PyData} (hl : xs.length + ys.length ≤ 100000) (h : P (.d (.tuple (xs ++ ys))) M) : RX K (rCatA K) (.d (.tuple xs)) (.d (.tuple ys)) M P := fun u v G H Q s m rx ry q => by
  cases rx with
  | @tup a as _ ha hra =>
    cases ry with
    | @tup b bs _ hb hrb =>
      have l1 := hra.length
      have l2 := hrb.length
      refine ⟨a, b, as, bs, rfl, rfl, same_t s ha, same_t s hb, Nat.le_trans (by omega) (by decide : 100000 ≤ sizeLine), fun e => ?_, fun _ e => ?_, fun _ _ p hp => ?_⟩
      · subst e
        have e2 : xs = [] := List.eq_nil_of_length_eq_zero (by simpa using l1.symm)
        subst e2
        exact q _ G H _ M h (Same.refl G) s m (.tup hb hrb)
      · subst e
        have e2 : ys = [] := List.eq_nil_of_length_eq_zero (by simpa using l2.symm)
        subst e2
        rw [List.append_nil] at h
        exact q _ G H _ M h (Same.refl G) s m (.tup ha hra)
      · exact q _ _ _ _ M h (same_new (s.free hp)) (same_upd2 s) (m.new s hp) (.tup (SqT.of upd_same) (RpAll.mono (same_new (s.free hp)) _ _ (hra.app hrb)))
theorem rx_catL {xs ys : List PyData} (hl : xs.length + ys.length ≤ 100000) (h : P (.d (.list (xs ++ ys))) M) : RX K rCat (.d (.list xs)) (.d (.list ys)) M P := fun u v G H Q s m rx ry q => by
  cases rx with
  | @lst a as _ ha hra =>
    cases ry with
    | @lst b bs _ hb hrb =>
      have l1 := hra.length
      have l2 := hrb.length
      refine ⟨a, b, as, bs, rfl, rfl, s _ _ ha, s _ _ hb, Nat.le_trans (by omega) (by decide : 100000 ≤ sizeLine), fun p hp => ?_⟩
      exact q _ _ _ _ M h (same_new (s.free hp)) (same_upd2 s) (m.new s hp) (.lst upd_same (RpAll.mono (same_new (s.free hp)) _ _ (hra.app hrb)))
theorem rx_repL {xs : List PyData} {k : Int} (h0 : 0 ≤ k) (h1 : k ≤ 100000) (hl : xs.length * k.toNat ≤ 100000) (h : P (.d (.list (List.replicate k.toNat xs).flatten)) M) : RX K rRep (.d (.list xs)) (.d (.int k)) M P := fun u v G H Q s m rx ry q => by
  cases rx with
  | @lst a as _ ha hra =>
    cases ry
    have l1 := hra.length
    refine ⟨a, k, as, rfl, rfl, s _ _ ha, by omega, by omega, Nat.le_trans (by rw [l1]; exact hl) (by decide : 100000 ≤ sizeLine), fun p hp => ?_⟩
    exact q _ _ _ _ M h (same_new (s.free hp)) (same_upd2 s) (m.new s hp) (.lst upd_same (RpAll.mono (same_new (s.free hp)) _ _ (hra.rep _)))
theorem rx_repT {xs : List PyData} {k : Int} (hn : xs ≠ []) (h0 : 2 ≤ k) (h1 : k ≤ 1000) (hl : xs.length ≤ 1000) (h : P (.d (.tuple (List.replicate k.toNat xs).flatten)) M) : RX K (rRepT K) (.d (.tuple xs)) (.d (.int k)) M P := fun u v G H Q s m rx ry q => by
  cases rx with
  | @tup a as _ ha hra =>
    cases ry
    have l1 := hra.length
    refine ⟨a, k, as, rfl, rfl, same_t s ha, fun e => ?_, h0, h1, by omega, fun p hp => ?_⟩
    · subst e
      exact hn (List.eq_nil_of_length_eq_zero (by simpa using l1.symm))
    · exact q _ _ _ _ M h (same_new (s.free hp)) (same_upd2 s) (m.new s hp) (.tup (SqT.of upd_same) (RpAll.mono (same_new (s.free hp)) _ _ (hra.rep _)))
theorem RpAll.atI {G : Hp} {vs : List V} {ds : List PyData} (h : RpAll K G vs ds) {i : Int} {d : PyData} (e : L2.atI ds i = some d) : ∃ v, L2.atI vs i = some v ∧ Rp K G v d := by
  unfold L2.atI at e ⊢
  rw [h.length]
  cases hj : ixN ds.length i with
  | none => rw [hj] at e; cases e
  | some j =>
    rw [hj] at e
    exact h.get e
theorem rx_ixT {xs : List PyData} {i : Int} {x : PyData} (e : L2.atI xs i = some x) (h : P (.d x) M) : RX K (rIxT K) (.d (.tuple xs)) (.d (.int i)) M P := fun u v G H Q s m rx ry q => by
  cases rx with
  | @tup a as _ ha hra =>
    cases ry
    obtain ⟨z, hz, rz⟩ := hra.atI e
    exact ⟨a, as, i, z, rfl, rfl, same_t s ha, hz, q _ G H _ M h (Same.refl G) s m rz⟩
theorem rx_ixL {xs : List PyData} {i : Int} {x : PyData} (e : L2.atI xs i = some x) (h : P (.d x) M) : RX K (rIxL K) (.d (.list xs)) (.d (.int i)) M P := fun u v G H Q s m rx ry q => by
  cases rx with
  | @lst a as _ ha hra =>
    cases ry
    obtain ⟨z, hz, rz⟩ := hra.atI e
    exact ⟨a, as, i, z, rfl, rfl, SqL.of (s _ _ ha), hz, q _ G H _ M h (Same.refl G) s m rz⟩
/-- an item of a list that may change, at the head of M -/
theorem rx_ixM {a : Addr} {xs : List PyData} {i : Int} {x : PyData} (e : L2.atI xs i = some x) (h : P (.d x) ((a, mLst K xs) :: M)) : RX K (rIxL K) (.v (.ref a)) (.d (.int i)) ((a, mLst K xs) :: M) P := fun u v G H Q s m rx ry q => by
  cases ry
  have e1 : u = .ref a := rx
  subst e1
  obtain ⟨_, o, ho, as, eo, hra⟩ := m.head
  subst eo
  obtain ⟨z, hz, rz⟩ := hra.atI e
  exact ⟨a, as, i, z, rfl, rfl, SqL.of ho, hz, q _ G H _ _ h (Same.refl G) s m rz⟩
theorem rx_ixS {ns : List Int} {i : Int} {x : Int} (e : L2.atI ns i = some x) (h : P (.d (.int x)) M) : RX K (rIxL K) (.s ns) (.d (.int i)) M P := fun u v G H Q s m rx ry q => by
  cases ry
  obtain ⟨a, e1, h1⟩ := rx
  refine ⟨a, ns.map V.int, i, .int x, e1, rfl, s.seq h1, ?_, q _ G H _ M h (Same.refl G) s m (.int x)⟩
  unfold L2.atI at e ⊢
  rw [List.length_map]
  cases hj : ixN ns.length i with
  | none => rw [hj] at e; cases e
  | some j =>
    rw [hj] at e
    have e2 : ns[j]? = some x := e
    show (ns.map V.int)[j]? = some (V.int x)
    rw [List.getElem?_map, e2]
    rfl
theorem cx_lenS {ns : List Int} (h : P (.d (.int ns.length)) M) : CX K (fun xs H Q => ∃ x n, xs = [x] ∧ LenV K x H n ∧ Q (.int n) H) [.s ns] M P := fun vs G H Q s m r q => by
  cases r with
  | cons r1 r2 =>
    cases r2
    obtain ⟨a, e1, h1⟩ := r1
    subst e1
    exact ⟨_, _, rfl, .inl ⟨_, s.seq h1, (List.length_map _).symm⟩, q _ G H _ _ h (Same.refl G) s m (.int _)⟩
/-- x in (texts) -/
theorem rx_inS {a : Str} {xs : List Str} (h : P (.d (.bool (decide (a ∈ xs)))) M) : RX K (rIn K false) (.d (.str a)) (.d (.tuple (xs.map PyData.str))) M P := fun u v G H Q s m rx ry q => by
  cases rx
  cases ry with
  | @tup b bs _ hb hrb =>
    have eb : ∀ (xs : List Str) (bs : List V), RpAll K G bs (xs.map PyData.str) → bs.all flatV = true ∧ inV (.str a) bs = decide (a ∈ xs) := by
      intro xs
      induction xs with
      | nil => intro bs h; cases h; exact ⟨rfl, rfl⟩
      | cons y ys ih =>
        intro bs h
        cases h with
        | cons h1 h2 =>
          cases h1
          obtain ⟨i1, i2⟩ := ih _ h2
          refine ⟨?_, ?_⟩
          · rw [List.all_cons, i1]; rfl
          · show (eqV (.str y) (.str a) || inV (.str a) _) = _
            rw [i2]
            have e3 : eqV (.str y) (.str a) = decide (y = a) := by
              show (y == a) = _
              by_cases hy : y = a
              · subst hy; simp
              · simp [hy]
            rw [e3]
            by_cases hy : y = a
            · subst hy; simp
            · have hy' : ¬ a = y := fun z => hy z.symm
              simp [hy, hy']
    obtain ⟨i1, i2⟩ := eb xs bs hrb
    refine ⟨b, bs, rfl, .inr (same_t s hb), rfl, i1, ?_⟩
    rw [if_neg (by decide), i2]
    exact q _ G H _ M h (Same.refl G) s m (.bl _)
/-! ### built-ins -/
abbrev rLen (K : PySem.W.Frag) : List V → Hp → VK → Prop := fun xs H Q => ∃ x n, xs = [x] ∧ LenV K x H n ∧ Q (.int n) H
theorem cx_len {x : PyData} {n : Nat} (e : (∃ ds, x = .tuple ds ∧ n = ds.length) ∨ ∃ ds, x = .list ds ∧ n = ds.length) (h : P (.d (.int n)) M) : CX K (fun xs H Q => ∃ x n, xs = [x] ∧ LenV K x H n ∧ Q (.int n) H) [.d x] M P := fun vs G H Q s m r q => by
  cases r with
  | cons r1 r2 =>
    cases r2
    rcases e with ⟨ds, rfl, rfl⟩ | ⟨ds, rfl, rfl⟩
    · cases (show Rp K G _ (.tuple ds) from r1) with
      | @tup a as _ ha hra => exact ⟨_, _, rfl, .inr ⟨as, same_t s ha, hra.length.symm⟩, q _ G H _ M h (Same.refl G) s m (.int _)⟩
    · cases (show Rp K G _ (.list ds) from r1) with
      | @lst a as _ ha hra => exact ⟨_, _, rfl, .inl ⟨as, SqL.of (s _ _ ha), hra.length.symm⟩, q _ G H _ M h (Same.refl G) s m (.int _)⟩
/-- len of a list that may change -/
theorem cx_lenM {a : Addr} {ds : List PyData} (hm : (a, mLst K ds) ∈ M) (h : P (.d (.int ds.length)) M) : CX K (fun xs H Q => ∃ x n, xs = [x] ∧ LenV K x H n ∧ Q (.int n) H) [.v (.ref a)] M P := fun vs G H Q s m r q => by
  cases r with
  | cons r1 r2 =>
    cases r2
    have e1 : _ = V.ref a := r1
    subst e1
    obtain ⟨_, o, ho, as, eo, hra⟩ := m.at_ _ hm
    have ho' : H a = some o := ho
    subst eo
    exact ⟨_, _, rfl, .inl ⟨as, SqL.of ho', hra.length.symm⟩, q _ G H _ _ h (Same.refl G) s m (.int _)⟩
theorem cx_abs {n : Int} (h : P (.d (.int (if n < 0 then -n else n))) M) : CX K (fun xs H Q => ∃ i, xs = [.int i] ∧ Q (.int (if i < 0 then -i else i)) H) [.d (.int n)] M P := fun vs G H Q s m r q => by
  cases r with
  | cons r1 r2 =>
    cases r2
    cases (show Rp K G _ (.int n) from r1)
    exact ⟨n, rfl, q _ G H _ M h (Same.refl G) s m (.int _)⟩
theorem cx_min2 {i j : Int} (h : P (.d (.int (if j < i then j else i))) M) : CX K (fun xs H Q => ∃ i j, xs = [.int i, .int j] ∧ Q (.int (if j < i then j else i)) H) [.d (.int i), .d (.int j)] M P := fun vs G H Q s m r q => by
  cases r with
  | cons r1 r2 =>
    cases r2 with
    | cons r2 r3 =>
      cases r3
      cases (show Rp K G _ (.int i) from r1)
      cases (show Rp K G _ (.int j) from r2)
      exact ⟨i, j, rfl, q _ G H _ M h (Same.refl G) s m (.int _)⟩
theorem cx_max2 {i j : Int} (h : P (.d (.int (if j > i then j else i))) M) : CX K (fun xs H Q => ∃ i j, xs = [.int i, .int j] ∧ Q (.int (if j > i then j else i)) H) [.d (.int i), .d (.int j)] M P := fun vs G H Q s m r q => by
  cases r with
  | cons r1 r2 =>
    cases r2 with
    | cons r2 r3 =>
      cases r3
      cases (show Rp K G _ (.int i) from r1)
      cases (show Rp K G _ (.int j) from r2)
      exact ⟨i, j, rfl, q _ G H _ M h (Same.refl G) s m (.int _)⟩
theorem cx_sumL {ns : List Int} (h : P (.d (.int ns.sum)) M) : CX K (rSum K) [.d (.list (ns.map PyData.int))] M P := fun vs G H Q s m r q => by
  cases r with
  | cons r1 r2 =>
    cases r2
    cases (show Rp K G _ (.list (ns.map PyData.int)) from r1) with
    | @lst a as _ ha hra =>
      have e := hra.ints
      subst e
      exact ⟨a, ns, rfl, SqL.of (s _ _ ha), q _ G H _ M h (Same.refl G) s m (.int _)⟩
/-- sum of a tuple of ints -/
def rSumT (K : PySem.W.Frag) : List V → Hp → VK → Prop := fun vs H Q => ∃ (a : Addr) (ns : List Int), vs = [V.ref a] ∧ SqT K H a (ns.map V.int) ∧ Q (.int ns.sum) H
theorem cr_sumT {X : Cx} (hc : X.calm = true) : CallR X (.builtin "sum") (rSumT X.K) := by
  intro pins s σ H vs us Q I r h
  obtain ⟨a, ns, rfl, hs, q⟩ := h
  obtain ⟨its, rv, hl, _⟩ := I.tuple hs
  rw [Vals.ref1 r]
  have hi := rv.ints
  obtain ⟨xs, e⟩ := hi.allInts.items
  have hn : numsOf (intItems xs).toList = ns := by rw [← e]; exact hi.numsOf
  rw [nums_intItems] at hn
  have hl' : s.heap.IsTuple a its.toArray := hl
  rw [e] at hl'
  refine PySem.W.ktm_sumG (I.ok.hd hc) hl' fun h' tk t' hk => ?_
  rw [preSum_eq, List.take_of_length_le (by simp), hn]
  exact ⟨.int _, H, I.kept hk, ⟨_, rfl⟩, q⟩
theorem cx_sumT {ns : List Int} (h : P (.d (.int ns.sum)) M) : CX K (rSumT K) [.d (.tuple (ns.map PyData.int))] M P := fun vs G H Q s m r q => by
  cases r with
  | cons r1 r2 =>
    cases r2
    cases (show Rp K G _ (.tuple (ns.map PyData.int)) from r1) with
    | @tup a as _ ha hra =>
      have e := hra.ints
      subst e
      exact ⟨a, ns, rfl, same_t s ha, q _ G H _ M h (Same.refl G) s m (.int _)⟩
theorem cx_minL {ns : List Int} (hn : 0 < ns.length) (h : ∀ m', m' ∈ ns → (∀ y, y ∈ ns → m' ≤ y) → P (.d (.int m')) M) : CX K (rMin K) [.d (.list (ns.map PyData.int))] M P := fun vs G H Q s m r q => by
  cases r with
  | cons r1 r2 =>
    cases r2
    cases (show Rp K G _ (.list (ns.map PyData.int)) from r1) with
    | @lst a as _ ha hra =>
      have e := hra.ints
      subst e
      exact ⟨a, ns, rfl, SqL.of (s _ _ ha), hn, fun m' h1 h2 => q _ G H _ M (h m' h1 h2) (Same.refl G) s m (.int _)⟩
theorem cx_maxL {ns : List Int} (hn : 0 < ns.length) (h : ∀ m', m' ∈ ns → (∀ y, y ∈ ns → y ≤ m') → P (.d (.int m')) M) : CX K (rMax K) [.d (.list (ns.map PyData.int))] M P := fun vs G H Q s m r q => by
  cases r with
  | cons r1 r2 =>
    cases r2
    cases (show Rp K G _ (.list (ns.map PyData.int)) from r1) with
    | @lst a as _ ha hra =>
      have e := hra.ints
      subst e
      exact ⟨a, ns, rfl, SqL.of (s _ _ ha), hn, fun m' h1 h2 => q _ G H _ M (h m' h1 h2) (Same.refl G) s m (.int _)⟩
theorem cx_all {bs : List Bool} (h : P (.d (.bool (bs.all id))) M) : CX K (rAll K) [.d (.list (bs.map PyData.bool))] M P := fun vs G H Q s m r q => by
  cases r with
  | cons r1 r2 =>
    cases r2
    cases (show Rp K G _ (.list (bs.map PyData.bool)) from r1) with
    | @lst a as _ ha hra =>
      have e := hra.bls
      subst e
      exact ⟨a, bs, rfl, SqL.of (s _ _ ha), q _ G H _ M h (Same.refl G) s m (.bl _)⟩
theorem cx_tuple {ds : List PyData} (h : P (.d (.tuple ds)) M) : CX K (fun xs H Q => ∃ p ys, xs = [.ref p] ∧ ((SqL K H p ys ∧ ∀ l, H l = none → Q (.ref l) (upd H l (.tup ys))) ∨ (SqT K H p ys ∧ Q (.ref p) H))) [.d (.list ds)] M P := fun vs G H Q s m r q => by
  cases r with
  | cons r1 r2 =>
    cases r2
    cases (show Rp K G _ (.list ds) from r1) with
    | @lst a as _ ha hra =>
      refine ⟨a, as, rfl, .inl ⟨SqL.of (s _ _ ha), fun p hp => ?_⟩⟩
      exact q _ _ _ _ M h (same_new (s.free hp)) (same_upd2 s) (m.new s hp) (.tup (SqT.of upd_same) (RpAll.mono (same_new (s.free hp)) _ _ hra))
/-! isinstance -/
def tyD : PyData → Option String
  | .none => some "NoneType"
  | .bool _ => some "bool"
  | .int _ => some "int"
  | .str _ => some "str"
  | .list _ => some "list"
  | .tuple _ => some "tuple"
  | .dict _ => none
theorem Rp.ty {G H : Hp} (s : Same G H) {v : V} : ∀ {d : PyData} {n : String}, tyD d = some n → Rp K G v d → TyX K H v (.type n)
  | .none, _, e, h => by cases e; cases h; exact .base .non
  | .bool b, _, e, h => by cases e; cases h; exact .base (.bl b)
  | .int b, _, e, h => by cases e; cases h; exact .base (.int b)
  | .str b, _, e, h => by cases e; cases h; exact .base (.str b)
  | .list ds, _, e, h => by
    cases e
    cases h with
    | lst ha _ => exact .base (.lst (s _ _ ha))
  | .tuple ds, _, e, h => by
    cases e
    cases h with
    | tup ha _ =>
      rcases same_t s ha with (z | ⟨o, z⟩) | ⟨o, its, n, z1, z2, z3, z4, z5⟩
      · exact .base (.tup z)
      · exact .fTuple z
      · exact .kTuple z1 z2
  | .dict _, _, e, _ => by cases e
theorem cx_isi {x : PyData} {n T : String} {b : Bool} (e : tyD x = some n) (k : kitB n T = some b) (h : P (.d (.bool b)) M) : CX K (rIsi K) [.d x, .v (.ty T)] M P := fun vs G H Q s m r q => by
  cases r with
  | cons r1 r2 =>
    cases r2 with
    | cons r2 r3 =>
      cases r3
      have e2 : _ = V.ty T := r2
      subst e2
      exact ⟨_, _, _, _, b, rfl, .ty T, Rp.ty s e r1, kit_ty k, q _ G H _ M h (Same.refl G) s m (.bl b)⟩
end
end CD
/-! CDLayer4: statements, loops, comprehensions, a def's promise. -/
namespace CD
open PySem PySem.Spec PyProof.Rows L2
/-! ### statements -/
structure DE where
  nx : List W → Mem → Prop
  rt : W → Mem → Prop
  bk : List W → Mem → Prop := fun _ _ => False
  ct : List W → Mem → Prop := fun _ _ => False
structure Lands (K : PySem.W.Frag) (G : Hp) (E : DE) (D : Ends) : Prop where
  nx : ∀ (ρ : List W) (M : Mem) (G' : Hp) (σ : L2.St) (H : Hp), E.nx ρ M → Same G G' → Same G' H → RepE K G' σ ρ → MemOk G' H M → D.nx σ H
  rt : ∀ (w : W) (M : Mem) (G' : Hp) (v : V) (H : Hp), E.rt w M → Same G G' → Same G' H → MemOk G' H M → RepW K G' v w → D.rt v H
  bk : ∀ (ρ : List W) (M : Mem) (G' : Hp) (σ : L2.St) (H : Hp), E.bk ρ M → Same G G' → Same G' H → RepE K G' σ ρ → MemOk G' H M → D.bk σ H
  ct : ∀ (ρ : List W) (M : Mem) (G' : Hp) (σ : L2.St) (H : Hp), E.ct ρ M → Same G G' → Same G' H → RepE K G' σ ρ → MemOk G' H M → D.ct σ H
theorem Lands.mono {K : PySem.W.Frag} {G G1 : Hp} {E : DE} {D : Ends} (h : Lands K G E D) (s : Same G G1) : Lands K G1 E D :=
  ⟨fun ρ M G' σ H a b => h.nx ρ M G' σ H a (s.trans b), fun w M G' v H a b => h.rt w M G' v H a (s.trans b), fun ρ M G' σ H a b => h.bk ρ M G' σ H a (s.trans b), fun ρ M G' σ H a b => h.ct ρ M G' σ H a (s.trans b)⟩
def Run (K : PySem.W.Frag) (t : TS) (E : DE) (ρ : List W) (M : Mem) : Prop :=
  ∀ (D : Ends) (σ : L2.St) (G H : Hp), Lands K G E D → Same G H → RepE K G σ ρ → MemOk G H M → t D σ H
section
variable {K : PySem.W.Frag} {ρ : List W} {M M' : Mem} {E : DE} {t u : TS} {te : TE} {tc : TT}
theorem Run.pre (l : MemLe M M') (h : Run K t E ρ M') : Run K t E ρ M := fun D σ G H L s e m => h D σ G H L s e (l G H m)
theorem run_seq (h : Run K t { E with nx := fun ρ' M' => Run K u E ρ' M' } ρ M) : Run K (tSeq t u) E ρ M := fun D σ G H L s e m =>
  h { D with nx := u D } σ G H ⟨fun ρ' M' G' σ' H' hr a b c d => hr D σ' G' H' (L.mono a) b c d, L.rt, L.bk, L.ct⟩ s e m
theorem run_next (h : E.nx ρ M) : Run K tNext E ρ M := fun D σ G H L s e m => L.nx ρ M G σ H h (Same.refl G) s e m
theorem run_asg {i : Nat} (h : TX K te ρ M fun w M' => E.nx (ρ.set i w) M') : Run K (tAsg te (gName i)) E ρ M := fun D σ G H L s e m =>
  h σ G H _ s e m fun v G' H' w M' p a b c d => L.nx (ρ.set i w) M' G' _ H' p a b ((e.mono a).set d) c
theorem q_asg {i : Nat} (h : TX K te ρ M fun w M' => Run K u E (ρ.set i w) M') : Run K (tSeq (tAsg te (gName i)) u) E ρ M := run_seq (run_asg h)
theorem run_drop (h : TX K te ρ M fun _ M' => E.nx ρ M') : Run K (tDrop te) E ρ M := fun D σ G H L s e m =>
  h σ G H _ s e m fun v G' H' w M' p a b c d => L.nx ρ M' G' _ H' p a b (e.mono a) c
theorem q_drop (h : TX K te ρ M fun _ M' => Run K u E ρ M') : Run K (tSeq (tDrop te) u) E ρ M := run_seq (run_drop h)
theorem run_ret (h : TX K te ρ M E.rt) : Run K (tRet te) E ρ M := fun D σ G H L s e m =>
  h σ G H _ s e m fun v G' H' w M' p a b c d => L.rt w M' G' v H' p a b c d
theorem run_retN (h : E.rt (.d .none) M) : Run K tRetN E ρ M := fun D σ G H L s e m => L.rt _ M G _ H h (Same.refl G) s m .non
theorem run_if (h : BX K tc ρ M fun b M1 => (b = true → Run K t E ρ M1) ∧ (b = false → Run K u E ρ M1)) : Run K (tIfS tc t u) E ρ M := fun D σ G H L s e m =>
  h σ G H _ s e m fun b G1 H1 M1 ⟨pt, pf⟩ a b' c => by
    cases b with
    | true =>
      rw [if_pos rfl]
      exact pt rfl D σ G1 H1 (L.mono a) b' (e.mono a) c
    | false =>
      rw [if_neg Bool.false_ne_true]
      exact pf rfl D σ G1 H1 (L.mono a) b' (e.mono a) c
/-- an if without else that never holds, and what follows it -/
theorem q_ifF {v : TS} (h : BX K tc ρ M fun b M1 => b = false ∧ Run K v E ρ M1) : Run K (tSeq (tIfS tc t tNext) v) E ρ M :=
  run_seq (run_if (h.imp fun b M1 ⟨e, r⟩ => ⟨fun e2 => (by rw [e] at e2; cases e2), fun _ => run_next r⟩))
theorem q_if {v : TS} (h : BX K tc ρ M fun b M1 => (b = true → Run K t { E with nx := fun ρ' M' => Run K v E ρ' M' } ρ M1) ∧ (b = false → Run K u { E with nx := fun ρ' M' => Run K v E ρ' M' } ρ M1)) : Run K (tSeq (tIfS tc t u) v) E ρ M := run_seq (run_if h)
/-- an if whose branch leaves -/
theorem q_ifR {v : TS} (h : BX K tc ρ M fun b M1 => (b = true → Run K t { E with nx := fun ρ' M' => Run K v E ρ' M' } ρ M1) ∧ (b = false → Run K v E ρ M1)) : Run K (tSeq (tIfS tc t tNext) v) E ρ M :=
  run_seq (run_if (h.imp fun b M1 ⟨a, c⟩ => ⟨a, fun e => run_next (c e)⟩))
theorem run_break (h : E.bk ρ M) : Run K tBreak E ρ M := fun D σ G H L s e m => L.bk ρ M G σ H h (Same.refl G) s e m
theorem run_cont (h : E.ct ρ M) : Run K tCont E ρ M := fun D σ G H L s e m => L.ct ρ M G σ H h (Same.refl G) s e m
theorem run_par {i j : Nat} {ta : TA} (h : AX K ta ρ M fun ws M' => ∃ a b, ws = [a, b] ∧ E.nx ((ρ.set i a).set j b) M') : Run K (tPar i j ta) E ρ M := fun D σ G H L s e m =>
  h σ G H _ s e m fun vs G' H' ws M' ⟨a, b, ew, p⟩ s1 s2 m1 r => by
    subst ew
    cases r with
    | cons r1 r =>
      cases r with
      | cons r2 r =>
        cases r
        exact ⟨_, _, rfl, L.nx _ M' G' _ H' p s1 s2 (((e.mono s1).set r1).set r2) m1⟩
theorem q_par {i j : Nat} {ta : TA} (h : AX K ta ρ M fun ws M' => ∃ a b, ws = [a, b] ∧ Run K u E ((ρ.set i a).set j b) M') : Run K (tSeq (tPar i j ta) u) E ρ M := run_seq (run_par h)
theorem run_par3 {i j l : Nat} {ta : TA} (h : AX K ta ρ M fun ws M' => ∃ a b c, ws = [a, b, c] ∧ E.nx (((ρ.set i a).set j b).set l c) M') : Run K (tPar3 i j l ta) E ρ M := fun D σ G H L s e m =>
  h σ G H _ s e m fun vs G' H' ws M' ⟨a, b, c, ew, p⟩ s1 s2 m1 r => by
    subst ew
    cases r with
    | cons r1 r =>
      cases r with
      | cons r2 r =>
        cases r with
        | cons r3 r =>
          cases r
          exact ⟨_, _, _, rfl, L.nx _ M' G' _ H' p s1 s2 ((((e.mono s1).set r1).set r2).set r3) m1⟩
theorem q_par3 {i j l : Nat} {ta : TA} (h : AX K ta ρ M fun ws M' => ∃ a b c, ws = [a, b, c] ∧ Run K u E (((ρ.set i a).set j b).set l c) M') : Run K (tSeq (tPar3 i j l ta) u) E ρ M := run_seq (run_par3 h)
/-! ### targets -/
/-- the slots is get the data x -/
def GX (K : PySem.W.Frag) (g : TG) (x : PyData) (ρ ρ' : List W) (is : List Nat) : Prop :=
  ∀ (v : V) (σ : L2.St) (G H : Hp) (Q : L2.St → Hp → Prop), Same G H → RepE K G σ ρ → Rp K G v x →
    (∀ σ' : L2.St, RepE K G σ' ρ' → σ'.length = σ.length → (∀ j : Nat, j ∉ is → σ'[j]? = σ[j]?) → Q σ' H) → g v σ H Q
theorem gx_name {i : Nat} {x : PyData} : GX K (gName i) x ρ (ρ.set i (.d x)) [i] := fun v σ G H Q s e r q =>
  q _ (e.set r) (by simp) fun j hj => List.getElem?_set_ne (by simp at hj; omega)
def GXs (K : PySem.W.Frag) (g : TGs) (xs : List PyData) (ρ ρ' : List W) (is : List Nat) : Prop :=
  ∀ (vs : List V) (σ : L2.St) (G H : Hp) (Q : L2.St → Hp → Prop), Same G H → RepE K G σ ρ → RpAll K G vs xs →
    (∀ σ' : L2.St, RepE K G σ' ρ' → σ'.length = σ.length → (∀ j : Nat, j ∉ is → σ'[j]? = σ[j]?) → Q σ' H) → g vs σ H Q
theorem gxs_nil : GXs K gNil [] ρ ρ [] := fun vs σ G H Q s e r q => by
  cases r
  exact ⟨rfl, q σ e rfl fun _ _ => rfl⟩
theorem gxs_cons {g : TG} {gs : TGs} {x : PyData} {xs : List PyData} {ρ1 ρ2 : List W} {is js : List Nat} (h : GX K g x ρ ρ1 is) (hs : GXs K gs xs ρ1 ρ2 js) : GXs K (gCons g gs) (x :: xs) ρ ρ2 (is ++ js) := fun vs σ G H Q s e r q => by
  cases r with
  | cons r1 r2 =>
    exact ⟨_, _, rfl, h _ σ G H _ s e r1 fun σ1 e1 l1 k1 => hs _ σ1 G H Q s e1 r2 fun σ2 e2 l2 k2 => q σ2 e2 (l2.trans l1) fun j hj => by
      rw [List.mem_append, not_or] at hj
      rw [k2 j hj.2, k1 j hj.1]⟩
theorem gx_tup {gs : TGs} {xs : List PyData} {n : Nat} {ρ' : List W} {is : List Nat} (hn : xs.length = n) (h : GXs K gs xs ρ ρ' is) : GX K (gTup K n gs) (.tuple xs) ρ ρ' is := fun v σ G H Q s e r q => by
  cases r with
  | @tup a as _ ha hra => exact ⟨a, as, rfl, same_t s ha, hra.length.trans hn, h as σ G H Q s e hra q⟩
theorem gx_2 {i j : Nat} {x y : PyData} : GX K (gTup K 2 (gCons (gName i) (gCons (gName j) gNil))) (.tuple [x, y]) ρ ((ρ.set i (.d x)).set j (.d y)) [i, j] := gx_tup rfl (gxs_cons gx_name (gxs_cons gx_name gxs_nil))
theorem gx_3 {i j l : Nat} {x y z : PyData} : GX K (gTup K 3 (gCons (gName i) (gCons (gName j) (gCons (gName l) gNil)))) (.tuple [x, y, z]) ρ (((ρ.set i (.d x)).set j (.d y)).set l (.d z)) [i, j, l] := gx_tup rfl (gxs_cons gx_name (gxs_cons gx_name (gxs_cons gx_name gxs_nil)))
theorem run_unp {g : TG} (h : TX K te ρ M fun w M' => ∃ x ρ' is, w = .d x ∧ GX K g x ρ ρ' is ∧ E.nx ρ' M') : Run K (tAsg te g) E ρ M := fun D σ G H L s e m =>
  h σ G H _ s e m fun v G' H' w M' ⟨x, ρ', is, ew, hg, p⟩ a b c d => by
    subst ew
    exact hg v σ G' H' _ b (e.mono a) d fun σ' e' _ _ => L.nx ρ' M' G' σ' H' p a b e' c
theorem q_unp {g : TG} (h : TX K te ρ M fun w M' => ∃ x ρ' is, w = .d x ∧ GX K g x ρ ρ' is ∧ Run K u E ρ' M') : Run K (tSeq (tAsg te g) u) E ρ M := run_seq (run_unp h)
/-! ### what is walked -/
/-- the turns of J over the data ds, from the heap G1 on -/
structure Walk (K : PySem.W.Frag) (J : It) (G1 : Hp) (ds : List PyData) : Prop where
  stop : ∀ H, Same G1 H → J.stop ds.length H
  go : ∀ i H, i < ds.length → Same G1 H → J.go i H
  yld : ∀ (i : Nat) (x : PyData) (G H : Hp) (M : Mem) (v : V) (H' : Hp), ds[i]? = some x → Same G1 G → Same G H → MemOk G H M → J.yld i H v H' → ∃ G' : Hp, Same G G' ∧ Same G' H' ∧ MemOk G' H' M ∧ Rp K G' v x
def IX (K : PySem.W.Frag) (wi : TI) (ρ : List W) (M : Mem) (P : List PyData → Mem → Prop) : Prop :=
  ∀ (σ : L2.St) (G H : Hp) (R : It → Hp → Prop), Same G H → RepE K G σ ρ → MemOk G H M →
    (∀ (J : It) (G1 H1 : Hp) (ds : List PyData) (M1 : Mem), P ds M1 → Same G G1 → Same G1 H1 → MemOk G1 H1 M1 → Walk K J G1 ds → R J H1) → wi σ H R
/-- lo, lo + 1, .. -/
def rngD (lo : Int) (n : Nat) : List PyData := (List.range n).map fun i : Nat => PyData.int (lo + (i : Int))
theorem rngD_len (lo : Int) (n : Nat) : (rngD lo n).length = n := by simp [rngD]
theorem rngD_get {lo : Int} {n i : Nat} {x : PyData} (h : (rngD lo n)[i]? = some x) : i < n ∧ x = .int (lo + (i : Int)) := by
  have hi : i < n := by
    have := (List.getElem?_eq_some_iff.mp h).1
    rwa [rngD_len] at this
  refine ⟨hi, ?_⟩
  unfold rngD at h
  rw [List.getElem?_map, List.getElem?_range hi] at h
  cases h
  rfl
theorem walk_rng {G1 : Hp} {lo : Int} {n : Nat} : Walk K (Itr lo n) G1 (rngD lo n) where
  stop := fun H _ => by show n ≤ _; rw [rngD_len]; exact Nat.le_refl _
  go := fun i H hi _ => by show i < n; rw [rngD_len] at hi; exact hi
  yld := fun i x G H M v H' hx s1 s m hy => by
    obtain ⟨e1, e2⟩ := hy
    subst e1 e2
    obtain ⟨_, e3⟩ := rngD_get hx
    subst e3
    exact ⟨G, Same.refl G, s, m, .int _⟩
theorem wx_rng1 {ta : TA} {P : List PyData → Mem → Prop} (h : AX K ta ρ M fun ws M1 => ∃ n : Int, ws = [.d (.int n)] ∧ n < 2 ^ 62 ∧ 0 ≤ n ∧ P (rngD 0 n.toNat) M1) : IX K (iRng1 ta) ρ M P := fun σ G H R s e m q =>
  h σ G H _ s e m fun vs G1 H1 ws M1 ⟨n, ew, h1, h2, p⟩ s1 s1' m1 r => by
    subst ew
    cases r with
    | cons r1 r =>
      cases r
      cases (show Rp K G1 _ (.int n) from r1)
      exact ⟨n, rfl, by omega, h1, q _ G1 H1 _ M1 p s1 s1' m1 walk_rng⟩
theorem wx_rng2 {ta : TA} {P : List PyData → Mem → Prop} (h : AX K ta ρ M fun ws M1 => ∃ lo n : Int, ws = [.d (.int lo), .d (.int n)] ∧ (-(2 ^ 62) ≤ lo ∧ lo < 2 ^ 62 ∧ -(2 ^ 62) ≤ n ∧ n < 2 ^ 62) ∧ P (rngD lo (n - lo).toNat) M1) : IX K (iRng2 ta) ρ M P := fun σ G H R s e m q =>
  h σ G H _ s e m fun vs G1 H1 ws M1 ⟨lo, n, ew, hb, p⟩ s1 s1' m1 r => by
    subst ew
    cases r with
    | cons r1 r =>
      cases r with
      | cons r2 r =>
        cases r
        cases (show Rp K G1 _ (.int lo) from r1)
        cases (show Rp K G1 _ (.int n) from r2)
        exact ⟨lo, n, rfl, hb, q _ G1 H1 _ M1 p s1 s1' m1 walk_rng⟩
theorem walk_tup {G1 : Hp} {a : Addr} {xs : List V} {ds : List PyData} (h : SqT K G1 a xs) (r : RpAll K G1 xs ds) : Walk K (Itt K a) G1 ds where
  stop := fun H s => ⟨xs, same_t s h, by rw [r.length]; exact Nat.le_refl _⟩
  go := fun i H hi s => ⟨xs, xs[i]'(by rw [r.length]; exact hi), same_t s h, by simp⟩
  yld := fun i x G H M v H' hx s1 s m hy => by
    obtain ⟨e1, e2⟩ := hy
    subst e1
    obtain ⟨v', h1, h2⟩ := r.get hx
    have := e2 xs (same_t (s1.trans s) h)
    rw [h1] at this
    cases this
    exact ⟨G, Same.refl G, s, m, Rp.mono s1 _ _ h2⟩
theorem walk_lst {G1 : Hp} {a : Addr} {xs : List V} {ds : List PyData} (h : G1 a = some (.lst xs)) (r : RpAll K G1 xs ds) : Walk K (Itl K a) G1 ds where
  stop := fun H s => ⟨xs, SqL.of (s _ _ h), by rw [r.length]; exact Nat.le_refl _⟩
  go := fun i H hi s => ⟨xs, xs[i]'(by rw [r.length]; exact hi), SqL.of (s _ _ h), by simp⟩
  yld := fun i x G H M v H' hx s1 s m hy => by
    obtain ⟨e1, e2⟩ := hy
    subst e1
    obtain ⟨v', h1, h2⟩ := r.get hx
    have := e2 xs (SqL.of ((s1.trans s) _ _ h))
    rw [h1] at this
    cases this
    exact ⟨G, Same.refl G, s, m, Rp.mono s1 _ _ h2⟩
theorem wx_tup {tl : TE} {P : List PyData → Mem → Prop} (h : TX K tl ρ M fun w M1 => ∃ ds, w = .d (.tuple ds) ∧ P ds M1) : IX K (iTup K tl) ρ M P := fun σ G H R s e m q =>
  h σ G H _ s e m fun v G1 H1 w M1 ⟨ds, ew, p⟩ s1 s1' m1 r => by
    subst ew
    cases (show Rp K G1 _ (.tuple ds) from r) with
    | @tup a as _ ha hra => exact ⟨a, rfl, ⟨as, same_t s1' ha⟩, q _ G1 H1 _ M1 p s1 s1' m1 (walk_tup ha hra)⟩
theorem wx_lst {tl : TE} {P : List PyData → Mem → Prop} (h : TX K tl ρ M fun w M1 => ∃ ds, w = .d (.list ds) ∧ P ds M1) : IX K (iList K tl) ρ M P := fun σ G H R s e m q =>
  h σ G H _ s e m fun v G1 H1 w M1 ⟨ds, ew, p⟩ s1 s1' m1 r => by
    subst ew
    cases (show Rp K G1 _ (.list ds) from r) with
    | @lst a as _ ha hra => exact ⟨a, rfl, ⟨as, SqL.of (s1' _ _ ha)⟩, q _ G1 H1 _ M1 p s1 s1' m1 (walk_lst ha hra)⟩
def zipD (xs ys : List PyData) : List PyData := List.zipWith (fun x y => PyData.tuple [x, y]) xs ys
theorem wx_zipT {ta : TA} {P : List PyData → Mem → Prop} (h : AX K ta ρ M fun ws M1 => ∃ xs ys, ws = [.d (.tuple xs), .d (.tuple ys)] ∧ P (zipD xs ys) M1) : IX K (RZ.iZipA K ta) ρ M P := fun σ G H R s e m q =>
  h σ G H _ s e m fun vs G1 H1 ws M1 ⟨xs, ys, ew, p⟩ s1 s1' m1 r => by
    subst ew
    cases r with
    | cons r1 r =>
      cases r with
      | cons r2 r =>
        cases r
        cases (show Rp K G1 _ (.tuple xs) from r1) with
        | @tup a as _ ha hra =>
          cases (show Rp K G1 _ (.tuple ys) from r2) with
          | @tup b bs _ hb hrb =>
            refine ⟨a, b, as, bs, rfl, .inr ⟨same_t s1' ha, same_t s1' hb, q _ G1 H1 _ M1 p s1 s1' m1 ⟨fun H' s' => ?_, fun i H' hi s' => ?_, ?_⟩⟩⟩
            · refine ⟨as, bs, same_t s' ha, same_t s' hb, ?_⟩
              unfold zipD
              rw [List.length_zipWith, hra.length, hrb.length]
              omega
            · unfold zipD at hi
              rw [List.length_zipWith] at hi
              have h1 : i < as.length := by rw [hra.length]; omega
              have h2 : i < bs.length := by rw [hrb.length]; omega
              exact ⟨as, bs, as[i], bs[i], same_t s' ha, same_t s' hb, by simp, by simp⟩
            · intro i x G' H' M' v H'' hx t1 t m' hy
              obtain ⟨T, y1, y2, rfl, hT, rfl, f1, f2⟩ := hy
              unfold zipD at hx
              rw [List.getElem?_zipWith] at hx
              cases q1 : xs[i]? with
              | none => rw [q1] at hx; cases hx
              | some x1 =>
                cases q2 : ys[i]? with
                | none => rw [q1, q2] at hx; cases hx
                | some x2 =>
                  rw [q1, q2] at hx
                  cases hx
                  obtain ⟨v1, e1, z1⟩ := hra.get q1
                  obtain ⟨v2, e2, z2⟩ := hrb.get q2
                  have f1' := f1 as (same_t (t1.trans t) ha)
                  have f2' := f2 bs (same_t (t1.trans t) hb)
                  rw [e1] at f1'
                  rw [e2] at f2'
                  have g1' := Option.some.inj f1'
                  have g2' := Option.some.inj f2'
                  subst g1' g2'
                  have sn := same_new (o := .tup [v1, v2]) (t.free hT)
                  exact ⟨_, sn, same_upd2 t, m'.new t hT, .tup (SqT.of upd_same) (.cons (Rp.mono (t1.trans sn) _ _ z1) (.cons (Rp.mono (t1.trans sn) _ _ z2) .nil))⟩
/-! ### for -/
theorem run_for {wi : TI} {g : TG} {tb : TS} (I : Nat → List W → Mem → Prop) (h : IX K wi ρ M fun ds M1 => I 0 ρ M1 ∧
    (∀ (i : Nat) (x : PyData) (ρ' : List W) (M' : Mem), ds[i]? = some x → I i ρ' M' → ∃ ρ2 is, GX K g x ρ' ρ2 is ∧ Run K tb { E with nx := I (i + 1), ct := I (i + 1), bk := E.nx } ρ2 M') ∧
    (∀ ρ' M', I ds.length ρ' M' → E.nx ρ' M')) : Run K (tFor wi g tb) E ρ M := fun D σ G H L s e m =>
  h σ G H _ s e m fun J G1 H1 ds M1 ⟨h0, hs, hd⟩ s1 s1' m1 wk => by
    refine ⟨fun i m σ' H' => m = ds.length - i ∧ i ≤ ds.length ∧ ∃ ρ' M' G', I i ρ' M' ∧ Same G1 G' ∧ Same G' H' ∧ RepE K G' σ' ρ' ∧ MemOk G' H' M',
      ⟨ds.length, by simp, Nat.zero_le _, ρ, M1, G1, h0, Same.refl _, s1', e.mono s1, m1⟩, ?_⟩
    rintro i mm σ' H' ⟨rfl, hi, ρ', M', G', hI, a1, a2, a3, a4⟩
    by_cases hlt : i < ds.length
    · refine .inr ⟨wk.go i H' hlt (a1.trans a2), fun σ2 H2 => ∃ ρ2 M2 G2, I (i + 1) ρ2 M2 ∧ Same G1 G2 ∧ Same G2 H2 ∧ RepE K G2 σ2 ρ2 ∧ MemOk G2 H2 M2, fun σ2 H2 ⟨ρ2, M2, G2, b⟩ => ⟨ds.length - (i + 1), by omega, rfl, hlt, ρ2, M2, G2, b⟩, fun x H2 hy => ?_⟩
      have hx : ds[i]? = some ds[i] := List.getElem?_eq_getElem hlt
      obtain ⟨G2, b1, b2, b3, b4⟩ := wk.yld i _ G' H' M' x H2 hx a1 a2 a4 hy
      obtain ⟨ρ2, is, hg, hr⟩ := hs i _ ρ' M' hx hI
      refine hg x σ' G2 H2 _ b2 (a3.mono b1) b4 fun σ3 e3 _ _ => hr _ σ3 G2 H2 ⟨fun ρ4 M4 G4 σ4 H4 c1 c2 c3 c4 c5 => ⟨ρ4, M4, G4, c1, (a1.trans b1).trans c2, c3, c4, c5⟩, fun w M4 G4 v H4 c1 c2 => L.rt w M4 G4 v H4 c1 (((s1.trans a1).trans b1).trans c2), fun ρ4 M4 G4 σ4 H4 c1 c2 => L.nx ρ4 M4 G4 σ4 H4 c1 (((s1.trans a1).trans b1).trans c2),
        fun ρ4 M4 G4 σ4 H4 c1 c2 c3 c4 c5 => ⟨ρ4, M4, G4, c1, (a1.trans b1).trans c2, c3, c4, c5⟩⟩ b2 e3 b3
    · have e' : i = ds.length := by omega
      subst e'
      exact .inl ⟨wk.stop H' (a1.trans a2), L.nx ρ' M' G' σ' H' (hd ρ' M' hI) (s1.trans a1) a2 a3 a4⟩
theorem q_for {wi : TI} {g : TG} {tb : TS} (I : Nat → List W → Mem → Prop) (h : IX K wi ρ M fun ds M1 => I 0 ρ M1 ∧
    (∀ (i : Nat) (x : PyData) (ρ' : List W) (M' : Mem), ds[i]? = some x → I i ρ' M' → ∃ ρ2 is, GX K g x ρ' ρ2 is ∧ Run K tb { E with nx := I (i + 1), ct := I (i + 1), bk := fun ρ' M' => Run K u E ρ' M' } ρ2 M') ∧
    (∀ ρ' M', I ds.length ρ' M' → Run K u E ρ' M')) : Run K (tSeq (tFor wi g tb) u) E ρ M := run_seq (run_for I h)
/-! ### while -/
theorem run_while {tb : TS} (I : Nat → List W → Mem → Prop) (m0 : Nat) (h0 : I m0 ρ M) (hs : ∀ (n : Nat) (ρ' : List W) (M' : Mem), I n ρ' M' → BX K tc ρ' M' fun b M1 =>
    (b = true → Run K tb { E with nx := fun ρ2 M2 => ∃ n', n' < n ∧ I n' ρ2 M2, ct := fun ρ2 M2 => ∃ n', n' < n ∧ I n' ρ2 M2, bk := E.nx } ρ' M1) ∧ (b = false → E.nx ρ' M1)) : Run K (tWhile tc tb) E ρ M := fun D σ G H L s e m => by
  refine ⟨fun n σ' H' => ∃ ρ' M' G', I n ρ' M' ∧ Same G G' ∧ Same G' H' ∧ RepE K G' σ' ρ' ∧ MemOk G' H' M', ⟨m0, ρ, M, G, h0, Same.refl G, s, e, m⟩, ?_⟩
  rintro n σ' H' ⟨ρ', M', G', hI, a1, a2, a3, a4⟩
  refine hs n ρ' M' hI σ' G' H' _ a2 a3 a4 fun b G1 H1 M1 ⟨pt, pf⟩ b1 b2 b3 => ?_
  cases b with
  | true =>
    rw [if_pos rfl]
    refine ⟨fun σ2 H2 => ∃ n', n' < n ∧ ∃ ρ2 M2 G2, I n' ρ2 M2 ∧ Same G G2 ∧ Same G2 H2 ∧ RepE K G2 σ2 ρ2 ∧ MemOk G2 H2 M2, fun σ2 H2 ⟨n', hn, z⟩ => ⟨n', hn, z⟩, ?_⟩
    exact pt rfl _ σ' G1 H1 ⟨fun ρ4 M4 G4 σ4 H4 ⟨n', hn, c1⟩ c2 c3 c4 c5 => ⟨n', hn, ρ4, M4, G4, c1, (a1.trans b1).trans c2, c3, c4, c5⟩, fun w M4 G4 v H4 c1 c2 => L.rt w M4 G4 v H4 c1 ((a1.trans b1).trans c2), fun ρ4 M4 G4 σ4 H4 c1 c2 => L.nx ρ4 M4 G4 σ4 H4 c1 ((a1.trans b1).trans c2),
      fun ρ4 M4 G4 σ4 H4 ⟨n', hn, c1⟩ c2 c3 c4 c5 => ⟨n', hn, ρ4, M4, G4, c1, (a1.trans b1).trans c2, c3, c4, c5⟩⟩ b2 (a3.mono b1) b3
  | false =>
    rw [if_neg Bool.false_ne_true]
    exact L.nx ρ' M1 G1 σ' H1 (pf rfl) (a1.trans b1) b2 (a3.mono b1) b3
theorem q_while {tb : TS} (I : Nat → List W → Mem → Prop) (m0 : Nat) (h0 : I m0 ρ M) (hs : ∀ (n : Nat) (ρ' : List W) (M' : Mem), I n ρ' M' → BX K tc ρ' M' fun b M1 =>
    (b = true → Run K tb { E with nx := fun ρ2 M2 => ∃ n', n' < n ∧ I n' ρ2 M2, ct := fun ρ2 M2 => ∃ n', n' < n ∧ I n' ρ2 M2, bk := fun ρ2 M2 => Run K u E ρ2 M2 } ρ' M1) ∧ (b = false → Run K u E ρ' M1)) : Run K (tSeq (tWhile tc tb) u) E ρ M := run_seq (run_while I m0 h0 hs)
/-! ### lists that change -/
theorem mt_app {ta : TE} {a : Addr} {ds : List PyData} (hl : ds.length < 100000) (h : TX K ta ρ ((a, mLst K ds) :: M) fun w M1 => ∃ x, w = .d x ∧ M1 = (a, mLst K ds) :: M ∧ E.nx ρ ((a, mLst K (ds ++ [x])) :: M)) {i : Nat} (hi : ρ[i]? = some (.v (.ref a))) :
    Run K (tDrop (tBM K "list" rAppend (tVar i) (tCons ta tNil))) E ρ ((a, mLst K ds) :: M) := fun D σ G H L s e m => by
  have e1 : σ[i]? = some (some (.ref a)) := e.at_ i _ hi
  obtain ⟨_, o, ho, as, eo, hra⟩ := m.head
  subst eo
  refine ⟨.ref a, e1, .inl ⟨rfl, _, SqL.of ho⟩, ?_⟩
  refine h σ G H _ s e m fun v G1 H1 w M1 ⟨x, ew, eM, p⟩ s1 s1' m1 r1 => ?_
  subst ew eM
  obtain ⟨g1, o1, ho1, as1, eo1, hra1⟩ := m1.head
  subst eo1
  have hlen := hra1.length
  refine ⟨a, as1, v, rfl, rfl, ho1, Nat.lt_of_lt_of_le (by omega) (by decide : 100000 ≤ sizeLine), ?_⟩
  exact L.nx ρ _ G1 _ _ p s1 (same_mut s1' g1) (e.mono s1) (m1.put ⟨_, rfl, hra1.app (.cons r1 .nil)⟩)
theorem q_app {ta : TE} {a : Addr} {ds : List PyData} (hl : ds.length < 100000) {i : Nat} (hi : ρ[i]? = some (.v (.ref a))) (h : TX K ta ρ ((a, mLst K ds) :: M) fun w M1 => ∃ x, w = .d x ∧ M1 = (a, mLst K ds) :: M ∧ Run K u E ρ ((a, mLst K (ds ++ [x])) :: M)) :
    Run K (tSeq (tDrop (tBM K "list" rAppend (tVar i) (tCons ta tNil))) u) E ρ ((a, mLst K ds) :: M) := run_seq (mt_app hl h hi)
/-- a[k] = e -/
theorem run_setL {ti : TE} {a : Addr} {ds : List PyData} {i : Nat} {k : Int} {j : Nat} (hi : ρ[i]? = some (.v (.ref a))) (hj : ixN ds.length k = some j) (h : TX K te ρ ((a, mLst K ds) :: M) fun w M1 => ∃ x, w = .d x ∧ M1 = (a, mLst K ds) :: M ∧ E.nx ρ ((a, mLst K (ds.set j x)) :: M)) :
    Run K (tAsg te (gSub (tVar i) (tC (.int k)) rSetL)) E ρ ((a, mLst K ds) :: M) := fun D σ G H L s e m => by
  refine h σ G H _ s e m fun v G1 H1 w M1 ⟨x, ew, eM, p⟩ s1 s1' m1 r1 => ?_
  subst ew eM
  have e1 : σ[i]? = some (some (.ref a)) := e.at_ i _ hi
  obtain ⟨g1, o1, ho1, as1, eo1, hra1⟩ := m1.head
  subst eo1
  have hlen := hra1.length
  have setAll : ∀ (vs : List V) (es : List PyData) (j : Nat), RpAll K G1 vs es → RpAll K G1 (vs.set j v) (es.set j x) := by
    intro vs
    induction vs with
    | nil => intro es j h; cases h; exact .nil
    | cons y ys ih =>
      intro es j h
      cases h with
      | cons h1 h2 =>
        cases j with
        | zero => exact .cons r1 h2
        | succ j => exact .cons h1 (ih _ j h2)
  refine ⟨.ref a, e1, a, as1, k, j, rfl, rfl, ho1, by rw [hlen]; exact hj, ?_⟩
  exact L.nx ρ _ G1 _ _ p s1 (same_mut s1' g1) (e.mono s1) (m1.put ⟨_, rfl, setAll as1 ds j hra1⟩)
theorem q_setL {a : Addr} {ds : List PyData} {i : Nat} {k : Int} {j : Nat} (hi : ρ[i]? = some (.v (.ref a))) (hj : ixN ds.length k = some j) (h : TX K te ρ ((a, mLst K ds) :: M) fun w M1 => ∃ x, w = .d x ∧ M1 = (a, mLst K ds) :: M ∧ Run K u E ρ ((a, mLst K (ds.set j x)) :: M)) :
    Run K (tSeq (tAsg te (gSub (tVar i) (tC (.int k)) rSetL)) u) E ρ ((a, mLst K ds) :: M) := run_seq (run_setL (ti := te) hi hj h)
/-- a list that changes no more -/
theorem run_freeze {a : Addr} {ds : List PyData} {ρ' : List W} (hρ : ρ'.length = ρ.length ∧ ∀ (i : Nat) (w : W), ρ'[i]? = some w → ρ[i]? = some w ∨ (ρ[i]? = some (.v (.ref a)) ∧ w = .d (.list ds)) ∨ w = .u) (h : Run K t E ρ' M) : Run K t E ρ ((a, mLst K ds) :: M) := fun D σ G H L s e m => by
  obtain ⟨g, o, ho, as, eo, hra⟩ := m.head
  subst eo
  obtain ⟨s1, s2, m2⟩ := m.freeze s ho
  refine h D σ _ H (L.mono s1) s2 ⟨e.len.trans hρ.1.symm, fun i w hw => ?_⟩ m2
  rcases hρ.2 i w hw with z | ⟨z, rfl⟩ | rfl
  · exact (e.at_ i w z).mono s1
  · have e1 : σ[i]? = some (some (.ref a)) := e.at_ i _ z
    exact ⟨.ref a, e1, .lst upd_same (RpAll.mono s1 _ _ hra)⟩
  · trivial
/-- forgetting what a slot holds -/
theorem run_forget {ρ' : List W} (hρ : ρ'.length = ρ.length ∧ ∀ (i : Nat) (w : W), ρ'[i]? = some w → ρ[i]? = some w ∨ w = .u) (h : Run K t E ρ' M) : Run K t E ρ M := fun D σ G H L s e m =>
  h D σ G H L s ⟨e.len.trans hρ.1.symm, fun i w hw => by
    rcases hρ.2 i w hw with z | rfl
    · exact e.at_ i w z
    · trivial⟩ m
end
end CD
/-! CDLayer5: list comprehensions; a def's promise. -/
namespace CD
open PySem PySem.Spec PyProof.Rows L2
/-! ### comprehensions -/
def wipeW (ρ : List W) : List Nat → List W
  | [] => ρ
  | v :: vs => (wipeW ρ vs).set v .u
theorem wipe_get {σ : L2.St} {j : Nat} : ∀ (vs : List Nat), (wipe σ vs)[j]? = if j ∈ vs ∧ j < σ.length then some none else σ[j]?
  | [] => by simp [wipe]
  | v :: vs => by
    unfold wipe
    rw [List.getElem?_set, wipe_length, wipe_get vs]
    by_cases h : v = j
    · subst h
      by_cases hl : v < σ.length
      · simp [hl]
      · simp [hl]
    · have h' : ¬ j = v := fun e => h e.symm
      simp [h, h']
theorem wipe_eq {σ τ : L2.St} {vs : List Nat} (hl : σ.length = τ.length) (h : ∀ j, j ∉ vs → σ[j]? = τ[j]?) : wipe σ vs = wipe τ vs := by
  apply List.ext_getElem?
  intro j
  rw [wipe_get, wipe_get, hl]
  by_cases hj : j ∈ vs
  · by_cases hl2 : j < τ.length
    · simp [hj, hl2]
    · simp [hl2]
      omega
  · simp [hj]
    exact h j hj
theorem wipe_wipe (σ : L2.St) (vs : List Nat) : wipe (wipe σ vs) vs = wipe σ vs := by
  apply wipe_eq (wipe_length σ vs)
  intro j hj
  rw [wipe_get]
  simp [hj]
section
variable {K : PySem.W.Frag} {ρ : List W} {M M' : Mem} {P : W → Mem → Prop} {E : DE} {t u : TS} {te : TE} {tt : TT} {wi : TI} {g : TG}
theorem RepE.setU {G : Hp} {σ : L2.St} (h : RepE K G σ ρ) (i : Nat) : RepE K G (σ.set i none) (ρ.set i .u) := by
  refine ⟨by simp [h.len], fun j w' e => ?_⟩
  by_cases hj : i = j
  · subst hj
    rw [List.getElem?_set] at e
    simp only [if_true] at e
    split at e
    · cases e; trivial
    · cases e
  · rw [List.getElem?_set_ne hj] at e
    rw [List.getElem?_set_ne hj]
    exact h.at_ j w' e
theorem RepE.wipe {G : Hp} {σ : L2.St} (h : RepE K G σ ρ) : ∀ vs : List Nat, RepE K G (L2.wipe σ vs) (wipeW ρ vs)
  | [] => h
  | v :: vs => (RepE.wipe h vs).setU v
/-- what the turns give: the turns where f holds, by v -/
def given (n : Nat) (f : Nat → Bool) (v : Nat → PyData) : List PyData := ((List.range n).filter f).map v
theorem given_congr {n : Nat} {f f' : Nat → Bool} {v v' : Nat → PyData} (h : ∀ i, i < n → f i = f' i) (hv : ∀ i, i < n → f i = true → v i = v' i) : given n f v = given n f' v' := by
  unfold given
  have e : (List.range n).filter f = (List.range n).filter f' := List.filter_congr fun i hi => h i (List.mem_range.mp hi)
  rw [← e]
  apply List.map_congr_left
  intro i hi
  have := List.mem_filter.mp hi
  exact hv i (List.mem_range.mp this.1) this.2
theorem given_succ {n : Nat} {f : Nat → Bool} {v : Nat → PyData} : given (n + 1) f v = given n f v ++ (if f n = true then [v n] else []) := by
  unfold given
  rw [List.range_succ, List.filter_append, List.map_append]
  congr 1
  by_cases h : f n = true
  · simp [h]
  · simp [h]
theorem given_len (n : Nat) (f : Nat → Bool) (v : Nat → PyData) : (given n f v).length ≤ n := by
  unfold given
  rw [List.length_map]
  have h := List.length_filter_le f (List.range n)
  rwa [List.length_range] at h
/-- .. as a filter and a map of the data walked -/
theorem given_eq {ds : List PyData} {f : Nat → Bool} {v : Nat → PyData} (p : PyData → Bool) (q : PyData → PyData) (h : ∀ i x, ds[i]? = some x → f i = p x ∧ (p x = true → v i = q x)) : given ds.length f v = (ds.filter p).map q := by
  have all : ∀ n, n ≤ ds.length → given n f v = ((ds.take n).filter p).map q := by
    intro n
    induction n with
    | zero => intro _; rfl
    | succ n ih =>
      intro hn
      have hx : ds[n]? = some ds[n] := List.getElem?_eq_getElem (by omega)
      obtain ⟨h1, h2⟩ := h n _ hx
      rw [given_succ, ih (by omega), List.take_add_one, hx, List.filter_append, List.map_append, h1]
      congr 1
      by_cases hp : p ds[n] = true
      · simp [hp, h2 hp]
      · simp [hp]
  rw [all ds.length (Nat.le_refl _), List.take_length]
/-- THE RULE for a list comprehension: C i b: turn i may be taken (b) or left; Vl i y: it may give y -/
theorem tx_lc {vs : List Nat} (h : IX K wi ρ M fun ds M1 => ∃ (C : Nat → Bool → Prop) (Vl : Nat → PyData → Prop), ds.length ≤ 50000 ∧
    (∀ (i : Nat) (x : PyData) (F : Mem), ds[i]? = some x → ∃ ρ2 is, GX K g x (wipeW ρ vs) ρ2 is ∧ (∀ j ∈ is, j ∈ vs) ∧
      BX K tt ρ2 (M1 ++ F) fun b M2 => M2 = M1 ++ F ∧ C i b ∧ (b = true → TX K te ρ2 (M1 ++ F) fun w M3 => M3 = M1 ++ F ∧ ∃ y, w = .d y ∧ Vl i y)) ∧
    (∀ (f : Nat → Bool) (v : Nat → PyData), (∀ i, i < ds.length → C i (f i)) → (∀ i, i < ds.length → f i = true → Vl i (v i)) → P (.d (.list (given ds.length f v))) M1)) : TX K (tLc wi g tt te vs) ρ M P := fun σ G H Q s e m q =>
  h σ G H _ s e m fun J G1 H1 ds M1 ⟨C, Vl, hlen, hs, hd⟩ s1 s1' m1 wk => fun D hD => by
    have gD : G1 D = none := s1'.free hD
    refine ⟨fun i mm H' => mm = ds.length - i ∧ i ≤ ds.length ∧ ∃ (G' : Hp) (f : Nat → Bool) (v : Nat → PyData), Same G1 G' ∧ Same G' H' ∧ MemOk G' H' (M1 ++ [(D, mLst K (given i f v))]) ∧ (∀ j, j < i → C j (f j)) ∧ (∀ j, j < i → f j = true → Vl j (v j)),
      ⟨ds.length, by simp, Nat.zero_le _, G1, fun _ => false, fun _ => .none, Same.refl _, same_mut s1' gD, (m1.push (m := mLst K []) s1' hD ⟨[], rfl, .nil⟩).rot, fun j hj => by omega, fun j hj => by omega⟩, ?_⟩
    rintro i mm H' ⟨rfl, hi, G', f, v, a1, a2, a3, a4, a5⟩
    by_cases hlt : i < ds.length
    · refine .inr ⟨wk.go i H' hlt (a1.trans a2), fun H2 => ∃ (G2 : Hp) (f : Nat → Bool) (v : Nat → PyData), Same G1 G2 ∧ Same G2 H2 ∧ MemOk G2 H2 (M1 ++ [(D, mLst K (given (i + 1) f v))]) ∧ (∀ j, j < i + 1 → C j (f j)) ∧ (∀ j, j < i + 1 → f j = true → Vl j (v j)),
        fun H2 z => ⟨ds.length - (i + 1), by omega, rfl, hlt, z⟩, fun x H2 hy => ?_⟩
      have hx : ds[i]? = some ds[i] := List.getElem?_eq_getElem hlt
      obtain ⟨G2, b1, b2, b3, b4⟩ := wk.yld i _ G' H' _ x H2 hx a1 a2 a3 hy
      obtain ⟨ρ2, is, hg, hin, hb⟩ := hs i _ [(D, mLst K (given i f v))] hx
      have eW := ((e.wipe vs).mono ((s1.trans a1).trans b1))
      refine hg x (L2.wipe σ vs) G2 H2 _ b2 eW b4 fun σ3 e3 l3 k3 => ⟨?_, ?_⟩
      · rw [wipe_eq (τ := L2.wipe σ vs) l3 fun j hj => k3 j fun z => hj (hin j z)]
        exact wipe_wipe σ vs
      · refine hb σ3 G2 H2 _ b2 e3 b3 fun b G3 H3 M3 ⟨eM, hC, hte⟩ c1 c2 c3 => ?_
        subst eM
        have step : ∀ (b : Bool) (y : PyData), (∀ j, j < i → (fun j => if j = i then b else f j) j = f j) ∧ (∀ j, j < i → (fun j => if j = i then y else v j) j = v j) := fun b y => ⟨fun j hj => by
          show (if j = i then b else f j) = f j
          rw [if_neg (by omega)], fun j hj => by
          show (if j = i then y else v j) = v j
          rw [if_neg (by omega)]⟩
        cases b with
        | false =>
          rw [if_neg Bool.false_ne_true]
          obtain ⟨st1, st2⟩ := step false .none
          refine ⟨G3, fun j => if j = i then false else f j, fun j => if j = i then .none else v j, ((a1.trans b1).trans c1), c2, ?_, fun j hj => ?_, fun j hj hf => ?_⟩
          · have eg : given (i + 1) (fun j => if j = i then false else f j) (fun j => if j = i then .none else v j) = given i f v := by
              rw [given_succ]
              show given i _ _ ++ (if (if i = i then false else f i) = true then [(if i = i then PyData.none else v i)] else []) = _
              rw [if_pos rfl, if_neg Bool.false_ne_true, List.append_nil]
              exact given_congr (fun j hj => st1 j hj) (fun j hj _ => st2 j hj)
            rw [eg]
            exact c3
          · show C j (if j = i then false else f j)
            by_cases hj' : j = i
            · subst hj'; simpa using hC
            · rw [if_neg hj']; exact a4 j (by omega)
          · have hf' : (if j = i then false else f j) = true := hf
            by_cases hj' : j = i
            · rw [if_pos hj'] at hf'; cases hf'
            · rw [if_neg hj'] at hf'
              show Vl j (if j = i then .none else v j)
              rw [if_neg hj']
              exact a5 j (by omega) hf'
        | true =>
          rw [if_pos rfl]
          refine hte rfl σ3 G3 H3 _ c2 (e3.mono c1) c3 fun y G4 H4 w M4 ⟨eM, z, ew, hV⟩ d1 d2 d3 d4 => ?_
          subst eM ew
          obtain ⟨st1, st2⟩ := step true z
          have d3' := d3.unrot
          obtain ⟨g4, o4, ho4, acc, eo, hra⟩ := d3'.head
          subst eo
          have hal := hra.length
          have hgl := given_len i f v
          refine ⟨acc, ho4, Nat.lt_of_lt_of_le (show acc.length < 100000 by omega) (by decide : 100000 ≤ sizeLine), G4, fun j => if j = i then true else f j, fun j => if j = i then z else v j, (((a1.trans b1).trans c1).trans d1), same_mut d2 g4, ?_, fun j hj => ?_, fun j hj hf => ?_⟩
          · have eg : given (i + 1) (fun j => if j = i then true else f j) (fun j => if j = i then z else v j) = given i f v ++ [z] := by
              rw [given_succ]
              show given i _ _ ++ (if (if i = i then true else f i) = true then [(if i = i then z else v i)] else []) = _
              rw [if_pos rfl, if_pos rfl, if_pos rfl]
              congr 1
              exact given_congr (fun j hj => st1 j hj) (fun j hj _ => st2 j hj)
            rw [eg]
            exact (d3'.put (m' := mLst K (given i f v ++ [z])) ⟨_, rfl, hra.app (.cons d4 .nil)⟩).rot
          · show C j (if j = i then true else f j)
            by_cases hj' : j = i
            · subst hj'; simpa using hC
            · rw [if_neg hj']; exact a4 j (by omega)
          · have hf' : (if j = i then true else f j) = true := hf
            show Vl j (if j = i then z else v j)
            by_cases hj' : j = i
            · rw [if_pos hj', hj']; exact hV
            · rw [if_neg hj'] at hf' ⊢
              exact a5 j (by omega) hf'
    · have e' : i = ds.length := by omega
      subst e'
      refine .inl ⟨wk.stop H' (a1.trans a2), ?_⟩
      have a3' := a3.unrot
      obtain ⟨g, o, ho, as, eo, hra⟩ := a3'.head
      subst eo
      obtain ⟨t1, t2, t3⟩ := a3'.freeze a2 ho
      exact q _ _ H' _ M1 (hd f v a4 a5) ((s1.trans a1).trans t1) t2 t3 (.lst upd_same (RpAll.mono t1 _ _ hra))
/-- a comprehension whose turns are told by the data walked: (ds.filter p).map q -/
theorem tx_lcF {vs : List Nat} (p : PyData → Bool) (qf : PyData → PyData) (h : IX K wi ρ M fun ds M1 => ds.length ≤ 50000 ∧
    (∀ (i : Nat) (x : PyData) (F : Mem), ds[i]? = some x → ∃ ρ2 is, GX K g x (wipeW ρ vs) ρ2 is ∧ (∀ j ∈ is, j ∈ vs) ∧
      BX K tt ρ2 (M1 ++ F) fun b M2 => M2 = M1 ++ F ∧ b = p x ∧ (b = true → TX K te ρ2 (M1 ++ F) fun w M3 => M3 = M1 ++ F ∧ w = .d (qf x))) ∧
    P (.d (.list ((ds.filter p).map qf))) M1) : TX K (tLc wi g tt te vs) ρ M P := by
  refine tx_lc fun σ G H R s e m q => h σ G H R s e m fun J G1 H1 ds M1 ⟨hl, hs, hp⟩ => q J G1 H1 ds M1 ⟨fun i b => ∀ x, ds[i]? = some x → b = p x, fun i y => ∀ x, ds[i]? = some x → y = qf x, hl, fun i x F hx => ?_, fun f v hf hv => ?_⟩
  · obtain ⟨ρ2, is, h1, h2, h3⟩ := hs i x F hx
    refine ⟨ρ2, is, h1, h2, h3.imp fun b M2 ⟨z1, z2, z3⟩ => ⟨z1, fun x' hx' => ?_, fun hb => (z3 hb).imp fun w M3 ⟨y1, y2⟩ => ⟨y1, _, y2, fun x' hx' => ?_⟩⟩⟩
    · rw [hx] at hx'; cases hx'; exact z2
    · rw [hx] at hx'; cases hx'; rfl
  · have e1 : given ds.length f v = (ds.filter p).map qf := given_eq p qf fun i x hx => by
      have hlt := (List.getElem?_eq_some_iff.mp hx).1
      have h1 := hf i hlt x hx
      exact ⟨h1, fun h2 => hv i hlt (h1.trans h2) x hx⟩
    rw [e1]
    exact hp
/-- without a test: ds.map qf -/
theorem tx_lcM {vs : List Nat} (qf : PyData → PyData) (h : IX K wi ρ M fun ds M1 => ds.length ≤ 50000 ∧
    (∀ (i : Nat) (x : PyData) (F : Mem), ds[i]? = some x → ∃ ρ2 is, GX K g x (wipeW ρ vs) ρ2 is ∧ (∀ j ∈ is, j ∈ vs) ∧ TX K te ρ2 (M1 ++ F) fun w M3 => M3 = M1 ++ F ∧ w = .d (qf x)) ∧
    P (.d (.list (ds.map qf))) M1) : TX K (tLc wi g tYes te vs) ρ M P := by
  refine tx_lcF (fun _ => true) qf fun σ G H R s e m q => h σ G H R s e m fun J G1 H1 ds M1 ⟨hl, hs, hp⟩ => q J G1 H1 ds M1 ⟨hl, fun i x F hx => ?_, ?_⟩
  · obtain ⟨ρ2, is, h1, h2, h3⟩ := hs i x F hx
    exact ⟨ρ2, is, h1, h2, bx_yes ⟨rfl, rfl, fun _ => h3⟩⟩
  · have e1 : ds.filter (fun _ => true) = ds := List.filter_eq_self.mpr fun _ _ => rfl
    rw [e1]
    exact hp
end
/-! ### a def's promise -/
theorem repW_S {K : PySem.W.Frag} {G : Hp} {v : V} : ∀ {z : W}, RepW K G v z → RepS K G (some (some v)) z
  | .d _, h => ⟨v, rfl, h⟩
  | .v _, h => by rw [show v = _ from h]; rfl
  | .s _, ⟨a, e, h⟩ => ⟨a, by rw [e], h⟩
  | .u, _ => trivial
structure DefD (K : PySem.W.Frag) (mg : Str → Option Value) (x : Str) (st : Stmt) (ps : List Str) : Prop where
  ex : ∃ (f : Addr) (fd : FuncData), Fun K x x st f fd ∧ Binds K fd ps [] ∧ mg x = some (.ref f)
section
variable {Pg : Program} {w : World} {K : PySem.W.Frag} {mg : Str → Option Value} {base : Heap}
theorem repA_start {G : Hp} {vs : List V} {ws : List W} (n : Nat) (h : RepA K G vs ws) : RepE K G (vs.map some ++ List.replicate (n - vs.length) none) (ws ++ List.replicate (n - ws.length) .u) := by
  have hl := h.length
  refine ⟨by simp [hl], fun i w e => ?_⟩
  by_cases hi : i < ws.length
  · rw [List.getElem?_append_left hi] at e
    rw [List.getElem?_append_left (by simpa [hl] using hi)]
    have key : ∀ (w : W) (vs : List V) (ws : List W) (i : Nat), RepA K G vs ws → ws[i]? = some w → RepS K G ((vs.map some)[i]?) w := by
      intro w vs
      induction vs with
      | nil => intro ws i h e; cases h; simp at e
      | cons v vs ih =>
        intro ws i h e
        cases h with
        | cons h1 h2 =>
          cases i with
          | zero =>
            simp at e
            subst e
            exact repW_S h1
          | succ i => exact ih _ i h2 (by simpa using e)
    exact key w vs ws i h e
  · rw [List.getElem?_append_right (by omega)] at e
    rw [List.getElem?_replicate] at e
    split at e
    · cases e; trivial
    · cases e
/-- THE RULE for a def: its body's term, and what the term does with the data -/
theorem fn_f {x : Str} {st : Stmt} {N ps : List Str} {k : Nat} {R : List W → Mem → (W → Mem → Prop) → Prop} {f : Addr} {fd : FuncData} (F : Fun K x x st f fd) (S : FnScope N ps (defScope st)) (len : ∀ ws M P, R ws M P → ws.length = ps.length)
    (body : ∀ (cdv : Value) (A : Around) (outer : List Env) (s : Shared) (H : Hp) (E : XK), Room k (A.deeper (envOfC x (defScope st) s.heap.objs.size f cdv)) →
      ∃ t, PSs (cxOf CX0 Pg w K mg base N x (defScope st) f cdv A outer s H E).nox (defBody st) t ∧
        ∀ (ws : List W) (M : Mem) (P : W → Mem → Prop), R ws M P → Run K t { nx := fun _ M' => P (.d .none) M', rt := P } (ws ++ List.replicate (N.length - ws.length) .u) M) :
    FnOk Pg w K mg base CX0 (k + 1) f fd ps (FnP K R) := by
  refine F.ok S (fun vs H Q E h => ?_) (fun cdv A outer s H vs Q E hr h => ?_)
  · obtain ⟨G, M, ws, P, _, _, r, hR, _⟩ := h
    rw [r.length, len ws M P hR]
  · obtain ⟨G, M, ws, P, s0, m0, r, hR, kk⟩ := h
    obtain ⟨t, ht, hrun⟩ := body cdv A outer s H E hr
    refine ⟨t, ht, hrun ws M P hR _ _ G H ⟨fun ρ M' G' σ H' p a b c d => ?_, fun w M' G' v H' p a b c d => kk v G' H' w M' p a b c d, fun ρ M' G' σ H' p => p.elim, fun ρ M' G' σ H' p => p.elim⟩ s0 (repA_start N.length r) m0⟩
    exact kk .non G' H' (.d .none) M' p a b d .non
theorem fn_d {x : Str} {st : Stmt} {N ps : List Str} {k : Nat} {R : List W → Mem → (W → Mem → Prop) → Prop} (F : DefD K mg x st ps) (S : FnScope N ps (defScope st)) (len : ∀ ws M P, R ws M P → ws.length = ps.length)
    (body : ∀ (f : Addr) (cdv : Value) (A : Around) (outer : List Env) (s : Shared) (H : Hp) (E : XK), Room k (A.deeper (envOfC x (defScope st) s.heap.objs.size f cdv)) →
      ∃ t, PSs (cxOf CX0 Pg w K mg base N x (defScope st) f cdv A outer s H E).nox (defBody st) t ∧
        ∀ (ws : List W) (M : Mem) (P : W → Mem → Prop), R ws M P → Run K t { nx := fun _ M' => P (.d .none) M', rt := P } (ws ++ List.replicate (N.length - ws.length) .u) M) :
    C8.Cal Pg w K mg base (k + 1) x (FnP K R) [] := by
  obtain ⟨f, fd, F, b, g⟩ := F.ex
  exact ⟨f, fd, ps, [], fn_f F S len (body f), g, F.kp, b, .nil⟩
end
/-! ### what the module's names hold -/
theorem bt_len : bootBuiltins "len" = some (.builtin "len") := by decide +kernel
theorem bt_abs : bootBuiltins "abs" = some (.builtin "abs") := by decide +kernel
theorem bt_sum : bootBuiltins "sum" = some (.builtin "sum") := by decide +kernel
theorem bt_min : bootBuiltins "min" = some (.builtin "min") := by decide +kernel
theorem bt_max : bootBuiltins "max" = some (.builtin "max") := by decide +kernel
theorem bt_all : bootBuiltins "all" = some (.builtin "all") := by decide +kernel
theorem bt_isinstance : bootBuiltins "isinstance" = some (.builtin "isinstance") := by decide +kernel
theorem bt_int : bootBuiltins "int" = some (.type "int") := by decide +kernel
theorem bt_bool : bootBuiltins "bool" = some (.type "bool") := by decide +kernel
theorem bt_str : bootBuiltins "str" = some (.type "str") := by decide +kernel
theorem bt_tuple : bootBuiltins "tuple" = some (.type "tuple") := by decide +kernel
theorem bt_list : bootBuiltins "list" = some (.type "list") := by decide +kernel
/-- the built-ins that the text leaves as they are -/
structure Bi (mg : Str → Option Value) : Prop where
  len : mg "len" = none
  abs : mg "abs" = none
  sum : mg "sum" = none
  min : mg "min" = none
  max : mg "max" = none
  all : mg "all" = none
  isinstance : mg "isinstance" = none
  int_ : mg "int" = none
  bool_ : mg "bool" = none
  str_ : mg "str" = none
  tuple_ : mg "tuple" = none
  list_ : mg "list" = none
  range : mg "range" = none
  zip : mg "zip" = none
  enumerate : mg "enumerate" = none
  set : mg "set" = none
  sorted : mg "sorted" = none
/-- a module's int -/
def GInt (mg : Str → Option Value) (x : Str) (n : Int) : Prop := ∃ u, mg x = some u ∧ RelV (.int n) u
/-- a module's tuple of ints -/
def GTup (K : PySem.W.Frag) (mg : Str → Option Value) (x : Str) (a : Addr) (ds : List PyData) : Prop := (∃ u, mg x = some u ∧ RelV (.ref a) u) ∧ ∀ G, Rp K G (.ref a) (.tuple ds)
/-! ### short forms -/
section
variable {K : PySem.W.Frag} {ρ : List W} {M M' : Mem} {P : W → Mem → Prop} {PB : Bool → Mem → Prop}
theorem tx_isi {i : Nat} {x : PyData} {n T : String} {b : Bool} (h : ρ[i]? = some (.d x)) (e : tyD x = some n) (k : kitB n T = some b) (p : P (.d (.bool b)) M) : TX K (tCB (rIsi K) (tCons (tVar i) (tCons (tC (.ty T)) tNil))) ρ M P :=
  tx_cb (ax_cons (tx_var h (ax_cons (tx_raw (ax_nil (cx_isi e k p))))))
theorem tx_lenV {i : Nat} {x : PyData} {n : Nat} (h : ρ[i]? = some (.d x)) (e : (∃ ds, x = .tuple ds ∧ n = ds.length) ∨ ∃ ds, x = .list ds ∧ n = ds.length) (p : P (.d (.int n)) M) :
    TX K (tCB (fun xs H Q => ∃ x n, xs = [x] ∧ LenV K x H n ∧ Q (.int n) H) (tCons (tVar i) tNil)) ρ M P := tx_cb (ax_cons (tx_var h (ax_nil (cx_len e p))))
theorem kit_ii : kitB "int" "int" = some true := by decide +kernel
theorem kit_ib : kitB "int" "bool" = some false := by decide +kernel
theorem kit_tt : kitB "tuple" "tuple" = some true := by decide +kernel
theorem kit_ss : kitB "str" "str" = some true := by decide +kernel
/-- x[i], x a tuple in a slot, i written -/
theorem tx_vix {i : Nat} {xs : List PyData} {k : Int} {x : PyData} (h : ρ[i]? = some (.d (.tuple xs))) (e : L2.atI xs k = some x) (p : P (.d x) M) : TX K (tOp (rIxT K) (tVar i) (tC (.int k))) ρ M P :=
  tx_op (tx_var h (tx_int (rx_ixT e p)))
end
end CD
/-! CDDict: dicts whose keys are tuples of any depth, as one more object that may change (HO.ext). -/
namespace CD
open PySem PySem.Spec PyProof.Rows L2
/-! ### the object -/
abbrev XE := NestedKey × Addr × V
def XRel (xs : List XE) (ys : List (NestedKey × Addr × Value)) : Prop := Paired (fun (p : XE) (q : NestedKey × Addr × Value) => p.1 = q.1 ∧ p.2.1 = q.2.1 ∧ RelV p.2.2 q.2.2) xs ys
def DXφ (Pg : Program) (w : World) (a : Addr) (xs : List XE) (h : Heap) : Prop := xs.length ≤ sizeLine ∧ (a == sysModules) = false ∧ ∃ ys, XRel xs ys ∧
  ∃ o es ep, h.get? a = some o ∧ o.ExactDict ∧ o.data = .dict es ep ∧ es.toList = ys.map (entryOfKey (nestedKind Pg w)) ∧ (ys.map (·.1)).Nodup
def DXO (Pg : Program) (w : World) (a : Addr) (xs : List XE) : HO := .ext (DXφ Pg w a xs)
theorem dx_ok {Pg : Program} {w : World} {H : Hp} {h : Heap} {a : Addr} {xs : List XE} (x : DXφ Pg w a xs h) : ObjOk Pg w H h a (DXO Pg w a xs) := by
  refine ⟨x, ?_, fun h1 h2 p k => ?_⟩
  · obtain ⟨_, _, _, _, o, _, _, e, _⟩ := x
    exact ⟨o, e⟩
  · obtain ⟨z, hd, ys, r, o, es, ep, e, c⟩ := p
    exact ⟨z, hd, ys, r, o, es, ep, k o e, c⟩
def valX (xs : List XE) (k : NestedKey) : Option V := (xs.find? fun p => decide (p.1 = k)).map (·.2.2)
def putX (xs : List XE) (k : NestedKey) (b : Addr) (v : V) : List XE :=
  if (valX xs k).isSome then xs.map (fun p => if p.1 = k then (p.1, p.2.1, v) else p) else xs ++ [(k, b, v)]
theorem XRel.val {xs : List XE} {ys : List (NestedKey × Addr × Value)} (r : XRel xs ys) (k : NestedKey) : RelO (valX xs k) ((atKey ys k).map (·.2)) := by
  unfold XRel at r
  induction r with
  | nil => trivial
  | @cons p q _ _ h t ih =>
    unfold valX atKey at ih ⊢
    rw [List.find?_cons, List.find?_cons]
    obtain ⟨h1, h2, h3⟩ := h
    rw [h1]
    by_cases e : q.1 = k
    · simp only [e, decide_true]
      exact h3
    · simp only [e, decide_false]
      exact ih
theorem XRel.some_eq {xs : List XE} {ys : List (NestedKey × Addr × Value)} (r : XRel xs ys) (k : NestedKey) : (valX xs k).isSome = (atKey ys k).isSome := by
  have := (r.val k).isSome_eq
  rwa [Option.isSome_map] at this
theorem XRel.put {xs : List XE} {ys : List (NestedKey × Addr × Value)} (r : XRel xs ys) (k : NestedKey) (b : Addr) {v : V} {u : Value} (rv : RelV v u) : XRel (putX xs k b v) (storedH ys k b u) := by
  unfold putX storedH
  rw [r.some_eq k]
  have c1 : XRel (xs.map fun p => if p.1 = k then (p.1, p.2.1, v) else p) (ys.map (putAt k u)) := by
    unfold XRel at r ⊢
    induction r with
    | nil => exact .nil
    | @cons p q _ _ h t ih =>
      refine .cons ?_ ih
      obtain ⟨h1, h2, h3⟩ := h
      show (if p.1 = k then (p.1, p.2.1, v) else p).1 = (putAt k u q).1 ∧ (if p.1 = k then (p.1, p.2.1, v) else p).2.1 = (putAt k u q).2.1 ∧ RelV (if p.1 = k then (p.1, p.2.1, v) else p).2.2 (putAt k u q).2.2
      unfold putAt
      rw [h1]
      by_cases e : q.1 = k
      · rw [if_pos e, if_pos e]
        exact ⟨rfl, h2, rv⟩
      · rw [if_neg e, if_neg e]
        exact ⟨h1, h2, h3⟩
  have c2 : XRel (xs ++ [(k, b, v)]) (ys ++ [(k, b, u)]) := by
    unfold XRel at r ⊢
    clear c1
    induction r with
    | nil => exact .cons ⟨rfl, rfl, rv⟩ .nil
    | cons h t ih => exact .cons h ih
  split
  · exact c1
  · exact c2
theorem putX_len (xs : List XE) (k : NestedKey) (b : Addr) (v : V) : (putX xs k b v).length ≤ xs.length + 1 := by
  unfold putX
  split
  · rw [List.length_map]; omega
  · rw [List.length_append, List.length_singleton]; omega
/-- the value at b is the key k -/
def KeyH (K : PySem.W.Frag) (H : Hp) (b : Addr) (k : NestedKey) : Prop := Rp K H (.ref b) k.data ∧ k.depth ≤ 8
def KeysH (K : PySem.W.Frag) (H : Hp) (xs : List XE) : Prop := ∀ p ∈ xs, KeyH K H p.2.1 p.1
section
variable {X : Cx} {pins : List (Addr × Obj)} {σ : L2.St} {H : Hp} {s : Shared}
mutual
theorem nested_of (I : Inv X pins σ H s) : ∀ (k : NestedKey) (v : V) (u : Value), Rp X.K H v k.data → RelV v u → NestedIs s.heap k u
  | .none, _, _, h, r => by cases h; cases r; exact .none
  | .num i, _, _, h, r => by cases h; obtain ⟨t, rfl⟩ := r; exact .int i t
  | .text x, _, _, h, r => by cases h; obtain ⟨t, rfl⟩ := r; exact .text x t
  | .tup ks, _, _, h, r => by
    have h' : Rp X.K H _ (.tuple (NestedKey.datas ks)) := h
    cases h' with
    | tup hs ha =>
      cases r
      obtain ⟨its, rv, ⟨o, ho, hc, n, hd⟩, _⟩ := I.tuple hs
      exact .tup ho hc hd (by simpa using nested_all I ks _ its ha rv)
theorem nested_all (I : Inv X pins σ H s) : ∀ (ks : List NestedKey) (vs : List V) (us : List Value), RpAll X.K H vs (NestedKey.datas ks) → Vals vs us → NestedAll s.heap ks us
  | [], _, _, h, r => by
    have h' : RpAll X.K H _ [] := h
    cases h'; cases r; exact .nil
  | k :: ks, _, _, h, r => by
    have h' : RpAll X.K H _ (NestedKey.data k :: NestedKey.datas ks) := h
    cases h' with
    | cons h1 h2 =>
      cases r with
      | cons r1 r2 => exact .cons (nested_of I k _ _ h1 r1) (nested_all I ks _ _ h2 r2)
end
theorem key_is (I : Inv X pins σ H s) {b : Addr} {k : NestedKey} (h : KeyH X.K H b k) : (nestedKind X.prog X.w).is s.heap k b := ⟨nested_of I k _ _ h.1 rfl, h.2⟩
theorem dict_of (I : Inv X pins σ H s) {a : Addr} {xs : List XE} (e : H a = some (DXO X.prog X.w a xs)) (kk : KeysH X.K H xs) : xs.length ≤ sizeLine ∧ (a == sysModules) = false ∧ ∃ ys, XRel xs ys ∧ s.heap.DictOfH (nestedKind X.prog X.w) a ys := by
  obtain ⟨⟨z, hd, ys, r, o, es, ep, e1, e2, e3, e4, e5⟩, _⟩ := I.hok a _ e
  refine ⟨z, hd, ys, r, o, es, ep, e1, e2, e3, e4, fun y hy => ?_, e5⟩
  have key : ∀ (xs : List XE) (ys : List (NestedKey × Addr × Value)), XRel xs ys → KeysH X.K H xs → ∀ y ∈ ys, (nestedKind X.prog X.w).is s.heap y.1 y.2.1 := by
    intro xs ys r
    unfold XRel at r
    induction r with
    | nil => intro _ y hy; cases hy
    | @cons p q _ _ h t ih =>
      intro kk y hy
      rcases List.mem_cons.mp hy with rfl | hy
      · obtain ⟨h1, h2, _⟩ := h
        rw [← h1, ← h2]
        exact key_is I (kk p List.mem_cons_self)
      · exact ih (fun p hp => kk p (List.mem_cons_of_mem _ hp)) y hy
  exact key xs ys r kk y hy
end
/-! ### rules over HandS -/
section
variable {X : Cx} {o i e value : Expr} {pos pos' : Pos} {td ty tv : TE}
def tDNewX (Pg : Program) (w : World) : TE := fun _ H Q => ∀ p, H p = none → Q (.ref p) (upd H p (DXO Pg w p []))
theorem pe_dnewX : PE X (.Dict [] [] pos) (tDNewX X.prog X.w) := ⟨fun pins s σ H Q I h =>
  wpAny_Dict_empty ⟨.ref s.heap.objs.size, _, I.laid (a := s.heap.objs.size) (o := DXO X.prog X.w s.heap.objs.size []) (t' := s.toks) (fun _ _ q => Heap.get?_push_of_some _ q) (Nat.le_refl _)
    (dx_ok ⟨Nat.zero_le _, beq_eq_false_iff_ne.mpr (Ne.symm (Nat.ne_of_lt I.big)), [], .nil, _, #[], 0, Heap.get?_push_size _ rfl, ⟨rfl, rfl, rfl⟩, rfl, rfl, List.nodup_nil⟩), rfl, h _ (I.hok.fresh (Nat.le_refl _))⟩⟩
def tInX (Pg : Program) (w : World) (K : PySem.W.Frag) (neg : Bool) (ty td : TE) : TE := fun σ H Q => ty σ H fun y H1 => td σ H1 fun x H2 => ∃ a xs b k, x = .ref a ∧ y = .ref b ∧ H2 a = some (DXO Pg w a xs) ∧ KeysH K H2 xs ∧ KeyH K H2 b k ∧
  Q (.bl (if neg then !(valX xs k).isSome else (valX xs k).isSome)) H2
theorem room8 (hu : X.A.units + 64 < cLine) : (nestedKind X.prog X.w).room X.A.in1 := by show X.A.units + 1 + 8 < cLine; omega
theorem pc_inX (hu : X.A.units + 64 < cLine) (hi : PE X i ty) (ho : PE X o td) : PC X .In i o (tInX X.prog X.w X.K false ty td) := by
  refine ⟨fun pins s σ H Q I h => ?_⟩
  refine thn (hi.run pins s σ H _ I h) fun iv s1 ⟨y, H1, I1, ry, q1⟩ => thn (ho.run pins s1 σ H1 _ I1 q1) fun u s2 ⟨x, H2, I2, rx, a, xs, b, k, ex, ey, e, kk, kb, q2⟩ => ?_
  subst ex ey
  obtain rfl : u = Value.ref a := rx
  obtain rfl : iv = Value.ref b := ry
  obtain ⟨z, hd, ys, rel, dd⟩ := dict_of I2 e kk
  refine wpAny_in_heap (room8 hu) (key_is I2 kb) hd dd ?_
  rw [← rel.some_eq k]
  exact ⟨.bl (valX xs k).isSome, H2, I2.tok _, rfl, q2⟩
theorem pc_notinX (hu : X.A.units + 64 < cLine) (hi : PE X i ty) (ho : PE X o td) : PC X .NotIn i o (tInX X.prog X.w X.K true ty td) := by
  refine ⟨fun pins s σ H Q I h => ?_⟩
  refine thn (hi.run pins s σ H _ I h) fun iv s1 ⟨y, H1, I1, ry, q1⟩ => thn (ho.run pins s1 σ H1 _ I1 q1) fun u s2 ⟨x, H2, I2, rx, a, xs, b, k, ex, ey, e, kk, kb, q2⟩ => ?_
  subst ex ey
  obtain rfl : u = Value.ref a := rx
  obtain rfl : iv = Value.ref b := ry
  obtain ⟨z, hd, ys, rel, dd⟩ := dict_of I2 e kk
  refine wpAny_notIn_heap (room8 hu) (key_is I2 kb) hd dd ?_
  rw [← rel.some_eq k]
  exact ⟨.bl (!(valX xs k).isSome), H2, I2.tok _, rfl, q2⟩
def tGetX (Pg : Program) (w : World) (K : PySem.W.Frag) (td ty : TE) : TE := fun σ H Q => td σ H fun x H1 => ty σ H1 fun y H2 => ∃ a xs b k v, x = .ref a ∧ y = .ref b ∧ H2 a = some (DXO Pg w a xs) ∧ KeysH K H2 xs ∧ KeyH K H2 b k ∧ valX xs k = some v ∧ Q v H2
theorem pe_getX (hu : X.A.units + 64 < cLine) (ho : PE X o td) (hi : PE X i ty) (hs : NoSl i) : PE X (.Subscript o i pos) (tGetX X.prog X.w X.K td ty) := by
  refine ⟨fun pins s σ H Q I h => ?_⟩
  refine subD_of PySem.F.slot_dict_getitem.lookup hs (thn (ho.run pins s σ H _ I h) fun u s1 ⟨x, H1, I1, rx, q1⟩ => thn (hi.run pins s1 σ H1 _ I1 q1) fun iv s2 ⟨y, H2, I2, ry, a, xs, b, k, v, ex, ey, e, kk, kb, hv, q2⟩ => ?_)
  subst ex ey
  obtain rfl : u = Value.ref a := rx
  obtain rfl : iv = Value.ref b := ry
  obtain ⟨z, hd, ys, rel, dd⟩ := dict_of I2 e kk
  have rv := rel.val k
  rw [hv] at rv
  obtain ⟨w', hw, rw'⟩ := RelO.some_of rv
  obtain ⟨p, hp, hp2⟩ := Option.map_eq_some_iff.mp hw
  refine ⟨dd.typeIs, wpAny_getItem_heap (room8 hu) (key_is I2 kb) dd hp ?_⟩
  rw [hp2]
  exact ⟨v, H2, I2.tok _, rw', q2⟩
def rSetX (Pg : Program) (w : World) (K : PySem.W.Frag) : TSet := fun o i v H Q => ∃ a xs b k, o = .ref a ∧ i = .ref b ∧ H a = some (DXO Pg w a xs) ∧ KeysH K H xs ∧ KeyH K H b k ∧ xs.length < sizeLine ∧ Q (upd H a (DXO Pg w a (putX xs k b v)))
theorem set_dictX (hu : X.A.units + 64 < cLine) : PSet X (rSetX X.prog X.w X.K) := by
  intro pins s σ H o i v ov iv u Q I ro ri rv h
  obtain ⟨a, xs, b, k, rfl, rfl, e, kk, kb, hl, q⟩ := h
  obtain rfl : ov = Value.ref a := ro
  obtain rfl : iv = Value.ref b := ri
  obtain ⟨z, hd, ys, rel, dd⟩ := dict_of I e kk
  have hz : ys.length ≤ sizeLine := by rw [← Paired.length rel]; exact z
  refine wpAny_setItem_heap (hsz := hz) (room8 hu) (key_is I kb) dd fun h' dd' hs => ⟨_, ?_, q⟩
  obtain ⟨ob, es, ep, hq, h2, h3, h4, _, h5⟩ := dd'
  exact d_write I (by rw [e]; exact True.intro) hs ⟨ob, hq⟩ (dx_ok ⟨by have := putX_len xs k b v; omega, hd, _, rel.put k b rv, ob, es, ep, hq, h2, h3, h4, h5⟩)
end
/-! ### at the level of data -/
def dGet (kvs : List (NestedKey × PyData)) (k : NestedKey) : Option PyData := (kvs.find? fun p => decide (p.1 = k)).map (·.2)
def dPut (kvs : List (NestedKey × PyData)) (k : NestedKey) (v : PyData) : List (NestedKey × PyData) :=
  if (dGet kvs k).isSome then kvs.map (fun p => if p.1 = k then (p.1, v) else p) else kvs ++ [(k, v)]
def DRel (K : PySem.W.Frag) (G : Hp) (xs : List XE) (kvs : List (NestedKey × PyData)) : Prop := Paired (fun (p : XE) (q : NestedKey × PyData) => p.1 = q.1 ∧ KeyH K G p.2.1 p.1 ∧ Rp K G p.2.2 q.2) xs kvs
theorem DRel.mono {K : PySem.W.Frag} {G G' : Hp} (s : Same G G') {xs : List XE} {kvs : List (NestedKey × PyData)} (h : DRel K G xs kvs) : DRel K G' xs kvs := Paired.mapP h fun p q z => ⟨z.1, ⟨Rp.mono s _ _ z.2.1.1, z.2.1.2⟩, Rp.mono s _ _ z.2.2⟩
def mDict (Pg : Program) (w : World) (K : PySem.W.Frag) (a : Addr) (kvs : List (NestedKey × PyData)) : MO := ⟨fun G o => ∃ xs, o = DXO Pg w a xs ∧ DRel K G xs kvs, fun s ⟨xs, e, h⟩ => ⟨xs, e, h.mono s⟩⟩
section
variable {Pg : Program} {w : World} {K : PySem.W.Frag} {G H : Hp} {xs : List XE} {kvs : List (NestedKey × PyData)}
theorem DRel.keys (h : DRel K G xs kvs) (s : Same G H) : KeysH K H xs := by
  unfold DRel at h
  induction h with
  | nil => intro p hp; cases hp
  | cons h t ih =>
    intro p hp
    rcases List.mem_cons.mp hp with rfl | hp
    · exact ⟨Rp.mono s _ _ h.2.1.1, h.2.1.2⟩
    · exact ih p hp
theorem DRel.val (h : DRel K G xs kvs) (k : NestedKey) : (valX xs k).isSome = (dGet kvs k).isSome ∧ ∀ x, dGet kvs k = some x → ∃ v, valX xs k = some v ∧ Rp K G v x := by
  unfold DRel at h
  induction h with
  | nil => exact ⟨rfl, fun x e => nomatch e⟩
  | @cons p q _ _ h t ih =>
    unfold valX dGet at ih ⊢
    rw [List.find?_cons, List.find?_cons]
    obtain ⟨h1, h2, h3⟩ := h
    rw [h1]
    by_cases e : q.1 = k
    · simp only [e, decide_true]
      exact ⟨rfl, fun x ex => by cases ex; exact ⟨_, rfl, h3⟩⟩
    · simp only [e, decide_false]
      exact ih
theorem DRel.put (h : DRel K G xs kvs) {k : NestedKey} {b : Addr} {v : V} {x : PyData} (hk : KeyH K G b k) (r : Rp K G v x) : DRel K G (putX xs k b v) (dPut kvs k x) := by
  unfold putX dPut
  rw [(h.val k).1]
  have c1 : DRel K G (xs.map fun p => if p.1 = k then (p.1, p.2.1, v) else p) (kvs.map fun p => if p.1 = k then (p.1, x) else p) := by
    unfold DRel at h ⊢
    induction h with
    | nil => exact .nil
    | @cons p q _ _ h t ih =>
      refine .cons ?_ ih
      obtain ⟨h1, h2, h3⟩ := h
      show (if p.1 = k then (p.1, p.2.1, v) else p).1 = (if q.1 = k then (q.1, x) else q).1 ∧ KeyH K G (if p.1 = k then (p.1, p.2.1, v) else p).2.1 (if p.1 = k then (p.1, p.2.1, v) else p).1 ∧ Rp K G (if p.1 = k then (p.1, p.2.1, v) else p).2.2 (if q.1 = k then (q.1, x) else q).2
      by_cases e : p.1 = k
      · rw [if_pos e, if_pos (h1 ▸ e)]
        exact ⟨h1, h2, r⟩
      · rw [if_neg e, if_neg (h1 ▸ e)]
        exact ⟨h1, h2, h3⟩
  have c2 : DRel K G (xs ++ [(k, b, v)]) (kvs ++ [(k, x)]) := by
    unfold DRel at h ⊢
    clear c1
    induction h with
    | nil => exact .cons ⟨rfl, hk, r⟩ .nil
    | cons h t ih => exact .cons h ih
  split
  · exact c1
  · exact c2
theorem DRel.len (h : DRel K G xs kvs) : xs.length = kvs.length := Paired.length h
end
section
variable {Pg : Program} {w : World} {K : PySem.W.Frag} {ρ : List W} {M M' : Mem} {P : W → Mem → Prop} {ta tb : TE} {E : DE} {u : TS}
/-- {} -/
theorem tx_dnew (h : ∀ p, P (.v (.ref p)) ((p, mDict Pg w K p []) :: M)) : TX K (tDNewX Pg w) ρ M P := fun σ G H Q s e m q => fun p hp =>
  q _ G _ _ _ (h p) (Same.refl G) (same_mut s (s.free hp)) (m.push s hp ⟨[], rfl, .nil⟩) rfl
/-- a dict at the i-th place of M -/
theorem MemOk.mem {G H : Hp} {p : Addr × MO} (m : MemOk G H M) (hp : p ∈ M) : G p.1 = none ∧ ∃ o, H p.1 = some o ∧ p.2.φ G o := m.at_ p hp
theorem tx_inX {neg : Bool} {a : Addr} {kvs : List (NestedKey × PyData)} (h : TX K ta ρ M fun wk M1 => ∃ k, wk = .d (.tuple (NestedKey.datas k)) ∧ (NestedKey.tup k).depth ≤ 8 ∧ TX K tb ρ M1 fun wd M2 => wd = .v (.ref a) ∧ (a, mDict Pg w K a kvs) ∈ M2 ∧ P (.d (.bool (if neg then !(dGet kvs (.tup k)).isSome else (dGet kvs (.tup k)).isSome))) M2) :
    TX K (tInX Pg w K neg ta tb) ρ M P := fun σ G H Q s e m q =>
  h σ G H _ s e m fun v1 G1 H1 w1 M1 ⟨k, ek, hk, h1⟩ s1 s1' m1 r1 => h1 σ G1 H1 _ s1' (e.mono s1) m1 fun v2 G2 H2 w2 M2 ⟨ed, hm, p⟩ s2 s2' m2 r2 => by
    subst ek ed
    have e2 : v2 = .ref a := r2
    subst e2
    obtain ⟨g, o, ho, xs, eo, hx⟩ := m2.mem hm
    subst eo
    have r1' := Rp.mono (s2.trans s2') _ _ r1
    have r1'' := r1'
    cases r1'' with
    | @tup b _ _ hb _ =>
      refine ⟨a, xs, b, .tup k, rfl, rfl, ho, hx.keys s2', ⟨r1', hk⟩, ?_⟩
      rw [(hx.val (.tup k)).1]
      exact q _ G2 H2 _ M2 p (s1.trans s2) s2' m2 (.bl _)
theorem tx_getX {a : Addr} {kvs : List (NestedKey × PyData)} (h : TX K ta ρ M fun wd M1 => wd = .v (.ref a) ∧ TX K tb ρ M1 fun wk M2 => ∃ k x, wk = .d (.tuple (NestedKey.datas k)) ∧ (NestedKey.tup k).depth ≤ 8 ∧ (a, mDict Pg w K a kvs) ∈ M2 ∧ dGet kvs (.tup k) = some x ∧ P (.d x) M2) :
    TX K (tGetX Pg w K ta tb) ρ M P := fun σ G H Q s e m q =>
  h σ G H _ s e m fun v1 G1 H1 w1 M1 ⟨ed, h1⟩ s1 s1' m1 r1 => h1 σ G1 H1 _ s1' (e.mono s1) m1 fun v2 G2 H2 w2 M2 ⟨k, x, ek, hk, hm, hg, p⟩ s2 s2' m2 r2 => by
    subst ek ed
    have e1 : v1 = .ref a := r1
    subst e1
    obtain ⟨g, o, ho, xs, eo, hx⟩ := m2.mem hm
    subst eo
    obtain ⟨v, hv, rv⟩ := (hx.val (.tup k)).2 x hg
    have r2' := Rp.mono s2' _ _ r2
    have r2'' := r2'
    cases r2'' with
    | @tup b _ _ hb _ => exact ⟨a, xs, b, .tup k, v, rfl, rfl, ho, hx.keys s2', ⟨r2', hk⟩, hv, q _ G2 H2 _ M2 p (s1.trans s2) s2' m2 rv⟩
/-- d[k] = e, the dict at the head of M -/
theorem run_setX {te ti : TE} {a : Addr} {kvs : List (NestedKey × PyData)} {i : Nat} (hl : kvs.length < 100000) (hi : ρ[i]? = some (.v (.ref a))) (h : TX K te ρ ((a, mDict Pg w K a kvs) :: M) fun wv M1 => ∃ x, wv = .d x ∧ TX K ti ρ M1 fun wk M2 => ∃ k, wk = .d (.tuple (NestedKey.datas k)) ∧ (NestedKey.tup k).depth ≤ 8 ∧ M2 = (a, mDict Pg w K a kvs) :: M ∧ E.nx ρ ((a, mDict Pg w K a (dPut kvs (.tup k) x)) :: M)) :
    Run K (tAsg te (gSub (tVar i) ti (rSetX Pg w K))) E ρ ((a, mDict Pg w K a kvs) :: M) := fun D σ G H L s e m =>
  h σ G H _ s e m fun v1 G1 H1 w1 M1 ⟨x, ex, h1⟩ s1 s1' m1 r1 => by
    subst ex
    have e1 : σ[i]? = some (some (.ref a)) := e.at_ i _ hi
    refine ⟨.ref a, e1, h1 σ G1 H1 _ s1' (e.mono s1) m1 fun v2 G2 H2 w2 M2 ⟨k, ek, hk, eM, p⟩ s2 s2' m2 r2 => ?_⟩
    subst ek eM
    obtain ⟨g, o, ho, xs, eo, hx⟩ := m2.head
    subst eo
    have hlen := hx.len
    have r2' := Rp.mono s2' _ _ r2
    have r2'' := r2
    cases r2'' with
    | @tup b _ _ hb _ =>
      refine ⟨a, xs, b, .tup k, rfl, rfl, ho, hx.keys s2', ⟨r2', hk⟩, Nat.lt_of_lt_of_le (by omega) (by decide : 100000 ≤ sizeLine), ?_⟩
      exact L.nx ρ _ G2 _ _ p (s1.trans s2) (same_mut s2' g) (e.mono (s1.trans s2)) (m2.put ⟨_, rfl, hx.put ⟨r2, hk⟩ (Rp.mono s2 _ _ r1)⟩)
theorem q_setX {te ti : TE} {a : Addr} {kvs : List (NestedKey × PyData)} {i : Nat} (hl : kvs.length < 100000) (hi : ρ[i]? = some (.v (.ref a))) (h : TX K te ρ ((a, mDict Pg w K a kvs) :: M) fun wv M1 => ∃ x, wv = .d x ∧ TX K ti ρ M1 fun wk M2 => ∃ k, wk = .d (.tuple (NestedKey.datas k)) ∧ (NestedKey.tup k).depth ≤ 8 ∧ M2 = (a, mDict Pg w K a kvs) :: M ∧ Run K u E ρ ((a, mDict Pg w K a (dPut kvs (.tup k) x)) :: M)) :
    Run K (tSeq (tAsg te (gSub (tVar i) ti (rSetX Pg w K))) u) E ρ ((a, mDict Pg w K a kvs) :: M) := run_seq (run_setX hl hi h)
end
/-- the order of what may change does not matter -/
theorem mem_swap {p q : Addr × MO} {M : Mem} : MemLe (p :: q :: M) (q :: p :: M) := fun G H m => by
  refine ⟨?_, fun z hz => m.at_ z ?_⟩
  · have h := m.nd
    simp only [List.map_cons, List.nodup_cons, List.mem_cons, not_or] at h ⊢
    exact ⟨⟨fun e => h.1.1 e.symm, h.2.1⟩, h.1.2, h.2.2⟩
  · rcases List.mem_cons.mp hz with rfl | hz
    · exact List.mem_cons_of_mem _ List.mem_cons_self
    · rcases List.mem_cons.mp hz with rfl | hz
      · exact List.mem_cons_self
      · exact List.mem_cons_of_mem _ (List.mem_cons_of_mem _ hz)
theorem mem_tail {p : Addr × MO} {M : Mem} : MemLe (p :: M) M := fun G H m => m.tail
end CD
/-! CDMath: the mathematics of dithers, no program in sight. -/
namespace CM
open PySem
/-! ### data -/
def eI (l : List Int) : PyData := .tuple (l.map .int)
structure En {α : Type} [DecidableEq α] (enc : α → PyData) (k : Nat) : Prop where
  lay : ∀ a, (enc a).canLay0 = true
  dep : ∀ a, (enc a).depth ≤ k
  eqv : ∀ a b, PyData.eqv (enc a) (enc b) = decide (a = b)
section
variable {α β : Type} [DecidableEq α] [DecidableEq β] {enc : α → PyData} {enc2 : β → PyData} {k : Nat}
theorem En.int : En (α := Int) .int 0 := ⟨fun _ => rfl, fun _ => Nat.le_refl _, fun a b => by simp only [PyData.eqv]; exact Bool.beq_eq_decide_eq a b⟩
theorem En.layAll (h : En enc k) : ∀ l : List α, PyData.canLayAll0 (l.map enc) = true
  | [] => rfl
  | a :: l => by
    show ((enc a).canLay0 && PyData.canLayAll0 (l.map enc)) = true
    rw [h.lay a, h.layAll l]; rfl
theorem En.depAll (h : En enc k) : ∀ l : List α, PyData.depthAll (l.map enc) ≤ k
  | [] => Nat.zero_le _
  | a :: l => by
    show max (enc a).depth (PyData.depthAll (l.map enc)) ≤ k
    exact Nat.max_le.mpr ⟨h.dep a, h.depAll l⟩
theorem En.eqvAll (h : En enc k) : ∀ l m : List α, PyData.eqvAll (l.map enc) (m.map enc) = decide (l = m)
  | [], [] => rfl
  | [], _ :: _ => rfl
  | _ :: _, [] => rfl
  | a :: l, b :: m => by
    show (PyData.eqv (enc a) (enc b) && PyData.eqvAll (l.map enc) (m.map enc)) = _
    rw [h.eqv, h.eqvAll l m, ← Bool.decide_and]
    exact decide_eq_decide.mpr ⟨fun ⟨x, y⟩ => by rw [x, y], fun e => by injection e with x y; exact ⟨x, y⟩⟩
theorem En.list (h : En enc k) : En (fun l : List α => .list (l.map enc)) (k + 1) :=
  ⟨fun l => h.layAll l, fun l => Nat.succ_le_succ (h.depAll l), fun l m => by rw [PyData.eqv]; exact h.eqvAll l m⟩
theorem En.tuple (h : En enc k) : En (fun l : List α => .tuple (l.map enc)) (k + 1) :=
  ⟨fun l => h.layAll l, fun l => Nat.succ_le_succ (h.depAll l), fun l m => by rw [PyData.eqv]; exact h.eqvAll l m⟩
theorem En.pair (h : En enc k) (h2 : En enc2 k) : En (fun p : α × β => .tuple [enc p.1, enc2 p.2]) (k + 1) :=
  ⟨fun p => by
    show ((enc p.1).canLay0 && ((enc2 p.2).canLay0 && true)) = true
    rw [h.lay, h2.lay]; rfl, fun p => by
    show max (enc p.1).depth (max (enc2 p.2).depth 0) + 1 ≤ k + 1
    exact Nat.succ_le_succ (Nat.max_le.mpr ⟨h.dep _, Nat.max_le.mpr ⟨h2.dep _, Nat.zero_le _⟩⟩), fun p q => by
    rw [PyData.eqv]
    show (PyData.eqv (enc p.1) (enc q.1) && (PyData.eqv (enc2 p.2) (enc2 q.2) && true)) = _
    rw [h.eqv, h2.eqv, Bool.and_true, ← Bool.decide_and]
    exact decide_eq_decide.mpr ⟨fun ⟨x, y⟩ => Prod.ext x y, fun e => by rw [e]; exact ⟨rfl, rfl⟩⟩⟩
theorem En.shaped (h : En enc k) (hk : k ≤ 64) (a : α) : SeqAt.shaped (enc a) = true := by
  unfold SeqAt.shaped
  rw [h.lay a, decide_eq_true (Nat.le_trans (h.dep a) hk)]; rfl
theorem en_I : En eI 1 := En.int.tuple
end
/-! ### dithers -/
structure Di where
  top : Int
  levels : List Int
  shares : List Int
  dv : Int
  high : Bool
def tieS (b : Bool) : Str := if b then "high" else "low"
def Di.data (d : Di) : PyData := .tuple [.int d.top, eI d.levels, eI d.shares, .int d.dv, .str (tieS d.high)]
structure Di.Ok (d : Di) : Prop where
  top : 1 ≤ d.top ∧ d.top ≤ 8
  dv : 1 ≤ d.dv ∧ d.dv ≤ 8
  len : 2 ≤ d.levels.length ∧ d.levels.length ≤ 6
  rng : ∀ l ∈ d.levels, 0 ≤ l ∧ l ≤ d.top
  head : d.levels.head? = some 0
  last : d.levels.getLast? = some d.top
  asc : d.levels.Pairwise (· < ·)
  slen : d.shares.length = 1 ∨ d.shares.length = 2
  spos : ∀ s ∈ d.shares, 0 ≤ s
  ssum : d.shares.sum ≤ d.dv
def iabs (n : Int) : Int := if n < 0 then -n else n
def near1 (hi : Bool) (v f l : Int) : Int := if iabs (v - l) < iabs (v - f) ∨ (iabs (v - l) = iabs (v - f) ∧ hi = true) then l else f
def nearest (d : Di) (v : Int) : Int := match d.levels with
  | [] => 0
  | l :: ls => ls.foldl (near1 d.high v) l
def part (e s dv : Int) : Int := if 0 ≤ e then iabs e * s / dv else -(iabs e * s / dv)
def Di.exact (d : Di) : Bool := decide (d.shares.sum = d.dv)
abbrev Sta := Int × Int
def later (d : Di) (e : Int) : Int := if d.shares.length = 2 then part e (d.shares.getD 1 0) d.dv else 0
def first (d : Di) (e : Int) : Int := if d.exact then e - later d e else part e (d.shares.getD 0 0) d.dv
def out (d : Di) (h : Sta) (s : Int) : Int := nearest d (s + h.1)
def err (d : Di) (h : Sta) (s : Int) : Int := s + h.1 - out d h s
def nxt (d : Di) (h : Sta) (s : Int) : Sta := (h.2 + first d (err d h s), later d (err d h s))
def staD (h : Sta) : PyData := .tuple [.int h.1, .int h.2]
/-- the outputs of a row from a state on, and the state behind it -/
def walkO (d : Di) : Sta → List Int → List Int
  | _, [] => []
  | h, s :: r => out d h s :: walkO d (nxt d h s) r
def walkS (d : Di) : Sta → List Int → Sta
  | h, [] => h
  | h, s :: r => walkS d (nxt d h s) r
theorem walkO_app (d : Di) : ∀ (r : List Int) (h : Sta) (q : List Int), walkO d h (r ++ q) = walkO d h r ++ walkO d (walkS d h r) q
  | [], _, _ => rfl
  | s :: r, h, q => by
    show out d h s :: walkO d (nxt d h s) (r ++ q) = _
    rw [walkO_app d r]; rfl
theorem walkS_app (d : Di) : ∀ (r : List Int) (h : Sta) (q : List Int), walkS d h (r ++ q) = walkS d (walkS d h r) q
  | [], _, _ => rfl
  | s :: r, h, q => walkS_app d r _ q
theorem walkO_len (d : Di) : ∀ (r : List Int) (h : Sta), (walkO d h r).length = r.length
  | [], _ => rfl
  | s :: r, h => by
    show (walkO d (nxt d h s) r).length + 1 = r.length + 1
    rw [walkO_len d r]
/-! ### the nearest level -/
theorem iabs_nn (n : Int) : 0 ≤ iabs n := by unfold iabs; split <;> omega
theorem near1_le (hi : Bool) (v f l : Int) : iabs (v - near1 hi v f l) ≤ iabs (v - f) ∧ iabs (v - near1 hi v f l) ≤ iabs (v - l) := by
  unfold near1
  split
  · rename_i h
    rcases h with h | h
    · omega
    · omega
  · rename_i h
    rw [not_or] at h
    omega
theorem near1_mem (hi : Bool) (v f l : Int) : near1 hi v f l = f ∨ near1 hi v f l = l := by
  unfold near1
  split
  · exact .inr rfl
  · exact .inl rfl
theorem fold_near (hi : Bool) (v : Int) : ∀ (ls : List Int) (f : Int), (ls.foldl (near1 hi v) f ∈ f :: ls) ∧ ∀ l ∈ f :: ls, iabs (v - ls.foldl (near1 hi v) f) ≤ iabs (v - l)
  | [], f => ⟨List.mem_cons_self, fun l hl => by
    rw [List.mem_singleton.mp hl]
    exact Int.le_refl _⟩
  | x :: ls, f => by
    obtain ⟨h1, h2⟩ := fold_near hi v ls (near1 hi v f x)
    show (ls.foldl (near1 hi v) (near1 hi v f x) ∈ f :: x :: ls) ∧ ∀ l ∈ f :: x :: ls, iabs (v - ls.foldl (near1 hi v) (near1 hi v f x)) ≤ iabs (v - l)
    have hn := near1_le hi v f x
    refine ⟨?_, fun l hl => ?_⟩
    · rcases List.mem_cons.mp h1 with e | e
      · rw [e]
        rcases near1_mem hi v f x with e | e <;> rw [e] <;> simp
      · exact List.mem_cons_of_mem _ (List.mem_cons_of_mem _ e)
    · have h0 := h2 _ List.mem_cons_self
      rcases List.mem_cons.mp hl with rfl | hl
      · omega
      · rcases List.mem_cons.mp hl with rfl | hl
        · omega
        · exact h2 l (List.mem_cons_of_mem _ hl)
theorem nearest_spec {d : Di} (ok : d.Ok) (v : Int) : nearest d v ∈ d.levels ∧ ∀ l ∈ d.levels, iabs (v - nearest d v) ≤ iabs (v - l) := by
  unfold nearest
  have hl := ok.len.1
  cases e : d.levels with
  | nil => rw [e] at hl; simp at hl
  | cons l ls => exact fold_near d.high v ls l
theorem mem_zero {d : Di} (ok : d.Ok) : (0 : Int) ∈ d.levels := List.mem_of_head? ok.head
theorem mem_top {d : Di} (ok : d.Ok) : d.top ∈ d.levels := List.mem_of_getLast? ok.last
theorem err_le {d : Di} (ok : d.Ok) {v : Int} (h1 : -4 ≤ v) (h2 : v ≤ d.top + 4) : -4 ≤ v - nearest d v ∧ v - nearest d v ≤ 4 := by
  obtain ⟨_, h⟩ := nearest_spec ok v
  have a := h _ (mem_zero ok)
  have b := h _ (mem_top ok)
  have t := ok.top
  unfold iabs at a b
  split at a <;> split at a <;> split at b <;> split at b <;> omega
/-! ### the states -/
def m2 (d : Di) : Int := if d.shares.length = 2 then 4 * d.shares.getD 1 0 / d.dv else 0
structure StOk (d : Di) (h : Sta) : Prop where
  a : -4 ≤ h.1 ∧ h.1 ≤ 4
  b : -m2 d ≤ h.2 ∧ h.2 ≤ m2 d
theorem part_le {e s dv : Int} (hs : 0 ≤ s) (hd : 0 < dv) (he : -4 ≤ e ∧ e ≤ 4) : -(4 * s / dv) ≤ part e s dv ∧ part e s dv ≤ 4 * s / dv := by
  have hi : 0 ≤ iabs e ∧ iabs e ≤ 4 := ⟨iabs_nn e, by unfold iabs; split <;> omega⟩
  have h1 : iabs e * s ≤ 4 * s := Int.mul_le_mul_of_nonneg_right hi.2 hs
  have h2 : iabs e * s / dv ≤ 4 * s / dv := Int.ediv_le_ediv hd h1
  have h3 : 0 ≤ iabs e * s / dv := Int.ediv_nonneg (Int.mul_nonneg hi.1 hs) (by omega)
  unfold part
  split <;> omega
theorem shares_cases {d : Di} (ok : d.Ok) : (∃ a, d.shares = [a] ∧ 0 ≤ a ∧ a ≤ d.dv) ∨ ∃ a b, d.shares = [a, b] ∧ 0 ≤ a ∧ 0 ≤ b ∧ a + b ≤ d.dv := by
  have hl := ok.slen
  have hp := ok.spos
  have hs := ok.ssum
  match e : d.shares, hl with
  | [a], _ =>
    rw [e] at hp hs
    have := hp a (by simp)
    simp at hs
    exact .inl ⟨a, rfl, this, by omega⟩
  | [a, b], _ =>
    rw [e] at hp hs
    have h1 := hp a (by simp)
    have h2 := hp b (by simp)
    simp at hs
    exact .inr ⟨a, b, rfl, h1, h2, by omega⟩
  | [], h => simp at h
  | _ :: _ :: _ :: _, h => simp at h
/-- the error less its later part grows with the error -/
theorem rest_le {e s dv : Int} (hs : 0 ≤ s) (hd : 0 < dv) (hsd : s ≤ dv) (he : -4 ≤ e ∧ e ≤ 4) : -(4 - 4 * s / dv) ≤ e - part e s dv ∧ e - part e s dv ≤ 4 - 4 * s / dv := by
  have hi : 0 ≤ iabs e ∧ iabs e ≤ 4 := ⟨iabs_nn e, by unfold iabs; split <;> omega⟩
  -- 4 s / dv ≤ |e| s / dv + (4 - |e|)
  have key : 4 * s / dv ≤ iabs e * s / dv + (4 - iabs e) := by
    have h1 : 4 * s ≤ iabs e * s + (4 - iabs e) * dv := by
      have h2 : (4 - iabs e) * s ≤ (4 - iabs e) * dv := Int.mul_le_mul_of_nonneg_left hsd (by omega)
      have h3 : (4 - iabs e) * s = 4 * s - iabs e * s := Int.sub_mul _ _ _
      omega
    have h4 : 4 * s / dv ≤ (iabs e * s + (4 - iabs e) * dv) / dv := Int.ediv_le_ediv hd h1
    rw [Int.add_mul_ediv_right _ _ (by omega)] at h4
    exact h4
  have key2 : iabs e * s / dv ≤ iabs e := by
    have h1 : iabs e * s ≤ iabs e * dv := Int.mul_le_mul_of_nonneg_left hsd hi.1
    have h2 : iabs e * s / dv ≤ iabs e * dv / dv := Int.ediv_le_ediv hd h1
    rwa [Int.mul_ediv_cancel _ (by omega)] at h2
  have key3 : 4 * s / dv ≤ 4 := by
    have h1 : 4 * s ≤ 4 * dv := by omega
    have h2 : 4 * s / dv ≤ 4 * dv / dv := Int.ediv_le_ediv hd h1
    rwa [Int.mul_ediv_cancel _ (by omega)] at h2
  unfold part
  rcases Int.lt_or_le e 0 with hn | hn
  · have e1 : iabs e = -e := by unfold iabs; rw [if_pos hn]
    rw [if_neg (by omega)]
    omega
  · have e1 : iabs e = e := by unfold iabs; rw [if_neg (by omega)]
    rw [if_pos hn]
    omega
theorem m2_nn {d : Di} (ok : d.Ok) : 0 ≤ m2 d ∧ m2 d ≤ 4 := by
  have hd := ok.dv
  unfold m2
  rcases shares_cases ok with ⟨a, e, h1, h2⟩ | ⟨a, b, e, h1, h2, h3⟩
  · rw [e]; simp
  · rw [e]
    simp
    refine ⟨Int.ediv_nonneg (by omega) (by omega), ?_⟩
    have h4 : 4 * b ≤ 4 * d.dv := by omega
    have h5 : 4 * b / d.dv ≤ 4 * d.dv / d.dv := Int.ediv_le_ediv (by omega) h4
    rwa [Int.mul_ediv_cancel _ (by omega)] at h5
theorem nxt_ok {d : Di} (ok : d.Ok) {h : Sta} (hh : StOk d h) {s : Int} (hs : 0 ≤ s ∧ s ≤ d.top) : (-4 ≤ err d h s ∧ err d h s ≤ 4) ∧ StOk d (nxt d h s) := by
  have ha := hh.a
  have hb := hh.b
  have he : -4 ≤ err d h s ∧ err d h s ≤ 4 := by
    unfold err out
    exact err_le ok (by omega) (by omega)
  refine ⟨he, ?_⟩
  have hd := ok.dv
  have hm := m2_nn ok
  have fin : (-(4 - m2 d) ≤ first d (err d h s) ∧ first d (err d h s) ≤ 4 - m2 d) ∧ -m2 d ≤ later d (err d h s) ∧ later d (err d h s) ≤ m2 d := by
    generalize err d h s = e at he ⊢
    rcases shares_cases ok with ⟨a, es, h1, h2⟩ | ⟨a, b, es, h1, h2, h3⟩
    · have el : later d e = 0 := by unfold later; rw [es]; simp
      have em : m2 d = 0 := by unfold m2; rw [es]; simp
      have hf : -4 ≤ first d e ∧ first d e ≤ 4 := by
        unfold first
        split
        · rw [el]; omega
        · rw [es]
          simp only [List.getD_cons_zero]
          have p1 := part_le h1 (show 0 < d.dv by omega) he
          have p2 := rest_le h1 (show 0 < d.dv by omega) h2 he
          have p3 : 0 ≤ 4 * a / d.dv := Int.ediv_nonneg (by omega) (by omega)
          have p4 : 4 * a / d.dv ≤ 4 * d.dv / d.dv := Int.ediv_le_ediv (by omega) (by omega)
          rw [Int.mul_ediv_cancel _ (by omega)] at p4
          omega
      rw [el, em]
      omega
    · have el : later d e = part e b d.dv := by unfold later; rw [es]; simp
      have em : m2 d = 4 * b / d.dv := by unfold m2; rw [es]; simp
      have p1 := part_le h2 (show 0 < d.dv by omega) he
      rw [el, em]
      refine ⟨?_, p1⟩
      unfold first
      split
      · rw [el]
        exact rest_le h2 (by omega) (by omega) he
      · rw [es]
        simp only [List.getD_cons_zero]
        have p2 := part_le h1 (show 0 < d.dv by omega) he
        have q1 : 4 * a / d.dv * d.dv ≤ 4 * a := Int.ediv_mul_le _ (by omega)
        have q2 : 4 * b / d.dv * d.dv ≤ 4 * b := Int.ediv_mul_le _ (by omega)
        have q3 : (4 * a / d.dv + 4 * b / d.dv) * d.dv ≤ 4 * d.dv := by rw [Int.add_mul]; omega
        have q4 : 4 * a / d.dv + 4 * b / d.dv ≤ 4 := Int.le_of_mul_le_mul_right q3 (by omega)
        omega
  refine ⟨?_, fin.2⟩
  show -4 ≤ h.2 + first d (err d h s) ∧ h.2 + first d (err d h s) ≤ 4
  omega
end CM
/-! CDMath2: sequences that come again; rows again and again. -/
namespace CM
open PySem
/-! ### sequences -/
section
variable {α : Type}
def Ev (o : Nat → α) (l p : Nat) : Prop := 0 < p ∧ ∀ n, l ≤ n → o (n + p) = o n
structure Min (o : Nat → α) (l p : Nat) : Prop where
  ev : Ev o l p
  per : ∀ l' p', Ev o l' p' → p ≤ p'
  lead : ∀ l', Ev o l' p → l ≤ l'
variable {o : Nat → α} {l l' p q : Nat}
theorem Ev.mul (h : Ev o l p) : ∀ (k n : Nat), l ≤ n → o (n + k * p) = o n
  | 0, n, _ => by simp
  | k + 1, n, hn => by
    have e : n + (k + 1) * p = n + k * p + p := by rw [Nat.add_mul]; omega
    rw [e, h.2 _ (by omega), Ev.mul h k n hn]
theorem Ev.up (h : Ev o l p) (hl : l ≤ l') : Ev o l' p := ⟨h.1, fun n hn => h.2 n (by omega)⟩
/-- a period that holds far on holds wherever there is another -/
theorem Ev.back (h : Ev o l p) (h2 : Ev o l' q) : Ev o l q := by
  refine ⟨h2.1, fun n hn => ?_⟩
  have hp := h.1
  have e1 := h.mul l' (n + q) (by omega)
  have e2 := h.mul l' n hn
  have hge : l' ≤ l' * p := Nat.le_mul_of_pos_right _ hp
  have e3 := h2.2 (n + l' * p) (by omega)
  have e4 : n + l' * p + q = n + q + l' * p := by omega
  rw [e4, e1, e2] at e3
  exact e3
theorem Ev.mod (h : Ev o l p) (t : Nat) : o (l + t % p) = o (l + t) := by
  have e := h.mul (t / p) (l + t % p) (by omega)
  have e2 : l + t % p + t / p * p = l + t := by
    have := Nat.mod_add_div t p
    rw [Nat.mul_comm] at this
    omega
  rw [e2] at e
  exact e.symm
theorem least (P : Nat → Prop) (h : ∃ n, P n) : ∃ n, P n ∧ ∀ m, P m → n ≤ m := by
  obtain ⟨n, hn⟩ := h
  induction n using Nat.strongRecOn with
  | _ n ih =>
    by_cases c : ∃ m, m < n ∧ P m
    · obtain ⟨m, hm, pm⟩ := c
      exact ih m hm pm
    · exact ⟨n, hn, fun m pm => Nat.le_of_not_lt fun hlt => c ⟨m, hlt, pm⟩⟩
theorem Min.dvd (m : Min o l p) (h : Ev o l' q) : p ∣ q := by
  have h2 := m.ev.back h
  have hp := m.ev.1
  apply Nat.dvd_of_mod_eq_zero
  apply Nat.eq_zero_of_not_pos
  intro hr
  have e : Ev o l (q % p) := ⟨hr, fun n hn => by
    have e1 := m.ev.mul (q / p) (n + q % p) (by omega)
    have e2 : n + q % p + q / p * p = n + q := by
      have := Nat.mod_add_div q p
      rw [Nat.mul_comm] at this
      omega
    rw [e2, h2.2 n hn] at e1
    exact e1.symm⟩
  have := m.per _ _ e
  have := Nat.mod_lt q hp
  omega
theorem Min.uniq {l2 p2 : Nat} (a : Min o l p) (b : Min o l2 p2) : l = l2 ∧ p = p2 := by
  have e : p = p2 := Nat.le_antisymm (a.per _ _ b.ev) (b.per _ _ a.ev)
  subst e
  exact ⟨Nat.le_antisymm (a.lead _ b.ev) (b.lead _ a.ev), rfl⟩
theorem Ev.min (h : Ev o l q) : ∃ l' p', Min o l' p' ∧ l' ≤ l ∧ p' ≤ q := by
  obtain ⟨p, ⟨l1, h1⟩, h2⟩ := least (fun p => ∃ l, Ev o l p) ⟨q, l, h⟩
  obtain ⟨l', h3, h4⟩ := least (fun l => Ev o l p) ⟨l1, h1⟩
  exact ⟨l', p, ⟨h3, fun l2 p2 e => h2 p2 ⟨l2, e⟩, h4⟩, h4 _ (h.back h1), h2 q ⟨l, h⟩⟩
/-- the first n of o from a place on -/
def seg (o : Nat → α) (l n : Nat) : List α := (List.range n).map fun t => o (l + t)
theorem seg_len (l n : Nat) : (seg o l n).length = n := by simp [seg]
theorem seg_get {i n : Nat} (h : i < n) : (seg o l n)[i]? = some (o (l + i)) := by simp [seg, h]
theorem seg_zero : seg o l 0 = [] := rfl
theorem seg_add (l m n : Nat) : seg o l (m + n) = seg o l m ++ seg o (l + m) n := by
  unfold seg
  rw [List.range_add, List.map_append, List.map_map]
  congr 1
  apply List.map_congr_left
  intro t _
  show o (l + (m + t)) = o (l + m + t)
  rw [Nat.add_assoc]
theorem seg_succ (l n : Nat) : seg o l (n + 1) = seg o l n ++ [o (l + n)] := by
  rw [seg_add]; rfl
theorem seg_cons (l n : Nat) : seg o l (n + 1) = o l :: seg o (l + 1) n := by
  rw [Nat.add_comm n 1, seg_add]; rfl
theorem seg_congr {o' : Nat → α} {l' n : Nat} (h : ∀ t, t < n → o (l + t) = o' (l' + t)) : seg o l n = seg o' l' n := by
  unfold seg
  apply List.map_congr_left
  intro t ht
  exact h t (List.mem_range.mp ht)
theorem seg_inj {o' : Nat → α} {l' n : Nat} (h : seg o l n = seg o' l' n) : ∀ t, t < n → o (l + t) = o' (l' + t) := by
  intro t ht
  have e := congrArg (fun x => x[t]?) h
  simp only [seg_get ht] at e
  exact Option.some.inj e
theorem seg_take {k n : Nat} (h : k ≤ n) : (seg o l n).take k = seg o l k := by
  have e : n = k + (n - k) := by omega
  rw [e, seg_add, List.take_append_of_le_length (by rw [seg_len]; exact Nat.le_refl _), List.take_of_length_le (by rw [seg_len]; exact Nat.le_refl _)]
theorem seg_drop {k n : Nat} (h : k ≤ n) : (seg o l n).drop k = seg o (l + k) (n - k) := by
  have e : n = k + (n - k) := by omega
  conv => lhs; rw [e, seg_add]
  rw [List.drop_append_of_le_length (by rw [seg_len]; exact Nat.le_refl _), List.drop_of_length_le (by rw [seg_len]; exact Nat.le_refl _), List.nil_append]
theorem seg_map {β : Type} (f : α → β) (l n : Nat) : (seg o l n).map f = seg (fun t => f (o t)) l n := by
  unfold seg
  rw [List.map_map]; rfl
/-- a block that comes k times -/
theorem seg_rep (l p : Nat) (hp : 0 < p) : ∀ k : Nat, (List.replicate k (seg o l p)).flatten = seg (fun t => o (l + t % p)) 0 (k * p)
  | 0 => by simp [seg]
  | k + 1 => by
    rw [List.replicate_succ', List.flatten_append, seg_rep l p hp k, Nat.add_mul, Nat.one_mul, seg_add]
    congr 1
    rw [List.flatten_singleton]
    apply seg_congr
    intro t ht
    show o (l + t) = o (l + (0 + k * p + t) % p)
    rw [Nat.zero_add, Nat.add_comm (k * p) t, Nat.add_mul_mod_self_right, Nat.mod_eq_of_lt ht]
theorem Ev.rep (h : Ev o l p) (k : Nat) : (List.replicate k (seg o l p)).flatten = seg o l (k * p) := by
  rw [seg_rep l p h.1]
  apply seg_congr
  intro t _
  rw [Nat.zero_add]
  exact h.mod t
end
/-! ### the shortest block -/
/-- xs is its first p items k times -/
def Blk {α : Type} (xs : List α) (p : Nat) : Prop := (List.replicate (xs.length / p) (xs.take p)).flatten = xs
theorem blk_seg {α : Type} {o : Nat → α} {l n p : Nat} (hn : Ev o l n) (hp : 0 < p) (hd : p ∣ n) : Blk (seg o l n) p ↔ Ev o l p := by
  obtain ⟨k, hk⟩ := hd
  have hk' : n = k * p := by rw [hk, Nat.mul_comm]
  have hkp : 0 < k := by
    apply Nat.pos_of_ne_zero
    intro h0
    have := hn.1
    rw [hk', h0] at this
    simp at this
  have hpn : p ≤ n := by rw [hk']; exact Nat.le_mul_of_pos_left _ hkp
  have hdiv : n / p = k := by rw [hk']; exact Nat.mul_div_cancel _ hp
  unfold Blk
  rw [seg_len, seg_take hpn, hdiv]
  constructor
  · intro h
    rw [seg_rep l p hp k, ← hk'] at h
    have hi := seg_inj h
    refine ⟨hp, fun m hm => ?_⟩
    -- m = l + t; work modulo n
    have e0 : ∀ t, o (l + t) = o (l + t % p) := fun t => by
      have h1 := hn.mod t
      have h2 := hi (t % n) (Nat.mod_lt _ hn.1)
      rw [Nat.zero_add] at h2
      rw [← h1, ← h2]
      congr 2
      exact Nat.mod_mod_of_dvd t ⟨k, hk⟩
    have e1 := e0 (m - l + p)
    have e2 := e0 (m - l)
    rw [Nat.add_mod_right] at e1
    rw [← e2] at e1
    have a1 : l + (m - l + p) = m + p := by omega
    have a2 : l + (m - l) = m := by omega
    rw [a1, a2] at e1
    exact e1
  · intro h
    rw [h.rep k, ← hk']
/-- what the program finds as the shortest block is the least period -/
theorem shortest_min {α : Type} {o : Nat → α} {l n p : Nat} (hn : Ev o l n) (hp : 0 < p) (hd : p ∣ n) (hb : Blk (seg o l n) p) (hm : ∀ q, 0 < q → q ∣ n → Blk (seg o l n) q → p ≤ q) : Ev o l p ∧ ∀ l' p', Ev o l' p' → p ≤ p' := by
  have he := (blk_seg hn hp hd).mp hb
  refine ⟨he, fun l' p' h' => ?_⟩
  obtain ⟨l2, p2, m2, hl2, _⟩ := he.min
  have e2 : Ev o l p2 := he.back m2.ev
  have d2 : p2 ∣ n := m2.dvd hn
  have h1 := hm p2 m2.ev.1 d2 ((blk_seg hn m2.ev.1 d2).mpr e2)
  have h2 := m2.per _ _ h'
  omega
/-! ### rows again and again -/
def rs (d : Di) (row : List Int) : Nat → Sta
  | 0 => (0, 0)
  | n + 1 => walkS d (rs d row n) row
def ro (d : Di) (row : List Int) (n : Nat) : List Int := walkO d (rs d row n) row
def RowOk (d : Di) (row : List Int) : Prop := ∀ s ∈ row, 0 ≤ s ∧ s ≤ d.top
theorem start_ok {d : Di} (ok : d.Ok) : StOk d (0, 0) := by
  have := m2_nn ok
  exact ⟨⟨by decide, by decide⟩, ⟨by show -m2 d ≤ 0; omega, by show 0 ≤ m2 d; omega⟩⟩
theorem walk_ok {d : Di} (ok : d.Ok) : ∀ (row : List Int) (h : Sta), RowOk d row → StOk d h → StOk d (walkS d h row)
  | [], h, _, hh => hh
  | s :: r, h, hr, hh => walk_ok ok r _ (fun x hx => hr x (List.mem_cons_of_mem _ hx)) (nxt_ok ok hh (hr s List.mem_cons_self)).2
theorem rs_ok {d : Di} (ok : d.Ok) {row : List Int} (hr : RowOk d row) : ∀ n, StOk d (rs d row n)
  | 0 => start_ok ok
  | n + 1 => walk_ok ok row _ hr (rs_ok ok hr n)
theorem rs_per {d : Di} {row : List Int} {i j : Nat} (h : rs d row i = rs d row j) : ∀ n, rs d row (i + n) = rs d row (j + n)
  | 0 => h
  | n + 1 => by
    show walkS d (rs d row (i + n)) row = walkS d (rs d row (j + n)) row
    rw [rs_per h n]
theorem ro_ev {d : Di} {row : List Int} {i j : Nat} (hij : i < j) (h : rs d row i = rs d row j) : Ev (ro d row) i (j - i) := by
  refine ⟨by omega, fun n hn => ?_⟩
  have e := rs_per h (n - i)
  have a1 : i + (n - i) = n := by omega
  have a2 : j + (n - i) = n + (j - i) := by omega
  rw [a1, a2] at e
  unfold ro
  rw [e]
/-- pigeons -/
theorem nodup_le {α : Type} [DecidableEq α] : ∀ (l m : List α), l.Nodup → (∀ x ∈ l, x ∈ m) → l.length ≤ m.length
  | [], m, _, _ => Nat.zero_le _
  | x :: l, m, hn, hs => by
    have hx := hs x List.mem_cons_self
    have h1 := nodup_le l (m.erase x) (List.nodup_cons.mp hn).2 fun y hy => by
      have hne : y ≠ x := fun e => (List.nodup_cons.mp hn).1 (e ▸ hy)
      exact (List.mem_erase_of_ne hne).mpr (hs y (List.mem_cons_of_mem _ hy))
    rw [List.length_erase_of_mem hx] at h1
    have : 0 < m.length := List.length_pos_of_mem hx
    rw [List.length_cons]
    omega
def allSta : List Sta := (List.range 9).flatMap fun i : Nat => (List.range 9).map fun j : Nat => ((i : Int) - 4, (j : Int) - 4)
theorem mem_allSta {d : Di} (ok : d.Ok) {h : Sta} (hh : StOk d h) : h ∈ allSta := by
  have ha := hh.a
  have hb := hh.b
  have hm := m2_nn ok
  unfold allSta
  rw [List.mem_flatMap]
  refine ⟨(h.1 + 4).toNat, List.mem_range.mpr (by omega), List.mem_map.mpr ⟨(h.2 + 4).toNat, List.mem_range.mpr (by omega), ?_⟩⟩
  apply Prod.ext
  · show (((h.1 + 4).toNat : Nat) : Int) - 4 = h.1
    omega
  · show (((h.2 + 4).toNat : Nat) : Int) - 4 = h.2
    omega
theorem states_le {d : Di} (ok : d.Ok) {row : List Int} (hr : RowOk d row) {n : Nat} (hn : ((List.range n).map (rs d row)).Nodup) : n ≤ 81 := by
  have h := nodup_le _ allSta hn fun x hx => by
    obtain ⟨i, _, rfl⟩ := List.mem_map.mp hx
    exact mem_allSta ok (rs_ok ok hr i)
  have e : allSta.length = 81 := by decide +kernel
  simpa [e] using h
theorem again {d : Di} (ok : d.Ok) {row : List Int} (hr : RowOk d row) : ∃ i j, i < j ∧ j ≤ 81 ∧ rs d row i = rs d row j := by
  apply Classical.byContradiction
  intro hc
  have hn : ((List.range 82).map (rs d row)).Nodup := by
    rw [List.Nodup, List.pairwise_iff_getElem]
    intro i j hi hj hij e
    simp only [List.length_map, List.length_range] at hi hj
    simp only [List.getElem_map, List.getElem_range] at e
    exact hc ⟨i, j, hij, by omega, e⟩
  have := states_le ok hr hn
  omega
theorem ro_min {d : Di} (ok : d.Ok) {row : List Int} (hr : RowOk d row) : ∃ l p, Min (ro d row) l p ∧ l + p ≤ 81 := by
  obtain ⟨i, j, hij, hj, e⟩ := again ok hr
  obtain ⟨l, p, m, hl, hp⟩ := (ro_ev hij e).min
  exact ⟨l, p, m, by omega⟩
theorem min_le {d : Di} (ok : d.Ok) {row : List Int} (hr : RowOk d row) {l p : Nat} (m : Min (ro d row) l p) : l + p ≤ 81 := by
  obtain ⟨l2, p2, m2, h⟩ := ro_min ok hr
  obtain ⟨rfl, rfl⟩ := m.uniq m2
  exact h
/-! ### exact dithers: what is handed on is kept -/
def S (h : Sta) : Int := h.1 + h.2
theorem nxt_S {d : Di} (he : d.exact = true) (h : Sta) (s : Int) : S (nxt d h s) = S h + s - out d h s := by
  have e : first d (err d h s) = err d h s - later d (err d h s) := by unfold first; rw [if_pos he]
  show h.2 + first d (err d h s) + later d (err d h s) = h.1 + h.2 + s - out d h s
  rw [e]
  unfold err
  omega
theorem walk_S {d : Di} (he : d.exact = true) : ∀ (row : List Int) (h : Sta), S (walkS d h row) = S h + row.sum - (walkO d h row).sum
  | [], h => by show S h = S h + 0 - 0; omega
  | s :: r, h => by
    have e1 := walk_S he r (nxt d h s)
    have e2 := nxt_S he h s
    show S (walkS d (nxt d h s) r) = S h + (s :: r).sum - (out d h s :: walkO d (nxt d h s) r).sum
    rw [List.sum_cons, List.sum_cons, e1, e2]
    omega
/-- the sum of n rounds from l on -/
def tot (o : Nat → List Int) (l n : Nat) : Int := ((seg o l n).map List.sum).sum
theorem tot_zero (o : Nat → List Int) (l : Nat) : tot o l 0 = 0 := rfl
theorem tot_succ (o : Nat → List Int) (l n : Nat) : tot o l (n + 1) = tot o l n + (o (l + n)).sum := by
  unfold tot
  rw [seg_succ, List.map_append, List.sum_append]
  simp
theorem tot_add (o : Nat → List Int) (l m n : Nat) : tot o l (m + n) = tot o l m + tot o (l + m) n := by
  unfold tot
  rw [seg_add, List.map_append, List.sum_append]
theorem rounds_S {d : Di} (he : d.exact = true) (row : List Int) (l : Nat) : ∀ n, tot (ro d row) l n = (n : Int) * row.sum + S (rs d row l) - S (rs d row (l + n))
  | 0 => by rw [tot_zero]; simp
  | n + 1 => by
    have e := walk_S he row (rs d row (l + n))
    have ih := rounds_S he row l n
    rw [tot_succ, ih]
    show _ + (ro d row (l + n)).sum = ((n + 1 : Nat) : Int) * row.sum + S (rs d row l) - S (walkS d (rs d row (l + n)) row)
    rw [e]
    have e2 : ((n + 1 : Nat) : Int) * row.sum = (n : Int) * row.sum + row.sum := by
      rw [Int.natCast_add, Int.add_mul]; simp
    rw [e2]
    unfold ro
    omega
theorem tot_shift {o : Nat → List Int} {l p : Nat} (h : Ev o l p) : ∀ k, tot o (l + k) p = tot o l p
  | 0 => rfl
  | k + 1 => by
    have ih := tot_shift h k
    have e1 := tot_add o (l + k) 1 p
    have e2 := tot_succ o (l + k) p
    have e3 : 1 + p = p + 1 := by omega
    have e4 : tot o (l + k) 1 = (o (l + k)).sum := by
      have := tot_succ o (l + k) 0
      rw [tot_zero] at this
      simpa using this
    have e5 : o (l + k + p) = o (l + k) := h.2 _ (by omega)
    rw [e3, e2, e4, e5] at e1
    have e6 : l + (k + 1) = l + k + 1 := by omega
    rw [e6]
    omega
theorem tot_mul {o : Nat → List Int} {l p : Nat} (h : Ev o l p) (k0 : Nat) : ∀ k : Nat, tot o (l + k0) (k * p) = (k : Int) * tot o l p
  | 0 => by rw [Nat.zero_mul, tot_zero]; simp
  | k + 1 => by
    rw [Nat.add_mul, Nat.one_mul, tot_add, tot_mul h k0 k]
    have e : l + k0 + k * p = l + (k0 + k * p) := by omega
    rw [e, tot_shift h, Int.natCast_add, Int.add_mul]
    simp
theorem period_sum {d : Di} (ok : d.Ok) {row : List Int} (hr : RowOk d row) (he : d.exact = true) {l p : Nat} (m : Min (ro d row) l p) : tot (ro d row) l p = (p : Int) * row.sum := by
  obtain ⟨i, j, hij, hj, e⟩ := again ok hr
  have hev := ro_ev hij e
  have hli : l ≤ i := m.lead i (hev.back m.ev)
  obtain ⟨k, hk⟩ := m.dvd hev
  have h1 := rounds_S he row i (j - i)
  have a1 : i + (j - i) = j := by omega
  rw [a1, e] at h1
  have h2 := tot_mul m.ev (i - l) k
  have a2 : l + (i - l) = i := by omega
  have a3 : j - i = k * p := by rw [hk, Nat.mul_comm]
  rw [a2, ← a3, h1, a3] at h2
  have hkp : 0 < k := by
    apply Nat.pos_of_ne_zero
    intro h0
    rw [h0] at a3
    simp at a3
    omega
  have h3 : (k : Int) * tot (ro d row) l p = (k : Int) * ((p : Int) * row.sum) := by
    rw [← h2, Int.natCast_mul, Int.mul_assoc]
    omega
  exact Int.eq_of_mul_eq_mul_left (by omega) h3
section
variable {α : Type} {o : Nat → α} {l p : Nat}
/-- a window of 500 items shows the period -/
theorem win_len (m : Min o l p) (hb : l + p ≤ 81) {q S : Nat} (hq : 0 < q) (hq2 : q ≤ 165) (hS : S ≤ 166) (h : ∀ t, S ≤ t → t + q < 500 → o (t + q) = o t) : p ≤ q := by
  have hp := m.ev.1
  refine m.per 166 q ⟨hq, fun n hn => ?_⟩
  have e0 : n = 166 + (n - 166) % p + (n - 166) / p * p := by
    have := Nat.mod_add_div (n - 166) p
    rw [Nat.mul_comm] at this
    omega
  have hlt : (n - 166) % p < p := Nat.mod_lt _ hp
  generalize (n - 166) % p = r at e0 hlt
  generalize (n - 166) / p = k at e0
  have e1 := m.ev.mul k (166 + r) (by omega)
  have e2 := m.ev.mul k (166 + r + q) (by omega)
  have e3 := h (166 + r) (by omega) (by omega)
  rw [← e0] at e1
  rw [show 166 + r + q + k * p = n + q from by omega] at e2
  rw [e1, e2, e3]
theorem win_start (m : Min o l p) (hb : l + p ≤ 81) {S : Nat} (h : ∀ t, S ≤ t → t + p < 500 → o (t + p) = o t) (h2 : S = 0 ∨ o (S - 1 + p) ≠ o (S - 1)) : S = l := by
  have hp := m.ev.1
  have h3 : S ≤ l := by
    apply Classical.byContradiction
    intro hc
    rcases h2 with e | e
    · omega
    · exact e (m.ev.2 (S - 1) (by omega))
  have h4 : l ≤ S := m.lead S ⟨hp, fun n hn => by
    by_cases hw : n + p < 500
    · exact h n hn hw
    · exact m.ev.2 n (by omega)⟩
  omega
end
end CM
/-! CDSpec: what each def promises, at the level of data. -/
namespace CD
open PySem PySem.Spec PyProof.Rows L2 CM
abbrev RR := List W → Mem → (W → Mem → Prop) → Prop
abbrev dI (n : Int) : W := .d (.int n)
def R_is_between : RR := fun ws M P => ∃ v lo hi : Int, ws = [dI v, dI lo, dI hi] ∧ P (.d (.bool (decide (lo ≤ v) && decide (v ≤ hi)))) M
def R_are_levels : RR := fun ws M P => ∃ d : Di, d.Ok ∧ ws = [.d (eI d.levels), dI d.top] ∧ P (.d (.bool true)) M
def R_are_shares : RR := fun ws M P => ∃ d : Di, d.Ok ∧ ws = [.d (eI d.shares), dI d.dv] ∧ P (.d (.bool true)) M
def R_is_dither : RR := fun ws M P => ∃ d : Di, d.Ok ∧ ws = [.d d.data] ∧ P (.d (.bool true)) M
def R_need_dither : RR := fun ws M P => ∃ d : Di, d.Ok ∧ ws = [.d d.data] ∧ P (.d .none) M
def R_is_shade : RR := fun ws M P => ∃ (d : Di) (s : Int), d.Ok ∧ (0 ≤ s ∧ s ≤ d.top) ∧ ws = [.d d.data, dI s] ∧ P (.d (.bool true)) M
def R_need_shade : RR := fun ws M P => ∃ (d : Di) (s : Int), d.Ok ∧ (0 ≤ s ∧ s ≤ d.top) ∧ ws = [.d d.data, dI s] ∧ P (.d .none) M
def R_exact : RR := fun ws M P => ∃ d : Di, ws = [.d d.data] ∧ P (.d (.bool d.exact)) M
def R_nearest : RR := fun ws M P => ∃ (d : Di) (v : Int), d.Ok ∧ ws = [.d d.data, dI v] ∧ P (dI (nearest d v)) M
def R_part : RR := fun ws M P => ∃ e s dv : Int, (-4 ≤ e ∧ e ≤ 4) ∧ (0 ≤ s ∧ s ≤ 8) ∧ (1 ≤ dv ∧ dv ≤ 8) ∧ ws = [dI e, dI s, dI dv] ∧ P (dI (part e s dv)) M
def stepD (d : Di) (h : Sta) (s : Int) : PyData := .tuple [.int (out d h s), .int (err d h s), staD (nxt d h s)]
def R_step : RR := fun ws M P => ∃ (d : Di) (h : Sta) (s : Int), d.Ok ∧ StOk d h ∧ (0 ≤ s ∧ s ≤ d.top) ∧ ws = [.d d.data, .d (staD h), dI s] ∧ P (.d (stepD d h s)) M
def R_walk : RR := fun ws M P => ∃ (d : Di) (h : Sta) (row : List Int), d.Ok ∧ StOk d h ∧ RowOk d row ∧ row.length ≤ 1000 ∧ ws = [.d d.data, .d (staD h), .d (eI row)] ∧ P (.d (.tuple [eI (walkO d h row), staD (walkS d h row)])) M
def R_shortest_period : RR := fun ws M P => ∃ xs : List (List Int), xs ≠ [] ∧ xs.length ≤ 1000 ∧ ws = [.d (.list (xs.map eI))] ∧
  ∀ p, 0 < p → p ≤ xs.length → p ∣ xs.length → Blk xs p → (∀ q, 0 < q → q ∣ xs.length → Blk xs q → p ≤ q) → P (.d (.list ((xs.take p).map eI))) M
def R_rounds_of : RR := fun ws M P => ∃ (d : Di) (row : List Int), d.Ok ∧ RowOk d row ∧ row.length ≤ 1000 ∧ ws = [.d d.data, .d (eI row)] ∧
  ∀ l p, Min (ro d row) l p → P (.d (.tuple [.tuple ((seg (ro d row) 0 l).map eI), .tuple ((seg (ro d row) l p).map eI)])) M
/-- the outputs of a row of one shade -/
def fo (d : Di) (s : Int) (n : Nat) : Int := out d (rs d [s] n) s
def flatD (d : Di) (s : Int) (l p : Nat) : PyData := .tuple [eI (seg (fo d s) 0 l), eI (seg (fo d s) l p)]
def R_flat : RR := fun ws M P => ∃ (d : Di) (s : Int), d.Ok ∧ (0 ≤ s ∧ s ≤ d.top) ∧ ws = [.d d.data, dI s] ∧ ∀ l p, Min (fo d s) l p → l + p ≤ 81 → P (.d (flatD d s l p)) M
/-! ### the law's own defs -/
def R_source : RR := fun ws M P => ∃ (ns : List Int) (k : Int), (0 ≤ k ∧ k ≤ 63) ∧ ws = [.s ns, dI k] ∧ ∀ p, P (.v (.ref p)) ((p, mSrc) :: M)
def R_draw : RR := fun ws M P => ∃ (a : Addr) (sz : Int) (M0 : Mem), (1 ≤ sz ∧ sz < 10000000000000000) ∧ ws = [.v (.ref a), dI sz] ∧ M = (a, mSrc) :: M0 ∧ ∀ r : Int, 0 ≤ r → r < sz → P (dI r) M
def R_choice : RR := fun ws M P => ∃ (a : Addr) (xs : List PyData) (M0 : Mem), xs ≠ [] ∧ xs.length ≤ 1000 ∧ ws = [.v (.ref a), .d (.list xs)] ∧ M = (a, mSrc) :: M0 ∧ ∀ x ∈ xs, P (.d x) M
def R_ldither : RR := fun ws M P => ∃ (a : Addr) (most : Int) (M0 : Mem), (1 ≤ most ∧ most ≤ 8) ∧ ws = [.v (.ref a), dI most] ∧ M = (a, mSrc) :: M0 ∧ ∀ d : Di, d.Ok → d.top ≤ most → P (.d d.data) M
def R_lrun : RR := fun ws M P => ∃ (d : Di) (h : Sta) (row : List Int), d.Ok ∧ StOk d h ∧ RowOk d row ∧ row.length ≤ 1000 ∧ ws = [.d d.data, .d (staD h), .d (eI row)] ∧
  ∀ es : List Int, P (.d (.tuple [eI (walkO d h row), eI es, staD (walkS d h row)])) M
def R_lflat : RR := fun ws M P => ∃ (d : Di) (s : Int) (n : Nat), d.Ok ∧ (0 ≤ s ∧ s ≤ d.top) ∧ (2 ≤ n ∧ n ≤ 1000) ∧ ws = [.d d.data, dI s, dI n] ∧ P (.d (eI (seg (fo d s) 0 n))) M
def R_periods (α : Type) (enc : α → PyData) : RR := fun ws M P => ∃ (o : Nat → α) (l p : Nat), Min o l p ∧ l + p ≤ 81 ∧ ws = [.d (.tuple ((seg o 0 500).map enc))] ∧
  P (.d (.tuple [.tuple ((seg o 0 l).map enc), .tuple ((seg o l p).map enc)])) M
def R_law : RR := fun ws M P => ∃ ns : List Int, ns.length ≤ 63 ∧ ws = [.s ns] ∧ P (.d (.bool true)) M
end CD
/-! CDHelp: short forms for the readings. -/
namespace CD
open PySem PySem.Spec PyProof.Rows L2 CM
section
variable {K : PySem.W.Frag} {ρ : List W} {M M' : Mem} {P P' : W → Mem → Prop} {PB : Bool → Mem → Prop} {te : TE} {wi : TI} {g : TG}
theorem rx_leT {a b : Int} (c : a ≤ b) (h : P (.d (.bool true)) M) : RX K (rI0 fun i j => .bl (decide (i ≤ j))) (.d (.int a)) (.d (.int b)) M P := rx_le (by rw [decide_eq_true c]; exact h)
theorem rx_leF {a b : Int} (c : ¬ a ≤ b) (h : P (.d (.bool false)) M) : RX K (rI0 fun i j => .bl (decide (i ≤ j))) (.d (.int a)) (.d (.int b)) M P := rx_le (by rw [decide_eq_false c]; exact h)
theorem rx_ltT {a b : Int} (c : a < b) (h : P (.d (.bool true)) M) : RX K (rI0 fun i j => .bl (decide (i < j))) (.d (.int a)) (.d (.int b)) M P := rx_lt (by rw [decide_eq_true c]; exact h)
theorem rx_ltF {a b : Int} (c : ¬ a < b) (h : P (.d (.bool false)) M) : RX K (rI0 fun i j => .bl (decide (i < j))) (.d (.int a)) (.d (.int b)) M P := rx_lt (by rw [decide_eq_false c]; exact h)
theorem rx_gtT {a b : Int} (c : b < a) (h : P (.d (.bool true)) M) : RX K (rI0 fun i j => .bl (decide (j < i))) (.d (.int a)) (.d (.int b)) M P := rx_gt (by rw [decide_eq_true c]; exact h)
theorem rx_gtF {a b : Int} (c : ¬ b < a) (h : P (.d (.bool false)) M) : RX K (rI0 fun i j => .bl (decide (j < i))) (.d (.int a)) (.d (.int b)) M P := rx_gt (by rw [decide_eq_false c]; exact h)
theorem rx_geT {a b : Int} (c : b ≤ a) (h : P (.d (.bool true)) M) : RX K (rI0 fun i j => .bl (decide (j ≤ i))) (.d (.int a)) (.d (.int b)) M P := rx_ge (by rw [decide_eq_true c]; exact h)
theorem rx_geF {a b : Int} (c : ¬ b ≤ a) (h : P (.d (.bool false)) M) : RX K (rI0 fun i j => .bl (decide (j ≤ i))) (.d (.int a)) (.d (.int b)) M P := rx_ge (by rw [decide_eq_false c]; exact h)
theorem rx_eqT {a b : Int} (c : a = b) (h : P (.d (.bool true)) M) : RX K rEq (.d (.int a)) (.d (.int b)) M P := rx_eqI (by rw [decide_eq_true c]; exact h)
theorem rx_eqF {a b : Int} (c : ¬ a = b) (h : P (.d (.bool false)) M) : RX K rEq (.d (.int a)) (.d (.int b)) M P := rx_eqI (by rw [decide_eq_false c]; exact h)
theorem rx_neT {a b : Int} (c : ¬ a = b) (h : P (.d (.bool true)) M) : RX K rNe (.d (.int a)) (.d (.int b)) M P := rx_neI (by rw [decide_eq_false c]; exact h)
theorem rx_neF {a b : Int} (c : a = b) (h : P (.d (.bool false)) M) : RX K rNe (.d (.int a)) (.d (.int b)) M P := rx_neI (by rw [decide_eq_true c]; exact h)
/-- what is false is nothing -/
theorem tf {p : Prop} (z : true = false) : p := by cases z
theorem ft {p : Prop} (z : false = true) : p := by cases z
/-- a test that is a value known to be b -/
theorem map_int_get {l : List Int} {i : Nat} {x : PyData} (h : (l.map PyData.int)[i]? = some x) : ∃ n, l[i]? = some n ∧ x = .int n := by
  rw [List.getElem?_map] at h
  cases q : l[i]? with
  | none => rw [q] at h; cases h
  | some n => rw [q] at h; cases h; exact ⟨n, rfl, rfl⟩
theorem map_get {α : Type} {enc : α → PyData} {l : List α} {i : Nat} {x : PyData} (h : (l.map enc)[i]? = some x) : ∃ n, l[i]? = some n ∧ x = enc n := by
  rw [List.getElem?_map] at h
  cases q : l[i]? with
  | none => rw [q] at h; cases h
  | some n => rw [q] at h; cases h; exact ⟨n, rfl, rfl⟩
/-- all([.. for ..]), each element True -/
theorem tx_allT {vs : List Nat} (h : IX K wi ρ M fun ds M1 => ds.length ≤ 50000 ∧
    (∀ (i : Nat) (x : PyData) (F : Mem), ds[i]? = some x → ∃ ρ2 is, GX K g x (wipeW ρ vs) ρ2 is ∧ (∀ j ∈ is, j ∈ vs) ∧ TX K te ρ2 (M1 ++ F) fun w M3 => M3 = M1 ++ F ∧ w = .d (.bool true)) ∧ P (.d (.bool true)) M1) :
    TX K (tCB (rAll K) (tCons (tLc wi g tYes te vs) tNil)) ρ M P := by
  refine tx_cb (ax_cons (tx_lcM (fun _ => .bool true) fun σ G H R s e m q => h σ G H R s e m fun J G1 H1 ds M1 ⟨h1, h2, h3⟩ => q J G1 H1 ds M1 ⟨h1, h2, ax_nil ?_⟩))
  have e1 : (ds.map fun _ => PyData.bool true) = (ds.map fun _ => true).map PyData.bool := by rw [List.map_map]; rfl
  rw [e1]
  have e2 : (ds.map fun _ => true).all id = true := by rw [List.all_map]; exact List.all_eq_true.mpr fun _ _ => rfl
  refine cx_all ?_
  rw [e2]
  exact h3
theorem rx_eqE {α : Type} [DecidableEq α] {enc : α → PyData} {k : Nat} (en : En enc k) (hk : k ≤ 64) {a b : α} (h : P (.d (.bool (decide (a = b)))) M) : RX K (rEqD K) (.d (enc a)) (.d (enc b)) M P :=
  rx_eqD (en.shaped hk a) (en.shaped hk b) (by rw [en.eqv]; exact h)
theorem rx_neE {α : Type} [DecidableEq α] {enc : α → PyData} {k : Nat} (en : En enc k) (hk : k ≤ 64) {a b : α} (h : P (.d (.bool (!decide (a = b)))) M) : RX K (rNeD K) (.d (enc a)) (.d (enc b)) M P :=
  rx_neD (en.shaped hk a) (en.shaped hk b) (by rw [en.eqv]; exact h)
/-! states as keys -/
def stK (h : Sta) : NestedKey := .tup [.num h.1, .num h.2]
theorem stK_inj {a b : Sta} (h : stK a = stK b) : a = b := by
  unfold stK at h
  injection h with h
  injection h with h1 h
  injection h with h2 _
  injection h1 with h1
  injection h2 with h2
  exact Prod.ext h1 h2
def kvsOf (s : Nat → Sta) (j : Nat) : List (NestedKey × PyData) := (List.range j).map fun i => (stK (s i), PyData.int (i : Nat))
theorem kvsOf_succ (s : Nat → Sta) (j : Nat) : kvsOf s (j + 1) = kvsOf s j ++ [(stK (s j), PyData.int (j : Nat))] := by
  unfold kvsOf
  rw [List.range_succ, List.map_append]; rfl
theorem kvsOf_len (s : Nat → Sta) (j : Nat) : (kvsOf s j).length = j := by simp [kvsOf]
theorem dGet_app (kvs : List (NestedKey × PyData)) (k : NestedKey) (x : NestedKey × PyData) : dGet (kvs ++ [x]) k = match dGet kvs k with | some v => some v | none => if x.1 = k then some x.2 else none := by
  unfold dGet
  rw [List.find?_append]
  cases kvs.find? (fun p => decide (p.1 = k)) with
  | some v => rfl
  | none =>
    rw [List.find?_singleton]
    by_cases h : x.1 = k
    · simp [h]
    · simp [h]
theorem dGet_kvs (s : Nat → Sta) (h : Sta) : ∀ j, (dGet (kvsOf s j) (stK h) = none ∧ ∀ i, i < j → s i ≠ h) ∨ ∃ i, i < j ∧ s i = h ∧ dGet (kvsOf s j) (stK h) = some (.int (i : Nat))
  | 0 => .inl ⟨rfl, fun i hi => by omega⟩
  | j + 1 => by
    rw [kvsOf_succ, dGet_app]
    rcases dGet_kvs s h j with ⟨e, hn⟩ | ⟨i, hi, e1, e2⟩
    · rw [e]
      by_cases hj : s j = h
      · refine .inr ⟨j, by omega, hj, ?_⟩
        rw [if_pos (by rw [hj])]
      · refine .inl ⟨?_, fun i hi => ?_⟩
        · rw [if_neg (fun z => hj (stK_inj z))]
        · by_cases e' : i = j
          · subst e'; exact hj
          · exact hn i (by omega)
    · rw [e2]
      exact .inr ⟨i, by omega, e1, rfl⟩
theorem dPut_new {kvs : List (NestedKey × PyData)} {k : NestedKey} (v : PyData) (h : dGet kvs k = none) : dPut kvs k v = kvs ++ [(k, v)] := by
  unfold dPut
  rw [h]
  rfl
theorem skd (a b : Int) : (NestedKey.tup [.num a, .num b]).depth ≤ 8 := by simp [NestedKey.depth, NestedKey.depthAll]
theorem mem1 {α : Type} {a : α} {l : List α} : a ∈ a :: l := List.mem_cons_self
theorem mem2 {α : Type} {a b : α} {l : List α} : a ∈ b :: a :: l := List.mem_cons_of_mem _ List.mem_cons_self
/-! a source of draws -/
theorem mem_src {p : Addr} {x y : Int} : MemLe ((p, mLst K [.int x, .int y]) :: M) ((p, mSrc) :: M) := fun G H m => by
  obtain ⟨g, o, ho, xs, eo, hra⟩ := m.head
  refine ⟨m.nd, fun q hq => ?_⟩
  rcases List.mem_cons.mp hq with rfl | hq
  · refine ⟨g, o, ho, x, y, ?_⟩
    rw [eo, hra.ints (ns := [x, y])]; rfl
  · exact m.at_ q (List.mem_cons_of_mem _ hq)
theorem run_src {t : TS} {E : DE} {a : Addr} (h : ∀ x y : Int, Run K t E ρ ((a, mLst K [.int x, .int y]) :: M)) : Run K t E ρ ((a, mSrc) :: M) := fun D σ G H L s e m => by
  obtain ⟨g, o, ho, x, y, eo⟩ := m.head
  refine h x y D σ G H L s e ⟨m.nd, fun q hq => ?_⟩
  rcases List.mem_cons.mp hq with rfl | hq
  · exact ⟨g, o, ho, _, eo, .cons (.int x) (.cons (.int y) .nil)⟩
  · exact m.at_ q (List.mem_cons_of_mem _ hq)
/-! slices -/
theorem cut_from {α : Type} (xs : List α) (k : Nat) : cutD xs (some (k : Int)) none = xs.drop k := by
  unfold cutD
  rw [HT.sIx_nat, HT.sIx_none]
  by_cases h : k ≤ xs.length
  · rw [Nat.min_eq_left h, List.take_of_length_le (by rw [List.length_drop]; exact Nat.le_refl _)]
  · rw [Nat.min_eq_right (by omega), List.drop_of_length_le (Nat.le_refl _), List.drop_of_length_le (by omega), List.take_nil]
theorem cut_to {α : Type} (xs : List α) (k : Nat) : cutD xs none (some (k : Int)) = xs.take k := by
  unfold cutD
  rw [HT.sIx_none, HT.sIx_nat, List.drop_zero, Nat.sub_zero]
  by_cases h : k ≤ xs.length
  · rw [Nat.min_eq_left h]
  · rw [Nat.min_eq_right (by omega), List.take_of_length_le (Nat.le_refl _), List.take_of_length_le (by omega)]
theorem cut_ft {α : Type} (xs : List α) (j k : Nat) (h : j ≤ k) (hk : k ≤ xs.length) : cutD xs (some (j : Int)) (some (k : Int)) = (xs.drop j).take (k - j) := by
  unfold cutD
  rw [HT.sIx_nat, HT.sIx_nat, Nat.min_eq_left hk, Nat.min_eq_left (by omega)]
/-- xs[:-1] -/
theorem cut_init {α : Type} (xs : List α) : cutD xs none (some (-1)) = xs.dropLast := by
  unfold cutD
  have e : HT.sIx xs.length xs.length (some (-1)) = xs.length - 1 := by
    show (if (-1 : Int) < 0 then ((-1 : Int) + (xs.length : Int)).toNat else min (-1 : Int).toNat xs.length) = _
    rw [if_pos (by decide)]
    omega
  rw [HT.sIx_none, e, List.drop_zero, Nat.sub_zero, List.dropLast_eq_take]
/-- xs[-1:] -/
theorem cut_last {α : Type} (xs : List α) : cutD xs (some (-1)) none = xs.drop (xs.length - 1) := by
  unfold cutD
  have e : HT.sIx xs.length 0 (some (-1)) = xs.length - 1 := by
    show (if (-1 : Int) < 0 then ((-1 : Int) + (xs.length : Int)).toNat else min (-1 : Int).toNat xs.length) = _
    rw [if_pos (by decide)]
    omega
  rw [HT.sIx_none, e, List.take_of_length_le (by rw [List.length_drop]; exact Nat.le_refl _)]
theorem atI_m1 {α : Type} {xs : List α} {x : α} (h : xs.getLast? = some x) : L2.atI xs (-1) = some x := by
  obtain ⟨ys, rfl⟩ := List.getLast?_eq_some_iff.mp h
  exact L2.atI_last ys x
theorem atI_at {α : Type} {xs : List α} {z : Int} {j : Nat} {v : α} (e : z = (j : Int)) (h : xs[j]? = some v) : L2.atI xs z = some v := by
  rw [e]
  exact L2.atI_nat h
end
end CD
/-! CDLaw: facts that the laws' ends need. -/
namespace CD
open PySem PySem.Spec PyProof.Rows L2 CM
theorem mem_drop {M : Mem} : ∀ F : Mem, MemLe (F ++ M) M
  | [] => fun G H m => m
  | p :: F => fun G H m => mem_drop F G H (mem_tail G H m)
theorem fo_one (d : Di) (s : Int) (n : Nat) : ro d [s] n = [fo d s n] := rfl
theorem fo_ev {d : Di} {s : Int} {l p : Nat} : Ev (ro d [s]) l p ↔ Ev (fo d s) l p := by
  constructor
  · intro h
    refine ⟨h.1, fun n hn => ?_⟩
    have := h.2 n hn
    rw [fo_one, fo_one] at this
    exact (List.cons.inj this).1
  · intro h
    refine ⟨h.1, fun n hn => ?_⟩
    rw [fo_one, fo_one, h.2 n hn]
theorem min_fo {d : Di} {s : Int} {l p : Nat} (m : CM.Min (ro d [s]) l p) : CM.Min (fo d s) l p :=
  ⟨fo_ev.mp m.ev, fun l' p' h => m.per l' p' (fo_ev.mpr h), fun l' h => m.lead l' (fo_ev.mpr h)⟩
theorem min_of {d : Di} {s : Int} {l p : Nat} (m : CM.Min (fo d s) l p) : CM.Min (ro d [s]) l p :=
  ⟨fo_ev.mpr m.ev, fun l' p' h => m.per l' p' (fo_ev.mp h), fun l' h => m.lead l' (fo_ev.mp h)⟩
theorem row1 {d : Di} {s : Int} (hs : 0 ≤ s ∧ s ≤ d.top) : RowOk d [s] := fun z hz => by rw [List.mem_singleton.mp hz]; exact hs
theorem fo_sum {d : Di} (ok : d.Ok) {s : Int} (hs : 0 ≤ s ∧ s ≤ d.top) (he : d.exact = true) {l p : Nat} (m : CM.Min (fo d s) l p) : (seg (fo d s) l p).sum = s * (p : Int) := by
  have h := period_sum ok (row1 hs) he (min_of m)
  unfold tot at h
  rw [seg_map] at h
  have e : (fun t => (ro d [s] t).sum) = fo d s := by
    funext t
    rw [fo_one]
    simp
  rw [e] at h
  rw [h]
  simp [Int.mul_comm]
/-- what a window shows decides the least period of one that is known to come again -/
def shows {α : Type} [DecidableEq α] (o : Nat → α) (q : Nat) : Bool := (List.range q).all fun r => decide (r = 0) || (List.range q).any fun n => !decide (o (n + r) = o n)
theorem conc {α : Type} [DecidableEq α] {o : Nat → α} {l p q : Nat} (m : CM.Min o l p) (h : Ev o 0 q) (c : shows o q = true) : l = 0 ∧ p = q := by
  have h1 := h.back m.ev
  have h2 := m.lead 0 h1
  have h3 := m.per 0 q h
  refine ⟨by omega, Nat.le_antisymm h3 ?_⟩
  apply Classical.byContradiction
  intro hc
  have h4 := List.all_eq_true.mp c p (List.mem_range.mpr (by omega))
  have hp := m.ev.1
  rw [decide_eq_false (by omega), Bool.false_or] at h4
  obtain ⟨n, hn, h5⟩ := List.any_eq_true.mp h4
  rw [h1.2 n (Nat.zero_le _), decide_eq_true rfl] at h5
  cases h5
theorem fo_conc {d : Di} {s : Int} {l p : Nat} (m : CM.Min (fo d s) l p) (q : Nat) (hq : 0 < q) (h : rs d [s] 0 = rs d [s] q) (c : shows (fo d s) q = true) : l = 0 ∧ p = q := by
  have := ro_ev (d := d) (row := [s]) hq h
  exact conc m (fo_ev.mp this) c
theorem flatD_is {d : Di} {s : Int} {l p q : Nat} {xs : List Int} (e : l = 0 ∧ p = q) (h : seg (fo d s) 0 q = xs) : flatD d s l p = .tuple [eI [], eI xs] := by
  obtain ⟨rfl, rfl⟩ := e
  unfold flatD
  rw [h]
  rfl
end CD
/-! CDMore: further rules. -/
namespace CD
open PySem PySem.Spec PyProof.Rows L2 CM
section
variable {K : PySem.W.Frag} {ρ : List W} {M M' : Mem} {P P' : W → Mem → Prop}
/-- list(a tuple): a new list -/
theorem cx_listT {ds : List PyData} (h : P (.d (.list ds)) M) : CX K (fun xs H Q => ∃ p ys, xs = [.ref p] ∧ (SqL K H p ys ∨ SqT K H p ys) ∧ ∀ l, H l = none → Q (.ref l) (upd H l (.lst ys))) [.d (.tuple ds)] M P := fun vs G H Q s m r q => by
  cases r with
  | cons r1 r2 =>
    cases r2
    cases (show Rp K G _ (.tuple ds) from r1) with
    | @tup a as _ ha hra =>
      refine ⟨a, as, rfl, .inr (same_t s ha), fun p hp => ?_⟩
      exact q _ _ _ _ M h (same_new (s.free hp)) (same_upd2 s) (m.new s hp) (.lst upd_same (RpAll.mono (same_new (s.free hp)) _ _ hra))
end
/-! ### what is asked of data that are rows -/
abbrev eR (xs : List (List Int)) : PyData := .tuple (xs.map eI)
theorem en_R : En (fun l : List (List Int) => eR l) 2 := en_I.tuple
theorem en_RR : En (fun p : List (List Int) × List (List Int) => .tuple [eR p.1, eR p.2]) 3 := en_R.pair en_R
theorem sp_RR (a b : List (List Int)) : SeqAt.shaped (.tuple [eR a, eR b]) = true := en_RR.shaped (by decide) (a, b)
theorem ne_RR (a b : List (List Int)) : W.d (.bool (!PyData.eqv (.tuple [eR a, eR b]) (.tuple [eR a, eR b]))) = W.d (.bool false) := by
  rw [en_RR.eqv (a, b) (a, b), decide_eq_true rfl]; rfl
theorem is_RR (a b : List (List Int)) : W.d (.bool (PyData.eqv (.tuple [eR a, eR b]) (.tuple [eR a, eR b]))) = W.d (.bool true) := by
  rw [en_RR.eqv (a, b) (a, b), decide_eq_true rfl]
def numD : PyData → Int
  | .int n => n
  | _ => 0
def sumD : PyData → PyData
  | .tuple ds => .int (ds.map numD).sum
  | _ => .none
theorem sumD_I (xs : List Int) : sumD (eI xs) = .int xs.sum := by
  show PyData.int ((xs.map PyData.int).map numD).sum = PyData.int xs.sum
  rw [List.map_map, show numD ∘ PyData.int = id from rfl, List.map_id]
theorem sumD_map (o : Nat → List Int) (l n : Nat) : ((seg o l n).map eI).map sumD = ((seg o l n).map List.sum).map PyData.int := by
  rw [List.map_map, List.map_map]
  exact List.map_congr_left fun x _ => sumD_I x
section
variable {K : PySem.W.Frag} {ρ : List W} {M M' : Mem} {P P' : W → Mem → Prop}
/-- sum([sum(row) for row in rows]) -/
theorem tx_sumRows {wi : TI} {i : Nat} {o : Nat → List Int} {a k : Nat} (hi : i < ρ.length) (hk : k ≤ 50000) (h : IX K wi ρ M fun ds M1 => ds = (seg o a k).map eI ∧ P (dI (tot o a k)) M1) :
    TX K (tCB (rSum K) (tCons (tLc wi (gName i) tYes (tCB (rSumT K) (tCons (tVar i) tNil)) [i]) tNil)) ρ M P := by
  refine tx_cb (ax_cons (tx_lcM sumD fun σ G H R s e m q => h σ G H R s e m fun J G1 H1 ds M1 ⟨e1, h2⟩ => q J G1 H1 ds M1 ⟨?_, fun j x F hx => ?_, ax_nil ?_⟩))
  · rw [e1, List.length_map, seg_len]; exact hk
  · rw [e1] at hx
    obtain ⟨xs, _, rfl⟩ := map_get hx
    refine ⟨_, _, gx_name, fun j hj => hj, tx_cb (ax_cons (tx_var (x := eI xs) ?_ (ax_nil (cx_sumT ⟨rfl, by rw [sumD_I]⟩))))⟩
    unfold wipeW
    rw [List.getElem?_set_self (by unfold wipeW; rw [List.length_set]; exact hi)]
  · rw [e1, sumD_map]
    exact cx_sumL h2
end
/-! ### sums of rounds -/
theorem tot_far {o : Nat → List Int} {l p : Nat} (h : Ev o l p) (n : Nat) (hn : l ≤ n) : tot o 0 n = tot o 0 l + (((n - l) / p : Nat) : Int) * tot o l p + tot o l ((n - l) % p) := by
  have hd := Nat.mod_add_div (n - l) p
  rw [Nat.mul_comm] at hd
  have e1 : n = l + ((n - l) / p * p + (n - l) % p) := by omega
  have e2 := tot_mul h 0 ((n - l) / p)
  have e3 := tot_add o l ((n - l) / p * p) ((n - l) % p)
  have e4 : tot o (l + (n - l) / p * p) ((n - l) % p) = tot o l ((n - l) % p) := by
    unfold tot
    rw [seg_congr (l' := l) (o' := o)]
    intro t _
    have := h.mul ((n - l) / p) (l + t) (by omega)
    rw [← this]
    congr 1
    omega
  have e5 := tot_add o 0 l ((n - l) / p * p + (n - l) % p)
  rw [Nat.zero_add, e3, e4] at e5
  rw [Nat.add_zero] at e2
  rw [e2] at e5
  rw [← e1] at e5
  rw [e5]
  omega
/-! ### a lead and a period, five hundred of them -/
theorem again_all {α : Type} {enc : α → PyData} {o : Nat → α} {l p : Nat} (m : Ev o l p) :
    cutD ((seg o 0 l).map enc ++ (List.replicate 500 ((seg o l p).map enc)).flatten) none (some (500 : Int)) = (seg o 0 500).map enc := by
  have hp := m.1
  have e := m.rep 500
  have e2 : (List.replicate 500 ((seg o l p).map enc)).flatten = (seg o l (500 * p)).map enc := by
    rw [← e, List.map_flatten, List.map_replicate]
  have e3 := seg_add (o := o) 0 l (500 * p)
  rw [Nat.zero_add] at e3
  rw [e2, ← List.map_append, ← e3, show (500 : Int) = ((500 : Nat) : Int) from rfl, cut_to, ← List.map_take, seg_take (by omega)]
theorem again_size {α : Type} {enc : α → PyData} {o : Nat → α} {l p : Nat} (m : Ev o l p) : (List.replicate 500 ((seg o l p).map enc)).flatten.length = 500 * p := by
  have e := m.rep 500
  have e2 : (List.replicate 500 ((seg o l p).map enc)).flatten = (seg o l (500 * p)).map enc := by
    rw [← e, List.map_flatten, List.map_replicate]
  rw [e2, List.length_map, seg_len]
theorem ro_conc {d : Di} {row : List Int} {l p : Nat} (m : CM.Min (ro d row) l p) (q : Nat) (hq : 0 < q) (h : rs d row 0 = rs d row q) (c : shows (ro d row) q = true) : l = 0 ∧ p = q :=
  conc m (ro_ev (d := d) (row := row) hq h) c
theorem roundsD_is {d : Di} {row : List Int} {l p q : Nat} {xs : List (List Int)} (e : l = 0 ∧ p = q) (h : seg (ro d row) 0 q = xs) : (PyData.tuple [eR (seg (ro d row) 0 l), eR (seg (ro d row) l p)]) = .tuple [eR [], eR xs] := by
  obtain ⟨rfl, rfl⟩ := e
  rw [h]
  rfl
theorem tot_conc {d : Di} {row : List Int} (q k : Nat) (hq : 0 < q) (h : rs d row 0 = rs d row q) : tot (ro d row) 0 (k * q) = (k : Int) * tot (ro d row) 0 q :=
  tot_mul (ro_ev (d := d) (row := row) hq h) 0 k
abbrev DA : Di := ⟨4, [0, 4], [1], 1, false⟩
theorem DA_ok : DA.Ok := ⟨by decide, by decide, by decide, by decide, rfl, rfl, by decide, .inl rfl, by decide, by decide⟩
def oneD (x : PyData) : PyData := .tuple [x]
theorem one_map (d : Di) (s : Int) (l n : Nat) : ((seg (fo d s) l n).map PyData.int).map oneD = (seg (ro d [s]) l n).map eI := by
  rw [List.map_map, seg_map, seg_map]
  rfl
def R_need_row : RR := fun ws M P => ∃ (d : Di) (row : List Int), d.Ok ∧ RowOk d row ∧ row.length ≤ 40 ∧ ws = [.d d.data, .d (eI row)] ∧ P (.d .none) M
def R_sum_of_rounds : RR := fun ws M P => ∃ (o : Nat → List Int) (l p n : Nat), Ev o l p ∧ l + p ≤ 81 ∧ n ≤ 1000000000000000 ∧ ws = [.d (.tuple [eR (seg o 0 l), eR (seg o l p)]), dI n] ∧ P (dI (tot o 0 n)) M
def R_repeated : RR := fun ws M P => ∃ (d : Di) (row : List Int), d.Ok ∧ RowOk d row ∧ row.length ≤ 40 ∧ ws = [.d d.data, .d (eI row)] ∧ ∀ l p, Min (ro d row) l p → P (.d (.tuple [eR (seg (ro d row) 0 l), eR (seg (ro d row) l p)])) M
def R_repeated_sum : RR := fun ws M P => ∃ (d : Di) (row : List Int) (n : Nat), d.Ok ∧ RowOk d row ∧ row.length ≤ 40 ∧ n ≤ 1000000000000000 ∧ ws = [.d d.data, .d (eI row), dI n] ∧ P (dI (tot (ro d row) 0 n)) M
def R_lrow : RR := fun ws M P => ∃ (a : Addr) (d : Di) (most : Int) (M0 : Mem), d.Ok ∧ (0 ≤ most ∧ most ≤ 40) ∧ ws = [.v (.ref a), .d d.data, dI most] ∧ M = (a, mSrc) :: M0 ∧ ∀ row : List Int, RowOk d row → (row.length : Int) ≤ most → P (.d (eI row)) M
def R_lfar : RR := fun ws M P => ∃ (a : Addr) (d : Di) (row : List Int) (l p : Nat) (M0 : Mem), d.Ok ∧ RowOk d row ∧ row.length ≤ 40 ∧ Min (ro d row) l p ∧ ws = [.v (.ref a), .d d.data, .d (eI row), .d (eR (seg (ro d row) 0 l)), .d (eR (seg (ro d row) l p))] ∧ M = (a, mSrc) :: M0 ∧ P (.d (.bool true)) M
end CD
/-! CDEnd: from what the top has written to the readings' hypotheses. -/
namespace CD
open PySem PySem.Spec PyProof.Rows L2 CM
theorem dd_mk {h : Heap} {K : PySem.W.Frag} {mg : Str → Option Value} {x : Str} {st : Stmt} {ps : List Str} {f : Addr} {oc : Value} {od an : Option Addr} {osl : Array (Option Value)} {kV doc pm cdv ct : Value}
    (X : K.In h) (G : h.Ns mainGlobals mg) (a : PySem.W.nsIn K mainGlobals x = some (some (.ref f)))
    (l : K.lookup f = some ⟨oc, od, .func (PySem.W.fnOf x x (defArgs st) (defBody st) (defScope st) .none kV doc pm an cdv ct), osl⟩)
    (c : PySem.W.codeIn K cdv x = true) (k : PySem.W.keepIn K (.ref f) = true)
    (hb : ∀ (kV doc pm : Value) (an : Option Addr) (cdv ct : Value) (us : List Value), us.length = ps.length → bindArgs (PySem.W.fnOf x x (defArgs st) (defBody st) (defScope st) .none kV doc pm an cdv ct) ⟨us, []⟩ = pure (ps.zip us)) : DefD K mg x st ps :=
  have F := fun_mk (st := st) l c k
  ⟨f, _, F, F.binds hb, PySem.W.mg_of X G a⟩
theorem gint_mk {h : Heap} {K : PySem.W.Frag} {mg : Str → Option Value} {x : Str} {n : Int} {t : Tok} (X : K.In h) (G : h.Ns mainGlobals mg) (a : PySem.W.nsIn K mainGlobals x = some (some (.int n t))) : GInt mg x n :=
  ⟨_, PySem.W.mg_of X G a, t, rfl⟩
theorem gtup_mk {h : Heap} {K : PySem.W.Frag} {mg : Str → Option Value} {x : Str} {p : Addr} {t1 t2 : Tok} {od : Option Addr} {n : Nat} {sl : Array (Option Value)} (X : K.In h) (G : h.Ns mainGlobals mg)
    (a : PySem.W.nsIn K mainGlobals x = some (some (.ref p))) (l : K.lookup p = some ⟨.type "tuple", od, .seq #[.int 0 t1, .int 0 t2] n, sl⟩) : GTup K mg x p [.int 0, .int 0] :=
  ⟨⟨_, PySem.W.mg_of X G a, rfl⟩, fun G => .tup (xs := [.int 0, .int 0]) (.inr ⟨_, _, _, l, rfl, rfl, (by show 2 ≤ sizeLine; decide), .cons ⟨_, rfl⟩ (.cons ⟨_, rfl⟩ .nil)⟩) (.cons (.int 0) (.cons (.int 0) .nil))⟩
theorem law_start {K : PySem.W.Frag} {H : Hp} {a : Addr} {ns : List Int} (hl : ns.length ≤ 63) (hS : SqL K H a (ns.map V.int)) : FnP K R_law [.ref a] H (fun v _ => v = .bl true) fun _ _ _ => False :=
  ⟨H, [], [.s ns], fun w _ => w = .d (.bool true), Same.refl H, ⟨List.nodup_nil, fun q hq => by cases hq⟩, .cons ⟨a, rfl, hS⟩ .nil, ⟨ns, hl, rfl, rfl⟩, fun v G' H' w M' e s1 s2 m r => by
    subst e
    cases r
    rfl⟩
theorem law_mk {Pg : Program} {w : World} {h : Heap} {K : PySem.W.Frag} {mg : Str → Option Value} {x y : Str} {st : Stmt} {n : Nat} {sp : Sp} {fa f : Addr} {oc : Value} {od an : Option Addr} {osl : Array (Option Value)} {kV doc pm cdv ct : Value}
    (X : K.In h) (G : h.Ns mainGlobals mg) (hfa : mg x = some (.ref fa)) (a : PySem.W.nsIn K mainGlobals x = some (some (.ref f)))
    (l : K.lookup f = some ⟨oc, od, .func (PySem.W.fnOf x x (defArgs st) (defBody st) (defScope st) .none kV doc pm an cdv ct), osl⟩)
    (c : PySem.W.codeIn K cdv x = true) (k : PySem.W.keepIn K (.ref f) = true)
    (hb : ∀ (kV doc pm : Value) (an : Option Addr) (cdv ct : Value) (us : List Value), us.length = 1 → bindArgs (PySem.W.fnOf x x (defArgs st) (defBody st) (defScope st) .none kV doc pm an cdv ct) ⟨us, []⟩ = pure ([y].zip us))
    (z : ∀ (fd : FuncData) (base : Heap), Fun K x x st fa fd → FnOk Pg w K mg base CX0 n fa fd [y] sp) :
    ∃ fd : FuncData, (∀ (s : Shared) (u : Value), BindsTo s fd ⟨[u], []⟩ [(y, u)]) ∧ ∀ base : Heap, K.In base → base.Ns mainGlobals mg → FnOk Pg w K mg base CX0 n fa fd [y] sp := by
  have e := hfa.symm.trans (PySem.W.mg_of X G a)
  cases e
  exact ⟨_, fun s u => .of_eq (hb _ _ _ _ _ _ [u] rfl), fun base _ _ => z _ base (fun_mk (st := st) l c k)⟩
end CD
/-! CDCount: counting the rows that give a word; the words that have a row; their places. No program in sight. -/
namespace CM
open PySem
/-! ### lists -/
section
variable {α β γ : Type}
theorem sum_map_add (l : List α) (f g : α → Nat) : (l.map fun a => f a + g a).sum = (l.map f).sum + (l.map g).sum := by
  induction l with
  | nil => rfl
  | cons a l ih => simp only [List.map_cons, List.sum_cons, ih]; omega
theorem sum_map_zero (l : List α) : (l.map fun _ => 0).sum = 0 := by
  induction l with
  | nil => rfl
  | cons a l ih => simp only [List.map_cons, List.sum_cons, ih]
theorem sum_comm (l : List α) (m : List β) (f : α → β → Nat) : (l.map fun a => (m.map fun b => f a b).sum).sum = (m.map fun b => (l.map fun a => f a b).sum).sum := by
  induction l with
  | nil => simp only [List.map_nil, List.sum_nil, sum_map_zero]
  | cons a l ih => simp only [List.map_cons, List.sum_cons, ih, sum_map_add]
theorem sum_ite_mem [DecidableEq α] (l : List α) (hn : l.Nodup) (o : α) (c : Nat) (ho : o ∈ l) : (l.map fun a => if o = a then c else 0).sum = c := by
  induction l with
  | nil => cases ho
  | cons a l ih =>
    obtain ⟨h1, h2⟩ := List.nodup_cons.mp hn
    rw [List.map_cons, List.sum_cons]
    by_cases e : o = a
    · subst e
      rw [if_pos rfl]
      have : (l.map fun a => if o = a then c else 0).sum = 0 := by
        have e2 : (l.map fun a => if o = a then c else 0) = l.map fun _ => 0 := List.map_congr_left fun x hx => if_neg fun (z : o = x) => h1 (z ▸ hx)
        rw [e2, sum_map_zero]
      omega
    · rw [if_neg e, ih h2 (by
        rcases List.mem_cons.mp ho with z | z
        · exact absurd z e
        · exact z)]
      omega
theorem sum_flat (l : List α) (F : α → List β) (f : β → Nat) : ((l.flatMap F).map f).sum = (l.map fun a => ((F a).map f).sum).sum := by
  induction l with
  | nil => rfl
  | cons a l ih => simp only [List.flatMap_cons, List.map_append, List.sum_append, List.map_cons, List.sum_cons, ih]
theorem sum_const (l : List α) (c : Nat) : (l.map fun _ => c).sum = l.length * c := by
  induction l with
  | nil => simp
  | cons a l ih => simp only [List.map_cons, List.sum_cons, ih, List.length_cons, Nat.add_mul, Nat.one_mul]; omega
theorem sum_pos_iff (l : List α) (f : α → Nat) : 0 < (l.map f).sum ↔ ∃ a ∈ l, 0 < f a := by
  induction l with
  | nil => simp
  | cons a l ih =>
    simp only [List.map_cons, List.sum_cons, List.mem_cons]
    constructor
    · intro h
      by_cases c : 0 < f a
      · exact ⟨a, .inl rfl, c⟩
      · obtain ⟨b, hb, h2⟩ := ih.mp (by omega)
        exact ⟨b, .inr hb, h2⟩
    · rintro ⟨b, rfl | hb, h⟩
      · omega
      · have := ih.mpr ⟨b, hb, h⟩
        omega
/-- a place in a list of lists laid end to end -/
theorem flat_get {v : List α} {F : α → List β} {r : Nat} {x : β} : (v.flatMap F)[r]? = some x → ∃ v1 p v2 r', v = v1 ++ p :: v2 ∧ r = (v1.map fun q => (F q).length).sum + r' ∧ (F p)[r']? = some x := by
  induction v generalizing r with
  | nil => intro h; simp at h
  | cons a v ih =>
    intro h
    rw [List.flatMap_cons] at h
    by_cases c : r < (F a).length
    · rw [List.getElem?_append_left c] at h
      exact ⟨[], a, v, r, rfl, by simp, h⟩
    · rw [List.getElem?_append_right (by omega)] at h
      obtain ⟨v1, p, v2, r', e1, e2, e3⟩ := ih h
      exact ⟨a :: v1, p, v2, r', by rw [e1]; rfl, by simp only [List.map_cons, List.sum_cons]; omega, e3⟩
theorem get_flat {v1 v2 : List α} {p : α} {F : α → List β} {r : Nat} {x : β} (h : (F p)[r]? = some x) : ((v1 ++ p :: v2).flatMap F)[(v1.map fun q => (F q).length).sum + r]? = some x := by
  rw [List.flatMap_append, List.flatMap_cons]
  have hl : (v1.flatMap F).length = (v1.map fun q => (F q).length).sum := by rw [List.length_flatMap]
  rw [List.getElem?_append_right (by omega), hl, Nat.add_sub_cancel_left]
  have hr : r < (F p).length := (List.getElem?_eq_some_iff.mp h).1
  rw [List.getElem?_append_left hr]
  exact h
/-- what is empty may be left out -/
theorem flat_sub {F : Int → List β} : ∀ (ls vs : List Int), ls.Pairwise (· < ·) → vs.Pairwise (· < ·) → (∀ o ∈ vs, o ∈ ls) → (∀ o ∈ ls, o ∉ vs → F o = []) → ls.flatMap F = vs.flatMap F
  | [], vs, _, _, hs, _ => by
    cases vs with
    | nil => rfl
    | cons b vs => exact absurd (hs b List.mem_cons_self) (by simp)
  | a :: ls, vs, h1, h2, hs, he => by
    obtain ⟨ha, hl⟩ := List.pairwise_cons.mp h1
    cases vs with
    | nil =>
      rw [List.flatMap_cons, he a List.mem_cons_self (by simp), List.nil_append]
      exact flat_sub ls [] hl .nil (fun o ho => by cases ho) fun o ho hn => he o (List.mem_cons_of_mem _ ho) hn
    | cons b vs =>
      obtain ⟨hb, hv⟩ := List.pairwise_cons.mp h2
      by_cases e : b = a
      · subst e
        rw [List.flatMap_cons, List.flatMap_cons]
        congr 1
        refine flat_sub ls vs hl hv (fun o ho => ?_) fun o ho hn => he o (List.mem_cons_of_mem _ ho) fun z => ?_
        · have := hb o ho
          rcases List.mem_cons.mp (hs o (List.mem_cons_of_mem _ ho)) with z | z
          · omega
          · exact z
        · rcases List.mem_cons.mp z with z | z
          · have := ha o ho
            omega
          · exact hn z
      · have hbl : b ∈ ls := by
          rcases List.mem_cons.mp (hs b List.mem_cons_self) with z | z
          · exact absurd z e
          · exact z
        have hab := ha b hbl
        have hna : a ∉ b :: vs := fun z => by
          rcases List.mem_cons.mp z with z | z
          · omega
          · have := hb a z
            omega
        rw [List.flatMap_cons, he a List.mem_cons_self hna, List.nil_append]
        refine flat_sub ls (b :: vs) hl h2 (fun o ho => ?_) fun o ho hn => he o (List.mem_cons_of_mem _ ho) hn
        rcases List.mem_cons.mp (hs o ho) with z | z
        · exact absurd (z ▸ ho) hna
        · exact z
end
/-! ### rows of a length -/
/-- in the order of the loops -/
def rowsOf (l : List Int) : Nat → List (List Int)
  | 0 => [[]]
  | n + 1 => (rowsOf l n).flatMap fun r => l.map fun s => r ++ [s]
def rowsC (l : List Int) : Nat → List (List Int)
  | 0 => [[]]
  | n + 1 => l.flatMap fun s => (rowsC l n).map fun r => s :: r
theorem rowsC_snoc (l : List Int) : ∀ n, rowsC l (n + 1) = (rowsC l n).flatMap fun r => l.map fun s => r ++ [s]
  | 0 => by
    show (l.flatMap fun s => [[s]]) = [[]].flatMap fun r => l.map fun s => r ++ [s]
    rw [List.flatMap_cons, List.flatMap_nil, List.append_nil]
    induction l with
    | nil => rfl
    | cons a l ih => rw [List.flatMap_cons, ih]; rfl
  | n + 1 => by
    have ih := rowsC_snoc l n
    show (l.flatMap fun a => (rowsC l (n + 1)).map fun r => a :: r) = (l.flatMap fun a => (rowsC l n).map fun r => a :: r).flatMap fun r => l.map fun s => r ++ [s]
    rw [ih, List.flatMap_assoc]
    congr 1
    funext a
    rw [List.map_flatMap, List.flatMap_map]
    congr 1
    funext r
    rw [List.map_map]
    rfl
theorem rowsOf_eq (l : List Int) : ∀ n, rowsOf l n = rowsC l n
  | 0 => rfl
  | n + 1 => by
    rw [rowsC_snoc, ← rowsOf_eq l n]
    rfl
theorem rowsC_len (l : List Int) : ∀ n, (rowsC l n).length = l.length ^ n
  | 0 => rfl
  | n + 1 => by
    show (l.flatMap fun s => (rowsC l n).map fun r => s :: r).length = _
    rw [List.length_flatMap]
    simp only [List.length_map, rowsC_len l n, sum_const]
    rw [Nat.pow_succ, Nat.mul_comm]
theorem mem_rowsC {l : List Int} : ∀ {n : Nat} {w : List Int}, w ∈ rowsC l n ↔ w.length = n ∧ ∀ x ∈ w, x ∈ l
  | 0, w => by
    show w ∈ [[]] ↔ _
    rw [List.mem_singleton]
    constructor
    · rintro rfl
      exact ⟨rfl, fun x hx => by cases hx⟩
    · rintro ⟨h, _⟩
      exact List.length_eq_zero_iff.mp h
  | n + 1, w => by
    show (w ∈ l.flatMap fun s => (rowsC l n).map fun r => s :: r) ↔ _
    rw [List.mem_flatMap]
    constructor
    · rintro ⟨s, hs, hw⟩
      obtain ⟨r, hr, rfl⟩ := List.mem_map.mp hw
      obtain ⟨h1, h2⟩ := mem_rowsC.mp hr
      exact ⟨by simp [h1], fun x hx => by
        rcases List.mem_cons.mp hx with z | z
        · rw [z]; exact hs
        · exact h2 x z⟩
    · rintro ⟨h1, h2⟩
      cases w with
      | nil => simp at h1
      | cons s r => exact ⟨s, h2 s List.mem_cons_self, List.mem_map.mpr ⟨r, mem_rowsC.mpr ⟨by simpa using h1, fun x hx => h2 x (List.mem_cons_of_mem _ hx)⟩, rfl⟩⟩
theorem nodup_flat {α β : Type} {F : α → List β} : ∀ {l : List α}, l.Nodup → (∀ a ∈ l, (F a).Nodup) → (∀ a ∈ l, ∀ b ∈ l, ∀ x, x ∈ F a → x ∈ F b → a = b) → (l.flatMap F).Nodup
  | [], _, _, _ => List.nodup_nil
  | a :: l, h1, h2, h3 => by
    obtain ⟨ha, hl⟩ := List.nodup_cons.mp h1
    rw [List.flatMap_cons, List.nodup_append]
    refine ⟨h2 a List.mem_cons_self, nodup_flat hl (fun b hb => h2 b (List.mem_cons_of_mem _ hb)) fun b hb c hc => h3 b (List.mem_cons_of_mem _ hb) c (List.mem_cons_of_mem _ hc), fun x hx y hy e => ?_⟩
    subst e
    obtain ⟨b, hb, hxb⟩ := List.mem_flatMap.mp hy
    have := h3 a List.mem_cons_self b (List.mem_cons_of_mem _ hb) x hx hxb
    subst this
    exact ha hb
theorem rowsC_nodup {l : List Int} (h : l.Nodup) : ∀ n, (rowsC l n).Nodup
  | 0 => by simp [rowsC]
  | n + 1 => by
    refine nodup_flat h (fun a _ => ?_) fun a _ b _ x hx hy => ?_
    · exact List.pairwise_map.mpr ((rowsC_nodup h n).imp fun ne e => ne (List.cons.inj e).2)
    · obtain ⟨r, _, rfl⟩ := List.mem_map.mp hx
      obtain ⟨q, _, e⟩ := List.mem_map.mp hy
      exact (List.cons.inj e).1.symm
/-! ### how many rows give a word -/
def cnt (d : Di) (some : List Int) : Sta → List Int → Nat
  | _, [] => 1
  | h, o :: w => (some.map fun s => if out d h s = o then cnt d some (nxt d h s) w else 0).sum
structure Some (d : Di) (some : List Int) : Prop where
  ne : some ≠ []
  ok : ∀ s ∈ some, 0 ≤ s ∧ s ≤ d.top
  asc : some.Pairwise (· < ·)
theorem asc_nodup {l : List Int} (h : l.Pairwise (· < ·)) : l.Nodup := h.imp fun h e => by omega
theorem out_mem {d : Di} (ok : d.Ok) (h : Sta) (s : Int) : out d h s ∈ d.levels := (nearest_spec ok _).1
theorem cnt_total {d : Di} (ok : d.Ok) (some : List Int) : ∀ (n : Nat) (h : Sta), ((rowsC d.levels n).map (cnt d some h)).sum = some.length ^ n
  | 0, h => rfl
  | n + 1, h => by
    show ((d.levels.flatMap fun o => (rowsC d.levels n).map fun r => o :: r).map (cnt d some h)).sum = _
    rw [sum_flat]
    have e1 : (d.levels.map fun o => (((rowsC d.levels n).map fun r => o :: r).map (cnt d some h)).sum) = d.levels.map fun o => (some.map fun s => if out d h s = o then some.length ^ n else 0).sum := by
      refine List.map_congr_left fun o _ => ?_
      rw [List.map_map]
      show ((rowsC d.levels n).map fun w => (some.map fun s => if out d h s = o then cnt d some (nxt d h s) w else 0).sum).sum = _
      rw [sum_comm]
      congr 1
      refine List.map_congr_left fun s _ => ?_
      by_cases c : out d h s = o
      · simp only [if_pos c]
        exact cnt_total ok some n (nxt d h s)
      · simp only [if_neg c]
        exact sum_map_zero _
    rw [e1, sum_comm]
    have e2 : (some.map fun s => (d.levels.map fun o => if out d h s = o then some.length ^ n else 0).sum) = some.map fun _ => some.length ^ n :=
      List.map_congr_left fun s _ => sum_ite_mem _ (asc_nodup ok.asc) _ _ (out_mem ok h s)
    rw [e2, sum_const, Nat.pow_succ, Nat.mul_comm]
theorem cnt_app_zero {d : Di} {some : List Int} : ∀ {w : List Int} {h : Sta} (q : List Int), cnt d some h w = 0 → cnt d some h (w ++ q) = 0
  | [], h, q, e => by cases e
  | o :: w, h, q, e => by
    apply Nat.eq_zero_of_not_pos
    intro hp
    obtain ⟨s, hs, h2⟩ := (sum_pos_iff _ _).mp (show 0 < (some.map fun s => if out d h s = o then cnt d some (nxt d h s) (w ++ q) else 0).sum from hp)
    by_cases c : out d h s = o
    · rw [if_pos c] at h2
      have e3 : cnt d some (nxt d h s) w = 0 := by
        apply Nat.eq_zero_of_not_pos
        intro hp2
        have : 0 < cnt d some h (o :: w) := (sum_pos_iff _ _).mpr ⟨s, hs, by rw [if_pos c]; exact hp2⟩
        omega
      rw [cnt_app_zero q e3] at h2
      omega
    · rw [if_neg c] at h2
      omega
/-! ### lots -/
def poss (d : Di) (some : List Int) (L : List Sta) (w : List Int) : Bool := L.any fun h => decide (0 < cnt d some h w)
theorem poss_iff {d : Di} {some : List Int} {L : List Sta} {w : List Int} : poss d some L w = true ↔ ∃ h ∈ L, 0 < cnt d some h w := by
  unfold poss
  rw [List.any_eq_true]
  simp
structure IsNext (d : Di) (some : List Int) (L : List Sta) (v : List (Int × List Sta)) : Prop where
  asc : (v.map (·.1)).Pairwise (· < ·)
  mem : ∀ p ∈ v, ∀ h', h' ∈ p.2 ↔ ∃ h ∈ L, ∃ s ∈ some, out d h s = p.1 ∧ nxt d h s = h'
  all : ∀ h ∈ L, ∀ s ∈ some, ∃ L', (out d h s, L') ∈ v
  ne : ∀ p ∈ v, p.2 ≠ []
/-- the words of n outputs that some row gives from a state of the lot on -/
def lefts (d : Di) (some : List Int) (L : List Sta) (n : Nat) : List (List Int) := (rowsC d.levels n).filter (poss d some L)
theorem poss_cons {d : Di} {some : List Int} {L : List Sta} {v : List (Int × List Sta)} (N : IsNext d some L v) {p : Int × List Sta} (hp : p ∈ v) (w : List Int) : poss d some L (p.1 :: w) = poss d some p.2 w := by
  rw [Bool.eq_iff_iff, poss_iff, poss_iff]
  constructor
  · rintro ⟨h, hh, hc⟩
    obtain ⟨s, hs, h2⟩ := (sum_pos_iff _ _).mp (show 0 < (some.map fun s => if out d h s = p.1 then cnt d some (nxt d h s) w else 0).sum from hc)
    by_cases c : out d h s = p.1
    · rw [if_pos c] at h2
      exact ⟨_, (N.mem p hp _).mpr ⟨h, hh, s, hs, c, rfl⟩, h2⟩
    · rw [if_neg c] at h2
      omega
  · rintro ⟨h', hh', hc⟩
    obtain ⟨h, hh, s, hs, e1, e2⟩ := (N.mem p hp h').mp hh'
    subst e2
    exact ⟨h, hh, (sum_pos_iff _ _).mpr ⟨s, hs, by rw [if_pos e1]; exact hc⟩⟩
theorem poss_none {d : Di} {some : List Int} {L : List Sta} {v : List (Int × List Sta)} (N : IsNext d some L v) {o : Int} (ho : o ∉ v.map (·.1)) (w : List Int) : poss d some L (o :: w) = false := by
  rw [Bool.eq_false_iff]
  intro hp
  obtain ⟨h, hh, hc⟩ := poss_iff.mp hp
  obtain ⟨s, hs, h2⟩ := (sum_pos_iff _ _).mp (show 0 < (some.map fun s => if out d h s = o then cnt d some (nxt d h s) w else 0).sum from hc)
  by_cases c : out d h s = o
  · obtain ⟨L', hL⟩ := N.all h hh s hs
    exact ho (List.mem_map.mpr ⟨_, hL, c⟩)
  · rw [if_neg c] at h2
    omega
theorem IsNext.sub {d : Di} (ok : d.Ok) {some : List Int} {L : List Sta} {v : List (Int × List Sta)} (N : IsNext d some L v) : ∀ o ∈ v.map (·.1), o ∈ d.levels := by
  intro o ho
  obtain ⟨p, hp, rfl⟩ := List.mem_map.mp ho
  cases e : p.2 with
  | nil => exact absurd e (N.ne p hp)
  | cons h' r =>
    obtain ⟨h, _, s, _, e1, _⟩ := (N.mem p hp h').mp (by rw [e]; exact List.mem_cons_self)
    rw [← e1]
    exact out_mem ok h s
theorem lefts_zero {d : Di} {some : List Int} {L : List Sta} (hL : L ≠ []) : lefts d some L 0 = [[]] := by
  unfold lefts
  show [[]].filter (poss d some L) = [[]]
  have : poss d some L [] = true := by
    cases L with
    | nil => exact absurd rfl hL
    | cons h r => exact poss_iff.mpr ⟨h, List.mem_cons_self, by show 0 < 1; decide⟩
  simp [this]
theorem lefts_succ {d : Di} (ok : d.Ok) {some : List Int} {L : List Sta} {v : List (Int × List Sta)} (N : IsNext d some L v) (n : Nat) :
    lefts d some L (n + 1) = v.flatMap fun p => (lefts d some p.2 n).map fun w => p.1 :: w := by
  have e1 : lefts d some L (n + 1) = d.levels.flatMap fun o => (((rowsC d.levels n).map fun r => o :: r).filter (poss d some L)) := by
    unfold lefts
    show (d.levels.flatMap fun o => (rowsC d.levels n).map fun r => o :: r).filter (poss d some L) = _
    rw [List.filter_flatMap]
  have e2 := flat_sub (F := fun o => (((rowsC d.levels n).map fun r => o :: r).filter (poss d some L))) d.levels (v.map (·.1)) ok.asc N.asc (N.sub ok) (fun o _ hn => by
    rw [List.filter_eq_nil_iff]
    intro w hw
    obtain ⟨r, _, rfl⟩ := List.mem_map.mp hw
    rw [poss_none N hn]
    exact Bool.false_ne_true)
  rw [e1, e2, List.flatMap_map]
  have e3 : ∀ (u : List (Int × List Sta)), (∀ p ∈ u, p ∈ v) → (u.flatMap fun p => (((rowsC d.levels n).map fun r => p.1 :: r).filter (poss d some L))) = u.flatMap fun p => (lefts d some p.2 n).map fun w => p.1 :: w := by
    intro u
    induction u with
    | nil => intro _; rfl
    | cons p u ih =>
      intro hu
      rw [List.flatMap_cons, List.flatMap_cons, ih fun q hq => hu q (List.mem_cons_of_mem _ hq)]
      congr 1
      rw [List.filter_map]
      unfold lefts
      congr 1
      refine List.filter_congr fun w _ => ?_
      exact poss_cons N (hu p List.mem_cons_self) w
  exact e3 v fun p hp => hp
theorem num_succ {d : Di} (ok : d.Ok) {some : List Int} {L : List Sta} {v : List (Int × List Sta)} (N : IsNext d some L v) (n : Nat) :
    (lefts d some L (n + 1)).length = (v.map fun p => (lefts d some p.2 n).length).sum := by
  rw [lefts_succ ok N, List.length_flatMap]
  simp only [List.length_map]
theorem lefts_nodup {d : Di} (ok : d.Ok) (some : List Int) (L : List Sta) (n : Nat) : (lefts d some L n).Nodup := (rowsC_nodup (asc_nodup ok.asc) n).filter _
/-- a word's place: what stands ahead of its first output, and its rest's place -/
theorem place_cons {d : Di} (ok : d.Ok) {some : List Int} {L : List Sta} {v : List (Int × List Sta)} (N : IsNext d some L v) {n r : Nat} {w : List Int} (h : (lefts d some L (n + 1))[r]? = Option.some w) :
    ∃ v1 o L' v2 r' w', v = v1 ++ (o, L') :: v2 ∧ w = o :: w' ∧ r = (v1.map fun p => (lefts d some p.2 n).length).sum + r' ∧ (lefts d some L' n)[r']? = Option.some w' := by
  rw [lefts_succ ok N] at h
  obtain ⟨v1, p, v2, r', e1, e2, e3⟩ := flat_get h
  rw [List.getElem?_map] at e3
  cases q : (lefts d some p.2 n)[r']? with
  | none => rw [q] at e3; cases e3
  | some w' =>
    rw [q] at e3
    cases e3
    exact ⟨v1, p.1, p.2, v2, r', w', e1, rfl, by simpa using e2, q⟩
/-! ### states with counts -/
abbrev KV := List (Sta × Nat)
def pot (d : Di) (some : List Int) (kvs : KV) (w : List Int) : Nat := (kvs.map fun p => p.2 * cnt d some p.1 w).sum
def addK (kvs : KV) (h : Sta) (c : Nat) : KV := if h ∈ kvs.map (·.1) then kvs.map (fun p => if p.1 = h then (p.1, p.2 + c) else p) else kvs ++ [(h, c)]
theorem addK_keys (kvs : KV) (h : Sta) (c : Nat) : (addK kvs h c).map (·.1) = if h ∈ kvs.map (·.1) then kvs.map (·.1) else kvs.map (·.1) ++ [h] := by
  unfold addK
  split
  · rw [List.map_map]
    refine List.map_congr_left fun p _ => ?_
    show (if p.1 = h then (p.1, p.2 + c) else p).1 = p.1
    split <;> rfl
  · rw [List.map_append]; rfl
theorem addK_nd {kvs : KV} {h : Sta} {c : Nat} (n : (kvs.map (·.1)).Nodup) : ((addK kvs h c).map (·.1)).Nodup := by
  rw [addK_keys]
  split
  · exact n
  · rename_i hn
    rw [List.nodup_append]
    exact ⟨n, by simp, fun a ha b hb e => hn (by
      rw [List.mem_singleton.mp hb] at e
      rw [← e]; exact ha)⟩
theorem addK_all {kvs : KV} {h : Sta} {c : Nat} {Q : Sta → Prop} (q : ∀ p ∈ kvs, Q p.1 ∧ 1 ≤ p.2) (qh : Q h) (hc : 1 ≤ c) : ∀ p ∈ addK kvs h c, Q p.1 ∧ 1 ≤ p.2 := by
  intro p hp
  unfold addK at hp
  split at hp
  · obtain ⟨p0, h0, e⟩ := List.mem_map.mp hp
    have := q p0 h0
    split at e
    · subst e
      exact ⟨this.1, by show 1 ≤ p0.2 + c; omega⟩
    · subst e
      exact this
  · rcases List.mem_append.mp hp with z | z
    · exact q p z
    · rw [List.mem_singleton.mp z]
      exact ⟨qh, hc⟩
theorem addK_len (kvs : KV) (h : Sta) (c : Nat) : (addK kvs h c).length ≤ kvs.length + 1 := by
  unfold addK
  split
  · rw [List.length_map]; omega
  · rw [List.length_append, List.length_singleton]; omega
theorem addK_pot (d : Di) (some : List Int) {kvs : KV} {h : Sta} {c : Nat} (n : (kvs.map (·.1)).Nodup) (w : List Int) : pot d some (addK kvs h c) w = pot d some kvs w + c * cnt d some h w := by
  unfold addK
  split
  · rename_i hm
    unfold pot
    rw [List.map_map]
    induction kvs with
    | nil => cases hm
    | cons p kvs ih =>
      rw [List.map_cons, List.nodup_cons] at n
      rw [List.map_cons, List.sum_cons, List.map_cons, List.sum_cons]
      by_cases e : p.1 = h
      · have e2 : (kvs.map ((fun p => p.2 * cnt d some p.1 w) ∘ fun p => if p.1 = h then (p.1, p.2 + c) else p)) = kvs.map fun p => p.2 * cnt d some p.1 w := by
          refine List.map_congr_left fun q hq => ?_
          show (if q.1 = h then (q.1, q.2 + c) else q).2 * cnt d some (if q.1 = h then (q.1, q.2 + c) else q).1 w = _
          have hne : ¬ q.1 = h := fun z => n.1 (by
            rw [e, ← z]
            exact List.mem_map.mpr ⟨q, hq, rfl⟩)
          rw [if_neg hne]
        rw [e2]
        show (if p.1 = h then (p.1, p.2 + c) else p).2 * cnt d some (if p.1 = h then (p.1, p.2 + c) else p).1 w + _ = _
        rw [if_pos e]
        show (p.2 + c) * cnt d some p.1 w + _ = _
        rw [Nat.add_mul, e]
        omega
      · have hm2 : h ∈ kvs.map (·.1) := by
          rcases List.mem_cons.mp hm with z | z
          · exact absurd z.symm e
          · exact z
        rw [ih n.2 hm2]
        show (if p.1 = h then (p.1, p.2 + c) else p).2 * cnt d some (if p.1 = h then (p.1, p.2 + c) else p).1 w + _ = _
        rw [if_neg e]
        omega
  · unfold pot
    rw [List.map_append, List.sum_append]
    simp
/-- the updates, one after the other -/
def foldK (U : KV) : KV := U.foldl (fun k u => addK k u.1 u.2) []
theorem foldK_snoc (U : KV) (u : Sta × Nat) : foldK (U ++ [u]) = addK (foldK U) u.1 u.2 := by
  unfold foldK
  rw [List.foldl_append]
  rfl
theorem snoc_ind {α : Type} {P : List α → Prop} (h0 : P []) (hs : ∀ l a, P l → P (l ++ [a])) : ∀ l, P l := by
  have key : ∀ (n : Nat) (l : List α), l.length = n → P l := by
    intro n
    induction n with
    | zero => intro l e; rw [List.length_eq_zero_iff.mp e]; exact h0
    | succ n ih =>
      intro l e
      have hne : l ≠ [] := fun z => by rw [z] at e; simp at e
      have e2 := List.dropLast_concat_getLast hne
      rw [← e2]
      exact hs _ _ (ih _ (by rw [List.length_dropLast]; omega))
  exact fun l => key _ l rfl
theorem foldK_nd (U : KV) : ((foldK U).map (·.1)).Nodup := snoc_ind (P := fun U => ((foldK U).map (·.1)).Nodup) List.nodup_nil (fun l a h => by rw [foldK_snoc]; exact addK_nd h) U
theorem foldK_len (U : KV) : (foldK U).length ≤ U.length := snoc_ind (P := fun U => (foldK U).length ≤ U.length) (Nat.le_refl _) (fun l a h => by
  rw [foldK_snoc, List.length_append, List.length_singleton]
  have := addK_len (foldK l) a.1 a.2
  omega) U
theorem foldK_all {Q : Sta → Prop} (U : KV) : (∀ u ∈ U, Q u.1 ∧ 1 ≤ u.2) → ∀ p ∈ foldK U, Q p.1 ∧ 1 ≤ p.2 := snoc_ind (P := fun U => (∀ u ∈ U, Q u.1 ∧ 1 ≤ u.2) → ∀ p ∈ foldK U, Q p.1 ∧ 1 ≤ p.2) (fun _ p hp => by cases hp) (fun l a h hq => by
  rw [foldK_snoc]
  have ha := hq a (by simp)
  exact addK_all (h fun u hu => hq u (by simp [hu])) ha.1 ha.2) U
theorem foldK_pot (d : Di) (some : List Int) (w : List Int) (U : KV) : pot d some (foldK U) w = (U.map fun u => u.2 * cnt d some u.1 w).sum := snoc_ind (P := fun U => pot d some (foldK U) w = (U.map fun u => u.2 * cnt d some u.1 w).sum) rfl (fun l a h => by
  rw [foldK_snoc, addK_pot d some (foldK_nd l), h, List.map_append, List.sum_append]
  simp) U
/-- what an entry hands on at the shades l that give o -/
def ups (d : Di) (o : Int) (l : List Int) (p : Sta × Nat) : KV := (l.filter fun s => decide (out d p.1 s = o)).map fun s => (nxt d p.1 s, p.2)
structure Good (d : Di) (some : List Int) (w : List Int) (kvs : KV) : Prop where
  nd : (kvs.map (·.1)).Nodup
  all : ∀ p ∈ kvs, StOk d p.1 ∧ 1 ≤ p.2
  pot : ∀ q, pot d some kvs q = cnt d some (0, 0) (w ++ q)
theorem good_start {d : Di} (ok : d.Ok) (some : List Int) : Good d some [] [((0, 0), 1)] where
  nd := by simp
  all := fun p hp => by
    rw [List.mem_singleton.mp hp]
    exact ⟨start_ok ok, Nat.le_refl _⟩
  pot := fun q => by
    unfold CM.pot
    simp
theorem filter_sum (l : List Int) (P : Int → Bool) (f : Int → Nat) : ((l.filter P).map f).sum = (l.map fun s => if P s = true then f s else 0).sum := by
  induction l with
  | nil => rfl
  | cons a l ih =>
    rw [List.filter_cons]
    by_cases c : P a = true
    · rw [if_pos c, List.map_cons, List.sum_cons, List.map_cons, List.sum_cons, if_pos c, ih]
    · rw [if_neg c, List.map_cons, List.sum_cons, if_neg c, ih]
      omega
theorem sum_mul (l : List Int) (c : Nat) (f : Int → Nat) : (l.map fun s => c * f s).sum = c * (l.map f).sum := by
  induction l with
  | nil => rfl
  | cons a l ih => rw [List.map_cons, List.sum_cons, List.map_cons, List.sum_cons, ih, Nat.mul_add]
theorem good_step {d : Di} (ok : d.Ok) {some : List Int} (hs : ∀ s ∈ some, 0 ≤ s ∧ s ≤ d.top) {w : List Int} {kvs : KV} (g : Good d some w kvs) (o : Int) : Good d some (w ++ [o]) (foldK (kvs.flatMap (ups d o some))) where
  nd := foldK_nd _
  all := foldK_all _ fun u hu => by
    obtain ⟨p, hp, hu⟩ := List.mem_flatMap.mp hu
    obtain ⟨s, hsf, rfl⟩ := List.mem_map.mp hu
    have hm := (List.mem_filter.mp hsf).1
    have := g.all p hp
    exact ⟨(nxt_ok ok this.1 (hs s hm)).2, this.2⟩
  pot := fun q => by
    rw [foldK_pot, sum_flat]
    have e1 : (kvs.map fun p => ((ups d o some p).map fun u => u.2 * cnt d some u.1 q).sum) = kvs.map fun p => p.2 * cnt d some p.1 (o :: q) := by
      refine List.map_congr_left fun p _ => ?_
      unfold ups
      rw [List.map_map]
      show ((some.filter fun s => decide (out d p.1 s = o)).map fun s => p.2 * cnt d some (nxt d p.1 s) q).sum = p.2 * (some.map fun s => if out d p.1 s = o then cnt d some (nxt d p.1 s) q else 0).sum
      rw [sum_mul, filter_sum]
      congr 2
      refine List.map_congr_left fun s _ => ?_
      by_cases c : out d p.1 s = o
      · rw [if_pos (decide_eq_true c), if_pos c]
      · rw [if_neg (by rw [decide_eq_true_eq]; exact c), if_neg c]
    rw [e1]
    have := g.pot (o :: q)
    unfold CM.pot at this
    rw [this, List.append_assoc]
    rfl
theorem good_sum {d : Di} {some w : List Int} {kvs : KV} (g : Good d some w kvs) : (kvs.map (·.2)).sum = cnt d some (0, 0) w := by
  have := g.pot []
  rw [List.append_nil] at this
  rw [← this]
  unfold CM.pot
  congr 1
  refine List.map_congr_left fun p _ => ?_
  show p.2 = p.2 * 1
  omega
theorem good_nil {d : Di} {some w : List Int} {kvs : KV} (g : Good d some w kvs) : kvs = [] ↔ cnt d some (0, 0) w = 0 := by
  have h := good_sum g
  constructor
  · rintro rfl
    exact h.symm
  · intro e
    cases kvs with
    | nil => rfl
    | cons p kvs =>
      have := (g.all p List.mem_cons_self).2
      rw [List.map_cons, List.sum_cons] at h
      omega
end CM
/-! CDRg: list(range(n)), tuple(range(n)). -/
namespace CD
open PySem PySem.Spec PyProof.Rows L2 CM
section
variable {K : PySem.W.Frag} {ρ : List W} {M M' : Mem} {P P' : W → Mem → Prop} {ta : TE}
theorem rpAll_map {ι : Type} {G : Hp} {f : ι → V} {g : ι → PyData} (h : ∀ i, Rp K G (f i) (g i)) : ∀ l : List ι, RpAll K G (l.map f) (l.map g)
  | [] => .nil
  | i :: l => .cons (h i) (rpAll_map h l)
theorem rp_rng {G : Hp} (n : Int) : RpAll K G (rgV 0 n) (rngD 0 n.toNat) := by
  unfold rgV rngD
  rw [Int.sub_zero]
  exact rpAll_map (fun i => .int _) _
theorem tx_lstRg (h : TX K ta ρ M fun w M1 => ∃ n : Int, w = .d (.int n) ∧ (0 ≤ n ∧ n ≤ 1000) ∧ P (.d (.list (rngD 0 n.toNat))) M1) : TX K (tLstRg (tRg1 ta)) ρ M P := fun σ G H Q s e m q =>
  h σ G H _ s e m fun v1 G1 H1 wa M1 ⟨n, ew, hn, p⟩ s1 s1' m1 r1 => by
    subst ew
    cases r1
    refine ⟨n, rfl, ⟨by omega, by omega, by omega, by omega, by omega⟩, fun a ha => ?_⟩
    exact q _ _ _ _ M1 p (s1.trans (same_new (s1'.free ha))) (same_upd2 s1') (m1.new s1' ha) (.lst upd_same (rp_rng n))
theorem tx_tupRg (h : TX K ta ρ M fun w M1 => ∃ n : Int, w = .d (.int n) ∧ (0 ≤ n ∧ n ≤ 1000) ∧ P (.d (.tuple (rngD 0 n.toNat))) M1) : TX K (tTupRg (tRg1 ta)) ρ M P := fun σ G H Q s e m q =>
  h σ G H _ s e m fun v1 G1 H1 wa M1 ⟨n, ew, hn, p⟩ s1 s1' m1 r1 => by
    subst ew
    cases r1
    refine ⟨n, rfl, ⟨by omega, by omega, by omega, by omega, by omega⟩, fun a ha => ?_⟩
    exact q _ _ _ _ M1 p (s1.trans (same_new (s1'.free ha))) (same_upd2 s1') (m1.new s1' ha) (.tup (SqT.of upd_same) (rp_rng n))
end
def R_shades_of : RR := fun ws M P => ∃ d : Di, d.Ok ∧ ws = [.d d.data] ∧ P (.d (.list (rngD 0 (d.top + 1).toNat))) M
end CD
/-! CDDict2: dicts whose keys are tuples of any depth: {k: v}, d.get(k, x), list(d.values()), for k, v in d.items(). -/
namespace CD
open PySem PySem.Spec PyProof.Rows L2
section
variable {X : Cx} {pins : List (Addr × Obj)} {σ : L2.St} {H : Hp} {s : Shared}
theorem dx_raw {Pg : Program} {w : World} {h : Heap} {a : Addr} {xs : List XE} (x : DXφ Pg w a xs h) : (a == sysModules) = false ∧ ∃ (es : Array DictEntry) (ep : Nat) (ys : List (NestedKey × Addr × Value)), h.DictRaw a es ep ∧ XRel xs ys ∧ es.size = xs.length ∧ xs.length ≤ sizeLine ∧
    ∀ (i : Nat) (p : XE), xs[i]? = some p → ∃ en u, es[i]? = some en ∧ en.key = .ref p.2.1 ∧ en.val = u ∧ RelV p.2.2 u := by
  obtain ⟨z, hd, ys, r, o, es, ep, e1, e2, e3, e4, _⟩ := x
  have l1 : es.size = ys.length := size_of_entries e4
  have l2 : xs.length = ys.length := Paired.length r
  refine ⟨hd, es, ep, ys, ⟨o, e1, e2, e3⟩, r, by omega, z, fun i p hp => ?_⟩
  obtain ⟨q, hq, h1, h2, h3⟩ := paired_get r hp
  have e := entry_at e4 i
  rw [hq] at e
  exact ⟨_, _, e, by rw [h2]; rfl, rfl, h3⟩
theorem dx_at {a : Addr} {xs : List XE} (I : Inv X pins σ H s) (e : H a = some (DXO X.prog X.w a xs)) :
    s.TypeIs (.ref a) "dict" ∧ ∀ b, Value.ref a = .ref b → ∃ ob, s.heap.get? b = some ob ∧ ob.dict = none := by
  obtain ⟨⟨_, _, _, _, o, _, _, e1, e2, _⟩, _⟩ := I.hok a _ e
  exact ⟨⟨o, e1, e2.1⟩, fun b q => by cases q; exact ⟨o, e1, e2.2.1⟩⟩
end
section
variable {X : Cx} {o e f ek ev : Expr} {apos cpos pos : Pos} {td ty tx tk tv : TE}
/-! ### d.get(k, x) -/
def tGetOrX (Pg : Program) (w : World) (K : PySem.W.Frag) (td ty tx : TE) : TE := fun σ H Q => td σ H fun x H1 => ∃ a xs0, x = .ref a ∧ H1 a = some (DXO Pg w a xs0) ∧ ty σ H1 fun y H2 => tx σ H2 fun z H3 =>
  ∃ xs b k, y = .ref b ∧ H3 a = some (DXO Pg w a xs) ∧ KeysH K H3 xs ∧ KeyH K H3 b k ∧ Q ((valX xs k).getD z) H3
theorem pe_getOrX (hu : X.A.units + 64 < cLine) (ho : PE X o td) (he : PE X e ty) (hf : PE X f tx) (m : M2 X o "get" apos e f cpos) : PE X (.Call (.Attribute o "get" apos) [e, f] [] cpos) (tGetOrX X.prog X.w X.K td ty tx) := by
  refine ⟨fun pins s σ H Q I h => ?_⟩
  refine wpAny_Call_method m.base m.few m.line PySem.F.plainAttrs_dict PySem.F.slot_dict_get PySem.F.type_dict_get (thn (ho.run pins s σ H _ I h) fun u s1 ⟨x, H1, I1, rx, a, xs0, ex, d, q1⟩ => ?_)
  subst ex
  obtain rfl : u = Value.ref a := rx
  obtain ⟨t1, t2⟩ := dx_at I1 d
  refine ⟨t1, t2, ?_⟩
  rw [m.trees]
  refine Calls.callWith_builtin rfl (Calls.evalArgs_plain (Calls.spliced_cons (thn (he.run pins s1 σ H1 _ I1 q1) fun iv s2 ⟨y, H2, I2, ry, q2⟩ =>
    Calls.spliced_cons (thn (hf.run pins s2 σ H2 _ I2 q2) fun fv s3 ⟨z, H3, I3, rz, xs, b, k, ey, e3, kk, kb, q3⟩ => Calls.spliced_nil ?_))))
  subst ey
  obtain rfl : iv = Value.ref b := ry
  obtain ⟨_, hd, ys, rel, dd⟩ := dict_of I3 e3 kk
  exact call_meetsIn PySem.F.slot_dict_get dd.typeIs PySem.F.entry_dict_get (PySem.F.args_dict_get_3 _ _ _) (meetsH_dict_get_default (nestedKind X.prog X.w) a b hd fv)
    ⟨room8 hu, k, ys, key_is I3 kb, dd, ⟨(valX xs k).getD z, H3, I3.tok _, (rel.val k).getD rz, q3⟩⟩
/-! ### {k: v} -/
def tDisp1X (Pg : Program) (w : World) (K : PySem.W.Frag) (tk tv : TE) : TE := fun σ H Q => ∀ p, H p = none → tk σ (upd H p (DXO Pg w p [])) fun y H1 => tv σ H1 fun v H2 =>
  ∃ b k, y = .ref b ∧ KeyH K H2 b k ∧ H2 p = some (DXO Pg w p []) ∧ Q (.ref p) (upd H2 p (DXO Pg w p [(k, b, v)]))
theorem pe_disp1X (hu : X.A.units + 64 < cLine) (hk : PE X ek tk) (hv : PE X ev tv) : PE X (.Dict [some ek] [ev] pos) (tDisp1X X.prog X.w X.K tk tv) := by
  refine ⟨fun pins s σ H Q I h => ?_⟩
  have hn : H s.heap.objs.size = none := I.hok.fresh (Nat.le_refl _)
  have I0 : Inv X pins σ (upd H s.heap.objs.size (DXO X.prog X.w s.heap.objs.size [])) { s with heap := s.heap.push { cls := .type "dict", data := .dict #[] } } :=
    I.laid (t' := s.toks) (fun _ _ q => Heap.get?_push_of_some _ q) (Nat.le_refl _)
      (dx_ok ⟨Nat.zero_le _, beq_eq_false_iff_ne.mpr (Ne.symm (Nat.ne_of_lt I.big)), [], .nil, _, #[], 0, Heap.get?_push_size _ rfl, ⟨rfl, rfl, rfl⟩, rfl, rfl, List.nodup_nil⟩)
  have shape : (evalEachOpt [some ek] X.env).zip ((evalEach [ev] X.env).map fun v => do let x ← v; standAt pos; pure x) = [(some (eval ek X.env), do let x ← eval ev X.env; standAt pos; pure x)] := rfl
  rw [arm_eval_Dict, shape]
  rw [show [(some (eval ek X.env), (do let x ← eval ev X.env; standAt pos; pure x : Sem Value))] = [(eval ek X.env, (do let x ← eval ev X.env; standAt pos; pure x : Sem Value))].map fun p => (some p.1, p.2) from rfl, dictDisplay_pairs _ (by simp) (by simp)]
  refine wpAny_bind (wpAny_standAt (wpAny_bind (wpAny_subDictH (knd := nestedKind X.prog X.w) (by show X.A.units + 8 < cLine; omega) (by simp) ?_)))
  refine evalPairs_cons (thn (hk.run pins _ σ _ _ I0 (h _ hn)) fun kv s1 ⟨y, H1, I1, ry, q1⟩ => wpAny_bind (thn (hv.run pins s1 σ H1 _ I1 q1) fun vv s2 ⟨v, H2, I2, rv, b, k, ey, kb, e2, q2⟩ => ?_))
  refine wpAny_bind (wpAny_standAt (wpAny_pure (evalPairs_nil ?_)))
  subst ey
  obtain rfl : kv = Value.ref b := ry
  obtain ⟨_, hd, ys, rel, dd⟩ := dict_of I2 e2 (fun p hp => by cases hp)
  cases rel
  refine ⟨[(k, b, vv)], ⟨rfl, rfl, key_is I2 kb, trivial⟩, dd, fun h' tk hm' hs => wpAny_pure ?_⟩
  obtain ⟨ob, es, ep, hq, h2, h3, h4, _, h5⟩ := hm'
  exact ⟨.ref s.heap.objs.size, _, d_write I2 (by rw [e2]; exact True.intro) hs ⟨ob, hq⟩ (dx_ok ⟨by show 1 ≤ sizeLine; decide, hd, [(k, b, vv)], .cons ⟨rfl, rfl, rv⟩ .nil, ob, es, ep, hq, h2, h3, h4, h5⟩), rfl, q2⟩
/-! ### list(d.values()) -/
def valsO (p d : Addr) : HO := .ext fun h => h.IsValuesView p d
def tValsX (Pg : Program) (w : World) (td : TE) : TE := fun σ H Q => td σ H fun x H1 => ∃ a xs, x = .ref a ∧ H1 a = some (DXO Pg w a xs) ∧ ∀ p, H1 p = none → Q (.ref p) (upd H1 p (valsO p a))
theorem pe_valuesX (he : PE X e td) (hbase : attributeBase e "values" X.env (eval e X.env) = eval e X.env := by rfl) (hline : (apos.endLine == cpos.line) = true := by rfl) : PE X (.Call (.Attribute e "values" apos) [] [] cpos) (tValsX X.prog X.w td) := by
  refine ⟨fun pins s σ H Q I h => ?_⟩
  refine wpAny_Call_method (T := "dict") (id := "dict.values") hbase rfl hline F.plainAttrs_dict F.slot_dict_values F.type_dict_values (thn (he.run pins s σ H _ I h) fun u s1 ⟨x, H1, I1, rx, a, xs, ex, hd, q⟩ => ?_)
  subst ex
  obtain rfl : u = Value.ref a := rx
  obtain ⟨t1, t2⟩ := dx_at I1 hd
  obtain ⟨hs, es, ep, ys, hr, _⟩ := dx_raw (I1.hok a _ hd).1
  refine ⟨t1, t2, ?_⟩
  have hp : H1 s1.heap.objs.size = none := I1.hok.fresh (Nat.le_refl _)
  have I2 : Inv X pins σ (upd H1 s1.heap.objs.size (valsO s1.heap.objs.size a)) { s1 with heap := s1.heap.push { cls := .type "dict_values", data := .fields #[.ref a] } } :=
    I1.laid (t' := s1.toks) (fun b ob q => Heap.get?_push_of_some _ q) (Nat.le_refl _) ⟨⟨_, Heap.get?_push_size _ rfl, rfl, rfl⟩, ⟨_, Heap.get?_push_size _ rfl⟩, fun h1 h2 ⟨o1, e1, r1⟩ k => ⟨o1, k o1 e1, r1⟩⟩
  show wpAny _ _ (callWith cpos (.builtin "dict.values") [.ref a] [] []) _ X.xe s1
  exact method_meetsIn F.slot_dict_values F.entry_dict_values rfl (PySem.evalArgs_none ⟨rfl, t1, F.args_dict_values_1 _, _, meets_dict_values_raw a hs, ⟨es, ep, hr⟩, ⟨.ref s1.heap.objs.size, _, I2, rfl, q _ hp⟩⟩)
/-- the same, the text and the world told by name (inside a comprehension) -/
theorem pe_valuesXi {Pg : Program} {w : World} (hp : X.prog = Pg) (hw : X.w = w) (he : PE X e td) (hbase : attributeBase e "values" X.env (eval e X.env) = eval e X.env := by rfl) (hline : (apos.endLine == cpos.line) = true := by rfl) : PE X (.Call (.Attribute e "values" apos) [] [] cpos) (tValsX Pg w td) := by
  subst hp hw
  exact pe_valuesX he hbase hline
def rListValsX (Pg : Program) (w : World) : List V → Hp → VK → Prop := fun vs H Q => ∃ (p a : Addr) (xs : List XE), vs = [.ref p] ∧ H p = some (valsO p a) ∧ H a = some (DXO Pg w a xs) ∧ ∀ l, H l = none → Q (.ref l) (upd H l (.lst (xs.map (·.2.2))))
theorem call_listVals (hc : X.calm = true) : CallR X (.type "list") (rListValsX X.prog X.w) := by
  intro pins s σ H vs us Q I r h
  obtain ⟨p, a, xs, rfl, hp, ha, q⟩ := h
  rw [Vals.ref1 r]
  obtain ⟨hs, es, ep, ys, hr, _, hsz, hl, ent⟩ := dx_raw (I.hok a _ ha).1
  have hv : s.heap.IsValuesView p a := (I.hok p _ hp).1
  refine PySem.W.kdl_call (KdlSrc.rawValues (r := p) (d := a) (es := es) (ep := ep)) (I.ok.hd hc) ⟨hv, hr⟩ (by omega) fun h' tk acc c kp e it => ?_
  refine ⟨.ref s.heap.objs.size, _, I.laid (t' := tk) kp (Nat.le_refl _) (show ObjOk X.prog X.w _ h' _ (.lst (xs.map (·.2.2))) from ⟨by rw [List.length_map]; exact hl, acc.toList, c, ?_, e⟩), rfl, q _ (I.hok.fresh (Nat.le_refl _))⟩
  refine vals_of_at (by have h1 := it.1; have h2 : acc.toList.length = acc.size := Array.length_toList; rw [List.length_map]; omega) fun j x u hx hu => ?_
  rw [List.getElem?_map] at hx
  cases q1 : xs[j]? with
  | none => rw [q1] at hx; cases hx
  | some y =>
    rw [q1] at hx
    cases hx
    obtain ⟨en, w', e1, _, e3, e4⟩ := ent j y q1
    rw [Array.getElem?_toList] at hu
    obtain ⟨hi, e5⟩ := it.2 j u hu
    rw [Array.getElem?_eq_getElem hi] at e1
    cases e1
    rw [e5, e3]
    exact e4
/-! ### for k, v in d.items() -/
/-- the pairs of the locked dict at d, each a new tuple -/
def ItX (Pg : Program) (w : World) (d : Addr) (o : Obj) (xs : List XE) : It :=
  ⟨fun i H => H d = some (.frz o (DXO Pg w d xs)) ∧ i < xs.length, fun i H x H' => ∃ T p, xs[i]? = some p ∧ x = .ref T ∧ H T = none ∧ H' = upd H T (.tup [.ref p.2.1, p.2.2]), fun i H => H d = some (.frz o (DXO Pg w d xs)) ∧ xs.length ≤ i⟩
theorem dx_frz {pins : List (Addr × Obj)} {σ : L2.St} {H : Hp} {s : Shared} {d : Addr} {o : Obj} {xs : List XE} (I : Inv X pins σ H s) (h : H d = some (.frz o (DXO X.prog X.w d xs))) :
    (d == sysModules) = false ∧ s.heap.get? d = some o ∧ o.ExactDict ∧ ∃ es ep, o.data = .dict es ep ∧ es.size = xs.length ∧ xs.length ≤ sizeLine ∧
      ∀ (i : Nat) (p : XE), xs[i]? = some p → ∃ en u, es[i]? = some en ∧ en.key = .ref p.2.1 ∧ en.val = u ∧ RelV p.2.2 u := by
  obtain ⟨hd, ⟨x, _⟩⟩ := I.hok d _ h
  obtain ⟨hs, es, ep, ys, ⟨o', h1, h2, h3⟩, _, l1, l2, ent⟩ := dx_raw x
  rw [hd] at h1
  cases h1
  exact ⟨hs, hd, h2, es, ep, h3, l1, l2, ent⟩
theorem turn_itemsX {P : Program} {w : World} {K : PySem.W.Frag} {d : Addr} {o : Obj} {es : Array DictEntry} {ep : Nat} {xs : List XE} {elts : List Expr} {kk : Nat} {tpos : Pos} (it : Addr) (hod : o.data = .dict es ep) :
    Turn P w K (.Tuple elts kk tpos) (ItX P w d o xs) [it] it (fun i h => ∃ ok ov, IsItemIter h it d i xs.length ep ok ov) where
  mem := by simp
  obj := fun i h st b hb => by
    have e : b = it := by simpa using hb
    subst e
    obtain ⟨ok, ov, e⟩ := st
    exact ⟨_, e, fun v z => nomatch z⟩
  keep := fun i h h' st k => let ⟨ok, ov, e⟩ := st; ⟨ok, ov, k it (by simp) _ e⟩
  item := by
    intro X hP hw hK hc i pins s σ H E I hf st hg
    subst hP hw hK
    obtain ⟨hd, hi⟩ := hg
    obtain ⟨hs, hgd, hx, es', ep', hdt, hsz, hl, ent⟩ := dx_frz I hd
    obtain ⟨rfl, rfl⟩ := dict_ep hod hdt
    obtain ⟨p, hp⟩ : ∃ p, xs[i]? = some p := ⟨xs[i], List.getElem?_eq_getElem hi⟩
    obtain ⟨en, u, he1, he2, he3, he4⟩ := ent i p hp
    obtain ⟨ok, ov, he⟩ := st
    rw [← hsz] at he
    have hlt : it < s.heap.objs.size := Heap.lt_size he
    have hi2 : i < es'.size := by omega
    rw [Array.getElem?_eq_getElem hi2] at he1
    refine wpAny_pyNext_items_item_raw he ⟨o, hgd, hx, hdt⟩ hi2 fun h' ho hT hz hk => ?_
    refine ⟨_, rfl, wpAny_letOwnedTupleGo_items (s := { s with heap := h' }) ho fun h'' he' sb => ?_⟩
    have ek : es'[i].key = .ref p.2.1 := by rw [← he2]; exact congrArg DictEntry.key (Option.some.inj he1)
    have ev : es'[i].val = u := by rw [← he3]; exact congrArg DictEntry.val (Option.some.inj he1)
    rw [ek, ev] at hT he'
    have hT2 := (sb.2 _ (Nat.ne_of_gt hlt)).trans hT
    have new : ObjOk X.prog X.w (upd H s.heap.objs.size (.tup [.ref p.2.1, p.2.2])) h'' s.heap.objs.size (.tup [.ref p.2.1, p.2.2]) :=
      ⟨by show 2 ≤ sizeLine; decide, [.ref p.2.1, u], .cons rfl (.cons he4 .nil), ⟨_, hT2, rfl, _, rfl⟩⟩
    have I1 : Inv X pins σ (upd H s.heap.objs.size (.tup [.ref p.2.1, p.2.2])) { s with heap := h'' } :=
      I.turnedNew (t' := s.toks) (ch := [it]) (fun b ob hb e => (sb.2 b (by simpa using hb)).trans (hk b ob (by simpa using hb) e)) hf (Nat.le_refl _) new
    refine ⟨.ref s.heap.objs.size, _, I1, rfl, ⟨_, p, hp, rfl, I.hok.fresh (Nat.le_refl _), rfl⟩, ⟨.ref p.2.1, u, ?_⟩, fun b hb => ?_⟩
    · rw [← hsz]; exact he'
    · have e : b = it := by simpa using hb
      rw [e, upd_ne (Nat.ne_of_lt hlt)]
      exact (hf it (by simp)).1
  done := by
    intro X hP hw hK hc i pins s σ H E I hf st hg
    subst hP hw hK
    obtain ⟨hd, hi⟩ := hg
    obtain ⟨f0, f1, f2, f3, f4, f5⟩ := hf it (by simp)
    obtain ⟨hs, hgd, hx, es', ep', hdt, hsz, hl, ent⟩ := dx_frz I hd
    obtain ⟨rfl, rfl⟩ := dict_ep hod hdt
    obtain ⟨ok, ov, he⟩ := st
    rw [← hsz] at he
    exact wpAny_pyNext_items_end_raw (I.ok.hd hc) he ⟨o, hgd, hx, hdt⟩ (by omega) fun h' eb => ⟨rfl, I.turned (t' := s.toks) (fun b ob hb e => eb b ob hb e) f0 f1 f3 f4 f5⟩
  self := fun A i s Q E st h => let ⟨_, _, e⟩ := st; PySem.W.kcp_self e h
def iItemsX (Pg : Program) (w : World) (td : TE) : TI := fun σ H R => td σ H fun x H1 => ∃ d o xs, x = .ref d ∧ H1 d = some (.frz o (DXO Pg w d xs)) ∧ R (ItX Pg w d o xs) H1
theorem pi_itemsX {elts : List Expr} {kk : Nat} {tpos : Pos} (he : PE X e td) (hbase : attributeBase e "items" X.env (eval e X.env) = eval e X.env := by rfl) (hline : (apos.endLine == cpos.line) = true := by rfl) :
    PI X (.Tuple elts kk tpos) (.Call (.Attribute e "items" apos) [] [] cpos) (iItemsX X.prog X.w td) := by
  refine ⟨fun pins s σ H R I h => ?_⟩
  refine wpAny_Call_method (T := "dict") (id := "dict.items") hbase rfl hline F.plainAttrs_dict F.slot_dict_items F.type_dict_items (thn (he.run pins s σ H _ I h) fun u s1 ⟨x, H1, I1, rx, d, o, xs, ex, hd, q⟩ => ?_)
  subst ex
  obtain rfl : u = Value.ref d := rx
  obtain ⟨hs, hgd, hx, es, ep, hdt, hsz, hl, ent⟩ := dx_frz I1 hd
  have raw : s1.heap.DictRaw d es ep := ⟨o, hgd, hx, hdt⟩
  refine ⟨⟨o, hgd, hx.1⟩, fun b q => by cases q; exact ⟨o, hgd, hx.2.1⟩, ?_⟩
  have I2 : Inv X pins σ H1 { s1 with heap := s1.heap.push { cls := .type "dict_items", data := .fields #[.ref d] } } := I1.kept (t' := s1.toks) fun b ob q => Heap.get?_push_of_some _ q
  have fin : wpAny (model X.prog X.w) X.A (pyIter (.ref s1.heap.objs.size)) (PIE X pins σ (.Tuple elts kk tpos) R) X.xe { s1 with heap := s1.heap.push { cls := .type "dict_items", data := .fields #[.ref d] } } := by
    refine wpAny_pyIter_items_raw (d := d) (es := es) (ep := ep) ⟨_, Heap.get?_push_size _ rfl, rfl, rfl⟩ (raw.at fun _ e => Heap.get?_push_of_some _ e) (pi_one (tk := s1.toks) I2 _ (turn_itemsX _ hdt) ⟨.none, .none, ?_⟩ q)
    rw [← hsz]
    exact Heap.get?_push_size _ rfl
  show wpAny _ _ (callWith cpos (.builtin "dict.items") [.ref d] [] []) _ X.xe s1
  exact method_meetsIn F.slot_dict_items F.entry_dict_items rfl (PySem.evalArgs_none ⟨rfl, ⟨o, hgd, hx.1⟩, F.args_dict_items_1 _, _, meets_dict_items_raw d hs, ⟨es, ep, raw⟩, fin⟩)
end
end CD
/-! CDDict3: the same at the level of data. -/
namespace CD
open PySem PySem.Spec PyProof.Rows L2
theorem DRel.vals {K : PySem.W.Frag} {G : Hp} {xs : List XE} {kvs : List (NestedKey × PyData)} (h : DRel K G xs kvs) : RpAll K G (xs.map (·.2.2)) (kvs.map (·.2)) := by
  unfold DRel at h
  induction h with
  | nil => exact .nil
  | cons h t ih => exact .cons h.2.2 ih
/-- what points to a -/
def IsRef (w : W) (a : Addr) : Prop := w = .v (.ref a) ∨ w = .d (ptrD a)
theorem IsRef.val {K : PySem.W.Frag} {G : Hp} {v : V} {x : W} {a : Addr} (h : IsRef x a) (r : RepW K G v x) : v = .ref a := by
  rcases h with rfl | rfl
  · exact r
  · cases (show Rp K G v (ptrD a) from r) with
    | ptr b =>
      congr 1
section
variable {Pg : Program} {w : World} {K : PySem.W.Frag} {ρ : List W} {M M' : Mem} {P : W → Mem → Prop} {ta tb td ty tx : TE} {E : DE} {u : TS}
theorem tx_varp {i : Nat} {a : Addr} (h : ρ[i]? = some (.d (ptrD a))) (k : P (.v (.ref a)) M) : TX K (tVar i) ρ M P := fun σ G H Q s e m q => by
  obtain ⟨x, h1, h2⟩ := e.at_ i _ h
  have e2 : x = .ref a := (show IsRef (.d (ptrD a)) a from .inr rfl).val h2
  subst e2
  exact ⟨_, h1, q _ G H _ M k (Same.refl G) s m rfl⟩
theorem tx_ptr {i : Nat} {a : Addr} (h : ρ[i]? = some (.v (.ref a))) (k : P (.d (ptrD a)) M) : TX K (tVar i) ρ M P := fun σ G H Q s e m q => by
  have h1 : σ[i]? = some (some (.ref a)) := e.at_ i _ h
  exact ⟨_, h1, q _ G H _ M k (Same.refl G) s m (.ptr a)⟩
theorem TX.toPtr (h : TX K ta ρ M fun wa M1 => ∃ a, wa = .v (.ref a) ∧ P (.d (ptrD a)) M1) : TX K ta ρ M P := fun σ G H Q s e m q =>
  h σ G H Q s e m fun v G1 H1 w1 M1 ⟨a, e1, p⟩ s1 s1' m1 r1 => by
    subst e1
    have e2 : v = .ref a := r1
    subst e2
    exact q _ G1 H1 _ M1 p s1 s1' m1 (.ptr a)
/-- {k: v} -/
theorem tx_disp1 {tk tv : TE} (h : ∀ p, TX K tk ρ ((p, mDict Pg w K p []) :: M) fun wk M1 => TX K tv ρ M1 fun wv M2 => ∃ k x, wk = .d (.tuple (NestedKey.datas k)) ∧ (NestedKey.tup k).depth ≤ 8 ∧ wv = .d x ∧ M2 = (p, mDict Pg w K p []) :: M ∧ P (.v (.ref p)) ((p, mDict Pg w K p [(.tup k, x)]) :: M)) :
    TX K (tDisp1X Pg w K tk tv) ρ M P := fun σ G H Q s e m q => fun p hp =>
  h p σ G _ _ (same_mut s (s.free hp)) e (m.push (m := mDict Pg w K p []) s hp ⟨[], rfl, .nil⟩) fun v1 G1 H1 w1 M1 h1 s1 s1' m1 r1 => h1 σ G1 H1 _ s1' (e.mono s1) m1 fun v2 G2 H2 w2 M2 ⟨k, x, e1, hk, e2, e3, p2⟩ s2 s2' m2 r2 => by
    subst e1 e2 e3
    obtain ⟨g, o, ho, xs, eo, hx⟩ := m2.head
    subst eo
    cases hx
    have r1' := Rp.mono s2 _ _ r1
    have r1'' := r1'
    cases r1'' with
    | @tup b _ _ hb _ =>
      exact ⟨b, .tup k, rfl, ⟨Rp.mono s2' _ _ r1', hk⟩, ho, q _ G2 _ _ _ p2 (s1.trans s2) (same_mut s2' g) (m2.put ⟨_, rfl, .cons ⟨rfl, ⟨r1', hk⟩, r2⟩ .nil⟩) rfl⟩
/-- d.get(k, x) -/
theorem tx_getOr (h : TX K td ρ M fun wd M1 => ∃ a : Addr, IsRef wd a ∧ (∃ kvs0, (a, mDict Pg w K a kvs0) ∈ M1) ∧ TX K ty ρ M1 fun wk M2 => ∃ k, wk = .d (.tuple (NestedKey.datas k)) ∧ (NestedKey.tup k).depth ≤ 8 ∧ TX K tx ρ M2 fun wx M3 => ∃ x kvs, wx = .d x ∧ (a, mDict Pg w K a kvs) ∈ M3 ∧ P (.d ((dGet kvs (.tup k)).getD x)) M3) :
    TX K (tGetOrX Pg w K td ty tx) ρ M P := fun σ G H Q s e m q =>
  h σ G H _ s e m fun v1 G1 H1 w1 M1 ⟨a, ed, ⟨kvs0, hm0⟩, h1⟩ s1 s1' m1 r1 => by
    have e1 := ed.val r1
    subst e1
    obtain ⟨_, o0, ho0, xs0, eo0, _⟩ := m1.mem hm0
    subst eo0
    refine ⟨a, xs0, rfl, ho0, h1 σ G1 H1 _ s1' (e.mono s1) m1 fun v2 G2 H2 w2 M2 ⟨k, ek, hk, h2⟩ s2 s2' m2 r2 => h2 σ G2 H2 _ s2' (e.mono (s1.trans s2)) m2 fun v3 G3 H3 w3 M3 ⟨x, kvs, ex, hm, p⟩ s3 s3' m3 r3 => ?_⟩
    subst ek ex
    obtain ⟨g, o, ho, xs, eo, hx⟩ := m3.mem hm
    subst eo
    have r2' := Rp.mono (s3.trans s3') _ _ r2
    have r2'' := r2'
    cases r2'' with
    | @tup b _ _ hb _ =>
      refine ⟨xs, b, .tup k, rfl, ho, hx.keys s3', ⟨r2', hk⟩, ?_⟩
      obtain ⟨z1, z2⟩ := hx.val (.tup k)
      cases c : dGet kvs (.tup k) with
      | none =>
        rw [c] at z1 p
        have : valX xs (.tup k) = none := by
          cases q1 : valX xs (.tup k) with
          | none => rfl
          | some _ => rw [q1] at z1; cases z1
        rw [this]
        exact q _ G3 H3 _ M3 p ((s1.trans s2).trans s3) s3' m3 r3
      | some y =>
        rw [c] at p
        obtain ⟨v, hv, rv⟩ := z2 y c
        rw [hv]
        exact q _ G3 H3 _ M3 p ((s1.trans s2).trans s3) s3' m3 rv
/-- list(d.values()) -/
theorem tx_listVals (h : TX K td ρ M fun wd M1 => ∃ (a : Addr) (kvs : List (NestedKey × PyData)), IsRef wd a ∧ (a, mDict Pg w K a kvs) ∈ M1 ∧ P (.d (.list (kvs.map (·.2)))) M1) :
    TX K (tCB (rListValsX Pg w) (tCons (tValsX Pg w td) tNil)) ρ M P := fun σ G H Q s e m q =>
  h σ G H _ s e m fun v1 G1 H1 w1 M1 ⟨a, kvs, ed, hm, p⟩ s1 s1' m1 r1 => by
    have e1 := ed.val r1
    subst e1
    obtain ⟨g, o, ho, xs, eo, hx⟩ := m1.mem hm
    subst eo
    refine ⟨a, xs, rfl, ho, fun b hb => ?_⟩
    have nab : a ≠ b := ne_of_none ho hb
    refine ⟨b, a, xs, rfl, upd_same, by rw [upd_ne nab]; exact ho, fun l hl => ?_⟩
    have gl : G1 l = none := by
      have nbl : l ≠ b := fun z => by rw [z, upd_same] at hl; cases hl
      rw [upd_ne nbl] at hl
      exact s1'.free hl
    have vals := hx.vals
    have s2 : Same G1 (upd H1 b (valsO b a)) := same_mut s1' (s1'.free hb)
    exact q _ (upd G1 l (.lst (xs.map (·.2.2)))) _ _ M1 p (s1.trans (same_new gl)) (same_upd2 s2) ((m1.new' hb).new s2 hl) (.lst upd_same (RpAll.mono (same_new gl) _ _ vals))
/-- the i-th of a list that may change, wherever it stands in M -/
theorem rx_ixMm {a : Addr} {xs : List PyData} {i : Int} {x : PyData} (hm : (a, mLst K xs) ∈ M) (e : L2.atI xs i = some x) (h : P (.d x) M) : RX K (rIxL K) (.v (.ref a)) (.d (.int i)) M P := fun u v G H Q s m rx ry q => by
  have e1 : u = .ref a := rx
  subst e1
  cases ry
  obtain ⟨g, o, ho, vs, eo, hra⟩ := m.mem hm
  subst eo
  obtain ⟨v, hv, rv⟩ := hra.atI e
  exact ⟨a, vs, i, v, rfl, rfl, SqL.of ho, hv, q _ G H _ M h (Same.refl G) s m rv⟩
/-- M in another order, or less of it -/
theorem mem_sub {M1 M2 : Mem} (h1 : ∀ p ∈ M2, p ∈ M1) (h2 : (M1.map (·.1)).Nodup → (M2.map (·.1)).Nodup) : MemLe M1 M2 := fun G H m => ⟨h2 m.nd, fun p hp => m.at_ p (h1 p hp)⟩
theorem mem_r3 {p q r : Addr × MO} {M : Mem} : MemLe (p :: q :: r :: M) (r :: p :: q :: M) := mem_sub (fun x hx => by
  simp only [List.mem_cons] at hx ⊢
  rcases hx with h | h | h | h
  · exact .inr (.inr (.inl h))
  · exact .inl h
  · exact .inr (.inl h)
  · exact .inr (.inr (.inr h))) fun h => by
  simp only [List.map_cons, List.nodup_cons, List.mem_cons, not_or] at h ⊢
  exact ⟨⟨fun e => h.1.2.1 e.symm, fun e => h.2.1.1 e.symm, h.2.2.1⟩, ⟨h.1.1, h.1.2.2⟩, h.2.1.2, h.2.2.2⟩
/-- the first dropped, the next two swapped -/
theorem mem_d3 {p q r : Addr × MO} {M : Mem} : MemLe (p :: q :: r :: M) (r :: q :: M) := fun G H m => mem_swap G H m.tail
/-- the dict while it is walked -/
def mFrz (Pg : Program) (w : World) (K : PySem.W.Frag) (a : Addr) (od : Obj) (xs : List XE) (kvs : List (NestedKey × PyData)) : MO := ⟨fun G o => o = .frz od (DXO Pg w a xs) ∧ DRel K G xs kvs, fun s ⟨e, h⟩ => ⟨e, h.mono s⟩⟩
/-- for k, v in d.items(), the dict at the head of M -/
theorem run_items {i1 i2 : Nat} {tbd : TS} {a : Addr} {kvs : List (NestedKey × PyData)} (I : Nat → List W → Mem → Prop) (h0 : I 0 ρ M)
    (h : ∀ f : MO, TX K td ρ ((a, f) :: M) fun wd M1 => IsRef wd a ∧ M1 = (a, f) :: M)
    (hs : ∀ (f : MO) (i : Nat) (k : NestedKey) (x : PyData) (ρ' : List W) (M' : Mem), kvs[i]? = some (k, x) → I i ρ' M' →
      Run K tbd { nx := fun ρ2 M2 => ∃ M3, MemLe M2 ((a, f) :: M3) ∧ I (i + 1) ρ2 M3, ct := fun ρ2 M2 => ∃ M3, MemLe M2 ((a, f) :: M3) ∧ I (i + 1) ρ2 M3, bk := fun _ _ => False, rt := fun _ _ => False } ((ρ'.set i1 (.d k.data)).set i2 (.d x)) ((a, f) :: M'))
    (hd : ∀ ρ' M', I kvs.length ρ' M' → E.nx ρ' ((a, mDict Pg w K a kvs) :: M')) :
    Run K (tLock (tFor (iItemsX Pg w td) (gTup K 2 (gCons (gName i1) (gCons (gName i2) gNil))) tbd)) E ρ ((a, mDict Pg w K a kvs) :: M) := fun D σ G H L s e m => by
  obtain ⟨g, o, ho, xs, eo, hx⟩ := m.head
  subst eo
  refine ⟨a, _, ho, True.intro, fun od => ?_⟩
  have m0 : MemOk G (upd H a (.frz od (DXO Pg w a xs))) ((a, mFrz Pg w K a od xs kvs) :: M) := m.put ⟨rfl, hx⟩
  have hlen := hx.len
  refine h (mFrz Pg w K a od xs kvs) σ G _ _ (same_mut s g) e m0 fun v1 G1 H1 w1 M1 ⟨ed, eM⟩ s1 s1' m1 r1 => ?_
  have e1 := ed.val r1
  subst e1 eM
  obtain ⟨g1, o1, ho1, eo1, hx1⟩ := m1.head
  subst eo1
  refine ⟨a, od, xs, rfl, ho1, ?_⟩
  refine ⟨fun i mm σ' H' => mm = kvs.length - i ∧ i ≤ kvs.length ∧ ∃ ρ' M' G', I i ρ' M' ∧ Same G1 G' ∧ Same G' H' ∧ RepE K G' σ' ρ' ∧ MemOk G' H' ((a, mFrz Pg w K a od xs kvs) :: M'),
    ⟨kvs.length, by simp, Nat.zero_le _, ρ, M, G1, h0, Same.refl _, s1', e.mono s1, m1⟩, ?_⟩
  rintro i mm σ' H' ⟨rfl, hi, ρ', M', G', hI, a1, a2, a3, a4⟩
  obtain ⟨g2, o2, ho2, eo2, hx2⟩ := a4.head
  subst eo2
  by_cases hlt : i < kvs.length
  · refine .inr ⟨⟨ho2, by omega⟩, fun σ2 H2 => ∃ ρ2 M2 G2, I (i + 1) ρ2 M2 ∧ Same G1 G2 ∧ Same G2 H2 ∧ RepE K G2 σ2 ρ2 ∧ MemOk G2 H2 ((a, mFrz Pg w K a od xs kvs) :: M2), fun σ2 H2 ⟨ρ2, M2, G2, b⟩ => ⟨kvs.length - (i + 1), by omega, rfl, hlt, ρ2, M2, G2, b⟩, fun x H2 hy => ?_⟩
    obtain ⟨T, p, hp, rfl, hT, rfl⟩ := hy
    have hq : kvs[i]? = some kvs[i] := List.getElem?_eq_getElem hlt
    obtain ⟨z1, z2, z3⟩ : p.1 = kvs[i].1 ∧ KeyH K G' p.2.1 p.1 ∧ Rp K G' p.2.2 kvs[i].2 := by
      obtain ⟨q, hq2, h2⟩ := paired_get hx2 hp
      rw [hq] at hq2
      cases hq2
      exact h2
    have sn := same_new (o := .tup [V.ref p.2.1, p.2.2]) (a2.free hT)
    have rT : Rp K (upd G' T (.tup [V.ref p.2.1, p.2.2])) (.ref T) (.tuple [kvs[i].1.data, kvs[i].2]) := by
      rw [z1] at z2
      exact .tup (SqT.of upd_same) (.cons (Rp.mono sn _ _ z2.1) (.cons (Rp.mono sn _ _ z3) .nil))
    refine gx_2 (i := i1) (j := i2) (.ref T) σ' _ _ _ (same_upd2 a2) (a3.mono sn) rT fun σ3 e3 _ _ => ?_
    refine hs (mFrz Pg w K a od xs kvs) i kvs[i].1 kvs[i].2 ρ' M' hq hI _ σ3 _ _ ⟨fun ρ4 M4 G4 σ4 H4 ⟨M5, c0, c1⟩ c2 c3 c4 c5 => ?_, fun w4 M4 G4 v4 H4 c1 => c1.elim, fun ρ4 M4 G4 σ4 H4 c1 => c1.elim, fun ρ4 M4 G4 σ4 H4 ⟨M5, c0, c1⟩ c2 c3 c4 c5 => ?_⟩ (same_upd2 a2) e3 (a4.new a2 hT)
    · exact ⟨ρ4, M5, G4, c1, (a1.trans sn).trans c2, c3, c4, c0 _ _ c5⟩
    · exact ⟨ρ4, M5, G4, c1, (a1.trans sn).trans c2, c3, c4, c0 _ _ c5⟩
  · have e' : i = kvs.length := by omega
    subst e'
    refine .inl ⟨⟨ho2, by omega⟩, ho2, ?_⟩
    exact L.nx ρ' _ G' σ' _ (hd ρ' M' hI) (s1.trans a1) (same_mut a2 g2) a3 (a4.put ⟨xs, rfl, hx2⟩)
theorem q_items {i1 i2 : Nat} {tbd : TS} {a : Addr} {kvs : List (NestedKey × PyData)} (I : Nat → List W → Mem → Prop) (h0 : I 0 ρ M)
    (h : ∀ f : MO, TX K td ρ ((a, f) :: M) fun wd M1 => IsRef wd a ∧ M1 = (a, f) :: M)
    (hs : ∀ (f : MO) (i : Nat) (k : NestedKey) (x : PyData) (ρ' : List W) (M' : Mem), kvs[i]? = some (k, x) → I i ρ' M' →
      Run K tbd { nx := fun ρ2 M2 => ∃ M3, MemLe M2 ((a, f) :: M3) ∧ I (i + 1) ρ2 M3, ct := fun ρ2 M2 => ∃ M3, MemLe M2 ((a, f) :: M3) ∧ I (i + 1) ρ2 M3, bk := fun _ _ => False, rt := fun _ _ => False } ((ρ'.set i1 (.d k.data)).set i2 (.d x)) ((a, f) :: M'))
    (hd : ∀ ρ' M', I kvs.length ρ' M' → Run K u E ρ' ((a, mDict Pg w K a kvs) :: M')) :
    Run K (tSeq (tLock (tFor (iItemsX Pg w td) (gTup K 2 (gCons (gName i1) (gCons (gName i2) gNil))) tbd)) u) E ρ ((a, mDict Pg w K a kvs) :: M) := run_seq (run_items I h0 h hs hd)
end
end CD
/-! CDDictNe: d != {}. -/
namespace CD
open PySem PySem.Calls PySem.Spec PyProof.Rows L2
section
variable {prog : Program} {w : World} {A : Around} {E : Value → Shared → Prop} {s : Shared}
theorem same_empty {nm : String} {a b : Addr} {es : Array DictEntry} {ep ep' : Nat} {Q : Bool → Shared → Prop} (ha : (a == sysModules) = false) (hb : (b == sysModules) = false)
    (da : s.heap.DictRaw a es ep) (db : s.heap.DictRaw b #[] ep') (h : Q (es.size == 0) s) : wpAny (model prog w) A (Builtin.Dict.samePairs nm a b) Q E s := by
  obtain ⟨oa, hoa, _, hda⟩ := da
  obtain ⟨ob, hob, _, hdb⟩ := db
  unfold Builtin.Dict.samePairs Builtin.Dict.showsAll
  rw [if_neg (by rw [ha]; exact Bool.false_ne_true), if_neg (by rw [hb]; exact Bool.false_ne_true)]
  refine wpAny_bind (wpAny_pure (wpAny_bind (wpAny_pure (wpAny_bind (wpAny_dictEntries hoa hda ?_)))))
  dsimp only
  refine wpAny_bind (wpAny_dictEntries hob hdb ?_)
  by_cases hz : es.size = 0
  · have hes : es = #[] := Array.eq_empty_of_size_eq_zero hz
    subst hes
    rw [if_neg (by simp)]
    refine wpAny_bind (wpAny_dictEpoch hoa hda ?_)
    refine wpAny_bind ?_
    rw [Std.Legacy.Range.forIn_eq_forIn_range']
    exact wpAny_pure (wpAny_pure h)
  · rw [if_pos (by simpa using hz)]
    have e : (es.size == 0) = false := by simpa using hz
    rw [e] at h
    exact wpAny_bind (wpAny_rule (wpAny_pure h))
theorem ne_empty {a b : Addr} {es : Array DictEntry} {ep ep' : Nat} {Q : Value → Shared → Prop} (ha : (a == sysModules) = false) (hb : (b == sysModules) = false)
    (da : s.heap.DictRaw a es ep) (db : s.heap.DictRaw b #[] ep') (hu : A.units < cLine) (h : Q (.bool (!(es.size == 0))) s) : wpAny (model prog w) A (richCompare .NotEq (.ref a) (.ref b)) Q E s := by
  refine wpAny_richCompare_same_room (op := .NotEq) da.typeIs db.typeIs PySem.F.slot_dict_ne (wpAny_call_entry PySem.F.slot_dict_ne da.typeIs PySem.F.entry_dict_ne ?_ (PySem.F.args_dict_ne_2 _ _)) hu
  show wpAny _ _ (Builtin.Dict.dictSlotArgs "__ne__" ⟨[.ref a, .ref b], []⟩ >>= _) _ _ s
  refine wpAny_bind ?_
  unfold Builtin.Dict.dictSlotArgs
  refine wpAny_bind (wpAny_notOrdered_dict da.typeIs ?_)
  show wpAny _ _ (pure (Value.ref a, Value.ref b)) _ _ s
  refine wpAny_pure (wpAny_bind (wpAny_isInstance (T := "dict") db.typeIs PySem.F.sub_dict_dict ?_))
  simp only [Bool.not_true, Bool.false_eq_true, if_false]
  refine wpAny_bind (wpAny_pure (wpAny_bind (wpAny_pure (wpAny_bind (same_empty ha hb da db ?_)))))
  refine wpAny_pure ⟨_, rfl, (fun x => nomatch x), ?_⟩
  cases q : (es.size == 0) <;> simpa [q] using h
end
/-- d != {} -/
def rNeX (Pg : Program) (w : World) : R2 := fun x y H Q => ∃ a b xs, x = .ref a ∧ y = .ref b ∧ H a = some (DXO Pg w a xs) ∧ H b = some (DXO Pg w b []) ∧ Q (.bl (!(xs.length == 0))) H
section
variable {X : Cx}
theorem op_neX (hu : X.A.units + 64 < cLine) : OpR X (compareOp .NotEq) (rNeX X.prog X.w) := by
  intro pins s σ H x y v u Q I rx ry h
  obtain ⟨a, b, xs, rfl, rfl, ha, hb, q⟩ := h
  cases rx
  cases ry
  obtain ⟨h1, es, ep, _, r1, _, l1, _⟩ := dx_raw (I.hok a _ ha).1
  obtain ⟨h2, es', ep', _, r2, _, l2, _⟩ := dx_raw (I.hok b _ hb).1
  have e2 : es' = #[] := Array.eq_empty_of_size_eq_zero l2
  subst e2
  refine ne_empty h1 h2 r1 r2 (by omega) ?_
  rw [l1]
  exact ⟨.bl _, H, I, rfl, q⟩
end
section
variable {Pg : Program} {w : World} {K : PySem.W.Frag} {M : Mem} {P : W → Mem → Prop}
theorem rx_neX {wa wb : W} {a b : Addr} {kvs : List (NestedKey × PyData)} (ea : IsRef wa a) (eb : IsRef wb b) (ha : (a, mDict Pg w K a kvs) ∈ M) (hb : (b, mDict Pg w K b []) ∈ M) (h : P (.d (.bool (!(kvs.length == 0)))) M) : RX K (rNeX Pg w) wa wb M P := fun u v G H Q s m rx ry q => by
  have e1 := ea.val rx
  have e2 := eb.val ry
  subst e1 e2
  obtain ⟨_, o1, ho1, xs, eo1, hx⟩ := m.mem ha
  obtain ⟨_, o2, ho2, ys, eo2, hy⟩ := m.mem hb
  subst eo1 eo2
  cases hy
  refine ⟨a, b, xs, rfl, rfl, ho1, ho2, ?_⟩
  rw [hx.len]
  exact q _ G H _ M h (Same.refl G) s m (.bl _)
end
end CD
/-! CDLots: what the defs of counting promise. -/
namespace CD
open PySem PySem.Spec PyProof.Rows L2 CM
section
variable {K : PySem.W.Frag} {ρ : List W} {M M' : Mem} {P P' : W → Mem → Prop}
theorem in_ints (a : Int) : ∀ xs : List Int, (xs.map V.int).all flatV = true ∧ inV (.int a) (xs.map V.int) = decide (a ∈ xs)
  | [] => ⟨rfl, rfl⟩
  | y :: ys => by
    obtain ⟨i1, i2⟩ := in_ints a ys
    refine ⟨?_, ?_⟩
    · rw [List.map_cons, List.all_cons, i1]; rfl
    · show (eqV (.int y) (.int a) || inV (.int a) (ys.map V.int)) = _
      rw [i2]
      have e3 : eqV (.int y) (.int a) = decide (y = a) := by
        show (y == a) = _
        exact Bool.beq_eq_decide_eq y a
      rw [e3, ← Bool.decide_or]
      refine decide_eq_decide.mpr ?_
      rw [List.mem_cons]
      exact ⟨fun h => h.imp (fun e => e.symm) id, fun h => h.imp (fun e => e.symm) id⟩
theorem rx_inI {a : Int} {xs : List Int} {neg : Bool} (h : P (.d (.bool (if neg then !decide (a ∈ xs) else decide (a ∈ xs)))) M) : RX K (rIn K neg) (.d (.int a)) (.d (.tuple (xs.map PyData.int))) M P := fun u v G H Q s m rx ry q => by
  cases rx
  cases ry with
  | @tup b bs _ hb hrb =>
    have e := hrb.ints
    subst e
    obtain ⟨i1, i2⟩ := in_ints a xs
    refine ⟨b, _, rfl, .inr (same_t s hb), rfl, i1, ?_⟩
    rw [i2]
    exact q _ G H _ M h (Same.refl G) s m (.bl _)
theorem rx_inIL {a : Int} {xs : List Int} {neg : Bool} (h : P (.d (.bool (if neg then !decide (a ∈ xs) else decide (a ∈ xs)))) M) : RX K (rIn K neg) (.d (.int a)) (.d (.list (xs.map PyData.int))) M P := fun u v G H Q s m rx ry q => by
  cases rx
  cases ry with
  | @lst b bs _ hb hrb =>
    have e := hrb.ints
    subst e
    obtain ⟨i1, i2⟩ := in_ints a xs
    refine ⟨b, _, rfl, .inl (SqL.of (s _ _ hb)), rfl, i1, ?_⟩
    rw [i2]
    exact q _ G H _ M h (Same.refl G) s m (.bl _)
end
theorem asc_get {l : List Int} (h : l.Pairwise (· < ·)) {i : Nat} {a b : Int} (q1 : l[i]? = Option.some a) (q2 : l[1 + i]? = Option.some b) : a < b := by
  have hp := List.pairwise_iff_getElem.mp h
  obtain ⟨z1, z2⟩ := List.getElem?_eq_some_iff.mp q1
  obtain ⟨z3, z4⟩ := List.getElem?_eq_some_iff.mp q2
  have := hp i (1 + i) z1 z3 (by omega)
  rw [z2, z4] at this
  exact this
/-- the pairs of zip(l, l[1:]) -/
theorem zip_get {l : List Int} {i : Nat} {x : PyData} (hx : (zipD (l.map PyData.int) (cutD (l.map PyData.int) (Option.some 1) none))[i]? = Option.some x) : ∃ a b, x = .tuple [.int a, .int b] ∧ l[i]? = Option.some a ∧ l[1 + i]? = Option.some b := by
  rw [show (1 : Int) = ((1 : Nat) : Int) from rfl, cut_from] at hx
  unfold zipD at hx
  rw [List.getElem?_zipWith, List.getElem?_drop, List.getElem?_map, List.getElem?_map] at hx
  cases q1 : l[i]? with
  | none => rw [q1] at hx; cases hx
  | some a =>
    cases q2 : l[1 + i]? with
    | none => rw [q1, q2] at hx; cases hx
    | some b =>
      rw [q1, q2] at hx
      cases hx
      exact ⟨a, b, rfl, rfl, rfl⟩
def R_need_some : RR := fun ws M P => ∃ (d : Di) (some : List Int), d.Ok ∧ Some d some ∧ ws = [.d d.data, .d (eI some)] ∧ P (.d .none) M
def R_are_outputs : RR := fun ws M P => ∃ (d : Di) (o : List Int) (most : Int), d.Ok ∧ (∀ x ∈ o, x ∈ d.levels) ∧ ((o.length : Int) ≤ most ∧ most ≤ 40) ∧ ws = [.d d.data, .d (eI o), dI most] ∧ P (.d (.bool true)) M
def R_need_outputs : RR := fun ws M P => ∃ (d : Di) (o : List Int), d.Ok ∧ (∀ x ∈ o, x ∈ d.levels) ∧ o.length ≤ 40 ∧ ws = [.d d.data, .d (eI o)] ∧ P (.d .none) M
def R_result : RR := fun ws M P => ∃ (d : Di) (row : List Int), d.Ok ∧ RowOk d row ∧ row.length ≤ 40 ∧ ws = [.d d.data, .d (eI row)] ∧ P (.d (eI (walkO d (0, 0) row))) M
def kvD (kvs : KV) : List (NestedKey × PyData) := kvs.map fun p => (stK p.1, PyData.int (p.2 : Nat))
def R_stages_of (Pg : Program) (w : World) (K : PySem.W.Frag) : RR := fun ws M P => ∃ (d : Di) (some o : List Int), d.Ok ∧ Some d some ∧ o.length ≤ 4 ∧ ws = [.d d.data, .d (eI some), .d (eI o)] ∧
  ∀ (pf a : Addr) (ds : List PyData) (kvs : KV), Good d some o kvs → kvs.length ≤ 50000 → P (.v (.ref pf)) ((pf, mLst K (ds ++ [ptrD a])) :: (a, mDict Pg w K a (kvD kvs)) :: M)
def R_count_of : RR := fun ws M P => ∃ (d : Di) (some o : List Int), d.Ok ∧ Some d some ∧ o.length ≤ 4 ∧ ws = [.d d.data, .d (eI some), .d (eI o)] ∧ P (dI (cnt d some (0, 0) o : Nat)) M
def R_count_rows : RR := fun ws M P => ∃ (d : Di) (some o : List Int), d.Ok ∧ Some d some ∧ (∀ x ∈ o, x ∈ d.levels) ∧ o.length ≤ 4 ∧ ws = [.d d.data, .d (eI some), .d (eI o)] ∧ P (dI (cnt d some (0, 0) o : Nat)) M
def R_is_possible : RR := fun ws M P => ∃ (d : Di) (some o : List Int), d.Ok ∧ Some d some ∧ (∀ x ∈ o, x ∈ d.levels) ∧ o.length ≤ 4 ∧ ws = [.d d.data, .d (eI some), .d (eI o)] ∧ P (.d (.bool (decide (0 < cnt d some (0, 0) o)))) M
theorem some_len {d : Di} (ok : d.Ok) {some : List Int} (h : Some d some) : some.length ≤ 9 := by
  have ht := ok.top
  have hn := asc_nodup h.asc
  have := nodup_le some [0, 1, 2, 3, 4, 5, 6, 7, 8] hn fun s hs => by
    have := h.ok s hs
    simp
    omega
  simpa using this
/-! ### states with counts, as a dict -/
def valK (kvs : KV) (h : Sta) : Nat := ((kvs.find? fun p => decide (p.1 = h)).map (·.2)).getD 0
theorem stK_iff {a b : Sta} : stK a = stK b ↔ a = b := ⟨stK_inj, fun e => by rw [e]⟩
theorem kv_find (kvs : KV) (h : Sta) : dGet (kvD kvs) (stK h) = (kvs.find? fun p => decide (p.1 = h)).map fun p => PyData.int (p.2 : Nat) := by
  unfold dGet kvD
  induction kvs with
  | nil => rfl
  | cons p kvs ih =>
    rw [List.map_cons, List.find?_cons, List.find?_cons]
    by_cases e : p.1 = h
    · have e1 : decide (p.1 = h) = true := decide_eq_true e
      have e2 : decide ((stK p.1, PyData.int (p.2 : Nat)).1 = stK h) = true := decide_eq_true (by rw [e])
      rw [e1, e2]
      rfl
    · have e1 : decide (p.1 = h) = false := decide_eq_false e
      have e2 : decide ((stK p.1, PyData.int (p.2 : Nat)).1 = stK h) = false := decide_eq_false fun z => e (stK_inj z)
      rw [e1, e2]
      exact ih
theorem kv_get (kvs : KV) (h : Sta) : (dGet (kvD kvs) (stK h)).getD (.int 0) = .int (valK kvs h : Nat) := by
  rw [kv_find]
  unfold valK
  cases kvs.find? fun p => decide (p.1 = h) <;> rfl
theorem find_key {kvs : KV} {h : Sta} : (kvs.find? fun p => decide (p.1 = h)).isSome = decide (h ∈ kvs.map (·.1)) := by
  rw [Bool.eq_iff_iff, List.find?_isSome]
  simp
theorem kv_put {kvs : KV} (nd : (kvs.map (·.1)).Nodup) (h : Sta) (c : Nat) : dPut (kvD kvs) (stK h) (.int (((valK kvs h : Nat) : Int) + (c : Int))) = kvD (addK kvs h c) := by
  unfold dPut addK
  rw [kv_find, Option.isSome_map, find_key]
  by_cases hm : h ∈ kvs.map (·.1)
  · rw [if_pos (decide_eq_true hm), if_pos hm]
    unfold kvD
    rw [List.map_map, List.map_map]
    refine List.map_congr_left fun p hp => ?_
    show (if stK p.1 = stK h then (stK p.1, PyData.int (((valK kvs h : Nat) : Int) + (c : Int))) else (stK p.1, PyData.int ((p.2 : Nat) : Int))) = (stK (if p.1 = h then (p.1, p.2 + c) else p).1, PyData.int (((if p.1 = h then (p.1, p.2 + c) else p).2 : Nat) : Int))
    by_cases e : p.1 = h
    · rw [if_pos (by rw [e]), if_pos e]
      have hv : valK kvs h = p.2 := by
        unfold valK
        have : kvs.find? (fun p => decide (p.1 = h)) = some p := by
          clear hm
          induction kvs with
          | nil => cases hp
          | cons q kvs ih =>
            rw [List.map_cons, List.nodup_cons] at nd
            rw [List.find?_cons]
            rcases List.mem_cons.mp hp with z | z
            · rw [← z, decide_eq_true e]
            · have hq : ¬ q.1 = h := fun y => nd.1 (by
                rw [y, ← e]
                exact List.mem_map.mpr ⟨p, z, rfl⟩)
              rw [decide_eq_false hq]
              exact ih nd.2 z
        rw [this]
        rfl
      rw [hv]
      rfl
    · rw [if_neg (fun z => e (stK_inj z)), if_neg e]
  · rw [if_neg (by rw [decide_eq_true_eq]; exact hm), if_neg hm]
    have hv : valK kvs h = 0 := by
      unfold valK
      have : (kvs.find? fun p => decide (p.1 = h)).isSome = false := by
        rw [find_key]
        exact decide_eq_false hm
      cases q : kvs.find? fun p => decide (p.1 = h) with
      | none => rfl
      | some _ => rw [q] at this; cases this
    rw [hv]
    unfold kvD
    rw [List.map_append]
    simp
theorem kv_len (kvs : KV) : (kvD kvs).length = kvs.length := by
  unfold kvD
  rw [List.length_map]
theorem ups_snoc (d : Di) (o : Int) (l : List Int) (s : Int) (p : Sta × Nat) : ups d o (l ++ [s]) p = if out d p.1 s = o then ups d o l p ++ [(nxt d p.1 s, p.2)] else ups d o l p := by
  unfold ups
  rw [List.filter_append, List.map_append]
  split
  · rename_i h
    congr 1
    rw [List.filter_cons, if_pos (decide_eq_true h)]
    rfl
  · rename_i h
    rw [List.filter_cons, if_neg (by rw [decide_eq_true_eq]; exact h)]
    simp
theorem ups_len (d : Di) (o : Int) (l : List Int) (p : Sta × Nat) : (ups d o l p).length ≤ l.length := by
  unfold ups
  rw [List.length_map]
  exact List.length_filter_le _ _
theorem flat_len (d : Di) (o : Int) (l : List Int) (kvs : KV) : (kvs.flatMap (ups d o l)).length ≤ kvs.length * l.length := by
  induction kvs with
  | nil => simp
  | cons p kvs ih =>
    rw [List.flatMap_cons, List.length_append, List.length_cons, Nat.add_mul, Nat.one_mul]
    have := ups_len d o l p
    omega
/-! ### all shades -/
def evL (d : Di) : List Int := (List.range (d.top + 1).toNat).map fun i : Nat => (0 : Int) + (i : Int)
theorem evL_rng (d : Di) : rngD 0 (d.top + 1).toNat = (evL d).map PyData.int := by
  unfold rngD evL
  rw [List.map_map]
  rfl
theorem evL_some {d : Di} (ok : d.Ok) : Some d (evL d) where
  ne := fun e => by
    have h := congrArg List.length e
    unfold evL at h
    rw [List.length_map, List.length_range] at h
    have := ok.top
    simp at h
    omega
  ok := fun s hs => by
    unfold evL at hs
    obtain ⟨i, hi, rfl⟩ := List.mem_map.mp hs
    have := List.mem_range.mp hi
    omega
  asc := by
    unfold evL
    rw [List.pairwise_map]
    exact List.pairwise_lt_range.imp fun h => by omega
def R_behind (Pg : Program) (w : World) (K : PySem.W.Frag) : RR := fun ws M P => ∃ (d : Di) (o : List Int) (kvs : KV) (a : Addr) (ov : Int) (M0 : Mem), d.Ok ∧ Good d (evL d) o kvs ∧ kvs.length ≤ 6561 ∧ ws = [.d d.data, .d (ptrD a), dI ov] ∧ M = (a, mDict Pg w K a (kvD kvs)) :: M0 ∧
  ∀ (pl : Addr) (kvs' : KV), Good d (evL d) (o ++ [ov]) kvs' → kvs'.length ≤ kvs.length * 9 → P (.v (.ref pl)) ((pl, mDict Pg w K pl (kvD kvs')) :: (a, mDict Pg w K a (kvD kvs)) :: M0)
def R_need_number : RR := fun ws M P => ∃ n most : Int, (0 ≤ n ∧ n ≤ most) ∧ ws = [dI n, dI most] ∧ P (.d .none) M
/-- the greatest count and the first word that has it -/
def Best (d : Di) (n : Nat) (best : Nat) (w0 : List Int) : Prop := (∀ x ∈ rowsC d.levels n, cnt d (evL d) (0, 0) x ≤ best) ∧ ((rowsC d.levels n).filter fun x => decide (cnt d (evL d) (0, 0) x = best)).head? = some w0
def R_most_rows : RR := fun ws M P => ∃ (d : Di) (n : Nat), d.Ok ∧ n ≤ 5 ∧ ws = [.d d.data, dI (n : Nat)] ∧ ∀ (best : Nat) (w0 : List Int), Best d n best w0 → P (.d (.tuple [.int (best : Nat), eI w0])) M
/-! ### M in any order -/
theorem mem_perm {M M' : Mem} (h : M.Perm M') : MemLe M M' := mem_sub (fun p hp => h.mem_iff.mpr hp) fun nd => (h.map (·.1)).nodup_iff.mp nd
theorem mem_front {M : Mem} {p : Addr × MO} (h : p ∈ M) : ∃ M1, MemLe M (p :: M1) ∧ MemLe (p :: M1) M := by
  obtain ⟨s, t, rfl⟩ := List.append_of_mem h
  exact ⟨s ++ t, mem_perm List.perm_middle, mem_perm List.perm_middle.symm⟩
theorem mem_cons {M M' : Mem} {p : Addr × MO} (h : MemLe M M') (hn : ∀ G H, MemOk G H (p :: M) → p.1 ∉ M'.map (·.1)) : MemLe (p :: M) (p :: M') := fun G H m => by
  have m1 := h G H m.tail
  refine ⟨?_, fun q hq => ?_⟩
  · rw [List.map_cons, List.nodup_cons]
    exact ⟨hn G H m, m1.nd⟩
  · rcases List.mem_cons.mp hq with rfl | hq
    · exact m.at_ _ List.mem_cons_self
    · exact m1.at_ q hq
theorem mem_pick {M : Mem} {p : Addr × MO} (h : p ∈ M) : ∃ M1, M.Perm (p :: M1) := by
  obtain ⟨s, t, rfl⟩ := List.append_of_mem h
  exact ⟨s ++ t, List.perm_middle⟩
/-! ### levels: words, and where the states behind them stand -/
abbrev LV := List (List Int × Addr × KV)
def encL (lv : LV) : List PyData := lv.map fun x => PyData.tuple [eI x.1, ptrD x.2.1]
def memL (Pg : Program) (w : World) (K : PySem.W.Frag) (lv : LV) : Mem := lv.map fun x => (x.2.1, mDict Pg w K x.2.1 (kvD x.2.2))
def posW (d : Di) (W : List (List Int)) : List (List Int) := W.filter fun x => decide (0 < cnt d (evL d) (0, 0) x)
structure LvOk (d : Di) (i : Nat) (W : List (List Int)) (lv : LV) : Prop where
  words : lv.map (·.1) = W
  good : ∀ x ∈ lv, Good d (evL d) x.1 x.2.2 ∧ x.2.2.length ≤ 9 ^ i
theorem LvOk.snoc {d : Di} {i : Nat} {W : List (List Int)} {lv : LV} (h : LvOk d i W lv) {x : List Int} {a : Addr} {kvs : KV} (g : Good d (evL d) x kvs) (hl : kvs.length ≤ 9 ^ i) : LvOk d i (W ++ [x]) (lv ++ [(x, a, kvs)]) where
  words := by rw [List.map_append, h.words]; rfl
  good := fun y hy => by
    rcases List.mem_append.mp hy with z | z
    · exact h.good y z
    · rw [List.mem_singleton.mp z]; exact ⟨g, hl⟩
theorem posW_snoc (d : Di) (W : List (List Int)) (x : List Int) : posW d (W ++ [x]) = if 0 < cnt d (evL d) (0, 0) x then posW d W ++ [x] else posW d W := by
  unfold posW
  rw [List.filter_append]
  split
  · rename_i h
    congr 1
    rw [List.filter_cons, if_pos (decide_eq_true h)]
    rfl
  · rename_i h
    rw [List.filter_cons, if_neg (by rw [decide_eq_true_eq]; exact h)]
    simp
theorem flat_filter {α β : Type} (P : α → Bool) (F : α → List β) (l : List α) (h : ∀ a ∈ l, P a = false → F a = []) : (l.filter P).flatMap F = l.flatMap F := by
  induction l with
  | nil => rfl
  | cons a l ih =>
    have ih' := ih fun b hb => h b (List.mem_cons_of_mem _ hb)
    rw [List.filter_cons, List.flatMap_cons]
    split
    · rw [List.flatMap_cons, ih']
    · rename_i c
      rw [ih', h a List.mem_cons_self (by simpa using c), List.nil_append]
theorem posW_step (d : Di) (i : Nat) : (posW d (rowsC d.levels i)).flatMap (fun r => posW d (d.levels.map fun s => r ++ [s])) = posW d (rowsC d.levels (i + 1)) := by
  have e : posW d (rowsC d.levels (i + 1)) = (rowsC d.levels i).flatMap fun r => posW d (d.levels.map fun s => r ++ [s]) := by
    rw [rowsC_snoc]
    unfold posW
    rw [List.filter_flatMap]
  rw [e]
  unfold posW
  refine flat_filter _ _ _ fun r _ hr => ?_
  rw [List.filter_eq_nil_iff]
  intro x hx
  obtain ⟨s, _, rfl⟩ := List.mem_map.mp hx
  have h0 : cnt d (evL d) (0, 0) r = 0 := by
    have := of_decide_eq_false hr
    omega
  rw [cnt_app_zero [s] h0]
  decide
theorem posW_len (d : Di) (W : List (List Int)) : (posW d W).length ≤ W.length := List.length_filter_le _ _
/-- what the sum over a level's entry is -/
def cntD (d : Di) : PyData → PyData
  | .tuple [.tuple ds, _] => .int (cnt d (evL d) (0, 0) (ds.map numD) : Nat)
  | _ => .none
theorem cntD_is (d : Di) (x : List Int) (a : Addr) : cntD d (.tuple [eI x, ptrD a]) = .int (cnt d (evL d) (0, 0) x : Nat) := by
  show PyData.int ((cnt d (evL d) (0, 0) ((x.map PyData.int).map numD) : Nat) : Int) = _
  rw [List.map_map, show numD ∘ PyData.int = id from rfl, List.map_id]
def fstD : PyData → PyData
  | .tuple (x :: _) => x
  | _ => .none
def hasD (d : Di) (best : Int) (x : PyData) : Bool := match cntD d x with
  | .int n => decide (n = best)
  | _ => false
def R_lsome : RR := fun ws M P => ∃ (a : Addr) (d : Di) (M0 : Mem), d.Ok ∧ ws = [.v (.ref a), .d d.data] ∧ M = (a, mSrc) :: M0 ∧ ∀ some : List Int, Some d some → P (.d (eI some)) M
def R_rows_of : RR := fun ws M P => ∃ (l : List Int) (n : Nat), l.length ≤ 9 ∧ n ≤ 4 ∧ ws = [.d (eI l), dI (n : Nat)] ∧ P (.d (.list ((rowsC l n).map eI))) M
end CD
/-! CDSets: set(xs) of tuples of ints with few distinct ones; sorted(set), the ints of any sign. -/
namespace CD
open PySem PySem.W PySem.Calls PySem.Spec PyProof.Rows L2
section
variable {P : Program} {w : World} {A : Around} {E : Value → Shared → Prop} {s : Shared}
abbrev encT (b : Addr × List Int) : PyData := .tuple (b.2.map .int)
theorem reads_ints {h : Heap} : ∀ {k : List Int} {vs : List Value}, ItemsAre (intKind P w) k vs → ReadsAll h vs (k.map .int) []
  | _, _, .nil => .nil
  | _, _, .cons h1 t => by
    obtain ⟨t', e⟩ := Value.isInt_shape h1
    subst e
    exact .cons (.int _ _) (reads_ints t)
theorem reads_tup {h : Heap} {k : List Int} {b : Addr} (x : IsT P w h k b) : Reads h (.ref b) (.tuple (k.map .int)) [] := by
  obtain ⟨o, its, n, ho, hc, hd, it⟩ := x
  exact .tuple ho hc hd (reads_ints it)
/-- values that stand for the rows of a permutation are that permutation's -/
theorem rows_of_perm {L : List (Addr × List Int)} : ∀ {vs : List Value}, (∀ v ∈ vs, ∃ q ∈ L, v = Value.ref q.1) → ∃ L1 : List (Addr × List Int), vs = L1.map (fun q => Value.ref q.1) ∧ ∀ q ∈ L1, q ∈ L
  | [], _ => ⟨[], rfl, fun q hq => by cases hq⟩
  | v :: vs, h => by
    obtain ⟨q, hq, e⟩ := h v List.mem_cons_self
    obtain ⟨L1, e1, h1⟩ := rows_of_perm fun u hu => h u (List.mem_cons_of_mem _ hu)
    exact ⟨q :: L1, by rw [List.map_cons, ← e1, e], fun r hr => by
      rcases List.mem_cons.mp hr with z | z
      · rw [z]; exact hq
      · exact h1 r z⟩
theorem each_refs {vs : List Value} {L : List (Addr × List Int)} (e : vs = L.map fun q => Value.ref q.1) : EachIs (fun v (b : Addr × List Int) => v = Value.ref b.1) vs L := by
  subst e
  induction L with
  | nil => exact .nil
  | cons q L ih => exact .cons rfl ih
theorem each_back {vs : List Value} {L : List (Addr × List Int)} (e : EachIs (fun v (b : Addr × List Int) => v = Value.ref b.1) vs L) : vs = L.map fun q => Value.ref q.1 := by
  induction e with
  | nil => rfl
  | cons h t ih => rw [h, ih]; rfl
theorem each_reads {h : Heap} {a : Addr} {vs : List Value} {L : List (Addr × List Int)} (e : vs = L.map fun q => Value.ref q.1) (t : ∀ q ∈ L, IsT P w h q.2 q.1) : EachIs (fun v (b : Addr × List Int) => ∃ as, Reads h v (encT b) as ∧ a ∉ as) vs L := by
  subst e
  induction L with
  | nil => exact .nil
  | cons q L ih => exact .cons ⟨[], reads_tup (t q List.mem_cons_self), by simp⟩ (ih fun r hr => t r (List.mem_cons_of_mem _ hr))
theorem nodup_addr {h : Heap} {L : List (Addr × List Int)} (nd : (L.map (·.2)).Nodup) (t : ∀ q ∈ L, IsT P w h q.2 q.1) : (L.map fun q => Value.ref q.1).Nodup := by
  induction L with
  | nil => exact List.nodup_nil
  | cons q L ih =>
    rw [List.map_cons, List.nodup_cons] at nd
    rw [List.map_cons, List.nodup_cons]
    refine ⟨fun hm => ?_, ih nd.2 fun r hr => t r (List.mem_cons_of_mem _ hr)⟩
    obtain ⟨r, hr, e⟩ := List.mem_map.mp hm
    injection e with e
    have t1 := t q List.mem_cons_self
    have t2 := t r (List.mem_cons_of_mem _ hr)
    rw [e] at t2
    have e2 : q.2 = r.2 := t1.inj t2
    exact nd.1 (by rw [e2]; exact List.mem_map.mpr ⟨r, hr, rfl⟩)
/-- sorted(a set of tuples of ints): a new list of the same tuples -/
theorem sorted_setN {a : Addr} {L : List (Addr × List Int)} {es : Array (Int × Value)} {ep : Nat} {t : SetTable} {Q : Value → Shared → Prop} (R : SetTR P w s.heap a L es ep t) (hh : A.handled = none) (hu : A.units + 64 < cLine) (hne : ∀ p ∈ L, p.2 ≠ [])
    (hQ : ∀ s' p (out : Array Value) (c : Nat) (L' : List (Addr × List Int)), (∀ b o, s.heap.get? b = some o → s'.heap.get? b = some o) → s'.gens = s.gens → s'.os = s.os → s.heap.objs.size ≤ p →
      s'.heap.get? p = some (seqObj "list" out c) → out.toList = L'.map (fun q => Value.ref q.1) → L'.Perm L → Q (.ref p) s') :
    wpAny (model P w) A (call (.builtin "sorted") [.ref a]) Q E s := by
  obtain ⟨o, ho, hex, hd⟩ := R.ob
  have hsz := R.size
  have hfew := R.few
  refine Calls.call_function_entry kind_sorted plain_sorted entry_sorted (args_sorted1 _) ?_
  unfold Builtin.«sorted»
  refine wpAny_bind (m := checkCount "sorted" 1 1 _) (wpAny_pure ?_)
  refine wpAny_bind (collect_set (A := A.in1) hh ⟨o, ho, hex.1, hd⟩ R.fits (by unfold scanBound; omega) R.tab.ris R.led fun s1 vs k1 hz g1 o1 pm => ?_)
  have hes : es.toList.map (·.2) = L.map fun q => Value.ref q.1 := by
    rw [R.rows]
    unfold L2.rowsOf
    rw [List.map_map]
    rfl
  rw [hes] at pm
  have ndA := nodup_addr (P := P) (w := w) R.nd R.tup
  obtain ⟨L1, e1, m1⟩ := rows_of_perm (L := L) (vs := vs) fun v hv => by
    obtain ⟨q, hq, e⟩ := List.mem_map.mp (pm.mem_iff.mp hv)
    exact ⟨q, hq, e.symm⟩
  have pmL : L1.Perm L := by
    have pr : (L1.map fun q => Value.ref q.1).Perm (L.map fun q => Value.ref q.1) := by rw [← e1]; exact pm
    have n1 : L1.Nodup := nodup_of_map (pr.nodup_iff.mpr ndA)
    refine (List.perm_ext_iff_of_nodup n1 (nodup_of_map R.nd)).mpr fun q => ⟨m1 q, fun hq => ?_⟩
    obtain ⟨r, hr, e⟩ := List.mem_map.mp (pr.mem_iff.mpr (List.mem_map.mpr ⟨q, hq, rfl⟩))
    injection e with e
    have t1 := R.tup q hq
    have t2 := R.tup r (m1 r hr)
    rw [e] at t2
    have e2 : q.2 = r.2 := t1.inj t2
    rw [show q = r from Prod.ext e.symm e2]
    exact hr
  have hvl : vs.length < 64 := by rw [pm.length_eq, List.length_map]; exact hfew
  have hLl : L1.length < 64 := by rw [pmL.length_eq]; exact hfew
  refine wpAny_bind (wpAny_newList ?_ (by rw [sizeLine_eq]; omega))
  have hoL : (s1.heap.push (seqObj "list" vs.toArray 0)).get? s1.heap.objs.size = some (seqObj "list" vs.toArray 0) := Heap.get?_push_size _ rfl
  have tk : ∀ q ∈ L1, IsT P w (s1.heap.push (seqObj "list" vs.toArray 0)) q.2 q.1 := fun q hq => isT_keep (R.tup q (m1 q hq)) fun b u e => Heap.get?_push_of_some _ (k1 b u e)
  refine wpAny_bind (wpAny_holding (PySem.W.list_sort_data (s := { s1 with heap := s1.heap.push (seqObj "list" vs.toArray 0) }) (enc := encT) (bs := L1) hoL (each_refs e1) (each_reads e1 tk) ?_ ?_ ?_ ?_ fun out a1 a2 => ?_))
  · exact PySem.W.AllAlike.of fun b b' => by
      show alike (.tuple (b.2.map .int)) (.tuple (b'.2.map .int)) = true
      rw [alike]
      exact PySem.W.alike_ints _ _
  · exact .inl fun d hd2 => by
      obtain ⟨b, hb, rfl⟩ := List.mem_map.mp hd2
      cases q : b.2 with
      | nil => exact absurd q (hne b (m1 b hb))
      | cons x r => exact ⟨.int x, r.map .int, by show PyData.tuple (b.2.map .int) = _; rw [q]; rfl⟩
  · rw [sizeLine_eq]; omega
  · intro b _
    show A.in1.units + 1 + (PyData.depthAll (b.2.map .int) + 1) < cLine
    rw [PySem.W.depth_ints]
    show A.units + 1 + 1 + (0 + 1) < cLine
    omega
  · have e2 := each_back a2
    have pS : (L1.mergeSort (PySem.W.dataLe false encT)).Perm L := (List.mergeSort_perm _ _).trans pmL
    obtain ⟨c, hc⟩ := sortedHeap_at (vs := vs) (out := out.toArray) hoL
    refine wpAny_pure ⟨_, rfl, hQ _ s1.heap.objs.size out.toArray c (L1.mergeSort (PySem.W.dataLe false encT)) (fun b u e => ?_) g1 o1 hz hc (by simpa using e2) pS⟩
    have q := k1 b u e
    have hlt := Heap.lt_size q
    show (sortedHeap (s1.heap.push (seqObj "list" vs.toArray 0)) s1.heap.objs.size vs out.toArray).get? b = some u
    rw [sortedHeap_old (Nat.ne_of_lt hlt) (by rw [size_push']; exact Nat.lt_succ_of_lt hlt)]
    exact Heap.get?_push_of_some _ q
/-- so few distinct rows that the table never grows past its steps -/
def Few (ks : List (Addr × List Int)) : Prop := ∀ L : List (Addr × List Int), (L.map (·.2)).Nodup → (∀ p ∈ L, p ∈ ks) → L.length + 1 < 64
/-- set.update's loop over a walk of the rows ks, by the number of turns that are left -/
theorem loop_few {I : Addr} {fp wr : List Addr} {G : Array GenState → Array GenState → Prop} {n : Nat} {Pv : Nat → Value → Prop} {St : Nat → Shared → Prop} {R : Result → Shared → Prop}
    (W : WalksS P w A.in1 I fp wr G n Pv St) (S : Addr) (hSf : S ∉ fp) (ks : List (Addr × List Int)) (hn : n = ks.length) (hfew : Few ks) (hval : ∀ i v, Pv i v → ∃ p, ks[i]? = some p ∧ v = .ref p.1)
    (h0 : Heap) (hk : ∀ p ∈ ks, IsT P w h0 p.2 p.1) (hS0 : h0.get? S = none) (hw0 : ∀ b ∈ wr, h0.get? b = none) (hu : A.in1.units < cLine) (more : Nat) :
    ∀ (i : Nat) (s : Shared), n - i = more → i ≤ n → St i s → (∀ b o, h0.get? b = some o → s.heap.get? b = some o) → (∃ L es ep t, SetTR P w s.heap S L es ep t ∧ Got ks i L) →
      (∀ s' L es ep t, Moved (S :: wr) G s s' → SetTR P w s'.heap S L es ep t → Got ks n L → (∀ b o, h0.get? b = some o → s'.heap.get? b = some o) → R (.ok (.ret .none)) s') →
      codeAny (model P w) A (.builtin "set.update.loop" ⟨[.ref S, .ref I], []⟩) R s := by
  have apart : S ∉ wr := fun h => hSf (W.sub _ h)
  have wide : ∀ b ∈ wr, b ∈ S :: wr := fun b hb => List.mem_cons_of_mem _ hb
  have stay : ∀ {x y : Shared}, Moved wr G x y → (∀ b o, h0.get? b = some o → x.heap.get? b = some o) → ∀ b o, h0.get? b = some o → y.heap.get? b = some o := fun mv kp b o e =>
    mv.heap b o (fun hb => by rw [hw0 b hb] at e; cases e) (kp b o e)
  induction more with
  | zero =>
    intro i s left hi hst kp ⟨L, es, ep, t, hS, g⟩ hR
    obtain rfl : i = n := by omega
    refine codeAny_builtin F.entry_set_update_loop ?_
    rw [Around.under_plainId F.plain_set_update_loop _]
    show wpAny _ A.in1 (pyNext (.ref I) >>= _) _ _ s
    refine wpAny_bind (W.done s _ _ hst fun s2 mv => ?_)
    show wpAny _ A.in1 (ret Value.none) _ _ s2
    have kp2 := stay mv kp
    exact wpAny_pure (hR s2 L es ep t (mv.mono wide) (hS.keep (fun o e => mv.heap S o apart e) fun p hp => isT_keep (hk p (List.mem_of_mem_take (g.sub p hp))) kp2) g kp2)
  | succ more ih =>
    intro i s left hi hst kp ⟨L, es, ep, t, hS, g⟩ hR
    have lt : i < n := by omega
    refine codeAny_builtin F.entry_set_update_loop ?_
    rw [Around.under_plainId F.plain_set_update_loop _]
    show wpAny _ A.in1 (pyNext (.ref I) >>= _) _ _ s
    refine wpAny_bind (W.item i s _ _ lt hst fun v s2 hP st2 mv => ?_)
    obtain ⟨p, hp, rfl⟩ := hval i v hP
    have kp2 := stay mv kp
    have inKs : ∀ q ∈ L, q ∈ ks := fun q hq => List.mem_of_mem_take (g.sub q hq)
    have hS2 : SetTR P w s2.heap S L es ep t := hS.keep (fun o e => mv.heap S o apart e) fun q hq => isT_keep (hk q (inKs q hq)) kp2
    have row : IsT P w s2.heap p.2 p.1 := isT_keep (hk p (List.mem_of_getElem? hp)) kp2
    show wpAny _ A.in1 (holding [Value.ref p.1] (setAdd S (.ref p.1)) >>= _) _ _ s2
    refine wpAny_bind (wpAny_holding ?_)
    unfold setAdd
    refine wpAny_holding (wpAny_bind (wpAny_pyHash_tuple hu row ?_))
    refine add_at (s := { s2 with toks := s2.toks + (p.2.length + 1) }) hS2 row hu (hfew L hS2.nd inKs) fun b h3 L3 es3 ep3 t3 but hS3 c1 c2 => ?_
    have g3 : Got ks (i + 1) L3 := by
      by_cases c : p.2 ∈ L.map (·.2)
      · rw [c1 c]; exact g.same hp c
      · exact g.more hp (c2 c)
    have kp3 : ∀ b o, h0.get? b = some o → h3.get? b = some o := fun b o e => (but.2 b (fun z => by rw [z, hS0] at e; cases e)).trans (kp2 b o e)
    refine wpAny_pure ⟨plainId_quiet F.plain_set_update_loop _, ih (i + 1) _ (by omega) lt (W.frame _ s2 _ _ st2 (Nat.le_add_right _ _) fun b hb o e => ?_) kp3 ⟨L3, es3, ep3, t3, hS3, g3⟩ fun s4 L4 es4 ep4 t4 mv4 hS4 g4 kp4 => ?_⟩
    · rw [but.2 b (fun h : b = S => hSf (by rw [← h]; exact hb))]; exact e
    · refine hR s4 L4 es4 ep4 t4 (Moved.trans W.gtrans ((mv.mono wide).then_heap (Nat.le_add_right _ _) fun b o hb e => ?_) mv4) hS4 g4 kp4
      rw [but.2 b (fun h : b = S => hb (by rw [h]; exact List.mem_cons_self))]; exact e
/-- an empty set as it is made -/
abbrev newSet (w : World) : Obj := { cls := .type "set", dict := none, data := .set #[] 0 (.fresh 0 0 (!w.params.followText "set-order")) }
/-- set(xs) -/
theorem call_set_few {l : Addr} {items : Array Value} (ks : List (Addr × List Int)) {Q : Value → Shared → Prop} (hh : A.handled = none) (hl : s.heap.IsList l items) (hit : items.toList = ks.map fun p => Value.ref p.1)
    (hk : ∀ p ∈ ks, IsT P w s.heap p.2 p.1) (hfew : Few ks) (hu : A.units + 3 < cLine)
    (h : ∀ (h' : Heap) (tk : Nat) L es ep t, SetTR P w h' s.heap.objs.size L es ep t → Got ks ks.length L → (∀ b o, s.heap.get? b = some o → h'.get? b = some o) → Q (.ref s.heap.objs.size) { s with heap := h', toks := tk }) :
    wpAny (model P w) A (call (.type "set") [.ref l]) Q E s := by
  have size : items.size = ks.length := by
    have q := congrArg List.length hit
    rw [Array.length_toList, List.length_map] at q
    exact q
  obtain ⟨c, tl, hmro⟩ := F.called_set.mro
  have hmade := F.called_set.made
  have hsub := F.called_set.sub
  refine wpAny_call (codeAny_of_tree ?_)
  show wpAny _ _ (callAny (.type "set") _) _ _ _
  refine wpAny_pure ⟨Code.quiet_builtin _ (by decide +kernel), codeAny_builtin F.entry_type_call ?_⟩
  rw [Around.under_plain (weight_type_call_type "set" [.ref l] []) rfl]
  have h1 := F.called_set.notType
  have h2 := F.called_set.canCreate
  have hct := F.typeCall_set_1 (.ref l)
  repeat (any_goals (first | assumption | wp_step))
  refine codeAny_mono (code_set_led1 (.ref l) (E := E) (Q₁ := fun obj s₁ => obj = .ref s.heap.objs.size ∧ s₁ = { s with heap := s.heap.push (newSet w) }) ⟨rfl, rfl⟩) fun r s₁ hr => ?_
  cases r with
  | error e => exact hr
  | ok fl =>
    cases fl with
    | ret obj =>
      obtain ⟨rfl, rfl⟩ := hr
      have hS : (s.heap.push (newSet w)).get? s.heap.objs.size = some (newSet w) := Heap.get?_push_size _ rfl
      have hT : Shared.TypeIs { s with heap := s.heap.push (newSet w) } (.ref s.heap.objs.size) "set" := ⟨_, hS, rfl⟩
      have hli := F.called_set.init.lookup
      have hbi := F.called_set.init.bind (.ref s.heap.objs.size)
      repeat (any_goals (first | assumption | wp_step))
      refine codeAny_mono (codeAny_call_builtin (R := wants (fun r s₂ => r = .none ∧ ∃ h' tk L es ep t, s₂ = { s with heap := h', toks := tk } ∧ SetTR P w h' s.heap.objs.size L es ep t ∧ Got ks ks.length L ∧
          (∀ b o, s.heap.get? b = some o → h'.get? b = some o)) E) F.called_set.init.plain F.entry_set_init (check_set_init_1 hT ?_)) fun r₂ s₂ hr₂ => ?_
      · obtain ⟨ol, hol, hcl, nl, hdl⟩ := hl
        obtain ⟨ocls, odict, odata, oslots⟩ := ol
        simp only at hcl hdl
        subst hcl; subst hdl
        have hol' : (s.heap.push (newSet w)).get? l = some { cls := .type "list", dict := odict, data := .seq items nl, slots := oslots } := Heap.get?_push_of_some _ hol
        have hsls := F.sub_list_set
        have hslf := F.sub_list_frozenset
        have hne : (Value.type "list" == Value.type "dict") = false := by decide
        have hl1 : (s.heap.push (newSet w)).IsList l items := ⟨_, hol', rfl, nl, rfl⟩
        unfold Builtin.«set.__init__» noKeywords Builtin.Frozenset.updateFrom
        generalize hPI : pyIter = PI
        wp_walk
        subst hPI
        refine wpAny_pyIter_list hl1 ?_
        refine wpAny_bind (wpAny_runValue ?_)
        have hlS : l < s.heap.objs.size := Heap.lt_size hol
        have hh3 : A.in1.in1.in1.handled = none := by simp [hh]
        have hneI : l ≠ (s.heap.push (newSet w)).objs.size := by
          rw [Heap.size_push]; exact Nat.ne_of_lt (Nat.lt_succ_of_lt hlS)
        have hSf : s.heap.objs.size ∉ [(s.heap.push (newSet w)).objs.size, l] := by
          rw [Heap.size_push]; simp only [List.mem_cons, List.mem_singleton, List.not_mem_nil, or_false, not_or]
          exact ⟨Nat.ne_of_lt (Nat.lt_succ_self _), Nat.ne_of_gt hlS⟩
        have hval : ∀ (i : Nat) (v : Value), items[i]? = some v → ∃ p, ks[i]? = some p ∧ v = .ref p.1 := fun i v hv => by
          have q : items.toList[i]? = some v := by rw [Array.getElem?_toList]; exact hv
          rw [hit, List.getElem?_map] at q
          cases hq : ks[i]? with
          | none => rw [hq] at q; cases q
          | some p =>
            rw [hq] at q
            exact ⟨p, rfl, (Option.some.inj q).symm⟩
        have free : ∀ b, s.heap.objs.size ≤ b → s.heap.get? b = none := fun b hb => by
          cases q : s.heap.get? b with
          | none => rfl
          | some o => exact absurd (Nat.lt_of_lt_of_le (Heap.lt_size q) hb) (Nat.lt_irrefl _)
        refine loop_few ((Walks.list hh3 _ l hneI items).toS) s.heap.objs.size
          hSf ks size hfew hval s.heap hk (free _ (Nat.le_refl _)) (fun b hb => free b (by
            rw [List.mem_singleton.mp hb, Heap.size_push]
            exact Nat.le_succ _)) hu (items.size - 0) 0 _ (by omega) (Nat.zero_le _)
          ⟨⟨_, Heap.get?_push_size _ rfl, rfl, rfl⟩, (hl1.push _)⟩ (fun b o e => Heap.get?_push_of_some _ (Heap.get?_push_of_some _ e)) ?hS0 ?hR
        case hS0 =>
          exact ⟨[], #[], 0, _, setTR_fresh (Heap.get?_push_of_some _ hS), Got.zero ks⟩
        case hR =>
          intro s' L es ep t hm hS' g' hkp
          obtain ⟨h', g2, d', tk', os'⟩ := s'
          have eg : g2 = s.gens := hm.gens
          have ed : d' = s.drawn := hm.drawn
          have eo : os' = s.os := hm.os
          subst eg; subst ed; subst eo
          show wpAny _ _ _ _ _ _
          refine wpAny_pure ?_
          show wpAny _ _ (ret Value.none) _ _ _
          rw [size] at g'
          exact wpAny_pure ⟨rfl, h', tk', L, es, ep, t, rfl, hS', g', hkp⟩
      · cases r₂ with
        | error e => exact hr₂
        | ok fl₂ =>
          cases fl₂ with
          | ret r =>
            obtain ⟨rfl, h', tk, L, es, ep, t, rfl, hS', g', hk'⟩ := hr₂
            repeat (any_goals (first | assumption | wp_step))
            exact h _ _ _ _ _ _ hS' g' hk'
          | _ => exact hr₂.elim
    | _ => exact hr.elim
end
end CD
/-! CDSets2: tuple(sorted(set(xs))), xs a list of states. -/
namespace CD
open PySem PySem.Spec PyProof.Rows L2 CM
def rSetFew (K : PySem.W.Frag) (P : Program) (w : World) : List V → Hp → VK → Prop := fun xs H Q => ∃ (l : Addr) (ks : List (Addr × List Int)), xs = [V.ref l] ∧ SqL K H l (ks.map fun p => V.ref p.1) ∧ (∀ p ∈ ks, SqT K H p.1 (p.2.map V.int)) ∧ Few ks ∧
  ∀ a L, H a = none → (∀ p ∈ L, p ∈ ks) → (∀ p ∈ ks, p.2 ∈ L.map (·.2)) → Q (.ref a) (upd H a (SetTO P w a L))
def rSortN (K : PySem.W.Frag) (P : Program) (w : World) : List V → Hp → VK → Prop := fun vs H Q => ∃ (a : Addr) (L : List (Addr × List Int)), vs = [V.ref a] ∧ H a = some (SetTO P w a L) ∧ (∀ p ∈ L, SqT K H p.1 (p.2.map V.int)) ∧ (∀ p ∈ L, p.2 ≠ []) ∧
  ∀ (L' : List (Addr × List Int)) (p : Addr), L'.Perm L → (L'.map (·.2)).Nodup → H p = none → Q (.ref p) (upd H p (.lst (L'.map fun q => V.ref q.1)))
section
variable {X : Cx}
theorem cr_setFew (hc : X.calm = true) (hu : X.A.units + 64 < cLine) : CallR X (.type "set") (rSetFew X.K X.prog X.w) := by
  intro pins s σ H xs us Q I r h
  obtain ⟨l, ks, rfl, hl, hk, hf, q⟩ := h
  rw [Vals.ref1 r]
  obtain ⟨its, rv, pl, hz⟩ := I.list hl
  have hn : H s.heap.objs.size = none := I.hok.fresh (Nat.le_refl _)
  refine call_set_few (P := X.prog) (w := X.w) ks (I.ok.hd hc) pl.isList (by simpa using refs_of_vals rv) (fun p hp => I.isT (hk p hp)) hf (by omega) fun h' tk L es ep t R g k => ?_
  exact ⟨.ref s.heap.objs.size, upd H s.heap.objs.size (SetTO X.prog X.w s.heap.objs.size L), I.laid (t' := tk) k (Nat.le_refl _) (setTO_new R.t0), rfl, q _ L hn (fun p hp => List.mem_of_mem_take (g.sub p hp)) fun p hp => g.all p (by rw [List.take_length]; exact hp)⟩
theorem cr_sortN (hc : X.calm = true) (hu : X.A.units + 64 < cLine) : CallR X (.builtin "sorted") (rSortN X.K X.prog X.w) := by
  intro pins s σ H vs us Q I r h
  obtain ⟨a, L, rfl, ha, hk, hne, q⟩ := h
  have R0 : SetT0 X.prog X.w s.heap a L := (I.hok a _ ha).1
  obtain ⟨es, ep, t, R⟩ := R0.full fun p hp => I.isT (hk p hp)
  rw [Vals.ref1 r]
  refine sorted_setN R (I.ok.hd hc) hu hne fun s' p out c L' k g o hp hg hout pm => ?_
  have hfew : L'.length < 64 := by rw [pm.length_eq]; exact R.few
  have hlen : (L'.map fun q => V.ref q.1).length ≤ sizeLine := by rw [List.length_map, sizeLine_eq]; omega
  have hn : H p = none := I.hok.fresh hp
  have hv : Vals (L'.map fun q => V.ref q.1) out.toList := by rw [hout]; exact vals_of_refs L'
  have J : Inv X pins σ (upd H p (.lst (L'.map fun q => V.ref q.1))) { s with heap := s'.heap, gens := s'.gens, drawn := s'.drawn, toks := s'.toks } :=
    I.call (ch := []) (Un.laid k hp hn) (I.hok.laid k hp ⟨hlen, out.toList, c, hv, hg⟩) (by rw [g]; exact I.bare) (fun _ z => nomatch z)
  have e : s' = { s with heap := s'.heap, gens := s'.gens, drawn := s'.drawn, toks := s'.toks } := by
    cases s'
    cases s
    cases o
    rfl
  rw [e]
  exact ⟨.ref p, _, J, rfl, q L' p pm ((pm.map (·.2)).nodup_iff.mpr R.nd) hn⟩
end
/-! ### at the level of data -/
def prL (h : Sta) : List Int := [h.1, h.2]
theorem prL_inj {a b : Sta} (h : prL a = prL b) : a = b := by
  unfold prL at h
  injection h with h1 h
  injection h with h2 _
  exact Prod.ext h1 h2
def FewS (ss : List Sta) : Prop := ∀ ts : List Sta, ts.Nodup → (∀ h ∈ ts, h ∈ ss) → ts.length + 1 < 64
def mSet (Pg : Program) (w : World) (K : PySem.W.Frag) (a : Addr) (ss : List Sta) : MO :=
  ⟨fun G o => ∃ L, o = SetTO Pg w a L ∧ (∀ p ∈ L, SqT K G p.1 (p.2.map V.int)) ∧ (∀ p ∈ L, ∃ h ∈ ss, p.2 = prL h) ∧ ∀ h ∈ ss, prL h ∈ L.map (fun p : Addr × List Int => p.2), fun s ⟨L, e, h1, h2⟩ => ⟨L, e, fun p hp => same_t s (h1 p hp), h2⟩⟩
theorem sta_rows {K : PySem.W.Frag} {G : Hp} : ∀ {vs : List V} {ss : List Sta}, RpAll K G vs (ss.map staD) → ∃ ks : List (Addr × List Int), vs = ks.map (fun p => V.ref p.1) ∧ ks.map (·.2) = ss.map prL ∧ ∀ p ∈ ks, SqT K G p.1 (p.2.map V.int)
  | _, [], h => by cases h; exact ⟨[], rfl, rfl, fun p hp => by cases hp⟩
  | _, x :: ss, h => by
    cases h with
    | cons h1 h2 =>
      obtain ⟨ks, e1, e2, e3⟩ := sta_rows h2
      cases (show Rp K G _ (.tuple [.int x.1, .int x.2]) from h1) with
      | @tup b bs _ hb hra =>
        have e := RpAll.ints (ns := [x.1, x.2]) hra
        subst e
        exact ⟨(b, [x.1, x.2]) :: ks, by rw [e1]; rfl, by rw [List.map_cons, e2]; rfl, fun p hp => by
          rcases List.mem_cons.mp hp with rfl | hp
          · exact hb
          · exact e3 p hp⟩
theorem map_prL : ∀ {l : List (List Int)} {ss : List Sta}, (∀ x ∈ l, ∃ h ∈ ss, x = prL h) → ∃ ts : List Sta, l = ts.map prL ∧ ∀ h ∈ ts, h ∈ ss
  | [], _, _ => ⟨[], rfl, fun h hh => by cases hh⟩
  | x :: l, ss, h => by
    obtain ⟨a, ha, e⟩ := h x List.mem_cons_self
    obtain ⟨ts, e1, h1⟩ := map_prL fun y hy => h y (List.mem_cons_of_mem _ hy)
    exact ⟨a :: ts, by rw [e, e1]; rfl, fun z hz => by
      rcases List.mem_cons.mp hz with rfl | hz
      · exact ha
      · exact h1 z hz⟩
theorem nodup_prL {ts : List Sta} : (ts.map prL).Nodup ↔ ts.Nodup := by
  unfold List.Nodup
  rw [List.pairwise_map]
  exact ⟨fun h => h.imp fun n e => n (by rw [e]), fun h => h.imp fun n e => n (prL_inj e)⟩
theorem few_of {ks : List (Addr × List Int)} {ss : List Sta} (e : ks.map (·.2) = ss.map prL) (f : FewS ss) : Few ks := fun L nd hL => by
  obtain ⟨ts, e1, h1⟩ := map_prL (l := L.map (·.2)) (ss := ss) fun x hx => by
    obtain ⟨p, hp, rfl⟩ := List.mem_map.mp hx
    have : p.2 ∈ ks.map (·.2) := List.mem_map.mpr ⟨p, hL p hp, rfl⟩
    rw [e] at this
    obtain ⟨h, hh, e2⟩ := List.mem_map.mp this
    exact ⟨h, hh, e2.symm⟩
  have h2 := f ts (nodup_prL.mp (e1 ▸ nd)) h1
  have h3 := congrArg List.length e1
  rw [List.length_map, List.length_map] at h3
  omega
section
variable {Pg : Program} {w : World} {K : PySem.W.Frag} {M : Mem} {P : W → Mem → Prop}
theorem cx_setF {ss : List Sta} (f : FewS ss) (h : ∀ a, P (.v (.ref a)) ((a, mSet Pg w K a ss) :: M)) : CX K (rSetFew K Pg w) [.d (.list (ss.map staD))] M P := fun vs G H Q s m r q => by
  cases r with
  | cons r1 r2 =>
    cases r2
    cases (show Rp K G _ (.list (ss.map staD)) from r1) with
    | @lst a as _ ha hra =>
      obtain ⟨ks, e1, e2, e3⟩ := sta_rows hra
      subst e1
      refine ⟨a, ks, rfl, SqL.of (s _ _ ha), fun p hp => same_t s (e3 p hp), few_of e2 f, fun b L hb h1 h2 => ?_⟩
      refine q _ G _ _ _ (h b) (Same.refl G) (same_mut s (s.free hb)) (m.push s hb ⟨L, rfl, fun p hp => e3 p (h1 p hp), fun p hp => ?_, fun x hx => ?_⟩) rfl
      · have : p.2 ∈ ks.map (·.2) := List.mem_map.mpr ⟨p, h1 p hp, rfl⟩
        rw [e2] at this
        obtain ⟨x, hx, e4⟩ := List.mem_map.mp this
        exact ⟨x, hx, e4.symm⟩
      · have : prL x ∈ ks.map (·.2) := by rw [e2]; exact List.mem_map.mpr ⟨x, hx, rfl⟩
        obtain ⟨p, hp, e4⟩ := List.mem_map.mp this
        rw [← e4]
        exact h2 p hp
theorem cx_sortN {a : Addr} {ss : List Sta} (h : ∀ ts : List Sta, ts.Nodup → (∀ x, x ∈ ts ↔ x ∈ ss) → P (.d (.list (ts.map staD))) M) : CX K (rSortN K Pg w) [.v (.ref a)] ((a, mSet Pg w K a ss) :: M) P := fun vs G H Q s m r q => by
  cases r with
  | cons r1 r2 =>
    cases r2
    have e0 := (show _ = V.ref a from r1)
    subst e0
    obtain ⟨g, o, ho, L, eo, h1, h2, h3⟩ := m.head
    subst eo
    refine ⟨a, L, rfl, ho, fun p hp => same_t s (h1 p hp), fun p hp => ?_, fun L' p pm nd hp => ?_⟩
    · obtain ⟨x, _, e⟩ := h2 p hp
      rw [e]
      unfold prL
      simp
    · obtain ⟨ts, e1, k1⟩ := map_prL (l := L'.map (·.2)) (ss := ss) fun x hx => by
        obtain ⟨q1, hq1, rfl⟩ := List.mem_map.mp hx
        exact h2 q1 (pm.mem_iff.mp hq1)
      have hts : ts.Nodup := nodup_prL.mp (e1 ▸ nd)
      have hmem : ∀ x, x ∈ ts ↔ x ∈ ss := fun x => ⟨k1 x, fun hx => by
        have h4 : prL x ∈ L'.map (·.2) := (pm.map (·.2)).mem_iff.mpr (h3 x hx)
        rw [e1] at h4
        obtain ⟨y, hy, e5⟩ := List.mem_map.mp h4
        rw [← prL_inj e5]
        exact hy⟩
      have rows : ∀ {L' : List (Addr × List Int)} {ts : List Sta}, (∀ q ∈ L', SqT K G q.1 (q.2.map V.int)) → L'.map (·.2) = ts.map prL → RpAll K G (L'.map fun q => V.ref q.1) (ts.map staD) := by
        intro L' 
        induction L' with
        | nil =>
          intro ts _ e
          cases ts with
          | nil => exact .nil
          | cons x y => cases e
        | cons q L' ih =>
          intro ts hq e
          cases ts with
          | nil => cases e
          | cons x y =>
            injection e with e2 e3
            have h5 := hq q List.mem_cons_self
            have e2' : q.2 = prL x := e2
            rw [e2'] at h5
            exact .cons (.tup h5 (RpAll.of_ints [x.1, x.2])) (ih (fun z hz => hq z (List.mem_cons_of_mem _ hz)) e3)
      have rr := rows (L' := L') (ts := ts) (fun z hz => h1 z (pm.mem_iff.mp hz)) e1
      have sn := same_new (o := .lst (L'.map fun q => V.ref q.1)) (s.free hp)
      exact q _ (upd G p (.lst (L'.map fun q => V.ref q.1))) _ _ M (h ts hts hmem) sn (same_upd2 s) (m.tail.new s hp) (.lst upd_same (RpAll.mono sn _ _ rr))
end
end CD
/-! CDBound: how many states may follow a lot's. -/
namespace CM
open PySem
def dd : List Sta → List Sta
  | [] => []
  | x :: l => if x ∈ dd l then dd l else x :: dd l
theorem mem_dd {x : Sta} : ∀ {l : List Sta}, x ∈ l → x ∈ dd l
  | y :: l, h => by
    unfold dd
    split
    · rename_i c
      rcases List.mem_cons.mp h with rfl | h
      · exact c
      · exact mem_dd h
    · rcases List.mem_cons.mp h with rfl | h
      · exact List.mem_cons_self
      · exact List.mem_cons_of_mem _ (mem_dd h)
/-- what is handed on at the error e, the shares s1 and s2 of dv -/
def hand2 (dv s1 s2 e : Int) : Int × Int := ((if s1 + s2 = dv then e - part e s2 dv else part e s1 dv), part e s2 dv)
def errs : List Int := [-4, -3, -2, -1, 0, 1, 2, 3, 4]
def nextAll (dv s1 s2 : Int) : List Sta := (errs.filter fun b => decide (-(4 * s2 / dv) ≤ b ∧ b ≤ 4 * s2 / dv)).flatMap fun b => errs.map fun e => (b + (hand2 dv s1 s2 e).1, (hand2 dv s1 s2 e).2)
def ns : List Int := [0, 1, 2, 3, 4, 5, 6, 7, 8]
theorem all_small : (ns.all fun dv => ns.all fun s1 => ns.all fun s2 => decide (dv = 0) || decide (dv < s1 + s2) || decide (s2 = dv) || decide ((dd (nextAll dv s1 s2)).length ≤ 51)) = true := by decide +kernel
theorem mem_errs {e : Int} (h : -4 ≤ e ∧ e ≤ 4) : e ∈ errs := by
  unfold errs
  simp
  omega
theorem mem_ns {e : Int} (h : 0 ≤ e ∧ e ≤ 8) : e ∈ ns := by
  unfold ns
  simp
  omega
theorem few_small {dv s1 s2 : Int} (h1 : 1 ≤ dv ∧ dv ≤ 8) (h2 : 0 ≤ s1) (h3 : 0 ≤ s2) (h4 : s1 + s2 ≤ dv) (h5 : s2 ≠ dv) : (dd (nextAll dv s1 s2)).length ≤ 51 := by
  have a := List.all_eq_true.mp all_small dv (mem_ns (by omega))
  have b := List.all_eq_true.mp a s1 (mem_ns (by omega))
  have c := List.all_eq_true.mp b s2 (mem_ns (by omega))
  simp only [Bool.or_eq_true, decide_eq_true_eq] at c
  omega
def sh2 (d : Di) : Int := d.shares.getD 1 0
theorem part_zero (e dv : Int) : part e 0 dv = 0 := by
  unfold part
  rw [Int.mul_zero, Int.zero_ediv]
  split <;> rfl
theorem nxt_hand {d : Di} (ok : d.Ok) (h : Sta) (s : Int) : nxt d h s = (h.2 + (hand2 d.dv (d.shares.getD 0 0) (sh2 d) (err d h s)).1, (hand2 d.dv (d.shares.getD 0 0) (sh2 d) (err d h s)).2) := by
  unfold nxt hand2 sh2
  generalize err d h s = e
  rcases shares_cases ok with ⟨a, es, _, _⟩ | ⟨a, b, es, _, _, _⟩
  · have el : later d e = 0 := by unfold later; rw [es]; simp
    have ex : d.exact = decide (a + 0 = d.dv) := by unfold Di.exact; rw [es]; simp
    unfold first
    rw [el, ex, es]
    simp only [List.getD_cons_zero, List.getD_cons_succ, List.getD_nil, part_zero, decide_eq_true_eq]
  · have el : later d e = part e b d.dv := by unfold later; rw [es]; simp
    have ex : d.exact = decide (a + b = d.dv) := by unfold Di.exact; rw [es]; simp
    unfold first
    rw [el, ex, es]
    simp only [List.getD_cons_zero, List.getD_cons_succ, decide_eq_true_eq]
/-- fewer than 63 states follow a lot's, whatever the outputs -/
def Sm (d : Di) (L : List Sta) : Prop := ∀ ts : List Sta, ts.Nodup → (∀ h ∈ ts, ∃ g ∈ L, ∃ s, (0 ≤ s ∧ s ≤ d.top) ∧ nxt d g s = h) → ts.length + 1 < 64
theorem sm_ne {d : Di} (ok : d.Ok) (h : sh2 d ≠ d.dv) {L : List Sta} (hL : ∀ g ∈ L, StOk d g) : Sm d L := by
  intro ts nd ht
  have hd := ok.dv
  have hm : m2 d = 4 * sh2 d / d.dv ∧ 0 ≤ sh2 d ∧ 0 ≤ d.shares.getD 0 0 ∧ d.shares.getD 0 0 + sh2 d ≤ d.dv := by
    unfold m2 sh2
    rcases shares_cases ok with ⟨a, es, _, _⟩ | ⟨a, b, es, _, _, _⟩
    · rw [es]
      simp
      omega
    · rw [es]
      simp
      omega
  have hf := few_small hd hm.2.2.1 hm.2.1 hm.2.2.2 h
  have hle := nodup_le ts (dd (nextAll d.dv (d.shares.getD 0 0) (sh2 d))) nd fun x hx => by
    obtain ⟨g, hg, s, hs, rfl⟩ := ht x hx
    have sg := hL g hg
    have he := (nxt_ok ok sg hs).1
    have hb := sg.b
    have hmn := m2_nn ok
    refine mem_dd ?_
    rw [nxt_hand ok]
    unfold nextAll
    refine List.mem_flatMap.mpr ⟨g.2, List.mem_filter.mpr ⟨mem_errs (by omega), ?_⟩, List.mem_map.mpr ⟨err d g s, mem_errs he, rfl⟩⟩
    rw [decide_eq_true_eq, ← hm.1]
    exact hb
  omega
theorem part_all {e dv : Int} (h : 1 ≤ dv) : part e dv dv = e := by
  unfold part
  rw [Int.mul_ediv_cancel _ (by omega)]
  unfold iabs
  split
  · split <;> omega
  · split <;> omega
theorem nxt_eq {d : Di} (ok : d.Ok) (h : sh2 d = d.dv) (g : Sta) (s : Int) : nxt d g s = (g.2, err d g s) := by
  have hd := ok.dv
  have h0 : d.shares.getD 0 0 = 0 := by
    unfold sh2 at h
    rcases shares_cases ok with ⟨a, es, _, _⟩ | ⟨a, b, es, _, _, _⟩
    · rw [es] at h
      simp at h
      omega
    · rw [es] at h ⊢
      simp at h ⊢
      omega
  rw [nxt_hand ok, h0, h]
  unfold hand2
  rw [part_all hd.1, if_pos (by omega)]
  rw [Int.sub_self, Int.add_zero]
theorem near_span {d : Di} (ok : d.Ok) {s o : Int} (hs : 0 ≤ s ∧ s ≤ d.top) (h : nearest d s = o) : (o + 1) / 2 ≤ s ∧ s ≤ (o + 1) / 2 + 4 := by
  obtain ⟨hm, hn⟩ := nearest_spec ok s
  rw [h] at hm hn
  have h1 := hn _ (mem_zero ok)
  have h2 := hn _ (mem_top ok)
  have hr := ok.rng o hm
  have ht := ok.top
  unfold iabs at h1 h2
  split at h1 <;> split at h1 <;> split at h2 <;> split at h2 <;> omega
/-- a lot at depth k -/
structure LotP (d : Di) (k : Nat) (L : List Sta) : Prop where
  st : ∀ h ∈ L, StOk d h
  ne : L ≠ []
  zero : k = 0 → ∀ h ∈ L, h = (0, 0)
  one : sh2 d = d.dv → k ≤ 1 → ∀ h ∈ L, h.1 = 0
  two : sh2 d = d.dv → k ≤ 2 → ∃ B : List Int, B.length ≤ 5 ∧ ∀ h ∈ L, h.2 ∈ B
theorem lot_start {d : Di} (ok : d.Ok) : LotP d 0 [(0, 0)] where
  st := fun h hh => by rw [List.mem_singleton.mp hh]; exact start_ok ok
  ne := by simp
  zero := fun _ h hh => List.mem_singleton.mp hh
  one := fun _ _ h hh => by rw [List.mem_singleton.mp hh]
  two := fun _ _ => ⟨[0], by simp, fun h hh => by rw [List.mem_singleton.mp hh]; simp⟩
theorem lot_next {d : Di} (ok : d.Ok) {k : Nat} {L L' : List Sta} (P : LotP d k L) {o : Int} (hne : L' ≠ []) (h : ∀ x ∈ L', ∃ g ∈ L, ∃ s, (0 ≤ s ∧ s ≤ d.top) ∧ out d g s = o ∧ nxt d g s = x) : LotP d (k + 1) L' where
  st := fun x hx => by
    obtain ⟨g, hg, s, hs, _, rfl⟩ := h x hx
    exact (nxt_ok ok (P.st g hg) hs).2
  ne := hne
  zero := fun z => by omega
  one := fun he hk x hx => by
    obtain ⟨g, hg, s, hs, _, rfl⟩ := h x hx
    rw [nxt_eq ok he, P.zero (by omega) g hg]
  two := fun he hk => by
    refine ⟨[0, 1, 2, 3, 4].map fun i => (o + 1) / 2 + i - o, by simp, fun x hx => ?_⟩
    obtain ⟨g, hg, s, hs, ho, rfl⟩ := h x hx
    have h1 := P.one he (by omega) g hg
    rw [nxt_eq ok he]
    have hn : nearest d s = o := by
      have : nearest d (s + g.1) = o := ho
      rwa [h1, Int.add_zero] at this
    have sp := near_span ok hs hn
    have ee : err d g s = s - o := by
      unfold err
      rw [ho, h1, Int.add_zero]
    show err d g s ∈ _
    rw [ee]
    simp
    omega
theorem lot_sm {d : Di} (ok : d.Ok) {k : Nat} {L : List Sta} (P : LotP d k L) (hk : k ≤ 2) : Sm d L := by
  by_cases he : sh2 d = d.dv
  · obtain ⟨B, hB, hm⟩ := P.two he hk
    intro ts nd ht
    have hle := nodup_le ts (B.flatMap fun b => errs.map fun e => (b, e)) nd fun x hx => by
      obtain ⟨g, hg, s, hs, rfl⟩ := ht x hx
      rw [nxt_eq ok he]
      exact List.mem_flatMap.mpr ⟨g.2, hm g hg, List.mem_map.mpr ⟨err d g s, mem_errs (nxt_ok ok (P.st g hg) hs).1, rfl⟩⟩
    have hl : (B.flatMap fun b => errs.map fun e => (b, e)).length = B.length * 9 := by
      rw [List.length_flatMap]
      simp only [List.length_map]
      exact sum_const _ _
    omega
  · exact sm_ne ok he P.st
end CM
/-! CDDictI: dicts whose keys are ints, at the level of data. -/
namespace CD
open PySem PySem.Spec PyProof.Rows L2 CM
theorem bt_set : bootBuiltins "set" = some (.type "set") := by decide +kernel
theorem bt_sorted : bootBuiltins "sorted" = some (.builtin "sorted") := by decide +kernel
theorem bt_enumerate : bootBuiltins "enumerate" = some (.type "enumerate") := by decide +kernel
def IRel (K : PySem.W.Frag) (G : Hp) (xs : List (Key × V)) (kvs : List (Int × PyData)) : Prop := Paired (fun (p : Key × V) (q : Int × PyData) => p.1 = Sum.inl q.1 ∧ Rp K G p.2 q.2) xs kvs
theorem IRel.mono {K : PySem.W.Frag} {G G' : Hp} (s : Same G G') {xs : List (Key × V)} {kvs : List (Int × PyData)} (h : IRel K G xs kvs) : IRel K G' xs kvs := Paired.mapP h fun p q z => ⟨z.1, Rp.mono s _ _ z.2⟩
def mDI (K : PySem.W.Frag) (kvs : List (Int × PyData)) : MO := ⟨fun G o => ∃ xs, o = .dK xs ∧ IRel K G xs kvs, fun s ⟨xs, e, h⟩ => ⟨xs, e, h.mono s⟩⟩
def iGet (kvs : List (Int × PyData)) (k : Int) : Option PyData := (kvs.find? fun p => decide (p.1 = k)).map (·.2)
def iPut (kvs : List (Int × PyData)) (k : Int) (v : PyData) : List (Int × PyData) :=
  if (iGet kvs k).isSome then kvs.map (fun p => if p.1 = k then (p.1, v) else p) else kvs ++ [(k, v)]
section
variable {K : PySem.W.Frag} {G H : Hp} {xs : List (Key × V)} {kvs : List (Int × PyData)}
theorem IRel.len (h : IRel K G xs kvs) : xs.length = kvs.length := Paired.length h
theorem IRel.keys (h : IRel K G xs kvs) : xs.map (·.1) = (kvs.map (·.1)).map Sum.inl := by
  unfold IRel at h
  induction h with
  | nil => rfl
  | cons h t ih => rw [List.map_cons, List.map_cons, List.map_cons, ih, h.1]
theorem IRel.val (h : IRel K G xs kvs) (k : Int) : (valV xs (Sum.inl k)).isSome = (iGet kvs k).isSome ∧ ∀ x, iGet kvs k = some x → ∃ v, valV xs (Sum.inl k) = some v ∧ Rp K G v x := by
  unfold IRel at h
  induction h with
  | nil => exact ⟨rfl, fun x e => nomatch e⟩
  | @cons p q _ _ h t ih =>
    obtain ⟨h1, h2⟩ := h
    by_cases e : q.1 = k
    · rw [valV_pos (h1.trans (by rw [e]))]
      unfold iGet
      rw [List.find?_cons, decide_eq_true e]
      exact ⟨rfl, fun x ex => by cases ex; exact ⟨_, rfl, h2⟩⟩
    · rw [valV_neg (fun z => e (Sum.inl.inj (h1.symm.trans z)))]
      unfold iGet at ih ⊢
      rw [List.find?_cons, decide_eq_false e]
      exact ih
theorem IRel.put (h : IRel K G xs kvs) {k : Int} {v : V} {x : PyData} (r : Rp K G v x) : IRel K G (putK xs (Sum.inl k) v) (iPut kvs k x) := by
  unfold putK iPut
  rw [valV_any, (h.val k).1]
  have c1 : IRel K G (xs.map fun p => if p.1 = Sum.inl k then (p.1, v) else p) (kvs.map fun p => if p.1 = k then (p.1, x) else p) := by
    unfold IRel at h ⊢
    induction h with
    | nil => exact .nil
    | @cons p q _ _ h t ih =>
      refine .cons ?_ ih
      obtain ⟨h1, h2⟩ := h
      show (if p.1 = Sum.inl k then (p.1, v) else p).1 = Sum.inl (if q.1 = k then (q.1, x) else q).1 ∧ Rp K G (if p.1 = Sum.inl k then (p.1, v) else p).2 (if q.1 = k then (q.1, x) else q).2
      by_cases e : q.1 = k
      · rw [if_pos (h1.trans (by rw [e])), if_pos e]
        exact ⟨h1, r⟩
      · rw [if_neg (fun z => e (Sum.inl.inj (h1.symm.trans z))), if_neg e]
        exact ⟨h1, h2⟩
  have c2 : IRel K G (xs ++ [(Sum.inl k, v)]) (kvs ++ [(k, x)]) := by
    unfold IRel at h ⊢
    clear c1
    induction h with
    | nil => exact .cons ⟨rfl, r⟩ .nil
    | cons h t ih => exact .cons h ih
  split
  · exact c1
  · exact c2
end
section
variable {K : PySem.W.Frag} {ρ : List W} {M M' : Mem} {P : W → Mem → Prop} {ta tb td ty tx : TE} {E : DE} {u : TS}
theorem tx_dnewI (h : ∀ p, P (.v (.ref p)) ((p, mDI K []) :: M)) : TX K tDNewK ρ M P := fun σ G H Q s e m q => fun p hp =>
  q _ G _ _ _ (h p) (Same.refl G) (same_mut s (s.free hp)) (m.push s hp ⟨[], rfl, .nil⟩) rfl
/-- d[k] -/
theorem tx_getI (h : TX K td ρ M fun wd M1 => ∃ a : Addr, IsRef wd a ∧ TX K ty ρ M1 fun wk M2 => ∃ k kvs x, wk = .d (.int k) ∧ (a, mDI K kvs) ∈ M2 ∧ iGet kvs k = some x ∧ P (.d x) M2) :
    TX K (tDGet td ty) ρ M P := fun σ G H Q s e m q =>
  h σ G H _ s e m fun v1 G1 H1 w1 M1 ⟨a, ed, h1⟩ s1 s1' m1 r1 => h1 σ G1 H1 _ s1' (e.mono s1) m1 fun v2 G2 H2 w2 M2 ⟨k, kvs, x, ek, hm, hg, p⟩ s2 s2' m2 r2 => by
    have e1 := ed.val r1
    subst e1 ek
    cases r2
    obtain ⟨g, o, ho, xs, eo, hx⟩ := m2.mem hm
    subst eo
    obtain ⟨v, hv, rv⟩ := (hx.val k).2 x hg
    exact ⟨a, v, rfl, by rw [← hv]; exact DGet.k (k := Sum.inl k) ho, q _ G2 H2 _ M2 p (s1.trans s2) s2' m2 rv⟩
/-- d.get(k, x) -/
theorem tx_getOrI (h : TX K td ρ M fun wd M1 => ∃ a : Addr, IsRef wd a ∧ (∃ kvs0, (a, mDI K kvs0) ∈ M1) ∧ TX K ty ρ M1 fun wk M2 => ∃ k, wk = .d (.int k) ∧ TX K tx ρ M2 fun wx M3 => ∃ x kvs, wx = .d x ∧ (a, mDI K kvs) ∈ M3 ∧ P (.d ((iGet kvs k).getD x)) M3) :
    TX K (tDGet2 td ty tx) ρ M P := fun σ G H Q s e m q =>
  h σ G H _ s e m fun v1 G1 H1 w1 M1 ⟨a, ed, ⟨kvs0, hm0⟩, h1⟩ s1 s1' m1 r1 => by
    have e1 := ed.val r1
    subst e1
    obtain ⟨_, o0, ho0, xs0, eo0, _⟩ := m1.mem hm0
    subst eo0
    refine ⟨a, rfl, .inl ⟨xs0, .inl ho0⟩, h1 σ G1 H1 _ s1' (e.mono s1) m1 fun v2 G2 H2 w2 M2 ⟨k, ek, h2⟩ s2 s2' m2 r2 => h2 σ G2 H2 _ s2' (e.mono (s1.trans s2)) m2 fun v3 G3 H3 w3 M3 ⟨x, kvs, ex, hm, p⟩ s3 s3' m3 r3 => ?_⟩
    subst ek ex
    cases r2
    obtain ⟨g, o, ho, xs, eo, hx⟩ := m3.mem hm
    subst eo
    refine ⟨valV xs (Sum.inl k), DGet.k (k := Sum.inl k) ho, ?_⟩
    obtain ⟨z1, z2⟩ := hx.val k
    cases c : iGet kvs k with
    | none =>
      rw [c] at z1 p
      have : valV xs (Sum.inl k) = none := by
        cases q1 : valV xs (Sum.inl k) with
        | none => rfl
        | some _ => rw [q1] at z1; cases z1
      rw [this]
      exact q _ G3 H3 _ M3 p ((s1.trans s2).trans s3) s3' m3 r3
    | some y =>
      rw [c] at p
      obtain ⟨v, hv, rv⟩ := z2 y c
      rw [hv]
      exact q _ G3 H3 _ M3 p ((s1.trans s2).trans s3) s3' m3 rv
/-- d[k] = e, the dict at the head of M -/
theorem run_setI {te ti : TE} {a : Addr} {kvs : List (Int × PyData)} {i : Nat} (hl : kvs.length < 100000) (hi : ρ[i]? = some (.v (.ref a))) (h : TX K te ρ ((a, mDI K kvs) :: M) fun wv M1 => ∃ x, wv = .d x ∧ TX K ti ρ M1 fun wk M2 => ∃ k, wk = .d (.int k) ∧ M2 = (a, mDI K kvs) :: M ∧ E.nx ρ ((a, mDI K (iPut kvs k x)) :: M)) :
    Run K (tAsg te (gSub (tVar i) ti rSetD)) E ρ ((a, mDI K kvs) :: M) := fun D σ G H L s e m =>
  h σ G H _ s e m fun v1 G1 H1 w1 M1 ⟨x, ex, h1⟩ s1 s1' m1 r1 => by
    subst ex
    have e1 : σ[i]? = some (some (.ref a)) := e.at_ i _ hi
    refine ⟨.ref a, e1, h1 σ G1 H1 _ s1' (e.mono s1) m1 fun v2 G2 H2 w2 M2 ⟨k, ek, eM, p⟩ s2 s2' m2 r2 => ?_⟩
    subst ek eM
    cases r2
    obtain ⟨g, o, ho, xs, eo, hx⟩ := m2.head
    subst eo
    have hlen := hx.len
    refine ⟨a, _, rfl, DPut.k (k := Sum.inl k) ho (Nat.lt_of_lt_of_le (by omega) (by decide : 100000 ≤ sizeLine)), ?_⟩
    exact L.nx ρ _ G2 _ _ p (s1.trans s2) (same_mut s2' g) (e.mono (s1.trans s2)) (m2.put ⟨_, rfl, hx.put (Rp.mono s2 _ _ r1)⟩)
/-- sorted(d) -/
abbrev rSortDI : List V → Hp → VK → Prop := fun xs H Q => ∃ (a : Addr) (kvs : List (Key × V)) (ks : List Int), xs = [.ref a] ∧ Rd H a (.dK kvs) ∧ kvs.map (·.1) = ks.map Sum.inl ∧ ks.length < 64 ∧
    ∀ (ys : List Int) (p : Addr), ys.Perm ks → ys.Pairwise (· ≤ ·) → H p = none → Q (.ref p) (upd H p (.lst (ys.map V.int)))
theorem cx_sortDI {wd : W} {a : Addr} {kvs : List (Int × PyData)} (ed : IsRef wd a) (hm : (a, mDI K kvs) ∈ M) (hl : kvs.length < 64) (h : ∀ ys : List Int, ys.Perm (kvs.map (·.1)) → ys.Pairwise (· ≤ ·) → P (.d (.list (ys.map PyData.int))) M) : CX K rSortDI [wd] M P := fun vs G H Q s m r q => by
  cases r with
  | cons r1 r2 =>
    cases r2
    have e1 := ed.val r1
    subst e1
    obtain ⟨g, o, ho, xs, eo, hx⟩ := m.mem hm
    subst eo
    refine ⟨a, xs, kvs.map (·.1), rfl, .inl ho, hx.keys, by rw [List.length_map]; exact hl, fun ys p h1 h2 hp => ?_⟩
    exact q _ _ _ _ M (h ys h1 h2) (same_new (s.free hp)) (same_upd2 s) (m.new s hp) (.lst upd_same (RpAll.of_ints ys))
end
end CD
/-! CDObj: instances with fields, dicts of which it is told that all entries are right, comprehensions that change what may change. -/
namespace CD
open PySem PySem.Spec PyProof.Rows L2 CM
def FRel (K : PySem.W.Frag) (G : Hp) (fs : List (Str × V)) (fw : List (Str × W)) : Prop := Paired (fun (p : Str × V) (q : Str × W) => p.1 = q.1 ∧ RepW K G p.2 q.2) fs fw
theorem FRel.mono {K : PySem.W.Frag} {G G' : Hp} (s : Same G G') {fs : List (Str × V)} {fw : List (Str × W)} (h : FRel K G fs fw) : FRel K G' fs fw := Paired.mapP h fun p q z => ⟨z.1, z.2.mono s⟩
def mIns (K : PySem.W.Frag) (C : Addr) (fw : List (Str × W)) : MO := ⟨fun G o => ∃ dx fs, o = .ins C dx fs ∧ FRel K G fs fw, fun s ⟨dx, fs, e, h⟩ => ⟨dx, fs, e, h.mono s⟩⟩
def pF (f : Str) (v : W) : List (Str × W) → List (Str × W)
  | [] => [(f, v)]
  | (g, x) :: r => if g = f then (g, v) :: r else (g, x) :: pF f v r
section
variable {K : PySem.W.Frag} {G : Hp}
theorem FRel.put {fs : List (Str × V)} {fw : List (Str × W)} (h : FRel K G fs fw) {f : Str} {y : V} {z : W} (r : RepW K G y z) : FRel K G (putF f y fs) (pF f z fw) := by
  unfold FRel at h ⊢
  induction h with
  | nil => exact .cons ⟨rfl, r⟩ .nil
  | @cons p q _ _ h t ih =>
    obtain ⟨g, x⟩ := p
    obtain ⟨g', x'⟩ := q
    obtain ⟨h1, h2⟩ := h
    have h1' : g = g' := h1
    subst h1'
    unfold putF pF
    by_cases e : g = f
    · rw [if_pos e, if_pos e]
      exact .cons ⟨rfl, r⟩ t
    · rw [if_neg e, if_neg e]
      exact .cons ⟨rfl, h2⟩ ih
theorem FRel.look {fs : List (Str × V)} {fw : List (Str × W)} (h : FRel K G fs fw) (f : Str) : (fw.lookup f = none → fs.lookup f = none) ∧ ∀ z, fw.lookup f = some z → ∃ v, fs.lookup f = some v ∧ RepW K G v z := by
  unfold FRel at h
  induction h with
  | nil => exact ⟨fun _ => rfl, fun z e => by cases e⟩
  | @cons p q _ _ h t ih =>
    obtain ⟨g, x⟩ := p
    obtain ⟨g', x'⟩ := q
    obtain ⟨h1, h2⟩ := h
    have h1' : g = g' := h1
    subst h1'
    rw [List.lookup_cons, List.lookup_cons]
    cases c : f == g with
    | true => exact ⟨fun e => (by cases e), fun z e => by cases e; exact ⟨x, rfl, h2⟩⟩
    | false => exact ih
theorem FRel.len {fs : List (Str × V)} {fw : List (Str × W)} (h : FRel K G fs fw) : fs.length = fw.length := Paired.length h
end
section
variable {K : PySem.W.Frag} {ρ : List W} {M M' : Mem} {P : W → Mem → Prop} {ta tb td ty tx : TE} {E : DE} {u : TS}
/-- o.f, o in a slot -/
theorem tx_fld {i : Nat} {p C : Addr} {f : Str} {fw : List (Str × W)} {x : W} (cl : Cls K C) (na : NoAttr K C f) (hi : ρ[i]? = some (.v (.ref p))) (hm : (p, mIns K C fw) ∈ M) (hf : fw.lookup f = some x) (h : P x M) : TX K (tFld K (tVar i) f) ρ M P := fun σ G H Q s e m q => by
  have e1 : σ[i]? = some (some (.ref p)) := e.at_ i _ hi
  obtain ⟨g, o, ho, dx, fs, eo, hr⟩ := m.mem hm
  subst eo
  obtain ⟨v, hv, rv⟩ := (hr.look f).2 x hf
  exact ⟨.ref p, e1, p, C, dx, fs, v, rfl, ho, cl, na, hv, q v G H x M h (Same.refl G) s m rv⟩
/-- o.f = e, o at the head of M -/
theorem run_sfld {tv : TE} {i : Nat} {p C : Addr} {f : Str} {fw : List (Str × W)} (cl : Cls K C) (na : NoAttr K C f) (hl : fw.length < 100) (hi : ρ[i]? = some (.v (.ref p))) (h : TX K tv ρ ((p, mIns K C fw) :: M) fun wv M1 => ∃ M2, MemLe M1 ((p, mIns K C fw) :: M2) ∧ E.nx ρ ((p, mIns K C (pF f wv fw)) :: M2)) :
    Run K (sFld K (tVar i) tv f) E ρ ((p, mIns K C fw) :: M) := fun D σ G H L s e m =>
  h σ G H _ s e m fun v1 G1 H1 w1 M1 ⟨M2, hle, p1⟩ s1 s1' m1 r1 => by
    have e1 : σ[i]? = some (some (.ref p)) := e.at_ i _ hi
    have m2 := hle _ _ m1
    obtain ⟨g, o, ho, dx, fs, eo, hr⟩ := m2.head
    subst eo
    have hln := hr.len
    refine ⟨.ref p, e1, p, C, dx, fs, rfl, ho, cl, na, by omega, ?_⟩
    exact L.nx ρ _ G1 _ _ p1 s1 (same_mut s1' g) (e.mono s1) (m2.put ⟨dx, _, rfl, hr.put r1⟩)
theorem q_sfld {tv : TE} {i : Nat} {p C : Addr} {f : Str} {fw : List (Str × W)} (cl : Cls K C) (na : NoAttr K C f) (hl : fw.length < 100) (hi : ρ[i]? = some (.v (.ref p))) (h : TX K tv ρ ((p, mIns K C fw) :: M) fun wv M1 => ∃ M2, MemLe M1 ((p, mIns K C fw) :: M2) ∧ Run K u E ρ ((p, mIns K C (pF f wv fw)) :: M2)) :
    Run K (tSeq (sFld K (tVar i) tv f) u) E ρ ((p, mIns K C fw) :: M) := run_seq (run_sfld cl na hl hi h)
/-- C(..) -/
theorem tx_make {C : Addr} {R : List W → Mem → (W → Mem → Prop) → Prop} {E : XK} {t : TA} (h : AX K t ρ M fun ws M1 => ∀ p, R (.v (.ref p) :: ws) ((p, mIns K C []) :: M1) fun w M2 => w = .d .none ∧ P (.v (.ref p)) M2) : TX K (tMake C (FnP K R) [] E t) ρ M P := fun σ G H Q s e m q =>
  h σ G H _ s e m fun vs G1 H1 ws M1 hR s1 s1' m1 r1 => fun x dx hx hdx nx => by
    have s2 : Same G1 (upd H1 dx (.own x)) := same_mut s1' (s1'.free hdx)
    have hx2 : upd H1 dx (.own x) x = none := by rw [upd_ne nx.symm]; exact hx
    have m2 := (m1.new' (o := .own x) hdx).push (m := mIns K C []) (o := .ins C dx []) s2 hx2 ⟨dx, [], rfl, .nil⟩
    show FnP K R (.ref x :: (vs ++ [])) _ _ E
    rw [List.append_nil]
    refine ⟨G1, _, .v (.ref x) :: ws, _, same_mut s2 (s1'.free hx), m2, .cons rfl r1, hR x, fun v G' H' w M' ⟨e1, p⟩ a b c d => ?_⟩
    subst e1
    cases d
    exact ⟨rfl, q _ G' H' _ M' p (s1.trans a) b c rfl⟩
/-- o.m(..) -/
theorem tx_meth {C : Addr} {mn : Str} {R : List W → Mem → (W → Mem → Prop) → Prop} {E : XK} {t : TA} (h : TX K ta ρ M fun wa M1 => ∃ p fw, wa = .v (.ref p) ∧ (p, mIns K C fw) ∈ M1 ∧ fw.lookup mn = none ∧ AX K t ρ M1 fun ws M2 => R (.v (.ref p) :: ws) M2 P) : TX K (tMeth C mn (FnP K R) [] E ta t) ρ M P := fun σ G H Q s e m q =>
  h σ G H _ s e m fun v1 G1 H1 w1 M1 ⟨p, fw, ew, hm, hl, h1⟩ s1 s1' m1 r1 => by
    subst ew
    have e2 : v1 = .ref p := r1
    subst e2
    obtain ⟨g, o, ho, dx, fs, eo, hr⟩ := m1.mem hm
    subst eo
    refine ⟨p, dx, fs, rfl, ho, (hr.look mn).1 hl, h1 σ G1 H1 _ s1' (e.mono s1) m1 fun vs G2 H2 ws M2 hR s2 s2' m2 r2 => ?_⟩
    show FnP K R (.ref p :: (vs ++ [])) _ _ E
    rw [List.append_nil]
    exact ⟨G2, M2, .v (.ref p) :: ws, P, s2', m2, .cons rfl r2, hR, fun v G' H' w M' pp a b c d => q v G' H' w M' pp ((s1.trans s2).trans a) b c d⟩
end
/-! ### dicts all of whose entries are right -/
def mAll (Pg : Program) (w : World) (K : PySem.W.Frag) (a : Addr) (B : Nat) (Q : NestedKey → PyData → Prop) : MO where
  φ := fun G o => ∃ kvs : List (NestedKey × PyData), kvs.length ≤ B ∧ (∀ p ∈ kvs, Q p.1 p.2) ∧ (mDict Pg w K a kvs).φ G o
  mono := fun s h => by
    obtain ⟨kvs, h1, h2, h3⟩ := h
    exact ⟨kvs, h1, h2, (mDict Pg w K a kvs).mono s h3⟩
theorem mem_weak {a : Addr} {m m' : MO} (h : ∀ G o, m.φ G o → m'.φ G o) (L R : Mem) : MemLe (L ++ (a, m) :: R) (L ++ (a, m') :: R) := fun G H z => by
  refine ⟨by simpa using z.nd, fun q hq => ?_⟩
  rcases List.mem_append.mp hq with hq | hq
  · exact z.at_ q (List.mem_append_left _ hq)
  · rcases List.mem_cons.mp hq with rfl | hq
    · obtain ⟨g, o, ho, hφ⟩ := z.at_ (a, m) (List.mem_append_right _ List.mem_cons_self)
      exact ⟨g, o, ho, h _ _ hφ⟩
    · exact z.at_ q (List.mem_append_right _ (List.mem_cons_of_mem _ hq))
theorem MemLe.trans {M1 M2 M3 : Mem} (h : MemLe M1 M2) (k : MemLe M2 M3) : MemLe M1 M3 := fun G H m => k G H (h G H m)
theorem MemLe.rfl {M : Mem} : MemLe M M := fun G H m => m
section
variable {Pg : Program} {w : World} {K : PySem.W.Frag} {ρ : List W} {M M' : Mem} {P : W → Mem → Prop} {E : DE} {u : TS} {a : Addr} {B : Nat} {Qk : NestedKey → PyData → Prop}
theorem mem_close {kvs : List (NestedKey × PyData)} (hl : kvs.length ≤ B) (hq : ∀ p ∈ kvs, Qk p.1 p.2) : MemLe ((a, mDict Pg w K a kvs) :: M) ((a, mAll Pg w K a B Qk) :: M) := mem_weak (m := mDict Pg w K a kvs) (m' := mAll Pg w K a B Qk) (fun G o h => ⟨kvs, hl, hq, h⟩) [] M
theorem run_open (h : ∀ kvs : List (NestedKey × PyData), kvs.length ≤ B → (∀ p ∈ kvs, Qk p.1 p.2) → Run K u E ρ ((a, mDict Pg w K a kvs) :: M)) : Run K u E ρ ((a, mAll Pg w K a B Qk) :: M) := fun D σ G H L s e m => by
  obtain ⟨g, o, ho, kvs, h1, h2, h3⟩ := m.head
  refine h kvs h1 h2 D σ G H L s e ⟨m.nd, fun q hq => ?_⟩
  rcases List.mem_cons.mp hq with rfl | hq
  · exact ⟨g, o, ho, h3⟩
  · exact m.at_ q (List.mem_cons_of_mem _ hq)
end
section
variable {K : PySem.W.Frag} {ρ : List W} {M M' : Mem} {P : W → Mem → Prop} {te : TE} {wi : TI} {g : TG} {tt : TT}
/-- THE RULE for a list comprehension whose turns change what may change -/
theorem tx_lcI {vs : List Nat} (h : IX K wi ρ M fun ds M1 => ∃ (Mi : Nat → Mem) (C : Nat → Bool → Prop) (Vl : Nat → PyData → Prop), M1 = Mi 0 ∧ ds.length ≤ 50000 ∧
    (∀ (i : Nat) (x : PyData) (F : Mem), ds[i]? = some x → ∃ ρ2 is, GX K g x (wipeW ρ vs) ρ2 is ∧ (∀ j ∈ is, j ∈ vs) ∧
      BX K tt ρ2 (Mi i ++ F) fun b M2 => M2 = Mi i ++ F ∧ C i b ∧ (b = false → MemLe (Mi i ++ F) (Mi (i + 1) ++ F)) ∧ (b = true → TX K te ρ2 (Mi i ++ F) fun w M3 => MemLe M3 (Mi (i + 1) ++ F) ∧ ∃ y, w = .d y ∧ Vl i y)) ∧
    (∀ (f : Nat → Bool) (v : Nat → PyData), (∀ i, i < ds.length → C i (f i)) → (∀ i, i < ds.length → f i = true → Vl i (v i)) → P (.d (.list (given ds.length f v))) (Mi ds.length))) : TX K (tLc wi g tt te vs) ρ M P := fun σ G H Q s e m q =>
  h σ G H _ s e m fun J G1 H1 ds M1 ⟨Mi, C, Vl, eM1, hlen, hs, hd⟩ s1 s1' m1 wk => fun D hD => by
    have gD : G1 D = none := s1'.free hD
    subst eM1
    refine ⟨fun i mm H' => mm = ds.length - i ∧ i ≤ ds.length ∧ ∃ (G' : Hp) (f : Nat → Bool) (v : Nat → PyData), Same G1 G' ∧ Same G' H' ∧ MemOk G' H' (Mi i ++ [(D, mLst K (given i f v))]) ∧ (∀ j, j < i → C j (f j)) ∧ (∀ j, j < i → f j = true → Vl j (v j)),
      ⟨ds.length, by simp, Nat.zero_le _, G1, fun _ => false, fun _ => .none, Same.refl _, same_mut s1' gD, (m1.push (m := mLst K []) s1' hD ⟨[], rfl, .nil⟩).rot, fun j hj => by omega, fun j hj => by omega⟩, ?_⟩
    rintro i mm H' ⟨rfl, hi, G', f, v, a1, a2, a3, a4, a5⟩
    by_cases hlt : i < ds.length
    · refine .inr ⟨wk.go i H' hlt (a1.trans a2), fun H2 => ∃ (G2 : Hp) (f : Nat → Bool) (v : Nat → PyData), Same G1 G2 ∧ Same G2 H2 ∧ MemOk G2 H2 (Mi (i + 1) ++ [(D, mLst K (given (i + 1) f v))]) ∧ (∀ j, j < i + 1 → C j (f j)) ∧ (∀ j, j < i + 1 → f j = true → Vl j (v j)),
        fun H2 z => ⟨ds.length - (i + 1), by omega, rfl, hlt, z⟩, fun x H2 hy => ?_⟩
      have hx : ds[i]? = some ds[i] := List.getElem?_eq_getElem hlt
      obtain ⟨G2, b1, b2, b3, b4⟩ := wk.yld i _ G' H' _ x H2 hx a1 a2 a3 hy
      obtain ⟨ρ2, is, hg, hin, hb⟩ := hs i _ [(D, mLst K (given i f v))] hx
      have eW := ((e.wipe vs).mono ((s1.trans a1).trans b1))
      refine hg x (L2.wipe σ vs) G2 H2 _ b2 eW b4 fun σ3 e3 l3 k3 => ⟨?_, ?_⟩
      · rw [wipe_eq (τ := L2.wipe σ vs) l3 fun j hj => k3 j fun z => hj (hin j z)]
        exact wipe_wipe σ vs
      · refine hb σ3 G2 H2 _ b2 e3 b3 fun b G3 H3 M3 ⟨eM, hC, hfl, hte⟩ c1 c2 c3 => ?_
        subst eM
        have step : ∀ (b : Bool) (y : PyData), (∀ j, j < i → (fun j => if j = i then b else f j) j = f j) ∧ (∀ j, j < i → (fun j => if j = i then y else v j) j = v j) := fun b y => ⟨fun j hj => by
          show (if j = i then b else f j) = f j
          rw [if_neg (by omega)], fun j hj => by
          show (if j = i then y else v j) = v j
          rw [if_neg (by omega)]⟩
        cases b with
        | false =>
          rw [if_neg Bool.false_ne_true]
          obtain ⟨st1, st2⟩ := step false .none
          refine ⟨G3, fun j => if j = i then false else f j, fun j => if j = i then .none else v j, ((a1.trans b1).trans c1), c2, ?_, fun j hj => ?_, fun j hj hf => ?_⟩
          · have eg : given (i + 1) (fun j => if j = i then false else f j) (fun j => if j = i then .none else v j) = given i f v := by
              rw [given_succ]
              show given i _ _ ++ (if (if i = i then false else f i) = true then [(if i = i then PyData.none else v i)] else []) = _
              rw [if_pos rfl, if_neg Bool.false_ne_true, List.append_nil]
              exact given_congr (fun j hj => st1 j hj) (fun j hj _ => st2 j hj)
            rw [eg]
            exact hfl rfl _ _ c3
          · show C j (if j = i then false else f j)
            by_cases hj' : j = i
            · subst hj'; simpa using hC
            · rw [if_neg hj']; exact a4 j (by omega)
          · have hf' : (if j = i then false else f j) = true := hf
            by_cases hj' : j = i
            · rw [if_pos hj'] at hf'; cases hf'
            · rw [if_neg hj'] at hf'
              show Vl j (if j = i then .none else v j)
              rw [if_neg hj']
              exact a5 j (by omega) hf'
        | true =>
          rw [if_pos rfl]
          refine hte rfl σ3 G3 H3 _ c2 (e3.mono c1) c3 fun y G4 H4 w M4 ⟨eM, z, ew, hV⟩ d1 d2 d3 d4 => ?_
          subst ew
          obtain ⟨st1, st2⟩ := step true z
          have d3' := (eM _ _ d3).unrot
          obtain ⟨g4, o4, ho4, acc, eo, hra⟩ := d3'.head
          subst eo
          have hal := hra.length
          have hgl := given_len i f v
          refine ⟨acc, ho4, Nat.lt_of_lt_of_le (show acc.length < 100000 by omega) (by decide : 100000 ≤ sizeLine), G4, fun j => if j = i then true else f j, fun j => if j = i then z else v j, (((a1.trans b1).trans c1).trans d1), same_mut d2 g4, ?_, fun j hj => ?_, fun j hj hf => ?_⟩
          · have eg : given (i + 1) (fun j => if j = i then true else f j) (fun j => if j = i then z else v j) = given i f v ++ [z] := by
              rw [given_succ]
              show given i _ _ ++ (if (if i = i then true else f i) = true then [(if i = i then z else v i)] else []) = _
              rw [if_pos rfl, if_pos rfl, if_pos rfl]
              congr 1
              exact given_congr (fun j hj => st1 j hj) (fun j hj _ => st2 j hj)
            rw [eg]
            exact (d3'.put (m' := mLst K (given i f v ++ [z])) ⟨_, rfl, hra.app (.cons d4 .nil)⟩).rot
          · show C j (if j = i then true else f j)
            by_cases hj' : j = i
            · subst hj'; simpa using hC
            · rw [if_neg hj']; exact a4 j (by omega)
          · have hf' : (if j = i then true else f j) = true := hf
            show Vl j (if j = i then z else v j)
            by_cases hj' : j = i
            · rw [if_pos hj', hj']; exact hV
            · rw [if_neg hj'] at hf' ⊢
              exact a5 j (by omega) hf'
    · have e' : i = ds.length := by omega
      subst e'
      refine .inl ⟨wk.stop H' (a1.trans a2), ?_⟩
      have a3' := a3.unrot
      obtain ⟨g, o, ho, as, eo, hra⟩ := a3'.head
      subst eo
      obtain ⟨t1, t2, t3⟩ := a3'.freeze a2 ho
      exact q _ _ H' _ _ (hd f v a4 a5) ((s1.trans a1).trans t1) t2 t3 (.lst upd_same (RpAll.mono t1 _ _ hra))
/-- without a test -/
theorem tx_lcMI {vs : List Nat} (qf : PyData → PyData) (h : IX K wi ρ M fun ds M1 => ∃ Mi : Nat → Mem, M1 = Mi 0 ∧ ds.length ≤ 50000 ∧
    (∀ (i : Nat) (x : PyData) (F : Mem), ds[i]? = some x → ∃ ρ2 is, GX K g x (wipeW ρ vs) ρ2 is ∧ (∀ j ∈ is, j ∈ vs) ∧ TX K te ρ2 (Mi i ++ F) fun w M3 => MemLe M3 (Mi (i + 1) ++ F) ∧ w = .d (qf x)) ∧
    P (.d (.list (ds.map qf))) (Mi ds.length)) : TX K (tLc wi g tYes te vs) ρ M P := by
  refine tx_lcI fun σ G H R s e m q => h σ G H R s e m fun J G1 H1 ds M1 ⟨Mi, h0, hl, hs, hp⟩ => q J G1 H1 ds M1 ⟨Mi, fun i b => b = true, fun i y => ∀ x, ds[i]? = some x → y = qf x, h0, hl, fun i x F hx => ?_, fun f v hf hv => ?_⟩
  · obtain ⟨ρ2, is, h1, h2, h3⟩ := hs i x F hx
    refine ⟨ρ2, is, h1, h2, bx_yes ⟨rfl, rfl, (fun z => by cases z), fun _ => h3.imp fun w M3 ⟨y1, y2⟩ => ⟨y1, _, y2, fun x' hx' => by rw [hx] at hx'; cases hx'; rfl⟩⟩⟩
  · have e1 : given ds.length f v = (ds.filter fun _ => true).map qf := given_eq (fun _ => true) qf fun i x hx => by
      have hlt := (List.getElem?_eq_some_iff.mp hx).1
      have h1 := hf i hlt
      exact ⟨h1, fun h2 => hv i hlt h1 x hx⟩
    have e2 : ds.filter (fun _ => true) = ds := List.filter_eq_self.mpr fun _ _ => rfl
    rw [e1, e2]
    exact hp
/-- with a test that the data tell -/
theorem tx_lcFI {vs : List Nat} (p : PyData → Bool) (qf : PyData → PyData) (h : IX K wi ρ M fun ds M1 => ∃ Mi : Nat → Mem, M1 = Mi 0 ∧ ds.length ≤ 50000 ∧
    (∀ (i : Nat) (x : PyData) (F : Mem), ds[i]? = some x → ∃ ρ2 is, GX K g x (wipeW ρ vs) ρ2 is ∧ (∀ j ∈ is, j ∈ vs) ∧
      BX K tt ρ2 (Mi i ++ F) fun b M2 => M2 = Mi i ++ F ∧ b = p x ∧ (b = false → MemLe (Mi i ++ F) (Mi (i + 1) ++ F)) ∧ (b = true → TX K te ρ2 (Mi i ++ F) fun w M3 => MemLe M3 (Mi (i + 1) ++ F) ∧ w = .d (qf x))) ∧
    P (.d (.list ((ds.filter p).map qf))) (Mi ds.length)) : TX K (tLc wi g tt te vs) ρ M P := by
  refine tx_lcI fun σ G H R s e m q => h σ G H R s e m fun J G1 H1 ds M1 ⟨Mi, h0, hl, hs, hp⟩ => q J G1 H1 ds M1 ⟨Mi, fun i b => ∀ x, ds[i]? = some x → b = p x, fun i y => ∀ x, ds[i]? = some x → y = qf x, h0, hl, fun i x F hx => ?_, fun f v hf hv => ?_⟩
  · obtain ⟨ρ2, is, h1, h2, h3⟩ := hs i x F hx
    refine ⟨ρ2, is, h1, h2, h3.imp fun b M2 ⟨z1, z2, z3, z4⟩ => ⟨z1, fun x' hx' => ?_, z3, fun hb => (z4 hb).imp fun w M3 ⟨y1, y2⟩ => ⟨y1, _, y2, fun x' hx' => ?_⟩⟩⟩
    · rw [hx] at hx'; cases hx'; exact z2
    · rw [hx] at hx'; cases hx'; rfl
  · have e1 : given ds.length f v = (ds.filter p).map qf := given_eq p qf fun i x hx => by
      have hlt := (List.getElem?_eq_some_iff.mp hx).1
      have h1 := hf i hlt x hx
      exact ⟨h1, fun h2 => hv i hlt (h1.trans h2) x hx⟩
    rw [e1]
    exact hp
end
end CD
/-! CDNext: lots as data; what next_lots and the methods of Counter promise. -/
namespace CD
open PySem PySem.Spec PyProof.Rows L2 CM
/-! ### lots as data -/
def lotD (L : List Sta) : PyData := .tuple (L.map staD)
def lotK (L : List Sta) : NestedKey := .tup (L.map stK)
theorem datas_stK : ∀ L : List Sta, NestedKey.datas (L.map stK) = L.map staD
  | [] => rfl
  | x :: L => by
    show NestedKey.data (stK x) :: NestedKey.datas (L.map stK) = _
    rw [datas_stK L]
    rfl
theorem lotK_inj {a b : List Sta} (h : lotK a = lotK b) : a = b := by
  unfold lotK at h
  injection h with h
  induction a generalizing b with
  | nil =>
    cases b with
    | nil => rfl
    | cons y b => cases h
  | cons x a ih =>
    cases b with
    | nil => cases h
    | cons y b =>
      injection h with h1 h2
      rw [stK_inj h1, ih h2]
theorem depth_all : ∀ L : List Sta, NestedKey.depthAll (L.map stK) ≤ 2
  | [] => by simp [NestedKey.depthAll]
  | x :: L => by
    have := depth_all L
    simp [NestedKey.depth, NestedKey.depthAll, stK]
    omega
theorem lotK_depth (L : List Sta) : (lotK L).depth ≤ 8 := by
  have := depth_all L
  simp [lotK, NestedKey.depth]
  omega
def lnK (L : List Sta) (n : Int) : NestedKey := .tup [lotK L, .num n]
theorem lnK_depth (L : List Sta) (n : Int) : (lnK L n).depth ≤ 8 := by
  have := depth_all L
  simp [lnK, lotK, NestedKey.depth, NestedKey.depthAll]
  omega
theorem lnK_inj {a b : List Sta} {n m : Int} (h : lnK a n = lnK b m) : a = b ∧ n = m := by
  unfold lnK at h
  injection h with h
  injection h with h1 h
  injection h with h2 _
  injection h2 with h2
  exact ⟨lotK_inj h1, h2⟩
theorem datas_lnK (L : List Sta) (n : Int) : NestedKey.datas [lotK L, .num n] = [lotD L, .int n] := by
  show [NestedKey.data (lotK L), PyData.int n] = _
  unfold lotK lotD
  show [PyData.tuple (NestedKey.datas (L.map stK)), PyData.int n] = _
  rw [datas_stK]
/-- the answer of next_lots as data -/
def nxE (p : Int × List Sta) : PyData := .tuple [.int p.1, lotD p.2]
def nxD (v : List (Int × List Sta)) : PyData := .list (v.map nxE)
/-! ### found: outputs and the states behind them -/
abbrev FD := List (Int × List Sta)
def fD (kvs : FD) : List (Int × PyData) := kvs.map fun p => (p.1, PyData.list (p.2.map staD))
def valI (kvs : FD) (o : Int) : List Sta := ((kvs.find? fun p => decide (p.1 = o)).map (·.2)).getD []
def putI (kvs : FD) (o : Int) (l : List Sta) : FD := if o ∈ kvs.map (·.1) then kvs.map (fun p => if p.1 = o then (p.1, l) else p) else kvs ++ [(o, l)]
theorem fD_get (kvs : FD) (o : Int) : iGet (fD kvs) o = (kvs.find? fun p => decide (p.1 = o)).map fun p => PyData.list (p.2.map staD) := by
  unfold iGet fD
  induction kvs with
  | nil => rfl
  | cons p kvs ih =>
    rw [List.map_cons, List.find?_cons, List.find?_cons]
    cases c : decide (p.1 = o) with
    | true => rfl
    | false => exact ih
theorem fD_getD (kvs : FD) (o : Int) : (iGet (fD kvs) o).getD (.list []) = .list ((valI kvs o).map staD) := by
  rw [fD_get]
  unfold valI
  cases kvs.find? fun p => decide (p.1 = o) <;> rfl
theorem fD_put (kvs : FD) (o : Int) (l : List Sta) : iPut (fD kvs) o (.list (l.map staD)) = fD (putI kvs o l) := by
  unfold iPut putI
  have e : (iGet (fD kvs) o).isSome = decide (o ∈ kvs.map (·.1)) := by
    rw [fD_get, Option.isSome_map, Bool.eq_iff_iff, List.find?_isSome]
    simp
  rw [e]
  by_cases h : o ∈ kvs.map (·.1)
  · rw [if_pos (decide_eq_true h), if_pos h]
    unfold fD
    rw [List.map_map, List.map_map]
    refine List.map_congr_left fun p _ => ?_
    show (if p.1 = o then (p.1, PyData.list (l.map staD)) else (p.1, PyData.list (p.2.map staD))) = ((if p.1 = o then (p.1, l) else p).1, PyData.list ((if p.1 = o then (p.1, l) else p).2.map staD))
    split <;> rfl
  · rw [if_neg (by rw [decide_eq_true_eq]; exact h), if_neg h]
    unfold fD
    rw [List.map_append]
    rfl
structure GI (U : List (Int × Sta)) (kvs : FD) : Prop where
  nd : (kvs.map (·.1)).Nodup
  all : ∀ p ∈ kvs, ∀ x, x ∈ p.2 ↔ (p.1, x) ∈ U
  key : ∀ u ∈ U, u.1 ∈ kvs.map (·.1)
  ne : ∀ p ∈ kvs, p.2 ≠ []
  len : ∀ p ∈ kvs, p.2.length ≤ U.length
theorem find_nd {kvs : FD} (nd : (kvs.map (·.1)).Nodup) {p : Int × List Sta} (hp : p ∈ kvs) : kvs.find? (fun q => decide (q.1 = p.1)) = some p := by
  induction kvs with
  | nil => cases hp
  | cons q kvs ih =>
    rw [List.map_cons, List.nodup_cons] at nd
    rw [List.find?_cons]
    rcases List.mem_cons.mp hp with z | z
    · rw [← z, decide_eq_true rfl]
    · have hq : ¬ q.1 = p.1 := fun y => nd.1 (by
        rw [y]
        exact List.mem_map.mpr ⟨p, z, rfl⟩)
      rw [decide_eq_false hq]
      exact ih nd.2 z
theorem GI.nil : GI [] [] where
  nd := List.nodup_nil
  all := fun p hp => (List.not_mem_nil hp).elim
  key := fun u hu => (List.not_mem_nil hu).elim
  ne := fun p hp => (List.not_mem_nil hp).elim
  len := fun p hp => (List.not_mem_nil hp).elim
theorem GI.step {U : List (Int × Sta)} {kvs : FD} (g : GI U kvs) (o : Int) (x : Sta) : GI (U ++ [(o, x)]) (putI kvs o (valI kvs o ++ [x])) := by
  unfold putI
  by_cases h : o ∈ kvs.map (·.1)
  · rw [if_pos h]
    have em : (kvs.map fun p => if p.1 = o then (p.1, valI kvs o ++ [x]) else p).map (·.1) = kvs.map (·.1) := by
      rw [List.map_map]
      refine List.map_congr_left fun p _ => ?_
      show (if p.1 = o then (p.1, valI kvs o ++ [x]) else p).1 = p.1
      split <;> rfl
    have sub : ∀ p ∈ kvs.map (fun p => if p.1 = o then (p.1, valI kvs o ++ [x]) else p), (∃ q ∈ kvs, q.1 = o ∧ p = (o, q.2 ++ [x])) ∨ (p ∈ kvs ∧ p.1 ≠ o) := by
      intro p hp
      obtain ⟨q, hq, e⟩ := List.mem_map.mp hp
      split at e
      · rename_i c
        have hv : valI kvs o = q.2 := by
          unfold valI
          rw [← c, find_nd g.nd hq]
          rfl
        rw [hv, c] at e
        exact .inl ⟨q, hq, c, e.symm⟩
      · rename_i c
        subst e
        exact .inr ⟨hq, c⟩
    refine ⟨by rw [em]; exact g.nd, fun p hp y => ?_, fun u hu => ?_, fun p hp => ?_, fun p hp => ?_⟩
    · rcases sub p hp with ⟨q, hq, e1, rfl⟩ | ⟨hq, e1⟩
      · show y ∈ q.2 ++ [x] ↔ (o, y) ∈ U ++ [(o, x)]
        rw [List.mem_append, List.mem_append, g.all q hq y, e1, List.mem_singleton, List.mem_singleton]
        exact ⟨fun h => h.imp id (fun e => by rw [e]), fun h => h.imp id fun e => (Prod.ext_iff.mp e).2⟩
      · rw [g.all p hq y, List.mem_append, List.mem_singleton]
        exact ⟨fun h => .inl h, fun h => h.elim id fun e => absurd (Prod.ext_iff.mp e).1 e1⟩
    · rw [em]
      rcases List.mem_append.mp hu with hu | hu
      · exact g.key u hu
      · rw [List.mem_singleton.mp hu]; exact h
    · rcases sub p hp with ⟨q, hq, e1, rfl⟩ | ⟨hq, e1⟩
      · simp
      · exact g.ne p hq
    · rw [List.length_append, List.length_singleton]
      rcases sub p hp with ⟨q, hq, e1, rfl⟩ | ⟨hq, e1⟩
      · have := g.len q hq
        simp
        omega
      · have := g.len p hq
        omega
  · rw [if_neg h]
    have hv : valI kvs o = [] := by
      unfold valI
      cases q : kvs.find? fun p => decide (p.1 = o) with
      | none => rfl
      | some p =>
        have h1 := List.mem_of_find?_eq_some q
        have h2 : p.1 = o := by simpa using List.find?_some q
        exact absurd (List.mem_map.mpr ⟨p, h1, h2⟩) h
    rw [hv, List.nil_append]
    have hU : ∀ y, (o, y) ∉ U := fun y hy => h (g.key _ hy)
    refine ⟨?_, fun p hp y => ?_, fun u hu => ?_, fun p hp => ?_, fun p hp => ?_⟩
    · rw [List.map_append, List.nodup_append]
      refine ⟨g.nd, by simp, fun a ha b hb e => h ?_⟩
      have : b = o := by simpa using hb
      rw [← this, ← e]
      exact ha
    · rcases List.mem_append.mp hp with hp | hp
      · have hne : p.1 ≠ o := fun e => h (by rw [← e]; exact List.mem_map.mpr ⟨p, hp, rfl⟩)
        rw [g.all p hp y, List.mem_append, List.mem_singleton]
        exact ⟨fun h => .inl h, fun h => h.elim id fun e => absurd (Prod.ext_iff.mp e).1 hne⟩
      · rw [List.mem_singleton.mp hp, List.mem_append]
        show y ∈ [x] ↔ (o, y) ∈ U ∨ (o, y) ∈ [(o, x)]
        rw [List.mem_singleton, List.mem_singleton]
        exact ⟨fun e => .inr (by rw [e]), fun z => z.elim (fun z => absurd z (hU y)) fun e => (Prod.ext_iff.mp e).2⟩
    · rw [List.map_append]
      rcases List.mem_append.mp hu with hu | hu
      · exact List.mem_append_left _ (g.key u hu)
      · rw [List.mem_singleton.mp hu]; exact List.mem_append_right _ (by simp)
    · rcases List.mem_append.mp hp with hp | hp
      · exact g.ne p hp
      · rw [List.mem_singleton.mp hp]; simp
    · rw [List.length_append, List.length_singleton]
      rcases List.mem_append.mp hp with hp | hp
      · have := g.len p hp
        omega
      · rw [List.mem_singleton.mp hp]; simp
theorem GI.keyU {U : List (Int × Sta)} {kvs : FD} (g : GI U kvs) {k : Int} (h : k ∈ kvs.map (·.1)) : ∃ x, (k, x) ∈ U := by
  obtain ⟨p, hp, rfl⟩ := List.mem_map.mp h
  cases e : p.2 with
  | nil => exact absurd e (g.ne p hp)
  | cons x r => exact ⟨x, (g.all p hp x).mp (by rw [e]; exact List.mem_cons_self)⟩
/-- what a lot hands on -/
def handU (d : Di) (some : List Int) (L : List Sta) : List (Int × Sta) := L.flatMap fun h => some.map fun s => (out d h s, nxt d h s)
theorem mem_handU {d : Di} {some : List Int} {L : List Sta} {o : Int} {x : Sta} : (o, x) ∈ handU d some L ↔ ∃ h ∈ L, ∃ s ∈ some, out d h s = o ∧ nxt d h s = x := by
  unfold handU
  rw [List.mem_flatMap]
  constructor
  · rintro ⟨h, hh, hm⟩
    obtain ⟨s, hs, e⟩ := List.mem_map.mp hm
    exact ⟨h, hh, s, hs, (Prod.ext_iff.mp e).1, (Prod.ext_iff.mp e).2⟩
  · rintro ⟨h, hh, s, hs, e1, e2⟩
    exact ⟨h, hh, List.mem_map.mpr ⟨s, hs, by rw [e1, e2]⟩⟩
/-- the parts chosen one by one are one list -/
theorem lst_choice {τ : Type} {enc : τ → PyData} {Q : Nat → τ → Prop} : ∀ (n : Nat) (f : Nat → Bool) (v : Nat → PyData), (∀ i, i < n → f i = true) → (∀ i, i < n → ∃ t, v i = enc t ∧ Q i t) → ∃ T : List τ, T.length = n ∧ given n f v = T.map enc ∧ ∀ i t, T[i]? = Option.some t → Q i t
  | 0, f, v, _, _ => ⟨[], rfl, rfl, fun i t h => by simp at h⟩
  | n + 1, f, v, hf, hv => by
    obtain ⟨T, h1, h2, h3⟩ := lst_choice n f v (fun i hi => hf i (by omega)) fun i hi => hv i (by omega)
    obtain ⟨t, e, hq⟩ := hv n (by omega)
    refine ⟨T ++ [t], by simp [h1], ?_, fun i t' ht => ?_⟩
    · rw [given_succ, h2, if_pos (hf n (by omega)), e, List.map_append]
      rfl
    · by_cases hi : i < n
      · rw [List.getElem?_append_left (by omega)] at ht
        exact h3 i t' ht
      · have hin : i < (T ++ [t]).length := (List.getElem?_eq_some_iff.mp ht).1
        rw [List.length_append, List.length_singleton] at hin
        have ei : i = n := by omega
        subst ei
        rw [List.getElem?_append_right (by omega), h1, Nat.sub_self] at ht
        cases ht
        exact hq
/-! ### the promises -/
def NdN (v : List (Int × List Sta)) : Prop := ∀ q ∈ v, q.2.Nodup
def R_next_lots : RR := fun ws M P => ∃ (d : Di) (some : List Int) (L : List Sta), d.Ok ∧ Some d some ∧ (∀ h ∈ L, StOk d h) ∧ Sm d L ∧ L.length ≤ 81 ∧ ws = [.d d.data, .d (eI some), .d (lotD L)] ∧
  ∀ v, IsNext d some L v → NdN v → P (.d (nxD v)) M
def QN (d : Di) (some : List Int) (k : NestedKey) (x : PyData) : Prop := ∀ L, k = lotK L → ∃ v, x = nxD v ∧ IsNext d some L v ∧ NdN v
def QK (d : Di) (some : List Int) (k : NestedKey) (x : PyData) : Prop := ∀ (L : List Sta) (n : Nat), k = lnK L (n : Nat) → x = .int ((lefts d some L n).length : Nat)
def ctrF (d : Di) (some : List Int) (an ak : Addr) : List (Str × W) := [("dither", .d d.data), ("some", .d (eI some)), ("nexts", .v (.ref an)), ("known", .v (.ref ak))]
/-- a counter -/
def ctrM (Pg : Program) (w : World) (K : PySem.W.Frag) (C : Addr) (d : Di) (some : List Int) (p an ak : Addr) (B : Nat) (M : Mem) : Mem :=
  (p, mIns K C (ctrF d some an ak)) :: (an, mAll Pg w K an B (QN d some)) :: (ak, mAll Pg w K ak B (QK d some)) :: M
theorem mAll_mono {Pg : Program} {w : World} {K : PySem.W.Frag} {a : Addr} {B B' : Nat} {Q : NestedKey → PyData → Prop} {G : Hp} {o : HO} (hB : B ≤ B') (h : (mAll Pg w K a B Q).φ G o) : (mAll Pg w K a B' Q).φ G o := by
  obtain ⟨kvs, h1, h2, h3⟩ := h
  exact ⟨kvs, Nat.le_trans h1 hB, h2, h3⟩
theorem ctr_mono {Pg : Program} {w : World} {K : PySem.W.Frag} {C : Addr} {d : Di} {some : List Int} {p an ak : Addr} {B B' : Nat} (M : Mem) (hB : B ≤ B') : MemLe (ctrM Pg w K C d some p an ak B M) (ctrM Pg w K C d some p an ak B' M) := by
  unfold ctrM
  refine MemLe.trans (mem_weak (m := mAll Pg w K an B (QN d some)) (m' := mAll Pg w K an B' (QN d some)) (fun G o h => mAll_mono hB h) [(p, mIns K C (ctrF d some an ak))] _) ?_
  exact mem_weak (m := mAll Pg w K ak B (QK d some)) (m' := mAll Pg w K ak B' (QK d some)) (fun G o h => mAll_mono hB h) [(p, mIns K C (ctrF d some an ak)), (an, mAll Pg w K an B' (QN d some))] M
def R_init (Pg : Program) (w : World) (K : PySem.W.Frag) (C : Addr) : RR := fun ws M P => ∃ (p : Addr) (d : Di) (some : List Int) (M0 : Mem), ws = [.v (.ref p), .d d.data, .d (eI some)] ∧ M = (p, mIns K C []) :: M0 ∧ ∀ an ak, P (.d .none) (ctrM Pg w K C d some p an ak 0 M0)
def R_next_of (Pg : Program) (w : World) (K : PySem.W.Frag) (C : Addr) : RR := fun ws M P => ∃ (p an ak : Addr) (d : Di) (some : List Int) (L : List Sta) (k B : Nat) (M0 : Mem), d.Ok ∧ Some d some ∧ LotP d k L ∧ k ≤ 2 ∧ L.Nodup ∧ B ≤ 50000 ∧
  ws = [.v (.ref p), .d (lotD L)] ∧ M = ctrM Pg w K C d some p an ak B M0 ∧ ∀ v, IsNext d some L v → NdN v → P (.d (nxD v)) (ctrM Pg w K C d some p an ak (B + 1) M0)
/-- how many entries a count may add -/
def fB : Nat → Nat
  | 0 => 0
  | n + 1 => 2 + 6 * fB n
theorem fB_mono {n m : Nat} (h : n ≤ m) : fB n ≤ fB m := by
  induction m with
  | zero => rw [Nat.le_zero.mp h]; exact Nat.le_refl _
  | succ m ih =>
    by_cases e : n = m + 1
    · rw [e]; exact Nat.le_refl _
    · have := ih (by omega)
      show fB n ≤ 2 + 6 * fB m
      omega
def R_many (Pg : Program) (w : World) (K : PySem.W.Frag) (C : Addr) (N : Nat) : RR := fun ws M P => ∃ (p an ak : Addr) (d : Di) (some : List Int) (L : List Sta) (k n B : Nat) (M0 : Mem), d.Ok ∧ Some d some ∧ LotP d k L ∧ k + n ≤ 3 ∧ n ≤ N ∧ L.Nodup ∧ B + fB n ≤ 50000 ∧
  ws = [.v (.ref p), .d (lotD L), dI (n : Nat)] ∧ M = ctrM Pg w K C d some p an ak B M0 ∧ P (dI ((lefts d some L n).length : Nat)) (ctrM Pg w K C d some p an ak (B + fB n) M0)
theorem lot_len {d : Di} {k : Nat} {L : List Sta} (ok : d.Ok) (P : LotP d k L) (nd : L.Nodup) : L.length ≤ 81 := by
  have h := nodup_le L (errs.flatMap fun a => errs.map fun b => (a, b)) nd fun x hx => by
    have := P.st x hx
    exact List.mem_flatMap.mpr ⟨x.1, mem_errs (by have := this.a; omega), List.mem_map.mpr ⟨x.2, mem_errs (by have := this.b; have := m2_nn ok; omega), rfl⟩⟩
  have e : (errs.flatMap fun a => errs.map fun b => (a, b)).length = 81 := by decide
  omega
theorem next_len {d : Di} (ok : d.Ok) {some : List Int} {L : List Sta} {v : List (Int × List Sta)} (N : IsNext d some L v) : v.length ≤ 6 := by
  have h := nodup_le (v.map (·.1)) d.levels (asc_nodup N.asc) (N.sub ok)
  rw [List.length_map] at h
  have := ok.len
  omega
/-- the lots behind a lot -/
theorem lot_behind {d : Di} (ok : d.Ok) {some : List Int} (so : Some d some) {k : Nat} {L : List Sta} (P : LotP d k L) {v : List (Int × List Sta)} (N : IsNext d some L v) {q : Int × List Sta} (hq : q ∈ v) : LotP d (k + 1) q.2 :=
  lot_next ok P (o := q.1) (N.ne q hq) fun x hx => by
    obtain ⟨h, hh, s, hs, e1, e2⟩ := (N.mem q hq x).mp hx
    exact ⟨h, hh, s, so.ok s hs, e1, e2⟩
end CD
/-! CDMeth: the rule for a method and for __init__. -/
namespace CD
open PySem PySem.Spec PyProof.Rows L2 CM
section
variable {Pg : Program} {w : World} {K : PySem.W.Frag} {ρ : List W} {M M' : Mem} {P : W → Mem → Prop} {E : DE} {u : TS} {t : TE} {a : Addr} {B : Nat} {Qk : NestedKey → PyData → Prop}
theorem tx_open (h : ∀ kvs : List (NestedKey × PyData), kvs.length ≤ B → (∀ p ∈ kvs, Qk p.1 p.2) → TX K t ρ ((a, mDict Pg w K a kvs) :: M) P) : TX K t ρ ((a, mAll Pg w K a B Qk) :: M) P := fun σ G H Q s e m q => by
  obtain ⟨g, o, ho, kvs, h1, h2, h3⟩ := m.head
  refine h kvs h1 h2 σ G H Q s e ⟨m.nd, fun z hz => ?_⟩ q
  rcases List.mem_cons.mp hz with rfl | hz
  · exact ⟨g, o, ho, h3⟩
  · exact m.at_ z (List.mem_cons_of_mem _ hz)
/-- o[k] = e -/
theorem run_setO {te to ti : TE} (h : TX K te ρ M fun wv M1 => ∃ x, wv = .d x ∧ TX K to ρ M1 fun wo M2 => ∃ a : Addr, wo = .v (.ref a) ∧ TX K ti ρ M2 fun wk M3 => ∃ (k : List NestedKey) (kvs : List (NestedKey × PyData)) (M4 : Mem), wk = .d (.tuple (NestedKey.datas k)) ∧ (NestedKey.tup k).depth ≤ 8 ∧ kvs.length < 100000 ∧ M3 = (a, mDict Pg w K a kvs) :: M4 ∧ E.nx ρ ((a, mDict Pg w K a (dPut kvs (.tup k) x)) :: M4)) :
    Run K (tAsg te (gSub to ti (rSetX Pg w K))) E ρ M := fun D σ G H L s e m =>
  h σ G H _ s e m fun v1 G1 H1 w1 M1 ⟨x, ex, h1⟩ s1 s1' m1 r1 => h1 σ G1 H1 _ s1' (e.mono s1) m1 fun v2 G2 H2 w2 M2 ⟨a, eo, h2⟩ s2 s2' m2 r2 => h2 σ G2 H2 _ s2' (e.mono (s1.trans s2)) m2 fun v3 G3 H3 w3 M3 ⟨k, kvs, M4, ek, hk, hl, eM, p⟩ s3 s3' m3 r3 => by
    subst ex eo ek eM
    have e2 : v2 = .ref a := r2
    subst e2
    obtain ⟨g, o, ho, xs, eo, hx⟩ := m3.head
    subst eo
    have hlen := hx.len
    have r3' := Rp.mono s3' _ _ r3
    have r3'' := r3
    cases r3'' with
    | @tup b _ _ hb _ =>
      refine ⟨a, xs, b, .tup k, rfl, rfl, ho, hx.keys s3', ⟨r3', hk⟩, Nat.lt_of_lt_of_le (by omega) (by decide : 100000 ≤ sizeLine), ?_⟩
      exact L.nx ρ _ G3 _ _ p ((s1.trans s2).trans s3) (same_mut s3' g) (e.mono ((s1.trans s2).trans s3)) (m3.put ⟨_, rfl, hx.put ⟨r3, hk⟩ (Rp.mono (s2.trans s3) _ _ r1)⟩)
theorem dPut_len (kvs : List (NestedKey × PyData)) (k : NestedKey) (x : PyData) : (dPut kvs k x).length ≤ kvs.length + 1 := by
  unfold dPut
  split
  · rw [List.length_map]; omega
  · rw [List.length_append, List.length_singleton]; omega
theorem dPut_mem {kvs : List (NestedKey × PyData)} {k : NestedKey} {x : PyData} {p : NestedKey × PyData} (h : p ∈ dPut kvs k x) : p ∈ kvs ∨ p = (k, x) := by
  unfold dPut at h
  split at h
  · obtain ⟨q, hq, e⟩ := List.mem_map.mp h
    split at e
    · rename_i c
      rw [c] at e
      exact .inr e.symm
    · rw [← e]
      exact .inl hq
  · rcases List.mem_append.mp h with z | z
    · exact .inl z
    · exact .inr (List.mem_singleton.mp z)
theorem dPut_some (kvs : List (NestedKey × PyData)) (k : NestedKey) (x : PyData) : (dGet (dPut kvs k x) k).isSome = true := by
  unfold dPut
  split
  · rename_i h
    unfold dGet at h ⊢
    rw [Option.isSome_map, List.find?_isSome] at h ⊢
    obtain ⟨q, hq, hk⟩ := h
    have hk' : q.1 = k := by simpa using hk
    exact ⟨(q.1, x), List.mem_map.mpr ⟨q, hq, by rw [if_pos hk']⟩, by simpa using hk'⟩
  · rw [dGet_app]
    split
    · rfl
    · simp
theorem sum_cast {α : Type} (l : List α) (f : α → Nat) : (l.map fun q => ((f q : Nat) : Int)).sum = (((l.map f).sum : Nat) : Int) := by
  induction l with
  | nil => rfl
  | cons q l ih => rw [List.map_cons, List.sum_cons, List.map_cons, List.sum_cons, ih]; omega
theorem given_typed {ι : Type} (l : List ι) {f : Nat → Bool} {v : Nat → PyData} (p : ι → Bool) (gf : ι → PyData) (h : ∀ (i : Nat) (q : ι), l[i]? = Option.some q → f i = p q ∧ (p q = true → v i = gf q)) : given l.length f v = (l.filter p).map gf := by
  have all : ∀ n, n ≤ l.length → given n f v = ((l.take n).filter p).map gf := by
    intro n
    induction n with
    | zero => intro _; rfl
    | succ n ih =>
      intro hn
      have hx : l[n]? = Option.some l[n] := List.getElem?_eq_getElem (by omega)
      obtain ⟨h1, h2⟩ := h n _ hx
      rw [given_succ, ih (by omega), List.take_add_one, hx, List.filter_append, List.map_append, h1]
      congr 1
      by_cases hp : p l[n] = true
      · simp [hp, h2 hp]
      · simp [hp]
  rw [all l.length (Nat.le_refl _), List.take_length]
/-- a comprehension over a list of typed data -/
theorem tx_lcT {ι : Type} {enc : ι → PyData} {wi : TI} {g : TG} {tt : TT} {te : TE} {vs : List Nat} (h : IX K wi ρ M fun ds M1 => ∃ (l : List ι) (p : ι → Bool) (gf : ι → PyData) (Mi : Nat → Mem), ds = l.map enc ∧ M1 = Mi 0 ∧ l.length ≤ 50000 ∧
    (∀ (i : Nat) (q : ι) (F : Mem), l[i]? = Option.some q → ∃ ρ2 is, GX K g (enc q) (wipeW ρ vs) ρ2 is ∧ (∀ j ∈ is, j ∈ vs) ∧
      BX K tt ρ2 (Mi i ++ F) fun b M2 => M2 = Mi i ++ F ∧ b = p q ∧ (b = false → MemLe (Mi i ++ F) (Mi (i + 1) ++ F)) ∧ (b = true → TX K te ρ2 (Mi i ++ F) fun w M3 => MemLe M3 (Mi (i + 1) ++ F) ∧ w = .d (gf q))) ∧
    P (.d (.list ((l.filter p).map gf))) (Mi l.length)) : TX K (tLc wi g tt te vs) ρ M P := by
  refine tx_lcI fun σ G H R s e m q => h σ G H R s e m fun J G1 H1 ds M1 ⟨l, p, gf, Mi, hds, h0, hl, hs, hp⟩ => q J G1 H1 ds M1 ⟨Mi, fun i b => ∀ x, l[i]? = Option.some x → b = p x, fun i y => ∀ x, l[i]? = Option.some x → y = gf x, h0, by rw [hds, List.length_map]; exact hl, fun i x F hx => ?_, fun f v hf hv => ?_⟩
  · rw [hds] at hx
    obtain ⟨z, hz, rfl⟩ := map_get hx
    obtain ⟨ρ2, is, h1, h2, h3⟩ := hs i z F hz
    refine ⟨ρ2, is, h1, h2, h3.imp fun b M2 ⟨z1, z2, z3, z4⟩ => ⟨z1, fun x' hx' => ?_, z3, fun hb => (z4 hb).imp fun w M3 ⟨y1, y2⟩ => ⟨y1, _, y2, fun x' hx' => ?_⟩⟩⟩
    · rw [hz] at hx'; cases hx'; exact z2
    · rw [hz] at hx'; cases hx'; rfl
  · have el : ds.length = l.length := by rw [hds, List.length_map]
    rw [el] at hf hv ⊢
    have e1 : given l.length f v = (l.filter p).map gf := given_typed l p gf fun i x hx => by
      have hlt := (List.getElem?_eq_some_iff.mp hx).1
      have h1 := hf i hlt x hx
      exact ⟨h1, fun h2 => hv i hlt (h1.trans h2) x hx⟩
    rw [e1]
    exact hp
theorem dGet_mem {kvs : List (NestedKey × PyData)} {k : NestedKey} {x : PyData} (h : dGet kvs k = some x) : (k, x) ∈ kvs := by
  unfold dGet at h
  obtain ⟨p, hp, rfl⟩ := Option.map_eq_some_iff.mp h
  have h1 := List.mem_of_find?_eq_some hp
  have h2 : p.1 = k := by simpa using List.find?_some hp
  rw [← h2]
  exact h1
end
theorem str_ne : (¬ ("dither" : Str) = "some") ∧ (¬ ("dither" : Str) = "nexts") ∧ (¬ ("some" : Str) = "nexts") ∧ (¬ ("dither" : Str) = "known") ∧ (¬ ("some" : Str) = "known") ∧ (¬ ("nexts" : Str) = "known") := by decide +kernel
theorem pF_eq (a b : W) (an ak : Addr) : pF "known" (.v (.ref ak)) (pF "nexts" (.v (.ref an)) (pF "some" b (pF "dither" a []))) = ([("dither", a), ("some", b), ("nexts", .v (.ref an)), ("known", .v (.ref ak))] : List (Str × W)) := by
  obtain ⟨h1, h2, h3, h4, h5, h6⟩ := str_ne
  simp only [pF, if_neg h1, if_neg h2, if_neg h3, if_neg h4, if_neg h5, if_neg h6]
section
variable (d : Di) (some : List Int) (an ak : Addr)
theorem look_ne {α : Type} {k f : Str} {x : α} {l : List (Str × α)} (h : ¬ k = f) : ((k, x) :: l).lookup f = l.lookup f := by
  rw [List.lookup_cons]
  have : (f == k) = false := by simpa using fun e => h e.symm
  rw [this]
theorem look_eq {α : Type} {f : Str} {x : α} {l : List (Str × α)} : ((f, x) :: l).lookup f = Option.some x := by
  rw [List.lookup_cons]
  simp
theorem ctr_d : (ctrF d some an ak).lookup ("dither" : Str) = Option.some (.d d.data) := look_eq
theorem ctr_s : (ctrF d some an ak).lookup ("some" : Str) = Option.some (.d (eI some)) := by
  unfold ctrF
  rw [look_ne str_ne.1, look_eq]
theorem ctr_n : (ctrF d some an ak).lookup ("nexts" : Str) = Option.some (.v (.ref an)) := by
  unfold ctrF
  rw [look_ne str_ne.2.1, look_ne str_ne.2.2.1, look_eq]
theorem ctr_k : (ctrF d some an ak).lookup ("known" : Str) = Option.some (.v (.ref ak)) := by
  unfold ctrF
  rw [look_ne str_ne.2.2.2.1, look_ne str_ne.2.2.2.2.1, look_ne str_ne.2.2.2.2.2, look_eq]
theorem ctr_no {f : Str} (h1 : ¬ ("dither" : Str) = f) (h2 : ¬ ("some" : Str) = f) (h3 : ¬ ("nexts" : Str) = f) (h4 : ¬ ("known" : Str) = f) : (ctrF d some an ak).lookup f = none := by
  unfold ctrF
  rw [look_ne h1, look_ne h2, look_ne h3, look_ne h4]
  rfl
theorem ctr_next_of : (ctrF d some an ak).lookup ("next_of" : Str) = none := ctr_no d some an ak (by decide +kernel) (by decide +kernel) (by decide +kernel) (by decide +kernel)
theorem ctr_many : (ctrF d some an ak).lookup ("many" : Str) = none := ctr_no d some an ak (by decide +kernel) (by decide +kernel) (by decide +kernel) (by decide +kernel)
end
structure CtrT (K : PySem.W.Frag) (C : Addr) : Prop where
  cl : Cls K C
  nd : NoAttr K C "dither"
  ns : NoAttr K C "some"
  nn : NoAttr K C "nexts"
  nk : NoAttr K C "known"
structure DefM (K : PySem.W.Frag) (C : Addr) (m q : Str) (st : Stmt) (ps : List Str) : Prop where
  ex : ∃ (f : Addr) (fd : FuncData), Fun K m q st f fd ∧ Binds K fd ps [] ∧ Meth K C m f ∧ Cls K C
structure DefI (K : PySem.W.Frag) (mg : Str → Option Value) (C : Addr) (x q : Str) (st : Stmt) (ps : List Str) : Prop where
  ex : ∃ (f : Addr) (fd : FuncData), Fun K "__init__" q st f fd ∧ Binds K fd ps [] ∧ Mk K C f ∧ mg x = some (.ref C)
section
variable {Pg : Program} {w : World} {K : PySem.W.Frag} {mg : Str → Option Value} {base : Heap}
theorem fn_q {x q : Str} {st : Stmt} {N ps : List Str} {k : Nat} {R : List W → Mem → (W → Mem → Prop) → Prop} {f : Addr} {fd : FuncData} (F : Fun K x q st f fd) (S : FnScope N ps (defScope st)) (len : ∀ ws M P, R ws M P → ws.length = ps.length)
    (body : ∀ (cdv : Value) (A : Around) (outer : List Env) (s : Shared) (H : Hp) (E : XK), Room k (A.deeper (envOfC q (defScope st) s.heap.objs.size f cdv)) →
      ∃ t, PSs (cxOf CX0 Pg w K mg base N q (defScope st) f cdv A outer s H E).nox (defBody st) t ∧
        ∀ (ws : List W) (M : Mem) (P : W → Mem → Prop), R ws M P → Run K t { nx := fun _ M' => P (.d .none) M', rt := P } (ws ++ List.replicate (N.length - ws.length) .u) M) :
    FnOk Pg w K mg base CX0 (k + 1) f fd ps (FnP K R) := by
  refine F.ok S (fun vs H Q E h => ?_) (fun cdv A outer s H vs Q E hr h => ?_)
  · obtain ⟨G, M, ws, P, _, _, r, hR, _⟩ := h
    rw [r.length, len ws M P hR]
  · obtain ⟨G, M, ws, P, s0, m0, r, hR, kk⟩ := h
    obtain ⟨t, ht, hrun⟩ := body cdv A outer s H E hr
    refine ⟨t, ht, hrun ws M P hR _ _ G H ⟨fun ρ M' G' σ H' p a b c d => ?_, fun w M' G' v H' p a b c d => kk v G' H' w M' p a b c d, fun ρ M' G' σ H' p => p.elim, fun ρ M' G' σ H' p => p.elim⟩ s0 (repA_start N.length r) m0⟩
    exact kk .non G' H' (.d .none) M' p a b d .non
theorem fn_m {C : Addr} {x q : Str} {st : Stmt} {N ps : List Str} {k : Nat} {R : List W → Mem → (W → Mem → Prop) → Prop} (F : DefM K C x q st ps) (S : FnScope N ps (defScope st)) (len : ∀ ws M P, R ws M P → ws.length = ps.length)
    (body : ∀ (f : Addr) (cdv : Value) (A : Around) (outer : List Env) (s : Shared) (H : Hp) (E : XK), Room k (A.deeper (envOfC q (defScope st) s.heap.objs.size f cdv)) →
      ∃ t, PSs (cxOf CX0 Pg w K mg base N q (defScope st) f cdv A outer s H E).nox (defBody st) t ∧
        ∀ (ws : List W) (M : Mem) (P : W → Mem → Prop), R ws M P → Run K t { nx := fun _ M' => P (.d .none) M', rt := P } (ws ++ List.replicate (N.length - ws.length) .u) M) :
    C8.Met Pg w K mg base (k + 1) C x (FnP K R) [] := by
  obtain ⟨f, fd, F, b, m, c⟩ := F.ex
  exact ⟨f, fd, ps, [], c, m, fn_q F S len (body f), b, .nil⟩
theorem fn_i {C : Addr} {x q : Str} {st : Stmt} {N ps : List Str} {k : Nat} {R : List W → Mem → (W → Mem → Prop) → Prop} (F : DefI K mg C x q st ps) (S : FnScope N ps (defScope st)) (len : ∀ ws M P, R ws M P → ws.length = ps.length)
    (body : ∀ (f : Addr) (cdv : Value) (A : Around) (outer : List Env) (s : Shared) (H : Hp) (E : XK), Room k (A.deeper (envOfC q (defScope st) s.heap.objs.size f cdv)) →
      ∃ t, PSs (cxOf CX0 Pg w K mg base N q (defScope st) f cdv A outer s H E).nox (defBody st) t ∧
        ∀ (ws : List W) (M : Mem) (P : W → Mem → Prop), R ws M P → Run K t { nx := fun _ M' => P (.d .none) M', rt := P } (ws ++ List.replicate (N.length - ws.length) .u) M) :
    C8.Mak Pg w K mg base (k + 1) x C (FnP K R) [] := by
  obtain ⟨f, fd, F, b, m, c⟩ := F.ex
  exact ⟨f, fd, ps, [], m, fn_q F S len (body f), c, b, .nil⟩
end
end CD
/-! CDCtr: what the defs over Counter promise. -/
namespace CD
open PySem PySem.Spec PyProof.Rows L2 CM
abbrev rTupOf (K : PySem.W.Frag) : List V → Hp → VK → Prop := fun xs H Q => ∃ p ys, xs = [V.ref p] ∧ ((SqL K H p ys ∧ ∀ (l : Addr), H l = none → Q (V.ref l) (upd H l (HO.tup ys))) ∨ SqT K H p ys ∧ Q (V.ref p) H)
def R_count_results : RR := fun ws M P => ∃ (d : Di) (some : List Int) (n : Nat), d.Ok ∧ Some d some ∧ n ≤ 3 ∧ ws = [.d d.data, .d (eI some), dI (n : Nat)] ∧ P (dI ((lefts d some [(0, 0)] n).length : Nat)) M
def R_result_at : RR := fun ws M P => ∃ (d : Di) (some : List Int) (n r : Nat) (x : List Int), d.Ok ∧ Some d some ∧ n ≤ 3 ∧ (lefts d some [(0, 0)] n)[r]? = Option.some x ∧ ws = [.d d.data, .d (eI some), dI (n : Nat), dI (r : Nat)] ∧ P (.d (eI x)) M
def R_place_of : RR := fun ws M P => ∃ (d : Di) (some : List Int) (n r : Nat) (x : List Int), d.Ok ∧ Some d some ∧ n ≤ 3 ∧ (lefts d some [(0, 0)] n)[r]? = Option.some x ∧ ws = [.d d.data, .d (eI some), .d (eI x)] ∧ P (dI (r : Nat)) M
theorem ctr_drop {Pg : Program} {w : World} {K : PySem.W.Frag} {C : Addr} {d : Di} {some : List Int} {p an ak : Addr} {B : Nat} {M : Mem} : MemLe (ctrM Pg w K C d some p an ak B M) M := fun G H m => m.tail.tail.tail
theorem fB3 {n : Nat} (h : n ≤ 3) : fB n ≤ 86 := Nat.le_trans (fB_mono h) (by decide)
end CD
/-! CDWalk: enumerate(a list), enumerate(a tuple), range(i, j, -1). -/
namespace CD
open PySem PySem.Calls PySem.Spec PyProof.Rows L2 CM
set_option maxHeartbeats 4000000 in
theorem meets_enum1 {v : Value} {o : Obj} {H : Heap → Prop} (B : Begins v o H) :
    Meets (Builtin.«enumerate.__new__» ⟨[.type "enumerate", v], []⟩) (fun _ R s => H s.heap ∧
      R (.ok (.ret (.ref (s.heap.push o).objs.size))) { s with heap := (s.heap.push o).push { cls := .type "enumerate", data := .fields #[.none, .bool false, .ref s.heap.objs.size, rawInt 0, .none, .none] } }) :=
  .of_wp fun prog w A R s h => by
    obtain ⟨hp, g, d, tk, os⟩ := s; obtain ⟨h1, h⟩ := h
    have hsub := sub_enumerate
    have q1 : ∀ {A' : Around} {E : Value → Shared → Prop} {Q : Value → Shared → Prop}, Q (.ref hp.objs.size) ⟨hp.push o, g, d, tk, os⟩ → wpAny (model prog w) A' (pyIter v) Q E ⟨hp, g, d, tk, os⟩ :=
      fun q => B.iter prog w _ _ ⟨hp, g, d, tk, os⟩ _ h1 q
    wp_walk using q1
    refine wpAny_stack_any fun st => wpAny_pure ?_
    split
    · rename_i c _ _ _ _ _
      cases (c == Value.type "enumerate")
      · wp_walk using q1
        exact ⟨_, rfl, h⟩
      · wp_walk using q1
        exact ⟨_, rfl, h⟩
    · wp_walk using q1
      exact ⟨_, rfl, h⟩
section
variable {prog : Program} {w : World} {A : Around} {E : Value → Shared → Prop} {s : Shared}
theorem enum1_begins {v : Value} {o : Obj} {H : Heap → Prop} {Q : Value → Shared → Prop} (B : Begins v o H) (h1 : H s.heap)
    (h : ∀ h', IsEnum h' (s.heap.objs.size + 1) s.heap.objs.size 0 .none → h'.get? s.heap.objs.size = some o → h'.objs.size = s.heap.objs.size + 2 →
      (∀ b o, s.heap.get? b = some o → h'.get? b = some o) → Q (.ref (s.heap.objs.size + 1)) { s with heap := h' }) :
    wpAny (model prog w) A (call (.type "enumerate") [v]) Q E s := by
  refine callType_new F.called_enumerate (by decide) (F.typeCall_enumerate_1 _) (F.newCall_enumerate_1 _) (fun obj => F.args_object_init_2 obj _) F.entry_enumerate_new
    (meets_enum1 B) ⟨h1, ?_⟩
  have hz : (s.heap.push o).objs.size = s.heap.objs.size + 1 := Heap.size_push ..
  show _ ∧ _
  rw [hz]
  have he : IsEnum ((s.heap.push o).push { cls := .type "enumerate", data := .fields #[.none, .bool false, .ref s.heap.objs.size, rawInt 0, .none, .none] }) (s.heap.objs.size + 1) s.heap.objs.size 0 .none := by
    have := Heap.get?_push_size (s.heap.push o) (o := { cls := .type "enumerate", data := .fields #[.none, .bool false, .ref s.heap.objs.size, rawInt 0, .none, .none] }) rfl
    rw [hz] at this; exact this
  refine ⟨⟨_, he, rfl⟩, h _ he (Heap.get?_push_of_some _ (Heap.get?_push_size _ B.free)) (by rw [Heap.size_push, hz]) fun b o x => Heap.get?_push_of_some _ (Heap.get?_push_of_some _ x)⟩
end
/-- the tuple at a, each item in a new pair -/
def IteT (K : PySem.W.Frag) (a : Addr) : It :=
  ⟨fun i H => ∃ (xs : List V) (x : V), SqT K H a xs ∧ xs[i]? = some x, fun i H v H' => ∃ T x, v = .ref T ∧ H T = none ∧ H' = upd H T (.tup [.int (i : Nat), x]) ∧ ∀ xs, SqT K H a xs → xs[i]? = some x, fun i H => ∃ xs : List V, SqT K H a xs ∧ xs.length ≤ i⟩
theorem turn_enumT {P : Program} {w : World} {K : PySem.W.Frag} {elts : List Expr} {kk : Nat} {tpos : Pos} (a e it : Addr) (hea : e ≠ a) (hia : a ≠ it) :
    Turn P w K (.Tuple elts kk tpos) (IteT K a) [e, it] e (fun i h => (∃ old, IsEnum h e it ((i : Nat) : Int) old) ∧ h.IsTupleIter it a i ∧ e ≠ it) where
  mem := by simp
  obj := fun i h st b hb => by
    obtain ⟨⟨old, he⟩, ⟨o, ho, hc, hd⟩, _⟩ := st
    have e' : b = e ∨ b = it := by simpa using hb
    rcases e' with z | z
    · rw [z]; exact ⟨_, he, fun v q => nomatch q⟩
    · rw [z]; exact ⟨o, ho, fun v q => by rw [hd] at q; cases q⟩
  keep := fun i h h' st k => let ⟨⟨old, he⟩, hi, hne⟩ := st; ⟨⟨old, k e (by simp) _ he⟩, hi.at fun o q => k it (by simp) o q, hne⟩
  item := by
    intro X hP hw hK hc i pins s σ H E I hf st hg
    subst hP hw hK
    obtain ⟨⟨old, he⟩, hit, hne⟩ := st
    obtain ⟨xs, x, hq, hx⟩ := hg
    obtain ⟨its, rv, p, hz⟩ := I.tuple hq
    have hT0 : s.heap.IsTuple a its.toArray := p
    obtain ⟨u, hu, ru⟩ := rv.get hx
    have hel : e < s.heap.objs.size := Heap.lt_size he
    have hil : it < s.heap.objs.size := by obtain ⟨_, q, _⟩ := hit; exact Heap.lt_size q
    have D := Draws.tuple (prog := X.prog) (w := X.w) (A := X.A.in1) (I.ok.hd hc) it a hia its.toArray
    have hlt : i < its.toArray.size := by
      have := (List.getElem?_eq_some_iff.mp hu).1
      simpa using this
    refine wpAny_pyNext_enum_itemD D he ⟨hit, hT0⟩ hlt hne (by simp [hne, hea]) fun y h' tk hy ho hst hT hsz hk => ?_
    obtain ⟨hit', _⟩ := hst
    have hy' : y = u := by
      have e1 : its.toArray[i]? = some u := by simpa using hu
      rw [e1] at hy
      exact (Option.some.inj hy).symm
    subst hy'
    refine ⟨_, rfl, wpAny_letOwnedTupleGo_enum (s := { s with heap := h', toks := tk + 1 }) ho fun h'' he' sb => ?_⟩
    have hT2 : h''.get? s.heap.objs.size = some { cls := .type "tuple", data := .seq #[.int i tk, y] } := (sb.2 _ (Nat.ne_of_gt hel)).trans hT
    have new : ObjOk X.prog X.w (upd H s.heap.objs.size (.tup [.int (i : Nat), x])) h'' s.heap.objs.size (.tup [.int (i : Nat), x]) :=
      ⟨by show 2 ≤ sizeLine; decide, [.int i tk, y], .cons ⟨_, rfl⟩ (.cons ru .nil), ⟨_, hT2, rfl, _, rfl⟩⟩
    have I1 : Inv X pins σ (upd H s.heap.objs.size (.tup [.int (i : Nat), x])) { s with heap := h'', toks := tk + 1 } :=
      I.turnedNew (ch := [e, it]) (fun b ob hb q => (sb.2 b (fun z => hb (by simp [z]))).trans (hk b ob (fun z => hb (by simp [z])) (fun z => hb (by simp [z])) q)) hf (Nat.le_refl _) new
    refine ⟨.ref s.heap.objs.size, _, I1, rfl, ⟨_, x, rfl, I.hok.fresh (Nat.le_refl _), rfl, fun ys hy => by rw [I.tuple_inj hy hq]; exact hx⟩, ⟨⟨y, ?_⟩, hit'.at fun o q => (sb.2 it (Ne.symm hne)).trans q, hne⟩, fun b hb => ?_⟩
    · have e1 : ((i + 1 : Nat) : Int) = (i : Int) + 1 := by omega
      rw [e1]; exact he'
    · have hb' : b < s.heap.objs.size := by
        have e' : b = e ∨ b = it := by simpa using hb
        rcases e' with z | z
        · rw [z]; exact hel
        · rw [z]; exact hil
      rw [upd_ne (Nat.ne_of_lt hb')]
      exact (hf b hb).1
  done := by
    intro X hP hw hK hc i pins s σ H E I hf st hg
    subst hP hw hK
    obtain ⟨⟨old, he⟩, hit, hne⟩ := st
    obtain ⟨xs, hq, hx⟩ := hg
    obtain ⟨its, rv, p, hz⟩ := I.tuple hq
    have hT0 : s.heap.IsTuple a its.toArray := p
    obtain ⟨f0, f1, f2, f3, f4, f5⟩ := hf it (by simp)
    have hl := rv.length
    unfold pyNext
    have hT : s.TypeIs (.ref e) "enumerate" := ⟨_, he, rfl⟩
    refine wpAny_bind (wpAny_attempt (wpAny_callSpecial?_slot (name := Str.ofString "__next__") hT F.slot_enumerate_next
      (wpAny_call_entry F.slot_enumerate_next hT F.entry_enumerate_next ?_ (F.args_enumerate_next_1 _))))
    show wpAny _ _ (field (.ref e) 2 >>= _) _ _ _
    refine wpAny_bind (wpAny_field he rfl (x := .ref it) rfl ?_)
    refine wpAny_bind (wpAny_nextOf_tuple_end (I.ok.hd hc) hit hT0 (by simp; omega) fun h' x he' hx' => ?_)
    obtain ⟨o, ho, hcl⟩ := hx'
    refine wpAny_bind (wpAny_isInstance (T := "StopIteration") (b := true) ⟨o, ho, hcl⟩ isSubtype_stop ?_)
    exact wpAny_pure ⟨rfl, I.turned (t' := s.toks) (fun b o hb q => he' b o hb q) f0 f1 f3 f4 f5⟩
  self := fun A i s Q E st h => let ⟨⟨_, he⟩, _⟩ := st; wpAny_pyIter_enum he h
def iEnumT (K : PySem.W.Frag) (ta : TA) : TI := fun σ H R => ta σ H fun vs H1 => ∃ a xs, vs = [.ref a] ∧ SqT K H1 a xs ∧ R (IteT K a) H1
theorem pi_enumT {X : Cx} {e : Expr} {ta : TA} {p pos tpos : Pos} {elts : List Expr} {kk : Nat} (hg : Gl X "enumerate") (hm : X.mg "enumerate" = none) (ha : PA X [e] ta) (hs : starEach [e] X.env = [(false, eval e X.env)] := by rfl) :
    PI X (.Tuple elts kk tpos) (.Call (.Name "enumerate" p) [e] [] pos) (iEnumT X.K ta) := by
  refine ⟨fun pins s σ H R I h => ?_⟩
  refine Call_ (ld_blt I hg hm boot_enumerate (PyProof.Rows.callWith_type1 (thn (ha.run pos pins s σ H _ I h) fun us s1 ⟨vs, H1, I1, r1, q1⟩ => ?_) hs rfl))
  obtain ⟨a, xs, ex, hq, q⟩ := q1
  subst ex
  cases r1 with
  | cons r rr =>
    cases rr
    cases r
    obtain ⟨its, rv, p', hz⟩ := I1.tuple hq
    have hT0 : s1.heap.IsTuple a its.toArray := p'
    have hal : a < s1.heap.objs.size := by obtain ⟨_, q, _⟩ := hT0; exact Heap.lt_size q
    refine enum1_begins (begins_tuple a its.toArray) hT0 fun h' he hit hsz hk => wpAny_pyIter_enum he ?_
    have I2 : Inv X pins σ H1 { s1 with heap := h' } := I1.kept (t' := s1.toks) hk
    refine ⟨s1.heap.objs.size + 1, [s1.heap.objs.size + 1, s1.heap.objs.size], _, _, H1, rfl, I2, turn_enumT a (s1.heap.objs.size + 1) s1.heap.objs.size (Nat.ne_of_gt (Nat.lt_succ_of_lt hal)) (Nat.ne_of_lt hal), ⟨⟨.none, he⟩, ⟨_, hit, rfl, rfl⟩, Nat.succ_ne_self _⟩, fun b hb => ?_, q⟩
    have e' : b = s1.heap.objs.size + 1 ∨ b = s1.heap.objs.size := by simpa using hb
    have hle : s1.heap.objs.size ≤ b := by
      rcases e' with z | z
      · rw [z]; exact Nat.le_add_right _ _
      · rw [z]; exact Nat.le_refl _
    exact I1.fpOk hle (I1.hok.fresh hle)
/-! ### at the level of data -/
def enumD (ds : List PyData) : List PyData := (List.range ds.length).map fun i => PyData.tuple [.int ((i : Nat) : Int), ds.getD i .none]
theorem enumD_len (ds : List PyData) : (enumD ds).length = ds.length := by simp [enumD]
theorem enumD_get {ds : List PyData} {i : Nat} {x : PyData} (h : (enumD ds)[i]? = some x) : ∃ y, ds[i]? = some y ∧ x = .tuple [.int ((i : Nat) : Int), y] := by
  have hi : i < ds.length := by
    have := (List.getElem?_eq_some_iff.mp h).1
    rwa [enumD_len] at this
  unfold enumD at h
  rw [List.getElem?_map, List.getElem?_range hi] at h
  refine ⟨ds[i], List.getElem?_eq_getElem hi, ?_⟩
  cases h
  simp [List.getD, hi]
section
variable {K : PySem.W.Frag} {ρ : List W} {M : Mem}
theorem walk_enum {G1 : Hp} {a : Addr} {xs : List V} {ds : List PyData} (h : G1 a = some (.lst xs)) (r : RpAll K G1 xs ds) : Walk K (Ite K a) G1 (enumD ds) where
  stop := fun H s => ⟨xs, SqL.of (s _ _ h), by rw [r.length, enumD_len]; exact Nat.le_refl _⟩
  go := fun i H hi s => ⟨xs, xs[i]'(by rw [r.length]; rw [enumD_len] at hi; exact hi), SqL.of (s _ _ h), by simp⟩
  yld := fun i x G H M v H' hx s1 s m hy => by
    obtain ⟨T, y, e1, hT, e2, hall⟩ := hy
    subst e1 e2
    obtain ⟨z, hz, rfl⟩ := enumD_get hx
    obtain ⟨v1, e3, z1⟩ := r.get hz
    have h4 := hall xs (SqL.of (s _ _ (s1 _ _ h)))
    rw [e3] at h4
    have e5 := Option.some.inj h4
    subst e5
    have sn := same_new (o := .tup [.int (i : Nat), v1]) (s.free hT)
    exact ⟨_, sn, same_upd2 s, m.new s hT, .tup (SqT.of upd_same) (.cons (.int _) (.cons (Rp.mono (s1.trans sn) _ _ z1) .nil))⟩
theorem walk_enumT {G1 : Hp} {a : Addr} {xs : List V} {ds : List PyData} (h : SqT K G1 a xs) (r : RpAll K G1 xs ds) : Walk K (IteT K a) G1 (enumD ds) where
  stop := fun H s => ⟨xs, same_t s h, by rw [r.length, enumD_len]; exact Nat.le_refl _⟩
  go := fun i H hi s => ⟨xs, xs[i]'(by rw [r.length]; rw [enumD_len] at hi; exact hi), same_t s h, by simp⟩
  yld := fun i x G H M v H' hx s1 s m hy => by
    obtain ⟨T, y, e1, hT, e2, hall⟩ := hy
    subst e1 e2
    obtain ⟨z, hz, rfl⟩ := enumD_get hx
    obtain ⟨v1, e3, z1⟩ := r.get hz
    have h4 := hall xs (same_t (s1.trans s) h)
    rw [e3] at h4
    have e5 := Option.some.inj h4
    subst e5
    have sn := same_new (o := .tup [.int (i : Nat), v1]) (s.free hT)
    exact ⟨_, sn, same_upd2 s, m.new s hT, .tup (SqT.of upd_same) (.cons (.int _) (.cons (Rp.mono (s1.trans sn) _ _ z1) .nil))⟩
theorem wx_enum {ta : TA} {P : List PyData → Mem → Prop} (h : AX K ta ρ M fun ws M1 => ∃ ds, ws = [.d (.list ds)] ∧ P (enumD ds) M1) : IX K (iEnum K ta) ρ M P := fun σ G H R s e m q =>
  h σ G H _ s e m fun vs G1 H1 ws M1 ⟨ds, ew, p⟩ s1 s1' m1 r => by
    subst ew
    cases r with
    | cons r1 r =>
      cases r
      cases (show Rp K G1 _ (.list ds) from r1) with
      | @lst a as _ ha hra => exact ⟨a, as, rfl, SqL.of (s1' _ _ ha), q _ G1 H1 _ M1 p s1 s1' m1 (walk_enum ha hra)⟩
theorem wx_enumT {ta : TA} {P : List PyData → Mem → Prop} (h : AX K ta ρ M fun ws M1 => ∃ ds, ws = [.d (.tuple ds)] ∧ P (enumD ds) M1) : IX K (iEnumT K ta) ρ M P := fun σ G H R s e m q =>
  h σ G H _ s e m fun vs G1 H1 ws M1 ⟨ds, ew, p⟩ s1 s1' m1 r => by
    subst ew
    cases r with
    | cons r1 r =>
      cases r
      cases (show Rp K G1 _ (.tuple ds) from r1) with
      | @tup a as _ ha hra => exact ⟨a, as, rfl, same_t s1' ha, q _ G1 H1 _ M1 p s1 s1' m1 (walk_enumT ha hra)⟩
/-- lo, lo + c, .. -/
def rngC (lo c : Int) (n : Nat) : List PyData := (List.range n).map fun i : Nat => PyData.int (lo + (i : Int) * c)
theorem rngC_len (lo c : Int) (n : Nat) : (rngC lo c n).length = n := by simp [rngC]
theorem rngC_get {lo c : Int} {n i : Nat} {x : PyData} (h : (rngC lo c n)[i]? = some x) : i < n ∧ x = .int (lo + (i : Int) * c) := by
  have hi : i < n := by
    have := (List.getElem?_eq_some_iff.mp h).1
    rwa [rngC_len] at this
  refine ⟨hi, ?_⟩
  unfold rngC at h
  rw [List.getElem?_map, List.getElem?_range hi] at h
  cases h
  rfl
theorem walk_rngC {G1 : Hp} {lo c : Int} {n : Nat} : Walk K (Itc lo c n) G1 (rngC lo c n) where
  stop := fun H _ => by show n ≤ _; rw [rngC_len]; exact Nat.le_refl _
  go := fun i H hi _ => by show i < n; rw [rngC_len] at hi; exact hi
  yld := fun i x G H M v H' hx s1 s m hy => by
    obtain ⟨e1, e2⟩ := hy
    subst e1 e2
    obtain ⟨_, e3⟩ := rngC_get hx
    subst e3
    exact ⟨G, Same.refl G, s, m, .int _⟩
/-- range(i, j, -1) -/
theorem wx_rng3 {ta : TA} {P : List PyData → Mem → Prop} (h : AX K ta ρ M fun ws M1 => ∃ i j : Int, ws = [.d (.int i), .d (.int j), .d (.int (-1))] ∧ (-1000 ≤ i ∧ i ≤ 1000 ∧ -1000 ≤ j ∧ j ≤ 1000) ∧ P (rngC i (-1) (i - j).toNat) M1) : IX K (iRng3 ta) ρ M P := fun σ G H R s e m q =>
  h σ G H _ s e m fun vs G1 H1 ws M1 ⟨i, j, ew, hb, p⟩ s1 s1' m1 r => by
    subst ew
    cases r with
    | cons r1 r =>
      cases r with
      | cons r2 r =>
        cases r with
        | cons r3 r =>
          cases r
          cases (show Rp K G1 _ (.int i) from r1)
          cases (show Rp K G1 _ (.int j) from r2)
          cases (show Rp K G1 _ (.int (-1)) from r3)
          exact ⟨i, j, -1, _, rfl, RgC.neg (by omega) (by omega) (by omega) (by omega), q _ G1 H1 _ M1 p s1 s1' m1 walk_rngC⟩
end
section
variable {K : PySem.W.Frag} {ρ : List W} {M : Mem} {E : DE} {u : TS}
/-- for, the invariant told when it is known what is walked -/
theorem run_forE {wi : TI} {g : TG} {tb : TS} (h : IX K wi ρ M fun ds M1 => ∃ I : Nat → List W → Mem → Prop, I 0 ρ M1 ∧
    (∀ (i : Nat) (x : PyData) (ρ' : List W) (M' : Mem), ds[i]? = some x → I i ρ' M' → ∃ ρ2 is, GX K g x ρ' ρ2 is ∧ Run K tb { E with nx := I (i + 1), ct := I (i + 1), bk := E.nx } ρ2 M') ∧
    (∀ ρ' M', I ds.length ρ' M' → E.nx ρ' M')) : Run K (tFor wi g tb) E ρ M := fun D σ G H L s e m =>
  h σ G H _ s e m fun J G1 H1 ds M1 ⟨I, h0, hs, hd⟩ s1 s1' m1 wk => by
    refine ⟨fun i m σ' H' => m = ds.length - i ∧ i ≤ ds.length ∧ ∃ ρ' M' G', I i ρ' M' ∧ Same G1 G' ∧ Same G' H' ∧ RepE K G' σ' ρ' ∧ MemOk G' H' M',
      ⟨ds.length, by simp, Nat.zero_le _, ρ, M1, G1, h0, Same.refl _, s1', e.mono s1, m1⟩, ?_⟩
    rintro i mm σ' H' ⟨rfl, hi, ρ', M', G', hI, a1, a2, a3, a4⟩
    by_cases hlt : i < ds.length
    · refine .inr ⟨wk.go i H' hlt (a1.trans a2), fun σ2 H2 => ∃ ρ2 M2 G2, I (i + 1) ρ2 M2 ∧ Same G1 G2 ∧ Same G2 H2 ∧ RepE K G2 σ2 ρ2 ∧ MemOk G2 H2 M2, fun σ2 H2 ⟨ρ2, M2, G2, b⟩ => ⟨ds.length - (i + 1), by omega, rfl, hlt, ρ2, M2, G2, b⟩, fun x H2 hy => ?_⟩
      have hx : ds[i]? = some ds[i] := List.getElem?_eq_getElem hlt
      obtain ⟨G2, b1, b2, b3, b4⟩ := wk.yld i _ G' H' M' x H2 hx a1 a2 a4 hy
      obtain ⟨ρ2, is, hg, hr⟩ := hs i _ ρ' M' hx hI
      refine hg x σ' G2 H2 _ b2 (a3.mono b1) b4 fun σ3 e3 _ _ => hr _ σ3 G2 H2 ⟨fun ρ4 M4 G4 σ4 H4 c1 c2 c3 c4 c5 => ⟨ρ4, M4, G4, c1, (a1.trans b1).trans c2, c3, c4, c5⟩, fun w M4 G4 v H4 c1 c2 => L.rt w M4 G4 v H4 c1 (((s1.trans a1).trans b1).trans c2), fun ρ4 M4 G4 σ4 H4 c1 c2 => L.nx ρ4 M4 G4 σ4 H4 c1 (((s1.trans a1).trans b1).trans c2),
        fun ρ4 M4 G4 σ4 H4 c1 c2 c3 c4 c5 => ⟨ρ4, M4, G4, c1, (a1.trans b1).trans c2, c3, c4, c5⟩⟩ b2 e3 b3
    · have e' : i = ds.length := by omega
      subst e'
      exact .inl ⟨wk.stop H' (a1.trans a2), L.nx ρ' M' G' σ' H' (hd ρ' M' hI) (s1.trans a1) a2 a3 a4⟩
theorem q_forE {wi : TI} {g : TG} {tb : TS} (h : IX K wi ρ M fun ds M1 => ∃ I : Nat → List W → Mem → Prop, I 0 ρ M1 ∧
    (∀ (i : Nat) (x : PyData) (ρ' : List W) (M' : Mem), ds[i]? = some x → I i ρ' M' → ∃ ρ2 is, GX K g x ρ' ρ2 is ∧ Run K tb { E with nx := I (i + 1), ct := I (i + 1), bk := fun ρ' M' => Run K u E ρ' M' } ρ2 M') ∧
    (∀ ρ' M', I ds.length ρ' M' → Run K u E ρ' M')) : Run K (tSeq (tFor wi g tb) u) E ρ M := run_seq (run_forE h)
end
theorem room65 {k : Nat} {A : Around} (r : Room k A) : A.units + 65 < cLine := by
  have := r.un
  omega
theorem sum_take_succ {α : Type} (l : List α) (f : α → Nat) {j : Nat} {q : α} (h : l[j]? = some q) : ((l.take (j + 1)).map f).sum = ((l.take j).map f).sum + f q := by
  rw [List.take_add_one, h, List.map_append, List.sum_append]
  simp
theorem sum_take_le {α : Type} (f : α → Nat) : ∀ (l : List α) (j : Nat), ((l.take j).map f).sum ≤ (l.map f).sum
  | [], j => by simp
  | a :: l, 0 => by simp
  | a :: l, j + 1 => by
    have := sum_take_le f l j
    rw [List.take_succ_cons, List.map_cons, List.sum_cons, List.map_cons, List.sum_cons]
    omega
end CD
/-! CDSame: the plain mathematics of the law (words over levels come back; the greatest count), and short forms for its reading. -/
namespace CM
open PySem
theorem near_level {d : Di} (ok : d.Ok) {l : Int} (h : l ∈ d.levels) : nearest d l = l := by
  have h1 := (nearest_spec ok l).2 l h
  unfold iabs at h1
  split at h1 <;> split at h1 <;> omega
theorem part_0 (s dv : Int) : part 0 s dv = 0 := by
  unfold part
  have : iabs 0 * s / dv = 0 := by
    rw [show iabs 0 = 0 from rfl, Int.zero_mul, Int.zero_ediv]
  rw [this]
  split <;> rfl
theorem out_level {d : Di} (ok : d.Ok) {l : Int} (h : l ∈ d.levels) : out d (0, 0) l = l := by
  unfold out
  rw [Int.add_zero]
  exact near_level ok h
theorem nxt_level {d : Di} (ok : d.Ok) {l : Int} (h : l ∈ d.levels) : nxt d (0, 0) l = (0, 0) := by
  have e : err d (0, 0) l = 0 := by
    unfold err
    rw [out_level ok h]
    show l + 0 - l = 0
    omega
  rw [nxt_hand ok, e]
  unfold hand2
  rw [part_0, part_0]
  split <;> rfl
theorem walk_level {d : Di} (ok : d.Ok) : ∀ {w : List Int}, (∀ x ∈ w, x ∈ d.levels) → walkO d (0, 0) w = w
  | [], _ => rfl
  | x :: w, h => by
    have hx := h x List.mem_cons_self
    show out d (0, 0) x :: walkO d (nxt d (0, 0) x) w = x :: w
    rw [out_level ok hx, nxt_level ok hx, walk_level ok fun y hy => h y (List.mem_cons_of_mem _ hy)]
theorem levels_some {d : Di} (ok : d.Ok) : Some d d.levels where
  ne := fun e => by
    have := ok.len.1
    rw [e] at this
    simp at this
  ok := ok.rng
  asc := ok.asc
theorem cnt_level {d : Di} (ok : d.Ok) : ∀ {w : List Int}, (∀ x ∈ w, x ∈ d.levels) → 0 < cnt d d.levels (0, 0) w
  | [], _ => by show 0 < 1; decide
  | x :: w, h => by
    have hx := h x List.mem_cons_self
    refine (sum_pos_iff _ _).mpr ⟨x, hx, ?_⟩
    rw [if_pos (out_level ok hx), nxt_level ok hx]
    exact cnt_level ok fun y hy => h y (List.mem_cons_of_mem _ hy)
theorem lefts_eq (d : Di) (some : List Int) (n : Nat) : lefts d some [(0, 0)] n = (rowsC d.levels n).filter fun w => decide (0 < cnt d some (0, 0) w) := by
  unfold lefts
  refine List.filter_congr fun w _ => ?_
  unfold poss
  simp
end CM
namespace CD
open PySem PySem.Spec PyProof.Rows L2 CM
theorem best_is {d : Di} {n best b : Nat} {w0 : List Int} (B : Best d n best w0) (h1 : ∃ y ∈ rowsC d.levels n, cnt d (evL d) (0, 0) y = b) (h2 : ∀ y ∈ rowsC d.levels n, cnt d (evL d) (0, 0) y ≤ b) : b = best := by
  obtain ⟨y, hy, e⟩ := h1
  have h3 := B.1 y hy
  have h4 := List.mem_of_head? B.2
  obtain ⟨h5, h6⟩ := List.mem_filter.mp h4
  have h7 := h2 w0 h5
  have h8 := of_decide_eq_true h6
  omega
theorem best_uniq {d : Di} {n best b : Nat} {w0 w : List Int} (B : Best d n best w0) (B2 : Best d n b w) : best = b ∧ w0 = w := by
  have h4 := List.mem_of_head? B2.2
  obtain ⟨h5, h6⟩ := List.mem_filter.mp h4
  have e : b = best := best_is B ⟨w, h5, of_decide_eq_true h6⟩ B2.1
  subst e
  have h7 := B.2
  rw [B2.2] at h7
  exact ⟨rfl, (Option.some.inj h7).symm⟩
def dLine : Di := ⟨4, [0, 4], [1], 1, false⟩
def dTwo : Di := ⟨2, [0, 1, 2], [1], 2, false⟩
theorem ok_line : dLine.Ok := ⟨by decide, by decide, by decide, by decide, rfl, rfl, by decide, by decide, by decide, by decide⟩
theorem ok_two : dTwo.Ok := ⟨by decide, by decide, by decide, by decide, rfl, rfl, by decide, by decide, by decide, by decide⟩
theorem best_line : Best dLine 2 9 [0, 4] := by
  unfold Best
  decide +kernel
theorem best_two : Best dTwo 5 1 [0, 0, 0, 0, 0] := by
  unfold Best
  decide +kernel
/-! ### encodings -/
theorem En.int1 : En (α := Int) .int 1 := ⟨En.int.lay, fun a => Nat.le_trans (En.int.dep a) (Nat.zero_le _), En.int.eqv⟩
theorem en_B : En (fun p : Int × List Int => .tuple [.int p.1, eI p.2]) 2 := En.int1.pair en_I
theorem en_L : En (fun l : List (List Int) => .list (l.map eI)) 2 := en_I.list
/-- a word and its count -/
def cE (c : List Int → Nat) (x : List Int) : PyData := .tuple [eI x, .int (c x : Nat)]
theorem any_eqv (x : List Int) : ∀ l : List (List Int), ((l.map eI).any fun z => PyData.eqv z (eI x)) = decide (x ∈ l)
  | [] => by simp
  | y :: l => by
    rw [List.map_cons, List.any_cons, any_eqv x l, en_I.eqv, ← Bool.decide_or]
    refine decide_eq_decide.mpr ?_
    rw [List.mem_cons]
    exact ⟨fun h => h.imp (fun e => e.symm) id, fun h => h.imp (fun e => e.symm) id⟩
section
variable {K : PySem.W.Frag} {ρ : List W} {M M' : Mem} {P : W → Mem → Prop} {te : TE} {wi : TI} {g : TG} {tt : TT} {E : DE} {t : TS}
theorem rx_neB {a b : Bool} (h : P (.d (.bool (!decide (a = b)))) M) : RX K rNe (.d (.bool a)) (.d (.bool b)) M P := fun x y G H Q s m rx ry q => by
  cases rx; cases ry
  have e : decide (V.bl a = V.bl b) = decide (a = b) := decide_eq_decide.mpr ⟨fun z => V.bl.inj z, fun z => by rw [z]⟩
  refine ⟨rfl, ?_⟩
  rw [e]
  exact q _ G H _ M h (Same.refl G) s m (.bl _)
theorem rx_notB {a b : Bool} (h : P (.d (.bool (!decide (a = b)))) M) : RX K rNotB (.d (.bool a)) (.d (.bool b)) M P := fun x y G H Q s m rx ry q => by
  cases rx; cases ry
  exact ⟨a, b, rfl, rfl, q _ G H _ M h (Same.refl G) s m (.bl _)⟩
theorem rx_inW {x : List Int} {l : List (List Int)} (h : P (.d (.bool (decide (x ∈ l)))) M) : RX K (rInD K) (.d (eI x)) (.d (.list (l.map eI))) M P := fun u v G H Q s m rx ry q => by
  have sx := en_I.shaped (by decide) x
  have sl := en_L.shaped (by decide) l
  refine ⟨eI x, l.map eI, Rp.dp s _ _ (SeqAt.canLay_of_shaped sx) rx, Rp.dp s _ _ (SeqAt.canLay_of_shaped sl) ry, sx, sl, ?_⟩
  rw [any_eqv]
  exact q _ G H _ M h (Same.refl G) s m (.bl _)
theorem rx_neW {b : Int} {x : List Int} (h : P (.d (.bool false)) M) : RX K (rNeD K) (.d (.tuple [.int b, eI x])) (.d (.tuple [.int b, eI x])) M P := by
  refine rx_neD (en_B.shaped (by decide) (b, x)) (en_B.shaped (by decide) (b, x)) ?_
  have e : PyData.eqv (.tuple [.int b, eI x]) (.tuple [.int b, eI x]) = true := (en_B.eqv (b, x) (b, x)).trans (by simp)
  rw [e]
  exact h
theorem rx_eqW {b : Int} {x : List Int} (h : P (.d (.bool true)) M) : RX K (rEqD K) (.d (.tuple [.int b, eI x])) (.d (.tuple [.int b, eI x])) M P := by
  refine rx_eqD (en_B.shaped (by decide) (b, x)) (en_B.shaped (by decide) (b, x)) ?_
  have e : PyData.eqv (.tuple [.int b, eI x]) (.tuple [.int b, eI x]) = true := (en_B.eqv (b, x) (b, x)).trans (by simp)
  rw [e]
  exact h
theorem run_ifF {tc : TT} (h : BX K tc ρ M fun b M1 => b = false ∧ E.nx ρ M1) : Run K (tIfS tc t tNext) E ρ M :=
  run_if (BX.imp (P := fun b M1 => b = false ∧ E.nx ρ M1) h fun b M' hh => ⟨fun z => (by rw [hh.1] at z; cases z), fun _ => run_next hh.2⟩)
/-- a comprehension without a test over typed data, nothing changed -/
theorem tx_lcU {ι : Type} {enc : ι → PyData} {vs : List Nat} (h : IX K wi ρ M fun ds M1 => ∃ (l : List ι) (gf : ι → PyData), ds = l.map enc ∧ l.length ≤ 50000 ∧
    (∀ (i : Nat) (q : ι) (F : Mem), l[i]? = Option.some q → ∃ ρ2 is, GX K g (enc q) (wipeW ρ vs) ρ2 is ∧ (∀ j ∈ is, j ∈ vs) ∧ TX K te ρ2 (M1 ++ F) fun w M3 => M3 = M1 ++ F ∧ w = .d (gf q)) ∧
    P (.d (.list (l.map gf))) M1) : TX K (tLc wi g tYes te vs) ρ M P := by
  refine tx_lcT (enc := enc) fun σ G H R s e m q => h σ G H R s e m fun J G1 H1 ds M1 ⟨l, gf, hds, hl, hs, hp⟩ => q J G1 H1 ds M1 ⟨l, fun _ => true, gf, fun _ => M1, hds, rfl, hl, fun i z F hz => ?_, ?_⟩
  · obtain ⟨ρ2, is, h1, h2, h3⟩ := hs i z F hz
    exact ⟨ρ2, is, h1, h2, bx_yes ⟨rfl, rfl, fun _ => MemLe.rfl, fun _ => h3.imp fun w M3 ⟨e1, e2⟩ => ⟨by rw [e1]; exact MemLe.rfl, e2⟩⟩⟩
  · rw [List.filter_eq_self.mpr fun _ _ => rfl]
    exact hp
/-- .. with a test -/
theorem tx_lcV {ι : Type} {enc : ι → PyData} {vs : List Nat} (h : IX K wi ρ M fun ds M1 => ∃ (l : List ι) (p : ι → Bool) (gf : ι → PyData), ds = l.map enc ∧ l.length ≤ 50000 ∧
    (∀ (i : Nat) (q : ι) (F : Mem), l[i]? = Option.some q → ∃ ρ2 is, GX K g (enc q) (wipeW ρ vs) ρ2 is ∧ (∀ j ∈ is, j ∈ vs) ∧ BX K tt ρ2 (M1 ++ F) fun b M2 => M2 = M1 ++ F ∧ b = p q ∧ (b = true → TX K te ρ2 (M1 ++ F) fun w M3 => M3 = M1 ++ F ∧ w = .d (gf q))) ∧
    P (.d (.list ((l.filter p).map gf))) M1) : TX K (tLc wi g tt te vs) ρ M P := by
  refine tx_lcT (enc := enc) fun σ G H R s e m q => h σ G H R s e m fun J G1 H1 ds M1 ⟨l, p, gf, hds, hl, hs, hp⟩ => q J G1 H1 ds M1 ⟨l, p, gf, fun _ => M1, hds, rfl, hl, fun i z F hz => ?_, hp⟩
  obtain ⟨ρ2, is, h1, h2, h3⟩ := hs i z F hz
  exact ⟨ρ2, is, h1, h2, h3.imp fun b M2 ⟨e1, e2, e3⟩ => ⟨e1, e2, fun _ => MemLe.rfl, fun hb => (e3 hb).imp fun w M3 ⟨e4, e5⟩ => ⟨by rw [e4]; exact MemLe.rfl, e5⟩⟩⟩
end
end CD
namespace CD
open PySem PySem.Spec PyProof.Rows L2 CM
/-! ### the text -/
def topS (i : Nat) : Stmt := PySem.Challenge.pw_carrydithers_k13_whole_results_share_all.main.body.getD i (.Pass ⟨0, 0, 0, 0⟩)
abbrev s_is_between : Stmt := topS 14
abbrev nm_is_between : List Str := ["value", "low", "high"]
theorem sc_is_between : FnScope nm_is_between ["value", "low", "high"] (defScope s_is_between) := ⟨rfl, rfl, rfl, by decide +kernel, rfl, by decide +kernel, by decide +kernel⟩
abbrev s_are_levels : Stmt := topS 15
abbrev nm_are_levels : List Str := ["value", "top", "level", "one", "other"]
theorem sc_are_levels : FnScope nm_are_levels ["value", "top"] (defScope s_are_levels) := ⟨rfl, rfl, rfl, by decide +kernel, rfl, by decide +kernel, by decide +kernel⟩
abbrev s_are_shares : Stmt := topS 16
abbrev nm_are_shares : List Str := ["value", "divisor", "share"]
theorem sc_are_shares : FnScope nm_are_shares ["value", "divisor"] (defScope s_are_shares) := ⟨rfl, rfl, rfl, by decide +kernel, rfl, by decide +kernel, by decide +kernel⟩
abbrev s_is_dither : Stmt := topS 17
abbrev nm_is_dither : List Str := ["value", "top", "levels", "shares", "divisor", "tie"]
theorem sc_is_dither : FnScope nm_is_dither ["value"] (defScope s_is_dither) := ⟨rfl, rfl, rfl, by decide +kernel, rfl, by decide +kernel, by decide +kernel⟩
abbrev s_need_dither : Stmt := topS 18
abbrev nm_need_dither : List Str := ["dither"]
theorem sc_need_dither : FnScope nm_need_dither ["dither"] (defScope s_need_dither) := ⟨rfl, rfl, rfl, by decide +kernel, rfl, by decide +kernel, by decide +kernel⟩
abbrev s_is_shade : Stmt := topS 19
abbrev nm_is_shade : List Str := ["dither", "value"]
theorem sc_is_shade : FnScope nm_is_shade ["dither", "value"] (defScope s_is_shade) := ⟨rfl, rfl, rfl, by decide +kernel, rfl, by decide +kernel, by decide +kernel⟩
abbrev s_need_row : Stmt := topS 20
abbrev nm_need_row : List Str := ["dither", "row", "shade"]
theorem sc_need_row : FnScope nm_need_row ["dither", "row"] (defScope s_need_row) := ⟨rfl, rfl, rfl, by decide +kernel, rfl, by decide +kernel, by decide +kernel⟩
abbrev s_need_some : Stmt := topS 21
abbrev nm_need_some : List Str := ["dither", "some", "shade", "one", "other"]
theorem sc_need_some : FnScope nm_need_some ["dither", "some"] (defScope s_need_some) := ⟨rfl, rfl, rfl, by decide +kernel, rfl, by decide +kernel, by decide +kernel⟩
abbrev s_are_outputs : Stmt := topS 22
abbrev nm_are_outputs : List Str := ["dither", "value", "most", "output"]
theorem sc_are_outputs : FnScope nm_are_outputs ["dither", "value", "most"] (defScope s_are_outputs) := ⟨rfl, rfl, rfl, by decide +kernel, rfl, by decide +kernel, by decide +kernel⟩
abbrev s_need_outputs : Stmt := topS 23
abbrev nm_need_outputs : List Str := ["dither", "outputs"]
theorem sc_need_outputs : FnScope nm_need_outputs ["dither", "outputs"] (defScope s_need_outputs) := ⟨rfl, rfl, rfl, by decide +kernel, rfl, by decide +kernel, by decide +kernel⟩
abbrev s_exact : Stmt := topS 24
abbrev nm_exact : List Str := ["dither"]
theorem sc_exact : FnScope nm_exact ["dither"] (defScope s_exact) := ⟨rfl, rfl, rfl, by decide +kernel, rfl, by decide +kernel, by decide +kernel⟩
abbrev s_nearest : Stmt := topS 25
abbrev nm_nearest : List Str := ["dither", "value", "found", "level", "away", "best"]
theorem sc_nearest : FnScope nm_nearest ["dither", "value"] (defScope s_nearest) := ⟨rfl, rfl, rfl, by decide +kernel, rfl, by decide +kernel, by decide +kernel⟩
abbrev s_part : Stmt := topS 26
abbrev nm_part : List Str := ["error", "share", "divisor", "found"]
theorem sc_part : FnScope nm_part ["error", "share", "divisor"] (defScope s_part) := ⟨rfl, rfl, rfl, by decide +kernel, rfl, by decide +kernel, by decide +kernel⟩
abbrev s_step : Stmt := topS 27
abbrev nm_step : List Str := ["dither", "here", "shade", "value", "output", "error", "later", "first"]
theorem sc_step : FnScope nm_step ["dither", "here", "shade"] (defScope s_step) := ⟨rfl, rfl, rfl, by decide +kernel, rfl, by decide +kernel, by decide +kernel⟩
abbrev s_walk : Stmt := topS 28
abbrev nm_walk : List Str := ["dither", "here", "row", "outputs", "shade", "output", "error"]
theorem sc_walk : FnScope nm_walk ["dither", "here", "row"] (defScope s_walk) := ⟨rfl, rfl, rfl, by decide +kernel, rfl, by decide +kernel, by decide +kernel⟩
abbrev s_result : Stmt := topS 29
abbrev nm_result : List Str := ["dither", "row"]
theorem sc_result : FnScope nm_result ["dither", "row"] (defScope s_result) := ⟨rfl, rfl, rfl, by decide +kernel, rfl, by decide +kernel, by decide +kernel⟩
abbrev s_shades_of : Stmt := topS 30
abbrev nm_shades_of : List Str := ["dither"]
theorem sc_shades_of : FnScope nm_shades_of ["dither"] (defScope s_shades_of) := ⟨rfl, rfl, rfl, by decide +kernel, rfl, by decide +kernel, by decide +kernel⟩
abbrev s_stages_of : Stmt := topS 32
abbrev nm_stages_of : List Str := ["dither", "some", "outputs", "found", "output", "later", "here", "count", "shade", "told", "error", "there"]
theorem sc_stages_of : FnScope nm_stages_of ["dither", "some", "outputs"] (defScope s_stages_of) := ⟨rfl, rfl, rfl, by decide +kernel, rfl, by decide +kernel, by decide +kernel⟩
abbrev s_count_of : Stmt := topS 33
abbrev nm_count_of : List Str := ["dither", "some", "outputs"]
theorem sc_count_of : FnScope nm_count_of ["dither", "some", "outputs"] (defScope s_count_of) := ⟨rfl, rfl, rfl, by decide +kernel, rfl, by decide +kernel, by decide +kernel⟩
abbrev s_is_possible : Stmt := topS 34
abbrev nm_is_possible : List Str := ["dither", "some", "outputs"]
theorem sc_is_possible : FnScope nm_is_possible ["dither", "some", "outputs"] (defScope s_is_possible) := ⟨rfl, rfl, rfl, by decide +kernel, rfl, by decide +kernel, by decide +kernel⟩
abbrev s_count_rows : Stmt := topS 35
abbrev nm_count_rows : List Str := ["dither", "some", "outputs"]
theorem sc_count_rows : FnScope nm_count_rows ["dither", "some", "outputs"] (defScope s_count_rows) := ⟨rfl, rfl, rfl, by decide +kernel, rfl, by decide +kernel, by decide +kernel⟩
abbrev s_next_lots : Stmt := topS 39
abbrev nm_next_lots : List Str := ["dither", "some", "lot", "found", "here", "shade", "output", "error", "there"]
theorem sc_next_lots : FnScope nm_next_lots ["dither", "some", "lot"] (defScope s_next_lots) := ⟨rfl, rfl, rfl, by decide +kernel, rfl, by decide +kernel, by decide +kernel⟩
abbrev s_Counter_init : Stmt := inClass (topS 40) 0
abbrev nm_Counter_init : List Str := ["self", "dither", "some"]
theorem sc_Counter_init : FnScope nm_Counter_init ["self", "dither", "some"] (defScope s_Counter_init) := ⟨rfl, rfl, rfl, by decide +kernel, rfl, by decide +kernel, by decide +kernel⟩
abbrev s_Counter_next_of : Stmt := inClass (topS 40) 1
abbrev nm_Counter_next_of : List Str := ["self", "lot"]
theorem sc_Counter_next_of : FnScope nm_Counter_next_of ["self", "lot"] (defScope s_Counter_next_of) := ⟨rfl, rfl, rfl, by decide +kernel, rfl, by decide +kernel, by decide +kernel⟩
abbrev s_Counter_many : Stmt := inClass (topS 40) 2
abbrev nm_Counter_many : List Str := ["self", "lot", "number", "output", "there"]
theorem sc_Counter_many : FnScope nm_Counter_many ["self", "lot", "number"] (defScope s_Counter_many) := ⟨rfl, rfl, rfl, by decide +kernel, rfl, by decide +kernel, by decide +kernel⟩
abbrev s_need_number : Stmt := topS 41
abbrev nm_need_number : List Str := ["number", "most"]
theorem sc_need_number : FnScope nm_need_number ["number", "most"] (defScope s_need_number) := ⟨rfl, rfl, rfl, by decide +kernel, rfl, by decide +kernel, by decide +kernel⟩
abbrev s_count_results : Stmt := topS 42
abbrev nm_count_results : List Str := ["dither", "some", "number"]
theorem sc_count_results : FnScope nm_count_results ["dither", "some", "number"] (defScope s_count_results) := ⟨rfl, rfl, rfl, by decide +kernel, rfl, by decide +kernel, by decide +kernel⟩
abbrev s_result_at : Stmt := topS 43
abbrev nm_result_at : List Str := ["dither", "some", "number", "place", "counter", "lot", "found", "left", "rest", "output", "there", "many"]
theorem sc_result_at : FnScope nm_result_at ["dither", "some", "number", "place"] (defScope s_result_at) := ⟨rfl, rfl, rfl, by decide +kernel, rfl, by decide +kernel, by decide +kernel⟩
abbrev s_place_of : Stmt := topS 44
abbrev nm_place_of : List Str := ["dither", "some", "outputs", "counter", "lot", "found", "index", "output", "nexts", "rest", "level", "there"]
theorem sc_place_of : FnScope nm_place_of ["dither", "some", "outputs"] (defScope s_place_of) := ⟨rfl, rfl, rfl, by decide +kernel, rfl, by decide +kernel, by decide +kernel⟩
abbrev s_behind_output : Stmt := topS 45
abbrev nm_behind_output : List Str := ["dither", "counts", "output", "found", "here", "count", "shade", "told", "error", "there"]
theorem sc_behind_output : FnScope nm_behind_output ["dither", "counts", "output"] (defScope s_behind_output) := ⟨rfl, rfl, rfl, by decide +kernel, rfl, by decide +kernel, by decide +kernel⟩
abbrev s_most_rows : Stmt := topS 46
abbrev nm_most_rows : List Str := ["dither", "number", "level", "turn", "later", "outputs", "counts", "output", "some", "best"]
theorem sc_most_rows : FnScope nm_most_rows ["dither", "number"] (defScope s_most_rows) := ⟨rfl, rfl, rfl, by decide +kernel, rfl, by decide +kernel, by decide +kernel⟩
abbrev s__law_source : Stmt := topS 48
abbrev nm__law_source : List Str := ["_law_script", "_law_index", "_law_cell"]
theorem sc__law_source : FnScope nm__law_source ["_law_script", "_law_index"] (defScope s__law_source) := ⟨rfl, rfl, rfl, by decide +kernel, rfl, by decide +kernel, by decide +kernel⟩
abbrev s__law_draw : Stmt := topS 49
abbrev nm__law_draw : List Str := ["_law_source_here", "_law_size", "_law_drawn"]
theorem sc__law_draw : FnScope nm__law_draw ["_law_source_here", "_law_size"] (defScope s__law_draw) := ⟨rfl, rfl, rfl, by decide +kernel, rfl, by decide +kernel, by decide +kernel⟩
abbrev s__law_choice : Stmt := topS 50
abbrev nm__law_choice : List Str := ["_law_source_here", "_law_items"]
theorem sc__law_choice : FnScope nm__law_choice ["_law_source_here", "_law_items"] (defScope s__law_choice) := ⟨rfl, rfl, rfl, by decide +kernel, rfl, by decide +kernel, by decide +kernel⟩
abbrev s__law_dither : Stmt := topS 51
abbrev nm__law_dither : List Str := ["_law_source_here", "_law_most", "_law_top", "_law_inner", "_law_divide", "_law_first", "_law_some_here", "_law_shares_so", "_law_level"]
theorem sc__law_dither : FnScope nm__law_dither ["_law_source_here", "_law_most"] (defScope s__law_dither) := ⟨rfl, rfl, rfl, by decide +kernel, rfl, by decide +kernel, by decide +kernel⟩
abbrev s__law_some : Stmt := topS 52
abbrev nm__law_some : List Str := ["_law_source_here", "_law_dither_here", "_law_every", "_law_found", "_law_shade"]
theorem sc__law_some : FnScope nm__law_some ["_law_source_here", "_law_dither_here"] (defScope s__law_some) := ⟨rfl, rfl, rfl, by decide +kernel, rfl, by decide +kernel, by decide +kernel⟩
abbrev s__law_rows_of : Stmt := topS 53
abbrev nm__law_rows_of : List Str := ["_law_some_here", "_law_number", "_law_found", "_law_turn", "_law_longer", "_law_row", "_law_shade"]
theorem sc__law_rows_of : FnScope nm__law_rows_of ["_law_some_here", "_law_number"] (defScope s__law_rows_of) := ⟨rfl, rfl, rfl, by decide +kernel, rfl, by decide +kernel, by decide +kernel⟩
abbrev s_law : Stmt := topS 54
abbrev nm_law : List Str := ["_law_script", "_law_k", "_law_source_here", "_law_turn", "_law_dither_here", "_law_some_here", "_law_number", "_law_words", "_law_counts", "_law_left", "_law_place", "_law_word", "_law_count", "_law_every", "_law_best", "_law_line"]
theorem sc_law : FnScope nm_law ["_law_script"] (defScope s_law) := ⟨rfl, rfl, rfl, by decide +kernel, rfl, by decide +kernel, by decide +kernel⟩
end CD
namespace CD
open PySem PySem.Spec PyProof.Rows L2 CM
theorem len_is_between : ∀ ws M P, (R_is_between) ws M P → ws.length = 3 := by
  intro ws M P h
  obtain ⟨_, _, _, e, _⟩ := h
  rw [e]
  rfl
theorem ok_is_between {Pg : Program} {w : World} {K : PySem.W.Frag} {mg : Str → Option Value} {base : Heap} (F : DefD K mg "is_between" s_is_between ["value", "low", "high"]) (B : Bi mg)  : C8.Cal Pg w K mg base 1 "is_between" (FnP K R_is_between) [] := by
  refine fn_d F sc_is_between len_is_between fun f cdv A outer s H E hr => ⟨_, pss_one (ps_ret (pe_and (pe_callB call_isi (by rfl) B.isinstance bt_isinstance (pa_cons (pv 0) (pa_cons (pe_bltn (v := .ty "int") (by rfl) B.int_ bt_int rfl) pa_nil))) (pe_and (pe_not (pe_callB call_isi (by rfl) B.isinstance bt_isinstance (pa_cons (pv 0) (pa_cons (pe_bltn (v := .ty "bool") (by rfl) B.bool_ bt_bool rfl) pa_nil)))) (pe_one (pe_chain op_le op_le (pv 1) (pv 0) (pv 2)))))), fun ws M P hR => ?_⟩
  obtain ⟨v, lo, hi, rfl, h⟩ := hR
  refine run_ret (tx_and (tx_isi rfl rfl kit_ii ⟨true, rfl, (fun z => nomatch z), fun _ => tx_and (tx_not (tx_isi rfl rfl kit_ib ⟨false, rfl, true, rfl, (fun z => nomatch z), fun _ => ?_⟩))⟩))
  refine tx_chain (tx_var rfl (tx_var rfl (rx_le ⟨_, rfl, fun e => ?_, fun e => tx_var rfl (rx_le ?_)⟩)))
  · rw [e] at h
    exact h
  · rw [e] at h
    exact h
end CD
namespace CD
open PySem PySem.Spec PyProof.Rows L2 CM
theorem len_are_levels : ∀ ws M P, (R_are_levels) ws M P → ws.length = 2 := by
  intro ws M P h
  obtain ⟨_, _, e, _⟩ := h
  rw [e]
  rfl
theorem ok_are_levels {Pg : Program} {w : World} {K : PySem.W.Frag} {mg : Str → Option Value} {base : Heap} (F : DefD K mg "are_levels" s_are_levels ["value", "top"]) (B : Bi mg) (G_MOST_LEVELS : GInt mg "MOST_LEVELS" 6) (C_is_between : C8.Cal Pg w K mg base 1 "is_between" (FnP K R_is_between) []) : C8.Cal Pg w K mg base 2 "are_levels" (FnP K R_are_levels) [] := by
  refine fn_d F sc_are_levels len_are_levels fun f cdv A outer s H E hr => ⟨_, pss_cons (ps_if (PW.pt (pw_or (pt_not (pt_val (pe_callB call_isi (by rfl) B.isinstance bt_isinstance (pa_cons (pv 0) (pa_cons (pe_bltn (v := .ty "tuple") (by rfl) B.tuple_ bt_tuple rfl) pa_nil))))) (pw_or1 (pt_not (pt_chain op_le op_le pe_int (pe_callB call_len (by rfl) B.len bt_len (pa_cons (pv 0) pa_nil)) (C8.pe_gc (by rfl) G_MOST_LEVELS)))))) (pss_one (ps_ret pe_bl)) (pss_nil))
      (pss_cons (ps_if (pt_not (pt_val (pe_callB (cr_all rfl) (by rfl) B.all bt_all (pa_cons (pe_lc (own := [("level", 2)]) (g := gName 2) rfl sc_are_levels.nd (pi_tup (pv 0)) (blkOk_by (own := [("level", 2)]) (N := nm_are_levels) (sc := defScope s_are_levels) (by decide +kernel)) (fun _ _ _ _ _ => pg_name (i := 2) sc_are_levels.nd rfl (Or.inl rfl)) (fun _ _ _ _ _ => pts_nil) (fun _ _ _ _ _ => C8.pe_c C_is_between hr (by decide) (by rfl) (pa_cons (pv 2) (pa_cons pe_int (pa_cons (pv 1) pa_nil))))) pa_nil)))) (pss_one (ps_ret pe_bl)) (pss_nil))
      (pss_one (ps_ret (pe_and (pe_cmpR op_eq (pe_ix ix_tup (pv 0) pe_int (fun _ _ => rfl)) pe_int (nomark _)) (pe_and (pe_cmpR op_eq (pe_ix ix_tup (pv 0) (pe_un un_neg pe_int) (fun _ _ => rfl)) (pv 1) (nomark _)) (pe_one (pe_callB (cr_all rfl) (by rfl) B.all bt_all (pa_cons (pe_lc (own := [("one", 3), ("other", 4)]) (g := gTup K 2 (gCons (gName 3) (gCons (gName 4) gNil))) rfl sc_are_levels.nd (RZ.pi_zipA (by rfl) B.zip (pa_cons (pv 0) (pa_cons (pe_slice sl_tupA (pv 0) (po_some pe_int) po_none) pa_nil))) (blkOk_by (own := [("one", 3), ("other", 4)]) (N := nm_are_levels) (sc := defScope s_are_levels) (by decide +kernel)) (fun _ _ _ _ _ => pg_tup (by rfl) (pgs_cons (pg_name (i := 3) sc_are_levels.nd rfl (Or.inl rfl)) (pgs_cons (pg_name (i := 4) sc_are_levels.nd rfl (Or.inl rfl)) pgs_nil))) (fun _ _ _ _ _ => pts_nil) (fun _ _ _ _ _ => pe_cmpR op_lt (pv 3) (pv 4) (nomark _))) pa_nil)))))))), fun ws M P hR => ?_⟩
  obtain ⟨d, ok, rfl, h⟩ := hR
  have hl := ok.len
  refine q_ifF (bx_or (bx_not (bx_val (tx_isi rfl rfl kit_tt ⟨true, rfl, ft, fun _ => bx_not (bx_test (tx_chain (tx_int (tx_lenV rfl (.inl ⟨_, rfl, rfl⟩) (rx_leT ?_ ⟨true, rfl, tf, fun _ => tx_int (rx_leT ?_ ⟨true, rfl, rfl, ?_⟩)⟩)))))⟩))))
  · rw [List.length_map]; omega
  · rw [List.length_map]; omega
  refine q_ifF (bx_not (bx_val (tx_allT (wx_tup (tx_var rfl ⟨_, rfl, ?_, fun i x F hx => ?_, true, rfl, rfl, ?_⟩)))))
  · rw [List.length_map]; omega
  · obtain ⟨l, hl, rfl⟩ := map_int_get hx
    have hr := ok.rng l (List.mem_of_getElem? hl)
    refine ⟨_, _, gx_name, fun j hj => hj, tx_call (ax_cons (tx_var rfl (ax_cons (tx_int (ax_cons (tx_var rfl (ax_nil ⟨l, 0, d.top, rfl, rfl, ?_⟩)))))))⟩
    rw [decide_eq_true hr.1, decide_eq_true hr.2]; rfl
  have h0 : L2.atI (d.levels.map PyData.int) 0 = some (.int 0) := by
    refine atI_at (j := 0) rfl ?_
    have := ok.head
    rw [List.head?_eq_getElem?] at this
    rw [List.getElem?_map, this]; rfl
  have h1 : L2.atI (d.levels.map PyData.int) (-1) = some (.int d.top) := by
    refine atI_m1 ?_
    rw [List.getLast?_map, ok.last]; rfl
  refine run_ret (tx_and (tx_op (tx_vix rfl h0 (tx_int (rx_eqT rfl ⟨true, rfl, tf, fun _ => ?_⟩)))))
  refine tx_and (tx_op (tx_op (tx_var rfl (tx_neg (tx_int ⟨_, rfl, rx_ixT h1 (tx_var rfl (rx_eqT rfl ⟨true, rfl, tf, fun _ => ?_⟩))⟩)))))
  refine tx_allT (wx_zipT (ax_cons (tx_var rfl (ax_cons (tx_slT (tx_var rfl (ox_some (tx_int ⟨_, rfl, ox_no ⟨_, rfl, ax_nil ⟨_, _, rfl, ?_, fun i x F hx => ?_, h⟩⟩⟩))))))))
  · unfold zipD
    rw [List.length_zipWith, List.length_map]
    omega
  · rw [show (1 : Int) = ((1 : Nat) : Int) from rfl, cut_from] at hx
    unfold zipD at hx
    rw [List.getElem?_zipWith, List.getElem?_drop, List.getElem?_map, List.getElem?_map] at hx
    cases q1 : d.levels[i]? with
    | none => rw [q1] at hx; cases hx
    | some a =>
      cases q2 : d.levels[1 + i]? with
      | none => rw [q1, q2] at hx; cases hx
      | some b =>
        rw [q1, q2] at hx
        cases hx
        have hab : a < b := by
          have hp := List.pairwise_iff_getElem.mp ok.asc
          obtain ⟨z1, z2⟩ := List.getElem?_eq_some_iff.mp q1
          obtain ⟨z3, z4⟩ := List.getElem?_eq_some_iff.mp q2
          have := hp i (1 + i) z1 z3 (by omega)
          rw [z2, z4] at this
          exact this
        exact ⟨_, _, gx_2, fun j hj => hj, tx_op (tx_var rfl (tx_var rfl (rx_ltT hab ⟨rfl, rfl⟩)))⟩
end CD
namespace CD
open PySem PySem.Spec PyProof.Rows L2 CM
theorem len_are_shares : ∀ ws M P, (R_are_shares) ws M P → ws.length = 2 := by
  intro ws M P h
  obtain ⟨_, _, e, _⟩ := h
  rw [e]
  rfl
theorem ok_are_shares {Pg : Program} {w : World} {K : PySem.W.Frag} {mg : Str → Option Value} {base : Heap} (F : DefD K mg "are_shares" s_are_shares ["value", "divisor"]) (B : Bi mg) (C_is_between : C8.Cal Pg w K mg base 1 "is_between" (FnP K R_is_between) []) : C8.Cal Pg w K mg base 2 "are_shares" (FnP K R_are_shares) [] := by
  refine fn_d F sc_are_shares len_are_shares fun f cdv A outer s H E hr => ⟨_, pss_cons (ps_if (PW.pt (pw_or (pt_not (pt_val (pe_callB call_isi (by rfl) B.isinstance bt_isinstance (pa_cons (pv 0) (pa_cons (pe_bltn (v := .ty "tuple") (by rfl) B.tuple_ bt_tuple rfl) pa_nil))))) (pw_or1 (pt_not (pt_chain op_le op_le pe_int (pe_callB call_len (by rfl) B.len bt_len (pa_cons (pv 0) pa_nil)) pe_int))))) (pss_one (ps_ret pe_bl)) (pss_nil))
      (pss_one (ps_ret (pe_and (pe_callB (cr_all rfl) (by rfl) B.all bt_all (pa_cons (pe_lc (own := [("share", 2)]) (g := gName 2) rfl sc_are_shares.nd (pi_tup (pv 0)) (blkOk_by (own := [("share", 2)]) (N := nm_are_shares) (sc := defScope s_are_shares) (by decide +kernel)) (fun _ _ _ _ _ => pg_name (i := 2) sc_are_shares.nd rfl (Or.inl rfl)) (fun _ _ _ _ _ => pts_nil) (fun _ _ _ _ _ => C8.pe_c C_is_between hr (by decide) (by rfl) (pa_cons (pv 2) (pa_cons pe_int (pa_cons (pv 1) pa_nil))))) pa_nil)) (pe_one (pe_cmpR op_le (pe_callB (cr_sumT rfl) (by rfl) B.sum bt_sum (pa_cons (pv 0) pa_nil)) (pv 1) (nomark _)))))), fun ws M P hR => ?_⟩
  obtain ⟨d, ok, rfl, h⟩ := hR
  have hl := ok.slen
  have hd := ok.dv
  refine q_ifF (bx_or (bx_not (bx_val (tx_isi rfl rfl kit_tt ⟨true, rfl, ft, fun _ => bx_not (bx_test (tx_chain (tx_int (tx_lenV rfl (.inl ⟨_, rfl, rfl⟩) (rx_leT ?_ ⟨true, rfl, tf, fun _ => tx_int (rx_leT ?_ ⟨true, rfl, rfl, ?_⟩)⟩)))))⟩))))
  · rw [List.length_map]; omega
  · rw [List.length_map]; omega
  refine run_ret (tx_and (tx_allT (wx_tup (tx_var rfl ⟨_, rfl, ?_, fun i x F hx => ?_, true, rfl, tf, fun _ => ?_⟩))))
  · rw [List.length_map]; omega
  · obtain ⟨l, hl, rfl⟩ := map_int_get hx
    have hm := List.mem_of_getElem? hl
    have hr := ok.spos l hm
    have hr2 : l ≤ d.dv := by
      rcases shares_cases ok with ⟨a, e, h1, h2⟩ | ⟨a, b, e, h1, h2, h3⟩
      · rw [e] at hm
        simp at hm
        omega
      · rw [e] at hm
        simp at hm
        omega
    refine ⟨_, _, gx_name, fun j hj => hj, tx_call (ax_cons (tx_var rfl (ax_cons (tx_int (ax_cons (tx_var rfl (ax_nil ⟨l, 0, d.dv, rfl, rfl, ?_⟩)))))))⟩
    rw [decide_eq_true hr, decide_eq_true hr2]; rfl
  exact tx_op (tx_cb (ax_cons (tx_var rfl (ax_nil (cx_sumT (tx_var rfl (rx_leT ok.ssum h)))))))
end CD
namespace CD
open PySem PySem.Spec PyProof.Rows L2 CM
theorem len_is_dither : ∀ ws M P, (R_is_dither) ws M P → ws.length = 1 := by
  intro ws M P h
  obtain ⟨_, _, e, _⟩ := h
  rw [e]
  rfl
theorem ok_is_dither {Pg : Program} {w : World} {K : PySem.W.Frag} {mg : Str → Option Value} {base : Heap} (F : DefD K mg "is_dither" s_is_dither ["value"]) (B : Bi mg) (G_MOST_TOP : GInt mg "MOST_TOP" 8) (G_MOST_DIVISOR : GInt mg "MOST_DIVISOR" 8) (C_is_between : C8.Cal Pg w K mg base 1 "is_between" (FnP K R_is_between) []) (C_are_levels : C8.Cal Pg w K mg base 2 "are_levels" (FnP K R_are_levels) []) (C_are_shares : C8.Cal Pg w K mg base 2 "are_shares" (FnP K R_are_shares) []) : C8.Cal Pg w K mg base 3 "is_dither" (FnP K R_is_dither) [] := by
  refine fn_d F sc_is_dither len_is_dither fun f cdv A outer s H E hr => ⟨_, pss_cons (ps_if (PW.pt (pw_or (pt_not (pt_val (pe_callB call_isi (by rfl) B.isinstance bt_isinstance (pa_cons (pv 0) (pa_cons (pe_bltn (v := .ty "tuple") (by rfl) B.tuple_ bt_tuple rfl) pa_nil))))) (pw_or1 (pt_cmpR op_ne (pe_callB call_len (by rfl) B.len bt_len (pa_cons (pv 0) pa_nil)) pe_int (nomark _))))) (pss_one (ps_ret pe_bl)) (pss_nil))
      (pss_cons (ps_asg (pv 0) (pg_tup (by rfl) (pgs_cons (pg_name (i := 1) sc_is_dither.nd rfl (Or.inl rfl)) (pgs_cons (pg_name (i := 2) sc_is_dither.nd rfl (Or.inl rfl)) (pgs_cons (pg_name (i := 3) sc_is_dither.nd rfl (Or.inl rfl)) (pgs_cons (pg_name (i := 4) sc_is_dither.nd rfl (Or.inl rfl)) (pgs_cons (pg_name (i := 5) sc_is_dither.nd rfl (Or.inl rfl)) pgs_nil)))))))
      (pss_cons (ps_if (PW.pt (pw_or (pt_not (pt_val (C8.pe_c C_is_between hr (by decide) (by rfl) (pa_cons (pv 1) (pa_cons pe_int (pa_cons (C8.pe_gc (by rfl) G_MOST_TOP) pa_nil)))))) (pw_or1 (pt_not (pt_val (C8.pe_c C_is_between hr (by decide) (by rfl) (pa_cons (pv 4) (pa_cons pe_int (pa_cons (C8.pe_gc (by rfl) G_MOST_DIVISOR) pa_nil))))))))) (pss_one (ps_ret pe_bl)) (pss_nil))
      (pss_cons (ps_if (PW.pt (pw_or (pt_not (pt_val (C8.pe_c C_are_levels hr (by decide) (by rfl) (pa_cons (pv 2) (pa_cons (pv 1) pa_nil))))) (pw_or1 (pt_not (pt_val (C8.pe_c C_are_shares hr (by decide) (by rfl) (pa_cons (pv 3) (pa_cons (pv 4) pa_nil)))))))) (pss_one (ps_ret pe_bl)) (pss_nil))
      (pss_one (ps_ret (pe_and (pe_callB call_isi (by rfl) B.isinstance bt_isinstance (pa_cons (pv 5) (pa_cons (pe_bltn (v := .ty "str") (by rfl) B.str_ bt_str rfl) pa_nil))) (pe_one (pe_cmpR op_in_seq (pv 5) (pe_tup (pa_cons pe_str (pa_cons pe_str pa_nil))) (by rfl))))))))), fun ws M P hR => ?_⟩
  obtain ⟨d, ok, rfl, h⟩ := hR
  refine q_ifF (bx_or (bx_not (bx_val (tx_isi rfl rfl kit_tt ⟨true, rfl, ft, fun _ => bx_test (tx_op (tx_lenV rfl (.inl ⟨_, rfl, rfl⟩) (tx_int (rx_neF rfl ⟨false, rfl, rfl, ?_⟩))))⟩))))
  refine q_unp (tx_var rfl ⟨_, _, _, rfl, gx_tup rfl (gxs_cons gx_name (gxs_cons gx_name (gxs_cons gx_name (gxs_cons gx_name (gxs_cons gx_name gxs_nil))))), ?_⟩)
  have ht := ok.top
  have hd := ok.dv
  refine q_ifF (bx_or (bx_not (bx_val (tx_call (ax_cons (tx_var rfl (ax_cons (tx_int (ax_cons (tx_int (ax_nil ⟨d.top, 1, 8, rfl, ?_⟩)))))))))))
  rw [decide_eq_true ht.1, decide_eq_true ht.2]
  refine ⟨true, rfl, ft, fun _ => bx_not (bx_val (tx_call (ax_cons (tx_var rfl (ax_cons (tx_int (ax_cons (tx_int (ax_nil ⟨d.dv, 1, 8, rfl, ?_⟩)))))))))⟩
  rw [decide_eq_true hd.1, decide_eq_true hd.2]
  refine ⟨true, rfl, rfl, ?_⟩
  refine q_ifF (bx_or (bx_not (bx_val (tx_call (ax_cons (tx_var rfl (ax_cons (tx_var rfl (ax_nil ⟨d, ok, rfl, true, rfl, ft, fun _ => bx_not (bx_val (tx_call (ax_cons (tx_var rfl (ax_cons (tx_var rfl (ax_nil ⟨d, ok, rfl, true, rfl, rfl, ?_⟩)))))))⟩)))))))))
  refine run_ret (tx_and (tx_isi rfl rfl kit_ss ⟨true, rfl, tf, fun _ => tx_op (tx_var rfl (tx_tup (ax_cons (tx_str (ax_cons (tx_str (ax_nil ⟨([("low" : Str), "high"] : List Str).map PyData.str, rfl, by decide, rx_inS ?_⟩)))))))⟩))
  rw [decide_eq_true (show tieS d.high ∈ (["low", "high"] : List Str) by unfold tieS; cases d.high <;> simp)]
  exact h
end CD
namespace CD
open PySem PySem.Spec PyProof.Rows L2 CM
theorem len_need_dither : ∀ ws M P, (R_need_dither) ws M P → ws.length = 1 := by
  intro ws M P h
  obtain ⟨_, _, e, _⟩ := h
  rw [e]
  rfl
theorem ok_need_dither {Pg : Program} {w : World} {K : PySem.W.Frag} {mg : Str → Option Value} {base : Heap} (F : DefD K mg "need_dither" s_need_dither ["dither"]) (B : Bi mg) (C_is_dither : C8.Cal Pg w K mg base 3 "is_dither" (FnP K R_is_dither) []) : C8.Cal Pg w K mg base 4 "need_dither" (FnP K R_need_dither) [] := by
  refine fn_d F sc_need_dither len_need_dither fun f cdv A outer s H E hr => ⟨_, pss_one (ps_if (pt_not (pt_val (C8.pe_c C_is_dither hr (by decide) (by rfl) (pa_cons (pv 0) pa_nil)))) (pss_one (ps_never)) (pss_nil)), fun ws M P hR => ?_⟩
  obtain ⟨d, ok, rfl, h⟩ := hR
  exact run_if (bx_not (bx_val (tx_call (ax_cons (tx_var rfl (ax_nil ⟨d, ok, rfl, true, rfl, ft, fun _ => run_next h⟩))))))
end CD
namespace CD
open PySem PySem.Spec PyProof.Rows L2 CM
theorem len_is_shade : ∀ ws M P, (R_is_shade) ws M P → ws.length = 2 := by
  intro ws M P h
  obtain ⟨_, _, _, _, e, _⟩ := h
  rw [e]
  rfl
theorem ok_is_shade {Pg : Program} {w : World} {K : PySem.W.Frag} {mg : Str → Option Value} {base : Heap} (F : DefD K mg "is_shade" s_is_shade ["dither", "value"]) (B : Bi mg) (C_is_between : C8.Cal Pg w K mg base 1 "is_between" (FnP K R_is_between) []) : C8.Cal Pg w K mg base 2 "is_shade" (FnP K R_is_shade) [] := by
  refine fn_d F sc_is_shade len_is_shade fun f cdv A outer s H E hr => ⟨_, pss_one (ps_ret (C8.pe_c C_is_between hr (by decide) (by rfl) (pa_cons (pv 1) (pa_cons pe_int (pa_cons (pe_ix ix_tup (pv 0) pe_int (fun _ _ => rfl)) pa_nil))))), fun ws M P hR => ?_⟩
  obtain ⟨d, s, ok, hs, rfl, h⟩ := hR
  refine run_ret (tx_call (ax_cons (tx_var rfl (ax_cons (tx_int (ax_cons (tx_vix rfl (x := .int d.top) rfl (ax_nil ⟨s, 0, d.top, rfl, ?_⟩))))))))
  rw [decide_eq_true hs.1, decide_eq_true hs.2]
  exact h
end CD
namespace CD
open PySem PySem.Spec PyProof.Rows L2 CM
theorem len_need_row : ∀ ws M P, (R_need_row) ws M P → ws.length = 2 := by
  intro ws M P h
  obtain ⟨_, _, _, _, _, e, _⟩ := h
  rw [e]
  rfl
theorem ok_need_row {Pg : Program} {w : World} {K : PySem.W.Frag} {mg : Str → Option Value} {base : Heap} (F : DefD K mg "need_row" s_need_row ["dither", "row"]) (B : Bi mg) (G_MOST_ROW : GInt mg "MOST_ROW" 40) (C_is_shade : C8.Cal Pg w K mg base 2 "is_shade" (FnP K R_is_shade) []) : C8.Cal Pg w K mg base 3 "need_row" (FnP K R_need_row) [] := by
  refine fn_d F sc_need_row len_need_row fun f cdv A outer s H E hr => ⟨_, pss_one (ps_if (PW.pt (pw_or (pt_not (pt_val (pe_callB call_isi (by rfl) B.isinstance bt_isinstance (pa_cons (pv 1) (pa_cons (pe_bltn (v := .ty "tuple") (by rfl) B.tuple_ bt_tuple rfl) pa_nil))))) (pw_or (pt_cmpR op_gt (pe_callB call_len (by rfl) B.len bt_len (pa_cons (pv 1) pa_nil)) (C8.pe_gc (by rfl) G_MOST_ROW) (nomark _)) (pw_or1 (pt_not (pt_val (pe_callB (cr_all rfl) (by rfl) B.all bt_all (pa_cons (pe_lc (own := [("shade", 2)]) (g := gName 2) rfl sc_need_row.nd (pi_tup (pv 1)) (blkOk_by (own := [("shade", 2)]) (N := nm_need_row) (sc := defScope s_need_row) (by decide +kernel)) (fun _ _ _ _ _ => pg_name (i := 2) sc_need_row.nd rfl (Or.inl rfl)) (fun _ _ _ _ _ => pts_nil) (fun _ _ _ _ _ => C8.pe_c C_is_shade hr (by decide) (by rfl) (pa_cons (pv 0) (pa_cons (pv 2) pa_nil)))) pa_nil)))))))) (pss_one (ps_never)) (pss_nil)), fun ws M P hR => ?_⟩
  obtain ⟨d, row, ok, hr, hl, rfl, h⟩ := hR
  refine run_if (bx_or (bx_not (bx_val (tx_isi rfl rfl kit_tt ⟨true, rfl, ft, fun _ => bx_or (bx_test (tx_op (tx_lenV rfl (.inl ⟨_, rfl, rfl⟩) (tx_int (rx_gtF ?_ ⟨false, rfl, ft, fun _ => bx_not (bx_val (tx_allT (wx_tup (tx_var rfl ⟨_, rfl, ?_, fun i x F hx => ?_, true, rfl, ft, fun _ => run_next h⟩))))⟩)))))⟩))))
  · rw [List.length_map]; omega
  · rw [List.length_map]; omega
  · obtain ⟨s, hs, rfl⟩ := map_int_get hx
    exact ⟨_, _, gx_name, fun j hj => hj, tx_call (ax_cons (tx_var rfl (ax_cons (tx_var rfl (ax_nil ⟨d, s, ok, hr s (List.mem_of_getElem? hs), rfl, rfl, rfl⟩)))))⟩
end CD
namespace CD
open PySem PySem.Spec PyProof.Rows L2 CM
theorem len_need_some : ∀ ws M P, (R_need_some) ws M P → ws.length = 2 := by
  intro ws M P h
  obtain ⟨_, _, _, _, e, _⟩ := h
  rw [e]
  rfl
theorem ok_need_some {Pg : Program} {w : World} {K : PySem.W.Frag} {mg : Str → Option Value} {base : Heap} (F : DefD K mg "need_some" s_need_some ["dither", "some"]) (B : Bi mg) (C_is_shade : C8.Cal Pg w K mg base 2 "is_shade" (FnP K R_is_shade) []) : C8.Cal Pg w K mg base 3 "need_some" (FnP K R_need_some) [] := by
  refine fn_d F sc_need_some len_need_some fun f cdv A outer s H E hr => ⟨_, pss_cons (ps_if (PW.pt (pw_or (pt_not (pt_val (pe_callB call_isi (by rfl) B.isinstance bt_isinstance (pa_cons (pv 1) (pa_cons (pe_bltn (v := .ty "tuple") (by rfl) B.tuple_ bt_tuple rfl) pa_nil))))) (pw_or (pt_cmpR (op_eqD hr.units) (pv 1) (pe_tup pa_nil) (nomark _)) (pw_or1 (pt_not (pt_val (pe_callB (cr_all rfl) (by rfl) B.all bt_all (pa_cons (pe_lc (own := [("shade", 2)]) (g := gName 2) rfl sc_need_some.nd (pi_tup (pv 1)) (blkOk_by (own := [("shade", 2)]) (N := nm_need_some) (sc := defScope s_need_some) (by decide +kernel)) (fun _ _ _ _ _ => pg_name (i := 2) sc_need_some.nd rfl (Or.inl rfl)) (fun _ _ _ _ _ => pts_nil) (fun _ _ _ _ _ => C8.pe_c C_is_shade hr (by decide) (by rfl) (pa_cons (pv 0) (pa_cons (pv 2) pa_nil)))) pa_nil)))))))) (pss_one (ps_never)) (pss_nil))
      (pss_one (ps_if (pt_not (pt_val (pe_callB (cr_all rfl) (by rfl) B.all bt_all (pa_cons (pe_lc (own := [("one", 3), ("other", 4)]) (g := gTup K 2 (gCons (gName 3) (gCons (gName 4) gNil))) rfl sc_need_some.nd (RZ.pi_zipA (by rfl) B.zip (pa_cons (pv 1) (pa_cons (pe_slice sl_tupA (pv 1) (po_some pe_int) po_none) pa_nil))) (blkOk_by (own := [("one", 3), ("other", 4)]) (N := nm_need_some) (sc := defScope s_need_some) (by decide +kernel)) (fun _ _ _ _ _ => pg_tup (by rfl) (pgs_cons (pg_name (i := 3) sc_need_some.nd rfl (Or.inl rfl)) (pgs_cons (pg_name (i := 4) sc_need_some.nd rfl (Or.inl rfl)) pgs_nil))) (fun _ _ _ _ _ => pts_nil) (fun _ _ _ _ _ => pe_cmpR op_lt (pv 3) (pv 4) (nomark _))) pa_nil)))) (pss_one (ps_never)) (pss_nil))), fun ws M P hR => ?_⟩
  obtain ⟨d, some, ok, so, rfl, h⟩ := hR
  have hl := some_len ok so
  refine q_ifF (bx_or (bx_not (bx_val (tx_isi rfl rfl kit_tt ⟨true, rfl, ft, fun _ => bx_or (bx_test (tx_op (tx_var rfl (tx_tup (ax_nil ⟨[], rfl, (by simp), rx_eqE en_I (by decide) (a := some) (b := []) ⟨false, ?_, ft, fun _ => ?_⟩⟩)))))⟩))))
  · rw [decide_eq_false so.ne]
  refine bx_not (bx_val (tx_allT (wx_tup (tx_var rfl ⟨_, rfl, ?_, fun i x F hx => ?_, true, rfl, rfl, ?_⟩))))
  · rw [List.length_map]; omega
  · obtain ⟨s, hs, rfl⟩ := map_int_get hx
    exact ⟨_, _, gx_name, fun j hj => hj, tx_call (ax_cons (tx_var rfl (ax_cons (tx_var rfl (ax_nil ⟨d, s, ok, so.ok s (List.mem_of_getElem? hs), rfl, rfl, rfl⟩)))))⟩
  refine run_if (bx_not (bx_val (tx_allT (wx_zipT (ax_cons (tx_var rfl (ax_cons (tx_slT (tx_var rfl (ox_some (tx_int ⟨_, rfl, ox_no ⟨_, rfl, ax_nil ⟨_, _, rfl, ?_, fun i x F hx => ?_, true, rfl, ft, fun _ => run_next h⟩⟩⟩)))))))))))
  · unfold zipD
    rw [List.length_zipWith, List.length_map]
    omega
  · obtain ⟨a, b, rfl, q1, q2⟩ := zip_get hx
    exact ⟨_, _, gx_2, fun j hj => hj, tx_op (tx_var rfl (tx_var rfl (rx_ltT (asc_get so.asc q1 q2) ⟨rfl, rfl⟩)))⟩
end CD
namespace CD
open PySem PySem.Spec PyProof.Rows L2 CM
theorem len_are_outputs : ∀ ws M P, (R_are_outputs) ws M P → ws.length = 3 := by
  intro ws M P h
  obtain ⟨_, _, _, _, _, _, e, _⟩ := h
  rw [e]
  rfl
theorem ok_are_outputs {Pg : Program} {w : World} {K : PySem.W.Frag} {mg : Str → Option Value} {base : Heap} (F : DefD K mg "are_outputs" s_are_outputs ["dither", "value", "most"]) (B : Bi mg) (C_is_between : C8.Cal Pg w K mg base 1 "is_between" (FnP K R_is_between) []) : C8.Cal Pg w K mg base 2 "are_outputs" (FnP K R_are_outputs) [] := by
  refine fn_d F sc_are_outputs len_are_outputs fun f cdv A outer s H E hr => ⟨_, pss_cons (ps_if (PW.pt (pw_or (pt_not (pt_val (pe_callB call_isi (by rfl) B.isinstance bt_isinstance (pa_cons (pv 1) (pa_cons (pe_bltn (v := .ty "tuple") (by rfl) B.tuple_ bt_tuple rfl) pa_nil))))) (pw_or1 (pt_cmpR op_gt (pe_callB call_len (by rfl) B.len bt_len (pa_cons (pv 1) pa_nil)) (pv 2) (nomark _))))) (pss_one (ps_ret pe_bl)) (pss_nil))
      (pss_one (ps_ret (pe_callB (cr_all rfl) (by rfl) B.all bt_all (pa_cons (pe_lc (own := [("output", 3)]) (g := gName 3) rfl sc_are_outputs.nd (pi_tup (pv 1)) (blkOk_by (own := [("output", 3)]) (N := nm_are_outputs) (sc := defScope s_are_outputs) (by decide +kernel)) (fun _ _ _ _ _ => pg_name (i := 3) sc_are_outputs.nd rfl (Or.inl rfl)) (fun _ _ _ _ _ => pts_nil) (fun _ _ _ _ _ => pe_and (C8.pe_c C_is_between hr (by decide) (by rfl) (pa_cons (pv 3) (pa_cons pe_int (pa_cons (pe_ix (r := rIxT K) ix_tup (pv 0) pe_int (fun _ _ => rfl)) pa_nil)))) (pe_one (pe_cmpR (r := rIn K false) op_in_seq (pv 3) (pe_ix (r := rIxT K) ix_tup (pv 0) pe_int (fun _ _ => rfl)) (by rfl))))) pa_nil)))), fun ws M P hR => ?_⟩
  obtain ⟨d, o, most, ok, ho, hm, rfl, h⟩ := hR
  refine q_ifF (bx_or (bx_not (bx_val (tx_isi rfl rfl kit_tt ⟨true, rfl, ft, fun _ => bx_test (tx_op (tx_lenV rfl (.inl ⟨_, rfl, rfl⟩) (tx_var rfl (rx_gtF ?_ ⟨false, rfl, rfl, ?_⟩))))⟩))))
  · rw [List.length_map]; omega
  refine run_ret (tx_allT (wx_tup (tx_var rfl ⟨_, rfl, ?_, fun i x F hx => ?_, h⟩)))
  · rw [List.length_map]; omega
  · obtain ⟨s, hs, rfl⟩ := map_int_get hx
    have hmem := ho s (List.mem_of_getElem? hs)
    have hr := ok.rng s hmem
    refine ⟨_, _, gx_name, fun j hj => hj, tx_and (tx_call (ax_cons (tx_var rfl (ax_cons (tx_int (ax_cons (tx_vix rfl (x := .int d.top) rfl (ax_nil ⟨s, 0, d.top, rfl, ?_⟩))))))))⟩
    rw [decide_eq_true hr.1, decide_eq_true hr.2]
    refine ⟨true, rfl, tf, fun _ => tx_op (tx_var rfl (tx_vix rfl (x := eI d.levels) rfl (rx_inI ?_)))⟩
    rw [decide_eq_true hmem]
    exact ⟨rfl, rfl⟩
end CD
namespace CD
open PySem PySem.Spec PyProof.Rows L2 CM
theorem len_need_outputs : ∀ ws M P, (R_need_outputs) ws M P → ws.length = 2 := by
  intro ws M P h
  obtain ⟨_, _, _, _, _, e, _⟩ := h
  rw [e]
  rfl
theorem ok_need_outputs {Pg : Program} {w : World} {K : PySem.W.Frag} {mg : Str → Option Value} {base : Heap} (F : DefD K mg "need_outputs" s_need_outputs ["dither", "outputs"]) (B : Bi mg) (G_MOST_ROW : GInt mg "MOST_ROW" 40) (C_are_outputs : C8.Cal Pg w K mg base 2 "are_outputs" (FnP K R_are_outputs) []) : C8.Cal Pg w K mg base 3 "need_outputs" (FnP K R_need_outputs) [] := by
  refine fn_d F sc_need_outputs len_need_outputs fun f cdv A outer s H E hr => ⟨_, pss_one (ps_if (pt_not (pt_val (C8.pe_c C_are_outputs hr (by decide) (by rfl) (pa_cons (pv 0) (pa_cons (pv 1) (pa_cons (C8.pe_gc (by rfl) G_MOST_ROW) pa_nil)))))) (pss_one (ps_never)) (pss_nil)), fun ws M P hR => ?_⟩
  obtain ⟨d, o, ok, ho, hl, rfl, h⟩ := hR
  exact run_if (bx_not (bx_val (tx_call (ax_cons (tx_var rfl (ax_cons (tx_var rfl (ax_cons (tx_int (ax_nil ⟨d, o, 40, ok, ho, ⟨by omega, by decide⟩, rfl, true, rfl, ft, fun _ => run_next h⟩))))))))))
end CD
namespace CD
open PySem PySem.Spec PyProof.Rows L2 CM
theorem len_exact : ∀ ws M P, (R_exact) ws M P → ws.length = 1 := by
  intro ws M P h
  obtain ⟨_, e, _⟩ := h
  rw [e]
  rfl
theorem ok_exact {Pg : Program} {w : World} {K : PySem.W.Frag} {mg : Str → Option Value} {base : Heap} (F : DefD K mg "exact" s_exact ["dither"]) (B : Bi mg)  : C8.Cal Pg w K mg base 1 "exact" (FnP K R_exact) [] := by
  refine fn_d F sc_exact len_exact fun f cdv A outer s H E hr => ⟨_, pss_one (ps_ret (pe_cmpR op_eq (pe_callB (cr_sumT rfl) (by rfl) B.sum bt_sum (pa_cons (pe_ix ix_tup (pv 0) pe_int (fun _ _ => rfl)) pa_nil)) (pe_ix ix_tup (pv 0) pe_int (fun _ _ => rfl)) (nomark _))), fun ws M P hR => ?_⟩
  obtain ⟨d, rfl, h⟩ := hR
  exact run_ret (tx_op (tx_cb (ax_cons (tx_vix rfl (x := eI d.shares) rfl (ax_nil (cx_sumT (tx_vix rfl (x := .int d.dv) rfl (rx_eqI h))))))))
end CD
namespace CD
open PySem PySem.Spec PyProof.Rows L2 CM
theorem tie_high (b : Bool) : decide (tieS b = "high") = b := by cases b <;> decide +kernel
theorem len_nearest : ∀ ws M P, (R_nearest) ws M P → ws.length = 2 := by
  intro ws M P h
  obtain ⟨_, _, _, e, _⟩ := h
  rw [e]
  rfl
theorem ok_nearest {Pg : Program} {w : World} {K : PySem.W.Frag} {mg : Str → Option Value} {base : Heap} (F : DefD K mg "nearest" s_nearest ["dither", "value"]) (B : Bi mg)  : C8.Cal Pg w K mg base 1 "nearest" (FnP K R_nearest) [] := by
  refine fn_d F sc_nearest len_nearest fun f cdv A outer s H E hr => ⟨_, pss_cons (ps_set (i := 2) sc_nearest.nd rfl (Or.inl rfl) (pe_ix ix_tup (pe_ix ix_tup (pv 0) pe_int (fun _ _ => rfl)) pe_int (fun _ _ => rfl)))
      (pss_cons (ps_for PassesOwn.never rfl (pi_tup (pe_slice sl_tupA (pe_ix ix_tup (pv 0) pe_int (fun _ _ => rfl)) (po_some pe_int) po_none)) (pg_name (i := 3) sc_nearest.nd rfl (Or.inl rfl)) (pss_cons (ps_par (i := 4) (j := 5) rfl sc_nearest.nd rfl rfl (by decide) rfl rfl (pa_cons (pe_callB call_abs (by rfl) B.abs bt_abs (pa_cons (pe_op op_sub (pv 1) (pv 3)) pa_nil)) (pa_cons (pe_callB call_abs (by rfl) B.abs bt_abs (pa_cons (pe_op op_sub (pv 1) (pv 2)) pa_nil)) pa_nil)) (by rfl))
      (pss_one (ps_if (PW.pt (pw_or (pt_cmpR op_lt (pv 4) (pv 5) (nomark _)) (pw_or1 (PW.pt (pw_and (pt_cmpR op_eq (pv 4) (pv 5) (nomark _)) (pw_and1 (pt_cmpR op_eq (pe_ix ix_tup (pv 0) pe_int (fun _ _ => rfl)) pe_str (nomark _)))))))) (pss_one (ps_set (i := 2) sc_nearest.nd rfl (Or.inl rfl) (pv 3))) (pss_nil)))))
      (pss_one (ps_ret (pv 2)))), fun ws M P hR => ?_⟩
  obtain ⟨d, v, ok, rfl, h⟩ := hR
  obtain ⟨l0, ls, el⟩ : ∃ l0 ls, d.levels = l0 :: ls := by
    have := ok.len.1
    cases e : d.levels with
    | nil => rw [e] at this; simp at this
    | cons a b => exact ⟨a, b, rfl⟩
  have h0 : L2.atI (d.levels.map PyData.int) 0 = some (.int l0) := atI_at (j := 0) rfl (by rw [el]; rfl)
  have hn : nearest d v = ls.foldl (near1 d.high v) l0 := by unfold nearest; rw [el]
  have hcut : cutD (d.levels.map PyData.int) (some 1) none = ls.map PyData.int := by
    rw [show (1 : Int) = ((1 : Nat) : Int) from rfl, cut_from, el]; rfl
  refine q_asg (tx_op (tx_vix rfl (x := eI d.levels) rfl (tx_int (rx_ixT h0 ?_))))
  refine q_for (fun i ρ' M' => ∃ w3 w4 w5, M' = M ∧ ρ' = [.d d.data, dI v, dI ((ls.take i).foldl (near1 d.high v) l0), w3, w4, w5]) (wx_tup (tx_slT (tx_vix rfl (x := eI d.levels) rfl (ox_some (tx_int ⟨_, rfl, ox_no ⟨_, rfl, _, rfl, ⟨_, _, _, rfl, rfl⟩, ?_, ?_⟩⟩)))))
  · rintro i x ρ' M' hx ⟨w3, w4, w5, rfl, rfl⟩
    rw [hcut] at hx
    obtain ⟨l, hl, rfl⟩ := map_int_get hx
    refine ⟨_, _, gx_name, ?_⟩
    have hstep : (ls.take (i + 1)).foldl (near1 d.high v) l0 = near1 d.high v ((ls.take i).foldl (near1 d.high v) l0) l := by
      rw [List.take_add_one, hl]
      simp
    generalize (ls.take i).foldl (near1 d.high v) l0 = f0 at hstep ⊢
    refine q_par (ax_cons (tx_cb (ax_cons (tx_op (tx_var rfl (tx_var rfl (rx_sub (ax_nil (cx_abs (ax_cons (tx_cb (ax_cons (tx_op (tx_var rfl (tx_var rfl (rx_sub (ax_nil (cx_abs (ax_nil ⟨_, _, rfl, ?_⟩)))))))))))))))))))
    refine run_if (bx_or (bx_test (tx_op (tx_var rfl (tx_var rfl (rx_lt ⟨_, rfl, fun c1 => ⟨fun _ => run_asg (tx_var rfl ⟨dI l, dI (iabs (v - l)), dI (iabs (v - f0)), rfl, ?_⟩), tf⟩, fun c1 => bx_and (bx_test (tx_op (tx_var rfl (tx_var rfl (rx_eqI ⟨_, rfl, fun c2 => ⟨ft, fun _ => run_next ⟨dI l, dI (iabs (v - l)), dI (iabs (v - f0)), rfl, ?_⟩⟩, fun c2 => bx_test (tx_op (tx_vix rfl (x := .str (tieS d.high)) rfl (tx_str (rx_eqS ⟨_, rfl, fun c3 => run_asg (tx_var rfl ⟨dI l, dI (iabs (v - l)), dI (iabs (v - f0)), rfl, ?_⟩), fun c3 => run_next ⟨dI l, dI (iabs (v - l)), dI (iabs (v - f0)), rfl, ?_⟩⟩))))⟩)))))⟩))))))
    · rw [hstep]
      have e : near1 d.high v f0 l = l := if_pos (.inl (of_decide_eq_true c1))
      rw [e]; rfl
    · rw [hstep]
      have e : near1 d.high v f0 l = f0 := if_neg (by
        rw [not_or]
        exact ⟨of_decide_eq_false c1, fun z => of_decide_eq_false c2 z.1⟩)
      rw [e]; rfl
    · rw [hstep]
      rw [tie_high] at c3
      have e : near1 d.high v f0 l = l := if_pos (.inr ⟨of_decide_eq_true c2, c3⟩)
      rw [e]; rfl
    · rw [hstep]
      rw [tie_high] at c3
      have e : near1 d.high v f0 l = f0 := if_neg (by
        rw [not_or]
        exact ⟨of_decide_eq_false c1, fun z => by rw [c3] at z; cases z.2⟩)
      rw [e]; rfl
  · rintro ρ' M' ⟨w3, w4, w5, rfl, rfl⟩
    refine run_ret (tx_var rfl ?_)
    rw [hcut, List.length_map, List.take_length, ← hn]
    exact h
end CD
namespace CD
open PySem PySem.Spec PyProof.Rows L2 CM
theorem len_part : ∀ ws M P, (R_part) ws M P → ws.length = 3 := by
  intro ws M P h
  obtain ⟨_, _, _, _, _, _, e, _⟩ := h
  rw [e]
  rfl
theorem ok_part {Pg : Program} {w : World} {K : PySem.W.Frag} {mg : Str → Option Value} {base : Heap} (F : DefD K mg "part" s_part ["error", "share", "divisor"]) (B : Bi mg)  : C8.Cal Pg w K mg base 1 "part" (FnP K R_part) [] := by
  refine fn_d F sc_part len_part fun f cdv A outer s H E hr => ⟨_, pss_cons (ps_set (i := 3) sc_part.nd rfl (Or.inl rfl) (pe_op op_fdiv (pe_op op_mul (pe_callB call_abs (by rfl) B.abs bt_abs (pa_cons (pv 0) pa_nil)) (pv 1)) (pv 2)))
      (pss_one (ps_ret (pe_ifExp (pt_cmpR op_ge (pv 0) pe_int (nomark _)) (pv 3) (pe_un un_neg (pv 3))))), fun ws M P hR => ?_⟩
  obtain ⟨e, s, dv, he, hs, hd, rfl, h⟩ := hR
  have hi : -4 ≤ iabs e ∧ iabs e ≤ 4 := ⟨by have := iabs_nn e; omega, by unfold iabs; split <;> omega⟩
  refine q_asg (tx_op (tx_op (tx_cb (ax_cons (tx_var rfl (ax_nil (cx_abs (tx_var rfl (rx_mul (a := iabs e) (.inl ⟨by omega, by omega⟩) (tx_var rfl (rx_fdiv ⟨by omega, by omega⟩ ?_)))))))))))
  have hp : part e s dv = if 0 ≤ e then iabs e * s / dv else -(iabs e * s / dv) := rfl
  refine run_ret (tx_if (bx_test (tx_op (tx_var rfl (tx_int (rx_ge ⟨_, rfl, fun c => tx_var rfl ?_, fun c => tx_neg (tx_var rfl ⟨_, rfl, ?_⟩)⟩))))))
  · rw [hp, if_pos (of_decide_eq_true c)] at h
    exact h
  · rw [hp, if_neg (of_decide_eq_false c)] at h
    exact h
end CD
namespace CD
open PySem PySem.Spec PyProof.Rows L2 CM
theorem len_step : ∀ ws M P, (R_step) ws M P → ws.length = 3 := by
  intro ws M P h
  obtain ⟨_, _, _, _, _, _, e, _⟩ := h
  rw [e]
  rfl
theorem ok_step {Pg : Program} {w : World} {K : PySem.W.Frag} {mg : Str → Option Value} {base : Heap} (F : DefD K mg "step" s_step ["dither", "here", "shade"]) (B : Bi mg) (C_exact : C8.Cal Pg w K mg base 1 "exact" (FnP K R_exact) []) (C_nearest : C8.Cal Pg w K mg base 1 "nearest" (FnP K R_nearest) []) (C_part : C8.Cal Pg w K mg base 1 "part" (FnP K R_part) []) : C8.Cal Pg w K mg base 2 "step" (FnP K R_step) [] := by
  refine fn_d F sc_step len_step fun f cdv A outer s H E hr => ⟨_, pss_cons (ps_set (i := 3) sc_step.nd rfl (Or.inl rfl) (pe_op op_add (pv 2) (pe_ix ix_tup (pv 1) pe_int (fun _ _ => rfl))))
      (pss_cons (ps_set (i := 4) sc_step.nd rfl (Or.inl rfl) (C8.pe_c C_nearest hr (by decide) (by rfl) (pa_cons (pv 0) (pa_cons (pv 3) pa_nil))))
      (pss_cons (ps_set (i := 5) sc_step.nd rfl (Or.inl rfl) (pe_op op_sub (pv 3) (pv 4)))
      (pss_cons (ps_set (i := 6) sc_step.nd rfl (Or.inl rfl) (pe_ifExp (pt_cmpR op_eq (pe_callB call_len (by rfl) B.len bt_len (pa_cons (pe_ix ix_tup (pv 0) pe_int (fun _ _ => rfl)) pa_nil)) pe_int (nomark _)) (C8.pe_c C_part hr (by decide) (by rfl) (pa_cons (pv 5) (pa_cons (pe_ix ix_tup (pe_ix ix_tup (pv 0) pe_int (fun _ _ => rfl)) pe_int (fun _ _ => rfl)) (pa_cons (pe_ix ix_tup (pv 0) pe_int (fun _ _ => rfl)) pa_nil)))) pe_int))
      (pss_cons (ps_set (i := 7) sc_step.nd rfl (Or.inl rfl) (pe_ifExp (pt_val (C8.pe_c C_exact hr (by decide) (by rfl) (pa_cons (pv 0) pa_nil))) (pe_op op_sub (pv 5) (pv 6)) (C8.pe_c C_part hr (by decide) (by rfl) (pa_cons (pv 5) (pa_cons (pe_ix ix_tup (pe_ix ix_tup (pv 0) pe_int (fun _ _ => rfl)) pe_int (fun _ _ => rfl)) (pa_cons (pe_ix ix_tup (pv 0) pe_int (fun _ _ => rfl)) pa_nil))))))
      (pss_one (ps_ret (pe_tup (pa_cons (pv 4) (pa_cons (pv 5) (pa_cons (pe_tup (pa_cons (pe_op op_add (pe_ix ix_tup (pv 1) pe_int (fun _ _ => rfl)) (pv 7)) (pa_cons (pv 6) pa_nil))) pa_nil)))))))))), fun ws M P hR => ?_⟩
  obtain ⟨d, h0, s, ok, hh, hs, rfl, h⟩ := hR
  have he := (nxt_ok ok hh hs).1
  have hd := ok.dv
  refine q_asg (tx_op (tx_var rfl (tx_vix rfl (x := .int h0.1) rfl (rx_add ?_))))
  refine q_asg (tx_call (ax_cons (tx_var rfl (ax_cons (tx_var rfl (ax_nil ⟨d, s + h0.1, ok, rfl, ?_⟩))))))
  refine q_asg (tx_op (tx_var rfl (tx_var rfl (rx_sub ?_))))
  have e1 : s + h0.1 - nearest d (s + h0.1) = err d h0 s := rfl
  have e2 : nearest d (s + h0.1) = out d h0 s := rfl
  rw [e1, e2]
  have hlen : (d.shares.map PyData.int).length = d.shares.length := List.length_map _
  have sh0 : ∃ a, d.shares.getD 0 0 = a ∧ d.shares[0]? = some a ∧ 0 ≤ a ∧ a ≤ 8 := by
    rcases shares_cases ok with ⟨a, e, h1, h2⟩ | ⟨a, b, e, h1, h2, h3⟩
    · exact ⟨a, by rw [e]; rfl, by rw [e]; rfl, h1, by omega⟩
    · exact ⟨a, by rw [e]; rfl, by rw [e]; rfl, h1, by omega⟩
  obtain ⟨a, ea, ga, ra⟩ := sh0
  have ja : L2.atI (d.shares.map PyData.int) 0 = some (.int a) := atI_at (j := 0) rfl (by rw [List.getElem?_map, ga]; rfl)
  have key : ∀ {M' : Mem} {x : PyData} {ρ : List W}, M' = M → x = .int (later d (err d h0 s)) → ρ = [.d d.data, .d (staD h0), dI s, dI (s + h0.1), dI (out d h0 s), dI (err d h0 s), .d x, .u] →
      Run K (tSeq (tAsg (tIf (tB (tCall (FnP K R_exact) [] E0 (tCons (tVar 0) tNil))) (tOp (rI0 fun i j => V.int (i - j)) (tVar 5) (tVar 6)) (tCall (FnP K R_part) [] E0 (tCons (tVar 5) (tCons (tOp (rIxT K) (tOp (rIxT K) (tVar 0) (tC (V.int 2))) (tC (V.int 0))) (tCons (tOp (rIxT K) (tVar 0) (tC (V.int 3))) tNil))))) (gName 7)) (tRet (tTup (tCons (tVar 4) (tCons (tVar 5) (tCons (tTup (tCons (tOp (rI0 fun i j => V.int (i + j)) (tOp (rIxT K) (tVar 1) (tC (V.int 1))) (tVar 7)) (tCons (tVar 6) tNil))) tNil)))))) { nx := fun _ M' => P (.d .none) M', rt := P } ρ M' := by
    intro M' x ρ eM ex eρ
    subst eM ex eρ
    have fin : ∀ y, y = first d (err d h0 s) → Run K (tRet (tTup (tCons (tVar 4) (tCons (tVar 5) (tCons (tTup (tCons (tOp (rI0 fun i j => V.int (i + j)) (tOp (rIxT K) (tVar 1) (tC (V.int 1))) (tVar 7)) (tCons (tVar 6) tNil))) tNil))))) { nx := fun _ M' => P (.d .none) M', rt := P } [.d d.data, .d (staD h0), dI s, dI (s + h0.1), dI (out d h0 s), dI (err d h0 s), dI (later d (err d h0 s)), dI y] M' := by
      intro y ey
      subst ey
      exact run_ret (tx_tup (ax_cons (tx_var rfl (ax_cons (tx_var rfl (ax_cons (tx_tup (ax_cons (tx_op (tx_vix rfl (x := .int h0.2) rfl (tx_var rfl (rx_add (ax_cons (tx_var rfl (ax_nil ⟨[_, _], rfl, (by simp), ax_nil ⟨[_, _, _], rfl, (by simp), h⟩⟩)))))))))))))))
    refine q_asg (tx_if (bx_val (tx_call (ax_cons (tx_var rfl (ax_nil ⟨d, rfl, _, rfl, fun c => ?_, fun c => ?_⟩))))))
    · refine tx_op (tx_var rfl (tx_var rfl (rx_sub ?_)))
      refine fin _ ?_
      unfold first
      rw [if_pos c]
    · refine tx_call (ax_cons (tx_var rfl (ax_cons (tx_op (tx_vix rfl (x := eI d.shares) rfl (tx_int (rx_ixT ja (ax_cons (tx_vix rfl (x := .int d.dv) rfl (ax_nil ⟨err d h0 s, a, d.dv, he, ra, hd, rfl, ?_⟩))))))))))
      refine fin _ ?_
      unfold first
      rw [if_neg (by rw [c]; exact Bool.false_ne_true), ea]
  by_cases c2 : d.shares.length = 2
  · have sh1 : ∃ b, d.shares.getD 1 0 = b ∧ d.shares[1]? = some b ∧ 0 ≤ b ∧ b ≤ 8 := by
      rcases shares_cases ok with ⟨a, e, h1, h2⟩ | ⟨a, b, e, h1, h2, h3⟩
      · rw [e] at c2; simp at c2
      · exact ⟨b, by rw [e]; rfl, by rw [e]; rfl, h2, by omega⟩
    obtain ⟨b, eb, gb, rb⟩ := sh1
    have jb : L2.atI (d.shares.map PyData.int) 1 = some (.int b) := atI_at (j := 1) rfl (by rw [List.getElem?_map, gb]; rfl)
    refine q_asg (tx_if (bx_test (tx_op (tx_cb (ax_cons (tx_vix rfl (x := eI d.shares) rfl (ax_nil (cx_len (.inl ⟨_, rfl, rfl⟩) (tx_int (rx_eqT (by rw [hlen, c2]; rfl) ⟨true, rfl, fun _ => ?_, tf⟩))))))))))
    refine tx_call (ax_cons (tx_var rfl (ax_cons (tx_op (tx_vix rfl (x := eI d.shares) rfl (tx_int (rx_ixT jb (ax_cons (tx_vix rfl (x := .int d.dv) rfl (ax_nil ⟨err d h0 s, b, d.dv, he, rb, hd, rfl, ?_⟩))))))))))
    refine key rfl ?_ rfl
    unfold later
    rw [if_pos c2, eb]
  · refine q_asg (tx_if (bx_test (tx_op (tx_cb (ax_cons (tx_vix rfl (x := eI d.shares) rfl (ax_nil (cx_len (.inl ⟨_, rfl, rfl⟩) (tx_int (rx_eqF (by rw [hlen]; omega) ⟨false, rfl, ft, fun _ => ?_⟩))))))))))
    refine tx_int (key rfl ?_ rfl)
    unfold later
    rw [if_neg c2]
end CD
namespace CD
open PySem PySem.Spec PyProof.Rows L2 CM
theorem len_walk : ∀ ws M P, (R_walk) ws M P → ws.length = 3 := by
  intro ws M P h
  obtain ⟨_, _, _, _, _, _, _, e, _⟩ := h
  rw [e]
  rfl
theorem ok_walk {Pg : Program} {w : World} {K : PySem.W.Frag} {mg : Str → Option Value} {base : Heap} (F : DefD K mg "walk" s_walk ["dither", "here", "row"]) (B : Bi mg) (C_step : C8.Cal Pg w K mg base 2 "step" (FnP K R_step) []) : C8.Cal Pg w K mg base 3 "walk" (FnP K R_walk) [] := by
  refine fn_d F sc_walk len_walk fun f cdv A outer s H E hr => ⟨_, pss_cons (ps_set (i := 3) sc_walk.nd rfl (Or.inl rfl) (pe_tup pa_nil))
      (pss_cons (ps_for PassesOwn.never rfl (pi_tup (pv 2)) (pg_name (i := 4) sc_walk.nd rfl (Or.inl rfl)) (pss_cons (ps_asg (C8.pe_c C_step hr (by decide) (by rfl) (pa_cons (pv 0) (pa_cons (pv 1) (pa_cons (pv 4) pa_nil)))) (pg_tup (by rfl) (pgs_cons (pg_name (i := 5) sc_walk.nd rfl (Or.inl rfl)) (pgs_cons (pg_name (i := 6) sc_walk.nd rfl (Or.inl rfl)) (pgs_cons (pg_name (i := 1) sc_walk.nd rfl (Or.inl rfl)) pgs_nil)))))
      (pss_one (ps_set (i := 3) sc_walk.nd rfl (Or.inl rfl) (pe_op op_catA (pv 3) (pe_tup (pa_cons (pv 5) pa_nil)))))))
      (pss_one (ps_ret (pe_tup (pa_cons (pv 3) (pa_cons (pv 1) pa_nil)))))), fun ws M P hR => ?_⟩
  obtain ⟨d, h0, row, ok, hh, hr, hlen, rfl, h⟩ := hR
  refine q_asg (tx_tup (ax_nil ⟨[], rfl, by simp, ?_⟩))
  refine q_for (fun i ρ' M' => ∃ w4 w5 w6, M' = M ∧ ρ' = [.d d.data, .d (staD (walkS d h0 (row.take i))), .d (eI row), .d (eI (walkO d h0 (row.take i))), w4, w5, w6]) (wx_tup (tx_var rfl ⟨_, rfl, ⟨_, _, _, rfl, rfl⟩, ?_, ?_⟩))
  · rintro i x ρ' M' hx ⟨w4, w5, w6, rfl, rfl⟩
    obtain ⟨s, hs, rfl⟩ := map_int_get hx
    have hso := hr s (List.mem_of_getElem? hs)
    have hi : i < row.length := (List.getElem?_eq_some_iff.mp hs).1
    have sok : StOk d (walkS d h0 (row.take i)) := walk_ok ok _ _ (fun z hz => hr z (List.mem_of_mem_take hz)) hh
    have eS : walkS d h0 (row.take (i + 1)) = nxt d (walkS d h0 (row.take i)) s := by
      rw [List.take_add_one, hs, walkS_app]; rfl
    have eO : walkO d h0 (row.take (i + 1)) = walkO d h0 (row.take i) ++ [out d (walkS d h0 (row.take i)) s] := by
      rw [List.take_add_one, hs, walkO_app]; rfl
    have lO : (walkO d h0 (row.take i)).length = i := by rw [walkO_len, List.length_take]; omega
    refine ⟨_, _, gx_name, ?_⟩
    refine q_unp (tx_call (ax_cons (tx_var rfl (ax_cons (tx_var rfl (ax_cons (tx_var rfl (ax_nil ⟨d, walkS d h0 (row.take i), s, ok, sok, hso, rfl, _, _, _, rfl, gx_3, ?_⟩))))))))
    refine run_asg (tx_op (tx_var rfl (tx_tup (ax_cons (tx_var rfl (ax_nil ⟨[_], rfl, by simp, rx_catT (by rw [List.length_map, lO]; simp; omega) ⟨dI s, dI (out d (walkS d h0 (row.take i)) s), dI (err d (walkS d h0 (row.take i)) s), rfl, ?_⟩⟩))))))
    rw [eS, eO]
    unfold eI
    rw [List.map_append]
    rfl
  · rintro ρ' M' ⟨w4, w5, w6, rfl, rfl⟩
    refine run_ret (tx_tup (ax_cons (tx_var rfl (ax_cons (tx_var rfl (ax_nil ⟨[_, _], rfl, by simp, ?_⟩))))))
    rw [List.length_map, List.take_length]
    exact h
end CD
namespace CD
open PySem PySem.Spec PyProof.Rows L2 CM
theorem len_result : ∀ ws M P, (R_result) ws M P → ws.length = 2 := by
  intro ws M P h
  obtain ⟨_, _, _, _, _, e, _⟩ := h
  rw [e]
  rfl
theorem ok_result {Pg : Program} {w : World} {K : PySem.W.Frag} {mg : Str → Option Value} {base : Heap} (F : DefD K mg "result" s_result ["dither", "row"]) (B : Bi mg) {sA : Addr} (G_START : GTup K mg "START" sA [.int 0, .int 0]) (C_need_dither : C8.Cal Pg w K mg base 4 "need_dither" (FnP K R_need_dither) []) (C_need_row : C8.Cal Pg w K mg base 3 "need_row" (FnP K R_need_row) []) (C_walk : C8.Cal Pg w K mg base 3 "walk" (FnP K R_walk) []) : C8.Cal Pg w K mg base 5 "result" (FnP K R_result) [] := by
  refine fn_d F sc_result len_result fun f cdv A outer s H E hr => ⟨_, pss_cons (ps_expr (C8.pe_c C_need_dither hr (by decide) (by rfl) (pa_cons (pv 0) pa_nil)))
      (pss_cons (ps_expr (C8.pe_c C_need_row hr (by decide) (by rfl) (pa_cons (pv 0) (pa_cons (pv 1) pa_nil))))
      (pss_one (ps_ret (pe_ix ix_tup (C8.pe_c C_walk hr (by decide) (by rfl) (pa_cons (pv 0) (pa_cons (C8.pe_gc (by rfl) G_START.1) (pa_cons (pv 1) pa_nil)))) pe_int (fun _ _ => rfl))))), fun ws M P hR => ?_⟩
  obtain ⟨d, row, ok, hr, hl, rfl, h⟩ := hR
  refine q_drop (tx_call (ax_cons (tx_var rfl (ax_nil ⟨d, ok, rfl, ?_⟩))))
  refine q_drop (tx_call (ax_cons (tx_var rfl (ax_cons (tx_var rfl (ax_nil ⟨d, row, ok, hr, hl, rfl, ?_⟩))))))
  exact run_ret (tx_op (tx_call (ax_cons (tx_var rfl (ax_cons (tx_glob G_START.2 (ax_cons (tx_var rfl (ax_nil ⟨d, (0, 0), row, ok, start_ok ok, hr, by omega, rfl, tx_int (rx_ixT rfl h)⟩)))))))))
end CD
namespace CD
open PySem PySem.Spec PyProof.Rows L2 CM
theorem len_shades_of : ∀ ws M P, (R_shades_of) ws M P → ws.length = 1 := by
  intro ws M P h
  obtain ⟨_, _, e, _⟩ := h
  rw [e]
  rfl
theorem ok_shades_of {Pg : Program} {w : World} {K : PySem.W.Frag} {mg : Str → Option Value} {base : Heap} (F : DefD K mg "shades_of" s_shades_of ["dither"]) (B : Bi mg)  : C8.Cal Pg w K mg base 1 "shades_of" (FnP K R_shades_of) [] := by
  refine fn_d F sc_shades_of len_shades_of fun f cdv A outer s H E hr => ⟨_, pss_one (ps_ret (pe_listRg rfl (by rfl) B.list_ (prg_1 (by rfl) B.range (pe_op op_add (pe_ix ix_tup (pv 0) pe_int (fun _ _ => rfl)) pe_int)))), fun ws M P hR => ?_⟩
  obtain ⟨d, ok, rfl, h⟩ := hR
  have ht := ok.top
  exact run_ret (tx_lstRg (tx_op (tx_vix rfl (x := .int d.top) rfl (tx_int (rx_add ⟨_, rfl, ⟨by omega, by omega⟩, h⟩)))))
end CD
namespace CD
open PySem PySem.Spec PyProof.Rows L2 CM
theorem len_stages_of {Pg : Program} {w : World} {K : PySem.W.Frag} : ∀ ws M P, ((R_stages_of Pg w K)) ws M P → ws.length = 3 := by
  intro ws M P h
  obtain ⟨_, _, _, _, _, _, e, _⟩ := h
  rw [e]
  rfl
theorem ok_stages_of {Pg : Program} {w : World} {K : PySem.W.Frag} {mg : Str → Option Value} {base : Heap} (F : DefD K mg "stages_of" s_stages_of ["dither", "some", "outputs"]) (B : Bi mg) {sA : Addr} (G_START : GTup K mg "START" sA [.int 0, .int 0]) (C_step : C8.Cal Pg w K mg base 2 "step" (FnP K R_step) []) : C8.Cal Pg w K mg base 3 "stages_of" (FnP K (R_stages_of Pg w K)) [] := by
  refine fn_d F sc_stages_of len_stages_of fun f cdv A outer s H E hr => ⟨_, pss_cons (ps_set (i := 3) sc_stages_of.nd rfl (Or.inl rfl) (pe_lst (pa_cons (pe_disp1X hr.units (C8.pe_gc (by rfl) G_START.1) pe_int) pa_nil)))
      (pss_cons (ps_for PassesOwn.never rfl (pi_tup (pv 2)) (pg_name (i := 4) sc_stages_of.nd rfl (Or.inl rfl)) (pss_cons (ps_set (i := 5) sc_stages_of.nd rfl (Or.inl rfl) pe_dnewX)
      (pss_cons (ps_lock (ps_for PassesOwn.never rfl (pi_itemsX (pe_ix ix_list (pv 3) (pe_un un_neg pe_int) (fun _ _ => rfl))) (pg_tup (by rfl) (pgs_cons (pg_name (i := 6) sc_stages_of.nd rfl (Or.inl rfl)) (pgs_cons (pg_name (i := 7) sc_stages_of.nd rfl (Or.inl rfl)) pgs_nil))) (pss_one (ps_for PassesOwn.never rfl (pi_tup (pv 1)) (pg_name (i := 8) sc_stages_of.nd rfl (Or.inl rfl)) (pss_cons (ps_asg (C8.pe_c C_step hr (by decide) (by rfl) (pa_cons (pv 0) (pa_cons (pv 6) (pa_cons (pv 8) pa_nil)))) (pg_tup (by rfl) (pgs_cons (pg_name (i := 9) sc_stages_of.nd rfl (Or.inl rfl)) (pgs_cons (pg_name (i := 10) sc_stages_of.nd rfl (Or.inl rfl)) (pgs_cons (pg_name (i := 11) sc_stages_of.nd rfl (Or.inl rfl)) pgs_nil)))))
      (pss_one (ps_if (pt_cmpR op_eq (pv 9) (pv 4) (nomark _)) (pss_one (ps_asg (pe_op op_add (pe_getOrX hr.units (pv 5) (pv 11) pe_int ⟨by rfl, by rfl, by rfl, by rfl⟩) (pv 7)) (pg_sub (pv 5) (pv 11) (set_dictX hr.units)))) (pss_nil))))))))
      (pss_one (ps_expr (pe_bm PySem.F.plainAttrs_list PySem.F.slot_list_append PySem.F.type_list_append mt_append (pv 3) (pa_cons (pv 5) pa_nil)))))))
      (pss_one (ps_ret (pv 3)))), fun ws M P hR => ?_⟩
  obtain ⟨d, some, o, ok, so, hol, rfl, h⟩ := hR
  have hsl := some_len ok so
  refine q_asg (tx_lstM (ax_cons (TX.toPtr (tx_disp1 (Pg := Pg) (w := w) fun p0 => tx_glob G_START.2 (tx_int ⟨[.num 0, .num 0], .int 1, rfl, skd 0 0, rfl, rfl, p0, rfl, ax_nil ⟨[_], rfl, (by simp), fun pf => ?_⟩⟩)))))
  refine q_for (fun i ρ' M' => ∃ (a : Addr) (ds : List PyData) (kvs : KV) (w4 w5 w6 w7 w8 w9 w10 w11 : W), (Good d some (o.take i) kvs ∧ kvs.length ≤ 9 ^ i ∧ ds.length = i) ∧ M' = (pf, mLst K (ds ++ [ptrD a])) :: (a, mDict Pg w K a (kvD kvs)) :: M ∧ ρ' = [.d d.data, .d (eI some), .d (eI o), .v (.ref pf), w4, w5, w6, w7, w8, w9, w10, w11]) (wx_tup (tx_var rfl ⟨_, rfl, ⟨p0, [], [((0, 0), 1)], _, _, _, _, _, _, _, _, ⟨good_start ok some, Nat.le_refl _, rfl⟩, rfl, rfl⟩, ?_, ?_⟩))
  · rintro i x ρ' M' hx ⟨a, ds, kvs, w4, w5, w6, w7, w8, w9, w10, w11, ⟨g, hkl, hds⟩, rfl, rfl⟩
    obtain ⟨ov, hov, rfl⟩ := map_int_get hx
    have hi : i < o.length := (List.getElem?_eq_some_iff.mp hov).1
    have hp4 : (9 : Nat) ^ i ≤ 9 ^ 3 := Nat.pow_le_pow_right (by decide) (by omega)
    have hp5 : (9 : Nat) ^ 3 = 729 := by decide
    have hkl2 : kvs.length ≤ 729 := by omega
    refine ⟨_, _, gx_name, ?_⟩
    refine q_asg (tx_dnew (Pg := Pg) (w := w) fun pl => ?_)
    refine Run.pre mem_r3 ?_
    refine q_items (Pg := Pg) (w := w) (a := a) (kvs := kvD kvs) (fun j ρ' M' => ∃ w6 w7 w8 w9 w10 w11 : W, M' = (pl, mDict Pg w K pl (kvD (foldK ((kvs.take j).flatMap (ups d ov some))))) :: (pf, mLst K (ds ++ [ptrD a])) :: M ∧ ρ' = [.d d.data, .d (eI some), .d (eI o), .v (.ref pf), dI ov, .v (.ref pl), w6, w7, w8, w9, w10, w11]) ⟨_, _, _, _, _, _, rfl, rfl⟩ (fun f => ?_) ?_ ?_
    · refine tx_op (tx_varv rfl (tx_neg (tx_int ⟨_, rfl, rx_ixMm (a := pf) (xs := ds ++ [ptrD a]) (List.mem_cons_of_mem _ mem2) (atI_m1 (by rw [List.getLast?_concat])) ⟨.inr rfl, rfl⟩⟩)))
    · rintro f j k x ρ' M' hkx ⟨w6, w7, w8, w9, w10, w11, rfl, rfl⟩
      unfold kvD at hkx
      rw [List.getElem?_map] at hkx
      obtain ⟨⟨hst, c⟩, hp, ekx⟩ : ∃ p : Sta × Nat, kvs[j]? = Option.some p ∧ (stK p.1, PyData.int (p.2 : Nat)) = (k, x) := by
        cases q : kvs[j]? with
        | none => rw [q] at hkx; cases hkx
        | some p => rw [q] at hkx; exact ⟨p, rfl, Option.some.inj hkx⟩
      cases ekx
      have hall := g.all _ (List.mem_of_getElem? hp)
      have hU : (kvs.take (j + 1)).flatMap (ups d ov some) = (kvs.take j).flatMap (ups d ov some) ++ ups d ov some (hst, c) := by
        rw [List.take_add_one, hp, List.flatMap_append]
        simp
      have hUl : ((kvs.take j).flatMap (ups d ov some)).length ≤ 729 * 9 := by
        have h1 := flat_len d ov some (kvs.take j)
        have h2 : (kvs.take j).length ≤ 729 := by rw [List.length_take]; omega
        exact Nat.le_trans h1 (Nat.mul_le_mul h2 hsl)
      generalize (kvs.take j).flatMap (ups d ov some) = U at hU hUl
      refine Run.pre mem_swap ?_
      refine run_for (fun t ρ' M' => ∃ w8 w9 w10 w11 : W, M' = (pl, mDict Pg w K pl (kvD (foldK (U ++ ups d ov (some.take t) (hst, c))))) :: (a, f) :: (pf, mLst K (ds ++ [ptrD a])) :: M ∧ ρ' = [.d d.data, .d (eI some), .d (eI o), .v (.ref pf), dI ov, .v (.ref pl), .d (staD hst), dI (c : Nat), w8, w9, w10, w11]) (wx_tup (tx_var rfl ⟨_, rfl, ⟨_, _, _, _, by rw [List.take_zero]; show _ = (pl, mDict Pg w K pl (kvD (foldK (U ++ [])))) :: _; rw [List.append_nil], rfl⟩, ?_, ?_⟩))
      · rintro t x ρ' M' hx ⟨w8, w9, w10, w11, rfl, rfl⟩
        obtain ⟨s, hs, rfl⟩ := map_int_get hx
        have hso := so.ok s (List.mem_of_getElem? hs)
        have hnx := (nxt_ok ok hall.1 hso).2
        have hT : some.take (t + 1) = some.take t ++ [s] := by rw [List.take_add_one, hs]; rfl
        have hul := ups_len d ov (some.take t) (hst, c)
        rw [List.length_take] at hul
        refine ⟨_, _, gx_name, ?_⟩
        refine q_unp (tx_call (ax_cons (tx_var rfl (ax_cons (tx_var rfl (ax_cons (tx_var rfl (ax_nil ⟨d, hst, s, ok, hall.1, hso, rfl, _, _, _, rfl, gx_3, ?_⟩))))))))
        refine run_if (bx_test (tx_op (tx_var rfl (tx_var rfl (rx_eqI ⟨_, rfl, fun cc => ?_, fun cc => ?_⟩)))))
        · have co : out d hst s = ov := of_decide_eq_true cc
          have hfl := foldK_len (U ++ ups d ov (some.take t) (hst, c))
          rw [List.length_append] at hfl
          refine run_setX (Pg := Pg) (w := w) (a := pl) (kvs := kvD (foldK (U ++ ups d ov (some.take t) (hst, c)))) (by rw [kv_len]; omega) rfl (tx_op (tx_getOr (Pg := Pg) (w := w) (tx_varv rfl ⟨pl, .inl rfl, ⟨_, mem1⟩, tx_var rfl ⟨[.num (nxt d hst s).1, .num (nxt d hst s).2], rfl, skd _ _, tx_int ⟨.int 0, _, rfl, mem1, ?_⟩⟩⟩)))
          rw [show NestedKey.tup [.num (nxt d hst s).1, .num (nxt d hst s).2] = stK (nxt d hst s) from rfl, kv_get]
          refine tx_var rfl (rx_add ⟨_, rfl, tx_var rfl ⟨[.num (nxt d hst s).1, .num (nxt d hst s).2], rfl, skd _ _, rfl, _, _, _, _, ?_, rfl⟩⟩)
          rw [show NestedKey.tup [.num (nxt d hst s).1, .num (nxt d hst s).2] = stK (nxt d hst s) from rfl, kv_put (foldK_nd _), ← foldK_snoc (U ++ ups d ov (some.take t) (hst, c)) (nxt d hst s, c), List.append_assoc, hT, ups_snoc, if_pos co]
        · have co : ¬ out d hst s = ov := of_decide_eq_false cc
          refine run_next ⟨_, _, _, _, ?_, rfl⟩
          rw [hT, ups_snoc, if_neg co]
      · rintro ρ' M' ⟨w8, w9, w10, w11, rfl, rfl⟩
        rw [List.length_map, List.take_length, ← hU]
        exact ⟨_, mem_swap, _, _, _, _, _, _, rfl, rfl⟩
    · rintro ρ' M' ⟨w6, w7, w8, w9, w10, w11, rfl, rfl⟩
      rw [kv_len, List.take_length]
      refine Run.pre mem_d3 ?_
      have hT : o.take (i + 1) = o.take i ++ [ov] := by rw [List.take_add_one, hov]; rfl
      have hl1 := foldK_len (kvs.flatMap (ups d ov some))
      have hl2 := flat_len d ov some kvs
      have hl3 : kvs.length * some.length ≤ 9 ^ i * 9 := Nat.mul_le_mul hkl hsl
      refine mt_app (a := pf) (ds := ds ++ [ptrD a]) ?_ ?_ rfl
      · rw [List.length_append, List.length_singleton]; omega
      · refine tx_ptr rfl ⟨_, rfl, rfl, pl, ds ++ [ptrD a], foldK (kvs.flatMap (ups d ov some)), _, _, _, _, _, _, _, _, ⟨?_, ?_, by rw [List.length_append, List.length_singleton, hds]⟩, rfl, rfl⟩
        · rw [hT]; exact good_step ok so.ok g ov
        · rw [Nat.pow_succ]; omega
  · rintro ρ' M' ⟨a, ds, kvs, w4, w5, w6, w7, w8, w9, w10, w11, ⟨g, hkl, hds⟩, rfl, rfl⟩
    rw [List.length_map] at g hkl
    rw [List.take_length] at g
    have hp4 : (9 : Nat) ^ o.length ≤ 9 ^ 4 := Nat.pow_le_pow_right (by decide) hol
    have hp5 : (9 : Nat) ^ 4 = 6561 := by decide
    exact run_ret (tx_varv rfl (h pf a ds kvs g (by omega)))
end CD
namespace CD
open PySem PySem.Spec PyProof.Rows L2 CM
theorem kv_ints (kvs : KV) : (kvD kvs).map (·.2) = (kvs.map fun p => ((p.2 : Nat) : Int)).map PyData.int := by
  unfold kvD
  rw [List.map_map, List.map_map]
  rfl
theorem kv_sum (kvs : KV) : (kvs.map fun p => ((p.2 : Nat) : Int)).sum = (((kvs.map (·.2)).sum : Nat) : Int) := by
  induction kvs with
  | nil => rfl
  | cons p kvs ih => rw [List.map_cons, List.sum_cons, List.map_cons, List.sum_cons, ih]; omega
theorem len_count_of : ∀ ws M P, (R_count_of) ws M P → ws.length = 3 := by
  intro ws M P h
  obtain ⟨_, _, _, _, _, _, e, _⟩ := h
  rw [e]
  rfl
theorem ok_count_of {Pg : Program} {w : World} {K : PySem.W.Frag} {mg : Str → Option Value} {base : Heap} (F : DefD K mg "count_of" s_count_of ["dither", "some", "outputs"]) (B : Bi mg) (C_stages_of : C8.Cal Pg w K mg base 3 "stages_of" (FnP K (R_stages_of Pg w K)) []) : C8.Cal Pg w K mg base 4 "count_of" (FnP K R_count_of) [] := by
  refine fn_d F sc_count_of len_count_of fun f cdv A outer s H E hr => ⟨_, pss_one (ps_ret (pe_callB (cr_sum rfl) (by rfl) B.sum bt_sum (pa_cons (pe_callTy (call_listVals rfl) (by rfl) B.list_ bt_list (pa_cons (pe_valuesX (pe_ix ix_list (C8.pe_c C_stages_of hr (by decide) (by rfl) (pa_cons (pv 0) (pa_cons (pv 1) (pa_cons (pv 2) pa_nil)))) (pe_un un_neg pe_int) (fun _ _ => rfl))) pa_nil)) pa_nil))), fun ws M P hR => ?_⟩
  obtain ⟨d, some, o, ok, so, hl, rfl, h⟩ := hR
  refine run_ret (TX.weak (tx_cb (ax_cons (tx_listVals (Pg := Pg) (w := w) (tx_op (tx_call (ax_cons (tx_var rfl (ax_cons (tx_var rfl (ax_cons (tx_var rfl (ax_nil ⟨d, some, o, ok, so, hl, rfl, fun pf a ds kvs g hk => tx_neg (tx_int ⟨_, rfl, ?_⟩)⟩)))))))))))))
  have hx : L2.atI (ds ++ [ptrD a]) (-1) = Option.some (ptrD a) := atI_m1 (by rw [List.getLast?_concat])
  refine rx_ixM hx ⟨a, kvD kvs, .inr rfl, mem2, ?_⟩
  rw [kv_ints]
  refine ax_nil (cx_sumL ?_)
  rw [kv_sum, good_sum g]
  exact ⟨M, fun G H m => mem_tail G H (mem_tail G H m), h⟩
end CD
namespace CD
open PySem PySem.Spec PyProof.Rows L2 CM
theorem len_is_possible : ∀ ws M P, (R_is_possible) ws M P → ws.length = 3 := by
  intro ws M P h
  obtain ⟨_, _, _, _, _, _, _, e, _⟩ := h
  rw [e]
  rfl
theorem ok_is_possible {Pg : Program} {w : World} {K : PySem.W.Frag} {mg : Str → Option Value} {base : Heap} (F : DefD K mg "is_possible" s_is_possible ["dither", "some", "outputs"]) (B : Bi mg) (C_need_dither : C8.Cal Pg w K mg base 4 "need_dither" (FnP K R_need_dither) []) (C_need_some : C8.Cal Pg w K mg base 3 "need_some" (FnP K R_need_some) []) (C_need_outputs : C8.Cal Pg w K mg base 3 "need_outputs" (FnP K R_need_outputs) []) (C_count_of : C8.Cal Pg w K mg base 4 "count_of" (FnP K R_count_of) []) : C8.Cal Pg w K mg base 5 "is_possible" (FnP K R_is_possible) [] := by
  refine fn_d F sc_is_possible len_is_possible fun f cdv A outer s H E hr => ⟨_, pss_cons (ps_expr (C8.pe_c C_need_dither hr (by decide) (by rfl) (pa_cons (pv 0) pa_nil)))
      (pss_cons (ps_expr (C8.pe_c C_need_some hr (by decide) (by rfl) (pa_cons (pv 0) (pa_cons (pv 1) pa_nil))))
      (pss_cons (ps_expr (C8.pe_c C_need_outputs hr (by decide) (by rfl) (pa_cons (pv 0) (pa_cons (pv 2) pa_nil))))
      (pss_one (ps_ret (pe_cmpR op_gt (C8.pe_c C_count_of hr (by decide) (by rfl) (pa_cons (pv 0) (pa_cons (pv 1) (pa_cons (pv 2) pa_nil)))) pe_int (nomark _)))))), fun ws M P hR => ?_⟩
  obtain ⟨d, some, o, ok, so, ho, hl, rfl, h⟩ := hR
  refine q_drop (tx_call (ax_cons (tx_var rfl (ax_nil ⟨d, ok, rfl, ?_⟩))))
  refine q_drop (tx_call (ax_cons (tx_var rfl (ax_cons (tx_var rfl (ax_nil ⟨d, some, ok, so, rfl, ?_⟩))))))
  refine q_drop (tx_call (ax_cons (tx_var rfl (ax_cons (tx_var rfl (ax_nil ⟨d, o, ok, ho, by omega, rfl, ?_⟩))))))
  refine run_ret (tx_op (tx_call (ax_cons (tx_var rfl (ax_cons (tx_var rfl (ax_cons (tx_var rfl (ax_nil ⟨d, some, o, ok, so, hl, rfl, tx_int (rx_gt ?_)⟩)))))))))
  have e : decide ((0 : Int) < ((cnt d some (0, 0) o : Nat) : Int)) = decide (0 < cnt d some (0, 0) o) := decide_eq_decide.mpr (by omega)
  rw [e]
  exact h
end CD
namespace CD
open PySem PySem.Spec PyProof.Rows L2 CM
theorem len_count_rows : ∀ ws M P, (R_count_rows) ws M P → ws.length = 3 := by
  intro ws M P h
  obtain ⟨_, _, _, _, _, _, _, e, _⟩ := h
  rw [e]
  rfl
theorem ok_count_rows {Pg : Program} {w : World} {K : PySem.W.Frag} {mg : Str → Option Value} {base : Heap} (F : DefD K mg "count_rows" s_count_rows ["dither", "some", "outputs"]) (B : Bi mg) (C_need_dither : C8.Cal Pg w K mg base 4 "need_dither" (FnP K R_need_dither) []) (C_need_some : C8.Cal Pg w K mg base 3 "need_some" (FnP K R_need_some) []) (C_need_outputs : C8.Cal Pg w K mg base 3 "need_outputs" (FnP K R_need_outputs) []) (C_count_of : C8.Cal Pg w K mg base 4 "count_of" (FnP K R_count_of) []) : C8.Cal Pg w K mg base 5 "count_rows" (FnP K R_count_rows) [] := by
  refine fn_d F sc_count_rows len_count_rows fun f cdv A outer s H E hr => ⟨_, pss_cons (ps_expr (C8.pe_c C_need_dither hr (by decide) (by rfl) (pa_cons (pv 0) pa_nil)))
      (pss_cons (ps_expr (C8.pe_c C_need_some hr (by decide) (by rfl) (pa_cons (pv 0) (pa_cons (pv 1) pa_nil))))
      (pss_cons (ps_expr (C8.pe_c C_need_outputs hr (by decide) (by rfl) (pa_cons (pv 0) (pa_cons (pv 2) pa_nil))))
      (pss_one (ps_ret (C8.pe_c C_count_of hr (by decide) (by rfl) (pa_cons (pv 0) (pa_cons (pv 1) (pa_cons (pv 2) pa_nil)))))))), fun ws M P hR => ?_⟩
  obtain ⟨d, some, o, ok, so, ho, hl, rfl, h⟩ := hR
  refine q_drop (tx_call (ax_cons (tx_var rfl (ax_nil ⟨d, ok, rfl, ?_⟩))))
  refine q_drop (tx_call (ax_cons (tx_var rfl (ax_cons (tx_var rfl (ax_nil ⟨d, some, ok, so, rfl, ?_⟩))))))
  refine q_drop (tx_call (ax_cons (tx_var rfl (ax_cons (tx_var rfl (ax_nil ⟨d, o, ok, ho, by omega, rfl, ?_⟩))))))
  exact run_ret (tx_call (ax_cons (tx_var rfl (ax_cons (tx_var rfl (ax_cons (tx_var rfl (ax_nil ⟨d, some, o, ok, so, hl, rfl, h⟩))))))))
end CD
namespace CD
open PySem PySem.Spec PyProof.Rows L2 CM
theorem GI.few {d : Di} (ok : d.Ok) {U : List (Int × Sta)} {kvs : FD} (g : GI U kvs) (h : ∀ u ∈ U, u.1 ∈ d.levels) : kvs.length ≤ 6 := by
  have h1 := nodup_le (kvs.map (·.1)) d.levels g.nd fun k hk => by
    obtain ⟨x, hx⟩ := g.keyU hk
    exact h _ hx
  rw [List.length_map] at h1
  have := ok.len
  omega
theorem GI.valLen {U : List (Int × Sta)} {kvs : FD} (g : GI U kvs) (o : Int) : (valI kvs o).length ≤ U.length := by
  unfold valI
  cases q : kvs.find? fun p => decide (p.1 = o) with
  | none => exact Nat.zero_le _
  | some p => exact g.len p (List.mem_of_find?_eq_some q)
theorem next_is {d : Di} {some : List Int} {L : List Sta} {kvs : FD} (g : GI (handU d some L) kvs) {ys : List Int} (pm : ys.Perm (kvs.map (·.1))) (as : ys.Pairwise (· ≤ ·)) {T : List (Int × List Sta)} (hl : T.length = ys.length)
    (h3 : ∀ (i : Nat) (t : Int × List Sta), T[i]? = Option.some t → ys[i]? = Option.some t.1 ∧ t.2.Nodup ∧ ∀ x, x ∈ t.2 ↔ (t.1, x) ∈ handU d some L) : IsNext d some L T ∧ NdN T := by
  have hTy : T.map (·.1) = ys := by
    refine List.ext_getElem? fun i => ?_
    rw [List.getElem?_map]
    cases q : T[i]? with
    | none =>
      rw [List.getElem?_eq_none_iff] at q
      rw [Option.map_none, List.getElem?_eq_none (by omega)]
    | some t => rw [(h3 i t q).1]; rfl
  have hmem : ∀ p ∈ T, p.2.Nodup ∧ ∀ x, x ∈ p.2 ↔ (p.1, x) ∈ handU d some L := fun p hp => by
    obtain ⟨i, hi⟩ := List.mem_iff_getElem?.mp hp
    exact (h3 i p hi).2
  refine ⟨⟨?_, fun p hp x => ?_, fun h hh s hs => ?_, fun p hp => ?_⟩, fun p hp => (hmem p hp).1⟩
  · rw [hTy]
    have nd : ys.Nodup := pm.nodup_iff.mpr g.nd
    exact (as.and nd).imp fun ⟨a, b⟩ => by
      have : ¬ _ = _ := b
      omega
  · rw [(hmem p hp).2 x, mem_handU]
  · have hu : (out d h s, nxt d h s) ∈ handU d some L := mem_handU.mpr ⟨h, hh, s, hs, rfl, rfl⟩
    have hk : out d h s ∈ ys := pm.mem_iff.mpr (g.key _ hu)
    rw [← hTy] at hk
    obtain ⟨p, hp, e⟩ := List.mem_map.mp hk
    exact ⟨p.2, by rw [← e]; exact hp⟩
  · intro e
    have hk : p.1 ∈ kvs.map (·.1) := by
      rw [← pm.mem_iff, ← hTy]
      exact List.mem_map.mpr ⟨p, hp, rfl⟩
    obtain ⟨x, hx⟩ := g.keyU hk
    have := ((hmem p hp).2 x).mpr hx
    rw [e] at this
    cases this
theorem hand_lev {d : Di} (ok : d.Ok) (some : List Int) (L : List Sta) : ∀ u ∈ handU d some L, u.1 ∈ d.levels := fun u hu => by
  obtain ⟨h, _, s, _, e, _⟩ := mem_handU.mp (show (u.1, u.2) ∈ handU d some L from hu)
  rw [← e]
  exact out_mem ok h s
theorem hand_len {d : Di} {some : List Int} (hs : some.length ≤ 9) (L : List Sta) : (handU d some L).length ≤ L.length * 9 := by
  unfold handU
  induction L with
  | nil => simp
  | cons x L ih =>
    rw [List.flatMap_cons, List.length_append, List.length_map, List.length_cons]
    omega
theorem len_next_lots : ∀ ws M P, (R_next_lots) ws M P → ws.length = 3 := by
  intro ws M P h
  obtain ⟨_, _, _, _, _, _, _, _, e, _⟩ := h
  rw [e]
  rfl
theorem ok_next_lots {Pg : Program} {w : World} {K : PySem.W.Frag} {mg : Str → Option Value} {base : Heap} (F : DefD K mg "next_lots" s_next_lots ["dither", "some", "lot"]) (B : Bi mg) (C_step : C8.Cal Pg w K mg base 2 "step" (FnP K R_step) []) : C8.Cal Pg w K mg base 3 "next_lots" (FnP K R_next_lots) [] := by
  refine fn_d F sc_next_lots len_next_lots fun f cdv A outer s H E hr => ⟨_, pss_cons (ps_set (i := 3) sc_next_lots.nd rfl (Or.inr rfl) pe_dnewK)
      (pss_cons (ps_for PassesOwn.never rfl (pi_tup (pv 2)) (pg_name (i := 4) sc_next_lots.nd rfl (Or.inl rfl)) (pss_one (ps_for PassesOwn.never rfl (pi_tup (pv 1)) (pg_name (i := 5) sc_next_lots.nd rfl (Or.inl rfl)) (pss_cons (ps_asg (C8.pe_c C_step hr (by decide) (by rfl) (pa_cons (pv 0) (pa_cons (pv 4) (pa_cons (pv 5) pa_nil)))) (pg_tup (by rfl) (pgs_cons (pg_name (i := 6) sc_next_lots.nd rfl (Or.inl rfl)) (pgs_cons (pg_name (i := 7) sc_next_lots.nd rfl (Or.inl rfl)) (pgs_cons (pg_name (i := 8) sc_next_lots.nd rfl (Or.inl rfl)) pgs_nil)))))
      (pss_one (ps_asg (pe_op op_cat (pe_dget2 (Nat.lt_of_le_of_lt (Nat.add_le_add_left (by decide : 1 ≤ 64) _) hr.units) (pv 3) (pv 6) (pe_lst pa_nil) ⟨by rfl, by rfl, by rfl, by rfl⟩) (pe_lst (pa_cons (pv 8) pa_nil))) (pg_sub (pv 3) (pv 6) (L2.set_dict (Nat.lt_of_le_of_lt (Nat.add_le_add_left (by decide : 1 ≤ 64) _) hr.units)))))))))
      (pss_one (ps_ret (pe_lc (own := [("output", 6)]) (g := gName 6) rfl sc_next_lots.nd (pi_list (pe_callB (call_sortedDI rfl) (by rfl) B.sorted bt_sorted (pa_cons (pv 3) pa_nil))) (blkOk_by (own := [("output", 6)]) (N := nm_next_lots) (sc := defScope s_next_lots) (by decide +kernel)) (fun _ _ _ _ _ => pg_name (i := 6) sc_next_lots.nd rfl (Or.inl rfl)) (fun _ _ _ _ _ => pts_nil) (fun _ _ _ _ _ => pe_tup (pa_cons (pv 6) (pa_cons (pe_callTy (r := rTupOf K) call_tuple_of (by rfl) B.tuple_ bt_tuple (pa_cons (pe_callB (r := rSortN K Pg w) (cr_sortN rfl hr.units) (by rfl) B.sorted bt_sorted (pa_cons (pe_callTy (r := rSetFew K Pg w) (cr_setFew rfl hr.units) (by rfl) B.set bt_set (pa_cons (pe_dget (Nat.lt_of_le_of_lt (Nat.add_le_add_left (by decide : 1 ≤ 64) _) hr.units) (pv 3) (pv 6) (fun _ _ => rfl)) pa_nil)) pa_nil)) pa_nil)) pa_nil))))))), fun ws M P hR => ?_⟩
  obtain ⟨d, some, L, ok, so, st, sm, hL, rfl, h⟩ := hR
  have hsl := some_len ok so
  refine q_asg (tx_dnewI fun pf => ?_)
  refine q_for (fun i ρ' M' => ∃ (kvs : FD) (w4 w5 w6 w7 w8 : W), GI (handU d some (L.take i)) kvs ∧ M' = (pf, mDI K (fD kvs)) :: M ∧ ρ' = [.d d.data, .d (eI some), .d (lotD L), .v (.ref pf), w4, w5, w6, w7, w8]) (wx_tup (tx_var rfl ⟨_, rfl, ⟨[], _, _, _, _, _, GI.nil, rfl, rfl⟩, ?_, ?_⟩))
  · rintro i x ρ' M' hx ⟨kvs, w4, w5, w6, w7, w8, g, rfl, rfl⟩
    obtain ⟨hst, hh, rfl⟩ := map_get hx
    have hso := st hst (List.mem_of_getElem? hh)
    have hU : handU d some (L.take (i + 1)) = handU d some (L.take i) ++ some.map fun s => (out d hst s, nxt d hst s) := by
      unfold handU
      rw [List.take_add_one, hh, List.flatMap_append]
      simp
    have hUl := hand_len (d := d) hsl (L.take i)
    have htk : (L.take i).length ≤ 81 := by rw [List.length_take]; omega
    have hUo := hand_lev ok some (L.take i)
    generalize handU d some (L.take i) = U at g hU hUl hUo
    refine ⟨_, _, gx_name, ?_⟩
    refine run_for (fun t ρ' M' => ∃ (kvs : FD) (w5 w6 w7 w8 : W), GI (U ++ (some.take t).map fun s => (out d hst s, nxt d hst s)) kvs ∧ M' = (pf, mDI K (fD kvs)) :: M ∧ ρ' = [.d d.data, .d (eI some), .d (lotD L), .v (.ref pf), .d (staD hst), w5, w6, w7, w8]) (wx_tup (tx_var rfl ⟨_, rfl, ⟨kvs, _, _, _, _, by rw [List.take_zero, List.map_nil, List.append_nil]; exact g, rfl, rfl⟩, ?_, ?_⟩))
    · rintro t x ρ' M' hx ⟨kvs, w5, w6, w7, w8, g, rfl, rfl⟩
      obtain ⟨s, hs, rfl⟩ := map_int_get hx
      have hsr := so.ok s (List.mem_of_getElem? hs)
      have hT : some.take (t + 1) = some.take t ++ [s] := by rw [List.take_add_one, hs]; rfl
      have g2 := g.step (out d hst s) (nxt d hst s)
      have g2' : GI (U ++ (some.take (t + 1)).map fun s => (out d hst s, nxt d hst s)) (putI kvs (out d hst s) (valI kvs (out d hst s) ++ [nxt d hst s])) := by
        rw [hT, List.map_append, ← List.append_assoc]
        exact g2
      have hfew : kvs.length ≤ 6 := g.few ok fun u hu => by
        rcases List.mem_append.mp hu with z | z
        · exact hUo u z
        · obtain ⟨s', _, rfl⟩ := List.mem_map.mp z
          exact out_mem ok hst s'
      have hvl := g.valLen (out d hst s)
      rw [List.length_append, List.length_map, List.length_take] at hvl
      refine ⟨_, _, gx_name, ?_⟩
      refine q_unp (tx_call (ax_cons (tx_var rfl (ax_cons (tx_var rfl (ax_cons (tx_var rfl (ax_nil ⟨d, hst, s, ok, hso, hsr, rfl, _, _, _, rfl, gx_3, ?_⟩))))))))
      refine run_setI (a := pf) (kvs := fD kvs) (by unfold fD; rw [List.length_map]; omega) rfl (tx_op (tx_getOrI (tx_varv rfl ⟨pf, .inl rfl, ⟨_, mem1⟩, tx_var rfl ⟨_, rfl, tx_lst (ax_nil ⟨[], rfl, (by simp), .list [], _, rfl, mem1, ?_⟩)⟩⟩)))
      rw [fD_getD]
      refine tx_lst (ax_cons (tx_var rfl (ax_nil ⟨[_], rfl, (by simp), rx_catL (by rw [List.length_map, List.length_singleton]; omega) ⟨_, rfl, tx_var rfl ⟨_, rfl, rfl, _, _, _, _, _, g2', ?_, rfl⟩⟩⟩)))
      rw [← fD_put, List.map_append]
      rfl
    · rintro ρ' M' ⟨kvs, w5, w6, w7, w8, g, rfl, rfl⟩
      rw [List.length_map, List.take_length, ← hU] at g
      exact ⟨kvs, _, _, _, _, _, g, rfl, rfl⟩
  · rintro ρ' M' ⟨kvs, w4, w5, w6, w7, w8, g, rfl, rfl⟩
    rw [List.length_map, List.take_length] at g
    have hfew : kvs.length ≤ 6 := g.few ok (hand_lev ok some L)
    have hks : (fD kvs).map (·.1) = kvs.map (·.1) := by
      unfold fD
      rw [List.map_map]
      rfl
    refine run_ret (TX.weak (tx_lc (wx_lst (tx_cb (ax_cons (tx_varv rfl (ax_nil (cx_sortDI (.inl rfl) mem1 (by unfold fD; rw [List.length_map]; omega) fun ys pm as => ⟨_, rfl, ?_⟩))))))))
    rw [hks] at pm
    have hyl : ys.length = kvs.length := by rw [pm.length_eq, List.length_map]
    refine ⟨fun _ b => b = true, fun i y => ∃ t : Int × List Sta, y = nxE t ∧ (ys[i]? = Option.some t.1 ∧ t.2.Nodup ∧ ∀ x, x ∈ t.2 ↔ (t.1, x) ∈ handU d some L), by rw [List.length_map]; omega, fun i x F hx => ?_, fun f v hf hv => ?_⟩
    · obtain ⟨o, ho, rfl⟩ := map_int_get hx
      obtain ⟨p, hp, hpo⟩ := List.mem_map.mp (pm.mem_iff.mp (List.mem_of_getElem? ho))
      have hget : iGet (fD kvs) o = Option.some (.list (p.2.map staD)) := by
        rw [fD_get, ← hpo, find_nd g.nd hp]
        rfl
      have few : FewS p.2 := fun ts nd hts => sm ts nd fun x hx => by
        obtain ⟨g1, hg1, s, hs, _, e2⟩ := mem_handU.mp ((g.all p hp x).mp (hts x hx))
        exact ⟨g1, hg1, s, so.ok s hs, e2⟩
      refine ⟨_, _, gx_name, fun j hj => hj, bx_yes ⟨rfl, rfl, fun _ => ?_⟩⟩
      refine tx_tup (ax_cons (tx_var rfl (ax_cons (tx_cb (ax_cons (tx_cb (ax_cons (tx_cb (ax_cons (tx_getI (tx_varv rfl ⟨pf, .inl rfl, tx_var rfl ⟨o, fD kvs, _, rfl, mem1, hget, ax_nil (cx_setF few fun a => ax_nil (cx_sortN fun ts nd hm => ax_nil (cx_tuple (ax_nil ⟨[.int o, lotD ts], rfl, (by simp), rfl, _, rfl, (o, ts), rfl, ho, nd, fun x => ?_⟩))))⟩⟩)))))))))))
      rw [hm x, g.all p hp x, hpo]
    · obtain ⟨T, h1, h2, h3⟩ := lst_choice (enc := nxE) (Q := fun i t => ys[i]? = Option.some t.1 ∧ t.2.Nodup ∧ ∀ x, x ∈ t.2 ↔ (t.1, x) ∈ handU d some L) _ f v hf (fun i hi => hv i hi (hf i hi))
      rw [h2]
      rw [List.length_map] at h1
      obtain ⟨n1, n2⟩ := next_is g pm as h1 h3
      exact ⟨M, mem_tail, h T n1 n2⟩
end CD
namespace CD
open PySem PySem.Spec PyProof.Rows L2 CM
theorem len_Counter_init {Pg : Program} {w : World} {K : PySem.W.Frag} {C : Addr} : ∀ ws M P, ((R_init Pg w K C)) ws M P → ws.length = 3 := by
  intro ws M P h
  obtain ⟨_, _, _, _, e, _⟩ := h
  rw [e]
  rfl
theorem ok_Counter_init {Pg : Program} {w : World} {K : PySem.W.Frag} {mg : Str → Option Value} {base : Heap} {C : Addr} (F : DefI K mg C "Counter" "Counter.__init__" s_Counter_init ["self", "dither", "some"]) (T : CtrT K C) (B : Bi mg)  : C8.Mak Pg w K mg base 1 "Counter" C (FnP K (R_init Pg w K C)) [] := by
  refine fn_i F sc_Counter_init len_Counter_init fun f cdv A outer s H E hr => ⟨_, pss_cons (ps_fld (pv 0) (pv 1) rfl)
      (pss_cons (ps_fld (pv 0) (pv 2) rfl)
      (pss_cons (ps_fld (pv 0) pe_dnewX rfl)
      (pss_one (ps_fld (pv 0) pe_dnewX rfl)))), fun ws M P hR => ?_⟩
  obtain ⟨p, d, some, M0, rfl, rfl, h⟩ := hR
  refine q_sfld T.cl T.nd (by decide) rfl (tx_var rfl ⟨M0, MemLe.rfl, ?_⟩)
  refine q_sfld T.cl T.ns (by simp [pF]) rfl (tx_var rfl ⟨M0, MemLe.rfl, ?_⟩)
  refine q_sfld T.cl T.nn (by simp only [pF, if_neg str_ne.1]; exact Nat.lt_of_sub_pos (by simp)) rfl (tx_dnew (Pg := Pg) (w := w) fun an => ⟨_, mem_swap, ?_⟩)
  refine run_sfld T.cl T.nk (by simp only [pF, if_neg str_ne.1, if_neg str_ne.2.1, if_neg str_ne.2.2.1]; exact Nat.lt_of_sub_pos (by simp)) rfl (tx_dnew (Pg := Pg) (w := w) fun ak => ⟨(an, mAll Pg w K an 0 (QN d some)) :: (ak, mAll Pg w K ak 0 (QK d some)) :: M0, ?_, ?_⟩)
  · refine MemLe.trans (mem_close (B := 0) (Qk := QK d some) (Nat.le_refl _) (fun p hp => by cases hp)) ?_
    refine MemLe.trans mem_swap ?_
    refine MemLe.trans (mem_perm (List.Perm.cons _ (List.Perm.swap _ _ _))) ?_
    refine mem_weak (m := mDict Pg w K an []) (m' := mAll Pg w K an 0 (QN d some)) (fun G o hh => ⟨[], Nat.le_refl _, (fun q hq => (List.not_mem_nil hq).elim), hh⟩) [_] _
  · rw [pF_eq]
    exact h an ak
end CD
namespace CD
open PySem PySem.Spec PyProof.Rows L2 CM
theorem len_Counter_next_of {Pg : Program} {w : World} {K : PySem.W.Frag} {C : Addr} : ∀ ws M P, ((R_next_of Pg w K C)) ws M P → ws.length = 2 := by
  intro ws M P h
  obtain ⟨_, _, _, _, _, _, _, _, _, _, _, _, _, _, _, e, _⟩ := h
  rw [e]
  rfl
theorem ok_Counter_next_of {Pg : Program} {w : World} {K : PySem.W.Frag} {mg : Str → Option Value} {base : Heap} {C : Addr} (F : DefM K C "next_of" "Counter.next_of" s_Counter_next_of ["self", "lot"]) (T : CtrT K C) (B : Bi mg) (C_next_lots : C8.Cal Pg w K mg base 3 "next_lots" (FnP K R_next_lots) []) : C8.Met Pg w K mg base 4 C "next_of" (FnP K (R_next_of Pg w K C)) [] := by
  refine fn_m F sc_Counter_next_of len_Counter_next_of fun f cdv A outer s H E hr => ⟨_, pss_cons (ps_if (pt_cmp (pc_notinX hr.units (pv 1) (pe_fld (pv 0) rfl)) (by rfl)) (pss_one (ps_asg (C8.pe_c C_next_lots hr (by decide) (by rfl) (pa_cons (pe_fld (pv 0) rfl) (pa_cons (pe_fld (pv 0) rfl) (pa_cons (pv 1) pa_nil)))) (pg_sub (pe_fld (pv 0) rfl) (pv 1) (set_dictX hr.units)))) (pss_nil))
      (pss_one (ps_ret (pe_getX hr.units (pe_fld (pv 0) rfl) (pv 1) (fun _ _ => rfl)))), fun ws M P hR => ?_⟩
  obtain ⟨p, an, ak, d, some, L, k, B0, M0, ok, so, lp, hk, nd, hB, rfl, rfl, h⟩ := hR
  have hkey : NestedKey.tup (L.map stK) = lotK L := rfl
  have hkd : W.d (lotD L) = W.d (.tuple (NestedKey.datas (L.map stK))) := by rw [datas_stK]; rfl
  have hret : ∀ kvs : List (NestedKey × PyData), kvs.length ≤ B0 + 1 → (∀ q ∈ kvs, QN d some q.1 q.2) → (dGet kvs (lotK L)).isSome = true → Run K (tRet (tGetX Pg w K (tFld K (tVar 0) "nexts") (tVar 1))) { nx := fun _ M' => P (.d .none) M', rt := P } [.v (.ref p), .d (lotD L)] ((an, mDict Pg w K an kvs) :: (p, mIns K C (ctrF d some an ak)) :: (ak, mAll Pg w K ak B0 (QK d some)) :: M0) := by
    intro kvs hl hq hg
    obtain ⟨x, hx⟩ := Option.isSome_iff_exists.mp hg
    obtain ⟨v, rfl, N, hN⟩ := hq _ (dGet_mem hx) L rfl
    refine run_ret (TX.weak (tx_getX (Pg := Pg) (w := w) (a := an) (kvs := kvs) (tx_fld T.cl T.nn rfl mem2 (ctr_n d some an ak) ⟨rfl, tx_var rfl ⟨L.map stK, _, hkd, lotK_depth L, mem1, hx, ctrM Pg w K C d some p an ak (B0 + 1) M0, ?_, h v N hN⟩⟩)))
    refine MemLe.trans (mem_close (B := B0 + 1) (Qk := QN d some) hl hq) ?_
    refine MemLe.trans mem_swap ?_
    exact mem_weak (m := mAll Pg w K ak B0 (QK d some)) (m' := mAll Pg w K ak (B0 + 1) (QK d some)) (fun G o hh => mAll_mono (Nat.le_succ _) hh) [_, _] M0
  refine Run.pre (show MemLe (ctrM Pg w K C d some p an ak B0 M0) ((an, mAll Pg w K an B0 (QN d some)) :: (p, mIns K C (ctrF d some an ak)) :: (ak, mAll Pg w K ak B0 (QK d some)) :: M0) from mem_swap) ?_
  refine run_open fun kvs hl hq => ?_
  refine q_if (bx_val (tx_inX (Pg := Pg) (w := w) (a := an) (kvs := kvs) (neg := true) (tx_var rfl ⟨L.map stK, hkd, lotK_depth L, tx_fld T.cl T.nn rfl mem2 (ctr_n d some an ak) ⟨rfl, mem1, _, rfl, fun c => ?_, fun c => ?_⟩⟩)))
  · have hn : dGet kvs (lotK L) = none := by
      have c' : (!(dGet kvs (lotK L)).isSome) = true := c
      cases q : dGet kvs (lotK L) with
      | none => rfl
      | some x => rw [q] at c'; cases c'
    refine run_setO (Pg := Pg) (w := w) (tx_call (ax_cons (tx_fld T.cl T.nd rfl mem2 (ctr_d d some an ak) (ax_cons (tx_fld T.cl T.ns rfl mem2 (ctr_s d some an ak) (ax_cons (tx_var rfl (ax_nil ⟨d, some, L, ok, so, lp.st, lot_sm ok lp hk, lot_len ok lp nd, rfl, fun v N hN => ⟨_, rfl, tx_fld T.cl T.nn rfl mem2 (ctr_n d some an ak) ⟨an, rfl, tx_var rfl ⟨L.map stK, kvs, _, hkd, lotK_depth L, by omega, rfl, ?_⟩⟩⟩⟩))))))))
    rw [hkey, dPut_new _ hn]
    refine hret _ (by rw [List.length_append, List.length_singleton]; omega) (fun q hq' => ?_) ?_
    · rcases List.mem_append.mp hq' with z | z
      · exact hq q z
      · rw [List.mem_singleton.mp z]
        intro L' e
        rw [← lotK_inj e]
        exact ⟨v, rfl, N, hN⟩
    · rw [dGet_app, hn]
      simp
  · refine run_next (hret kvs (by omega) hq ?_)
    have c' : (!(dGet kvs (lotK L)).isSome) = false := c
    cases q : dGet kvs (lotK L) with
    | none => rw [q] at c'; cases c'
    | some x => rfl
end CD
namespace CD
open PySem PySem.Spec PyProof.Rows L2 CM
theorem len_Counter_many {Pg : Program} {w : World} {K : PySem.W.Frag} {C : Addr} (N : Nat) : ∀ ws M P, (R_many Pg w K C N) ws M P → ws.length = 3 := by
  intro ws M P h
  obtain ⟨_, _, _, _, _, _, _, _, _, _, _, _, _, _, _, _, _, e, _⟩ := h
  rw [e]
  rfl
theorem many_zero {Pg : Program} {w : World} {K : PySem.W.Frag} {mg : Str → Option Value} {base : Heap} {C : Addr} (F : DefM K C "many" "Counter.many" s_Counter_many ["self", "lot", "number"]) (T : CtrT K C) (B : Bi mg) (C_Counter_next_of : C8.Met Pg w K mg base 4 C "next_of" (FnP K (R_next_of Pg w K C)) []) : C8.Met Pg w K mg base 5 C "many" (FnP K (R_many Pg w K C 0)) [] := by
  refine fn_m F sc_Counter_many (len_Counter_many 0) fun f cdv A outer s H E hr => ⟨_, pss_cons (ps_if (pt_cmpR op_eq (pv 2) pe_int (nomark _)) (pss_one (ps_ret pe_int)) (pss_nil))
      (pss_cons (ps_never)
      (pss_one (ps_ret (pe_getX hr.units (pe_fld (pv 0) rfl) (pe_tup (pa_cons (pv 1) (pa_cons (pv 2) pa_nil))) (fun _ _ => rfl))))), fun ws M P hR => ?_⟩
  obtain ⟨p, an, ak, d, some, L, k, n, B0, M0, ok, so, lp, hkn, hn, nd, hB, rfl, rfl, h⟩ := hR
  have hn0 : n = 0 := by omega
  subst hn0
  refine q_if (bx_test (tx_op (tx_var rfl (tx_int (rx_eqT rfl ⟨_, rfl, fun _ => run_ret (tx_int ?_), tf⟩)))))
  rw [lefts_zero lp.ne] at h
  exact h
theorem many_step {Pg : Program} {w : World} {K : PySem.W.Frag} {mg : Str → Option Value} {base : Heap} {C : Addr} (F : DefM K C "many" "Counter.many" s_Counter_many ["self", "lot", "number"]) (T : CtrT K C) (B : Bi mg) (C_Counter_next_of : C8.Met Pg w K mg base 4 C "next_of" (FnP K (R_next_of Pg w K C)) []) (N : Nat) (C_Counter_many : C8.Met Pg w K mg base (5 + N) C "many" (FnP K (R_many Pg w K C N)) []) : C8.Met Pg w K mg base (5 + N + 1) C "many" (FnP K (R_many Pg w K C (N + 1))) [] := by
  refine fn_m F sc_Counter_many (len_Counter_many (N + 1)) fun f cdv A outer s H E hr => ⟨_, pss_cons (ps_if (pt_cmpR op_eq (pv 2) pe_int (nomark _)) (pss_one (ps_ret pe_int)) (pss_nil))
      (pss_cons (ps_if (pt_cmp (pc_notinX hr.units (pe_tup (pa_cons (pv 1) (pa_cons (pv 2) pa_nil))) (pe_fld (pv 0) rfl)) (by rfl)) (pss_one (ps_asg (pe_callB (cr_sum rfl) (by rfl) B.sum bt_sum (pa_cons (pe_lc (own := [("output", 3), ("there", 4)]) (g := gTup K 2 (gCons (gName 3) (gCons (gName 4) gNil))) rfl sc_Counter_many.nd (pi_list (C8.pe_mt C_Counter_next_of hr (by omega) (pv 0) (pa_cons (pv 1) pa_nil))) (blkOk_by (own := [("output", 3), ("there", 4)]) (N := nm_Counter_many) (sc := defScope s_Counter_many) (by decide +kernel)) (fun _ _ _ _ _ => pg_tup (by rfl) (pgs_cons (pg_name (i := 3) sc_Counter_many.nd rfl (Or.inl rfl)) (pgs_cons (pg_name (i := 4) sc_Counter_many.nd rfl (Or.inl rfl)) pgs_nil))) (fun _ _ _ _ _ => pts_nil) (fun _ _ _ _ _ => C8.pe_mt C_Counter_many hr (by omega) (pv 0) (pa_cons (pv 4) (pa_cons (pe_op op_sub (pv 2) pe_int) pa_nil)))) pa_nil)) (pg_sub (pe_fld (pv 0) rfl) (pe_tup (pa_cons (pv 1) (pa_cons (pv 2) pa_nil))) (set_dictX hr.units)))) (pss_nil))
      (pss_one (ps_ret (pe_getX hr.units (pe_fld (pv 0) rfl) (pe_tup (pa_cons (pv 1) (pa_cons (pv 2) pa_nil))) (fun _ _ => rfl))))), fun ws M P hR => ?_⟩
  obtain ⟨p, an, ak, d, some, L, k, n, B0, M0, ok, so, lp, hkn, hn, nd, hB, rfl, rfl, h⟩ := hR
  cases n with
  | zero =>
    refine q_if (bx_test (tx_op (tx_var rfl (tx_int (rx_eqT rfl ⟨_, rfl, fun _ => run_ret (tx_int ?_), tf⟩)))))
    rw [lefts_zero lp.ne] at h
    exact h
  | succ m =>
  refine q_if (bx_test (tx_op (tx_var rfl (tx_int (rx_eqF (by omega) ⟨_, rfl, ft, fun _ => run_next ?_⟩)))))
  have hfb : fB (m + 1) = 2 + 6 * fB m := rfl
  have hkd : ∀ (Pk : W → Mem → Prop) (M1 : Mem), Pk (.d (.tuple (NestedKey.datas [lotK L, .num ((m + 1 : Nat) : Int)]))) M1 → TX K (tTup (tCons (tVar 1) (tCons (tVar 2) tNil))) [.v (.ref p), .d (lotD L), dI ((m + 1 : Nat) : Int), .u, .u] M1 Pk := fun Pk M1 hp => by
    rw [datas_lnK] at hp
    exact tx_tup (ax_cons (tx_var rfl (ax_cons (tx_var rfl (ax_nil ⟨[_, _], rfl, (by simp), hp⟩)))))
  have hret : ∀ (B1 : Nat) (kvs : List (NestedKey × PyData)), B1 ≤ B0 + fB (m + 1) → kvs.length ≤ B0 + fB (m + 1) → (∀ q ∈ kvs, QK d some q.1 q.2) → (dGet kvs (lnK L ((m + 1 : Nat) : Int))).isSome = true → Run K (tRet (tGetX Pg w K (tFld K (tVar 0) "known") (tTup (tCons (tVar 1) (tCons (tVar 2) tNil))))) { nx := fun _ M' => P (.d .none) M', rt := P } [.v (.ref p), .d (lotD L), dI ((m + 1 : Nat) : Int), .u, .u] ((ak, mDict Pg w K ak kvs) :: (p, mIns K C (ctrF d some an ak)) :: (an, mAll Pg w K an B1 (QN d some)) :: M0) := by
    intro B1 kvs hB1 hl hq hg
    obtain ⟨x, hx⟩ := Option.isSome_iff_exists.mp hg
    have ex := hq _ (dGet_mem hx) L (m + 1) rfl
    subst ex
    refine run_ret (TX.weak (tx_getX (Pg := Pg) (w := w) (a := ak) (kvs := kvs) (tx_fld T.cl T.nk rfl mem2 (ctr_k d some an ak) ⟨rfl, hkd _ _ ⟨[lotK L, .num ((m + 1 : Nat) : Int)], _, rfl, lnK_depth L _, mem1, hx, ctrM Pg w K C d some p an ak (B0 + fB (m + 1)) M0, ?_, h⟩⟩)))
    refine MemLe.trans (mem_close (B := B0 + fB (m + 1)) (Qk := QK d some) hl hq) ?_
    refine MemLe.trans mem_swap ?_
    refine MemLe.trans (mem_perm (List.Perm.cons _ (List.Perm.swap _ _ _))) ?_
    exact mem_weak (m := mAll Pg w K an B1 (QN d some)) (m' := mAll Pg w K an (B0 + fB (m + 1)) (QN d some)) (fun G o hh => mAll_mono hB1 hh) [_] _
  have hpm : ∀ B1, MemLe (ctrM Pg w K C d some p an ak B1 M0) ((ak, mAll Pg w K ak B1 (QK d some)) :: (p, mIns K C (ctrF d some an ak)) :: (an, mAll Pg w K an B1 (QN d some)) :: M0) := fun B1 => mem_r3
  refine Run.pre (hpm B0) ?_
  refine run_open fun kvs hl hq => ?_
  refine q_if (bx_val (tx_inX (Pg := Pg) (w := w) (a := ak) (kvs := kvs) (neg := true) (hkd _ _ ⟨[lotK L, .num ((m + 1 : Nat) : Int)], rfl, lnK_depth L _, tx_fld T.cl T.nk rfl mem2 (ctr_k d some an ak) ⟨rfl, mem1, _, rfl, fun c => ?_, fun c => ?_⟩⟩)))
  · have hback : MemLe ((ak, mDict Pg w K ak kvs) :: (p, mIns K C (ctrF d some an ak)) :: (an, mAll Pg w K an B0 (QN d some)) :: M0) (ctrM Pg w K C d some p an ak B0 M0) := by
      refine MemLe.trans (mem_close (B := B0) (Qk := QK d some) hl hq) ?_
      refine MemLe.trans mem_swap ?_
      exact mem_perm (List.Perm.cons _ (List.Perm.swap _ _ _))
    refine Run.pre hback ?_
    have hfm := fB_mono (Nat.le_succ m)
    refine run_setO (Pg := Pg) (w := w) (tx_cb (ax_cons (tx_lcT (wx_lst (tx_meth (tx_varv rfl ⟨p, _, rfl, mem1, ctr_next_of d some an ak, ax_cons (tx_var rfl (ax_nil ⟨p, an, ak, d, some, L, k, B0, M0, ok, so, lp, by omega, nd, by omega, rfl, rfl, fun v N hN => ⟨_, rfl, v, fun _ => true, fun q => .int ((lefts d some q.2 m).length : Nat), fun i => ctrM Pg w K C d some p an ak (B0 + 1 + i * fB m) M0, rfl, by show _ = ctrM Pg w K C d some p an ak (B0 + 1 + 0 * fB m) M0; rw [Nat.zero_mul, Nat.add_zero], ?_, fun i q F hi => ?_, ?_⟩⟩))⟩))))))
    · have := next_len ok N
      omega
    · have hq := List.mem_of_getElem? hi
      have hvl := next_len ok N
      have hil : i < v.length := (List.getElem?_eq_some_iff.mp hi).1
      have him : (i + 1) * fB m ≤ 6 * fB m := Nat.mul_le_mul (by omega) (Nat.le_refl _)
      have hi1 : (i + 1) * fB m = i * fB m + fB m := Nat.succ_mul i (fB m)
      refine ⟨_, _, gx_2, fun j hj => hj, bx_yes ⟨rfl, rfl, (fun z => by cases z), fun _ => ?_⟩⟩
      refine tx_meth (tx_varv rfl ⟨p, _, rfl, mem1, ctr_many d some an ak, ax_cons (tx_var rfl (ax_cons (tx_op (tx_var rfl (tx_int (rx_sub (ax_nil ⟨p, an, ak, d, some, q.2, k + 1, m, B0 + 1 + i * fB m, M0 ++ F, ok, so, lot_behind ok so lp N hq, by omega, by omega, hN q hq, by omega, ?_, rfl, ?_, rfl⟩)))))))⟩)
      · rw [show ((m + 1 : Nat) : Int) - 1 = ((m : Nat) : Int) by omega]
      · exact ctr_mono (M0 ++ F) (by omega)
    · have hvl := next_len ok N
      have him : v.length * fB m ≤ 6 * fB m := Nat.mul_le_mul (by omega) (Nat.le_refl _)
      have e1 : (v.filter fun _ => true).map (fun q => PyData.int ((lefts d some q.2 m).length : Nat)) = (v.map fun q => (((lefts d some q.2 m).length : Nat) : Int)).map PyData.int := by
        rw [List.filter_eq_self.mpr fun _ _ => rfl, List.map_map]
        rfl
      rw [e1]
      have e2 : (v.map fun q => (((lefts d some q.2 m).length : Nat) : Int)).sum = (((lefts d some L (m + 1)).length : Nat) : Int) := by
        rw [num_succ ok N]
        exact sum_cast _ _
      refine ax_nil (cx_sumL ⟨_, rfl, ?_⟩)
      rw [e2]
      refine tx_fld T.cl T.nk rfl mem1 (ctr_k d some an ak) ⟨ak, rfl, ?_⟩
      refine TX.pre (hpm _) (tx_open fun kvs2 hl2 hq2 => ?_)
      refine hkd _ _ ⟨[lotK L, .num ((m + 1 : Nat) : Int)], kvs2, _, rfl, lnK_depth L _, by omega, rfl, ?_⟩
      have hdl := dPut_len kvs2 (.tup [lotK L, .num ((m + 1 : Nat) : Int)]) (.int (((lefts d some L (m + 1)).length : Nat) : Int))
      refine hret _ _ (by omega) (by omega) (fun q hq' => ?_) (dPut_some _ _ _)
      rcases dPut_mem hq' with z | z
      · exact hq2 q z
      · rw [z]
        intro L' n' e
        obtain ⟨e3, e4⟩ := lnK_inj (show lnK L ((m + 1 : Nat) : Int) = lnK L' ((n' : Nat) : Int) from e)
        have e5 : n' = m + 1 := by omega
        rw [← e3, e5]
  · refine run_next (hret B0 kvs (by omega) (by omega) hq ?_)
    have c' : (!(dGet kvs (lnK L ((m + 1 : Nat) : Int))).isSome) = false := c
    cases q : dGet kvs (lnK L ((m + 1 : Nat) : Int)) with
    | none => rw [q] at c'; cases c'
    | some x => rfl
theorem ok_Counter_many {Pg : Program} {w : World} {K : PySem.W.Frag} {mg : Str → Option Value} {base : Heap} {C : Addr} (F : DefM K C "many" "Counter.many" s_Counter_many ["self", "lot", "number"]) (T : CtrT K C) (B : Bi mg) (C_Counter_next_of : C8.Met Pg w K mg base 4 C "next_of" (FnP K (R_next_of Pg w K C)) []) : C8.Met Pg w K mg base 8 C "many" (FnP K (R_many Pg w K C 3)) [] := many_step F T B C_Counter_next_of 2 (many_step F T B C_Counter_next_of 1 (many_step F T B C_Counter_next_of 0 (many_zero F T B C_Counter_next_of)))
end CD
namespace CD
open PySem PySem.Spec PyProof.Rows L2 CM
theorem len_need_number : ∀ ws M P, (R_need_number) ws M P → ws.length = 2 := by
  intro ws M P h
  obtain ⟨_, _, _, e, _⟩ := h
  rw [e]
  rfl
theorem ok_need_number {Pg : Program} {w : World} {K : PySem.W.Frag} {mg : Str → Option Value} {base : Heap} (F : DefD K mg "need_number" s_need_number ["number", "most"]) (B : Bi mg) (C_is_between : C8.Cal Pg w K mg base 1 "is_between" (FnP K R_is_between) []) : C8.Cal Pg w K mg base 2 "need_number" (FnP K R_need_number) [] := by
  refine fn_d F sc_need_number len_need_number fun f cdv A outer s H E hr => ⟨_, pss_one (ps_if (pt_not (pt_val (C8.pe_c C_is_between hr (by decide) (by rfl) (pa_cons (pv 0) (pa_cons pe_int (pa_cons (pv 1) pa_nil)))))) (pss_one (ps_never)) (pss_nil)), fun ws M P hR => ?_⟩
  obtain ⟨n, most, hn, rfl, h⟩ := hR
  refine run_if (bx_not (bx_val (tx_call (ax_cons (tx_var rfl (ax_cons (tx_int (ax_cons (tx_var rfl (ax_nil ⟨n, 0, most, rfl, ?_⟩))))))))))
  rw [decide_eq_true hn.1, decide_eq_true hn.2]
  exact ⟨true, rfl, ft, fun _ => run_next h⟩
end CD
namespace CD
open PySem PySem.Spec PyProof.Rows L2 CM
theorem len_count_results : ∀ ws M P, (R_count_results) ws M P → ws.length = 3 := by
  intro ws M P h
  obtain ⟨_, _, _, _, _, _, e, _⟩ := h
  rw [e]
  rfl
theorem ok_count_results {Pg : Program} {w : World} {K : PySem.W.Frag} {mg : Str → Option Value} {base : Heap} {C : Addr} (F : DefD K mg "count_results" s_count_results ["dither", "some", "number"]) (B : Bi mg) (G_MOST_COUNTED : GInt mg "MOST_COUNTED" 20) {sA : Addr} (G_START : GTup K mg "START" sA [.int 0, .int 0]) (C_need_dither : C8.Cal Pg w K mg base 4 "need_dither" (FnP K R_need_dither) []) (C_need_some : C8.Cal Pg w K mg base 3 "need_some" (FnP K R_need_some) []) (C_Counter_init : C8.Mak Pg w K mg base 1 "Counter" C (FnP K (R_init Pg w K C)) []) (C_Counter_many : C8.Met Pg w K mg base 8 C "many" (FnP K (R_many Pg w K C 3)) []) (C_need_number : C8.Cal Pg w K mg base 2 "need_number" (FnP K R_need_number) []) : C8.Cal Pg w K mg base 9 "count_results" (FnP K R_count_results) [] := by
  refine fn_d F sc_count_results len_count_results fun f cdv A outer s H E hr => ⟨_, pss_cons (ps_expr (C8.pe_c C_need_dither hr (by decide) (by rfl) (pa_cons (pv 0) pa_nil)))
      (pss_cons (ps_expr (C8.pe_c C_need_some hr (by decide) (by rfl) (pa_cons (pv 0) (pa_cons (pv 1) pa_nil))))
      (pss_cons (ps_expr (C8.pe_c C_need_number hr (by decide) (by rfl) (pa_cons (pv 2) (pa_cons (C8.pe_gc (by rfl) G_MOST_COUNTED) pa_nil))))
      (pss_one (ps_ret (C8.pe_mt C_Counter_many hr (by decide) (C8.pe_mk C_Counter_init hr (by decide) (by rfl) (pa_cons (pv 0) (pa_cons (pv 1) pa_nil))) (pa_cons (pe_tup (pa_cons (C8.pe_gc (by rfl) G_START.1) pa_nil)) (pa_cons (pv 2) pa_nil))))))), fun ws M P hR => ?_⟩
  obtain ⟨d, some, n, ok, so, hn, rfl, h⟩ := hR
  have hf := fB3 hn
  refine q_drop (tx_call (ax_cons (tx_var rfl (ax_nil ⟨d, ok, rfl, ?_⟩))))
  refine q_drop (tx_call (ax_cons (tx_var rfl (ax_cons (tx_var rfl (ax_nil ⟨d, some, ok, so, rfl, ?_⟩))))))
  refine q_drop (tx_call (ax_cons (tx_var rfl (ax_cons (tx_int (ax_nil ⟨(n : Int), 20, ⟨by omega, by omega⟩, rfl, ?_⟩))))))
  refine run_ret (TX.weak (tx_meth (tx_make (ax_cons (tx_var rfl (ax_cons (tx_var rfl (ax_nil fun p => ⟨p, d, some, M, rfl, rfl, fun an ak => ⟨rfl, p, _, rfl, mem1, ctr_many d some an ak, ax_cons (tx_tup (ax_cons (tx_glob G_START.2 (ax_nil ⟨[_], rfl, (by simp), ax_cons (tx_var rfl (ax_nil ⟨p, an, ak, d, some, [(0, 0)], 0, n, 0, M, ok, so, lot_start ok, by omega, hn, by simp, by omega, rfl, rfl, M, ctr_drop, h⟩))⟩))))⟩⟩))))))))
end CD
namespace CD
open PySem PySem.Spec PyProof.Rows L2 CM
theorem len_result_at : ∀ ws M P, (R_result_at) ws M P → ws.length = 4 := by
  intro ws M P h
  obtain ⟨_, _, _, _, _, _, _, _, _, e, _⟩ := h
  rw [e]
  rfl
theorem ok_result_at {Pg : Program} {w : World} {K : PySem.W.Frag} {mg : Str → Option Value} {base : Heap} {C : Addr} (F : DefD K mg "result_at" s_result_at ["dither", "some", "number", "place"]) (B : Bi mg) (G_MOST_COUNTED : GInt mg "MOST_COUNTED" 20) {sA : Addr} (G_START : GTup K mg "START" sA [.int 0, .int 0]) (C_is_between : C8.Cal Pg w K mg base 1 "is_between" (FnP K R_is_between) []) (C_need_dither : C8.Cal Pg w K mg base 4 "need_dither" (FnP K R_need_dither) []) (C_need_some : C8.Cal Pg w K mg base 3 "need_some" (FnP K R_need_some) []) (C_Counter_init : C8.Mak Pg w K mg base 1 "Counter" C (FnP K (R_init Pg w K C)) []) (C_Counter_next_of : C8.Met Pg w K mg base 4 C "next_of" (FnP K (R_next_of Pg w K C)) []) (C_Counter_many : C8.Met Pg w K mg base 8 C "many" (FnP K (R_many Pg w K C 3)) []) (C_need_number : C8.Cal Pg w K mg base 2 "need_number" (FnP K R_need_number) []) : C8.Cal Pg w K mg base 9 "result_at" (FnP K R_result_at) [] := by
  refine fn_d F sc_result_at len_result_at fun f cdv A outer s H E hr => ⟨_, pss_cons (ps_expr (C8.pe_c C_need_dither hr (by decide) (by rfl) (pa_cons (pv 0) pa_nil)))
      (pss_cons (ps_expr (C8.pe_c C_need_some hr (by decide) (by rfl) (pa_cons (pv 0) (pa_cons (pv 1) pa_nil))))
      (pss_cons (ps_expr (C8.pe_c C_need_number hr (by decide) (by rfl) (pa_cons (pv 2) (pa_cons (C8.pe_gc (by rfl) G_MOST_COUNTED) pa_nil))))
      (pss_cons (ps_par3 (i := 4) (j := 5) (l := 6) rfl sc_result_at.nd rfl rfl rfl (by decide) (by decide) (by decide) rfl rfl rfl (pa_cons (C8.pe_mk C_Counter_init hr (by decide) (by rfl) (pa_cons (pv 0) (pa_cons (pv 1) pa_nil))) (pa_cons (pe_tup (pa_cons (C8.pe_gc (by rfl) G_START.1) pa_nil)) (pa_cons (pe_tup pa_nil) pa_nil))) (by rfl))
      (pss_cons (ps_if (pt_not (pt_val (C8.pe_c C_is_between hr (by decide) (by rfl) (pa_cons (pv 3) (pa_cons pe_int (pa_cons (pe_op op_sub (C8.pe_mt C_Counter_many hr (by decide) (pv 4) (pa_cons (pv 5) (pa_cons (pv 2) pa_nil))) pe_int) pa_nil)))))) (pss_one (ps_never)) (pss_nil))
      (pss_cons (ps_set (i := 7) sc_result_at.nd rfl (Or.inl rfl) (pv 3))
      (pss_cons (ps_for PassesOwn.never rfl (pi_range3 (by rfl) B.range (pa_cons (pe_op op_sub (pv 2) pe_int) (pa_cons (pe_un un_neg pe_int) (pa_cons (pe_un un_neg pe_int) pa_nil)))) (pg_name (i := 8) sc_result_at.nd rfl (Or.inl rfl)) (pss_one (ps_for PassesOwn.never rfl (pi_list (C8.pe_mt C_Counter_next_of hr (by decide) (pv 4) (pa_cons (pv 5) pa_nil))) (pg_tup (by rfl) (pgs_cons (pg_name (i := 9) sc_result_at.nd rfl (Or.inl rfl)) (pgs_cons (pg_name (i := 10) sc_result_at.nd rfl (Or.inl rfl)) pgs_nil))) (pss_cons (ps_set (i := 11) sc_result_at.nd rfl (Or.inl rfl) (C8.pe_mt C_Counter_many hr (by decide) (pv 4) (pa_cons (pv 10) (pa_cons (pv 8) pa_nil))))
      (pss_cons (ps_if (pt_cmpR op_lt (pv 7) (pv 11) (nomark _)) (pss_cons (ps_par (i := 6) (j := 5) rfl sc_result_at.nd rfl rfl (by decide) rfl rfl (pa_cons (pe_op op_catA (pv 6) (pe_tup (pa_cons (pv 9) pa_nil))) (pa_cons (pv 10) pa_nil)) (by rfl))
      (pss_one (ps_break))) (pss_nil))
      (pss_one (ps_set (i := 7) sc_result_at.nd rfl (Or.inl rfl) (pe_op op_sub (pv 7) (pv 11)))))))))
      (pss_one (ps_ret (pv 6))))))))), fun ws M P hR => ?_⟩
  obtain ⟨d, some, n, r, x, ok, so, hn, hx, rfl, h⟩ := hR
  have hf := fB3 hn
  have hrl : r < (lefts d some [(0, 0)] n).length := (List.getElem?_eq_some_iff.mp hx).1
  refine q_drop (tx_call (ax_cons (tx_var rfl (ax_nil ⟨d, ok, rfl, ?_⟩))))
  refine q_drop (tx_call (ax_cons (tx_var rfl (ax_cons (tx_var rfl (ax_nil ⟨d, some, ok, so, rfl, ?_⟩))))))
  refine q_drop (tx_call (ax_cons (tx_var rfl (ax_cons (tx_int (ax_nil ⟨(n : Int), 20, ⟨by omega, by omega⟩, rfl, ?_⟩))))))
  refine q_par3 (ax_cons (tx_make (ax_cons (tx_var rfl (ax_cons (tx_var rfl (ax_nil fun p => ⟨p, d, some, M, rfl, rfl, fun an ak => ⟨rfl, ax_cons (tx_tup (ax_cons (tx_glob G_START.2 (ax_nil ⟨[_], rfl, (by simp), ax_cons (tx_tup (ax_nil ⟨[], rfl, (by simp), ax_nil ⟨_, _, _, rfl, ?_⟩⟩))⟩))))⟩⟩)))))))
  refine q_ifF (bx_not (bx_val (tx_call (ax_cons (tx_var rfl (ax_cons (tx_int (ax_cons (tx_op (tx_meth (tx_varv rfl ⟨p, _, rfl, mem1, ctr_many d some an ak, ax_cons (tx_var rfl (ax_cons (tx_var rfl (ax_nil ⟨p, an, ak, d, some, [(0, 0)], 0, n, 0, M, ok, so, lot_start ok, by omega, hn, by simp, by omega, rfl, rfl, tx_int (rx_sub (ax_nil ⟨(r : Int), 0, _, rfl, _, rfl, ?_, ?_⟩))⟩))))⟩)))))))))))
  · rw [decide_eq_true (show (0 : Int) ≤ (r : Int) by omega), decide_eq_true (show (r : Int) ≤ (((lefts d some [(0, 0)] n).length : Nat) : Int) - 1 by omega)]
    rfl
  refine q_asg (tx_var rfl ?_)
  refine q_for (fun i ρ' M' => ∃ (L : List Sta) (u y : List Int) (ri Bi : Nat) (w8 w9 w10 w11 : W), (LotP d i L ∧ L.Nodup ∧ u.length = i ∧ u ++ y = x ∧ (lefts d some L (n - i))[ri]? = Option.some y ∧ Bi ≤ 86 + i * 700) ∧ M' = ctrM Pg w K C d some p an ak Bi M ∧ ρ' = [.d d.data, .d (eI some), dI (n : Nat), dI (r : Nat), .v (.ref p), .d (lotD L), .d (eI u), dI (ri : Nat), w8, w9, w10, w11]) (wx_rng3 (ax_cons (tx_op (tx_var rfl (tx_int (rx_sub (ax_cons (tx_neg (tx_int ⟨1, rfl, ax_cons (tx_neg (tx_int ⟨1, rfl, ax_nil ⟨(n : Int) - 1, -1, rfl, by omega, ⟨[(0, 0)], [], x, r, 0 + fB n, _, _, _, _, ⟨lot_start ok, by simp, rfl, rfl, hx, by omega⟩, rfl, rfl⟩, ?_, ?_⟩⟩))⟩)))))))))
  · rintro i y0 ρ' M' hy0 ⟨L, u, y, ri, Bi, w8, w9, w10, w11, ⟨lp, nd, hul, huy, hg, hBi⟩, rfl, rfl⟩
    obtain ⟨hi, rfl⟩ := rngC_get hy0
    have hin : i < n := by omega
    have hrest : (n : Int) - 1 + (i : Int) * -1 = ((n - i - 1 : Nat) : Int) := by omega
    rw [hrest]
    have hni : n - i = (n - i - 1) + 1 := by omega
    rw [hni] at hg
    have hfm : fB (n - i - 1) ≤ 86 := fB3 (by omega)
    refine ⟨_, _, gx_name, ?_⟩
    refine run_forE (wx_lst (tx_meth (tx_varv rfl ⟨p, _, rfl, mem1, ctr_next_of d some an ak, ax_cons (tx_var rfl (ax_nil ⟨p, an, ak, d, some, L, i, Bi, M, ok, so, lp, by omega, nd, by omega, rfl, rfl, fun v N hN => ⟨_, rfl, ?_⟩⟩))⟩)))
    obtain ⟨v1, o, L', v2, r', y', ev, ey, er, hg'⟩ := place_cons ok N hg
    have hvl := next_len ok N
    have hr' : r' < (lefts d some L' (n - i - 1)).length := (List.getElem?_eq_some_iff.mp hg').1
    have hT := sum_take_le (fun q : Int × List Sta => (lefts d some q.2 (n - i - 1)).length) v1
    have hS := fun (j : Nat) (q : Int × List Sta) (hq : v1[j]? = Option.some q) => sum_take_succ v1 (fun q : Int × List Sta => (lefts d some q.2 (n - i - 1)).length) hq
    have hS0 : ((v1.take 0).map fun q : Int × List Sta => (lefts d some q.2 (n - i - 1)).length).sum = 0 := by simp
    have hSn : ((v1.take v1.length).map fun q : Int × List Sta => (lefts d some q.2 (n - i - 1)).length).sum = (v1.map fun q : Int × List Sta => (lefts d some q.2 (n - i - 1)).length).sum := by rw [List.take_length]
    generalize hSS : (fun j : Nat => ((v1.take j).map fun q : Int × List Sta => (lefts d some q.2 (n - i - 1)).length).sum) = S
    have hSe : ∀ j, ((v1.take j).map fun q : Int × List Sta => (lefts d some q.2 (n - i - 1)).length).sum = S j := fun j => by rw [← hSS]
    rw [hSe] at hS0 hSn
    refine ⟨fun j ρ' M' => ∃ (Bj : Nat) (w9 w10 w11 : W), (j ≤ v1.length ∧ Bj ≤ 86 + i * 700 + 1 + j * 86) ∧ M' = ctrM Pg w K C d some p an ak Bj M ∧ ρ' = [.d d.data, .d (eI some), dI (n : Nat), dI (r : Nat), .v (.ref p), .d (lotD L), .d (eI u), dI ((ri - S j : Nat) : Int), dI ((n - i - 1 : Nat) : Int), w9, w10, w11], ⟨Bi + 1, _, _, _, ⟨Nat.zero_le _, by omega⟩, rfl, by rw [hS0]; rfl⟩, ?_, ?_⟩
    · rintro j z ρ' M' hz ⟨Bj, w9, w10, w11, ⟨hj, hBj⟩, rfl, rfl⟩
      obtain ⟨q, hq, rfl⟩ := map_get hz
      have hqv := List.mem_of_getElem? hq
      have hjv : j < v.length := (List.getElem?_eq_some_iff.mp hq).1
      refine ⟨_, _, gx_2, ?_⟩
      refine q_asg (tx_meth (tx_varv rfl ⟨p, _, rfl, mem1, ctr_many d some an ak, ax_cons (tx_var rfl (ax_cons (tx_var rfl (ax_nil ⟨p, an, ak, d, some, q.2, i + 1, n - i - 1, Bj, M, ok, so, lot_behind ok so lp N hqv, by omega, by omega, hN q hqv, by omega, rfl, rfl, ?_⟩))))⟩))
      refine q_if (bx_test (tx_op (tx_var rfl (tx_var rfl (rx_lt ⟨_, rfl, fun c => ?_, fun c => ?_⟩)))))
      · have c' := of_decide_eq_true c
        have hje : j = v1.length := by
          rcases Nat.lt_or_ge j v1.length with hlt | hge
          · rw [ev, List.getElem?_append_left hlt] at hq
            have h1 := hS j q hq
            rw [hSe, hSe] at h1
            have h2 := hT (j + 1)
            rw [hSe] at h2
            omega
          · omega
        have hqe : q = (o, L') := by
          rw [ev, hje, List.getElem?_append_right (Nat.le_refl _), Nat.sub_self] at hq
          exact (Option.some.inj hq).symm
        subst hqe
        refine q_par (ax_cons (tx_op (tx_var rfl (tx_tup (ax_cons (tx_var rfl (ax_nil ⟨[_], rfl, (by simp), rx_catT (by rw [List.length_map, List.length_singleton]; omega) (ax_cons (tx_var rfl (ax_nil ⟨_, _, rfl, run_break ?_⟩)))⟩)))))))
        refine ⟨L', u ++ [o], y', r', _, dI ((n - i - 1 : Nat) : Int), .d (.int o), .d (lotD L'), dI (((lefts d some L' (n - i - 1)).length : Nat) : Int), ⟨lot_behind ok so lp N hqv, hN _ hqv, by rw [List.length_append, List.length_singleton]; omega, by rw [List.append_assoc, ← huy, ey]; rfl, by rw [show n - (i + 1) = n - i - 1 by omega]; exact hg', ?_⟩, rfl, ?_⟩
        · omega
        · have e1 : ri - S j = r' := by rw [hje]; omega
          have e2 : PyData.tuple (u.map PyData.int ++ [PyData.int o]) = eI (u ++ [o]) := by
            unfold eI
            rw [List.map_append]
            rfl
          rw [e1, e2]
          rfl
      · have c' := of_decide_eq_false c
        refine run_next ?_
        have hlt : j < v1.length := by
          rcases Nat.lt_or_ge j v1.length with hlt | hge
          · exact hlt
          · have hje : j = v1.length := by omega
            have hqe : q = (o, L') := by
              rw [ev, hje, List.getElem?_append_right (Nat.le_refl _), Nat.sub_self] at hq
              exact (Option.some.inj hq).symm
            subst hqe
            have c2 : ¬ (((ri - S j : Nat) : Int) < (((lefts d some L' (n - i - 1)).length : Nat) : Int)) := c'
            rw [hje] at c2
            omega
        rw [ev, List.getElem?_append_left hlt] at hq
        have h1 := hS j q hq
        rw [hSe, hSe] at h1
        have h2 := hT (j + 1)
        rw [hSe] at h2
        refine run_asg (tx_op (tx_var rfl (tx_var rfl (rx_sub ⟨_, .d (.int q.1), .d (lotD q.2), dI (((lefts d some q.2 (n - i - 1)).length : Nat) : Int), ⟨by omega, ?_⟩, rfl, ?_⟩))))
        · omega
        · rw [show ((ri - S j : Nat) : Int) - (((lefts d some q.2 (n - i - 1)).length : Nat) : Int) = ((ri - S (j + 1) : Nat) : Int) by omega]
          rfl
    · rintro ρ' M' ⟨Bj, w9, w10, w11, ⟨hj, hBj⟩, rfl, rfl⟩
      rw [List.length_map, ev, List.length_append, List.length_cons] at hj
      omega
  · rintro ρ' M' ⟨L, u, y, ri, Bi, w8, w9, w10, w11, ⟨lp, nd, hul, huy, hg, hBi⟩, rfl, rfl⟩
    rw [rngC_len, show ((n : Int) - 1 - -1).toNat = n by omega] at hg
    rw [Nat.sub_self, lefts_zero lp.ne] at hg
    have hy : y = [] := by
      have hm := List.mem_of_getElem? hg
      simpa using hm
    subst hy
    rw [List.append_nil] at huy
    subst huy
    exact run_ret (TX.weak (tx_var rfl ⟨M, ctr_drop, h⟩))
end CD
namespace CD
open PySem PySem.Spec PyProof.Rows L2 CM
theorem asc_parts {v1 v2 : List (Int × List Sta)} {o : Int} {L' : List Sta} (h : ((v1 ++ (o, L') :: v2).map (·.1)).Pairwise (· < ·)) : (v1 ++ (o, L') :: v2).filter (fun q => decide (q.1 < o)) = v1 ∧ (v1 ++ (o, L') :: v2).filter (fun q => decide (q.1 = o)) = [(o, L')] := by
  rw [List.map_append, List.map_cons, List.pairwise_append] at h
  obtain ⟨_, h2, h3⟩ := h
  have h4 := (List.pairwise_cons.mp h2).1
  have a1 : ∀ q ∈ v1, q.1 < o := fun q hq => h3 _ (List.mem_map.mpr ⟨q, hq, rfl⟩) _ List.mem_cons_self
  have a2 : ∀ q ∈ v2, o < q.1 := fun q hq => h4 _ (List.mem_map.mpr ⟨q, hq, rfl⟩)
  refine ⟨?_, ?_⟩
  · rw [List.filter_append, List.filter_eq_self.mpr fun q hq => decide_eq_true (a1 q hq), List.filter_cons, if_neg (by simp), List.filter_eq_nil_iff.mpr fun q hq => by
      have := a2 q hq
      rw [decide_eq_true_eq]
      omega, List.append_nil]
  · rw [List.filter_append, List.filter_eq_nil_iff.mpr fun q hq => by
      have := a1 q hq
      rw [decide_eq_true_eq]
      omega, List.filter_cons, if_pos (by simp), List.filter_eq_nil_iff.mpr fun q hq => by
      have := a2 q hq
      rw [decide_eq_true_eq]
      omega, List.nil_append]
theorem len_place_of : ∀ ws M P, (R_place_of) ws M P → ws.length = 3 := by
  intro ws M P h
  obtain ⟨_, _, _, _, _, _, _, _, _, e, _⟩ := h
  rw [e]
  rfl
theorem ok_place_of {Pg : Program} {w : World} {K : PySem.W.Frag} {mg : Str → Option Value} {base : Heap} {C : Addr} (F : DefD K mg "place_of" s_place_of ["dither", "some", "outputs"]) (B : Bi mg) (G_MOST_COUNTED : GInt mg "MOST_COUNTED" 20) {sA : Addr} (G_START : GTup K mg "START" sA [.int 0, .int 0]) (C_need_dither : C8.Cal Pg w K mg base 4 "need_dither" (FnP K R_need_dither) []) (C_need_some : C8.Cal Pg w K mg base 3 "need_some" (FnP K R_need_some) []) (C_are_outputs : C8.Cal Pg w K mg base 2 "are_outputs" (FnP K R_are_outputs) []) (C_Counter_init : C8.Mak Pg w K mg base 1 "Counter" C (FnP K (R_init Pg w K C)) []) (C_Counter_next_of : C8.Met Pg w K mg base 4 C "next_of" (FnP K (R_next_of Pg w K C)) []) (C_Counter_many : C8.Met Pg w K mg base 8 C "many" (FnP K (R_many Pg w K C 3)) []) : C8.Cal Pg w K mg base 9 "place_of" (FnP K R_place_of) [] := by
  refine fn_d F sc_place_of len_place_of fun f cdv A outer s H E hr => ⟨_, pss_cons (ps_expr (C8.pe_c C_need_dither hr (by decide) (by rfl) (pa_cons (pv 0) pa_nil)))
      (pss_cons (ps_expr (C8.pe_c C_need_some hr (by decide) (by rfl) (pa_cons (pv 0) (pa_cons (pv 1) pa_nil))))
      (pss_cons (ps_if (pt_not (pt_val (C8.pe_c C_are_outputs hr (by decide) (by rfl) (pa_cons (pv 0) (pa_cons (pv 2) (pa_cons (C8.pe_gc (by rfl) G_MOST_COUNTED) pa_nil)))))) (pss_one (ps_never)) (pss_nil))
      (pss_cons (ps_asg (pe_tup (pa_cons (C8.pe_mk C_Counter_init hr (by decide) (by rfl) (pa_cons (pv 0) (pa_cons (pv 1) pa_nil))) (pa_cons (pe_tup (pa_cons (C8.pe_gc (by rfl) G_START.1) pa_nil)) (pa_cons pe_int pa_nil)))) (pg_tup (by rfl) (pgs_cons (pg_name (i := 3) sc_place_of.nd rfl (Or.inr rfl)) (pgs_cons (pg_name (i := 4) sc_place_of.nd rfl (Or.inl rfl)) (pgs_cons (pg_name (i := 5) sc_place_of.nd rfl (Or.inl rfl)) pgs_nil)))))
      (pss_cons (ps_for PassesOwn.never rfl (pi_enumT (by rfl) B.enumerate (pa_cons (pv 2) pa_nil)) (pg_tup (by rfl) (pgs_cons (pg_name (i := 6) sc_place_of.nd rfl (Or.inl rfl)) (pgs_cons (pg_name (i := 7) sc_place_of.nd rfl (Or.inr rfl)) pgs_nil))) (pss_cons (ps_set (i := 8) sc_place_of.nd rfl (Or.inl rfl) (C8.pe_mt C_Counter_next_of hr (by decide) (pv 3) (pa_cons (pv 4) pa_nil)))
      (pss_cons (ps_if (pt_cmpR op_notIn_seq (pv 7) (pe_lc (own := [("level", 10), ("there", 11)]) (g := gTup K 2 (gCons (gName 10) (gCons (gName 11) gNil))) rfl sc_place_of.nd (pi_list (pv 8)) (blkOk_by (own := [("level", 10), ("there", 11)]) (N := nm_place_of) (sc := defScope s_place_of) (by decide +kernel)) (fun _ _ _ _ _ => pg_tup (by rfl) (pgs_cons (pg_name (i := 10) sc_place_of.nd rfl (Or.inl rfl)) (pgs_cons (pg_name (i := 11) sc_place_of.nd rfl (Or.inl rfl)) pgs_nil))) (fun _ _ _ _ _ => pts_nil) (fun _ _ _ _ _ => pv 10)) (by rfl)) (pss_one (ps_never)) (pss_nil))
      (pss_cons (ps_set (i := 9) sc_place_of.nd rfl (Or.inr rfl) (pe_op op_sub (pe_op op_sub (pe_callB call_len (by rfl) B.len bt_len (pa_cons (pv 2) pa_nil)) (pv 6)) pe_int))
      (pss_cons (ps_set (i := 5) sc_place_of.nd rfl (Or.inl rfl) (pe_op op_add (pv 5) (pe_callB (cr_sum rfl) (by rfl) B.sum bt_sum (pa_cons (pe_lc (own := [("level", 10), ("there", 11)]) (g := gTup K 2 (gCons (gName 10) (gCons (gName 11) gNil))) rfl sc_place_of.nd (pi_list (pv 8)) (blkOk_by (own := [("level", 10), ("there", 11)]) (N := nm_place_of) (sc := defScope s_place_of) (by decide +kernel)) (fun _ _ _ _ _ => pg_tup (by rfl) (pgs_cons (pg_name (i := 10) sc_place_of.nd rfl (Or.inl rfl)) (pgs_cons (pg_name (i := 11) sc_place_of.nd rfl (Or.inl rfl)) pgs_nil))) (fun _ _ _ _ _ => pts_one (pt_cmpR op_lt (pv 10) (pv 7) (nomark _))) (fun _ _ _ _ _ => C8.pe_mt C_Counter_many hr (by decide) (pv 3) (pa_cons (pv 11) (pa_cons (pv 9) pa_nil)))) pa_nil))))
      (pss_one (ps_set (i := 4) sc_place_of.nd rfl (Or.inl rfl) (pe_ix ix_list (pe_lc (own := [("level", 10), ("there", 11)]) (g := gTup K 2 (gCons (gName 10) (gCons (gName 11) gNil))) rfl sc_place_of.nd (pi_list (pv 8)) (blkOk_by (own := [("level", 10), ("there", 11)]) (N := nm_place_of) (sc := defScope s_place_of) (by decide +kernel)) (fun _ _ _ _ _ => pg_tup (by rfl) (pgs_cons (pg_name (i := 10) sc_place_of.nd rfl (Or.inl rfl)) (pgs_cons (pg_name (i := 11) sc_place_of.nd rfl (Or.inl rfl)) pgs_nil))) (fun _ _ _ _ _ => pts_one (pt_cmpR op_eq (pv 10) (pv 7) (nomark _))) (fun _ _ _ _ _ => pv 11)) pe_int (fun _ _ => rfl)))))))))
      (pss_one (ps_ret (pv 5))))))), fun ws M P hR => ?_⟩
  obtain ⟨d, some, n, r, x, ok, so, hn, hx, rfl, h⟩ := hR
  have hf := fB3 hn
  obtain ⟨hxl, hxo⟩ := mem_rowsC.mp (List.mem_filter.mp (List.mem_of_getElem? hx)).1
  refine q_drop (tx_call (ax_cons (tx_var rfl (ax_nil ⟨d, ok, rfl, ?_⟩))))
  refine q_drop (tx_call (ax_cons (tx_var rfl (ax_cons (tx_var rfl (ax_nil ⟨d, some, ok, so, rfl, ?_⟩))))))
  refine q_ifF (bx_not (bx_val (tx_call (ax_cons (tx_var rfl (ax_cons (tx_var rfl (ax_cons (tx_int (ax_nil ⟨d, x, 20, ok, hxo, ⟨by omega, by omega⟩, rfl, _, rfl, rfl, ?_⟩))))))))))
  refine q_unp (tx_tup (ax_cons (TX.toPtr (tx_make (ax_cons (tx_var rfl (ax_cons (tx_var rfl (ax_nil fun p => ⟨p, d, some, M, rfl, rfl, fun an ak => ⟨rfl, p, rfl, ax_cons (tx_tup (ax_cons (tx_glob G_START.2 (ax_nil ⟨[_], rfl, (by simp), ax_cons (tx_int (ax_nil ⟨[_, _, _], rfl, (by simp), _, _, _, rfl, gx_3, ?_⟩))⟩))))⟩⟩)))))))))
  refine q_for (fun i ρ' M' => ∃ (L : List Sta) (y : List Int) (ri fi Bi : Nat) (w6 w7 w8 w9 : W), (LotP d i L ∧ L.Nodup ∧ x.drop i = y ∧ (lefts d some L (n - i))[ri]? = Option.some y ∧ fi + ri = r ∧ Bi ≤ i * 700) ∧ M' = ctrM Pg w K C d some p an ak Bi M ∧ ρ' = [.d d.data, .d (eI some), .d (eI x), .d (ptrD p), .d (lotD L), dI (fi : Nat), w6, w7, w8, w9, .u, .u]) (wx_enumT (ax_cons (tx_var rfl (ax_nil ⟨_, rfl, ⟨[(0, 0)], x, r, 0, 0, _, _, _, _, ⟨lot_start ok, by simp, rfl, hx, by omega, by omega⟩, rfl, rfl⟩, ?_, ?_⟩))))
  · rintro i z ρ' M' hz ⟨L, y, ri, fi, Bi, w6, w7, w8, w9, ⟨lp, nd, hxy, hg, hfr, hBi⟩, rfl, rfl⟩
    obtain ⟨z1, hz1, rfl⟩ := enumD_get hz
    obtain ⟨o', ho', rfl⟩ := map_int_get hz1
    have hin : i < n := by
      have := (List.getElem?_eq_some_iff.mp ho').1
      omega
    have hni : n - i = (n - i - 1) + 1 := by omega
    rw [hni] at hg
    have hfm : fB (n - i - 1) ≤ 86 := fB3 (by omega)
    refine ⟨_, _, gx_2, ?_⟩
    refine q_asg (tx_meth (tx_varp rfl ⟨p, _, rfl, mem1, ctr_next_of d some an ak, ax_cons (tx_var rfl (ax_nil ⟨p, an, ak, d, some, L, i, Bi, M, ok, so, lp, by omega, nd, by omega, rfl, rfl, fun v N hN => ?_⟩))⟩))
    obtain ⟨v1, o, L', v2, r', y', ev, ey, er, hg'⟩ := place_cons ok N hg
    have hoo : o' = o := by
      have h1 : (x.drop i)[0]? = Option.some o' := by rw [List.getElem?_drop]; exact ho'
      rw [hxy, ey] at h1
      exact (Option.some.inj h1).symm
    subst hoo
    have hvl := next_len ok N
    have hqv : (o', L') ∈ v := by rw [ev]; exact List.mem_append_right _ List.mem_cons_self
    obtain ⟨p1, p2⟩ := asc_parts (o := o') (L' := L') (v1 := v1) (v2 := v2) (by rw [← ev]; exact N.asc)
    rw [← ev] at p1 p2
    have e0 : (v.filter fun _ => true).map (fun q => PyData.int q.1) = (v.map (·.1)).map PyData.int := by
      rw [List.filter_eq_self.mpr fun _ _ => rfl, List.map_map]
      rfl
    refine q_ifF (bx_test (tx_op (tx_var rfl (tx_lcT (wx_lst (tx_var rfl ⟨_, rfl, v, fun _ => true, fun q => .int q.1, fun _ => ctrM Pg w K C d some p an ak (Bi + 1) M, rfl, rfl, by omega, fun j q F hq => ⟨_, _, gx_2, fun k hk => hk, bx_yes ⟨rfl, rfl, fun _ => MemLe.rfl, fun _ => tx_var rfl ⟨MemLe.rfl, rfl⟩⟩⟩, ?_⟩))))))
    rw [e0]
    refine rx_inIL (neg := true) ⟨_, rfl, ?_, ?_⟩
    · rw [decide_eq_true (List.mem_map.mpr ⟨_, hqv, rfl⟩)]
      rfl
    refine q_asg (tx_op (tx_op (tx_lenV (n := n) rfl (.inl ⟨_, rfl, by rw [List.length_map, hxl]⟩) (tx_var rfl (rx_sub (tx_int (rx_sub ?_)))))))
    rw [show ((n : Nat) : Int) - ((i : Nat) : Int) - 1 = ((n - i - 1 : Nat) : Int) by omega]
    refine q_asg (tx_op (tx_var rfl (tx_cb (ax_cons (tx_lcT (wx_lst (tx_var rfl ⟨_, rfl, v, fun q => decide (q.1 < o'), fun q => .int ((lefts d some q.2 (n - i - 1)).length : Nat), fun j => ctrM Pg w K C d some p an ak (Bi + 1 + j * fB (n - i - 1)) M, rfl, by show _ = ctrM Pg w K C d some p an ak (Bi + 1 + 0 * fB (n - i - 1)) M; rw [Nat.zero_mul, Nat.add_zero], by omega, fun j q F hq => ?_, ?_⟩)))))))
    · have hqm := List.mem_of_getElem? hq
      have hjv : j < v.length := (List.getElem?_eq_some_iff.mp hq).1
      have him : (j + 1) * fB (n - i - 1) ≤ 6 * 86 := Nat.mul_le_mul (by omega) hfm
      have hi1 : (j + 1) * fB (n - i - 1) = j * fB (n - i - 1) + fB (n - i - 1) := Nat.succ_mul j (fB (n - i - 1))
      refine ⟨_, _, gx_2, fun k hk => hk, bx_test (tx_op (tx_var rfl (tx_var rfl (rx_lt ⟨_, rfl, rfl, rfl, fun _ => ctr_mono (M ++ F) (by omega), fun _ => ?_⟩))))⟩
      refine tx_meth (tx_varp rfl ⟨p, _, rfl, mem1, ctr_many d some an ak, ax_cons (tx_var rfl (ax_cons (tx_var rfl (ax_nil ⟨p, an, ak, d, some, q.2, i + 1, n - i - 1, Bi + 1 + j * fB (n - i - 1), M ++ F, ok, so, lot_behind ok so lp N hqm, by omega, by omega, hN q hqm, by omega, rfl, rfl, ctr_mono (M ++ F) (by omega), rfl⟩))))⟩)
    have hvm : v.length * fB (n - i - 1) ≤ 6 * 86 := Nat.mul_le_mul (by omega) hfm
    have e1 : v1.map (fun q => PyData.int (((lefts d some q.2 (n - i - 1)).length : Nat) : Int)) = (v1.map fun q => (((lefts d some q.2 (n - i - 1)).length : Nat) : Int)).map PyData.int := by
      rw [List.map_map]
      rfl
    rw [p1, e1]
    refine ax_nil (cx_sumL (rx_add ?_))
    rw [sum_cast]
    generalize (v1.map fun q => (lefts d some q.2 (n - i - 1)).length).sum = T at er
    rw [show ((fi : Nat) : Int) + ((T : Nat) : Int) = ((fi + T : Nat) : Int) by omega]
    refine run_asg (tx_op (tx_lcT (wx_lst (tx_var rfl ⟨_, rfl, v, fun q => decide (q.1 = o'), fun q => lotD q.2, fun _ => ctrM Pg w K C d some p an ak (Bi + 1 + v.length * fB (n - i - 1)) M, rfl, rfl, by omega, fun j q F hq => ⟨_, _, gx_2, fun k hk => hk, bx_test (tx_op (tx_var rfl (tx_var rfl (rx_eqI ⟨_, rfl, rfl, rfl, fun _ => MemLe.rfl, fun _ => tx_var rfl ⟨MemLe.rfl, rfl⟩⟩))))⟩, ?_⟩))))
    rw [p2]
    refine tx_int (rx_ixL (x := lotD L') rfl ⟨L', y', r', fi + T, _, _, _, _, _, ⟨lot_behind ok so lp N hqv, hN _ hqv, ?_, by rw [show n - (i + 1) = n - i - 1 by omega]; exact hg', by omega, ?_⟩, rfl, rfl⟩)
    · rw [← List.drop_drop, hxy, ey]
      rfl
    · omega
  · rintro ρ' M' ⟨L, y, ri, fi, Bi, w6, w7, w8, w9, ⟨lp, nd, hxy, hg, hfr, hBi⟩, rfl, rfl⟩
    rw [enumD_len, List.length_map, hxl, Nat.sub_self, lefts_zero lp.ne] at hg
    have hr0 : ri = 0 := by
      have := (List.getElem?_eq_some_iff.mp hg).1
      simpa using this
    have hfi : fi = r := by omega
    subst hfi
    exact run_ret (TX.weak (tx_var rfl ⟨M, ctr_drop, h⟩))
end CD
namespace CD
open PySem PySem.Spec PyProof.Rows L2 CM
theorem len_behind_output {Pg : Program} {w : World} {K : PySem.W.Frag} : ∀ ws M P, ((R_behind Pg w K)) ws M P → ws.length = 3 := by
  intro ws M P h
  obtain ⟨_, _, _, _, _, _, _, _, _, e, _⟩ := h
  rw [e]
  rfl
theorem ok_behind_output {Pg : Program} {w : World} {K : PySem.W.Frag} {mg : Str → Option Value} {base : Heap} (F : DefD K mg "behind_output" s_behind_output ["dither", "counts", "output"]) (B : Bi mg) (C_step : C8.Cal Pg w K mg base 2 "step" (FnP K R_step) []) (C_shades_of : C8.Cal Pg w K mg base 1 "shades_of" (FnP K R_shades_of) []) : C8.Cal Pg w K mg base 3 "behind_output" (FnP K (R_behind Pg w K)) [] := by
  refine fn_d F sc_behind_output len_behind_output fun f cdv A outer s H E hr => ⟨_, pss_cons (ps_set (i := 3) sc_behind_output.nd rfl (Or.inl rfl) pe_dnewX)
      (pss_cons (ps_lock (ps_for PassesOwn.never rfl (pi_itemsX (pv 1)) (pg_tup (by rfl) (pgs_cons (pg_name (i := 4) sc_behind_output.nd rfl (Or.inl rfl)) (pgs_cons (pg_name (i := 5) sc_behind_output.nd rfl (Or.inl rfl)) pgs_nil))) (pss_one (ps_for PassesOwn.never rfl (pi_list (C8.pe_c C_shades_of hr (by decide) (by rfl) (pa_cons (pv 0) pa_nil))) (pg_name (i := 6) sc_behind_output.nd rfl (Or.inl rfl)) (pss_cons (ps_asg (C8.pe_c C_step hr (by decide) (by rfl) (pa_cons (pv 0) (pa_cons (pv 4) (pa_cons (pv 6) pa_nil)))) (pg_tup (by rfl) (pgs_cons (pg_name (i := 7) sc_behind_output.nd rfl (Or.inl rfl)) (pgs_cons (pg_name (i := 8) sc_behind_output.nd rfl (Or.inl rfl)) (pgs_cons (pg_name (i := 9) sc_behind_output.nd rfl (Or.inl rfl)) pgs_nil)))))
      (pss_one (ps_if (pt_cmpR op_eq (pv 7) (pv 2) (nomark _)) (pss_one (ps_asg (pe_op op_add (pe_getOrX hr.units (pv 3) (pv 9) pe_int ⟨by rfl, by rfl, by rfl, by rfl⟩) (pv 5)) (pg_sub (pv 3) (pv 9) (set_dictX hr.units)))) (pss_nil))))))))
      (pss_one (ps_ret (pv 3)))), fun ws M P hR => ?_⟩
  obtain ⟨d, o, kvs, a, ov, M0, ok, g, hkl, rfl, rfl, h⟩ := hR
  have so := evL_some ok
  have hsl := some_len ok so
  have hkl2 : kvs.length ≤ 6561 := hkl
  refine q_asg (tx_dnew (Pg := Pg) (w := w) fun pl => ?_)
  refine Run.pre mem_swap ?_
  refine q_items (Pg := Pg) (w := w) (a := a) (kvs := kvD kvs) (fun j ρ' M' => ∃ w4 w5 w6 w7 w8 w9 : W, M' = (pl, mDict Pg w K pl (kvD (foldK ((kvs.take j).flatMap (ups d ov (evL d)))))) :: M0 ∧ ρ' = [.d d.data, .d (ptrD a), dI ov, .v (.ref pl), w4, w5, w6, w7, w8, w9]) ⟨_, _, _, _, _, _, rfl, rfl⟩ (fun f => tx_varp rfl ⟨.inl rfl, rfl⟩) ?_ ?_
  · rintro f j k x ρ' M' hkx ⟨w4, w5, w6, w7, w8, w9, rfl, rfl⟩
    unfold kvD at hkx
    rw [List.getElem?_map] at hkx
    obtain ⟨⟨hst, c⟩, hp, ekx⟩ : ∃ p : Sta × Nat, kvs[j]? = Option.some p ∧ (stK p.1, PyData.int (p.2 : Nat)) = (k, x) := by
      cases q : kvs[j]? with
      | none => rw [q] at hkx; cases hkx
      | some p => rw [q] at hkx; exact ⟨p, rfl, Option.some.inj hkx⟩
    cases ekx
    have hall := g.all _ (List.mem_of_getElem? hp)
    have hU : (kvs.take (j + 1)).flatMap (ups d ov (evL d)) = (kvs.take j).flatMap (ups d ov (evL d)) ++ ups d ov (evL d) (hst, c) := by
      rw [List.take_add_one, hp, List.flatMap_append]
      simp
    have hUl : ((kvs.take j).flatMap (ups d ov (evL d))).length ≤ 6561 * 9 := by
      have h1 := flat_len d ov (evL d) (kvs.take j)
      have h2 : (kvs.take j).length ≤ 6561 := by rw [List.length_take]; omega
      exact Nat.le_trans h1 (Nat.mul_le_mul h2 hsl)
    generalize (kvs.take j).flatMap (ups d ov (evL d)) = U at hU hUl
    refine Run.pre mem_swap ?_
    refine run_for (fun t ρ' M' => ∃ w6 w7 w8 w9 : W, M' = (pl, mDict Pg w K pl (kvD (foldK (U ++ ups d ov ((evL d).take t) (hst, c))))) :: (a, f) :: M0 ∧ ρ' = [.d d.data, .d (ptrD a), dI ov, .v (.ref pl), .d (staD hst), dI (c : Nat), w6, w7, w8, w9]) (wx_lst (tx_call (ax_cons (tx_var rfl (ax_nil ⟨d, ok, rfl, _, rfl, ⟨_, _, _, _, by rw [List.take_zero]; show _ = (pl, mDict Pg w K pl (kvD (foldK (U ++ [])))) :: _; rw [List.append_nil], rfl⟩, ?_, ?_⟩)))))
    · rintro t x ρ' M' hx ⟨w6, w7, w8, w9, rfl, rfl⟩
      obtain ⟨s, hs, rfl⟩ := map_int_get (by rw [evL_rng] at hx; exact hx)
      have hso := so.ok s (List.mem_of_getElem? hs)
      have hnx := (nxt_ok ok hall.1 hso).2
      have hT : (evL d).take (t + 1) = (evL d).take t ++ [s] := by rw [List.take_add_one, hs]; rfl
      have hul := ups_len d ov ((evL d).take t) (hst, c)
      rw [List.length_take] at hul
      refine ⟨_, _, gx_name, ?_⟩
      refine q_unp (tx_call (ax_cons (tx_var rfl (ax_cons (tx_var rfl (ax_cons (tx_var rfl (ax_nil ⟨d, hst, s, ok, hall.1, hso, rfl, _, _, _, rfl, gx_3, ?_⟩))))))))
      refine run_if (bx_test (tx_op (tx_var rfl (tx_var rfl (rx_eqI ⟨_, rfl, fun cc => ?_, fun cc => ?_⟩)))))
      · have co : out d hst s = ov := of_decide_eq_true cc
        have hfl := foldK_len (U ++ ups d ov ((evL d).take t) (hst, c))
        rw [List.length_append] at hfl
        refine run_setX (Pg := Pg) (w := w) (a := pl) (kvs := kvD (foldK (U ++ ups d ov ((evL d).take t) (hst, c)))) (by rw [kv_len]; omega) rfl (tx_op (tx_getOr (Pg := Pg) (w := w) (tx_varv rfl ⟨pl, .inl rfl, ⟨_, mem1⟩, tx_var rfl ⟨[.num (nxt d hst s).1, .num (nxt d hst s).2], rfl, skd _ _, tx_int ⟨.int 0, _, rfl, mem1, ?_⟩⟩⟩)))
        rw [show NestedKey.tup [.num (nxt d hst s).1, .num (nxt d hst s).2] = stK (nxt d hst s) from rfl, kv_get]
        refine tx_var rfl (rx_add ⟨_, rfl, tx_var rfl ⟨[.num (nxt d hst s).1, .num (nxt d hst s).2], rfl, skd _ _, rfl, _, _, _, _, ?_, rfl⟩⟩)
        rw [show NestedKey.tup [.num (nxt d hst s).1, .num (nxt d hst s).2] = stK (nxt d hst s) from rfl, kv_put (foldK_nd _), ← foldK_snoc (U ++ ups d ov ((evL d).take t) (hst, c)) (nxt d hst s, c), List.append_assoc, hT, ups_snoc, if_pos co]
      · have co : ¬ out d hst s = ov := of_decide_eq_false cc
        refine run_next ⟨_, _, _, _, ?_, rfl⟩
        rw [hT, ups_snoc, if_neg co]
    · rintro ρ' M' ⟨w6, w7, w8, w9, rfl, rfl⟩
      rw [evL_rng, List.length_map, List.take_length, ← hU]
      exact ⟨_, mem_swap, _, _, _, _, _, _, rfl, rfl⟩
  · rintro ρ' M' ⟨w4, w5, w6, w7, w8, w9, rfl, rfl⟩
    rw [kv_len, List.take_length]
    refine Run.pre mem_swap ?_
    have hl1 := foldK_len (kvs.flatMap (ups d ov (evL d)))
    have hl2 := flat_len d ov (evL d) kvs
    have hl3 : kvs.length * (evL d).length ≤ kvs.length * 9 := Nat.mul_le_mul (Nat.le_refl _) hsl
    exact run_ret (tx_varv rfl (h pl _ (good_step ok so.ok g ov) (by omega)))
end CD
namespace CD
open PySem PySem.Spec PyProof.Rows L2 CM
theorem kv_ints2 (kvs : KV) : (kvD kvs).map (·.2) = (kvs.map fun p => ((p.2 : Nat) : Int)).map PyData.int := by
  unfold kvD
  rw [List.map_map, List.map_map]
  rfl
theorem kv_sum2 (kvs : KV) : (kvs.map fun p => ((p.2 : Nat) : Int)).sum = (((kvs.map (·.2)).sum : Nat) : Int) := by
  induction kvs with
  | nil => rfl
  | cons p kvs ih => rw [List.map_cons, List.sum_cons, List.map_cons, List.sum_cons, ih]; omega
theorem memL_app (Pg : Program) (w : World) (K : PySem.W.Frag) (lv : LV) (x : List Int × Addr × KV) : memL Pg w K (lv ++ [x]) = memL Pg w K lv ++ [(x.2.1, mDict Pg w K x.2.1 (kvD x.2.2))] := by
  unfold memL
  rw [List.map_append]
  rfl
theorem encL_app (lv : LV) (x : List Int × Addr × KV) : encL (lv ++ [x]) = encL lv ++ [PyData.tuple [eI x.1, ptrD x.2.1]] := by
  unfold encL
  rw [List.map_append]
  rfl
theorem encL_get {lv : LV} {i : Nat} {x : PyData} (h : (encL lv)[i]? = some x) : ∃ y, lv[i]? = some y ∧ x = .tuple [eI y.1, ptrD y.2.1] := by
  unfold encL at h
  rw [List.getElem?_map] at h
  cases q : lv[i]? with
  | none => rw [q] at h; cases h
  | some y => rw [q] at h; cases h; exact ⟨y, rfl, rfl⟩
theorem mem_memL {Pg : Program} {w : World} {K : PySem.W.Frag} {lv : LV} {i : Nat} {y : List Int × Addr × KV} (h : lv[i]? = some y) : (y.2.1, mDict Pg w K y.2.1 (kvD y.2.2)) ∈ memL Pg w K lv :=
  List.mem_map.mpr ⟨y, List.mem_of_getElem? h, rfl⟩
theorem MemLe.trans' {M1 M2 M3 : Mem} (a : MemLe M1 M2) (b : MemLe M2 M3) : MemLe M1 M3 := fun G H m => b G H (a G H m)
theorem rows_le {d : Di} (ok : d.Ok) {n : Nat} (hn : n ≤ 5) : (rowsC d.levels n).length ≤ 7776 := by
  rw [rowsC_len]
  have h1 : d.levels.length ^ n ≤ 6 ^ n := Nat.pow_le_pow_left ok.len.2 n
  have h2 : (6 : Nat) ^ n ≤ 6 ^ 5 := Nat.pow_le_pow_right (by decide) hn
  have h3 : (6 : Nat) ^ 5 = 7776 := by decide
  omega
theorem len_most_rows : ∀ ws M P, (R_most_rows) ws M P → ws.length = 2 := by
  intro ws M P h
  obtain ⟨_, _, _, _, e, _⟩ := h
  rw [e]
  rfl
theorem ok_most_rows {Pg : Program} {w : World} {K : PySem.W.Frag} {mg : Str → Option Value} {base : Heap} (F : DefD K mg "most_rows" s_most_rows ["dither", "number"]) (B : Bi mg) (G_MOST_TRIED : GInt mg "MOST_TRIED" 5) {sA : Addr} (G_START : GTup K mg "START" sA [.int 0, .int 0]) (C_need_dither : C8.Cal Pg w K mg base 4 "need_dither" (FnP K R_need_dither) []) (C_need_number : C8.Cal Pg w K mg base 2 "need_number" (FnP K R_need_number) []) (C_behind_output : C8.Cal Pg w K mg base 3 "behind_output" (FnP K (R_behind Pg w K)) []) : C8.Cal Pg w K mg base 5 "most_rows" (FnP K R_most_rows) [] := by
  refine fn_d F sc_most_rows len_most_rows fun f cdv A outer s H E hr => ⟨_, pss_cons (ps_expr (C8.pe_c C_need_dither hr (by decide) (by rfl) (pa_cons (pv 0) pa_nil)))
      (pss_cons (ps_expr (C8.pe_c C_need_number hr (by decide) (by rfl) (pa_cons (pv 1) (pa_cons (C8.pe_gc (by rfl) G_MOST_TRIED) pa_nil))))
      (pss_cons (ps_set (i := 2) sc_most_rows.nd rfl (Or.inl rfl) (pe_lst (pa_cons (pe_tup (pa_cons (pe_tup pa_nil) (pa_cons (pe_disp1X hr.units (C8.pe_gc (by rfl) G_START.1) pe_int) pa_nil))) pa_nil)))
      (pss_cons (ps_for PassesOwn.never rfl (pi_range1 (by rfl) B.range (pa_cons (pv 1) pa_nil)) (pg_name (i := 3) sc_most_rows.nd rfl (Or.inl rfl)) (pss_cons (ps_set (i := 4) sc_most_rows.nd rfl (Or.inl rfl) (pe_lst pa_nil))
      (pss_cons (ps_for PassesOwn.never rfl (pi_list (pv 2)) (pg_tup (by rfl) (pgs_cons (pg_name (i := 5) sc_most_rows.nd rfl (Or.inl rfl)) (pgs_cons (pg_name (i := 6) sc_most_rows.nd rfl (Or.inl rfl)) pgs_nil))) (pss_one (ps_for PassesOwn.never rfl (pi_tup (pe_ix ix_tup (pv 0) pe_int (fun _ _ => rfl))) (pg_name (i := 7) sc_most_rows.nd rfl (Or.inl rfl)) (pss_cons (ps_set (i := 8) sc_most_rows.nd rfl (Or.inl rfl) (C8.pe_c C_behind_output hr (by decide) (by rfl) (pa_cons (pv 0) (pa_cons (pv 6) (pa_cons (pv 7) pa_nil)))))
      (pss_one (ps_if (pt_cmpR (op_neX hr.units) (pv 8) pe_dnewX (nomark _)) (pss_one (ps_expr (pe_bm PySem.F.plainAttrs_list PySem.F.slot_list_append PySem.F.type_list_append mt_append (pv 4) (pa_cons (pe_tup (pa_cons (pe_op op_catA (pv 5) (pe_tup (pa_cons (pv 7) pa_nil))) (pa_cons (pv 8) pa_nil))) pa_nil)))) (pss_nil)))))))
      (pss_one (ps_set (i := 2) sc_most_rows.nd rfl (Or.inl rfl) (pv 4))))))
      (pss_cons (ps_set (i := 9) sc_most_rows.nd rfl (Or.inr rfl) (pe_callB (cr_max rfl) (by rfl) B.max bt_max (pa_cons (pe_lc (own := [("outputs", 5), ("counts", 6)]) (g := gTup K 2 (gCons (gName 5) (gCons (gName 6) gNil))) rfl sc_most_rows.nd (pi_list (pv 2)) (blkOk_by (own := [("outputs", 5), ("counts", 6)]) (N := nm_most_rows) (sc := defScope s_most_rows) (by decide +kernel)) (fun _ _ _ _ _ => pg_tup (by rfl) (pgs_cons (pg_name (i := 5) sc_most_rows.nd rfl (Or.inl rfl)) (pgs_cons (pg_name (i := 6) sc_most_rows.nd rfl (Or.inl rfl)) pgs_nil))) (fun _ _ _ _ _ => pts_nil) (fun _ _ _ _ _ => pe_callB (r := rSum K) (cr_sum rfl) (by rfl) B.sum bt_sum (pa_cons (pe_callTy (r := rListValsX Pg w) (call_listVals rfl) (by rfl) B.list_ bt_list (pa_cons (pe_valuesXi (Pg := Pg) (w := w) rfl rfl (pv 6)) pa_nil)) pa_nil))) pa_nil)))
      (pss_one (ps_ret (pe_tup (pa_cons (pv 9) (pa_cons (pe_ix ix_list (pe_lc (own := [("outputs", 5), ("counts", 6)]) (g := gTup K 2 (gCons (gName 5) (gCons (gName 6) gNil))) rfl sc_most_rows.nd (pi_list (pv 2)) (blkOk_by (own := [("outputs", 5), ("counts", 6)]) (N := nm_most_rows) (sc := defScope s_most_rows) (by decide +kernel)) (fun _ _ _ _ _ => pg_tup (by rfl) (pgs_cons (pg_name (i := 5) sc_most_rows.nd rfl (Or.inl rfl)) (pgs_cons (pg_name (i := 6) sc_most_rows.nd rfl (Or.inl rfl)) pgs_nil))) (fun _ _ _ _ _ => pts_one (pt_cmpR op_eq (pe_callB (r := rSum K) (cr_sum rfl) (by rfl) B.sum bt_sum (pa_cons (pe_callTy (r := rListValsX Pg w) (call_listVals rfl) (by rfl) B.list_ bt_list (pa_cons (pe_valuesXi (Pg := Pg) (w := w) rfl rfl (pv 6)) pa_nil)) pa_nil)) (pv 9) (nomark _))) (fun _ _ _ _ _ => pv 5)) pe_int (fun _ _ => rfl)) pa_nil))))))))), fun ws M P hR => ?_⟩
  obtain ⟨d, n, ok, hn, rfl, h⟩ := hR
  have hlev := ok.len
  have so := evL_some ok
  refine q_drop (tx_call (ax_cons (tx_var rfl (ax_nil ⟨d, ok, rfl, ?_⟩))))
  refine q_drop (tx_call (ax_cons (tx_var rfl (ax_cons (tx_int (ax_nil ⟨(n : Int), 5, ⟨by omega, by omega⟩, rfl, ?_⟩))))))
  refine q_asg (tx_lst (ax_cons (tx_tup (ax_cons (tx_tup (ax_nil ⟨[], rfl, (by simp), ax_cons (TX.toPtr (tx_disp1 (Pg := Pg) (w := w) fun p0 => tx_glob G_START.2 (tx_int ⟨[.num 0, .num 0], .int 1, rfl, skd 0 0, rfl, rfl, p0, rfl, ax_nil ⟨[_, _], rfl, (by simp), ax_nil ⟨[_], rfl, (by simp), ?_⟩⟩⟩)))⟩))))))
  refine q_for (fun i ρ' M' => ∃ (lv : LV) (w3 w4 w5 w6 w7 w8 : W), LvOk d i (posW d (rowsC d.levels i)) lv ∧ MemLe M' (memL Pg w K lv ++ M) ∧ ρ' = [.d d.data, dI (n : Nat), .d (.list (encL lv)), w3, w4, w5, w6, w7, w8, .u]) (wx_rng1 (ax_cons (tx_var rfl (ax_nil ⟨(n : Int), rfl, by omega, by omega, ⟨[([], p0, [((0, 0), 1)])], _, _, _, _, _, _, ⟨rfl, fun x hx => by rw [List.mem_singleton.mp hx]; exact ⟨good_start ok _, Nat.le_refl _⟩⟩, fun G H m => m, rfl⟩, ?_, ?_⟩))))
  · rintro i x ρ' M' hx ⟨lv, w3, w4, w5, w6, w7, w8, lo, hM, rfl⟩
    obtain ⟨hi, rfl⟩ := rngD_get hx
    have hin : i < n := by omega
    have hll : lv.length ≤ 7776 := by
      have h1 := congrArg List.length lo.words
      rw [List.length_map] at h1
      rw [h1]
      exact Nat.le_trans (posW_len _ _) (rows_le ok (by omega))
    have hp4 : (9 : Nat) ^ i ≤ 9 ^ 4 := Nat.pow_le_pow_right (by decide) (by omega)
    have hp5 : (9 : Nat) ^ 4 = 6561 := by decide
    refine ⟨_, _, gx_name, ?_⟩
    refine Run.pre hM ?_
    refine q_asg (tx_lstM (ax_nil ⟨[], rfl, (by simp), fun pl => ?_⟩))
    refine q_for (fun k ρ' M' => ∃ (lv' : LV) (w5 w6 w7 w8 : W), (LvOk d (i + 1) (((lv.take k).map (·.1)).flatMap fun r => posW d (d.levels.map fun s => r ++ [s])) lv' ∧ lv'.length ≤ k * 6) ∧ MemLe M' ((pl, mLst K (encL lv')) :: (memL Pg w K lv' ++ (memL Pg w K lv ++ M))) ∧ ρ' = [.d d.data, dI (n : Nat), .d (.list (encL lv)), dI (0 + (i : Int)), .v (.ref pl), w5, w6, w7, w8, .u]) (wx_lst (tx_var rfl ⟨encL lv, rfl, ⟨[], _, _, _, _, ⟨⟨rfl, fun x hx => by cases hx⟩, Nat.zero_le _⟩, fun G H m => m, rfl⟩, ?_, ?_⟩))
    · rintro k x ρ' M' hx ⟨lv', w5, w6, w7, w8, ⟨lo', hk6⟩, hM', rfl⟩
      obtain ⟨⟨r, a, kvs⟩, hy, rfl⟩ := encL_get hx
      have hkl : k < lv.length := (List.getElem?_eq_some_iff.mp hy).1
      obtain ⟨g, hkv0⟩ := lo.good _ (List.mem_of_getElem? hy)
      have hkv : kvs.length ≤ 9 ^ i := hkv0
      have hmemA := mem_memL (Pg := Pg) (w := w) (K := K) hy
      have hrl : r.length ≤ 5 := by
        have h1 : r ∈ lv.map (·.1) := List.mem_map.mpr ⟨_, List.mem_of_getElem? hy, rfl⟩
        rw [lo.words] at h1
        have h2 := (mem_rowsC.mp (List.mem_filter.mp h1).1).1
        omega
      refine ⟨_, _, gx_2, ?_⟩
      have hW : ((lv.take (k + 1)).map (·.1)).flatMap (fun r => posW d (d.levels.map fun s => r ++ [s])) = ((lv.take k).map (·.1)).flatMap (fun r => posW d (d.levels.map fun s => r ++ [s])) ++ posW d (d.levels.map fun s => r ++ [s]) := by
        rw [List.take_add_one, hy, List.map_append, List.flatMap_append]
        simp
      generalize ((lv.take k).map (·.1)).flatMap (fun r => posW d (d.levels.map fun s => r ++ [s])) = W0 at lo' hW
      refine run_for (fun t ρ' M' => ∃ (lv2 : LV) (w7 w8 : W), (LvOk d (i + 1) (W0 ++ posW d ((d.levels.take t).map fun s => r ++ [s])) lv2 ∧ lv2.length ≤ k * 6 + t) ∧ MemLe M' ((pl, mLst K (encL lv2)) :: (memL Pg w K lv2 ++ (memL Pg w K lv ++ M))) ∧ ρ' = [.d d.data, dI (n : Nat), .d (.list (encL lv)), dI (0 + (i : Int)), .v (.ref pl), .d (eI r), .d (ptrD a), w7, w8, .u]) (wx_tup (tx_vix rfl (x := eI d.levels) rfl ⟨_, rfl, ⟨lv', _, _, ⟨by rw [List.take_zero]; show LvOk d (i + 1) (W0 ++ []) lv'; rw [List.append_nil]; exact lo', hk6⟩, hM', rfl⟩, ?_, ?_⟩))
      · rintro t x ρ' M' hx ⟨lv2, w7, w8, ⟨lo2, hl2⟩, hM2, rfl⟩
        obtain ⟨ov, hov, rfl⟩ := map_int_get hx
        have ht : t < d.levels.length := (List.getElem?_eq_some_iff.mp hov).1
        have hT : (d.levels.take (t + 1)).map (fun s => r ++ [s]) = (d.levels.take t).map (fun s => r ++ [s]) ++ [r ++ [ov]] := by
          rw [List.take_add_one, hov, List.map_append]
          rfl
        refine ⟨_, _, gx_name, ?_⟩
        have hmem : (a, mDict Pg w K a (kvD kvs)) ∈ ((pl, mLst K (encL lv2)) :: (memL Pg w K lv2 ++ (memL Pg w K lv ++ M))) := List.mem_cons_of_mem _ (List.mem_append_right _ (List.mem_append_left _ hmemA))
        obtain ⟨M1, hp⟩ := mem_pick hmem
        refine Run.pre (hM2.trans' (mem_perm hp)) ?_
        refine q_asg (tx_call (ax_cons (tx_var rfl (ax_cons (tx_var rfl (ax_cons (tx_var rfl (ax_nil ⟨d, r, kvs, a, ov, M1, ok, g, by omega, rfl, rfl, fun pb kvs' g' hkb => ?_⟩))))))))
        refine Run.pre (mem_perm (List.Perm.cons _ hp.symm)) ?_
        refine run_if (bx_test (tx_op (tx_varv rfl (tx_dnew (Pg := Pg) (w := w) fun pe => rx_neX (.inl rfl) (.inl rfl) mem2 mem1 ⟨_, rfl, fun c => ?_, fun c => ?_⟩))))
        · have hpos : 0 < cnt d (evL d) (0, 0) (r ++ [ov]) := by
            apply Nat.pos_of_ne_zero
            intro z
            rw [(good_nil g').mpr z] at c
            cases c
          refine Run.pre (fun G H m => mem_swap G H m.tail) ?_
          refine mt_app (a := pl) (ds := encL lv2) (by unfold encL; rw [List.length_map]; omega) ?_ rfl
          refine tx_tup (ax_cons (tx_op (tx_var rfl (tx_tup (ax_cons (tx_var rfl (ax_nil ⟨[_], rfl, (by simp), rx_catT (by rw [List.length_map]; simp; omega) (ax_cons (tx_ptr rfl (ax_nil ⟨[_, _], rfl, (by simp), _, rfl, rfl, lv2 ++ [(r ++ [ov], pb, kvs')], dI ov, .v (.ref pb), ⟨?_, ?_⟩, ?_, rfl⟩)))⟩)))))))
          · rw [hT, posW_snoc, if_pos hpos, ← List.append_assoc]
            exact lo2.snoc g' (by rw [Nat.pow_succ]; omega)
          · rw [List.length_append, List.length_singleton]; omega
          · rw [encL_app, memL_app, List.append_assoc]
            have e : PyData.tuple [eI (r ++ [ov]), ptrD pb] = PyData.tuple [.tuple (r.map PyData.int ++ [PyData.int ov]), ptrD pb] := by
              unfold eI
              rw [List.map_append]
              rfl
            rw [e]
            exact mem_perm (List.Perm.cons _ List.perm_middle.symm)
        · have hz : cnt d (evL d) (0, 0) (r ++ [ov]) = 0 := by
            refine (good_nil g').mp ?_
            cases kvs' with
            | nil => rfl
            | cons p q => cases c
          refine run_next ⟨lv2, dI ov, .v (.ref pb), ⟨?_, by omega⟩, fun G H m => m.tail.tail, rfl⟩
          rw [hT, posW_snoc, if_neg (by omega)]
          exact lo2
      · rintro ρ' M' ⟨lv2, w7, w8, ⟨lo2, hl2⟩, hM2, rfl⟩
        rw [List.length_map] at lo2 hl2
        rw [List.take_length, ← hW] at lo2
        exact ⟨lv2, _, _, _, _, ⟨lo2, by omega⟩, hM2, rfl⟩
    · rintro ρ' M' ⟨lv', w5, w6, w7, w8, ⟨lo', hk6⟩, hM', rfl⟩
      have hel : (encL lv).length = lv.length := by unfold encL; rw [List.length_map]
      rw [hel, List.take_length, lo.words, posW_step] at lo'
      refine Run.pre hM' ?_
      refine run_freeze (ρ' := [.d d.data, dI (n : Nat), .d (.list (encL lv)), dI (0 + (i : Int)), .d (.list (encL lv')), w5, w6, w7, w8, .u]) ⟨rfl, fun k w' hk => ?_⟩ ?_
      · match k with
        | 0 => exact .inl hk
        | 1 => exact .inl hk
        | 2 => exact .inl hk
        | 3 => exact .inl hk
        | 4 => cases hk; exact .inr (.inl ⟨rfl, rfl⟩)
        | 5 => exact .inl hk
        | 6 => exact .inl hk
        | 7 => exact .inl hk
        | 8 => exact .inl hk
        | 9 => exact .inl hk
        | k + 10 => simp at hk
      refine run_asg (tx_var rfl ⟨lv', _, _, _, _, _, _, lo', ?_, rfl⟩)
      refine mem_sub (fun p hp => ?_) fun nd => ?_
      · rcases List.mem_append.mp hp with z | z
        · exact List.mem_append_left _ z
        · exact List.mem_append_right _ (List.mem_append_right _ z)
      · refine nd.sublist ?_
        refine List.Sublist.map _ ?_
        exact List.Sublist.append (List.Sublist.refl _) (List.sublist_append_right _ _)
  · rintro ρ' M' ⟨lv, w3, w4, w5, w6, w7, w8, lo, hM, rfl⟩
    rw [rngD_len, show ((n : Nat) : Int).toNat = n from rfl] at lo
    refine Run.pre hM ?_
    have hll : lv.length ≤ 7776 := by
      have h1 := congrArg List.length lo.words
      rw [List.length_map] at h1
      rw [h1]
      exact Nat.le_trans (posW_len _ _) (rows_le ok hn)
    have hel : (encL lv).length = lv.length := by unfold encL; rw [List.length_map]
    have elem : ∀ (i : Nat) (y : List Int × Addr × KV) (F : Mem) (PP : W → Mem → Prop) (ρ2 : List W), lv[i]? = some y → ρ2[6]? = some (.d (ptrD y.2.1)) → PP (dI (cnt d (evL d) (0, 0) y.1 : Nat)) (memL Pg w K lv ++ M ++ F) →
        TX K (tCB (rSum K) (tCons (tCB (rListValsX Pg w) (tCons (tValsX Pg w (tVar 6)) tNil)) tNil)) ρ2 (memL Pg w K lv ++ M ++ F) PP := fun i y F PP ρ2 hy h6 hP => by
      obtain ⟨g, _⟩ := lo.good y (List.mem_of_getElem? hy)
      refine tx_cb (ax_cons (tx_listVals (Pg := Pg) (w := w) (tx_varp h6 ⟨y.2.1, kvD y.2.2, .inl rfl, List.mem_append_left _ (List.mem_append_left _ (mem_memL hy)), ?_⟩)))
      rw [kv_ints2]
      refine ax_nil (cx_sumL ?_)
      rw [kv_sum2, good_sum g]
      exact hP
    have hmap : (encL lv).map (cntD d) = (lv.map fun y => ((cnt d (evL d) (0, 0) y.1 : Nat) : Int)).map PyData.int := by
      unfold encL
      rw [List.map_map, List.map_map]
      exact List.map_congr_left fun y _ => cntD_is d y.1 y.2.1
    have hne : 0 < lv.length := by
      have h1 := cnt_total ok (evL d) n (0, 0)
      have h2 : 0 < (evL d).length := List.length_pos_iff.mpr so.ne
      have h3 : 0 < ((rowsC d.levels n).map (cnt d (evL d) (0, 0))).sum := by
        rw [h1]
        exact Nat.pow_pos h2
      obtain ⟨x, hx, hc⟩ := (sum_pos_iff _ _).mp h3
      have h4 : x ∈ lv.map (·.1) := by
        rw [lo.words]
        exact List.mem_filter.mpr ⟨hx, decide_eq_true hc⟩
      obtain ⟨y, hy, _⟩ := List.mem_map.mp h4
      exact List.length_pos_of_mem hy
    refine q_asg (tx_cb (ax_cons (tx_lcM (cntD d) (wx_lst (tx_var rfl ⟨_, rfl, by rw [hel]; omega, fun i x F hx => ?_, ?_⟩)))))
    · obtain ⟨y, hy, rfl⟩ := encL_get hx
      exact ⟨_, _, gx_2, fun j hj => hj, elem i y F _ _ hy rfl ⟨rfl, by rw [cntD_is]⟩⟩
    rw [hmap]
    refine ax_nil (cx_maxL (by rw [List.length_map]; exact hne) fun mx hmx hle => ?_)
    obtain ⟨y0, hy0, emx⟩ := List.mem_map.mp hmx
    have hpos0 : 0 < cnt d (evL d) (0, 0) y0.1 := by
      have h1 : y0.1 ∈ lv.map (·.1) := List.mem_map.mpr ⟨y0, hy0, rfl⟩
      rw [lo.words] at h1
      exact of_decide_eq_true (List.mem_filter.mp h1).2
    generalize hbest : cnt d (evL d) (0, 0) y0.1 = best at emx hpos0
    subst emx
    have hfilt : ((encL lv).filter (hasD d (best : Nat))).map fstD = ((rowsC d.levels n).filter fun x => decide (cnt d (evL d) (0, 0) x = best)).map eI := by
      have e1 : ((encL lv).filter (hasD d (best : Nat))).map fstD = ((lv.map (·.1)).filter fun x => decide (cnt d (evL d) (0, 0) x = best)).map eI := by
        unfold encL
        clear hne hel hll hle hmx hmap elem lo hy0 hM
        induction lv with
        | nil => rfl
        | cons y lv ih =>
          rw [List.map_cons, List.map_cons, List.filter_cons, List.filter_cons]
          have e2 : hasD d (best : Nat) (.tuple [eI y.1, ptrD y.2.1]) = decide (cnt d (evL d) (0, 0) y.1 = best) := by
            unfold hasD
            rw [cntD_is]
            exact decide_eq_decide.mpr (by omega)
          rw [e2]
          split
          · rw [List.map_cons, List.map_cons, ih]
            rfl
          · exact ih
      rw [e1, lo.words]
      unfold posW
      rw [List.filter_filter]
      congr 1
      refine List.filter_congr fun x _ => ?_
      by_cases c : cnt d (evL d) (0, 0) x = best
      · rw [decide_eq_true c, decide_eq_true (by omega)]; rfl
      · rw [decide_eq_false c]; rfl
    obtain ⟨w0, hw0⟩ : ∃ w0, ((rowsC d.levels n).filter fun x => decide (cnt d (evL d) (0, 0) x = best)).head? = some w0 := by
      have h1 : y0.1 ∈ lv.map (·.1) := List.mem_map.mpr ⟨y0, hy0, rfl⟩
      rw [lo.words] at h1
      have h2 : y0.1 ∈ (rowsC d.levels n).filter fun x => decide (cnt d (evL d) (0, 0) x = best) := List.mem_filter.mpr ⟨(List.mem_filter.mp h1).1, decide_eq_true hbest⟩
      cases q : (rowsC d.levels n).filter fun x => decide (cnt d (evL d) (0, 0) x = best) with
      | nil => rw [q] at h2; cases h2
      | cons a b => exact ⟨a, rfl⟩
    have hB : Best d n best w0 := ⟨fun x hx => by
      by_cases c : 0 < cnt d (evL d) (0, 0) x
      · have h1 : x ∈ lv.map (·.1) := by
          rw [lo.words]
          exact List.mem_filter.mpr ⟨hx, decide_eq_true c⟩
        obtain ⟨y, hy, rfl⟩ := List.mem_map.mp h1
        have := hle _ (List.mem_map.mpr ⟨y, hy, rfl⟩)
        omega
      · omega, hw0⟩
    have hx0 : L2.atI (((encL lv).filter (hasD d (best : Nat))).map fstD) 0 = some (eI w0) := by
      refine atI_at (j := 0) rfl ?_
      rw [hfilt, List.getElem?_map, ← List.head?_eq_getElem?, hw0]
      rfl
    refine run_ret (TX.weak (tx_tup (ax_cons (tx_var rfl (ax_cons (tx_op (tx_lcF (hasD d (best : Nat)) fstD (wx_lst (tx_var rfl ⟨_, rfl, by rw [hel]; omega, fun i x F hx => ?_, tx_int (rx_ixL hx0 (ax_nil ⟨[_, _], rfl, (by simp), M, mem_drop _, h best w0 hB⟩))⟩)))))))))
    obtain ⟨y, hy, rfl⟩ := encL_get hx
    refine ⟨_, _, gx_2, fun j hj => hj, bx_test (tx_op (elem i y F _ _ hy rfl (tx_var rfl (rx_eqI ⟨_, rfl, rfl, ?_, fun _ => tx_var rfl ⟨rfl, rfl⟩⟩))))⟩
    unfold hasD
    rw [cntD_is]
end CD
namespace CD
open PySem PySem.Spec PyProof.Rows L2 CM
theorem len__law_source : ∀ ws M P, (R_source) ws M P → ws.length = 2 := by
  intro ws M P h
  obtain ⟨_, _, _, e, _⟩ := h
  rw [e]
  rfl
theorem ok__law_source {Pg : Program} {w : World} {K : PySem.W.Frag} {mg : Str → Option Value} {base : Heap} (F : DefD K mg "_law_source" s__law_source ["_law_script", "_law_index"]) (B : Bi mg)  : C8.Cal Pg w K mg base 1 "_law_source" (FnP K R_source) [] := by
  refine fn_d F sc__law_source len__law_source fun f cdv A outer s H E hr => ⟨_, pss_cons (ps_set (i := 2) sc__law_source.nd rfl (Or.inl rfl) pe_int)
      (pss_cons (ps_if (pt_cmpR op_lt (pv 1) (pe_callB call_len (by rfl) B.len bt_len (pa_cons (pv 0) pa_nil)) (nomark _)) (pss_one (ps_set (i := 2) sc__law_source.nd rfl (Or.inl rfl) (pe_callB call_abs (by rfl) B.abs bt_abs (pa_cons (pe_ix ix_list (pv 0) (pv 1) (fun _ _ => rfl)) pa_nil)))) (pss_nil))
      (pss_cons (ps_if (pt_cmpR op_lt (pv 2) (pe_op op_pow pe_int pe_int) (nomark _)) (pss_one (ps_ret (pe_lst (pa_cons pe_int (pa_cons (pe_op op_add pe_int (pe_op op_mod (pe_op op_add (pe_op op_mul (pv 2) pe_int) (pe_op op_mul pe_int (pv 1))) pe_int)) pa_nil))))) (pss_nil))
      (pss_one (ps_ret (pe_lst (pa_cons (pv 2) (pa_cons (pe_op op_add pe_int (pe_op op_mod (pe_op op_add (pv 2) (pv 1)) pe_int)) pa_nil))))))), fun ws M P hR => ?_⟩
  obtain ⟨ns, k, hk, rfl, h⟩ := hR
  have e18 : ((10 : Int) ^ (18 : Int).toNat) = 1000000000000000000 := by decide +kernel
  have rest : ∀ c : Int, 0 ≤ c → Run K (tSeq (tIfS (tTest (tOp (rI0 fun i j => V.bl (decide (i < j))) (tVar 2) (tOp (rI CPow fun i j => .int (i ^ j.toNat)) (tC (V.int 10)) (tC (V.int 18)))))
      (tRet (tLst (tCons (tC (V.int 0)) (tCons (tOp (rI0 fun i j => V.int (i + j)) (tC (V.int 1)) (tOp (rI (fun _ j => 0 < j) fun i j => .int (i % j)) (tOp (rI0 fun i j => V.int (i + j)) (tOp (rI CMul fun i j => .int (i * j)) (tVar 2) (tC (V.int 7919))) (tOp (rI CMul fun i j => .int (i * j)) (tC (V.int 104729)) (tVar 1))) (tC (V.int 2147483646)))) tNil)))) tNext)
      (tRet (tLst (tCons (tVar 2) (tCons (tOp (rI0 fun i j => V.int (i + j)) (tC (V.int 1)) (tOp (rI (fun _ j => 0 < j) fun i j => .int (i % j)) (tOp (rI0 fun i j => V.int (i + j)) (tVar 2) (tVar 1)) (tC (V.int 2147483646)))) tNil)))))
      { nx := fun _ M' => P (.d .none) M', rt := P } [.s ns, dI k, dI c] M := fun c hc => by
    have weak : ∀ (p : Addr) (x y : Int), MemLe ((p, mLst K [.int x, .int y]) :: M) ((p, mSrc) :: M) := fun p x y G H m => by
      obtain ⟨g, o, ho, xs, eo, hra⟩ := m.head
      refine ⟨m.nd, fun q hq => ?_⟩
      rcases List.mem_cons.mp hq with rfl | hq
      · refine ⟨g, o, ho, x, y, ?_⟩
        rw [eo, hra.ints (ns := [x, y])]; rfl
      · exact m.at_ q (List.mem_cons_of_mem _ hq)
    refine q_ifR (bx_test (tx_op (tx_var rfl (tx_op (tx_int (tx_int (rx_pow ⟨by decide, by decide, by decide⟩ (rx_lt ⟨_, rfl, fun c1 => ?_, fun c1 => ?_⟩))))))))
    · rw [e18] at c1
      have c2 := of_decide_eq_true c1
      exact run_ret (TX.weak (tx_lstM (ax_cons (tx_int (ax_cons (tx_op (tx_int (tx_op (tx_op (tx_op (tx_var rfl (tx_int (rx_mul (.inr ⟨by decide, by decide⟩) (tx_op (tx_int (tx_var rfl (rx_mul (.inl ⟨by decide, by decide⟩) (rx_add (tx_int (rx_mod (by decide) (rx_add (ax_nil ⟨[_, _], rfl, by simp, fun p => ⟨_, weak p _ _, h p⟩⟩))))))))))))))))))))))
    · exact run_ret (TX.weak (tx_lstM (ax_cons (tx_var rfl (ax_cons (tx_op (tx_int (tx_op (tx_op (tx_var rfl (tx_var rfl (rx_add (tx_int (rx_mod (by decide) (rx_add (ax_nil ⟨[_, _], rfl, by simp, fun p => ⟨_, weak p _ _, h p⟩⟩))))))))))))))))
  refine q_asg (tx_int ?_)
  refine q_if (bx_test (tx_op (tx_var rfl (tx_cb (ax_cons (tx_vars rfl (ax_nil (cx_lenS (rx_lt ⟨_, rfl, fun c1 => ?_, fun c1 => run_next (rest 0 (by decide))⟩)))))))))
  have c2 : k < (ns.length : Int) := of_decide_eq_true c1
  have hx : L2.atI ns k = some (ns[k.toNat]'(by omega)) := atI_at (j := k.toNat) (by omega) (by simp)
  refine run_asg (tx_cb (ax_cons (tx_op (tx_vars rfl (tx_var rfl (rx_ixS hx (ax_nil (cx_abs (rest _ ?_)))))))))
  split <;> omega
end CD
namespace CD
open PySem PySem.Spec PyProof.Rows L2 CM
theorem log_lt {n : Int} (h : 1 ≤ n ∧ n < 10000000000000000) : n.natAbs.log2 < 9000 := by
  have h1 : n.natAbs < 2 ^ 60 := by omega
  have h2 : n.natAbs.log2 < 60 := (Nat.log2_lt (by omega)).mpr h1
  omega
theorem len__law_draw : ∀ ws M P, (R_draw) ws M P → ws.length = 2 := by
  intro ws M P h
  obtain ⟨_, _, _, _, e, _⟩ := h
  rw [e]
  rfl
theorem ok__law_draw {Pg : Program} {w : World} {K : PySem.W.Frag} {mg : Str → Option Value} {base : Heap} (F : DefD K mg "_law_draw" s__law_draw ["_law_source_here", "_law_size"]) (B : Bi mg)  : C8.Cal Pg w K mg base 1 "_law_draw" (FnP K R_draw) [] := by
  refine fn_d F sc__law_draw len__law_draw fun f cdv A outer s H E hr => ⟨_, pss_cons (ps_if (pt_cmpR op_gt (pe_ix ix_list (pv 0) pe_int (fun _ _ => rfl)) pe_int (nomark _)) (pss_cons (ps_set (i := 2) sc__law_draw.nd rfl (Or.inl rfl) (pe_op op_mod (pe_ix ix_list (pv 0) pe_int (fun _ _ => rfl)) (pv 1)))
      (pss_cons (ps_asg (pe_op op_fdivW (pe_ix ix_list (pv 0) pe_int (fun _ _ => rfl)) (pv 1)) (pg_sub (pv 0) pe_int set_list))
      (pss_one (ps_ret (pv 2))))) (pss_nil))
      (pss_cons (ps_asg (pe_op op_mod (pe_op op_mul (pe_ix ix_list (pv 0) pe_int (fun _ _ => rfl)) pe_int) pe_int) (pg_sub (pv 0) pe_int set_list))
      (pss_one (ps_ret (pe_op op_mod (pe_op op_fdivW (pe_op op_mod (pe_op op_mul (pe_ix ix_list (pv 0) pe_int (fun _ _ => rfl)) (pe_ix ix_list (pv 0) pe_int (fun _ _ => rfl))) pe_int) pe_int) (pv 1))))), fun ws M P hR => ?_⟩
  obtain ⟨a, sz, M0, hsz, rfl, rfl, h⟩ := hR
  refine run_src fun x y => ?_
  have i0 : ∀ x y : Int, L2.atI [PyData.int x, PyData.int y] 0 = some (.int x) := fun x y => rfl
  have i1 : ∀ x y : Int, L2.atI [PyData.int x, PyData.int y] 1 = some (.int y) := fun x y => rfl
  refine q_ifR (bx_test (tx_op (tx_op (tx_varv rfl (tx_int (rx_ixM (i0 x y) (tx_int (rx_gt ⟨_, rfl, fun c => ?_, fun c => ?_⟩))))))))
  · refine q_asg (tx_op (tx_op (tx_varv rfl (tx_int (rx_ixM (i0 x y) (tx_var rfl (rx_mod (by omega) ?_)))))))
    refine q_setL (j := 0) rfl rfl (tx_op (tx_op (tx_varv rfl (tx_int (rx_ixM (i0 x y) (tx_var rfl (rx_fdivW ⟨by omega, log_lt hsz⟩ ⟨_, rfl, rfl, ?_⟩)))))))
    exact run_ret (TX.weak (tx_var rfl ⟨_, mem_src, h _ (Int.emod_nonneg _ (by omega)) (Int.emod_lt_of_pos _ (by omega))⟩))
  · refine q_setL (j := 1) rfl rfl (tx_op (tx_op (tx_op (tx_varv rfl (tx_int (rx_ixM (i1 x y) (tx_int (rx_mul (.inr ⟨by decide, by decide⟩) (tx_int (rx_mod (by decide) ⟨_, rfl, rfl, ?_⟩))))))))))
    have hy0 := Int.emod_nonneg (y * 48271) (show (2147483647 : Int) ≠ 0 by decide)
    have hy1 := Int.emod_lt_of_pos (y * 48271) (show (0 : Int) < 2147483647 by decide)
    generalize y * 48271 % 2147483647 = z at hy0 hy1
    refine run_ret (TX.weak (tx_op (tx_op (tx_op (tx_op (tx_op (tx_varv rfl (tx_int (rx_ixM (i1 x z) (tx_op (tx_varv rfl (tx_int (rx_ixM (i1 x z) (rx_mul (.inl ⟨by omega, by omega⟩) (tx_int (rx_mod (by decide) (tx_int (rx_fdivW ⟨by decide, by decide +kernel⟩ (tx_var rfl (rx_mod (by omega) ⟨_, mem_src, h _ (Int.emod_nonneg _ (by omega)) (Int.emod_lt_of_pos _ (by omega))⟩))))))))))))))))))))
end CD
namespace CD
open PySem PySem.Spec PyProof.Rows L2 CM
theorem len__law_choice : ∀ ws M P, (R_choice) ws M P → ws.length = 2 := by
  intro ws M P h
  obtain ⟨_, _, _, _, _, e, _⟩ := h
  rw [e]
  rfl
theorem ok__law_choice {Pg : Program} {w : World} {K : PySem.W.Frag} {mg : Str → Option Value} {base : Heap} (F : DefD K mg "_law_choice" s__law_choice ["_law_source_here", "_law_items"]) (B : Bi mg) (C__law_draw : C8.Cal Pg w K mg base 1 "_law_draw" (FnP K R_draw) []) : C8.Cal Pg w K mg base 2 "_law_choice" (FnP K R_choice) [] := by
  refine fn_d F sc__law_choice len__law_choice fun f cdv A outer s H E hr => ⟨_, pss_one (ps_ret (pe_ix ix_list (pv 1) (C8.pe_c C__law_draw hr (by decide) (by rfl) (pa_cons (pv 0) (pa_cons (pe_callB call_len (by rfl) B.len bt_len (pa_cons (pv 1) pa_nil)) pa_nil))) (fun _ _ => rfl))), fun ws M P hR => ?_⟩
  obtain ⟨a, xs, M0, hne, hlen, rfl, rfl, h⟩ := hR
  have hpos : 0 < xs.length := List.length_pos_iff.mpr hne
  refine run_ret (tx_op (tx_var rfl (tx_call (ax_cons (tx_varv rfl (ax_cons (tx_lenV rfl (.inr ⟨_, rfl, rfl⟩) (ax_nil ⟨a, (xs.length : Int), M0, ⟨by omega, by omega⟩, rfl, rfl, fun r h0 h1 => ?_⟩))))))))
  have hx : xs[r.toNat]? = some (xs[r.toNat]'(by omega)) := by simp
  exact rx_ixL (atI_at (j := r.toNat) (by omega) hx) (h _ (List.mem_of_getElem? hx))
end CD
namespace CD
open PySem PySem.Spec PyProof.Rows L2 CM
theorem mk_ok {top dv : Int} {inner sh : List Int} {high : Bool} (ht : 1 ≤ top ∧ top ≤ 8) (hd : 1 ≤ dv ∧ dv ≤ 8) (hl : inner.length ≤ 4) (hr : ∀ l ∈ inner, 1 ≤ l ∧ l < top) (hp : inner.Pairwise (· < ·))
    (hs : sh.length = 1 ∨ sh.length = 2) (hn : ∀ s ∈ sh, 0 ≤ s) (hsum : sh.sum ≤ dv) : Di.Ok ⟨top, [0] ++ inner ++ [top], sh, dv, high⟩ where
  top := ht
  dv := hd
  len := by simp; omega
  rng := fun l hl => by
    simp at hl
    rcases hl with rfl | hl | rfl
    · exact ⟨by decide, by show (0 : Int) ≤ top; omega⟩
    · have := hr l hl; exact ⟨by omega, by show l ≤ top; omega⟩
    · exact ⟨by omega, Int.le_refl _⟩
  head := rfl
  last := by
    show ([0] ++ inner ++ [top]).getLast? = some top
    rw [List.getLast?_concat]
  asc := by
    show ([0] ++ inner ++ [top]).Pairwise (· < ·)
    rw [List.pairwise_append]
    refine ⟨List.pairwise_append.mpr ⟨by simp, hp, fun a ha b hb => ?_⟩, by simp, fun a ha b hb => ?_⟩
    · have := hr b hb
      simp at ha
      omega
    · simp at ha hb
      subst hb
      rcases ha with rfl | ha
      · omega
      · have := hr a ha; omega
  slen := hs
  spos := hn
  ssum := hsum
theorem inner_ok {n : Nat} {f : Nat → Bool} {v : Nat → PyData} (hv : ∀ i, i < n → f i = true → v i = .int (1 + (i : Int))) : ∃ inner : List Int, cutD (given n f v) none (some 4) = inner.map PyData.int ∧ inner.length ≤ 4 ∧ (∀ l ∈ inner, 1 ≤ l ∧ l < 1 + (n : Int)) ∧ inner.Pairwise (· < ·) := by
  refine ⟨(((List.range n).filter f).take 4).map fun i : Nat => 1 + (i : Int), ?_, ?_, fun l hl => ?_, ?_⟩
  · rw [show (4 : Int) = ((4 : Nat) : Int) from rfl, cut_to, List.map_map]
    unfold given
    rw [← List.map_take]
    apply List.map_congr_left
    intro i hi
    have := List.mem_filter.mp (List.mem_of_mem_take hi)
    exact hv i (List.mem_range.mp this.1) this.2
  · rw [List.length_map, List.length_take]; omega
  · obtain ⟨i, hi, rfl⟩ := List.mem_map.mp hl
    have := List.mem_range.mp (List.mem_filter.mp (List.mem_of_mem_take hi)).1
    omega
  · rw [List.pairwise_map]
    have h1 : ((List.range n).filter f).Pairwise (· < ·) := List.Pairwise.filter _ List.pairwise_lt_range
    have h2 := h1.sublist (List.take_sublist 4 _)
    exact h2.imp fun h => by omega
theorem len__law_dither : ∀ ws M P, (R_ldither) ws M P → ws.length = 2 := by
  intro ws M P h
  obtain ⟨_, _, _, _, e, _⟩ := h
  rw [e]
  rfl
theorem ok__law_dither {Pg : Program} {w : World} {K : PySem.W.Frag} {mg : Str → Option Value} {base : Heap} (F : DefD K mg "_law_dither" s__law_dither ["_law_source_here", "_law_most"]) (B : Bi mg) (C__law_draw : C8.Cal Pg w K mg base 1 "_law_draw" (FnP K R_draw) []) (C__law_choice : C8.Cal Pg w K mg base 2 "_law_choice" (FnP K R_choice) []) : C8.Cal Pg w K mg base 3 "_law_dither" (FnP K R_ldither) [] := by
  refine fn_d F sc__law_dither len__law_dither fun f cdv A outer s H E hr => ⟨_, pss_cons (ps_set (i := 2) sc__law_dither.nd rfl (Or.inl rfl) (pe_op op_add pe_int (C8.pe_c C__law_draw hr (by decide) (by rfl) (pa_cons (pv 0) (pa_cons (pv 1) pa_nil)))))
      (pss_cons (ps_set (i := 3) sc__law_dither.nd rfl (Or.inl rfl) (pe_slice sl_list (pe_lc (own := [("_law_level", 8)]) (g := gName 8) rfl sc__law_dither.nd (pi_range2 (by rfl) B.range (pa_cons pe_int (pa_cons (pv 2) pa_nil))) (blkOk_by (own := [("_law_level", 8)]) (N := nm__law_dither) (sc := defScope s__law_dither) (by decide +kernel)) (fun _ _ _ _ _ => pg_name (i := 8) sc__law_dither.nd rfl (Or.inl rfl)) (fun _ _ _ _ _ => pts_one (pt_cmpR op_eq (C8.pe_c C__law_draw hr (by decide) (by rfl) (pa_cons (pv 0) (pa_cons pe_int pa_nil))) pe_int (nomark _))) (fun _ _ _ _ _ => pv 8)) po_none (po_some pe_int)))
      (pss_cons (ps_set (i := 4) sc__law_dither.nd rfl (Or.inl rfl) (pe_op op_add pe_int (C8.pe_c C__law_draw hr (by decide) (by rfl) (pa_cons (pv 0) (pa_cons pe_int pa_nil)))))
      (pss_cons (ps_set (i := 5) sc__law_dither.nd rfl (Or.inl rfl) (C8.pe_c C__law_draw hr (by decide) (by rfl) (pa_cons (pv 0) (pa_cons (pe_op op_add (pv 4) pe_int) pa_nil))))
      (pss_cons (ps_set (i := 6) sc__law_dither.nd rfl (Or.inl rfl) (pe_lst (pa_cons (pe_tup (pa_cons (pv 4) pa_nil)) (pa_cons (pe_tup (pa_cons (pv 5) pa_nil)) (pa_cons (pe_tup (pa_cons (pv 5) (pa_cons (pe_op op_sub (pv 4) (pv 5)) pa_nil))) (pa_cons (pe_tup (pa_cons (pv 5) (pa_cons (C8.pe_c C__law_draw hr (by decide) (by rfl) (pa_cons (pv 0) (pa_cons (pe_op op_add (pe_op op_sub (pv 4) (pv 5)) pe_int) pa_nil))) pa_nil))) pa_nil))))))
      (pss_cons (ps_set (i := 7) sc__law_dither.nd rfl (Or.inl rfl) (C8.pe_c C__law_choice hr (by decide) (by rfl) (pa_cons (pv 0) (pa_cons (pv 6) pa_nil))))
      (pss_one (ps_ret (pe_tup (pa_cons (pv 2) (pa_cons (pe_callTy call_tuple_of (by rfl) B.tuple_ bt_tuple (pa_cons (pe_op op_cat (pe_op op_cat (pe_lst (pa_cons pe_int pa_nil)) (pv 3)) (pe_lst (pa_cons (pv 2) pa_nil))) pa_nil)) (pa_cons (pv 7) (pa_cons (pv 4) (pa_cons (C8.pe_c C__law_choice hr (by decide) (by rfl) (pa_cons (pv 0) (pa_cons (pe_lst (pa_cons pe_str (pa_cons pe_str pa_nil))) pa_nil))) pa_nil))))))))))))), fun ws M P hR => ?_⟩
  obtain ⟨a, most, M0, hm, rfl, rfl, h⟩ := hR
  refine q_asg (tx_op (tx_int (tx_call (ax_cons (tx_varv rfl (ax_cons (tx_var rfl (ax_nil ⟨a, most, M0, ⟨by omega, by omega⟩, rfl, rfl, fun r0 r0a r0b => rx_add ?_⟩))))))))
  refine q_asg (tx_slL (tx_lc (wx_rng2 (ax_cons (tx_int (ax_cons (tx_var rfl (ax_nil ⟨1, 1 + r0, rfl, by omega, fun _ _ => True, fun i y => y = .int (1 + (i : Int)), by rw [rngD_len]; omega, fun i x F hx => ?_, fun f v _ hv => ?_⟩))))))))
  · obtain ⟨_, rfl⟩ := rngD_get hx
    exact ⟨_, _, gx_name, fun j hj => hj, bx_test (tx_op (tx_call (ax_cons (tx_varv rfl (ax_cons (tx_int (ax_nil ⟨a, 3, M0 ++ F, ⟨by decide, by decide⟩, rfl, rfl, fun r _ _ => tx_int (rx_eqI ⟨_, rfl, rfl, trivial, fun _ => tx_var rfl ⟨rfl, _, rfl, rfl⟩⟩)⟩)))))))⟩
  obtain ⟨inner, e1, hl4, hr4, hp4⟩ := inner_ok hv
  refine ox_no (ox_some (tx_int ⟨_, rfl, _, rfl, ?_⟩))
  rw [e1]
  rw [rngD_len] at hr4
  refine q_asg (tx_op (tx_int (tx_call (ax_cons (tx_varv rfl (ax_cons (tx_int (ax_nil ⟨a, 8, M0, ⟨by decide, by decide⟩, rfl, rfl, fun r1 r1a r1b => rx_add ?_⟩))))))))
  refine q_asg (tx_call (ax_cons (tx_varv rfl (ax_cons (tx_op (tx_var rfl (tx_int (rx_add (ax_nil ⟨a, 1 + r1 + 1, M0, ⟨by omega, by omega⟩, rfl, rfl, fun r2 r2a r2b => ?_⟩)))))))))
  refine q_asg (tx_lst (ax_cons (tx_tup (ax_cons (tx_var rfl (ax_nil ⟨[_], rfl, by simp, ax_cons (tx_tup (ax_cons (tx_var rfl (ax_nil ⟨[_], rfl, by simp, ax_cons (tx_tup (ax_cons (tx_var rfl (ax_cons (tx_op (tx_var rfl (tx_var rfl (rx_sub (ax_nil ⟨[_, _], rfl, by simp, ax_cons (tx_tup (ax_cons (tx_var rfl (ax_cons (tx_call (ax_cons (tx_varv rfl (ax_cons (tx_op (tx_op (tx_var rfl (tx_var rfl (rx_sub (tx_int (rx_add (ax_nil ⟨a, 1 + r1 - r2 + 1, M0, ⟨by omega, by omega⟩, rfl, rfl, fun r3 r3a r3b => ax_nil ⟨[_, _], rfl, by simp, ax_nil ⟨[_, _, _, _], rfl, by simp, ?_⟩⟩⟩))))))))))))))))⟩)))))))))⟩))))⟩))))))
  refine q_asg (tx_call (ax_cons (tx_varv rfl (ax_cons (tx_var rfl (ax_nil ⟨a, _, M0, by simp, by simp, rfl, rfl, fun x hx => ?_⟩))))))
  have hsh : ∃ sh : List Int, x = eI sh ∧ (sh.length = 1 ∨ sh.length = 2) ∧ (∀ s ∈ sh, 0 ≤ s) ∧ sh.sum ≤ 1 + r1 := by
    simp only [List.mem_cons, List.not_mem_nil, or_false] at hx
    rcases hx with rfl | rfl | rfl | rfl
    · exact ⟨[1 + r1], rfl, .inl rfl, fun s hs => by simp at hs; omega, by simp⟩
    · exact ⟨[r2], rfl, .inl rfl, fun s hs => by simp at hs; omega, by simp; omega⟩
    · exact ⟨[r2, 1 + r1 - r2], rfl, .inr rfl, fun s hs => by simp at hs; omega, by simp; omega⟩
    · exact ⟨[r2, r3], rfl, .inr rfl, fun s hs => by simp at hs; omega, by simp; omega⟩
  obtain ⟨sh, rfl, s1, s2, s3⟩ := hsh
  refine run_ret (tx_tup (ax_cons (tx_var rfl (ax_cons (tx_cb (ax_cons (tx_op (tx_op (tx_lst (ax_cons (tx_int (ax_nil ⟨[_], rfl, by simp, tx_var rfl (rx_catL (by rw [List.length_map]; simp; omega) (tx_lst (ax_cons (tx_var rfl (ax_nil ⟨[_], rfl, by simp, rx_catL (by rw [List.length_append, List.length_map]; simp; omega) (ax_nil (cx_tuple (ax_cons (tx_var rfl (ax_cons (tx_var rfl (ax_cons (tx_call (ax_cons (tx_varv rfl (ax_cons (tx_lst (ax_cons (tx_str (ax_cons (tx_str (ax_nil ⟨[_, _], rfl, by simp, ax_nil ⟨a, _, M0, by simp, by simp, rfl, rfl, fun y hy => ax_nil ⟨[_, _, _, _, _], rfl, by simp, ?_⟩⟩⟩)))))))))))))))))⟩)))))⟩))))))))))))
  have hy2 : ∃ high, y = .str (tieS high) := by
    simp only [List.mem_cons, List.not_mem_nil, or_false] at hy
    rcases hy with rfl | rfl
    · exact ⟨false, rfl⟩
    · exact ⟨true, rfl⟩
  obtain ⟨high, rfl⟩ := hy2
  have ok := mk_ok (top := 1 + r0) (dv := 1 + r1) (inner := inner) (sh := sh) (high := high) (by omega) (by omega) hl4 (fun l hl => by have := hr4 l hl; omega) hp4 s1 s2 s3
  have := h _ ok (by show 1 + r0 ≤ most; omega)
  have e2 : ([0] ++ inner ++ [1 + r0]).map PyData.int = [PyData.int 0] ++ inner.map PyData.int ++ [PyData.int (1 + r0)] := by simp
  unfold Di.data eI at this
  rw [e2] at this
  exact this
end CD
namespace CD
open PySem PySem.Spec PyProof.Rows L2 CM
theorem given_some {n : Nat} {f : Nat → Bool} {v : Nat → PyData} (hv : ∀ i, i < n → f i = true → v i = .int (0 + (i : Int))) : given n f v = (((List.range n).filter f).map fun i : Nat => (0 : Int) + (i : Int)).map PyData.int := by
  unfold given
  rw [List.map_map]
  refine List.map_congr_left fun i hi => ?_
  have := List.mem_filter.mp hi
  exact hv i (List.mem_range.mp this.1) this.2
theorem len__law_some : ∀ ws M P, (R_lsome) ws M P → ws.length = 2 := by
  intro ws M P h
  obtain ⟨_, _, _, _, e, _⟩ := h
  rw [e]
  rfl
theorem ok__law_some {Pg : Program} {w : World} {K : PySem.W.Frag} {mg : Str → Option Value} {base : Heap} (F : DefD K mg "_law_some" s__law_some ["_law_source_here", "_law_dither_here"]) (B : Bi mg) (C__law_draw : C8.Cal Pg w K mg base 1 "_law_draw" (FnP K R_draw) []) (C__law_choice : C8.Cal Pg w K mg base 2 "_law_choice" (FnP K R_choice) []) : C8.Cal Pg w K mg base 3 "_law_some" (FnP K R_lsome) [] := by
  refine fn_d F sc__law_some len__law_some fun f cdv A outer s H E hr => ⟨_, pss_cons (ps_set (i := 2) sc__law_some.nd rfl (Or.inl rfl) (pe_listRg rfl (by rfl) B.list_ (prg_1 (by rfl) B.range (pe_op op_add (pe_ix ix_tup (pv 1) pe_int (fun _ _ => rfl)) pe_int))))
      (pss_cons (ps_if (pt_cmpR op_eq (C8.pe_c C__law_draw hr (by decide) (by rfl) (pa_cons (pv 0) (pa_cons pe_int pa_nil))) pe_int (nomark _)) (pss_one (ps_ret (pe_callTy call_tuple_of (by rfl) B.tuple_ bt_tuple (pa_cons (pv 2) pa_nil)))) (pss_nil))
      (pss_cons (ps_setLc (i := 3) (own := [("_law_shade", 4)]) (g := gName 4) rfl sc__law_some.nd rfl rfl (sw_true rfl rfl rfl (by decide +kernel)) (pi_list (pv 2)) (blkOk_by (own := [("_law_shade", 4)]) (N := nm__law_some) (sc := defScope s__law_some) (by decide +kernel)) (fun _ _ _ _ _ => pg_name (i := 4) sc__law_some.nd rfl (Or.inl rfl)) (fun _ _ _ _ _ => pts_one (pt_cmpR op_eq (C8.pe_c C__law_draw hr (by decide) (by rfl) (pa_cons (pv 0) (pa_cons pe_int pa_nil))) pe_int (nomark _))) (fun _ _ _ _ _ => pv 4))
      (pss_one (ps_ret (pe_ifExp (pt_cmpR (op_neD hr.units) (pv 3) (pe_lst pa_nil) (nomark _)) (pe_callTy call_tuple_of (by rfl) B.tuple_ bt_tuple (pa_cons (pv 3) pa_nil)) (pe_tup (pa_cons (C8.pe_c C__law_choice hr (by decide) (by rfl) (pa_cons (pv 0) (pa_cons (pv 2) pa_nil))) pa_nil))))))), fun ws M P hR => ?_⟩
  obtain ⟨a, d, M0, ok, rfl, rfl, h⟩ := hR
  have ht := ok.top
  have hle : (evL d).length ≤ 9 := some_len ok (evL_some ok)
  refine q_asg (tx_lstRg (tx_op (tx_vix rfl (x := .int d.top) rfl (tx_int (rx_add ⟨_, rfl, ⟨by omega, by omega⟩, ?_⟩)))))
  rw [evL_rng]
  refine q_ifR (bx_test (tx_op (tx_call (ax_cons (tx_varv rfl (ax_cons (tx_int (ax_nil ⟨a, 3, M0, ⟨by decide, by decide⟩, rfl, rfl, fun r r1 r2 => tx_int (rx_eqI ⟨_, rfl, fun c => ?_, fun c => ?_⟩)⟩))))))))
  · exact run_ret (tx_cb (ax_cons (tx_var rfl (ax_nil (cx_tuple (h _ (evL_some ok)))))))
  refine q_asg (tx_lc (wx_lst (tx_var rfl ⟨_, rfl, fun _ _ => True, fun i y => y = .int (0 + (i : Int)), by rw [List.length_map]; omega, fun i x F hx => ?_, fun f v _ hv => ?_⟩)))
  · rw [← evL_rng] at hx
    obtain ⟨_, rfl⟩ := rngD_get hx
    exact ⟨_, _, gx_name, fun j hj => hj, bx_test (tx_op (tx_call (ax_cons (tx_varv rfl (ax_cons (tx_int (ax_nil ⟨a, 2, M0 ++ F, ⟨by decide, by decide⟩, rfl, rfl, fun r _ _ => tx_int (rx_eqI ⟨_, rfl, rfl, trivial, fun _ => tx_var rfl ⟨rfl, _, rfl, rfl⟩⟩)⟩)))))))⟩
  rw [List.length_map, given_some (fun i hi hf => hv i (by rw [List.length_map]; exact hi) hf)]
  have hsub : ∀ s ∈ (((List.range (evL d).length).filter f).map fun i : Nat => (0 : Int) + (i : Int)), 0 ≤ s ∧ s ≤ d.top := fun s hs => by
    obtain ⟨i, hi, rfl⟩ := List.mem_map.mp hs
    have h1 := List.mem_range.mp (List.mem_filter.mp hi).1
    unfold evL at h1
    rw [List.length_map, List.length_range] at h1
    omega
  have hasc : (((List.range (evL d).length).filter f).map fun i : Nat => (0 : Int) + (i : Int)).Pairwise (· < ·) := by
    rw [List.pairwise_map]
    exact (List.Pairwise.filter _ List.pairwise_lt_range).imp fun h => by omega
  generalize ((List.range (evL d).length).filter f).map (fun i : Nat => (0 : Int) + (i : Int)) = some at hsub hasc
  refine run_ret (tx_if (bx_test (tx_op (tx_var rfl (tx_lst (ax_nil ⟨[], rfl, (by simp), rx_neE En.int.list (by decide) (a := some) (b := []) ⟨_, rfl, fun c => ?_, fun c => ?_⟩⟩))))))
  · exact tx_cb (ax_cons (tx_var rfl (ax_nil (cx_tuple (h some ⟨by simpa using c, hsub, hasc⟩)))))
  · refine tx_tup (ax_cons (tx_call (ax_cons (tx_varv rfl (ax_cons (tx_var rfl (ax_nil ⟨a, _, M0, ?_, by rw [List.length_map]; omega, rfl, rfl, fun x hx => ?_⟩)))))))
    · intro z
      have := (evL_some ok).ne
      simp at z
      exact this z
    · obtain ⟨s, hs, rfl⟩ := List.mem_map.mp hx
      exact ax_nil ⟨[_], rfl, (by simp), h [s] ⟨by simp, fun z hz => by rw [List.mem_singleton.mp hz]; exact (evL_some ok).ok s hs, by simp⟩⟩
end CD
namespace CD
open PySem PySem.Spec PyProof.Rows L2 CM
theorem rows_small {l : List Int} (hl : l.length ≤ 9) {n : Nat} (hn : n ≤ 4) : (rowsC l n).length ≤ 6561 := by
  rw [rowsC_len]
  have h1 : l.length ^ n ≤ 9 ^ n := Nat.pow_le_pow_left hl n
  have h2 : (9 : Nat) ^ n ≤ 9 ^ 4 := Nat.pow_le_pow_right (by decide) hn
  have h3 : (9 : Nat) ^ 4 = 6561 := by decide
  omega
def snocD (r : List Int) (x : PyData) : PyData := .tuple (r.map PyData.int ++ [x])
theorem snocD_map (r l : List Int) : (l.map PyData.int).map (snocD r) = (l.map fun s => r ++ [s]).map eI := by
  rw [List.map_map, List.map_map]
  refine List.map_congr_left fun s _ => ?_
  show PyData.tuple (r.map PyData.int ++ [PyData.int s]) = PyData.tuple ((r ++ [s]).map PyData.int)
  rw [List.map_append]
  rfl
theorem flat_take {l : List Int} {W : List (List Int)} (k : Nat) : ((W.take k).flatMap fun r => l.map fun s => r ++ [s]).length ≤ k * l.length := by
  have h1 : ∀ V : List (List Int), (V.flatMap fun r => l.map fun s => r ++ [s]).length = V.length * l.length := fun V => by
    rw [List.length_flatMap]
    simp only [List.length_map]
    exact sum_const _ _
  rw [h1]
  exact Nat.mul_le_mul (by rw [List.length_take]; omega) (Nat.le_refl _)
theorem len__law_rows_of : ∀ ws M P, (R_rows_of) ws M P → ws.length = 2 := by
  intro ws M P h
  obtain ⟨_, _, _, _, e, _⟩ := h
  rw [e]
  rfl
theorem ok__law_rows_of {Pg : Program} {w : World} {K : PySem.W.Frag} {mg : Str → Option Value} {base : Heap} (F : DefD K mg "_law_rows_of" s__law_rows_of ["_law_some_here", "_law_number"]) (B : Bi mg)  : C8.Cal Pg w K mg base 1 "_law_rows_of" (FnP K R_rows_of) [] := by
  refine fn_d F sc__law_rows_of len__law_rows_of fun f cdv A outer s H E hr => ⟨_, pss_cons (ps_set (i := 2) sc__law_rows_of.nd rfl (Or.inl rfl) (pe_lst (pa_cons (pe_tup pa_nil) pa_nil)))
      (pss_cons (ps_for PassesOwn.never rfl (pi_range1 (by rfl) B.range (pa_cons (pv 1) pa_nil)) (pg_name (i := 3) sc__law_rows_of.nd rfl (Or.inl rfl)) (pss_cons (ps_set (i := 4) sc__law_rows_of.nd rfl (Or.inl rfl) (pe_lst pa_nil))
      (pss_cons (ps_for PassesOwn.never rfl (pi_list (pv 2)) (pg_name (i := 5) sc__law_rows_of.nd rfl (Or.inr rfl)) (pss_one (ps_set (i := 4) sc__law_rows_of.nd rfl (Or.inl rfl) (pe_op op_cat (pv 4) (pe_lc (own := [("_law_shade", 6)]) (g := gName 6) rfl sc__law_rows_of.nd (pi_tup (pv 0)) (blkOk_by (own := [("_law_shade", 6)]) (N := nm__law_rows_of) (sc := defScope s__law_rows_of) (by decide +kernel)) (fun _ _ _ _ _ => pg_name (i := 6) sc__law_rows_of.nd rfl (Or.inl rfl)) (fun _ _ _ _ _ => pts_nil) (fun _ _ _ _ _ => pe_op (r := rCatA K) op_catA (pv 5) (pe_tup (pa_cons (pv 6) pa_nil))))))))
      (pss_one (ps_set (i := 2) sc__law_rows_of.nd rfl (Or.inl rfl) (pv 4))))))
      (pss_one (ps_ret (pv 2)))), fun ws M P hR => ?_⟩
  obtain ⟨l, n, hl, hn, rfl, h⟩ := hR
  refine q_asg (tx_lst (ax_cons (tx_tup (ax_nil ⟨[], rfl, (by simp), ax_nil ⟨[_], rfl, (by simp), ?_⟩⟩))))
  refine q_for (fun i ρ' M' => ∃ w3 w4 w5 w6 : W, M' = M ∧ ρ' = [.d (eI l), dI (n : Nat), .d (.list ((rowsC l i).map eI)), w3, w4, w5, w6]) (wx_rng1 (ax_cons (tx_var rfl (ax_nil ⟨(n : Int), rfl, by omega, by omega, ⟨_, _, _, _, rfl, rfl⟩, ?_, ?_⟩))))
  · rintro i x ρ' M' hx ⟨w3, w4, w5, w6, rfl, rfl⟩
    obtain ⟨hi, rfl⟩ := rngD_get hx
    have hin : i < n := by omega
    have hrl := rows_small hl (show i ≤ 4 by omega)
    refine ⟨_, _, gx_name, ?_⟩
    refine q_asg (tx_lst (ax_nil ⟨[], rfl, (by simp), ?_⟩))
    refine q_for (fun k ρ' M'' => ∃ w5 w6 : W, M'' = M' ∧ ρ' = [.d (eI l), dI (n : Nat), .d (.list ((rowsC l i).map eI)), dI (0 + (i : Int)), .d (.list ((((rowsC l i).take k).flatMap fun r => l.map fun s => r ++ [s]).map eI)), w5, w6]) (wx_lst (tx_var rfl ⟨_, rfl, ⟨_, _, rfl, rfl⟩, ?_, ?_⟩))
    · rintro k x ρ' M'' hx ⟨w5, w6, rfl, rfl⟩
      obtain ⟨r, hr, rfl⟩ := map_get hx
      have hk : k < (rowsC l i).length := (List.getElem?_eq_some_iff.mp hr).1
      have hrn := (mem_rowsC.mp (List.mem_of_getElem? hr)).1
      have hft := flat_take (l := l) (W := rowsC l i) k
      have hft2 : k * l.length ≤ 6561 * 9 := Nat.mul_le_mul (by omega) hl
      refine ⟨_, _, gx_name, ?_⟩
      refine run_asg (tx_op (tx_var rfl (tx_lcM (snocD r) (wx_tup (tx_var rfl ⟨_, rfl, ?_, fun j x F hx => ?_, ?_⟩)))))
      · rw [List.length_map]; omega
      · obtain ⟨s, hs, rfl⟩ := map_int_get hx
        exact ⟨_, _, gx_name, fun j hj => hj, tx_op (tx_var rfl (tx_tup (ax_cons (tx_var rfl (ax_nil ⟨[_], rfl, (by simp), rx_catT (by rw [List.length_map]; simp; omega) ⟨rfl, rfl⟩⟩)))))⟩
      rw [snocD_map]
      refine rx_catL (by rw [List.length_map, List.length_map, List.length_map]; omega) ⟨.d (eI r), w6, rfl, ?_⟩
      rw [← List.map_append]
      have e : ((rowsC l i).take (k + 1)).flatMap (fun r => l.map fun s => r ++ [s]) = ((rowsC l i).take k).flatMap (fun r => l.map fun s => r ++ [s]) ++ l.map fun s => r ++ [s] := by
        rw [List.take_add_one, hr, List.flatMap_append]
        simp
      rw [e]
      rfl
    · rintro ρ' M'' ⟨w5, w6, rfl, rfl⟩
      rw [List.length_map, List.take_length, ← rowsC_snoc]
      exact run_asg (tx_var rfl ⟨_, _, _, _, rfl, rfl⟩)
  · rintro ρ' M' ⟨w3, w4, w5, w6, rfl, rfl⟩
    rw [rngD_len, show ((n : Nat) : Int).toNat = n from rfl]
    exact run_ret (tx_var rfl h)
end CD
namespace CD
open PySem PySem.Spec PyProof.Rows L2 CM
theorem len_law : ∀ ws M P, (R_law) ws M P → ws.length = 1 := by
  intro ws M P h
  obtain ⟨_, _, e, _⟩ := h
  rw [e]
  rfl
theorem ok_law {Pg : Program} {w : World} {K : PySem.W.Frag} {mg : Str → Option Value} {base : Heap} {f : Addr} {fd : FuncData} (F : Fun K "law" "law" s_law f fd) (B : Bi mg) (C_result : C8.Cal Pg w K mg base 5 "result" (FnP K R_result) []) (C_is_possible : C8.Cal Pg w K mg base 5 "is_possible" (FnP K R_is_possible) []) (C_count_rows : C8.Cal Pg w K mg base 5 "count_rows" (FnP K R_count_rows) []) (C_count_results : C8.Cal Pg w K mg base 9 "count_results" (FnP K R_count_results) []) (C_result_at : C8.Cal Pg w K mg base 9 "result_at" (FnP K R_result_at) []) (C_place_of : C8.Cal Pg w K mg base 9 "place_of" (FnP K R_place_of) []) (C_most_rows : C8.Cal Pg w K mg base 5 "most_rows" (FnP K R_most_rows) []) (C__law_source : C8.Cal Pg w K mg base 1 "_law_source" (FnP K R_source) []) (C__law_draw : C8.Cal Pg w K mg base 1 "_law_draw" (FnP K R_draw) []) (C__law_dither : C8.Cal Pg w K mg base 3 "_law_dither" (FnP K R_ldither) []) (C__law_some : C8.Cal Pg w K mg base 3 "_law_some" (FnP K R_lsome) []) (C__law_rows_of : C8.Cal Pg w K mg base 1 "_law_rows_of" (FnP K R_rows_of) []) : FnOk Pg w K mg base CX0 10 f fd ["_law_script"] (FnP K R_law) := by
  refine fn_f F sc_law len_law fun cdv A outer s H E hr => ⟨_, pss_cons (ps_for PassesOwn.never rfl (pi_range1 (by rfl) B.range (pa_cons (pe_op op_add pe_int (pe_callB (call_min2 rfl) (by rfl) B.min bt_min (pa_cons (pe_callB call_len (by rfl) B.len bt_len (pa_cons (pv 0) pa_nil)) (pa_cons pe_int pa_nil)))) pa_nil)) (pg_name (i := 1) sc_law.nd rfl (Or.inl rfl)) (pss_cons (ps_set (i := 2) sc_law.nd rfl (Or.inl rfl) (C8.pe_c C__law_source hr (by decide) (by rfl) (pa_cons (pv 0) (pa_cons (pv 1) pa_nil))))
      (pss_one (ps_for PassesOwn.never rfl (pi_range1 (by rfl) B.range (pa_cons pe_int pa_nil)) (pg_name (i := 3) sc_law.nd rfl (Or.inl rfl)) (pss_cons (ps_set (i := 4) sc_law.nd rfl (Or.inr rfl) (C8.pe_c C__law_dither hr (by decide) (by rfl) (pa_cons (pv 2) (pa_cons pe_int pa_nil))))
      (pss_cons (ps_asg (pe_tup (pa_cons (C8.pe_c C__law_some hr (by decide) (by rfl) (pa_cons (pv 2) (pa_cons (pv 4) pa_nil))) (pa_cons (C8.pe_c C__law_draw hr (by decide) (by rfl) (pa_cons (pv 2) (pa_cons pe_int pa_nil))) pa_nil))) (pg_tup (by rfl) (pgs_cons (pg_name (i := 5) sc_law.nd rfl (Or.inr rfl)) (pgs_cons (pg_name (i := 6) sc_law.nd rfl (Or.inl rfl)) pgs_nil))))
      (pss_cons (ps_set (i := 7) sc_law.nd rfl (Or.inl rfl) (C8.pe_c C__law_rows_of hr (by decide) (by rfl) (pa_cons (pe_ix ix_tup (pv 4) pe_int (fun _ _ => rfl)) (pa_cons (pv 6) pa_nil))))
      (pss_cons (ps_setLc (i := 8) (own := [("_law_word", 11)]) (g := gName 11) rfl sc_law.nd rfl rfl (sw_true rfl rfl rfl (by decide +kernel)) (pi_list (pv 7)) (blkOk_by (own := [("_law_word", 11)]) (N := nm_law) (sc := defScope s_law) (by decide +kernel)) (fun _ _ _ _ _ => pg_name (i := 11) sc_law.nd rfl (Or.inl rfl)) (fun _ _ _ _ _ => pts_nil) (fun _ _ _ _ _ => pe_tup (pa_cons (pv 11) (pa_cons (C8.pe_c C_count_rows hr (by decide) (by rfl) (pa_cons (pv 4) (pa_cons (pv 5) (pa_cons (pv 11) pa_nil)))) pa_nil))))
      (pss_cons (ps_if (pt_cmpR op_ne (pe_callB (cr_sum rfl) (by rfl) B.sum bt_sum (pa_cons (pe_lc (own := [("_law_word", 11), ("_law_count", 12)]) (g := gTup K 2 (gCons (gName 11) (gCons (gName 12) gNil))) rfl sc_law.nd (pi_list (pv 8)) (blkOk_by (own := [("_law_word", 11), ("_law_count", 12)]) (N := nm_law) (sc := defScope s_law) (by decide +kernel)) (fun _ _ _ _ _ => pg_tup (by rfl) (pgs_cons (pg_name (i := 11) sc_law.nd rfl (Or.inl rfl)) (pgs_cons (pg_name (i := 12) sc_law.nd rfl (Or.inl rfl)) pgs_nil))) (fun _ _ _ _ _ => pts_nil) (fun _ _ _ _ _ => pv 12)) pa_nil)) (pe_callB call_len (by rfl) B.len bt_len (pa_cons (C8.pe_c C__law_rows_of hr (by decide) (by rfl) (pa_cons (pv 5) (pa_cons (pv 6) pa_nil))) pa_nil)) (nomark _)) (pss_one (ps_ret pe_bl)) (pss_nil))
      (pss_cons (ps_setLc (i := 9) (own := [("_law_word", 11), ("_law_count", 12)]) (g := gTup K 2 (gCons (gName 11) (gCons (gName 12) gNil))) rfl sc_law.nd rfl rfl (sw_true rfl rfl rfl (by decide +kernel)) (pi_list (pv 8)) (blkOk_by (own := [("_law_word", 11), ("_law_count", 12)]) (N := nm_law) (sc := defScope s_law) (by decide +kernel)) (fun _ _ _ _ _ => pg_tup (by rfl) (pgs_cons (pg_name (i := 11) sc_law.nd rfl (Or.inl rfl)) (pgs_cons (pg_name (i := 12) sc_law.nd rfl (Or.inl rfl)) pgs_nil))) (fun _ _ _ _ _ => pts_one (pt_cmpR op_gt (pv 12) pe_int (nomark _))) (fun _ _ _ _ _ => pv 11))
      (pss_cons (ps_if (pt_cmpR op_ne (C8.pe_c C_count_results hr (by decide) (by rfl) (pa_cons (pv 4) (pa_cons (pv 5) (pa_cons (pv 6) pa_nil)))) (pe_callB call_len (by rfl) B.len bt_len (pa_cons (pv 9) pa_nil)) (nomark _)) (pss_one (ps_ret pe_bl)) (pss_nil))
      (pss_cons (ps_for PassesOwn.never rfl (pi_enum (by rfl) B.enumerate (pa_cons (pv 9) pa_nil)) (pg_tup (by rfl) (pgs_cons (pg_name (i := 10) sc_law.nd rfl (Or.inl rfl)) (pgs_cons (pg_name (i := 11) sc_law.nd rfl (Or.inl rfl)) pgs_nil))) (pss_one (ps_if (PW.pt (pw_or (pt_cmpR op_ne (C8.pe_c C_place_of hr (by decide) (by rfl) (pa_cons (pv 4) (pa_cons (pv 5) (pa_cons (pv 11) pa_nil)))) (pv 10) (nomark _)) (pw_or1 (pt_cmpR (op_neD hr.units) (C8.pe_c C_result_at hr (by decide) (by rfl) (pa_cons (pv 4) (pa_cons (pv 5) (pa_cons (pv 6) (pa_cons (pv 10) pa_nil))))) (pv 11) (nomark _))))) (pss_one (ps_ret pe_bl)) (pss_nil))))
      (pss_cons (ps_for PassesOwn.never rfl (pi_list (pv 8)) (pg_tup (by rfl) (pgs_cons (pg_name (i := 11) sc_law.nd rfl (Or.inl rfl)) (pgs_cons (pg_name (i := 12) sc_law.nd rfl (Or.inl rfl)) pgs_nil))) (pss_cons (ps_if (pt_cmpR op_ne (C8.pe_c C_is_possible hr (by decide) (by rfl) (pa_cons (pv 4) (pa_cons (pv 5) (pa_cons (pv 11) pa_nil)))) (pe_cmpR (op_inD (room65 hr)) (pv 11) (pv 9) (by rfl)) (nomark _)) (pss_one (ps_ret pe_bl)) (pss_nil))
      (pss_one (ps_if (PW.pt (pw_or (pt_cmpR (op_neD hr.units) (C8.pe_c C_result hr (by decide) (by rfl) (pa_cons (pv 4) (pa_cons (pv 11) pa_nil))) (pv 11) (nomark _)) (pw_or1 (pt_cmpR op_notBl (C8.pe_c C_is_possible hr (by decide) (by rfl) (pa_cons (pv 4) (pa_cons (pe_ix ix_tup (pv 4) pe_int (fun _ _ => rfl)) (pa_cons (pv 11) pa_nil)))) pe_bl (nomark _))))) (pss_one (ps_ret pe_bl)) (pss_nil)))))
      (pss_cons (ps_set (i := 13) sc_law.nd rfl (Or.inr rfl) (pe_tupRg rfl (by rfl) B.tuple_ (prg_1 (by rfl) B.range (pe_op op_add (pe_ix ix_tup (pv 4) pe_int (fun _ _ => rfl)) pe_int))))
      (pss_cons (ps_setLc (i := 8) (own := [("_law_word", 11)]) (g := gName 11) rfl sc_law.nd rfl rfl (sw_true rfl rfl rfl (by decide +kernel)) (pi_list (pv 7)) (blkOk_by (own := [("_law_word", 11)]) (N := nm_law) (sc := defScope s_law) (by decide +kernel)) (fun _ _ _ _ _ => pg_name (i := 11) sc_law.nd rfl (Or.inl rfl)) (fun _ _ _ _ _ => pts_nil) (fun _ _ _ _ _ => pe_tup (pa_cons (pv 11) (pa_cons (C8.pe_c C_count_rows hr (by decide) (by rfl) (pa_cons (pv 4) (pa_cons (pv 13) (pa_cons (pv 11) pa_nil)))) pa_nil))))
      (pss_cons (ps_set (i := 14) sc_law.nd rfl (Or.inr rfl) (pe_callB (cr_max rfl) (by rfl) B.max bt_max (pa_cons (pe_lc (own := [("_law_word", 11), ("_law_count", 12)]) (g := gTup K 2 (gCons (gName 11) (gCons (gName 12) gNil))) rfl sc_law.nd (pi_list (pv 8)) (blkOk_by (own := [("_law_word", 11), ("_law_count", 12)]) (N := nm_law) (sc := defScope s_law) (by decide +kernel)) (fun _ _ _ _ _ => pg_tup (by rfl) (pgs_cons (pg_name (i := 11) sc_law.nd rfl (Or.inl rfl)) (pgs_cons (pg_name (i := 12) sc_law.nd rfl (Or.inl rfl)) pgs_nil))) (fun _ _ _ _ _ => pts_nil) (fun _ _ _ _ _ => pv 12)) pa_nil)))
      (pss_one (ps_if (pt_cmpR (op_neD hr.units) (C8.pe_c C_most_rows hr (by decide) (by rfl) (pa_cons (pv 4) (pa_cons (pv 6) pa_nil))) (pe_tup (pa_cons (pv 14) (pa_cons (pe_ix ix_list (pe_lc (own := [("_law_word", 11), ("_law_count", 12)]) (g := gTup K 2 (gCons (gName 11) (gCons (gName 12) gNil))) rfl sc_law.nd (pi_list (pv 8)) (blkOk_by (own := [("_law_word", 11), ("_law_count", 12)]) (N := nm_law) (sc := defScope s_law) (by decide +kernel)) (fun _ _ _ _ _ => pg_tup (by rfl) (pgs_cons (pg_name (i := 11) sc_law.nd rfl (Or.inl rfl)) (pgs_cons (pg_name (i := 12) sc_law.nd rfl (Or.inl rfl)) pgs_nil))) (fun _ _ _ _ _ => pts_one (pt_cmpR op_eq (pv 12) (pv 14) (nomark _))) (fun _ _ _ _ _ => pv 11)) pe_int (fun _ _ => rfl)) pa_nil))) (nomark _)) (pss_one (ps_ret pe_bl)) (pss_nil)))))))))))))))))))
      (pss_cons (ps_set (i := 15) sc_law.nd rfl (Or.inl rfl) (pe_tup (pa_cons pe_int (pa_cons (pe_tup (pa_cons pe_int (pa_cons pe_int pa_nil))) (pa_cons (pe_tup (pa_cons pe_int pa_nil)) (pa_cons pe_int (pa_cons pe_str pa_nil)))))))
      (pss_cons (ps_if (pt_cmpR (op_neD hr.units) (C8.pe_c C_most_rows hr (by decide) (by rfl) (pa_cons (pv 15) (pa_cons pe_int pa_nil))) (pe_tup (pa_cons pe_int (pa_cons (pe_tup (pa_cons pe_int (pa_cons pe_int pa_nil))) pa_nil))) (nomark _)) (pss_one (ps_ret pe_bl)) (pss_nil))
      (pss_one (ps_ret (pe_cmpR (op_eqD hr.units) (C8.pe_c C_most_rows hr (by decide) (by rfl) (pa_cons (pe_tup (pa_cons pe_int (pa_cons (pe_tup (pa_cons pe_int (pa_cons pe_int (pa_cons pe_int pa_nil)))) (pa_cons (pe_tup (pa_cons pe_int pa_nil)) (pa_cons pe_int (pa_cons pe_str pa_nil)))))) (pa_cons pe_int pa_nil))) (pe_tup (pa_cons pe_int (pa_cons (pe_tup (pa_cons pe_int (pa_cons pe_int (pa_cons pe_int (pa_cons pe_int (pa_cons pe_int pa_nil)))))) pa_nil))) (nomark _)))))), fun ws M P hR => ?_⟩
  obtain ⟨ns, hns, rfl, h⟩ := hR
  refine q_for (fun i ρ' M' => ∃ (F : Mem) (w1 w2 w3 w4 w5 w6 w7 w8 w9 w10 w11 w12 w13 w14 w15 : W), M' = F ++ M ∧ ρ' = [.s ns, w1, w2, w3, w4, w5, w6, w7, w8, w9, w10, w11, w12, w13, w14, w15]) (wx_rng1 (ax_cons (tx_op (tx_int (tx_cb (ax_cons (tx_cb (ax_cons (tx_vars rfl (ax_nil (cx_lenS (ax_cons (tx_int (ax_nil (cx_min2 (rx_add (ax_nil ⟨_, rfl, ?_, ?_, ⟨[], _, _, _, _, _, _, _, _, _, _, _, _, _, _, _, rfl, rfl⟩, ?_, ?_⟩)))))))))))))))))
  · split <;> omega
  · split <;> omega
  · rintro i x ρ' M' hx ⟨F, w1, w2, w3, w4, w5, w6, w7, w8, w9, w10, w11, w12, w13, w14, w15, rfl, rfl⟩
    obtain ⟨hi, rfl⟩ := rngD_get hx
    have hi6 : i ≤ 6 := by
      have : i < (1 + (if (6 : Int) < (ns.length : Int) then (6 : Int) else (ns.length : Int))).toNat := hi
      split at this <;> omega
    refine ⟨_, _, gx_name, ?_⟩
    refine q_asg (tx_call (ax_cons (tx_vars rfl (ax_cons (tx_var rfl (ax_nil ⟨ns, _, ⟨by omega, by omega⟩, rfl, fun pa => ?_⟩))))))
    refine run_for (fun j ρ' M' => ∃ w1 w3 w4 w5 w6 w7 w8 w9 w10 w11 w12 w13 w14 w15 : W, M' = (pa, mSrc) :: (F ++ M) ∧ ρ' = [.s ns, w1, .v (.ref pa), w3, w4, w5, w6, w7, w8, w9, w10, w11, w12, w13, w14, w15]) (wx_rng1 (ax_cons (tx_int (ax_nil ⟨2, rfl, by decide, by decide, ⟨_, _, _, _, _, _, _, _, _, _, _, _, _, _, rfl, rfl⟩, ?_, ?_⟩))))
    · rintro j0 x ρ' M' hx ⟨w1, w3, w4, w5, w6, w7, w8, w9, w10, w11, w12, w13, w14, w15, rfl, rfl⟩
      obtain ⟨_, rfl⟩ := rngD_get hx
      refine ⟨_, _, gx_name, ?_⟩
      refine q_asg (tx_call (ax_cons (tx_varv rfl (ax_cons (tx_int (ax_nil ⟨pa, 8, F ++ M, ⟨by decide, by decide⟩, rfl, rfl, fun d ok _ => ?_⟩))))))
      refine q_unp (tx_tup (ax_cons (tx_call (ax_cons (tx_varv rfl (ax_cons (tx_var rfl (ax_nil ⟨pa, d, F ++ M, ok, rfl, rfl, fun some so => ax_cons (tx_call (ax_cons (tx_varv rfl (ax_cons (tx_int (ax_nil ⟨pa, 4, F ++ M, ⟨by decide, by decide⟩, rfl, rfl, fun rr h0 h4 => ax_nil ⟨[_, _], rfl, (by simp), _, _, _, rfl, gx_2, ?_⟩⟩))))))⟩))))))))
      obtain ⟨n, rfl⟩ := Int.eq_ofNat_of_zero_le h0
      have hn : n ≤ 3 := by omega
      have hlev := ok.len
      have htop := ok.top
      have hsl := some_len ok so
      have hWl : (rowsC d.levels n).length ≤ 216 := by
        rw [rowsC_len]
        have h1 : d.levels.length ^ n ≤ 6 ^ n := Nat.pow_le_pow_left hlev.2 n
        have h2 : (6 : Nat) ^ n ≤ 6 ^ 3 := Nat.pow_le_pow_right (by decide) hn
        have h3 : (6 : Nat) ^ 3 = 216 := by decide
        omega
      have hW : ∀ q ∈ rowsC d.levels n, q.length ≤ 3 ∧ ∀ x ∈ q, x ∈ d.levels := fun q hq => by
        obtain ⟨z1, z2⟩ := mem_rowsC.mp hq
        exact ⟨by omega, z2⟩
      have hW4 : ∀ q ∈ rowsC d.levels n, q.length ≤ 4 := fun q hq => Nat.le_succ_of_le (hW q hq).1
      have e1 : ∀ c : List Int → Nat, (rowsC d.levels n).map (fun q => PyData.int ((c q : Nat) : Int)) = ((rowsC d.levels n).map fun q => ((c q : Nat) : Int)).map PyData.int := fun c => by
        rw [List.map_map]
        rfl
      refine q_asg (tx_call (ax_cons (tx_vix rfl (x := eI d.levels) rfl (ax_cons (tx_var rfl (ax_nil ⟨d.levels, n, by omega, by omega, rfl, ?_⟩))))))
      refine q_asg (tx_lcU (enc := eI) (wx_lst (tx_var rfl ⟨_, rfl, rowsC d.levels n, cE (cnt d some (0, 0)), rfl, by omega, fun j q F' hq => ⟨_, _, gx_name, fun k hk => hk, tx_tup (ax_cons (tx_var rfl (ax_cons (tx_call (ax_cons (tx_var rfl (ax_cons (tx_var rfl (ax_cons (tx_var rfl (ax_nil ⟨d, some, q, ok, so, (hW q (List.mem_of_getElem? hq)).2, hW4 q (List.mem_of_getElem? hq), rfl, ax_nil ⟨[_, _], rfl, (by simp), rfl, rfl⟩⟩)))))))))))⟩, ?_⟩)))
      refine q_ifF (bx_test (tx_op (tx_cb (ax_cons (tx_lcU (enc := cE (cnt d some (0, 0))) (wx_lst (tx_var rfl ⟨_, rfl, rowsC d.levels n, fun q => .int ((cnt d some (0, 0) q : Nat) : Int), rfl, by omega, fun j q F' hq => ⟨_, _, gx_2, fun k hk => hk, tx_var rfl ⟨rfl, rfl⟩⟩, ?_⟩)))))))
      rw [e1]
      refine ax_nil (cx_sumL (tx_cb (ax_cons (tx_call (ax_cons (tx_var rfl (ax_cons (tx_var rfl (ax_nil ⟨some, n, hsl, by omega, rfl, ax_nil (cx_len (.inr ⟨_, rfl, rfl⟩) (rx_neF ?_ ⟨_, rfl, rfl, ?_⟩))⟩)))))))))
      · rw [sum_cast, cnt_total ok, List.length_map, rowsC_len]
      refine q_asg (tx_lcV (enc := cE (cnt d some (0, 0))) (wx_lst (tx_var rfl ⟨_, rfl, rowsC d.levels n, fun q => decide (0 < cnt d some (0, 0) q), eI, rfl, by omega, fun j q F' hq => ⟨_, _, gx_2, fun k hk => hk, bx_test (tx_op (tx_var rfl (tx_int (rx_gt ⟨_, rfl, rfl, decide_eq_decide.mpr (by omega), fun _ => tx_var rfl ⟨rfl, rfl⟩⟩))))⟩, ?_⟩)))
      rw [← lefts_eq]
      refine q_ifF (bx_test (tx_op (tx_call (ax_cons (tx_var rfl (ax_cons (tx_var rfl (ax_cons (tx_var rfl (ax_nil ⟨d, some, n, ok, so, hn, rfl, tx_cb (ax_cons (tx_var rfl (ax_nil (cx_len (.inr ⟨_, rfl, rfl⟩) (rx_neF (by rw [List.length_map]) ⟨_, rfl, rfl, ?_⟩)))))⟩))))))))))
      refine q_for (fun _ ρ' M' => ∃ w10 w11 : W, M' = (pa, mSrc) :: (F ++ M) ∧ ρ' = [.s ns, w1, .v (.ref pa), dI (0 + (j0 : Int)), .d d.data, .d (eI some), dI (n : Nat), .d (.list ((rowsC d.levels n).map eI)), .d (.list ((rowsC d.levels n).map (cE (cnt d some (0, 0))))), .d (.list ((lefts d some [(0, 0)] n).map eI)), w10, w11, w12, w13, w14, w15]) (wx_enum (ax_cons (tx_var rfl (ax_nil ⟨_, rfl, ⟨_, _, rfl, rfl⟩, ?_, ?_⟩))))
      · rintro r z ρ' M' hz ⟨w10, w11, rfl, rfl⟩
        obtain ⟨z1, hz1, rfl⟩ := enumD_get hz
        obtain ⟨x, hx', rfl⟩ := map_get hz1
        refine ⟨_, _, gx_2, ?_⟩
        refine run_ifF (bx_or (bx_test (tx_op (tx_call (ax_cons (tx_var rfl (ax_cons (tx_var rfl (ax_cons (tx_var rfl (ax_nil ⟨d, some, n, r, x, ok, so, hn, hx', rfl, ?_⟩)))))))))))
        refine tx_var rfl (rx_neF rfl ⟨_, rfl, ft, fun _ => bx_test (tx_op (tx_call (ax_cons (tx_var rfl (ax_cons (tx_var rfl (ax_cons (tx_var rfl (ax_cons (tx_var rfl (ax_nil ⟨d, some, n, r, x, ok, so, hn, hx', rfl, ?_⟩)))))))))))⟩)
        exact tx_var rfl (rx_neE en_I (by decide) ⟨_, rfl, by simp, _, _, rfl, rfl⟩)
      rintro ρ' M' ⟨w10, w11, rfl, rfl⟩
      refine q_for (fun _ ρ' M' => ∃ w11 w12 : W, M' = (pa, mSrc) :: (F ++ M) ∧ ρ' = [.s ns, w1, .v (.ref pa), dI (0 + (j0 : Int)), .d d.data, .d (eI some), dI (n : Nat), .d (.list ((rowsC d.levels n).map eI)), .d (.list ((rowsC d.levels n).map (cE (cnt d some (0, 0))))), .d (.list ((lefts d some [(0, 0)] n).map eI)), w10, w11, w12, w13, w14, w15]) (wx_lst (tx_var rfl ⟨_, rfl, ⟨_, _, rfl, rfl⟩, ?_, ?_⟩))
      · rintro r z ρ' M' hz ⟨w11, w12, rfl, rfl⟩
        obtain ⟨x, hx', rfl⟩ := map_get hz
        have hxW := List.mem_of_getElem? hx'
        obtain ⟨hxl, hxo⟩ := hW x hxW
        refine ⟨_, _, gx_2, ?_⟩
        refine q_ifF (bx_test (tx_op (tx_call (ax_cons (tx_var rfl (ax_cons (tx_var rfl (ax_cons (tx_var rfl (ax_nil ⟨d, some, x, ok, so, hxo, hW4 x hxW, rfl, ?_⟩))))))))))
        refine tx_op (tx_var rfl (tx_var rfl (rx_inW (rx_neB ⟨_, rfl, ?_, ?_⟩))))
        · have e2 : decide (x ∈ lefts d some [(0, 0)] n) = decide (0 < cnt d some (0, 0) x) := by
            refine decide_eq_decide.mpr ?_
            rw [lefts_eq, List.mem_filter]
            exact ⟨fun z => of_decide_eq_true z.2, fun z => ⟨hxW, decide_eq_true z⟩⟩
          rw [e2]
          simp
        refine run_ifF (bx_or (bx_test (tx_op (tx_call (ax_cons (tx_var rfl (ax_cons (tx_var rfl (ax_nil ⟨d, x, ok, fun y hy => ok.rng y (hxo y hy), by omega, rfl, ?_⟩)))))))))
        rw [walk_level ok hxo]
        refine tx_var rfl (rx_neE en_I (by decide) ⟨false, by simp, ft, fun _ => bx_test (tx_op (tx_call (ax_cons (tx_var rfl (ax_cons (tx_vix rfl (x := eI d.levels) rfl (ax_cons (tx_var rfl (ax_nil ⟨d, d.levels, x, ok, levels_some ok, hxo, hW4 x hxW, rfl, ?_⟩)))))))))⟩)
        rw [decide_eq_true (cnt_level ok hxo)]
        exact tx_bl (rx_notB ⟨_, rfl, by simp, _, _, rfl, rfl⟩)
      rintro ρ' M' ⟨w11, w12, rfl, rfl⟩
      have sv := evL_some ok
      refine q_asg (tx_tupRg (tx_op (tx_vix rfl (x := .int d.top) rfl (tx_int (rx_add ⟨_, rfl, ⟨by omega, by omega⟩, ?_⟩)))))
      rw [evL_rng]
      refine q_asg (tx_lcU (enc := eI) (wx_lst (tx_var rfl ⟨_, rfl, rowsC d.levels n, cE (cnt d (evL d) (0, 0)), rfl, by omega, fun j q F' hq => ⟨_, _, gx_name, fun k hk => hk, tx_tup (ax_cons (tx_var rfl (ax_cons (tx_call (ax_cons (tx_var rfl (ax_cons (tx_var rfl (ax_cons (tx_var rfl (ax_nil ⟨d, evL d, q, ok, sv, (hW q (List.mem_of_getElem? hq)).2, hW4 q (List.mem_of_getElem? hq), rfl, ax_nil ⟨[_, _], rfl, (by simp), rfl, rfl⟩⟩)))))))))))⟩, ?_⟩)))
      refine q_asg (tx_cb (ax_cons (tx_lcU (enc := cE (cnt d (evL d) (0, 0))) (wx_lst (tx_var rfl ⟨_, rfl, rowsC d.levels n, fun q => .int ((cnt d (evL d) (0, 0) q : Nat) : Int), rfl, by omega, fun j q F' hq => ⟨_, _, gx_2, fun k hk => hk, tx_var rfl ⟨rfl, rfl⟩⟩, ?_⟩)))))
      rw [e1]
      have hWp : 0 < (rowsC d.levels n).length := by
        rw [rowsC_len]
        exact Nat.pow_pos (by omega)
      refine ax_nil (cx_maxL (by rw [List.length_map]; exact hWp) fun mx hmx hle => ?_)
      obtain ⟨y0, hy0, emx⟩ := List.mem_map.mp hmx
      obtain ⟨b, rfl⟩ : ∃ b : Nat, mx = (b : Int) := ⟨_, emx.symm⟩
      refine run_ifF (bx_test (tx_op (tx_call (ax_cons (tx_var rfl (ax_cons (tx_var rfl (ax_nil ⟨d, n, ok, by omega, rfl, fun best w0 hB => ?_⟩))))))))
      have hb : b = best := best_is hB ⟨y0, hy0, by omega⟩ fun y hy => by
        have := hle _ (List.mem_map.mpr ⟨y, hy, rfl⟩)
        omega
      subst hb
      have hx0 : L2.atI (((rowsC d.levels n).filter fun q => decide (cnt d (evL d) (0, 0) q = b)).map eI) 0 = Option.some (eI w0) := by
        refine atI_at (j := 0) rfl ?_
        rw [List.getElem?_map, ← List.head?_eq_getElem?, hB.2]
        rfl
      refine tx_tup (ax_cons (tx_var rfl (ax_cons (tx_op (tx_lcV (enc := cE (cnt d (evL d) (0, 0))) (wx_lst (tx_var rfl ⟨_, rfl, rowsC d.levels n, fun q => decide (cnt d (evL d) (0, 0) q = b), eI, rfl, by omega, fun j q F' hq => ⟨_, _, gx_2, fun k hk => hk, bx_test (tx_op (tx_var rfl (tx_var rfl (rx_eqI ⟨_, rfl, rfl, decide_eq_decide.mpr (by omega), fun _ => tx_var rfl ⟨rfl, rfl⟩⟩))))⟩, ?_⟩)))))))
      exact tx_int (rx_ixL hx0 (ax_nil ⟨[_, _], rfl, (by simp), rx_neW ⟨_, rfl, rfl, _, _, _, _, _, _, _, _, _, _, _, _, _, _, rfl, rfl⟩⟩))
    · rintro ρ' M' ⟨w1, w3, w4, w5, w6, w7, w8, w9, w10, w11, w12, w13, w14, w15, rfl, rfl⟩
      exact ⟨(pa, mSrc) :: F, _, _, _, _, _, _, _, _, _, _, _, _, _, _, _, rfl, rfl⟩
  · rintro ρ' M' ⟨F, w1, w2, w3, w4, w5, w6, w7, w8, w9, w10, w11, w12, w13, w14, w15, rfl, rfl⟩
    refine q_asg (tx_tup (ax_cons (tx_int (ax_cons (tx_tup (ax_cons (tx_int (ax_cons (tx_int (ax_nil ⟨[_, _], rfl, (by simp), ax_cons (tx_tup (ax_cons (tx_int (ax_nil ⟨[_], rfl, (by simp), ax_cons (tx_int (ax_cons (tx_str (ax_nil ⟨[_, _, _, _, _], rfl, (by simp), ?_⟩))))⟩))))⟩))))))))))
    refine q_ifF (bx_test (tx_op (tx_call (ax_cons (tx_var rfl (ax_cons (tx_int (ax_nil ⟨dLine, 2, ok_line, by decide, rfl, fun best w0 hB => ?_⟩))))))))
    obtain ⟨hb, hw⟩ := best_uniq hB best_line
    subst hb hw
    refine tx_tup (ax_cons (tx_int (ax_cons (tx_tup (ax_cons (tx_int (ax_cons (tx_int (ax_nil ⟨[_, _], rfl, (by simp), ax_nil ⟨[_, _], rfl, (by simp), ?_⟩⟩)))))))))
    refine rx_neW (b := 9) (x := [0, 4]) ⟨_, rfl, rfl, ?_⟩
    refine run_ret (TX.weak (tx_op (tx_call (ax_cons (tx_tup (ax_cons (tx_int (ax_cons (tx_tup (ax_cons (tx_int (ax_cons (tx_int (ax_cons (tx_int (ax_nil ⟨[_, _, _], rfl, (by simp), ax_cons (tx_tup (ax_cons (tx_int (ax_nil ⟨[_], rfl, (by simp), ax_cons (tx_int (ax_cons (tx_str (ax_nil ⟨[_, _, _, _, _], rfl, (by simp), ax_cons (tx_int (ax_nil ⟨dTwo, 5, ok_two, by decide, rfl, fun best w0 hB => ?_⟩))⟩))))⟩))))⟩))))))))))))))))
    obtain ⟨hb, hw⟩ := best_uniq hB best_two
    subst hb hw
    refine tx_tup (ax_cons (tx_int (ax_cons (tx_tup (ax_cons (tx_int (ax_cons (tx_int (ax_cons (tx_int (ax_cons (tx_int (ax_cons (tx_int (ax_nil ⟨[_, _, _, _, _], rfl, (by simp), ax_nil ⟨[_, _], rfl, (by simp), ?_⟩⟩)))))))))))))))
    exact rx_eqW (b := 1) (x := [0, 0, 0, 0, 0]) ⟨M, mem_drop F, h⟩
end CD
namespace CD
open PySem PySem.Spec PyProof.Rows L2 CM
theorem all_law {Pg : Program} {w : World} {K : PySem.W.Frag} {mg : Str → Option Value} {base : Heap} {f : Addr} {fd : FuncData} (D_is_between : DefD K mg "is_between" s_is_between ["value", "low", "high"]) (D_are_levels : DefD K mg "are_levels" s_are_levels ["value", "top"]) (D_are_shares : DefD K mg "are_shares" s_are_shares ["value", "divisor"]) (D_is_dither : DefD K mg "is_dither" s_is_dither ["value"]) (D_need_dither : DefD K mg "need_dither" s_need_dither ["dither"]) (D_is_shade : DefD K mg "is_shade" s_is_shade ["dither", "value"]) (D_need_row : DefD K mg "need_row" s_need_row ["dither", "row"]) (D_need_some : DefD K mg "need_some" s_need_some ["dither", "some"]) (D_are_outputs : DefD K mg "are_outputs" s_are_outputs ["dither", "value", "most"]) (D_need_outputs : DefD K mg "need_outputs" s_need_outputs ["dither", "outputs"]) (D_exact : DefD K mg "exact" s_exact ["dither"]) (D_nearest : DefD K mg "nearest" s_nearest ["dither", "value"]) (D_part : DefD K mg "part" s_part ["error", "share", "divisor"]) (D_step : DefD K mg "step" s_step ["dither", "here", "shade"]) (D_walk : DefD K mg "walk" s_walk ["dither", "here", "row"]) (D_result : DefD K mg "result" s_result ["dither", "row"]) (D_shades_of : DefD K mg "shades_of" s_shades_of ["dither"]) (D_stages_of : DefD K mg "stages_of" s_stages_of ["dither", "some", "outputs"]) (D_count_of : DefD K mg "count_of" s_count_of ["dither", "some", "outputs"]) (D_is_possible : DefD K mg "is_possible" s_is_possible ["dither", "some", "outputs"]) (D_count_rows : DefD K mg "count_rows" s_count_rows ["dither", "some", "outputs"]) (D_next_lots : DefD K mg "next_lots" s_next_lots ["dither", "some", "lot"]) {C : Addr} (T : CtrT K C) (D_Counter_init : DefI K mg C "Counter" "Counter.__init__" s_Counter_init ["self", "dither", "some"]) (D_Counter_next_of : DefM K C "next_of" "Counter.next_of" s_Counter_next_of ["self", "lot"]) (D_Counter_many : DefM K C "many" "Counter.many" s_Counter_many ["self", "lot", "number"]) (D_need_number : DefD K mg "need_number" s_need_number ["number", "most"]) (D_count_results : DefD K mg "count_results" s_count_results ["dither", "some", "number"]) (D_result_at : DefD K mg "result_at" s_result_at ["dither", "some", "number", "place"]) (D_place_of : DefD K mg "place_of" s_place_of ["dither", "some", "outputs"]) (D_behind_output : DefD K mg "behind_output" s_behind_output ["dither", "counts", "output"]) (D_most_rows : DefD K mg "most_rows" s_most_rows ["dither", "number"]) (D__law_source : DefD K mg "_law_source" s__law_source ["_law_script", "_law_index"]) (D__law_draw : DefD K mg "_law_draw" s__law_draw ["_law_source_here", "_law_size"]) (D__law_choice : DefD K mg "_law_choice" s__law_choice ["_law_source_here", "_law_items"]) (D__law_dither : DefD K mg "_law_dither" s__law_dither ["_law_source_here", "_law_most"]) (D__law_some : DefD K mg "_law_some" s__law_some ["_law_source_here", "_law_dither_here"]) (D__law_rows_of : DefD K mg "_law_rows_of" s__law_rows_of ["_law_some_here", "_law_number"]) (F : Fun K "law" "law" s_law f fd) (B : Bi mg) (G_MOST_LEVELS : GInt mg "MOST_LEVELS" 6) (G_MOST_TOP : GInt mg "MOST_TOP" 8) (G_MOST_DIVISOR : GInt mg "MOST_DIVISOR" 8) (G_MOST_ROW : GInt mg "MOST_ROW" 40) {sA : Addr} (G_START : GTup K mg "START" sA [.int 0, .int 0]) (G_MOST_COUNTED : GInt mg "MOST_COUNTED" 20) (G_MOST_TRIED : GInt mg "MOST_TRIED" 5) : FnOk Pg w K mg base CX0 10 f fd ["_law_script"] (FnP K R_law) := by
  have C_is_between := ok_is_between (Pg := Pg) (w := w) (base := base) D_is_between B
  have C_are_levels := ok_are_levels (Pg := Pg) (w := w) (base := base) D_are_levels B G_MOST_LEVELS C_is_between
  have C_are_shares := ok_are_shares (Pg := Pg) (w := w) (base := base) D_are_shares B C_is_between
  have C_is_dither := ok_is_dither (Pg := Pg) (w := w) (base := base) D_is_dither B G_MOST_TOP G_MOST_DIVISOR C_is_between C_are_levels C_are_shares
  have C_need_dither := ok_need_dither (Pg := Pg) (w := w) (base := base) D_need_dither B C_is_dither
  have C_is_shade := ok_is_shade (Pg := Pg) (w := w) (base := base) D_is_shade B C_is_between
  have C_need_row := ok_need_row (Pg := Pg) (w := w) (base := base) D_need_row B G_MOST_ROW C_is_shade
  have C_need_some := ok_need_some (Pg := Pg) (w := w) (base := base) D_need_some B C_is_shade
  have C_are_outputs := ok_are_outputs (Pg := Pg) (w := w) (base := base) D_are_outputs B C_is_between
  have C_need_outputs := ok_need_outputs (Pg := Pg) (w := w) (base := base) D_need_outputs B G_MOST_ROW C_are_outputs
  have C_exact := ok_exact (Pg := Pg) (w := w) (base := base) D_exact B
  have C_nearest := ok_nearest (Pg := Pg) (w := w) (base := base) D_nearest B
  have C_part := ok_part (Pg := Pg) (w := w) (base := base) D_part B
  have C_step := ok_step (Pg := Pg) (w := w) (base := base) D_step B C_exact C_nearest C_part
  have C_walk := ok_walk (Pg := Pg) (w := w) (base := base) D_walk B C_step
  have C_result := ok_result (Pg := Pg) (w := w) (base := base) D_result B G_START C_need_dither C_need_row C_walk
  have C_shades_of := ok_shades_of (Pg := Pg) (w := w) (base := base) D_shades_of B
  have C_stages_of := ok_stages_of (Pg := Pg) (w := w) (base := base) D_stages_of B G_START C_step
  have C_count_of := ok_count_of (Pg := Pg) (w := w) (base := base) D_count_of B C_stages_of
  have C_is_possible := ok_is_possible (Pg := Pg) (w := w) (base := base) D_is_possible B C_need_dither C_need_some C_need_outputs C_count_of
  have C_count_rows := ok_count_rows (Pg := Pg) (w := w) (base := base) D_count_rows B C_need_dither C_need_some C_need_outputs C_count_of
  have C_next_lots := ok_next_lots (Pg := Pg) (w := w) (base := base) D_next_lots B C_step
  have C_Counter_init := ok_Counter_init (Pg := Pg) (w := w) (base := base) D_Counter_init T B
  have C_Counter_next_of := ok_Counter_next_of (Pg := Pg) (w := w) (base := base) D_Counter_next_of T B C_next_lots
  have C_Counter_many := ok_Counter_many (Pg := Pg) (w := w) (base := base) D_Counter_many T B C_Counter_next_of
  have C_need_number := ok_need_number (Pg := Pg) (w := w) (base := base) D_need_number B C_is_between
  have C_count_results := ok_count_results (Pg := Pg) (w := w) (base := base) D_count_results B G_MOST_COUNTED G_START C_need_dither C_need_some C_Counter_init C_Counter_many C_need_number
  have C_result_at := ok_result_at (Pg := Pg) (w := w) (base := base) D_result_at B G_MOST_COUNTED G_START C_is_between C_need_dither C_need_some C_Counter_init C_Counter_next_of C_Counter_many C_need_number
  have C_place_of := ok_place_of (Pg := Pg) (w := w) (base := base) D_place_of B G_MOST_COUNTED G_START C_need_dither C_need_some C_are_outputs C_Counter_init C_Counter_next_of C_Counter_many
  have C_behind_output := ok_behind_output (Pg := Pg) (w := w) (base := base) D_behind_output B C_step C_shades_of
  have C_most_rows := ok_most_rows (Pg := Pg) (w := w) (base := base) D_most_rows B G_MOST_TRIED G_START C_need_dither C_need_number C_behind_output
  have C__law_source := ok__law_source (Pg := Pg) (w := w) (base := base) D__law_source B
  have C__law_draw := ok__law_draw (Pg := Pg) (w := w) (base := base) D__law_draw B
  have C__law_choice := ok__law_choice (Pg := Pg) (w := w) (base := base) D__law_choice B C__law_draw
  have C__law_dither := ok__law_dither (Pg := Pg) (w := w) (base := base) D__law_dither B C__law_draw C__law_choice
  have C__law_some := ok__law_some (Pg := Pg) (w := w) (base := base) D__law_some B C__law_draw C__law_choice
  have C__law_rows_of := ok__law_rows_of (Pg := Pg) (w := w) (base := base) D__law_rows_of B
  exact ok_law F B C_result C_is_possible C_count_rows C_count_results C_result_at C_place_of C_most_rows C__law_source C__law_draw C__law_dither C__law_some C__law_rows_of
theorem hb_is_between (kV doc pm : Value) (an : Option Addr) (cdv ct : Value) (us : List Value) (hl : us.length = 3) : bindArgs (PySem.W.fnOf "is_between" "is_between" (defArgs s_is_between) (defBody s_is_between) (defScope s_is_between) .none kV doc pm an cdv ct) ⟨us, []⟩ = pure ((["value", "low", "high"] : List Str).zip us) := match us, hl with | [_, _, _], _ => rfl
theorem hb_are_levels (kV doc pm : Value) (an : Option Addr) (cdv ct : Value) (us : List Value) (hl : us.length = 2) : bindArgs (PySem.W.fnOf "are_levels" "are_levels" (defArgs s_are_levels) (defBody s_are_levels) (defScope s_are_levels) .none kV doc pm an cdv ct) ⟨us, []⟩ = pure ((["value", "top"] : List Str).zip us) := match us, hl with | [_, _], _ => rfl
theorem hb_are_shares (kV doc pm : Value) (an : Option Addr) (cdv ct : Value) (us : List Value) (hl : us.length = 2) : bindArgs (PySem.W.fnOf "are_shares" "are_shares" (defArgs s_are_shares) (defBody s_are_shares) (defScope s_are_shares) .none kV doc pm an cdv ct) ⟨us, []⟩ = pure ((["value", "divisor"] : List Str).zip us) := match us, hl with | [_, _], _ => rfl
theorem hb_is_dither (kV doc pm : Value) (an : Option Addr) (cdv ct : Value) (us : List Value) (hl : us.length = 1) : bindArgs (PySem.W.fnOf "is_dither" "is_dither" (defArgs s_is_dither) (defBody s_is_dither) (defScope s_is_dither) .none kV doc pm an cdv ct) ⟨us, []⟩ = pure ((["value"] : List Str).zip us) := match us, hl with | [_], _ => rfl
theorem hb_need_dither (kV doc pm : Value) (an : Option Addr) (cdv ct : Value) (us : List Value) (hl : us.length = 1) : bindArgs (PySem.W.fnOf "need_dither" "need_dither" (defArgs s_need_dither) (defBody s_need_dither) (defScope s_need_dither) .none kV doc pm an cdv ct) ⟨us, []⟩ = pure ((["dither"] : List Str).zip us) := match us, hl with | [_], _ => rfl
theorem hb_is_shade (kV doc pm : Value) (an : Option Addr) (cdv ct : Value) (us : List Value) (hl : us.length = 2) : bindArgs (PySem.W.fnOf "is_shade" "is_shade" (defArgs s_is_shade) (defBody s_is_shade) (defScope s_is_shade) .none kV doc pm an cdv ct) ⟨us, []⟩ = pure ((["dither", "value"] : List Str).zip us) := match us, hl with | [_, _], _ => rfl
theorem hb_need_row (kV doc pm : Value) (an : Option Addr) (cdv ct : Value) (us : List Value) (hl : us.length = 2) : bindArgs (PySem.W.fnOf "need_row" "need_row" (defArgs s_need_row) (defBody s_need_row) (defScope s_need_row) .none kV doc pm an cdv ct) ⟨us, []⟩ = pure ((["dither", "row"] : List Str).zip us) := match us, hl with | [_, _], _ => rfl
theorem hb_need_some (kV doc pm : Value) (an : Option Addr) (cdv ct : Value) (us : List Value) (hl : us.length = 2) : bindArgs (PySem.W.fnOf "need_some" "need_some" (defArgs s_need_some) (defBody s_need_some) (defScope s_need_some) .none kV doc pm an cdv ct) ⟨us, []⟩ = pure ((["dither", "some"] : List Str).zip us) := match us, hl with | [_, _], _ => rfl
theorem hb_are_outputs (kV doc pm : Value) (an : Option Addr) (cdv ct : Value) (us : List Value) (hl : us.length = 3) : bindArgs (PySem.W.fnOf "are_outputs" "are_outputs" (defArgs s_are_outputs) (defBody s_are_outputs) (defScope s_are_outputs) .none kV doc pm an cdv ct) ⟨us, []⟩ = pure ((["dither", "value", "most"] : List Str).zip us) := match us, hl with | [_, _, _], _ => rfl
theorem hb_need_outputs (kV doc pm : Value) (an : Option Addr) (cdv ct : Value) (us : List Value) (hl : us.length = 2) : bindArgs (PySem.W.fnOf "need_outputs" "need_outputs" (defArgs s_need_outputs) (defBody s_need_outputs) (defScope s_need_outputs) .none kV doc pm an cdv ct) ⟨us, []⟩ = pure ((["dither", "outputs"] : List Str).zip us) := match us, hl with | [_, _], _ => rfl
theorem hb_exact (kV doc pm : Value) (an : Option Addr) (cdv ct : Value) (us : List Value) (hl : us.length = 1) : bindArgs (PySem.W.fnOf "exact" "exact" (defArgs s_exact) (defBody s_exact) (defScope s_exact) .none kV doc pm an cdv ct) ⟨us, []⟩ = pure ((["dither"] : List Str).zip us) := match us, hl with | [_], _ => rfl
theorem hb_nearest (kV doc pm : Value) (an : Option Addr) (cdv ct : Value) (us : List Value) (hl : us.length = 2) : bindArgs (PySem.W.fnOf "nearest" "nearest" (defArgs s_nearest) (defBody s_nearest) (defScope s_nearest) .none kV doc pm an cdv ct) ⟨us, []⟩ = pure ((["dither", "value"] : List Str).zip us) := match us, hl with | [_, _], _ => rfl
theorem hb_part (kV doc pm : Value) (an : Option Addr) (cdv ct : Value) (us : List Value) (hl : us.length = 3) : bindArgs (PySem.W.fnOf "part" "part" (defArgs s_part) (defBody s_part) (defScope s_part) .none kV doc pm an cdv ct) ⟨us, []⟩ = pure ((["error", "share", "divisor"] : List Str).zip us) := match us, hl with | [_, _, _], _ => rfl
theorem hb_step (kV doc pm : Value) (an : Option Addr) (cdv ct : Value) (us : List Value) (hl : us.length = 3) : bindArgs (PySem.W.fnOf "step" "step" (defArgs s_step) (defBody s_step) (defScope s_step) .none kV doc pm an cdv ct) ⟨us, []⟩ = pure ((["dither", "here", "shade"] : List Str).zip us) := match us, hl with | [_, _, _], _ => rfl
theorem hb_walk (kV doc pm : Value) (an : Option Addr) (cdv ct : Value) (us : List Value) (hl : us.length = 3) : bindArgs (PySem.W.fnOf "walk" "walk" (defArgs s_walk) (defBody s_walk) (defScope s_walk) .none kV doc pm an cdv ct) ⟨us, []⟩ = pure ((["dither", "here", "row"] : List Str).zip us) := match us, hl with | [_, _, _], _ => rfl
theorem hb_result (kV doc pm : Value) (an : Option Addr) (cdv ct : Value) (us : List Value) (hl : us.length = 2) : bindArgs (PySem.W.fnOf "result" "result" (defArgs s_result) (defBody s_result) (defScope s_result) .none kV doc pm an cdv ct) ⟨us, []⟩ = pure ((["dither", "row"] : List Str).zip us) := match us, hl with | [_, _], _ => rfl
theorem hb_shades_of (kV doc pm : Value) (an : Option Addr) (cdv ct : Value) (us : List Value) (hl : us.length = 1) : bindArgs (PySem.W.fnOf "shades_of" "shades_of" (defArgs s_shades_of) (defBody s_shades_of) (defScope s_shades_of) .none kV doc pm an cdv ct) ⟨us, []⟩ = pure ((["dither"] : List Str).zip us) := match us, hl with | [_], _ => rfl
theorem hb_stages_of (kV doc pm : Value) (an : Option Addr) (cdv ct : Value) (us : List Value) (hl : us.length = 3) : bindArgs (PySem.W.fnOf "stages_of" "stages_of" (defArgs s_stages_of) (defBody s_stages_of) (defScope s_stages_of) .none kV doc pm an cdv ct) ⟨us, []⟩ = pure ((["dither", "some", "outputs"] : List Str).zip us) := match us, hl with | [_, _, _], _ => rfl
theorem hb_count_of (kV doc pm : Value) (an : Option Addr) (cdv ct : Value) (us : List Value) (hl : us.length = 3) : bindArgs (PySem.W.fnOf "count_of" "count_of" (defArgs s_count_of) (defBody s_count_of) (defScope s_count_of) .none kV doc pm an cdv ct) ⟨us, []⟩ = pure ((["dither", "some", "outputs"] : List Str).zip us) := match us, hl with | [_, _, _], _ => rfl
theorem hb_is_possible (kV doc pm : Value) (an : Option Addr) (cdv ct : Value) (us : List Value) (hl : us.length = 3) : bindArgs (PySem.W.fnOf "is_possible" "is_possible" (defArgs s_is_possible) (defBody s_is_possible) (defScope s_is_possible) .none kV doc pm an cdv ct) ⟨us, []⟩ = pure ((["dither", "some", "outputs"] : List Str).zip us) := match us, hl with | [_, _, _], _ => rfl
theorem hb_count_rows (kV doc pm : Value) (an : Option Addr) (cdv ct : Value) (us : List Value) (hl : us.length = 3) : bindArgs (PySem.W.fnOf "count_rows" "count_rows" (defArgs s_count_rows) (defBody s_count_rows) (defScope s_count_rows) .none kV doc pm an cdv ct) ⟨us, []⟩ = pure ((["dither", "some", "outputs"] : List Str).zip us) := match us, hl with | [_, _, _], _ => rfl
theorem hb_next_lots (kV doc pm : Value) (an : Option Addr) (cdv ct : Value) (us : List Value) (hl : us.length = 3) : bindArgs (PySem.W.fnOf "next_lots" "next_lots" (defArgs s_next_lots) (defBody s_next_lots) (defScope s_next_lots) .none kV doc pm an cdv ct) ⟨us, []⟩ = pure ((["dither", "some", "lot"] : List Str).zip us) := match us, hl with | [_, _, _], _ => rfl
theorem hb_Counter_init (kV doc pm : Value) (an : Option Addr) (cdv ct : Value) (us : List Value) (hl : us.length = 3) : bindArgs (PySem.W.fnOf "__init__" "Counter.__init__" (defArgs s_Counter_init) (defBody s_Counter_init) (defScope s_Counter_init) .none kV doc pm an cdv ct) ⟨us, []⟩ = pure ((["self", "dither", "some"] : List Str).zip us) := match us, hl with | [_, _, _], _ => rfl
theorem hb_Counter_next_of (kV doc pm : Value) (an : Option Addr) (cdv ct : Value) (us : List Value) (hl : us.length = 2) : bindArgs (PySem.W.fnOf "next_of" "Counter.next_of" (defArgs s_Counter_next_of) (defBody s_Counter_next_of) (defScope s_Counter_next_of) .none kV doc pm an cdv ct) ⟨us, []⟩ = pure ((["self", "lot"] : List Str).zip us) := match us, hl with | [_, _], _ => rfl
theorem hb_Counter_many (kV doc pm : Value) (an : Option Addr) (cdv ct : Value) (us : List Value) (hl : us.length = 3) : bindArgs (PySem.W.fnOf "many" "Counter.many" (defArgs s_Counter_many) (defBody s_Counter_many) (defScope s_Counter_many) .none kV doc pm an cdv ct) ⟨us, []⟩ = pure ((["self", "lot", "number"] : List Str).zip us) := match us, hl with | [_, _, _], _ => rfl
theorem hb_need_number (kV doc pm : Value) (an : Option Addr) (cdv ct : Value) (us : List Value) (hl : us.length = 2) : bindArgs (PySem.W.fnOf "need_number" "need_number" (defArgs s_need_number) (defBody s_need_number) (defScope s_need_number) .none kV doc pm an cdv ct) ⟨us, []⟩ = pure ((["number", "most"] : List Str).zip us) := match us, hl with | [_, _], _ => rfl
theorem hb_count_results (kV doc pm : Value) (an : Option Addr) (cdv ct : Value) (us : List Value) (hl : us.length = 3) : bindArgs (PySem.W.fnOf "count_results" "count_results" (defArgs s_count_results) (defBody s_count_results) (defScope s_count_results) .none kV doc pm an cdv ct) ⟨us, []⟩ = pure ((["dither", "some", "number"] : List Str).zip us) := match us, hl with | [_, _, _], _ => rfl
theorem hb_result_at (kV doc pm : Value) (an : Option Addr) (cdv ct : Value) (us : List Value) (hl : us.length = 4) : bindArgs (PySem.W.fnOf "result_at" "result_at" (defArgs s_result_at) (defBody s_result_at) (defScope s_result_at) .none kV doc pm an cdv ct) ⟨us, []⟩ = pure ((["dither", "some", "number", "place"] : List Str).zip us) := match us, hl with | [_, _, _, _], _ => rfl
theorem hb_place_of (kV doc pm : Value) (an : Option Addr) (cdv ct : Value) (us : List Value) (hl : us.length = 3) : bindArgs (PySem.W.fnOf "place_of" "place_of" (defArgs s_place_of) (defBody s_place_of) (defScope s_place_of) .none kV doc pm an cdv ct) ⟨us, []⟩ = pure ((["dither", "some", "outputs"] : List Str).zip us) := match us, hl with | [_, _, _], _ => rfl
theorem hb_behind_output (kV doc pm : Value) (an : Option Addr) (cdv ct : Value) (us : List Value) (hl : us.length = 3) : bindArgs (PySem.W.fnOf "behind_output" "behind_output" (defArgs s_behind_output) (defBody s_behind_output) (defScope s_behind_output) .none kV doc pm an cdv ct) ⟨us, []⟩ = pure ((["dither", "counts", "output"] : List Str).zip us) := match us, hl with | [_, _, _], _ => rfl
theorem hb_most_rows (kV doc pm : Value) (an : Option Addr) (cdv ct : Value) (us : List Value) (hl : us.length = 2) : bindArgs (PySem.W.fnOf "most_rows" "most_rows" (defArgs s_most_rows) (defBody s_most_rows) (defScope s_most_rows) .none kV doc pm an cdv ct) ⟨us, []⟩ = pure ((["dither", "number"] : List Str).zip us) := match us, hl with | [_, _], _ => rfl
theorem hb__law_source (kV doc pm : Value) (an : Option Addr) (cdv ct : Value) (us : List Value) (hl : us.length = 2) : bindArgs (PySem.W.fnOf "_law_source" "_law_source" (defArgs s__law_source) (defBody s__law_source) (defScope s__law_source) .none kV doc pm an cdv ct) ⟨us, []⟩ = pure ((["_law_script", "_law_index"] : List Str).zip us) := match us, hl with | [_, _], _ => rfl
theorem hb__law_draw (kV doc pm : Value) (an : Option Addr) (cdv ct : Value) (us : List Value) (hl : us.length = 2) : bindArgs (PySem.W.fnOf "_law_draw" "_law_draw" (defArgs s__law_draw) (defBody s__law_draw) (defScope s__law_draw) .none kV doc pm an cdv ct) ⟨us, []⟩ = pure ((["_law_source_here", "_law_size"] : List Str).zip us) := match us, hl with | [_, _], _ => rfl
theorem hb__law_choice (kV doc pm : Value) (an : Option Addr) (cdv ct : Value) (us : List Value) (hl : us.length = 2) : bindArgs (PySem.W.fnOf "_law_choice" "_law_choice" (defArgs s__law_choice) (defBody s__law_choice) (defScope s__law_choice) .none kV doc pm an cdv ct) ⟨us, []⟩ = pure ((["_law_source_here", "_law_items"] : List Str).zip us) := match us, hl with | [_, _], _ => rfl
theorem hb__law_dither (kV doc pm : Value) (an : Option Addr) (cdv ct : Value) (us : List Value) (hl : us.length = 2) : bindArgs (PySem.W.fnOf "_law_dither" "_law_dither" (defArgs s__law_dither) (defBody s__law_dither) (defScope s__law_dither) .none kV doc pm an cdv ct) ⟨us, []⟩ = pure ((["_law_source_here", "_law_most"] : List Str).zip us) := match us, hl with | [_, _], _ => rfl
theorem hb__law_some (kV doc pm : Value) (an : Option Addr) (cdv ct : Value) (us : List Value) (hl : us.length = 2) : bindArgs (PySem.W.fnOf "_law_some" "_law_some" (defArgs s__law_some) (defBody s__law_some) (defScope s__law_some) .none kV doc pm an cdv ct) ⟨us, []⟩ = pure ((["_law_source_here", "_law_dither_here"] : List Str).zip us) := match us, hl with | [_, _], _ => rfl
theorem hb__law_rows_of (kV doc pm : Value) (an : Option Addr) (cdv ct : Value) (us : List Value) (hl : us.length = 2) : bindArgs (PySem.W.fnOf "_law_rows_of" "_law_rows_of" (defArgs s__law_rows_of) (defBody s__law_rows_of) (defScope s__law_rows_of) .none kV doc pm an cdv ct) ⟨us, []⟩ = pure ((["_law_some_here", "_law_number"] : List Str).zip us) := match us, hl with | [_, _], _ => rfl
theorem hb_law (kV doc pm : Value) (an : Option Addr) (cdv ct : Value) (us : List Value) (hl : us.length = 1) : bindArgs (PySem.W.fnOf "law" "law" (defArgs s_law) (defBody s_law) (defScope s_law) .none kV doc pm an cdv ct) ⟨us, []⟩ = pure ((["_law_script"] : List Str).zip us) := match us, hl with | [_], _ => rfl
def CtrAll {Params : PySem.W.Frag} (mg : Str → Option Value) : Prop := ∃ C, CtrT Params C ∧ DefI Params mg C "Counter" "Counter.__init__" s_Counter_init ["self", "dither", "some"] ∧ DefM Params C "next_of" "Counter.next_of" s_Counter_next_of ["self", "lot"] ∧ DefM Params C "many" "Counter.many" s_Counter_many ["self", "lot", "number"]
theorem ctr_mk {h : Heap} {K : PySem.W.Frag} {mg : Str → Option Value} {C : Addr} {f0 : Addr} {od0 an0 : Option Addr} {sl0 : Array (Option Value)} {oc0 kV0 dc0 pm0 cd0 ct0 : Value} {f1 : Addr} {od1 an1 : Option Addr} {sl1 : Array (Option Value)} {oc1 kV1 dc1 pm1 cd1 ct1 : Value} {f2 : Addr} {od2 an2 : Option Addr} {sl2 : Array (Option Value)} {oc2 kV2 dc2 pm2 cd2 ct2 : Value} (X : K.In h) (G : h.Ns mainGlobals mg) (a : PySem.W.nsIn K mainGlobals "Counter" = some (some (.ref C))) (pg : PySem.W.plainGet K C Str.empty = true) (hd : PySem.W.hasDictIn K C = true) (po : PySem.W.plainOver K C = true) (sa : PySem.W.findIn K (.ref C) "__setattr__" = some (some (.builtin "object.__setattr__"))) (mk : PySem.W.makesIn K C = true) (kc : PySem.W.keepIn K (.ref C) = true) (nd : PySem.W.findIn K (.ref C) "dither" = some none) (ns : PySem.W.findIn K (.ref C) "some" = some none) (nn : PySem.W.findIn K (.ref C) "nexts" = some none) (nk : PySem.W.findIn K (.ref C) "known" = some none) (a0 : PySem.W.findIn K (.ref C) "__init__" = some (some (.ref f0))) (i0 : PySem.W.isFn K (.ref f0) = true) (l0 : K.lookup f0 = some ⟨oc0, od0, .func (PySem.W.fnOf "__init__" "Counter.__init__" (defArgs s_Counter_init) (defBody s_Counter_init) (defScope s_Counter_init) .none kV0 dc0 pm0 an0 cd0 ct0), sl0⟩) (c0 : PySem.W.codeIn K cd0 "Counter.__init__" = true) (k0 : PySem.W.keepIn K (.ref f0) = true) (a1 : PySem.W.findIn K (.ref C) "next_of" = some (some (.ref f1))) (i1 : PySem.W.isFn K (.ref f1) = true) (l1 : K.lookup f1 = some ⟨oc1, od1, .func (PySem.W.fnOf "next_of" "Counter.next_of" (defArgs s_Counter_next_of) (defBody s_Counter_next_of) (defScope s_Counter_next_of) .none kV1 dc1 pm1 an1 cd1 ct1), sl1⟩) (c1 : PySem.W.codeIn K cd1 "Counter.next_of" = true) (k1 : PySem.W.keepIn K (.ref f1) = true) (a2 : PySem.W.findIn K (.ref C) "many" = some (some (.ref f2))) (i2 : PySem.W.isFn K (.ref f2) = true) (l2 : K.lookup f2 = some ⟨oc2, od2, .func (PySem.W.fnOf "many" "Counter.many" (defArgs s_Counter_many) (defBody s_Counter_many) (defScope s_Counter_many) .none kV2 dc2 pm2 an2 cd2 ct2), sl2⟩) (c2 : PySem.W.codeIn K cd2 "Counter.many" = true) (k2 : PySem.W.keepIn K (.ref f2) = true) : CtrAll (Params := K) mg := by
  have cl : Cls K C := ⟨pg, hd, po, sa⟩
  have F0 := fun_mk (st := s_Counter_init) l0 c0 k0
  have F1 := fun_mk (st := s_Counter_next_of) l1 c1 k1
  have F2 := fun_mk (st := s_Counter_many) l2 c2 k2
  exact ⟨C, ⟨cl, nd, ns, nn, nk⟩, ⟨⟨f0, _, F0, F0.binds hb_Counter_init, ⟨mk, a0, i0, kc⟩, PySem.W.mg_of X G a⟩⟩, ⟨⟨f1, _, F1, F1.binds hb_Counter_next_of, ⟨a1, i1, k1⟩, cl⟩⟩, ⟨⟨f2, _, F2, F2.binds hb_Counter_many, ⟨a2, i2, k2⟩, cl⟩⟩⟩
end CD
open PySem PySem.W PyProof.Rows in
set_option maxRecDepth 100000 in
set_option maxHeartbeats 0 in
theorem PySem.Challenge.cw_carrydithers_k13_whole_results_share_all_holds : PySem.Challenge.rw_carrydithers_k13_whole_results_share_all.Holds := by
  w_on; o_law; k_head; (case hw => w_witness2)
  k_fill
  refine L2.walk_of (l := PySem.Challenge.rw_carrydithers_k13_whole_results_share_all) (n := 63) (k := 10) (x := "_law_script") (CX := fun _ => L2.CX0) (sp := fun w => CD.FnP _ CD.R_law) rfl (by decide) rfl ⟨rfl, by decide, by decide⟩ (fun w h Y => PySem.W.kIn_of Y) ?F (fun w H a ns h1 h2 h3 => CD.law_start h1 h3) (fun _ _ _ _ _ z => z)
  case F =>
    intro w mg fa h KX G hmg
    have D_is_between := by refine' CD.dd_mk (x := "is_between") (st := CD.s_is_between) (ps := ["value", "low", "high"]) KX G ?a ?l ?c ?k CD.hb_is_between; (case a => k_is); (case l => k_is); (case c => k_is); (case k => k_is)
    have D_are_levels := by refine' CD.dd_mk (x := "are_levels") (st := CD.s_are_levels) (ps := ["value", "top"]) KX G ?a ?l ?c ?k CD.hb_are_levels; (case a => k_is); (case l => k_is); (case c => k_is); (case k => k_is)
    have D_are_shares := by refine' CD.dd_mk (x := "are_shares") (st := CD.s_are_shares) (ps := ["value", "divisor"]) KX G ?a ?l ?c ?k CD.hb_are_shares; (case a => k_is); (case l => k_is); (case c => k_is); (case k => k_is)
    have D_is_dither := by refine' CD.dd_mk (x := "is_dither") (st := CD.s_is_dither) (ps := ["value"]) KX G ?a ?l ?c ?k CD.hb_is_dither; (case a => k_is); (case l => k_is); (case c => k_is); (case k => k_is)
    have D_need_dither := by refine' CD.dd_mk (x := "need_dither") (st := CD.s_need_dither) (ps := ["dither"]) KX G ?a ?l ?c ?k CD.hb_need_dither; (case a => k_is); (case l => k_is); (case c => k_is); (case k => k_is)
    have D_is_shade := by refine' CD.dd_mk (x := "is_shade") (st := CD.s_is_shade) (ps := ["dither", "value"]) KX G ?a ?l ?c ?k CD.hb_is_shade; (case a => k_is); (case l => k_is); (case c => k_is); (case k => k_is)
    have D_need_row := by refine' CD.dd_mk (x := "need_row") (st := CD.s_need_row) (ps := ["dither", "row"]) KX G ?a ?l ?c ?k CD.hb_need_row; (case a => k_is); (case l => k_is); (case c => k_is); (case k => k_is)
    have D_need_some := by refine' CD.dd_mk (x := "need_some") (st := CD.s_need_some) (ps := ["dither", "some"]) KX G ?a ?l ?c ?k CD.hb_need_some; (case a => k_is); (case l => k_is); (case c => k_is); (case k => k_is)
    have D_are_outputs := by refine' CD.dd_mk (x := "are_outputs") (st := CD.s_are_outputs) (ps := ["dither", "value", "most"]) KX G ?a ?l ?c ?k CD.hb_are_outputs; (case a => k_is); (case l => k_is); (case c => k_is); (case k => k_is)
    have D_need_outputs := by refine' CD.dd_mk (x := "need_outputs") (st := CD.s_need_outputs) (ps := ["dither", "outputs"]) KX G ?a ?l ?c ?k CD.hb_need_outputs; (case a => k_is); (case l => k_is); (case c => k_is); (case k => k_is)
    have D_exact := by refine' CD.dd_mk (x := "exact") (st := CD.s_exact) (ps := ["dither"]) KX G ?a ?l ?c ?k CD.hb_exact; (case a => k_is); (case l => k_is); (case c => k_is); (case k => k_is)
    have D_nearest := by refine' CD.dd_mk (x := "nearest") (st := CD.s_nearest) (ps := ["dither", "value"]) KX G ?a ?l ?c ?k CD.hb_nearest; (case a => k_is); (case l => k_is); (case c => k_is); (case k => k_is)
    have D_part := by refine' CD.dd_mk (x := "part") (st := CD.s_part) (ps := ["error", "share", "divisor"]) KX G ?a ?l ?c ?k CD.hb_part; (case a => k_is); (case l => k_is); (case c => k_is); (case k => k_is)
    have D_step := by refine' CD.dd_mk (x := "step") (st := CD.s_step) (ps := ["dither", "here", "shade"]) KX G ?a ?l ?c ?k CD.hb_step; (case a => k_is); (case l => k_is); (case c => k_is); (case k => k_is)
    have D_walk := by refine' CD.dd_mk (x := "walk") (st := CD.s_walk) (ps := ["dither", "here", "row"]) KX G ?a ?l ?c ?k CD.hb_walk; (case a => k_is); (case l => k_is); (case c => k_is); (case k => k_is)
    have D_result := by refine' CD.dd_mk (x := "result") (st := CD.s_result) (ps := ["dither", "row"]) KX G ?a ?l ?c ?k CD.hb_result; (case a => k_is); (case l => k_is); (case c => k_is); (case k => k_is)
    have D_shades_of := by refine' CD.dd_mk (x := "shades_of") (st := CD.s_shades_of) (ps := ["dither"]) KX G ?a ?l ?c ?k CD.hb_shades_of; (case a => k_is); (case l => k_is); (case c => k_is); (case k => k_is)
    have D_stages_of := by refine' CD.dd_mk (x := "stages_of") (st := CD.s_stages_of) (ps := ["dither", "some", "outputs"]) KX G ?a ?l ?c ?k CD.hb_stages_of; (case a => k_is); (case l => k_is); (case c => k_is); (case k => k_is)
    have D_count_of := by refine' CD.dd_mk (x := "count_of") (st := CD.s_count_of) (ps := ["dither", "some", "outputs"]) KX G ?a ?l ?c ?k CD.hb_count_of; (case a => k_is); (case l => k_is); (case c => k_is); (case k => k_is)
    have D_is_possible := by refine' CD.dd_mk (x := "is_possible") (st := CD.s_is_possible) (ps := ["dither", "some", "outputs"]) KX G ?a ?l ?c ?k CD.hb_is_possible; (case a => k_is); (case l => k_is); (case c => k_is); (case k => k_is)
    have D_count_rows := by refine' CD.dd_mk (x := "count_rows") (st := CD.s_count_rows) (ps := ["dither", "some", "outputs"]) KX G ?a ?l ?c ?k CD.hb_count_rows; (case a => k_is); (case l => k_is); (case c => k_is); (case k => k_is)
    have D_next_lots := by refine' CD.dd_mk (x := "next_lots") (st := CD.s_next_lots) (ps := ["dither", "some", "lot"]) KX G ?a ?l ?c ?k CD.hb_next_lots; (case a => k_is); (case l => k_is); (case c => k_is); (case k => k_is)
    have D_need_number := by refine' CD.dd_mk (x := "need_number") (st := CD.s_need_number) (ps := ["number", "most"]) KX G ?a ?l ?c ?k CD.hb_need_number; (case a => k_is); (case l => k_is); (case c => k_is); (case k => k_is)
    have D_count_results := by refine' CD.dd_mk (x := "count_results") (st := CD.s_count_results) (ps := ["dither", "some", "number"]) KX G ?a ?l ?c ?k CD.hb_count_results; (case a => k_is); (case l => k_is); (case c => k_is); (case k => k_is)
    have D_result_at := by refine' CD.dd_mk (x := "result_at") (st := CD.s_result_at) (ps := ["dither", "some", "number", "place"]) KX G ?a ?l ?c ?k CD.hb_result_at; (case a => k_is); (case l => k_is); (case c => k_is); (case k => k_is)
    have D_place_of := by refine' CD.dd_mk (x := "place_of") (st := CD.s_place_of) (ps := ["dither", "some", "outputs"]) KX G ?a ?l ?c ?k CD.hb_place_of; (case a => k_is); (case l => k_is); (case c => k_is); (case k => k_is)
    have D_behind_output := by refine' CD.dd_mk (x := "behind_output") (st := CD.s_behind_output) (ps := ["dither", "counts", "output"]) KX G ?a ?l ?c ?k CD.hb_behind_output; (case a => k_is); (case l => k_is); (case c => k_is); (case k => k_is)
    have D_most_rows := by refine' CD.dd_mk (x := "most_rows") (st := CD.s_most_rows) (ps := ["dither", "number"]) KX G ?a ?l ?c ?k CD.hb_most_rows; (case a => k_is); (case l => k_is); (case c => k_is); (case k => k_is)
    have D__law_source := by refine' CD.dd_mk (x := "_law_source") (st := CD.s__law_source) (ps := ["_law_script", "_law_index"]) KX G ?a ?l ?c ?k CD.hb__law_source; (case a => k_is); (case l => k_is); (case c => k_is); (case k => k_is)
    have D__law_draw := by refine' CD.dd_mk (x := "_law_draw") (st := CD.s__law_draw) (ps := ["_law_source_here", "_law_size"]) KX G ?a ?l ?c ?k CD.hb__law_draw; (case a => k_is); (case l => k_is); (case c => k_is); (case k => k_is)
    have D__law_choice := by refine' CD.dd_mk (x := "_law_choice") (st := CD.s__law_choice) (ps := ["_law_source_here", "_law_items"]) KX G ?a ?l ?c ?k CD.hb__law_choice; (case a => k_is); (case l => k_is); (case c => k_is); (case k => k_is)
    have D__law_dither := by refine' CD.dd_mk (x := "_law_dither") (st := CD.s__law_dither) (ps := ["_law_source_here", "_law_most"]) KX G ?a ?l ?c ?k CD.hb__law_dither; (case a => k_is); (case l => k_is); (case c => k_is); (case k => k_is)
    have D__law_some := by refine' CD.dd_mk (x := "_law_some") (st := CD.s__law_some) (ps := ["_law_source_here", "_law_dither_here"]) KX G ?a ?l ?c ?k CD.hb__law_some; (case a => k_is); (case l => k_is); (case c => k_is); (case k => k_is)
    have D__law_rows_of := by refine' CD.dd_mk (x := "_law_rows_of") (st := CD.s__law_rows_of) (ps := ["_law_some_here", "_law_number"]) KX G ?a ?l ?c ?k CD.hb__law_rows_of; (case a => k_is); (case l => k_is); (case c => k_is); (case k => k_is)
    obtain ⟨C, T, D_Counter_init, D_Counter_next_of, D_Counter_many⟩ : CD.CtrAll (Params := _) mg := by refine' CD.ctr_mk KX G ?a ?pg ?hd ?po ?sa ?mk ?kc ?nd ?ns ?nn ?nk ?a0 ?i0 ?l0 ?c0 ?k0 ?a1 ?i1 ?l1 ?c1 ?k1 ?a2 ?i2 ?l2 ?c2 ?k2; (case a => k_is); (case pg => k_is); (case hd => k_is); (case po => k_is); (case sa => k_is); (case mk => k_is); (case kc => k_is); (case nd => k_is); (case ns => k_is); (case nn => k_is); (case nk => k_is); (case a0 => k_is); (case i0 => k_is); (case l0 => k_is); (case c0 => k_is); (case k0 => k_is); (case a1 => k_is); (case i1 => k_is); (case l1 => k_is); (case c1 => k_is); (case k1 => k_is); (case a2 => k_is); (case i2 => k_is); (case l2 => k_is); (case c2 => k_is); (case k2 => k_is)
    have G_MOST_LEVELS : CD.GInt mg "MOST_LEVELS" 6 := by refine' CD.gint_mk KX G ?a; (case a => k_is)
    have G_MOST_TOP : CD.GInt mg "MOST_TOP" 8 := by refine' CD.gint_mk KX G ?a; (case a => k_is)
    have G_MOST_DIVISOR : CD.GInt mg "MOST_DIVISOR" 8 := by refine' CD.gint_mk KX G ?a; (case a => k_is)
    have G_MOST_ROW : CD.GInt mg "MOST_ROW" 40 := by refine' CD.gint_mk KX G ?a; (case a => k_is)
    have G_START := by refine' CD.gtup_mk (x := "START") KX G ?a ?l; (case a => k_is); (case l => k_is)
    have G_MOST_COUNTED : CD.GInt mg "MOST_COUNTED" 20 := by refine' CD.gint_mk KX G ?a; (case a => k_is)
    have G_MOST_TRIED : CD.GInt mg "MOST_TRIED" 5 := by refine' CD.gint_mk KX G ?a; (case a => k_is)
    have B : CD.Bi mg := by refine' ⟨?_, ?_, ?_, ?_, ?_, ?_, ?_, ?_, ?_, ?_, ?_, ?_, ?_, ?_, ?_, ?_, ?_⟩ <;> exact PySem.W.mg_none_of KX G (by k_is)
    refine' CD.law_mk (st := CD.s_law) KX G hmg ?a ?l ?c ?k CD.hb_law fun fd base F => CD.all_law D_is_between D_are_levels D_are_shares D_is_dither D_need_dither D_is_shade D_need_row D_need_some D_are_outputs D_need_outputs D_exact D_nearest D_part D_step D_walk D_result D_shades_of D_stages_of D_count_of D_is_possible D_count_rows D_next_lots T D_Counter_init D_Counter_next_of D_Counter_many D_need_number D_count_results D_result_at D_place_of D_behind_output D_most_rows D__law_source D__law_draw D__law_choice D__law_dither D__law_some D__law_rows_of F B G_MOST_LEVELS G_MOST_TOP G_MOST_DIVISOR G_MOST_ROW G_START G_MOST_COUNTED G_MOST_TRIED; (case a => k_is); (case l => k_is); (case c => k_is); (case k => k_is)
