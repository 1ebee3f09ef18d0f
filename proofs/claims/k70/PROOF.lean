import PyProof.Rows.All
import Wide.All
import OpenK.AllK
import Wide.FinOn
import HandS.ForMost
import KE.SortUse
import KE.DatumMoreOrd
import KE.DataFind
import KE.DataAny
import KE.DataIsa
import KE.DataEq
import HandS.Defaults
import HandS.Exc
import HandS.Wide
import HandS.TupLe
import HandS.IsInst
import HandS.Head0
import HandS.Head1
import HandS.Head2
import HandS.HeadEnd
import HandS.HeadHook1
import HandS.HeadHook2
import HandS.Walk
import HandS.Zip
import HandS.TupLen
import HandS.Style
import HandS.WideBits
import HandS.More
import HandS.DictTup
import HandS.DictComp
import HandS.SortKw
import KE.DataMinMax
import HandS.TupSets
import PyProof.ReprRoads
import HandS.Ends
import PySem.Challenge.RW_schoolweek_k70_whole_calls_and_safety
set_option Elab.async false
set_option linter.all false
set_option maxRecDepth 100000
set_option maxHeartbeats 0
section
open PySem L2
theorem SW0.x : 1 + 1 = 2 := rfl
end
section
/-! SWa: data trees over the abstract heap: what stands frozen, what is owned; the roots. -/
namespace SW
open PySem PySem.Spec PyProof.Rows L2

/-- a tree that is partly frozen (fz), partly owned by who holds it -/
inductive T where
  | fz (d : PyData) | lst (ts : List T) | tup (ts : List T) | dct (kvs : List (PyData × T)) | gone
  /-- a known object that nobody changes (a loop walks it) -/
  | pin (u : HO)
  /-- the shell of a list or dict that is ours, its items apart -/
  | box (u : HO)
  /-- a known object that a loop walks: locked -/
  | lck (o : Obj) (u : HO)
  /-- a list of numbers from outside: nobody changes it -/
  | scr (ns : List Int)
  /-- an old heap that is kept -/
  | world (G0 H0 : Hp) (cs : List Addr)
  deriving Inhabited

mutual
def T.toD : T → Option PyData
  | .fz d => some d
  | .lst ts => (toDs ts).map .list
  | .tup ts => (toDs ts).map .tuple
  | .dct kvs => (toKs kvs).map .dict
  | .gone => none
  | .pin _ => none
  | .box _ => none
  | .lck _ _ => none
  | .scr _ => none
  | .world _ _ _ => none
def toDs : List T → Option (List PyData)
  | [] => some []
  | t :: ts => match t.toD, toDs ts with
    | some d, some ds => some (d :: ds)
    | _, _ => none
def toKs : List (PyData × T) → Option (List (PyData × PyData))
  | [] => some []
  | (k, t) :: ts => match t.toD, toKs ts with
    | some d, some ds => some ((k, d) :: ds)
    | _, _ => none
end

def kD : Key → PyData
  | .inl i => .int i
  | .inr x => .str x
def tD (ks : List Key) : PyData := .tuple (ks.map kD)

def plainO : HO → Bool
  | .frz _ _ => false
  | _ => true
def dctO : HO → Bool
  | .dK _ => true
  | .dT _ => true
  | _ => false
/-- plain, and what is no dict stands as it is (dicts may be locked) -/
def PlT (H : Hp) (a : Addr) (u : HO) : Prop := plainO u = true ∧ (dctO u = false → H a = some u)
/-- the frozen part G lies in H (readable; perhaps locked) -/
def Sub (G H : Hp) : Prop := ∀ a u, G a = some u → Rd H a u ∧ PlT H a u
def Ext (G G' : Hp) : Prop := ∀ a u, G a = some u → G' a = some u
theorem Ext.refl (G : Hp) : Ext G G := fun _ _ h => h
theorem Ext.trans {G G1 G2 : Hp} (a : Ext G G1) (b : Ext G1 G2) : Ext G G2 := fun c o h => b c o (a c o h)

mutual
/-- v is the frozen datum d -/
inductive Rp (G : Hp) : V → PyData → Prop
  | non : Rp G .non .none
  | bl (b : Bool) : Rp G (.bl b) (.bool b)
  | int (i : Int) : Rp G (.int i) (.int i)
  | str (x : Str) : Rp G (.str x) (.str x)
  | lst {a : Addr} {ps : List (V × PyData)} : G a = some (.lst (ps.map (·.1))) → RpP G ps → Rp G (.ref a) (.list (ps.map (·.2)))
  | tup {a : Addr} {ps : List (V × PyData)} : G a = some (.tup (ps.map (·.1))) → RpP G ps → Rp G (.ref a) (.tuple (ps.map (·.2)))
  | dK {a : Addr} {qs : List (Key × V × PyData)} : G a = some (.dK (qs.map fun q => (q.1, q.2.1))) → RpP G (qs.map (·.2)) → Rp G (.ref a) (.dict (qs.map fun q => (kD q.1, q.2.2)))
  | dT {a : Addr} {qs : List (List Key × V × PyData)} : G a = some (.dT (qs.map fun q => (q.1, q.2.1))) → RpP G (qs.map (·.2)) → Rp G (.ref a) (.dict (qs.map fun q => (tD q.1, q.2.2)))
inductive RpP (G : Hp) : List (V × PyData) → Prop
  | nil : RpP G []
  | cons {v : V} {d : PyData} {ps : List (V × PyData)} : Rp G v d → RpP G ps → RpP G ((v, d) :: ps)
end

/-- what an owned address holds -/
def mutO : HO → Bool
  | .lst _ => true
  | .dK _ => true
  | .dT _ => true
  | _ => false
mutual
/-- v is t; the addresses that it owns -/
inductive RT (G H : Hp) : V → T → List Addr → Prop
  | fz {v : V} {d : PyData} : Rp G v d → RT G H v (.fz d) []
  | gone {v : V} : RT G H v .gone []
  | pin {a : Addr} {u : HO} : G a = some u → RT G H (.ref a) (.pin u) []
  | pinT {a : Addr} {vs : List V} : H a = some (.tup vs) → RT G H (.ref a) (.pin (.tup vs)) []
  | lck {a : Addr} {o : Obj} {u : HO} : G a = some u → H a = some (.frz o u) → RT G H (.ref a) (.lck o u) []
  | scr {a : Addr} {o : Obj} {ns : List Int} : H a = some (.frz o (.lst (ns.map V.int))) → RT G H (.ref a) (.scr ns) []
  | box {a : Addr} {u : HO} : H a = some u → mutO u = true → RT G H (.ref a) (.box u) [a]
  | world {v : V} {G0 H0 : Hp} {cs : List Addr} : Ext G0 G → (∀ a ∈ cs, H a = H0 a) → (∀ a ∈ cs, ∃ u, H0 a = some u ∧ mutO u = true) → (∀ a vs, H0 a = some (.tup vs) → H a = some (.tup vs)) → (∀ a o u, H0 a = some (.frz o u) → H a = some (.frz o u)) → RT G H v (.world G0 H0 cs) cs
  | lst {a : Addr} {ps : List (V × T)} {as : List Addr} : H a = some (.lst (ps.map (·.1))) → RP G H ps as → RT G H (.ref a) (.lst (ps.map (·.2))) (a :: as)
  | tup {a : Addr} {ps : List (V × T)} {as : List Addr} : H a = some (.tup (ps.map (·.1))) → RP G H ps as → RT G H (.ref a) (.tup (ps.map (·.2))) as
  | dK {a : Addr} {qs : List (Key × V × T)} {as : List Addr} : H a = some (.dK (qs.map fun q => (q.1, q.2.1))) → RP G H (qs.map (·.2)) as → RT G H (.ref a) (.dct (qs.map fun q => (kD q.1, q.2.2))) (a :: as)
  | dT {a : Addr} {qs : List (List Key × V × T)} {as : List Addr} : H a = some (.dT (qs.map fun q => (q.1, q.2.1))) → RP G H (qs.map (·.2)) as → RT G H (.ref a) (.dct (qs.map fun q => (tD q.1, q.2.2))) (a :: as)
inductive RP (G H : Hp) : List (V × T) → List Addr → Prop
  | nil : RP G H [] []
  | cons {v : V} {t : T} {as bs : List Addr} {ps : List (V × T)} : RT G H v t as → RP G H ps bs → RP G H ((v, t) :: ps) (as ++ bs)
end

mutual
theorem Rp.ext {G G' : Hp} (x : Ext G G') : ∀ {v : V} {d : PyData}, Rp G v d → Rp G' v d
  | _, _, .non => .non
  | _, _, .bl b => .bl b
  | _, _, .int i => .int i
  | _, _, .str s => .str s
  | _, _, .lst e h => .lst (x _ _ e) (RpP.ext x h)
  | _, _, .tup e h => .tup (x _ _ e) (RpP.ext x h)
  | _, _, .dK e h => .dK (x _ _ e) (RpP.ext x h)
  | _, _, .dT e h => .dT (x _ _ e) (RpP.ext x h)
theorem RpP.ext {G G' : Hp} (x : Ext G G') : ∀ {ps : List (V × PyData)}, RpP G ps → RpP G' ps
  | _, .nil => .nil
  | _, .cons h r => .cons (Rp.ext x h) (RpP.ext x r)
end

mutual
/-- the frame rule -/
theorem RT.frame {G G' H H' : Hp} (x : Ext G G') (ht : ∀ a vs, H a = some (.tup vs) → H' a = some (.tup vs)) (hf : ∀ a o u, H a = some (.frz o u) → H' a = some (.frz o u)) : ∀ {v : V} {t : T} {as : List Addr}, RT G H v t as → (∀ a ∈ as, H' a = H a) → RT G' H' v t as
  | _, _, _, .fz h, _ => .fz (h.ext x)
  | _, _, _, .gone, _ => .gone
  | _, _, _, .pin h, _ => .pin (x _ _ h)
  | _, _, _, .pinT h, _ => .pinT (ht _ _ h)
  | _, _, _, .lck h e, _ => .lck (x _ _ h) (hf _ _ _ e)
  | _, _, _, .scr e, _ => .scr (hf _ _ _ e)
  | _, _, _, .box h m, k => .box ((k _ List.mem_cons_self).trans h) m
  | _, _, _, .world h1 h2 h3 h4 h5, k => .world (Ext.trans h1 x) (fun a m => (k a m).trans (h2 a m)) h3 (fun a vs e => ht _ _ (h4 a vs e)) (fun a o u e => hf _ _ _ (h5 a o u e))
  | _, _, _, .lst e h, k => .lst ((k _ List.mem_cons_self).trans e) (RP.frame x ht hf h fun a m => k a (List.mem_cons_of_mem _ m))
  | _, _, _, .tup e h, k => .tup (ht _ _ e) (RP.frame x ht hf h k)
  | _, _, _, .dK e h, k => .dK ((k _ List.mem_cons_self).trans e) (RP.frame x ht hf h fun a m => k a (List.mem_cons_of_mem _ m))
  | _, _, _, .dT e h, k => .dT ((k _ List.mem_cons_self).trans e) (RP.frame x ht hf h fun a m => k a (List.mem_cons_of_mem _ m))
theorem RP.frame {G G' H H' : Hp} (x : Ext G G') (ht : ∀ a vs, H a = some (.tup vs) → H' a = some (.tup vs)) (hf : ∀ a o u, H a = some (.frz o u) → H' a = some (.frz o u)) : ∀ {ps : List (V × T)} {as : List Addr}, RP G H ps as → (∀ a ∈ as, H' a = H a) → RP G' H' ps as
  | _, _, .nil, _ => .nil
  | _, _, .cons h r, k => .cons (RT.frame x ht hf h fun a m => k a (List.mem_append_left _ m)) (RP.frame x ht hf r fun a m => k a (List.mem_append_right _ m))
end

theorem RP.append {G H : Hp} : ∀ {ps qs : List (V × T)} {as bs : List Addr}, RP G H ps as → RP G H qs bs → RP G H (ps ++ qs) (as ++ bs)
  | _, _, _, _, .nil, k => k
  | _, _, _, _, .cons (as := as) h r, k => by rw [List.append_assoc]; exact .cons h (RP.append r k)
theorem RP.split {G H : Hp} : ∀ {ps qs : List (V × T)} {cs : List Addr}, RP G H (ps ++ qs) cs → ∃ as bs, cs = as ++ bs ∧ RP G H ps as ∧ RP G H qs bs
  | [], _, cs, h => ⟨[], cs, rfl, .nil, h⟩
  | (v, t) :: ps, qs, _, .cons (as := a1) h r => by
    obtain ⟨as, bs, e, r1, r2⟩ := RP.split (ps := ps) r
    exact ⟨a1 ++ as, bs, by rw [e, List.append_assoc], .cons h r1, r2⟩
theorem RP.perm {G H : Hp} {ps qs : List (V × T)} (p : ps.Perm qs) : ∀ {as : List Addr}, RP G H ps as → ∃ bs, as.Perm bs ∧ RP G H qs bs := by
  induction p with
  | nil => intro as h; exact ⟨as, .refl _, h⟩
  | cons x _ ih =>
    intro as h
    cases h with
    | cons h r =>
      obtain ⟨bs, e, k⟩ := ih r
      exact ⟨_, e.append_left _, .cons h k⟩
  | swap x y l =>
    intro as h
    cases h with
    | cons h r =>
      cases r with
      | cons h2 r =>
        refine ⟨_, ?_, .cons h2 (.cons h r)⟩
        rw [← List.append_assoc, ← List.append_assoc]
        exact List.perm_append_comm.append_right _
  | trans _ _ ih1 ih2 =>
    intro as h
    obtain ⟨bs, e1, k1⟩ := ih1 h
    obtain ⟨cs, e2, k2⟩ := ih2 k1
    exact ⟨cs, e1.trans e2, k2⟩

/-! ### the roots -/
abbrev Rt := V × T
def RS (H : Hp) (rs : List Rt) : Prop := ∃ G as, Sub G H ∧ RP G H rs as ∧ as.Nodup ∧ ∀ a ∈ as, G a = none

theorem RS.perm {H : Hp} {rs qs : List Rt} (p : rs.Perm qs) (h : RS H rs) : RS H qs := by
  obtain ⟨G, as, s, r, nd, no⟩ := h
  obtain ⟨bs, e, k⟩ := r.perm p
  exact ⟨G, bs, s, k, e.nodup_iff.mp nd, fun a m => no a (e.mem_iff.mpr m)⟩
theorem RS.dropR {H : Hp} {rs qs : List Rt} (h : RS H (rs ++ qs)) : RS H rs := by
  obtain ⟨G, cs, s, r, nd, no⟩ := h
  obtain ⟨as, bs, rfl, r1, _⟩ := r.split
  exact ⟨G, as, s, r1, (List.nodup_append.mp nd).1, fun a m => no a (List.mem_append_left _ m)⟩
theorem RS.dropL {H : Hp} {rs qs : List Rt} (h : RS H (rs ++ qs)) : RS H qs := by
  obtain ⟨G, cs, s, r, nd, no⟩ := h
  obtain ⟨as, bs, rfl, _, r2⟩ := r.split
  exact ⟨G, bs, s, r2, (List.nodup_append.mp nd).2.1, fun a m => no a (List.mem_append_right _ m)⟩
theorem RS.tail {H : Hp} {r : Rt} {qs : List Rt} (h : RS H (r :: qs)) : RS H qs := RS.dropL (rs := [r]) h
theorem RS.nil (H : Hp) : RS H [] := ⟨fun _ => none, [], fun _ _ e => (nomatch e), .nil, .nil, fun _ m => (nomatch m)⟩
/-- a root without addresses -/
theorem RS.add {H : Hp} {v : V} {t : T} {rs : List Rt} (h : RS H rs) (k : ∀ G, RT G H v t []) : RS H ((v, t) :: rs) := by
  obtain ⟨G, as, s, r, nd, no⟩ := h
  exact ⟨G, as, s, .cons (as := []) (k G) r, nd, no⟩
theorem RS.gone {H : Hp} {v : V} {rs : List Rt} (h : RS H rs) : RS H ((v, .gone) :: rs) := h.add fun _ => .gone
theorem RS.toGone {H : Hp} {v : V} {t : T} {rs : List Rt} (h : RS H ((v, t) :: rs)) : RS H ((v, .gone) :: rs) := h.tail.gone
/-- a frozen root twice -/
theorem RS.dup {H : Hp} {v : V} {d : PyData} {rs : List Rt} (h : RS H ((v, .fz d) :: rs)) : RS H ((v, .fz d) :: (v, .fz d) :: rs) := by
  obtain ⟨G, as, s, r, nd, no⟩ := h
  cases r with
  | cons h r =>
    cases h with
    | fz h => exact ⟨G, _, s, .cons (.fz h) (.cons (.fz h) r), nd, no⟩
end SW
end
section
/-! SWb: roots: freezing, opening, closing, new objects, views. -/
namespace SW
open PySem PySem.Spec PyProof.Rows L2

def Own (H : Hp) (a : Addr) : Prop := ∃ u, H a = some u ∧ mutO u = true
theorem Own.notTup {H : Hp} {a : Addr} (h : Own H a) {vs : List V} : H a ≠ some (.tup vs) := fun e => by
  obtain ⟨u, e1, m⟩ := h
  rw [e] at e1
  cases e1
  cases m
theorem Own.notFrz {H : Hp} {a : Addr} (h : Own H a) {o : Obj} {w : HO} : H a ≠ some (.frz o w) := fun e => by
  obtain ⟨u, e1, m⟩ := h
  rw [e] at e1
  cases e1
  cases m
mutual
theorem RT.own {G H : Hp} : ∀ {v : V} {t : T} {as : List Addr}, RT G H v t as → ∀ a ∈ as, Own H a
  | _, _, _, .fz _, _, m => nomatch m
  | _, _, _, .gone, _, m => nomatch m
  | _, _, _, .pin _, _, m => nomatch m
  | _, _, _, .pinT _, _, m => nomatch m
  | _, _, _, .lck _ _, _, m => nomatch m
  | _, _, _, .scr _, _, m => nomatch m
  | _, _, _, .world _ h2 h3 _ _, a, m => by
    obtain ⟨u, e, mu⟩ := h3 a m
    exact ⟨u, (h2 a m).trans e, mu⟩
  | _, _, _, .box e mu, a, m => by
    rcases List.mem_cons.mp m with rfl | m
    · exact ⟨_, e, mu⟩
    · cases m
  | _, _, _, .lst e h, a, m => by
    rcases List.mem_cons.mp m with rfl | m
    · exact ⟨_, e, rfl⟩
    · exact RP.own h a m
  | _, _, _, .tup e h, a, m => RP.own h a m
  | _, _, _, .dK e h, a, m => by
    rcases List.mem_cons.mp m with rfl | m
    · exact ⟨_, e, rfl⟩
    · exact RP.own h a m
  | _, _, _, .dT e h, a, m => by
    rcases List.mem_cons.mp m with rfl | m
    · exact ⟨_, e, rfl⟩
    · exact RP.own h a m
theorem RP.own {G H : Hp} : ∀ {ps : List (V × T)} {as : List Addr}, RP G H ps as → ∀ a ∈ as, Own H a
  | _, _, .nil, _, m => nomatch m
  | _, _, .cons h r, a, m => by
    rcases List.mem_append.mp m with m | m
    · exact RT.own h a m
    · exact RP.own r a m
end
/-- RS with some addresses reserved -/
def RSx (H : Hp) (xs : List Addr) (rs : List Rt) : Prop := ∃ G as, Sub G H ∧ RP G H rs as ∧ (xs ++ as).Nodup ∧ (∀ a ∈ xs ++ as, G a = none) ∧ ∀ x ∈ xs, Own H x
theorem RS.x {H : Hp} {rs : List Rt} (h : RS H rs) : RSx H [] rs := by
  obtain ⟨G, as, s, r, nd, no⟩ := h
  exact ⟨G, as, s, r, nd, no, fun _ m => nomatch m⟩
theorem RSx.s {H : Hp} {rs : List Rt} (h : RSx H [] rs) : RS H rs := by
  obtain ⟨G, as, s, r, nd, no, _⟩ := h
  exact ⟨G, as, s, r, nd, no⟩
theorem RSx.perm {H : Hp} {xs : List Addr} {rs qs : List Rt} (p : rs.Perm qs) (h : RSx H xs rs) : RSx H xs qs := by
  obtain ⟨G, as, s, r, nd, no, ow⟩ := h
  obtain ⟨bs, e, k⟩ := r.perm p
  exact ⟨G, bs, s, k, (e.append_left xs).nodup_iff.mp nd, fun a m => no a ((e.append_left xs).mem_iff.mpr m), ow⟩
theorem RSx.forget {H : Hp} {xs : List Addr} {rs : List Rt} (h : RSx H xs rs) : RS H rs := by
  obtain ⟨G, as, s, r, nd, no, _⟩ := h
  exact ⟨G, as, s, r, (List.nodup_append.mp nd).2.1, fun a m => no a (List.mem_append_right _ m)⟩
theorem RSx.dropL {H : Hp} {xs : List Addr} {rs qs : List Rt} (h : RSx H xs (rs ++ qs)) : RSx H xs qs := by
  obtain ⟨G, cs, s, r, nd, no, ow⟩ := h
  obtain ⟨as, bs, rfl, _, r2⟩ := r.split
  have sub : (xs ++ bs).Sublist (xs ++ (as ++ bs)) := (List.sublist_append_right _ _).append_left _
  exact ⟨G, bs, s, r2, nd.sublist sub, fun a m => no a (sub.subset m), ow⟩

/-! ### freezing -/
def fzG (G H : Hp) (as : List Addr) : Hp := fun b => match G b with
  | some u => some u
  | none => if b ∈ as then H b else match H b with
    | some (.tup vs) => some (.tup vs)
    | _ => none
theorem fzG_ext {G H : Hp} {as : List Addr} : Ext G (fzG G H as) := fun a u e => by
  unfold fzG
  rw [e]
theorem fzG_own {G H : Hp} {as : List Addr} {a : Addr} (h : G a = none) (m : a ∈ as) : fzG G H as a = H a := by
  unfold fzG
  rw [h]
  dsimp only
  rw [if_pos m]
theorem fzG_tup {G H : Hp} {as : List Addr} {a : Addr} {vs : List V} (s : Sub G H) (h : H a = some (.tup vs)) : fzG G H as a = some (.tup vs) := by
  unfold fzG
  cases e : G a with
  | some u =>
    dsimp only
    obtain ⟨r, p⟩ := s a u e
    rcases r with r | ⟨o, r⟩
    · rw [h] at r
      exact r.symm
    · rw [h] at r
      cases r
  | none =>
    dsimp only
    rw [h]
    split <;> rfl
theorem fzG_out {G H : Hp} {as : List Addr} {a : Addr} (h : G a = none) (m : a ∉ as) (o : Own H a) : fzG G H as a = none := by
  unfold fzG
  rw [h]
  dsimp only
  rw [if_neg m]
  obtain ⟨u, e, mu⟩ := o
  rw [e]
  cases u <;> first | rfl | cases mu
theorem fzG_sub {G H : Hp} {as : List Addr} (s : Sub G H) (ow : ∀ a ∈ as, Own H a) : Sub (fzG G H as) H := fun a u e => by
  unfold fzG at e
  cases g : G a with
  | some w =>
    rw [g] at e
    cases e
    exact s a _ g
  | none =>
    rw [g] at e
    dsimp only at e
    split at e
    · rename_i m
      obtain ⟨w, e1, mu⟩ := ow a m
      rw [e1] at e
      cases e
      refine ⟨.inl e1, ?_, fun _ => e1⟩
      cases u <;> first | rfl | cases mu
    · cases h : H a with
      | none =>
        rw [h] at e
        cases e
      | some w =>
        rw [h] at e
        cases w <;> first | (cases e; done) | (cases e; exact ⟨.inl h, rfl, fun _ => h⟩)

theorem toDs_cons {t : T} {ts : List T} {ds : List PyData} (h : toDs (t :: ts) = some ds) : ∃ d r, t.toD = some d ∧ toDs ts = some r ∧ ds = d :: r := by
  unfold toDs at h
  cases e : t.toD with
  | none =>
    rw [e] at h
    cases h
  | some d =>
    cases e2 : toDs ts with
    | none =>
      rw [e, e2] at h
      cases h
    | some r =>
      rw [e, e2] at h
      cases h
      exact ⟨d, r, rfl, rfl, rfl⟩
theorem toKs_cons {k : PyData} {t : T} {ts : List (PyData × T)} {ds : List (PyData × PyData)} (h : toKs ((k, t) :: ts) = some ds) : ∃ d r, t.toD = some d ∧ toKs ts = some r ∧ ds = (k, d) :: r := by
  unfold toKs at h
  cases e : t.toD with
  | none =>
    rw [e] at h
    cases h
  | some d =>
    cases e2 : toKs ts with
    | none =>
      rw [e, e2] at h
      cases h
    | some r =>
      rw [e, e2] at h
      cases h
      exact ⟨d, r, rfl, rfl, rfl⟩

theorem toKs_split {κ : Type} {f : κ → PyData} : ∀ {qs : List (κ × V × T)} {ds : List (PyData × PyData)}, toKs (qs.map fun q => (f q.1, q.2.2)) = some ds →
    toDs ((qs.map (·.2)).map (·.2)) = some (ds.map (·.2)) ∧ ds.map (·.1) = qs.map fun q => f q.1
  | [], ds, e => by
    rw [List.map_nil] at e
    unfold toKs at e
    cases e
    exact ⟨by simp [toDs], rfl⟩
  | (k0, v, t) :: qs, _, e => by
    obtain ⟨d, ds, e1, e2, rfl⟩ := toKs_cons e
    obtain ⟨h1, h2⟩ := toKs_split e2
    refine ⟨?_, ?_⟩
    · simp only [List.map_cons]
      unfold toDs
      rw [e1, h1]
    · simp only [List.map_cons, h2]
theorem zipK {κ : Type} {f : κ → PyData} : ∀ {qs : List (κ × V × T)} {ds : List (PyData × PyData)} {zs : List (V × PyData)}, ds.map (·.1) = qs.map (fun q => f q.1) → (qs.map (·.2)).map (·.1) = zs.map (·.1) → zs.map (·.2) = ds.map (·.2) →
    ∃ ws : List (κ × V × PyData), qs.map (fun q => (q.1, q.2.1)) = ws.map (fun q => (q.1, q.2.1)) ∧ ws.map (fun q => (f q.1, q.2.2)) = ds ∧ ws.map (·.2) = zs
  | [], [], [], _, _, _ => ⟨[], rfl, rfl, rfl⟩
  | [], [], _ :: _, _, h, _ => by cases h
  | [], _ :: _, _, h, _, _ => by cases h
  | _ :: _, [], _, h, _, _ => by cases h
  | _ :: _, _ :: _, [], _, h, _ => by cases h
  | (k, v, t) :: qs, (a, b) :: ds, (v', d) :: zs, h1, h2, h3 => by
    simp only [List.map_cons, List.cons.injEq] at h1 h2 h3
    obtain ⟨rfl, h1⟩ := h1
    obtain ⟨rfl, h2⟩ := h2
    obtain ⟨rfl, h3⟩ := h3
    obtain ⟨ws, e1, e2, e3⟩ := zipK h1 h2 h3
    exact ⟨(k, v, d) :: ws, by simp only [List.map_cons, e1], by simp only [List.map_cons, e2], by simp only [List.map_cons, e3]⟩
mutual
theorem RT.froze {G H G' : Hp} (x : Ext G G') (ht : ∀ a vs, H a = some (.tup vs) → G' a = some (.tup vs)) : ∀ {v : V} {t : T} {as : List Addr} {d : PyData}, RT G H v t as → (∀ a ∈ as, G' a = H a) → t.toD = some d → Rp G' v d
  | _, _, _, _, .fz h, _, e => by
    unfold T.toD at e
    cases e
    exact h.ext x
  | _, _, _, _, .gone, _, e => by
    unfold T.toD at e
    cases e
  | _, _, _, _, .pin _, _, e => by
    unfold T.toD at e
    cases e
  | _, _, _, _, .pinT _, _, e => by
    unfold T.toD at e
    cases e
  | _, _, _, _, .box _ _, _, e => by
    unfold T.toD at e
    cases e
  | _, _, _, _, .lck _ _, _, e => by
    unfold T.toD at e
    cases e
  | _, _, _, _, .scr _, _, e => by
    unfold T.toD at e
    cases e
  | _, _, _, _, .world _ _ _ _ _, _, e => by
    unfold T.toD at e
    cases e
  | _, _, _, _, .lst (ps := ps) ea h, k, e => by
    unfold T.toD at e
    cases e1 : toDs (ps.map (·.2)) with
    | none =>
      rw [e1] at e
      cases e
    | some ds =>
      rw [e1] at e
      cases e
      obtain ⟨qs, q1, q2, q3⟩ := RP.froze x ht h (fun a m => k a (List.mem_cons_of_mem _ m)) e1
      rw [← q2]
      exact .lst (by rw [k _ List.mem_cons_self, ea, q1]) q3
  | _, _, _, _, .tup (ps := ps) ea h, k, e => by
    unfold T.toD at e
    cases e1 : toDs (ps.map (·.2)) with
    | none =>
      rw [e1] at e
      cases e
    | some ds =>
      rw [e1] at e
      cases e
      obtain ⟨qs, q1, q2, q3⟩ := RP.froze x ht h k e1
      rw [← q2]
      exact .tup (by rw [ht _ _ ea, q1]) q3
  | _, _, _, _, .dK (qs := qs) ea h, k, e => by
    unfold T.toD at e
    cases e1 : toKs (qs.map fun q => (kD q.1, q.2.2)) with
    | none =>
      rw [e1] at e
      cases e
    | some ds =>
      rw [e1] at e
      cases e
      obtain ⟨s1, s2⟩ := toKs_split e1
      obtain ⟨zs, q1, q2, q3⟩ := RP.froze x ht h (fun a m => k a (List.mem_cons_of_mem _ m)) s1
      obtain ⟨ws, w1, w2, w3⟩ := zipK s2 q1 q2
      rw [← w2]
      exact .dK (by rw [k _ List.mem_cons_self, ea, w1]) (by rw [w3]; exact q3)
  | _, _, _, _, .dT (qs := qs) ea h, k, e => by
    unfold T.toD at e
    cases e1 : toKs (qs.map fun q => (tD q.1, q.2.2)) with
    | none =>
      rw [e1] at e
      cases e
    | some ds =>
      rw [e1] at e
      cases e
      obtain ⟨s1, s2⟩ := toKs_split e1
      obtain ⟨zs, q1, q2, q3⟩ := RP.froze x ht h (fun a m => k a (List.mem_cons_of_mem _ m)) s1
      obtain ⟨ws, w1, w2, w3⟩ := zipK s2 q1 q2
      rw [← w2]
      exact .dT (by rw [k _ List.mem_cons_self, ea, w1]) (by rw [w3]; exact q3)
theorem RP.froze {G H G' : Hp} (x : Ext G G') (ht : ∀ a vs, H a = some (.tup vs) → G' a = some (.tup vs)) : ∀ {ps : List (V × T)} {as : List Addr} {ds : List PyData}, RP G H ps as → (∀ a ∈ as, G' a = H a) → toDs (ps.map (·.2)) = some ds →
    ∃ qs : List (V × PyData), ps.map (·.1) = qs.map (·.1) ∧ qs.map (·.2) = ds ∧ RpP G' qs
  | _, _, _, .nil, _, e => by
    rw [List.map_nil] at e
    unfold toDs at e
    cases e
    exact ⟨[], rfl, rfl, .nil⟩
  | _, _, _, .cons h r, k, e => by
    obtain ⟨d, ds, e1, e2, rfl⟩ := toDs_cons e
    obtain ⟨qs, q1, q2, q3⟩ := RP.froze x ht r (fun a m => k a (List.mem_append_right _ m)) e2
    exact ⟨(_, d) :: qs, by rw [List.map_cons, List.map_cons, q1], by rw [List.map_cons, q2], .cons (RT.froze x ht h (fun a m => k a (List.mem_append_left _ m)) e1) q3⟩
end
theorem RSx.freeze {H : Hp} {xs : List Addr} {v : V} {t : T} {d : PyData} {rs : List Rt} (h : RSx H xs ((v, t) :: rs)) (e : t.toD = some d) : RSx H xs ((v, .fz d) :: rs) := by
  obtain ⟨G, cs, s, r, nd, no, ow⟩ := h
  cases r with
  | cons h r =>
    rename_i as bs
    have oa := h.own
    have ob := r.own
    have k := h.froze (G' := fzG G H as) fzG_ext (fun a vs e => fzG_tup s e) (fun a m => fzG_own (no a (List.mem_append_right _ (List.mem_append_left _ m))) m) e
    have nd2 := List.nodup_append.mp nd
    have nd3 := List.nodup_append.mp nd2.2.1
    refine ⟨fzG G H as, bs, fzG_sub s oa, .cons (as := []) (.fz k) (r.frame fzG_ext (fun _ _ e => e) (fun _ _ _ e => e) fun _ _ => rfl), ?_, fun a m => ?_, ow⟩
    · exact nd.sublist ((List.sublist_append_right _ _).append_left _)
    · rcases List.mem_append.mp m with m | m
      · refine fzG_out (no a (List.mem_append_left _ m)) (fun m2 => ?_) (ow a m)
        exact nd2.2.2 a m a (List.mem_append_left _ m2) rfl
      · refine fzG_out (no a (List.mem_append_right _ (List.mem_append_right _ m))) (fun m2 => ?_) (ob a m)
        exact nd3.2.2 a m2 a m rfl
theorem RS.freeze {H : Hp} {v : V} {t : T} {d : PyData} {rs : List Rt} (h : RS H ((v, t) :: rs)) (e : t.toD = some d) : RS H ((v, .fz d) :: rs) := (h.x.freeze e).s

/-! ### views -/
/-- v can be read as the datum d -/
def View (H : Hp) (v : V) (d : PyData) : Prop := ∃ G, Sub G H ∧ Rp G v d
theorem RS.view {H : Hp} {v : V} {t : T} {d : PyData} {rs : List Rt} (h : RS H ((v, t) :: rs)) (e : t.toD = some d) : View H v d := by
  obtain ⟨G, as, s, r, _⟩ := h.freeze e
  cases r with
  | cons h _ =>
    cases h with
    | fz h => exact ⟨G, s, h⟩

/-! ### opening an owned list or dict, closing it again -/
theorem RSx.openL {H : Hp} {xs : List Addr} {v : V} {ts : List T} {rs : List Rt} (h : RSx H xs ((v, .lst ts) :: rs)) :
    ∃ a ps, v = .ref a ∧ ps.map (·.2) = ts ∧ H a = some (.lst (ps.map (·.1))) ∧ RSx H (a :: xs) (ps ++ rs) := by
  obtain ⟨G, cs, s, r, nd, no, ow⟩ := h
  cases r with
  | cons h r =>
    rename_i as bs
    generalize et : T.lst ts = t at h
    cases h with
    | lst e k =>
      cases et
      rename_i a ps as
      have p : (xs ++ (a :: as ++ bs)).Perm (a :: xs ++ (as ++ bs)) := List.perm_middle
      refine ⟨a, ps, rfl, rfl, e, G, as ++ bs, s, k.append r, p.nodup_iff.mp nd, fun b m => no b (p.mem_iff.mpr m), fun b m => ?_⟩
      rcases List.mem_cons.mp m with rfl | m
      · exact ⟨_, e, rfl⟩
      · exact ow b m
    | _ => cases et
theorem RSx.openT {H : Hp} {xs : List Addr} {v : V} {ts : List T} {rs : List Rt} (h : RSx H xs ((v, .tup ts) :: rs)) :
    ∃ a ps, v = .ref a ∧ ps.map (·.2) = ts ∧ H a = some (.tup (ps.map (·.1))) ∧ RSx H xs (ps ++ rs) := by
  obtain ⟨G, cs, s, r, nd, no, ow⟩ := h
  cases r with
  | cons h r =>
    generalize et : T.tup ts = t at h
    cases h with
    | tup e k =>
      cases et
      exact ⟨_, _, rfl, rfl, e, G, _, s, k.append r, nd, no, ow⟩
    | _ => cases et
theorem RSx.openD {H : Hp} {xs : List Addr} {v : V} {kts : List (PyData × T)} {rs : List Rt} (h : RSx H xs ((v, .dct kts) :: rs)) :
    ∃ a, v = .ref a ∧ ((∃ qs : List (Key × V × T), qs.map (fun q => (kD q.1, q.2.2)) = kts ∧ H a = some (.dK (qs.map fun q => (q.1, q.2.1))) ∧ RSx H (a :: xs) (qs.map (·.2) ++ rs)) ∨
      (∃ qs : List (List Key × V × T), qs.map (fun q => (tD q.1, q.2.2)) = kts ∧ H a = some (.dT (qs.map fun q => (q.1, q.2.1))) ∧ RSx H (a :: xs) (qs.map (·.2) ++ rs))) := by
  obtain ⟨G, cs, s, r, nd, no, ow⟩ := h
  cases r with
  | cons h r =>
    rename_i as bs
    generalize et : T.dct kts = t at h
    cases h with
    | dK e k =>
      cases et
      rename_i a qs as
      have p : (xs ++ (a :: as ++ bs)).Perm (a :: xs ++ (as ++ bs)) := List.perm_middle
      refine ⟨a, rfl, .inl ⟨qs, rfl, e, G, as ++ bs, s, k.append r, p.nodup_iff.mp nd, fun b m => no b (p.mem_iff.mpr m), fun b m => ?_⟩⟩
      rcases List.mem_cons.mp m with rfl | m
      · exact ⟨_, e, rfl⟩
      · exact ow b m
    | dT e k =>
      cases et
      rename_i a qs as
      have p : (xs ++ (a :: as ++ bs)).Perm (a :: xs ++ (as ++ bs)) := List.perm_middle
      refine ⟨a, rfl, .inr ⟨qs, rfl, e, G, as ++ bs, s, k.append r, p.nodup_iff.mp nd, fun b m => no b (p.mem_iff.mpr m), fun b m => ?_⟩⟩
      rcases List.mem_cons.mp m with rfl | m
      · exact ⟨_, e, rfl⟩
      · exact ow b m
    | _ => cases et
/-- the heap changes at a reserved address -/
theorem RSx.upd {H : Hp} {a : Addr} {xs : List Addr} {rs : List Rt} {o : HO} (h : RSx H (a :: xs) rs) : ∃ G as, Sub G (upd H a o) ∧ RP G (upd H a o) rs as ∧ (a :: xs ++ as).Nodup ∧ (∀ b ∈ a :: xs ++ as, G b = none) ∧ ∀ x ∈ xs, Own (upd H a o) x := by
  obtain ⟨G, as, s, r, nd, no, ow⟩ := h
  have oa := ow a List.mem_cons_self
  have na : a ∉ xs ++ as := (List.nodup_cons.mp nd).1
  refine ⟨G, as, fun b u e => ?_, r.frame (Ext.refl _) (fun b vs e => ?_) (fun b o' u e => ?_) (fun b m => ?_), nd, no, fun b m => ?_⟩
  · have hb : b ≠ a := fun z => by
      subst z
      rw [no b List.mem_cons_self] at e
      cases e
    obtain ⟨k, p, p2⟩ := s b u e
    refine ⟨?_, p, fun z => by rw [upd_ne hb]; exact p2 z⟩
    rcases k with k | ⟨o', k⟩
    · exact .inl (by rw [upd_ne hb]; exact k)
    · exact .inr ⟨o', by rw [upd_ne hb]; exact k⟩
  · rw [upd_ne (fun z => by subst z; exact oa.notTup e)]
    exact e
  · rw [upd_ne (fun z => by subst z; exact oa.notFrz e)]
    exact e
  · exact upd_ne fun z => by
      subst z
      exact na (List.mem_append_right _ m)
  · obtain ⟨u, e, mu⟩ := ow b (List.mem_cons_of_mem _ m)
    exact ⟨u, by rw [upd_ne (fun z => by subst z; exact na (List.mem_append_left _ m))]; exact e, mu⟩
theorem RSx.closeL {H : Hp} {a : Addr} {xs : List Addr} {ps rs : List Rt} (h : RSx H (a :: xs) (ps ++ rs)) : RSx (L2.upd H a (.lst (ps.map (·.1)))) xs ((.ref a, .lst (ps.map (·.2))) :: rs) := by
  obtain ⟨G, cs, s, r, nd, no, ow⟩ := h.upd (o := .lst (ps.map (·.1)))
  obtain ⟨as, bs, rfl, r1, r2⟩ := r.split
  have p : (xs ++ (a :: as ++ bs)).Perm (a :: xs ++ (as ++ bs)) := List.perm_middle
  exact ⟨G, _, s, .cons (.lst upd_same r1) r2, p.nodup_iff.mpr nd, fun b m => no b (p.mem_iff.mp m), ow⟩
theorem RSx.closeK {H : Hp} {a : Addr} {xs : List Addr} {qs : List (Key × V × T)} {rs : List Rt} (h : RSx H (a :: xs) (qs.map (·.2) ++ rs)) :
    RSx (L2.upd H a (.dK (qs.map fun q => (q.1, q.2.1)))) xs ((.ref a, .dct (qs.map fun q => (kD q.1, q.2.2))) :: rs) := by
  obtain ⟨G, cs, s, r, nd, no, ow⟩ := h.upd (o := .dK (qs.map fun q => (q.1, q.2.1)))
  obtain ⟨as, bs, rfl, r1, r2⟩ := r.split
  have p : (xs ++ (a :: as ++ bs)).Perm (a :: xs ++ (as ++ bs)) := List.perm_middle
  exact ⟨G, _, s, .cons (.dK upd_same r1) r2, p.nodup_iff.mpr nd, fun b m => no b (p.mem_iff.mp m), ow⟩
theorem RSx.closeT {H : Hp} {a : Addr} {xs : List Addr} {qs : List (List Key × V × T)} {rs : List Rt} (h : RSx H (a :: xs) (qs.map (·.2) ++ rs)) :
    RSx (L2.upd H a (.dT (qs.map fun q => (q.1, q.2.1)))) xs ((.ref a, .dct (qs.map fun q => (tD q.1, q.2.2))) :: rs) := by
  obtain ⟨G, cs, s, r, nd, no, ow⟩ := h.upd (o := .dT (qs.map fun q => (q.1, q.2.1)))
  obtain ⟨as, bs, rfl, r1, r2⟩ := r.split
  have p : (xs ++ (a :: as ++ bs)).Perm (a :: xs ++ (as ++ bs)) := List.perm_middle
  exact ⟨G, _, s, .cons (.dT upd_same r1) r2, p.nodup_iff.mpr nd, fun b m => no b (p.mem_iff.mp m), ow⟩

/-! ### new objects -/
theorem RSx.new {H : Hp} {a : Addr} {xs : List Addr} {rs : List Rt} {o : HO} (h : RSx H xs rs) (hn : H a = none) : ∃ G as, Sub G (L2.upd H a o) ∧ RP G (L2.upd H a o) rs as ∧ (a :: xs ++ as).Nodup ∧ (∀ b ∈ a :: xs ++ as, G b = none) ∧ ∀ x ∈ xs, Own (L2.upd H a o) x := by
  obtain ⟨G, as, s, r, nd, no, ow⟩ := h
  have ne : ∀ {b : Addr}, Own H b → b ≠ a := fun {b} ⟨u, e, _⟩ z => by
    subst z
    rw [hn] at e
    cases e
  have ga : G a = none := by
    cases e : G a with
    | none => rfl
    | some u =>
      obtain ⟨k, _⟩ := s a u e
      rcases k with k | ⟨o', k⟩ <;> (rw [hn] at k; cases k)
  refine ⟨G, as, fun b u e => ?_, r.frame (Ext.refl _) (fun b vs e => ?_) (fun b o' u e => ?_) (fun b m => upd_ne (ne (r.own b m))), ?_, fun b m => ?_, fun b m => ?_⟩
  · obtain ⟨k, p, p2⟩ := s b u e
    refine ⟨?_, p, fun z => by rw [upd_ne (ne_of_none (p2 z) hn)]; exact p2 z⟩
    rcases k with k | ⟨o', k⟩
    · exact .inl (by rw [upd_ne (ne_of_none k hn)]; exact k)
    · exact .inr ⟨o', by rw [upd_ne (ne_of_none k hn)]; exact k⟩
  · rw [upd_ne (ne_of_none e hn)]
    exact e
  · rw [upd_ne (ne_of_none e hn)]
    exact e
  · refine List.nodup_cons.mpr ⟨fun m => ?_, nd⟩
    rcases List.mem_append.mp m with m | m
    · exact ne (ow a m) rfl
    · exact ne (r.own a m) rfl
  · rcases List.mem_cons.mp m with rfl | m
    · exact ga
    · exact no b m
  · obtain ⟨u, e, mu⟩ := ow b m
    exact ⟨u, by rw [upd_ne (ne ⟨u, e, mu⟩)]; exact e, mu⟩
theorem RSx.newL {H : Hp} {a : Addr} {xs : List Addr} {ps rs : List Rt} (h : RSx H xs (ps ++ rs)) (hn : H a = none) : RSx (L2.upd H a (.lst (ps.map (·.1)))) xs ((.ref a, .lst (ps.map (·.2))) :: rs) := by
  obtain ⟨G, cs, s, r, nd, no, ow⟩ := h.new hn (o := .lst (ps.map (·.1)))
  obtain ⟨as, bs, rfl, r1, r2⟩ := r.split
  have p : (xs ++ (a :: as ++ bs)).Perm (a :: xs ++ (as ++ bs)) := List.perm_middle
  exact ⟨G, _, s, .cons (.lst upd_same r1) r2, p.nodup_iff.mpr nd, fun b m => no b (p.mem_iff.mp m), ow⟩
theorem RSx.newT {H : Hp} {a : Addr} {xs : List Addr} {ps rs : List Rt} (h : RSx H xs (ps ++ rs)) (hn : H a = none) : RSx (L2.upd H a (.tup (ps.map (·.1)))) xs ((.ref a, .tup (ps.map (·.2))) :: rs) := by
  obtain ⟨G, cs, s, r, nd, no, ow⟩ := h.new hn (o := .tup (ps.map (·.1)))
  obtain ⟨as, bs, rfl, r1, r2⟩ := r.split
  exact ⟨G, _, s, .cons (.tup upd_same r1) r2, (List.nodup_cons.mp nd).2, fun b m => no b (List.mem_cons_of_mem _ m), ow⟩
theorem RSx.newK {H : Hp} {a : Addr} {xs : List Addr} {qs : List (Key × V × T)} {rs : List Rt} (h : RSx H xs (qs.map (·.2) ++ rs)) (hn : H a = none) :
    RSx (L2.upd H a (.dK (qs.map fun q => (q.1, q.2.1)))) xs ((.ref a, .dct (qs.map fun q => (kD q.1, q.2.2))) :: rs) := by
  obtain ⟨G, cs, s, r, nd, no, ow⟩ := h.new hn (o := .dK (qs.map fun q => (q.1, q.2.1)))
  obtain ⟨as, bs, rfl, r1, r2⟩ := r.split
  have p : (xs ++ (a :: as ++ bs)).Perm (a :: xs ++ (as ++ bs)) := List.perm_middle
  exact ⟨G, _, s, .cons (.dK upd_same r1) r2, p.nodup_iff.mpr nd, fun b m => no b (p.mem_iff.mp m), ow⟩
theorem RSx.newTd {H : Hp} {a : Addr} {xs : List Addr} {qs : List (List Key × V × T)} {rs : List Rt} (h : RSx H xs (qs.map (·.2) ++ rs)) (hn : H a = none) :
    RSx (L2.upd H a (.dT (qs.map fun q => (q.1, q.2.1)))) xs ((.ref a, .dct (qs.map fun q => (tD q.1, q.2.2))) :: rs) := by
  obtain ⟨G, cs, s, r, nd, no, ow⟩ := h.new hn (o := .dT (qs.map fun q => (q.1, q.2.1)))
  obtain ⟨as, bs, rfl, r1, r2⟩ := r.split
  have p : (xs ++ (a :: as ++ bs)).Perm (a :: xs ++ (as ++ bs)) := List.perm_middle
  exact ⟨G, _, s, .cons (.dT upd_same r1) r2, p.nodup_iff.mpr nd, fun b m => no b (p.mem_iff.mp m), ow⟩

/-! ### reading a frozen list, tuple, dict: its items are roots -/
def fzr (p : V × PyData) : Rt := (p.1, .fz p.2)
theorem RP.fzs {G H : Hp} : ∀ {ps : List (V × PyData)}, RpP G ps → RP G H (ps.map fzr) []
  | _, .nil => .nil
  | _, .cons h r => .cons (as := []) (.fz h) (RP.fzs r)
theorem RSx.readL {H : Hp} {xs : List Addr} {v : V} {ds : List PyData} {rs : List Rt} (h : RSx H xs ((v, .fz (.list ds)) :: rs)) :
    ∃ a, ∃ ps : List (V × PyData), v = .ref a ∧ ps.map (·.2) = ds ∧ Rd H a (.lst (ps.map (·.1))) ∧ RSx H xs (ps.map fzr ++ (v, .fz (.list ds)) :: rs) := by
  obtain ⟨G, cs, s, r, nd, no, ow⟩ := h
  have r0 := r
  cases r with
  | cons h r =>
    generalize et : T.fz (.list ds) = t at h
    cases h with
    | fz h =>
      cases et
      generalize ed : PyData.list ds = d at h
      cases h with
      | lst e k =>
        cases ed
        exact ⟨_, _, rfl, rfl, (s _ _ e).1, G, _, s, (RP.fzs k).append r0, nd, no, ow⟩
      | _ => cases ed
    | _ => cases et
theorem RSx.readT {H : Hp} {xs : List Addr} {v : V} {ds : List PyData} {rs : List Rt} (h : RSx H xs ((v, .fz (.tuple ds)) :: rs)) :
    ∃ a, ∃ ps : List (V × PyData), v = .ref a ∧ ps.map (·.2) = ds ∧ Rd H a (.tup (ps.map (·.1))) ∧ RSx H xs (ps.map fzr ++ (v, .fz (.tuple ds)) :: rs) := by
  obtain ⟨G, cs, s, r, nd, no, ow⟩ := h
  have r0 := r
  cases r with
  | cons h r =>
    generalize et : T.fz (.tuple ds) = t at h
    cases h with
    | fz h =>
      cases et
      generalize ed : PyData.tuple ds = d at h
      cases h with
      | tup e k =>
        cases ed
        exact ⟨_, _, rfl, rfl, (s _ _ e).1, G, _, s, (RP.fzs k).append r0, nd, no, ow⟩
      | _ => cases ed
    | _ => cases et
theorem RSx.readD {H : Hp} {xs : List Addr} {v : V} {kds : List (PyData × PyData)} {rs : List Rt} (h : RSx H xs ((v, .fz (.dict kds)) :: rs)) :
    ∃ a, v = .ref a ∧ ((∃ qs : List (Key × V × PyData), qs.map (fun q => (kD q.1, q.2.2)) = kds ∧ Rd H a (.dK (qs.map fun q => (q.1, q.2.1))) ∧ RSx H xs ((qs.map (·.2)).map fzr ++ (v, .fz (.dict kds)) :: rs)) ∨
      (∃ qs : List (List Key × V × PyData), qs.map (fun q => (tD q.1, q.2.2)) = kds ∧ Rd H a (.dT (qs.map fun q => (q.1, q.2.1))) ∧ RSx H xs ((qs.map (·.2)).map fzr ++ (v, .fz (.dict kds)) :: rs))) := by
  obtain ⟨G, cs, s, r, nd, no, ow⟩ := h
  have r0 := r
  cases r with
  | cons h r =>
    generalize et : T.fz (.dict kds) = t at h
    cases h with
    | fz h =>
      cases et
      generalize ed : PyData.dict kds = d at h
      cases h with
      | dK e k =>
        cases ed
        exact ⟨_, rfl, .inl ⟨_, rfl, (s _ _ e).1, G, _, s, (RP.fzs k).append r0, nd, no, ow⟩⟩
      | dT e k =>
        cases ed
        exact ⟨_, rfl, .inr ⟨_, rfl, (s _ _ e).1, G, _, s, (RP.fzs k).append r0, nd, no, ow⟩⟩
      | _ => cases ed
    | _ => cases et
end SW
end
section
/-! SWc: the small language and what it does to data trees. -/
namespace SW
open PySem PySem.Spec PyProof.Rows L2

inductive Bop | add | sub | mul | fdiv | mod | pow
  deriving DecidableEq
inductive Cop | eq | ne | lt | le | gt | ge | is | isn | inn | nin
  deriving DecidableEq
/-- functions of values -/
inductive Fn | len | abs | max | min | sum | sum2 | minD | int | all | any | list | listR | listI | listV | tuple | dict | sorted | sortedS | sortedL | lenS | repr
  deriving DecidableEq
/-- methods that change nothing -/
inductive Me | get | get2 | count | index | bitlen
  deriving DecidableEq
/-- methods that change what they are asked of -/
inductive Mm | append | insert | pop | popAt | extend | popD
  deriving DecidableEq
inductive Ty | int | bool | str | list | tuple | dict
  deriving DecidableEq
/-- targets -/
inductive Tg
  | nm (i : Nat) | nil | cons (t : Tg) (r : Tg) | fn (f : T → List T → Option (List T))

/-! ### values -/
def sizeL : Nat := 16777216
def T.isFz : T → Bool
  | .fz _ => true
  | _ => false
def unfz : List T → Option (List PyData)
  | [] => some []
  | .fz d :: ts => (unfz ts).map (d :: ·)
  | _ :: _ => none
/-- a tuple of frozen things is frozen -/
def mkT (ts : List T) : T := match unfz ts with
  | some ds => .fz (.tuple ds)
  | none => .tup ts
/-- an argument: it is ours (a temporary), or it stays in a slot -/
abbrev Ag := Bool × T
def kidsL : Ag → Option (List T)
  | (_, .fz (.list ds)) => some (ds.map .fz)
  | (b, .lst ts) => if b || ts.all T.isFz then some ts else none
  | _ => none
def kidsT : Ag → Option (List T)
  | (_, .fz (.tuple ds)) => some (ds.map .fz)
  | (b, .tup ts) => if b || ts.all T.isFz then some ts else none
  | _ => none
def Ag.d (a : Ag) : Option PyData := a.2.toD
def Ag.int (a : Ag) : Option Int := match a.2 with
  | .fz (.int i) => some i
  | _ => none
def tB (b : Bool) : T := .fz (.bool b)
def tI (i : Int) : T := .fz (.int i)
def tS (x : Str) : T := .fz (.str x)

/-! keys -/
def isK : PyData → Bool
  | .int _ => true
  | .str _ => true
  | _ => false
def isKT : PyData → Bool
  | .tuple ds => ds.all isK
  | _ => false
def keq1 : PyData → PyData → Bool
  | .int i, .int j => i == j
  | .str x, .str y => x == y
  | _, _ => false
def keqs : List PyData → List PyData → Bool
  | [], [] => true
  | a :: x, b :: y => keq1 a b && keqs x y
  | _, _ => false
def keq : PyData → PyData → Bool
  | .tuple a, .tuple b => keqs a b
  | a, b => keq1 a b
/-- the dict's keys and this one are of one make -/
def kOk {α : Type} (k : PyData) (kvs : List (PyData × α)) : Bool := (isK k && kvs.all fun p => isK p.1) || (isKT k && kvs.all fun p => isKT p.1)
def oneKind {α : Type} (kvs : List (PyData × α)) : Bool := kvs.all (fun p => isK p.1) || kvs.all fun p => isKT p.1
def kFind {α : Type} (k : PyData) : List (PyData × α) → Option α
  | [] => none
  | p :: r => if keq p.1 k then some p.2 else kFind k r
def kPut {α : Type} (k : PyData) (v : α) : List (PyData × α) → List (PyData × α)
  | [] => [(k, v)]
  | p :: r => if keq p.1 k then (p.1, v) :: r else p :: kPut k v r
def kDrop {α : Type} (k : PyData) : List (PyData × α) → List (PyData × α)
  | [] => []
  | p :: r => if keq p.1 k then kDrop k r else p :: kDrop k r

/-! comparisons -/
def okD (d : PyData) : Bool := d.plain && decide (d.depth ≤ 100)
def okDs (ds : List PyData) : Bool := PyData.plainAll ds && decide (PyData.depthAll ds ≤ 100)
def eqD (x y : PyData) : Option Bool := match x, y with
  | .dict a, .dict b => if (a.isEmpty || b.isEmpty) && oneKind a && oneKind b then some (a.isEmpty && b.isEmpty) else none
  | x, y => if okD x && okD y then some (PyData.eqv x y) else none
def isNone (d : PyData) : Bool := match d with
  | .none => true
  | _ => false
def ordOk (x y : PyData) : Bool := PySem.W.alike x y && !isNone x && decide (x.depth ≤ 100)
def ltD (x y : PyData) : Option Bool := if ordOk x y then some (PySem.W.dataLt x y) else none
def inD (x y : PyData) : Option Bool := match y with
  | .list ys => if okD x && okDs ys then some (ys.any fun z => PyData.eqv z x) else none
  | .tuple ys => if okD x && okDs ys then some (ys.any fun z => PyData.eqv z x) else none
  | .dict kvs => if kOk x kvs then some (kFind x kvs).isSome else none
  | .str b => (match x with
    | .str a => some (!(Builtin.Str.occurrences b a 0 b.length 1).isEmpty)
    | _ => none)
  | _ => none
def cmpD (op : Cop) (x y : PyData) : Option Bool := match op with
  | .eq => eqD x y
  | .ne => (eqD x y).map (!·)
  | .lt => ltD x y
  | .gt => ltD y x
  | .le => (ltD y x).map (!·)
  | .ge => (ltD x y).map (!·)
  | .is => (match x, y with
    | x, .none => some (isNone x)
    | .bool a, .bool b => some (a == b)
    | _, _ => none)
  | .isn => (match x, y with
    | x, .none => some (!isNone x)
    | .bool a, .bool b => some (!(a == b))
    | _, _ => none)
  | .inn => inD x y
  | .nin => (inD x y).map (!·)

/-! operators -/
def mulOk (i j : Int) : Bool := decide (i.natAbs.log2 + j.natAbs.log2 < 1000000)
def powOk (i j : Int) : Bool := decide (0 ≤ j) && decide (j ≤ 1000) && decide (i.natAbs.log2 < 256)
def Ag.str (a : Ag) : Option Str := match a.2 with
  | .fz (.str x) => some x
  | _ => none
def int2 (f : Int → Int → Option T) (a b : Ag) : Option T := match a.int, b.int with
  | some i, some j => f i j
  | _, _ => none
def addT (a b : Ag) : Option T := match a.int, b.int with
  | some i, some j => some (tI (i + j))
  | _, _ => match a.str, b.str with
    | some x, some y => if x.length + y.length ≤ sizeL then some (tS (x ++ y)) else none
    | _, _ => match kidsL a, kidsL b with
      | some ts, some us => if ts.length + us.length ≤ sizeL then some (.lst (ts ++ us)) else none
      | _, _ => match kidsT a, kidsT b with
        | some ts, some us => if ts.length + us.length ≤ sizeL && !ts.isEmpty && !us.isEmpty then some (mkT (ts ++ us)) else none
        | _, _ => none
def mulT (a b : Ag) : Option T := match a.int, b.int with
  | some i, some j => if mulOk i j then some (tI (i * j)) else none
  | _, some k => (match kidsL a with
    | some ts => if ts.all T.isFz && decide (-(2 ^ 63) ≤ k) && decide (k < 2 ^ 63) && decide (ts.length * k.toNat ≤ sizeL) then some (.lst (List.replicate k.toNat ts).flatten) else none
    | none => none)
  | _, _ => none
def binT (op : Bop) (a b : Ag) : Option T := match op with
  | .add => addT a b
  | .sub => int2 (fun i j => some (tI (i - j))) a b
  | .mul => mulT a b
  | .fdiv => int2 (fun i j => if decide (0 < j) && decide (j.natAbs.log2 < 9000) then some (tI (i / j)) else none) a b
  | .mod => int2 (fun i j => if 0 < j then some (tI (i % j)) else none) a b
  | .pow => int2 (fun i j => if powOk i j then some (tI (i ^ j.toNat)) else none) a b

/-! subscripts: what comes, and what stands behind it in the place that was asked -/
abbrev ixOf (n : Nat) (i : Int) : Option Nat := L2.ixN n i
def froz (t : T) : Option T := t.toD.map .fz
/-- the child is handed out; if it is not frozen, it is frozen there -/
def subT (b : Bool) (t : T) (k : PyData) : Option (T × T) := match t, k with
  | .fz (.list ds), .int i => ((ixOf ds.length i).bind fun j => ds[j]?).map fun d => (.fz d, t)
  | .fz (.tuple ds), .int i => ((ixOf ds.length i).bind fun j => ds[j]?).map fun d => (.fz d, t)
  | .fz (.dict kvs), k => if kOk k kvs then (kFind k kvs).map fun d => (.fz d, t) else none
  | .fz (.str x), .int i => if x.length ≤ sizeL then ((ixOf x.length i).bind fun j => x.cps[j]?).map fun c => (tS ⟨#[c]⟩, t) else none
  | .lst ts, .int i => (ixOf ts.length i).bind fun j => (match ts[j]? with
    | none => none
    | some (.fz d) => some (.fz d, .lst ts)
    | some c => if b then some (c, .gone) else c.toD.map fun d => (.fz d, .lst (ts.set j (.fz d))))
  | .tup ts, .int i => (ixOf ts.length i).bind fun j => (match ts[j]? with
    | none => none
    | some (.fz d) => some (.fz d, .tup ts)
    | some c => if b then some (c, .gone) else c.toD.map fun d => (.fz d, .tup (ts.set j (.fz d))))
  | .dct kvs, k => if kOk k kvs then (match kFind k kvs with
    | none => none
    | some (.fz d) => some (.fz d, .dct kvs)
    | some c => if b then some (c, .gone) else c.toD.map fun d => (.fz d, .dct (kPut k (.fz d) kvs))) else none
  | _, _ => none
def cutL {α : Type} (xs : List α) (lo hi : Option Int) : List α := (xs.drop (HT.sIx xs.length 0 lo)).take (HT.sIx xs.length xs.length hi - HT.sIx xs.length 0 lo)
def slcT (a : Ag) (lo hi : Option Int) : Option T := match kidsL a with
  | some ts => some (.lst (cutL ts lo hi))
  | none => match kidsT a with
    | some ts => if HT.sIx ts.length 0 lo = 0 ∧ HT.sIx ts.length ts.length hi = ts.length then none else some (mkT (cutL ts lo hi))
    | none => none

/-! functions -/
def isTy (d : PyData) : Ty → Bool
  | .int => (match d with
    | .int _ => true
    | .bool _ => true
    | _ => false)
  | .bool => (match d with
    | .bool _ => true
    | _ => false)
  | .str => (match d with
    | .str _ => true
    | _ => false)
  | .list => (match d with
    | .list _ => true
    | _ => false)
  | .tuple => (match d with
    | .tuple _ => true
    | _ => false)
  | .dict => (match d with
    | .dict _ => true
    | _ => false)
def lenT : T → Option Nat
  | .fz (.list ds) => some ds.length
  | .fz (.tuple ds) => some ds.length
  | .fz (.dict kvs) => some kvs.length
  | .fz (.str x) => if x.length ≤ sizeL then some x.length else none
  | .lst ts => some ts.length
  | .tup ts => some ts.length
  | .dct kvs => some kvs.length
  | _ => none
def intsD : List PyData → Option (List Int)
  | [] => some []
  | .int i :: r => (intsD r).map (i :: ·)
  | _ => none
def boolsD : List PyData → Option (List Bool)
  | [] => some []
  | .bool b :: r => (boolsD r).map (b :: ·)
  | _ => none
def listsD : List PyData → Option (List (List PyData))
  | [] => some []
  | .list ds :: r => (listsD r).map (ds :: ·)
  | _ => none
/-- things that compare with one another -/
def allAlike (ds : List PyData) : Bool := ds.all fun d => ds.all fun e => PySem.W.alike d e
def tupC (d : PyData) : Bool := match d with
  | .tuple (_ :: _) => true
  | _ => false
def notTN (d : PyData) : Bool := match d with
  | .tuple _ => false
  | .none => false
  | _ => true
def srtOk (ds : List PyData) : Bool := allAlike ds && (ds.all tupC || ds.all notTN) && ds.all fun d => decide (d.depth ≤ 100)
def leD (x y : PyData) : Bool := !PySem.W.dataLt y x
def sortD (ds : List PyData) : Option (List PyData) := if srtOk ds then some (ds.mergeSort leD) else none
def minOk (ds : List PyData) : Bool := allAlike ds && ds.all fun d => decide (d.depth ≤ 100) && !isNone d
/-- frozen items of a list argument -/
def Ag.items (a : Ag) : Option (List PyData) := a.d.bind fun d => match d with
  | .list ds => some ds
  | _ => none
def putAll {α : Type} (kvs : List (PyData × α)) : List (PyData × α) → List (PyData × α)
  | [] => kvs
  | p :: r => putAll (kPut p.1 p.2 kvs) r
def rngL (lo : Int) (n : Nat) : List PyData := (List.range n).map fun i => .int (lo + (i : Nat))
def fzL (ds : List PyData) : T := .lst (ds.map .fz)

/-! changes of an owned list or dict: the new one, and what is handed out -/
def mmT (m : Mm) (t : T) (as : List T) : Option (T × T) := match m, t, as with
  | .append, .lst ts, [x] => if ts.length < sizeL then some (.lst (ts ++ [x]), .fz .none) else none
  | .insert, .lst ts, [.fz (.int i), x] => if ts.length < sizeL ∧ 0 ≤ i ∧ i ≤ ts.length then some (.lst (ts.take i.toNat ++ x :: ts.drop i.toNat), .fz .none) else none
  | .pop, .lst ts, [] => (ts.getLast?).map fun x => (.lst ts.dropLast, x)
  | .popAt, .lst ts, [.fz (.int i)] => (ixOf ts.length i).bind fun j => ts[j]?.map fun x => (.lst (ts.eraseIdx j), x)
  | .popD, .dct kvs, [.fz k] => if isK k && kvs.all (fun p => isK p.1) then (kFind k kvs).map fun x => (.dct (kDrop k kvs), x) else none
  | .extend, .lst ts, [.fz (.list ds)] => if ts.length + ds.length ≤ sizeL then some (.lst (ts ++ ds.map .fz), .fz .none) else none
  | .extend, .lst ts, [.lst us] => if ts.length + us.length ≤ sizeL ∧ us.all T.isFz then some (.lst (ts ++ us), .fz .none) else none
  | _, _, _ => none
/-- x[k] = v -/
def setT (t : T) (k : PyData) (v : T) : Option T := match t, k with
  | .lst ts, .int i => (ixOf ts.length i).map fun j => .lst (ts.set j v)
  | .dct kvs, k => if kOk k kvs && decide (kvs.length < sizeL) then some (.dct (kPut k v kvs)) else none
  | _, _ => none

/-! ### the states -/
abbrev Ta := List T
def gT (τ : Ta) (i : Nat) : T := τ.getD i .gone
/-- argument results: a slot, or a thing that is ours -/
inductive A | sl (i : Nat) | tm (t : T)
def A.ag (τ : Ta) : A → Ag
  | .sl i => (false, gT τ i)
  | .tm t => (true, t)
def live (t : T) : Bool := match t with
  | .gone => false
  | _ => true
abbrev CallT := Nat → List T → Option (T × List T)
def truT : T → Option Bool
  | .fz (.bool b) => some b
  | .fz (.int i) => some (i != 0)
  | .fz .none => some false
  | .fz (.str x) => if x.length ≤ sizeL then some ((x.length : Int) != 0) else none
  | .fz (.list ds) => some (!ds.isEmpty)
  | .fz (.tuple ds) => some (!ds.isEmpty)
  | .lst ts => some (!ts.isEmpty)
  | _ => none
/-- values into a target -/
def Tg.len : Tg → Nat
  | .cons _ r => r.len + 1
  | _ => 0
def putP : Tg → (T → Ta → Option Ta) × (List T → Ta → Option Ta)
  | .nm i => (fun t τ => some (τ.set i t), fun _ _ => none)
  | .fn f => (f, fun _ _ => none)
  | .nil => (fun _ _ => none, fun ts τ => match ts with
    | [] => some τ
    | _ => none)
  | .cons g r => (fun t τ => (kidsT (true, t)).bind fun ts => match ts with
    | [] => none
    | t :: ts => ((putP g).1 t τ).bind ((putP r).2 ts), fun ts τ => match ts with
    | [] => none
    | t :: ts => ((putP g).1 t τ).bind ((putP r).2 ts))
def putG (g : Tg) : T → Ta → Option Ta := (putP g).1
def putGs (g : Tg) : List T → Ta → Option Ta := (putP g).2
/-- lent arguments: taken out of their slots -/
def takeA (τ : Ta) : List A → Option (List T × Ta)
  | [] => some ([], τ)
  | .tm t :: as => (takeA τ as).map fun p => (t :: p.1, p.2)
  | .sl i :: as => if live (gT τ i) then (takeA (τ.set i .gone) as).map fun p => (gT τ i :: p.1, p.2) else none
/-- and given back -/
def backA (τ : Ta) : List A → List T → Ta
  | .sl i :: as, t :: ts => backA (τ.set i t) as ts
  | .tm _ :: as, _ :: ts => backA τ as ts
  | _, _ => τ
def arr {α : Type} (xs : List α) (ar : List Nat) : List (Option α) := ar.map fun j => xs[j]?
def allSome {α : Type} : List (Option α) → Option (List α)
  | [] => some []
  | some x :: r => (allSome r).map (x :: ·)
  | none :: _ => none
def agD (as : List Ag) : Option (List PyData) := allSome (as.map Ag.d)
def fresh (τ : Ta) : List Nat → Ta
  | [] => τ
  | i :: is => (fresh τ is).set i .gone
def Tg.own : Tg → List Nat
  | .nm i => [i]
  | .nil => []
  | .fn _ => []
  | .cons t r => t.own ++ r.own

/-- over the items: f at each -/
def eachT {σ : Type} (f : T → σ → Option σ) : List T → σ → Option σ
  | [], s => some s
  | t :: ts, s => (f t s).bind (eachT f ts)

end SW
end
section
/-! SWd: defs that are called where no guard stands; slots and roots; the judgements of the small language. -/
namespace SW
open PySem PySem.Spec PyProof.Rows L2

/-! ### defs, with no guard of repr around -/
abbrev SpG := List V → Hp → VK → Prop
structure FnG (P : Program) (w : World) (K : PySem.W.Frag) (mg : Str → Option Value) (base : Heap) (k : Nat) (f : Addr) (fd : FuncData) (ps : List Str) (sp : SpG) : Prop where
  len : ∀ vs H Q, sp vs H Q → vs.length = ps.length
  run : ∀ (A : Around) (outer : List Env) (s : Shared) (H : Hp) (args : Args) (us : List Value) (vs : List V) (Q : VK),
    Room k A → A.guards = some [] → Env0 P w K mg base A outer s H → BindsTo s fd args (ps.zip us) → Vals vs us → sp vs H Q →
      codeAny (model P w) A (.call (.ref f) args) (CR CX0 outer P w H s Q E0) s
/-- from the body -/
theorem FnG.of {P : Program} {w : World} {K : PySem.W.Frag} {mg : Str → Option Value} {base : Heap} {x qual : Str} {params : Arguments} {body : List Stmt} {scope : Scope} {dvs : List V} {kws : List (Str × V)} {f : Addr} {fd : FuncData}
    {N ps : List Str} {k : Nat} {sp : SpG} (F : FunD K x qual params body scope dvs kws f fd) (S : FnScope N ps scope) (len : ∀ vs H Q, sp vs H Q → vs.length = ps.length)
    (hb : ∀ (cdv : Value) (A : Around) (outer : List Env) (s : Shared) (H : Hp) (vs : List V) (Q : VK), Room k (A.deeper (envOfC qual scope s.heap.objs.size f cdv)) → A.guards = some [] → sp vs H Q →
      ∃ t, PSs (cxOf CX0 P w K mg base N qual scope f cdv A outer s H E0) body t ∧ t { nx := fun _ H' => Q .non H', rt := Q } (start N vs) H) : FnG P w K mg base (k + 1) f fd ps sp := by
  obtain ⟨oc, od, dV, kV, doc, pm, an, cdv, ct, osl, hfd, lk, hcd, _, _⟩ := F.ex
  subst hfd
  constructor
  · exact len
  intro A outer s H args us vs Q hr hg e0 bt r hsp
  have lv : vs.length = ps.length := len _ _ _ hsp
  have inh : K.In s.heap := e0.mod.kin.keeps (fun b o z => (e0.bs b o z).1)
  have nol : s.heap.NoLimit := e0.mod.nolimit.keeps (fun b o z => (e0.bs b o z).1)
  have kinds : ∀ y ∈ ps.zip us, scope.names.lookup y.1 = some .local ∨
      (scope.names.lookup y.1 = some .cell ∧ ((cellsFrom (s.heap.objs.size + 1) scope.names []).lookup y.1).isSome = true) := by
    rintro ⟨n, v⟩ hy
    cases S.par n (List.of_mem_zip hy).1 with
    | inl q => exact Or.inl q
    | inr q => exact Or.inr ⟨q, PySem.W.cellsFrom_some _ _ _ (Or.inl q)⟩
  apply codeAny_call_function hr.depth (inh _ _ lk) rfl S.co S.gen rfl (PySem.W.codeRec_of inh hcd)
  apply bt
  apply wpAny_newFunctionEnv_cells S.kind kinds
  intro env he s1 x
  subst he
  constructor
  · exact nol.keeps x.toInCall.keep
  apply codeAny_func
  obtain ⟨t, ht, hq⟩ := hb cdv A outer s H vs Q (hr.deeper _) hg hsp
  have I := inv_start (CX := CX0) (P := P) (w := w) (mg := mg) (base := base) (E := E0) S hr.hd e0 lv r x
  have run := ht.run [] s1 (start N vs) H _ I hq
  apply wpAny_mono run
  · intro fl s' hs
    cases fl with
    | ret u =>
      obtain ⟨v, σ', H', J, rv, q⟩ := hs
      exact ⟨v, H', J.os, J.bare, J.base, J.hok, rv, q⟩
    | next =>
      obtain ⟨σ', H', J, q⟩ := hs
      exact ⟨V.non, H', J.os, J.bare, J.base, J.hok, rfl, q⟩
    | brk => exact hs.elim fun _ h => h.elim fun _ h => h.2.elim
    | cont => exact hs.elim fun _ h => h.elim fun _ h => h.2.elim
  · intro e s' hs
    exact hs
/-- a call -/
theorem FnG.call {X : Cx} {k : Nat} {f : Addr} {fd : FuncData} {ps : List Str} {sp : SpG} {pins : List (Addr × Obj)} {σ : L2.St} {H : Hp} {s : Shared} {Q : VK} {us ws zs : List Value} {vs : List V} {kn : List Str}
    (F : FnG X.prog X.w X.K X.mg X.base k f fd ps sp) (hr : Room k X.A) (hg : X.A.guards = some []) (I : Inv X pins σ H s) (hb : BindsTo s fd ⟨us, kn.zip ws⟩ (ps.zip zs)) (r : Vals vs zs) (h : sp vs H Q) :
    wpAny (model X.prog X.w) X.A (PySem.call (.ref f) us (kn.zip ws)) (EP X pins σ Q) X.xe s := by
  apply wpAny_call
  apply codeAny_mono (F.run X.A X.stack s H _ zs vs Q hr hg I.env0 hb r h)
  intro res s' hq
  cases res with
  | error e => exact hq.elim
  | ok fl =>
    cases fl with
    | ret u => exact I.after hq
    | next => exact hq.elim
    | brk => exact hq.elim
    | cont => exact hq.elim

/-! ### slots -/
def Sl (σ : L2.St) (τ : Ta) : Prop := σ.length = τ.length ∧ ∀ i, σ[i]? = some none → gT τ i = .gone
def slr : L2.St → Ta → List Rt
  | o :: σ, t :: τ => (o.getD .non, t) :: slr σ τ
  | _, _ => []
theorem slr_get : ∀ {σ : L2.St} {τ : Ta} {i : Nat} {o : Option V}, σ.length = τ.length → σ[i]? = some o → (slr σ τ)[i]? = some (o.getD .non, gT τ i)
  | [], _, i, o, _, h => by simp at h
  | _ :: _, [], _, _, e, _ => by simp at e
  | _ :: σ, t :: τ, 0, o, _, h => by
    simp at h
    subst h
    rfl
  | _ :: σ, t :: τ, i + 1, o, e, h => by
    have h' : σ[i]? = some o := by simpa using h
    have := slr_get (τ := τ) (i := i) (by simpa using e) h'
    simpa [slr, gT] using this
theorem slr_set : ∀ {σ : L2.St} {τ : Ta} {i : Nat} {v : V} {t : T}, slr (σ.set i (some v)) (τ.set i t) = (slr σ τ).set i (v, t)
  | [], _, _, _, _ => by simp [slr]
  | _ :: _, [], i, _, _ => by
    cases i <;> simp [slr]
  | _ :: _, _ :: _, 0, _, _ => rfl
  | _ :: σ, _ :: τ, i + 1, v, t => by
    simp only [List.set_cons_succ, slr]
    rw [slr_set]
theorem slr_setT : ∀ {σ : L2.St} {τ : Ta} {i : Nat} {v : V} {t : T}, σ[i]? = some (some v) → slr σ (τ.set i t) = (slr σ τ).set i (v, t)
  | [], _, _, _, _, h => by simp at h
  | _ :: _, [], i, _, _, h => by
    cases i <;> simp [slr]
  | _ :: _, _ :: _, 0, _, _, h => by
    simp at h
    subst h
    rfl
  | _ :: σ, _ :: τ, i + 1, v, t, h => by
    simp only [List.set_cons_succ, slr]
    rw [slr_setT (by simpa using h)]
theorem slr_gone : ∀ {σ : L2.St} {τ : Ta} {i : Nat}, slr σ (τ.set i .gone) = (slr σ τ).set i (((σ[i]?).getD none).getD .non, .gone)
  | [], _, _ => by simp [slr]
  | _ :: _, [], i => by
    cases i <;> simp [slr]
  | _ :: _, _ :: _, 0 => rfl
  | o :: σ, _ :: τ, i + 1 => by
    simp only [List.set_cons_succ, slr]
    rw [slr_gone]
    simp
theorem slr_length : ∀ {σ : L2.St} {τ : Ta}, σ.length = τ.length → (slr σ τ).length = σ.length
  | [], _, _ => by simp [slr]
  | _ :: _, [], e => by simp at e
  | _ :: σ, _ :: τ, e => by
    simp only [slr, List.length_cons]
    rw [slr_length (by simpa using e)]
theorem gT_set {τ : Ta} {i : Nat} {t : T} (h : i < τ.length) : gT (τ.set i t) i = t := by
  unfold gT
  rw [List.getD_eq_getElem?_getD, List.getElem?_set_self h]
  rfl
theorem gT_ne {τ : Ta} {i j : Nat} {t : T} (h : i ≠ j) : gT (τ.set i t) j = gT τ j := by
  unfold gT
  rw [List.getD_eq_getElem?_getD, List.getD_eq_getElem?_getD, List.getElem?_set_ne h]
theorem Sl.setT {σ : L2.St} {τ : Ta} {i : Nat} {t : T} (h : Sl σ τ) (hv : ∃ v, σ[i]? = some (some v)) : Sl σ (τ.set i t) := by
  refine ⟨by simpa using h.1, fun j e => ?_⟩
  obtain ⟨v, hv⟩ := hv
  have ne : i ≠ j := fun z => by
    subst z
    rw [hv] at e
    cases e
  rw [gT_ne ne]
  exact h.2 j e
theorem Sl.gone {σ : L2.St} {τ : Ta} {i : Nat} (h : Sl σ τ) : Sl σ (τ.set i .gone) := by
  refine ⟨by simpa using h.1, fun j e => ?_⟩
  by_cases ne : i = j
  · subst ne
    by_cases hi : i < τ.length
    · exact gT_set hi
    · rw [List.set_eq_of_length_le (by omega)]
      exact h.2 i e
  · rw [gT_ne ne]
    exact h.2 j e
theorem Sl.set {σ : L2.St} {τ : Ta} {i : Nat} {v : V} {t : T} (h : Sl σ τ) : Sl (σ.set i (some v)) (τ.set i t) := by
  refine ⟨by simpa using h.1, fun j e => ?_⟩
  by_cases ne : i = j
  · subst ne
    by_cases hi : i < σ.length
    · rw [List.getElem?_set_self hi] at e
      cases e
    · rw [List.set_eq_of_length_le (by omega)] at e
      rw [List.set_eq_of_length_le (by rw [← h.1]; omega)]
      exact h.2 i e
  · rw [gT_ne ne]
    rw [List.getElem?_set_ne ne] at e
    exact h.2 j e
/-- a slot that is alive is bound -/
theorem Sl.bound {σ : L2.St} {τ : Ta} {i : Nat} (h : Sl σ τ) (l : gT τ i ≠ .gone) : ∃ v, σ[i]? = some (some v) := by
  have hi : i < τ.length := by
    by_cases hi : i < τ.length
    · exact hi
    · exfalso
      apply l
      unfold gT
      rw [List.getD_eq_getElem?_getD, List.getElem?_eq_none (by omega)]
      rfl
  have hs : i < σ.length := by rw [h.1]; exact hi
  cases e : σ[i] with
  | some v => exact ⟨v, by rw [List.getElem?_eq_getElem hs, e]⟩
  | none =>
    exfalso
    exact l (h.2 i (by rw [List.getElem?_eq_getElem hs, e]))
theorem live_ne {t : T} (h : live t = true) : t ≠ .gone := fun e => by
  subst e
  cases h

/-! ### the roots of slots -/
theorem perm_take {α : Type} : ∀ {l : List α} {i : Nat} {x : α}, l[i]? = some x → l.Perm (x :: l.eraseIdx i)
  | [], _, _, h => by simp at h
  | y :: l, 0, x, h => by
    simp at h
    subst h
    exact .refl _
  | y :: l, i + 1, x, h => by
    have h' : l[i]? = some x := by simpa using h
    exact ((perm_take h').cons y).trans (.swap _ _ _)
theorem perm_set {α : Type} : ∀ {l : List α} {i : Nat} {x : α}, i < l.length → (l.set i x).Perm (x :: l.eraseIdx i)
  | [], _, _, h => by simp at h
  | y :: l, 0, x, _ => .refl _
  | y :: l, i + 1, x, h => by
    have := perm_set (l := l) (i := i) (x := x) (by simpa using h)
    exact (this.cons y).trans (.swap _ _ _)
/-- the rest of the roots -/
def slx (σ : L2.St) (τ : Ta) (i : Nat) : List Rt := (slr σ τ).eraseIdx i
theorem slr_out {σ : L2.St} {τ : Ta} {i : Nat} {v : V} (h : Sl σ τ) (e : σ[i]? = some (some v)) : (slr σ τ).Perm ((v, gT τ i) :: slx σ τ i) :=
  perm_take (slr_get h.1 e)
theorem slr_in {σ : L2.St} {τ : Ta} {i : Nat} {v : V} {t : T} (h : Sl σ τ) (e : σ[i]? = some (some v)) : (slr σ (τ.set i t)).Perm ((v, t) :: slx σ τ i) := by
  rw [slr_setT e]
  refine perm_set ?_
  rw [slr_length h.1]
  exact (List.getElem?_eq_some_iff.mp e).1
theorem slr_bind {σ : L2.St} {τ : Ta} {i : Nat} {v : V} {t : T} (h : Sl σ τ) (hi : i < σ.length) : (slr (σ.set i (some v)) (τ.set i t)).Perm ((v, t) :: slx σ τ i) := by
  rw [slr_set]
  refine perm_set ?_
  rw [slr_length h.1]
  exact hi

/-! ### readings -/
abbrev VF := Ta → Option (T × Ta)
abbrev AF := Ta → Option (A × Ta)
abbrev BF := Ta → Option (Bool × Ta)
abbrev LF := Ta → Option (List T × Ta)
abbrev MF := Ta → Option (List A × Ta)
def tE (f : VF) : TE := fun σ H Q => ∃ τ F t τ', Sl σ τ ∧ RS H (slr σ τ ++ F) ∧ f τ = some (t, τ') ∧ ∀ v H', Sl σ τ' → RS H' ((v, t) :: (slr σ τ' ++ F)) → Q v H'
/-- the root of an argument -/
def agr (v : V) : A → List Rt
  | .sl _ => []
  | .tm t => [(v, t)]
def AgOk (σ : L2.St) (v : V) : A → Prop
  | .sl i => σ[i]? = some (some v)
  | .tm _ => True
def tA (f : AF) : TE := fun σ H Q => ∃ τ F a τ', Sl σ τ ∧ RS H (slr σ τ ++ F) ∧ f τ = some (a, τ') ∧ ∀ v H', Sl σ τ' → AgOk σ v a → RS H' (agr v a ++ (slr σ τ' ++ F)) → Q v H'
def tT (f : BF) : TT := fun σ H Q => ∃ τ F b τ', Sl σ τ ∧ RS H (slr σ τ ++ F) ∧ f τ = some (b, τ') ∧ ∀ H', Sl σ τ' → RS H' (slr σ τ' ++ F) → Q b H'
def agrs : List V → List A → List Rt
  | v :: vs, a :: as => agr v a ++ agrs vs as
  | _, _ => []
def AgsOk (σ : L2.St) : List V → List A → Prop
  | [], [] => True
  | v :: vs, a :: as => AgOk σ v a ∧ AgsOk σ vs as
  | _, _ => False
def tAs (f : MF) : TA := fun σ H Q => ∃ τ F as τ', Sl σ τ ∧ RS H (slr σ τ ++ F) ∧ f τ = some (as, τ') ∧ ∀ vs H', Sl σ τ' → AgsOk σ vs as → RS H' (agrs vs as ++ (slr σ τ' ++ F)) → Q vs H'
def tLs (f : LF) : TA := fun σ H Q => ∃ τ F ts τ', Sl σ τ ∧ RS H (slr σ τ ++ F) ∧ f τ = some (ts, τ') ∧ ∀ vs H', vs.length = ts.length → Sl σ τ' → RS H' (vs.zip ts ++ (slr σ τ' ++ F)) → Q vs H'
end SW
end
section
/-! SWe: arguments and their roots; views made concrete; items of lists and tuples. -/
namespace SW
open PySem PySem.Spec PyProof.Rows L2

/-! ### an argument among the roots R: a temporary has its own root o -/
def Has (R : List Rt) (x : V) (g : Ag) (o : List Rt) : Prop := (g.1 = true ∧ o = [(x, g.2)]) ∨ (g.1 = false ∧ o = [] ∧ (x, g.2) ∈ R)
def HasL (R : List Rt) : List V → List Ag → List Rt → Prop
  | [], [], os => os = []
  | x :: xs, g :: gs, os => ∃ o r, os = o ++ r ∧ Has R x g o ∧ HasL R xs gs r
  | _, _, _ => False
theorem slr_mem {σ : L2.St} {τ : Ta} {i : Nat} {v : V} (h : Sl σ τ) (e : σ[i]? = some (some v)) : (v, gT τ i) ∈ slr σ τ :=
  (slr_out h e).mem_iff.mpr List.mem_cons_self
theorem has_of {σ : L2.St} {τ : Ta} {F : List Rt} {v : V} {a : A} (h : Sl σ τ) (k : AgOk σ v a) : Has (slr σ τ ++ F) v (a.ag τ) (agr v a) := by
  cases a with
  | sl i => exact .inr ⟨rfl, rfl, List.mem_append_left _ (slr_mem h k)⟩
  | tm t => exact .inl ⟨rfl, rfl⟩
theorem hasL_of {σ : L2.St} {τ : Ta} {F : List Rt} (h : Sl σ τ) : ∀ {vs : List V} {as : List A}, AgsOk σ vs as → HasL (slr σ τ ++ F) vs (as.map (A.ag τ)) (agrs vs as)
  | [], [], _ => rfl
  | _ :: _, [], k => k.elim
  | [], _ :: _, k => k.elim
  | v :: vs, a :: as, k => ⟨agr v a, agrs vs as, rfl, has_of h k.1, hasL_of h k.2⟩
theorem Has.mem {R : List Rt} {x : V} {g : Ag} {o : List Rt} (h : Has R x g o) : (x, g.2) ∈ o ++ R := by
  rcases h with ⟨_, rfl⟩ | ⟨_, rfl, m⟩
  · exact List.mem_append_left _ List.mem_cons_self
  · exact m
theorem Has.mem2 {R L : List Rt} {x : V} {g : Ag} {o : List Rt} (h : Has R x g o) (ho : ∀ r ∈ o, r ∈ L) (hR : ∀ r ∈ R, r ∈ L) : (x, g.2) ∈ L := by
  rcases List.mem_append.mp h.mem with m | m
  · exact ho _ m
  · exact hR _ m

/-! ### views -/
theorem mem_perm {α : Type} {x : α} {l : List α} (m : x ∈ l) : ∃ r, l.Perm (x :: r) := by
  obtain ⟨a, b, rfl⟩ := List.append_of_mem m
  exact ⟨a ++ b, List.perm_middle⟩
theorem RS.viewM {H : Hp} {L : List Rt} {x : V} {t : T} {d : PyData} (h : RS H L) (m : (x, t) ∈ L) (e : t.toD = some d) : View H x d := by
  obtain ⟨r, p⟩ := mem_perm m
  exact (h.perm p).view e
theorem View.int {H : Hp} {x : V} {i : Int} (h : View H x (.int i)) : x = .int i := by
  obtain ⟨G, _, h⟩ := h
  generalize e : PyData.int i = d at h
  cases h <;> first | (cases e; done) | (cases e; rfl)
theorem View.str {H : Hp} {x : V} {i : Str} (h : View H x (.str i)) : x = .str i := by
  obtain ⟨G, _, h⟩ := h
  generalize e : PyData.str i = d at h
  cases h <;> first | (cases e; done) | (cases e; rfl)
theorem View.bl {H : Hp} {x : V} {i : Bool} (h : View H x (.bool i)) : x = .bl i := by
  obtain ⟨G, _, h⟩ := h
  generalize e : PyData.bool i = d at h
  cases h <;> first | (cases e; done) | (cases e; rfl)
theorem View.non {H : Hp} {x : V} (h : View H x .none) : x = .non := by
  obtain ⟨G, _, h⟩ := h
  generalize e : PyData.none = d at h
  cases h <;> first | (cases e; done) | (cases e; rfl)
def ViewP (H : Hp) (ps : List (V × PyData)) : Prop := ∃ G, Sub G H ∧ RpP G ps
theorem RpP.mem {G : Hp} : ∀ {ps : List (V × PyData)}, RpP G ps → ∀ p ∈ ps, Rp G p.1 p.2
  | _, .nil, _, m => nomatch m
  | _, .cons h r, p, m => by
    rcases List.mem_cons.mp m with rfl | m
    · exact h
    · exact RpP.mem r p m
theorem ViewP.mem {H : Hp} {ps : List (V × PyData)} (h : ViewP H ps) : ∀ p ∈ ps, View H p.1 p.2 := fun p m =>
  let ⟨G, s, k⟩ := h
  ⟨G, s, k.mem p m⟩
theorem View.lst {H : Hp} {x : V} {ds : List PyData} (h : View H x (.list ds)) : ∃ a, ∃ ps : List (V × PyData), x = .ref a ∧ ps.map (·.2) = ds ∧ Rd H a (.lst (ps.map (·.1))) ∧ ViewP H ps := by
  obtain ⟨G, s, h⟩ := h
  generalize e : PyData.list ds = d at h
  cases h <;> first | (cases e; done) | (rename_i e1 h1; cases e; exact ⟨_, _, rfl, rfl, (s _ _ e1).1, G, s, h1⟩)
theorem View.tup {H : Hp} {x : V} {ds : List PyData} (h : View H x (.tuple ds)) : ∃ a, ∃ ps : List (V × PyData), x = .ref a ∧ ps.map (·.2) = ds ∧ Rd H a (.tup (ps.map (·.1))) ∧ ViewP H ps := by
  obtain ⟨G, s, h⟩ := h
  generalize e : PyData.tuple ds = d at h
  cases h <;> first | (cases e; done) | (rename_i e1 h1; cases e; exact ⟨_, _, rfl, rfl, (s _ _ e1).1, G, s, h1⟩)
theorem View.dct {H : Hp} {x : V} {kvs : List (PyData × PyData)} (h : View H x (.dict kvs)) : ∃ a, x = .ref a ∧
    ((∃ qs : List (Key × V × PyData), qs.map (fun q => (kD q.1, q.2.2)) = kvs ∧ Rd H a (.dK (qs.map fun q => (q.1, q.2.1))) ∧ ViewP H (qs.map (·.2))) ∨
      ∃ qs : List (List Key × V × PyData), qs.map (fun q => (tD q.1, q.2.2)) = kvs ∧ Rd H a (.dT (qs.map fun q => (q.1, q.2.1))) ∧ ViewP H (qs.map (·.2))) := by
  obtain ⟨G, s, h⟩ := h
  generalize e : PyData.dict kvs = d at h
  cases h with
  | dK e1 h1 =>
    cases e
    exact ⟨_, rfl, .inl ⟨_, rfl, (s _ _ e1).1, G, s, h1⟩⟩
  | dT e1 h1 =>
    cases e
    exact ⟨_, rfl, .inr ⟨_, rfl, (s _ _ e1).1, G, s, h1⟩⟩
  | _ => cases e
/-- a view of a list for the layer's rules -/
theorem View.sqL (K : PySem.W.Frag) {H : Hp} {x : V} {ds : List PyData} (h : View H x (.list ds)) : ∃ a vs, x = .ref a ∧ SqL K H a vs ∧ vs.length = ds.length := by
  obtain ⟨a, ps, rfl, rfl, r, _⟩ := h.lst
  exact ⟨a, _, rfl, .inl r, by simp⟩
theorem View.sqT (K : PySem.W.Frag) {H : Hp} {x : V} {ds : List PyData} (h : View H x (.tuple ds)) : ∃ a vs, x = .ref a ∧ SqT K H a vs ∧ vs.length = ds.length := by
  obtain ⟨a, ps, rfl, rfl, r, _⟩ := h.tup
  exact ⟨a, _, rfl, .inl r, by simp⟩
theorem ints_of : ∀ {ds : List PyData} {ns : List Int}, intsD ds = some ns → ds = ns.map .int
  | [], ns, h => by
    unfold intsD at h
    cases h
    rfl
  | .int i :: r, ns, h => by
    unfold intsD at h
    cases e : intsD r with
    | none =>
      rw [e] at h
      cases h
    | some ms =>
      rw [e] at h
      cases h
      rw [ints_of e]
      rfl
  | .none :: _, _, h | .bool _ :: _, _, h | .str _ :: _, _, h | .list _ :: _, _, h | .tuple _ :: _, _, h | .dict _ :: _, _, h => by
    unfold intsD at h
    cases h
theorem bools_of : ∀ {ds : List PyData} {ns : List Bool}, boolsD ds = some ns → ds = ns.map .bool
  | [], ns, h => by
    unfold boolsD at h
    cases h
    rfl
  | .bool i :: r, ns, h => by
    unfold boolsD at h
    cases e : boolsD r with
    | none =>
      rw [e] at h
      cases h
    | some ms =>
      rw [e] at h
      cases h
      rw [bools_of e]
      rfl
  | .none :: _, _, h | .int _ :: _, _, h | .str _ :: _, _, h | .list _ :: _, _, h | .tuple _ :: _, _, h | .dict _ :: _, _, h => by
    unfold boolsD at h
    cases h
theorem ViewP.ints {H : Hp} : ∀ {ns : List Int} {ps : List (V × PyData)}, ViewP H ps → ps.map (·.2) = ns.map .int → ps.map (·.1) = ns.map .int
  | [], [], _, _ => rfl
  | [], _ :: _, _, e => by cases e
  | _ :: _, [], _, e => by cases e
  | n :: ns, (v, d) :: ps, h, e => by
    simp only [List.map_cons, List.cons.injEq] at e
    obtain ⟨rfl, e⟩ := e
    have h1 := (h.mem (v, .int n) List.mem_cons_self).int
    obtain ⟨G, s, k⟩ := h
    cases k with
    | cons _ k =>
      have := ViewP.ints ⟨G, s, k⟩ e
      simp only at h1
      simp [h1, this]
theorem ViewP.bools {H : Hp} : ∀ {ns : List Bool} {ps : List (V × PyData)}, ViewP H ps → ps.map (·.2) = ns.map .bool → ps.map (·.1) = ns.map .bl
  | [], [], _, _ => rfl
  | [], _ :: _, _, e => by cases e
  | _ :: _, [], _, e => by cases e
  | n :: ns, (v, d) :: ps, h, e => by
    simp only [List.map_cons, List.cons.injEq] at e
    obtain ⟨rfl, e⟩ := e
    have h1 := (h.mem (v, .bool n) List.mem_cons_self).bl
    obtain ⟨G, s, k⟩ := h
    cases k with
    | cons _ k =>
      have := ViewP.bools ⟨G, s, k⟩ e
      simp only at h1
      simp [h1, this]

/-! ### scalars among the roots -/
theorem RS.addI {H : Hp} {rs : List Rt} (i : Int) (h : RS H rs) : RS H ((.int i, tI i) :: rs) := h.add fun _ => .fz (.int i)
theorem RS.addB {H : Hp} {rs : List Rt} (b : Bool) (h : RS H rs) : RS H ((.bl b, tB b) :: rs) := h.add fun _ => .fz (.bl b)
theorem RS.addS {H : Hp} {rs : List Rt} (x : Str) (h : RS H rs) : RS H ((.str x, tS x) :: rs) := h.add fun _ => .fz (.str x)
theorem RS.addN {H : Hp} {rs : List Rt} (h : RS H rs) : RS H ((.non, .fz .none) :: rs) := h.add fun _ => .fz .non

/-! ### items -/
theorem fz_zip {ps : List (V × PyData)} : (ps.map (·.1)).zip ((ps.map (·.2)).map T.fz) = ps.map fzr := by
  induction ps with
  | nil => rfl
  | cons p ps ih =>
    simp only [List.map_cons, List.zip_cons_cons, ih]
    rfl
theorem zip_self {ps : List (V × T)} : (ps.map (·.1)).zip (ps.map (·.2)) = ps := by
  induction ps with
  | nil => rfl
  | cons p ps ih => simp [ih]
/-- frozen items twice -/
theorem RP.dupK {G H : Hp} : ∀ {ps : List (V × T)} {as : List Addr}, RP G H ps as → (ps.map (·.2)).all T.isFz = true → RP G H ps []
  | [], _, _, _ => .nil
  | (v, t) :: ps, _, .cons h r, e => by
    simp only [List.map_cons, List.all_cons, Bool.and_eq_true] at e
    cases t with
    | fz d =>
      cases h with
      | fz h => exact .cons (as := []) (.fz h) (RP.dupK r e.2)
    | _ => exact absurd e.1 (by simp [T.isFz])
theorem RS.kidsB {H : Hp} {x : V} {ts : List T} {L : List Rt} (h : RS H ((x, .lst ts) :: L)) (al : ts.all T.isFz = true) : ∃ a ps, x = .ref a ∧ ps.map (·.2) = ts ∧ H a = some (.lst (ps.map (·.1))) ∧ RS H (ps ++ ((x, .lst ts) :: L)) := by
  obtain ⟨G, cs, s, r, nd, no⟩ := h
  have r0 := r
  cases r with
  | cons h r =>
    generalize et : T.lst ts = t at h
    cases h with
    | lst e k =>
      cases et
      exact ⟨_, _, rfl, rfl, e, G, _, s, (k.dupK al).append r0, nd, no⟩
    | _ => cases et
theorem RS.kidsBT {H : Hp} {x : V} {ts : List T} {L : List Rt} (h : RS H ((x, .tup ts) :: L)) (al : ts.all T.isFz = true) : ∃ a ps, x = .ref a ∧ ps.map (·.2) = ts ∧ H a = some (.tup (ps.map (·.1))) ∧ RS H (ps ++ ((x, .tup ts) :: L)) := by
  obtain ⟨G, cs, s, r, nd, no⟩ := h
  have r0 := r
  cases r with
  | cons h r =>
    generalize et : T.tup ts = t at h
    cases h with
    | tup e k =>
      cases et
      exact ⟨_, _, rfl, rfl, e, G, _, s, (k.dupK al).append r0, nd, no⟩
    | _ => cases et
/-- the items of a list argument as roots, its own root gone -/
theorem RS.kidsL {H : Hp} {x : V} {g : Ag} {o R L : List Rt} {ts : List T} (h : RS H (o ++ L)) (hh : Has R x g o) (hR : ∀ r ∈ R, r ∈ L) (e : kidsL g = some ts) :
    ∃ a vs, x = .ref a ∧ Rd H a (.lst vs) ∧ vs.length = ts.length ∧ RS H (vs.zip ts ++ L) := by
  obtain ⟨b, t⟩ := g
  rcases hh with ⟨hb, rfl⟩ | ⟨hb, rfl, m⟩
  · -- a temporary
    unfold SW.kidsL at e
    split at e
    · rename_i ds hg
      cases hg
      cases e
      obtain ⟨a, ps, e1, e2, e3, k⟩ := h.x.readL
      refine ⟨a, ps.map (·.1), e1, e3, by rw [← e2]; simp, ?_⟩
      rw [← e2, fz_zip]
      have k1 : RSx H [] (ps.map fzr ++ ((x, T.fz (PyData.list ds)) :: L)) := k
      have k2 : RSx H [] ((x, T.fz (PyData.list ds)) :: (ps.map fzr ++ L)) := k1.perm List.perm_middle
      exact k2.s.tail
    · rename_i ts' hg
      cases hg
      have hb' : b = true := hb
      subst hb'
      simp only [Bool.true_or, if_true] at e
      cases e
      obtain ⟨a, ps, e1, e2, e3, k⟩ := h.x.openL
      refine ⟨a, ps.map (·.1), e1, .inl e3, by rw [← e2]; simp, ?_⟩
      rw [← e2, zip_self]
      exact k.forget
    · cases e
  · -- in a slot
    unfold SW.kidsL at e
    split at e
    · rename_i ds hg
      cases hg
      cases e
      obtain ⟨r, p⟩ := mem_perm (hR _ m)
      obtain ⟨a, ps, e1, e2, e3, k⟩ := (h.perm (by simpa using p)).x.readL
      refine ⟨a, ps.map (·.1), e1, e3, by rw [← e2]; simp, ?_⟩
      rw [← e2, fz_zip]
      have k1 : RSx H [] (ps.map fzr ++ ((x, T.fz (PyData.list ds)) :: r)) := k
      exact (k1.perm (p.symm.append_left _)).s
    · rename_i ts' hg
      cases hg
      have hb' : b = false := hb
      subst hb'
      simp only [Bool.false_or] at e
      split at e
      · rename_i al
        cases e
        obtain ⟨r, p⟩ := mem_perm (hR _ m)
        obtain ⟨a, ps, e1, e2, e3, k⟩ := RS.kidsB (h.perm (by simpa using p)) al
        refine ⟨a, ps.map (·.1), e1, .inl e3, by rw [← e2]; simp, ?_⟩
        rw [← e2, zip_self]
        rw [e2] at *
        exact k.perm (p.symm.append_left _)
      · cases e
    · cases e
theorem RS.kidsT {H : Hp} {x : V} {g : Ag} {o R L : List Rt} {ts : List T} (h : RS H (o ++ L)) (hh : Has R x g o) (hR : ∀ r ∈ R, r ∈ L) (e : kidsT g = some ts) :
    ∃ a vs, x = .ref a ∧ Rd H a (.tup vs) ∧ vs.length = ts.length ∧ RS H (vs.zip ts ++ L) := by
  obtain ⟨b, t⟩ := g
  rcases hh with ⟨hb, rfl⟩ | ⟨hb, rfl, m⟩
  · unfold SW.kidsT at e
    split at e
    · rename_i ds hg
      cases hg
      cases e
      obtain ⟨a, ps, e1, e2, e3, k⟩ := h.x.readT
      refine ⟨a, ps.map (·.1), e1, e3, by rw [← e2]; simp, ?_⟩
      rw [← e2, fz_zip]
      have k1 : RSx H [] (ps.map fzr ++ ((x, T.fz (PyData.tuple ds)) :: L)) := k
      have k2 : RSx H [] ((x, T.fz (PyData.tuple ds)) :: (ps.map fzr ++ L)) := k1.perm List.perm_middle
      exact k2.s.tail
    · rename_i ts' hg
      cases hg
      have hb' : b = true := hb
      subst hb'
      simp only [Bool.true_or, if_true] at e
      cases e
      obtain ⟨a, ps, e1, e2, e3, k⟩ := h.x.openT
      refine ⟨a, ps.map (·.1), e1, .inl e3, by rw [← e2]; simp, ?_⟩
      rw [← e2, zip_self]
      exact k.s
    · cases e
  · unfold SW.kidsT at e
    split at e
    · rename_i ds hg
      cases hg
      cases e
      obtain ⟨r, p⟩ := mem_perm (hR _ m)
      obtain ⟨a, ps, e1, e2, e3, k⟩ := (h.perm (by simpa using p)).x.readT
      refine ⟨a, ps.map (·.1), e1, e3, by rw [← e2]; simp, ?_⟩
      rw [← e2, fz_zip]
      have k1 : RSx H [] (ps.map fzr ++ ((x, T.fz (PyData.tuple ds)) :: r)) := k
      exact (k1.perm (p.symm.append_left _)).s
    · rename_i ts' hg
      cases hg
      have hb' : b = false := hb
      subst hb'
      simp only [Bool.false_or] at e
      split at e
      · rename_i al
        cases e
        obtain ⟨r, p⟩ := mem_perm (hR _ m)
        obtain ⟨a, ps, e1, e2, e3, k⟩ := RS.kidsBT (h.perm (by simpa using p)) al
        refine ⟨a, ps.map (·.1), e1, .inl e3, by rw [← e2]; simp, ?_⟩
        rw [← e2, zip_self]
        rw [e2] at *
        exact k.perm (p.symm.append_left _)
      · cases e
    · cases e
/-- a new list, a new tuple of what stands first among the roots -/
theorem RS.newL {H : Hp} {p : Addr} {vs : List V} {ts : List T} {R : List Rt} (h : RS H (vs.zip ts ++ R)) (l : vs.length = ts.length) (hn : H p = none) : RS (upd H p (.lst vs)) ((.ref p, .lst ts) :: R) := by
  have k := (h.x.newL hn).s
  rw [List.map_fst_zip (by omega), List.map_snd_zip (by omega)] at k
  exact k
theorem unfz_toD : ∀ {ts : List T} {ds : List PyData}, unfz ts = some ds → toDs ts = some ds
  | [], ds, h => by
    unfold unfz at h
    cases h
    simp [toDs]
  | .fz d :: ts, ds, h => by
    unfold unfz at h
    cases e : unfz ts with
    | none =>
      rw [e] at h
      cases h
    | some r =>
      rw [e] at h
      cases h
      unfold toDs
      rw [unfz_toD e]
      simp [T.toD]
  | .lst _ :: _, _, h | .tup _ :: _, _, h | .dct _ :: _, _, h | .gone :: _, _, h | .pin _ :: _, _, h | .box _ :: _, _, h | .lck _ _ :: _, _, h | .scr _ :: _, _, h | .world _ _ _ :: _, _, h => by
    unfold unfz at h
    cases h
theorem RS.newT {H : Hp} {p : Addr} {vs : List V} {ts : List T} {R : List Rt} (h : RS H (vs.zip ts ++ R)) (l : vs.length = ts.length) (hn : H p = none) : RS (upd H p (.tup vs)) ((.ref p, mkT ts) :: R) := by
  have k := (h.x.newT hn).s
  rw [List.map_fst_zip (by omega), List.map_snd_zip (by omega)] at k
  unfold mkT
  cases e : unfz ts with
  | none => exact k
  | some ds =>
    refine k.freeze ?_
    unfold T.toD
    rw [unfz_toD e]
    rfl
theorem unfz_map : ∀ ds : List PyData, unfz (ds.map T.fz) = some ds
  | [] => rfl
  | d :: ds => by simp [unfz, unfz_map ds]
/-- a tuple that was there -/
theorem RS.oldT {H : Hp} {a : Addr} {t : T} {ts : List T} {R : List Rt} (h : RS H ((.ref a, t) :: R)) (e : SW.kidsT (true, t) = some ts) : RS H ((.ref a, mkT ts) :: R) := by
  unfold SW.kidsT at e
  split at e
  · rename_i ds hg
    cases hg
    cases e
    unfold mkT
    rw [unfz_map]
    exact h
  · rename_i ts' hg
    cases hg
    simp only [Bool.true_or, if_true] at e
    cases e
    unfold mkT
    cases e : unfz ts with
    | none => exact h
    | some ds =>
      refine h.freeze ?_
      unfold T.toD
      rw [unfz_toD e]
      rfl
  · cases e
end SW
end
section
/-! SWf: the operators. -/
namespace SW
open PySem PySem.Spec PyProof.Rows L2

theorem sizeL_eq : sizeL = sizeLine := by rw [sizeLine_eq]; rfl
/-- two arguments, a new thing -/
def rB (g : Ag → Ag → Option T) : R2 := fun x y H Q => ∃ R o1 o2 a b t, RS H (o1 ++ (o2 ++ R)) ∧ Has R x a o1 ∧ Has R y b o2 ∧ g a b = some t ∧ ∀ z H', RS H' ((z, t) :: R) → Q z H'
theorem ag_int {a : Ag} {i : Int} (h : a.int = some i) : a.2 = tI i := by
  unfold Ag.int at h
  split at h
  · rename_i j e
    cases h
    exact e
  · cases h
theorem ag_str {a : Ag} {i : Str} (h : a.str = some i) : a.2 = tS i := by
  unfold Ag.str at h
  split at h
  · rename_i j e
    cases h
    exact e
  · cases h
section
variable {H : Hp} {R o1 o2 : List Rt} {x y : V} {a b : Ag}
theorem m1 (ha : Has R x a o1) : (x, a.2) ∈ o1 ++ (o2 ++ R) := ha.mem2 (fun r m => List.mem_append_left _ m) fun r m => List.mem_append_right _ (List.mem_append_right _ m)
theorem m2 (hb : Has R y b o2) : (y, b.2) ∈ o1 ++ (o2 ++ R) := hb.mem2 (fun r m => List.mem_append_right _ (List.mem_append_left _ m)) fun r m => List.mem_append_right _ (List.mem_append_right _ m)
theorem get_int {L : List Rt} {i : Int} (h : RS H L) (m : (x, a.2) ∈ L) (e : a.int = some i) : x = .int i := by
  rw [ag_int e] at m
  exact (h.viewM m rfl).int
theorem get_str {L : List Rt} {i : Str} (h : RS H L) (m : (x, a.2) ∈ L) (e : a.str = some i) : x = .str i := by
  rw [ag_str e] at m
  exact (h.viewM m rfl).str
end
/-- the items of two list arguments -/
theorem kids2 {H : Hp} {R o1 o2 : List Rt} {x y : V} {a b : Ag} {ts us : List T} (h : RS H (o1 ++ (o2 ++ R))) (ha : Has R x a o1) (hb : Has R y b o2) (ea : kidsL a = some ts) (eb : kidsL b = some us) :
    ∃ p q vs ws, x = .ref p ∧ y = .ref q ∧ Rd H p (.lst vs) ∧ Rd H q (.lst ws) ∧ vs.length = ts.length ∧ ws.length = us.length ∧ RS H ((vs ++ ws).zip (ts ++ us) ++ R) := by
  obtain ⟨p, vs, e1, r1, l1, k1⟩ := h.kidsL ha (fun r m => List.mem_append_right _ m) ea
  have k2 : RS H (o2 ++ (vs.zip ts ++ R)) := k1.perm (by rw [← List.append_assoc, ← List.append_assoc]; exact List.perm_append_comm.append_right _)
  obtain ⟨q, ws, e2, r2, l2, k3⟩ := k2.kidsL hb (fun r m => List.mem_append_right _ m) eb
  refine ⟨p, q, vs, ws, e1, e2, r1, r2, l1, l2, ?_⟩
  rw [List.zip_append l1]
  refine k3.perm ?_
  rw [← List.append_assoc]
  exact List.perm_append_comm.append_right _
theorem kids2T {H : Hp} {R o1 o2 : List Rt} {x y : V} {a b : Ag} {ts us : List T} (h : RS H (o1 ++ (o2 ++ R))) (ha : Has R x a o1) (hb : Has R y b o2) (ea : kidsT a = some ts) (eb : kidsT b = some us) :
    ∃ p q vs ws, x = .ref p ∧ y = .ref q ∧ Rd H p (.tup vs) ∧ Rd H q (.tup ws) ∧ vs.length = ts.length ∧ ws.length = us.length ∧ RS H ((vs ++ ws).zip (ts ++ us) ++ R) := by
  obtain ⟨p, vs, e1, r1, l1, k1⟩ := h.kidsT ha (fun r m => List.mem_append_right _ m) ea
  have k2 : RS H (o2 ++ (vs.zip ts ++ R)) := k1.perm (by rw [← List.append_assoc, ← List.append_assoc]; exact List.perm_append_comm.append_right _)
  obtain ⟨q, ws, e2, r2, l2, k3⟩ := k2.kidsT hb (fun r m => List.mem_append_right _ m) eb
  refine ⟨p, q, vs, ws, e1, e2, r1, r2, l1, l2, ?_⟩
  rw [List.zip_append l1]
  refine k3.perm ?_
  rw [← List.append_assoc]
  exact List.perm_append_comm.append_right _
section
variable {X : Cx} {pins : List (Addr × Obj)} {σ : L2.St} {H : Hp} {s : Shared}
theorem rdL (I : Inv X pins σ H s) {p : Addr} {vs : List V} (h : Rd H p (.lst vs)) : vs.length ≤ sizeLine ∧ ∃ (its : List Value) (n : Nat), Vals vs its ∧ vs.length = its.length ∧ s.heap.get? p = some { cls := .type "list", data := .seq its.toArray n } := by
  obtain ⟨z, its, n, r, e⟩ := h.ok I.hok
  exact ⟨z, its, n, r, r.length, e⟩
theorem cat_rd {p q : Addr} {vs ws : List V} {Q : VK} (I : Inv X pins σ H s) (h1 : Rd H p (.lst vs)) (h2 : Rd H q (.lst ws)) (hz : vs.length + ws.length ≤ sizeLine) (h : ∀ l, H l = none → Q (.ref l) (upd H l (.lst (vs ++ ws)))) :
    wpAny (model X.prog X.w) X.A (binaryOp .Add (.ref p) (.ref q)) (EP X pins σ Q) X.xe s := by
  obtain ⟨_, its, n, r, hl, e⟩ := rdL I h1
  obtain ⟨_, its2, n2, r2, hl2, e2⟩ := rdL I h2
  apply PySem.P.add_list e e2
  · have app : its.toArray ++ its2.toArray = (its ++ its2).toArray := by simp
    rw [app]
    have new := I.lnew (t' := s.toks) (r.append r2) (by rw [List.length_append]; exact hz)
    exact ⟨.ref _, _, new, rfl, h _ I.fresh⟩
end
section
variable {X : Cx}
theorem op_addT : OpR X (binaryOp .Add) (rB addT) := by
  intro pins s σ H x y v u Q I rx ry h
  obtain ⟨R, o1, o2, a, b, t, rs, ha, hb, e, q⟩ := h
  have ma := m1 (o2 := o2) ha
  have mb := m2 (o1 := o1) hb
  have rR : RS H R := rs.dropL.dropL
  unfold addT at e
  split at e
  · rename_i i j ei ej
    cases e
    rw [get_int rs ma ei] at rx
    rw [get_int rs mb ej] at ry
    exact op_add pins s σ H _ _ v u Q I rx ry ⟨i, j, rfl, rfl, q _ _ (rR.addI _)⟩
  · split at e
    · rename_i i j ei ej
      split at e
      · rename_i hz
        cases e
        rw [get_str rs ma ei] at rx
        rw [get_str rs mb ej] at ry
        exact op_add_str pins s σ H _ _ v u Q I rx ry ⟨i, j, rfl, rfl, by rw [← sizeL_eq]; exact hz, q _ _ (rR.addS _)⟩
      · cases e
    · split at e
      · rename_i ts us ea eb
        split at e
        · rename_i hz
          cases e
          obtain ⟨p, p2, vs, ws, rfl, rfl, r1, r2, l1, l2, k⟩ := kids2 rs ha hb ea eb
          cases rx
          cases ry
          refine cat_rd I r1 r2 (by rw [l1, l2, ← sizeL_eq]; exact hz) fun l hn => q _ _ (k.newL ?_ hn)
          rw [List.length_append, List.length_append, l1, l2]
        · cases e
      · split at e
        · rename_i ts us ea eb
          split at e
          · rename_i hz
            cases e
            simp only [Bool.and_eq_true, decide_eq_true_eq, Bool.not_eq_true'] at hz
            obtain ⟨⟨hz, n1⟩, n2⟩ := hz
            obtain ⟨p, p2, vs, ws, rfl, rfl, r1, r2, l1, l2, k⟩ := kids2T rs ha hb ea eb
            refine op_catT pins s σ H _ _ v u Q I rx ry ⟨p, p2, vs, ws, rfl, rfl, .inl r1, .inl r2, ?_, by rw [l1, l2, ← sizeL_eq]; exact hz, fun z => ?_, fun _ l hn => q _ _ (k.newT ?_ hn)⟩
            · intro z
              subst z
              cases ts with
              | nil => cases n1
              | cons _ _ => cases l1
            · subst z
              cases us with
              | nil => cases n2
              | cons _ _ => cases l2
            · rw [List.length_append, List.length_append, l1, l2]
          · cases e
        · cases e
theorem op_int2 {op : Operator} {f : Int → Int → Option T} {C : Int → Int → Prop} {g : Int → Int → Int} (ho : OpR X (binaryOp op) (rI C fun i j => .int (g i j))) (hf : ∀ i j t, f i j = some t → C i j ∧ t = tI (g i j)) : OpR X (binaryOp op) (rB (int2 f)) := by
  intro pins s σ H x y v u Q I rx ry h
  obtain ⟨R, o1, o2, a, b, t, rs, ha, hb, e, q⟩ := h
  have ma := m1 (o2 := o2) ha
  have mb := m2 (o1 := o1) hb
  have rR : RS H R := rs.dropL.dropL
  unfold int2 at e
  split at e
  · rename_i i j ei ej
    obtain ⟨c, rfl⟩ := hf i j t e
    rw [get_int rs ma ei] at rx
    rw [get_int rs mb ej] at ry
    exact ho pins s σ H _ _ v u Q I rx ry ⟨i, j, rfl, rfl, c, q _ _ (rR.addI _)⟩
  · cases e
theorem op_sub' : OpR X (binaryOp .Sub) (rI (fun _ _ => True) fun i j => .int (i - j)) := by
  intro pins s σ H x y v u Q I rx ry ⟨i, j, e1, e2, _, q⟩
  exact op_sub pins s σ H x y v u Q I rx ry ⟨i, j, e1, e2, q⟩
theorem op_powW : OpR X (binaryOp .Pow) (rI (fun i j => powOk i j = true) fun i j => .int (i ^ j.toNat)) := opI fun i j _ _ _ _ _ hc q => by
  unfold powOk at hc
  simp only [Bool.and_eq_true, decide_eq_true_eq] at hc
  obtain ⟨⟨h0, h1⟩, h2⟩ := hc
  refine pow_int h0 ?_ q
  have hb : Builtin.Int.intBits i ≤ 256 := by
    unfold Builtin.Int.intBits
    split <;> omega
  have : (Builtin.Int.intBits i : Int) * j ≤ 256 * 1000 := Int.mul_le_mul (by omega) h1 h0 (by omega)
  omega
theorem vals_rep_all {ts : List T} {vs : List V} (k : Nat) (l : vs.length = ts.length) : ((List.replicate k vs).flatten).length = ((List.replicate k ts).flatten).length := by
  simp [List.length_flatten, l]
/-- frozen roots as often as one likes -/
theorem RP.more {G H : Hp} {ps : List (V × T)} (h : RP G H ps []) : ∀ k : Nat, RP G H (List.replicate k ps).flatten []
  | 0 => .nil
  | k + 1 => by
    rw [List.replicate_succ, List.flatten_cons]
    exact h.append (RP.more h k)
theorem zip_rep {ts : List T} {vs : List V} (l : vs.length = ts.length) : ∀ k : Nat, (List.replicate k vs).flatten.zip (List.replicate k ts).flatten = (List.replicate k (vs.zip ts)).flatten
  | 0 => rfl
  | k + 1 => by
    simp only [List.replicate_succ, List.flatten_cons]
    rw [List.zip_append l, zip_rep l k]
theorem RS.rep {H : Hp} {vs : List V} {ts : List T} {R : List Rt} (h : RS H (vs.zip ts ++ R)) (l : vs.length = ts.length) (al : ts.all T.isFz = true) (k : Nat) : RS H ((List.replicate k vs).flatten.zip (List.replicate k ts).flatten ++ R) := by
  obtain ⟨G, cs, s, r, nd, no⟩ := h
  obtain ⟨as, bs, rfl, r1, r2⟩ := r.split
  have e : (vs.zip ts).map (·.2) = ts := List.map_snd_zip (by omega)
  have r3 := r1.dupK (by rw [e]; exact al)
  rw [zip_rep l]
  exact ⟨G, bs, s, (r3.more k).append r2, (List.nodup_append.mp nd).2.1, fun a m => no a (List.mem_append_right _ m)⟩
theorem op_mulT : OpR X (binaryOp .Mult) (rB mulT) := by
  intro pins s σ H x y v u Q I rx ry h
  obtain ⟨R, o1, o2, a, b, t, rs, ha, hb, e, q⟩ := h
  have ma := m1 (o2 := o2) ha
  have mb := m2 (o1 := o1) hb
  have rR : RS H R := rs.dropL.dropL
  unfold mulT at e
  split at e
  · rename_i i j ei ej
    split at e
    · rename_i hc
      cases e
      rw [get_int rs ma ei] at rx
      rw [get_int rs mb ej] at ry
      exact op_mulW pins s σ H _ _ v u Q I rx ry ⟨i, j, rfl, rfl, (show i.natAbs.log2 + j.natAbs.log2 < 1000000 by unfold mulOk at hc; exact of_decide_eq_true hc), q _ _ (rR.addI _)⟩
    · cases e
  · rename_i k ej ei
    split at e
    · rename_i ts ea
      split at e
      · rename_i hz
        cases e
        simp only [Bool.and_eq_true, decide_eq_true_eq] at hz
        obtain ⟨⟨⟨al, h1⟩, h2⟩, hz⟩ := hz
        obtain ⟨p, vs, rfl, r1, l1, k1⟩ := rs.kidsL ha (fun r m => List.mem_append_right _ m) ea
        rw [get_int rs mb ej] at ry
        have k2 : RS H (o2 ++ (vs.zip ts ++ R)) := k1.perm (by rw [← List.append_assoc, ← List.append_assoc]; exact List.perm_append_comm.append_right _)
        have k3 := k2.dropL.rep l1 al k.toNat
        cases rx
        obtain ⟨tk, rfl⟩ := ry
        obtain ⟨z, its, n, r, hl, e1⟩ := rdL I r1
        rw [sizeL_eq] at hz
        have hlen : its.toArray.size * k.toNat ≤ sizeLine := by rw [List.size_toArray, ← hl, l1]; exact hz
        have cap : ¬ its.toArray.size * k.toNat > (2 ^ 63 - 1) / 8 := by
          have : (sizeLine : Nat) ≤ (2 ^ 63 - 1) / 8 := by decide
          omega
        have fit : ¬ (!Builtin.List.listFitsIndex k) = true := by rw [fitsIndex_both h1 h2]; simp
        have long : ¬ Builtin.List.listTooLong (its.toArray.size * k.toNat) = true := by rw [notLongL hlen]; simp
        have new : List.foldl (fun x1 x2 => x1 ++ x2) #[] (List.replicate (if its.toArray.isEmpty = true then 0 else k.toNat) its.toArray) = (List.replicate k.toNat its).flatten.toArray := by
          have f0 : ∀ m : Nat, List.foldl (fun x1 x2 => x1 ++ x2) #[] (List.replicate m its.toArray) = (List.replicate m its).flatten.toArray := fun m => by
            have fr := foldl_rep its m []
            rw [List.nil_append] at fr
            exact fr
          rw [f0]
          cases its with
          | nil => simp
          | cons _ _ => rw [if_neg (by simp)]
        have tyl : s.TypeIs (.ref p) "list" := ⟨_, e1, rfl⟩
        refine wpAny_binaryOp_repeat_ref (T := "list") (U := "int") (by decide) tyl (fun s' => typeIs_int s' k tk) noFill_list_mul F.fills_int_mul F.slot_int_rmul repeat_list F.slot_int_index.lookup ?_
        refine call_meets F.slot_int_rmul (typeIs_int s k tk) F.entry_int_rmul (F.args_int_rmul_2 _ _) (int___rmul___int_list k tk p its.toArray n) ⟨e1, rfl, tyl, ?_⟩
        refine call_meets F.slot_list_mul tyl F.entry_list_mul (F.args_list_mul_2 _ _) (AutoListH.list___mul___list_int_3 p its.toArray n k tk fit cap long) ⟨e1, ?_⟩
        rw [new]
        have ok := I.lnew (t' := s.toks) (r.rep k.toNat) (by rw [PyProof.Rows.lm_len_rep_flat, Nat.mul_comm, l1]; exact hz)
        exact ⟨.ref _, _, ok, rfl, q _ _ (k3.newL (vals_rep_all _ l1) I.fresh)⟩
      · cases e
    · cases e
  · cases e
def opOf : Bop → Operator
  | .add => .Add
  | .sub => .Sub
  | .mul => .Mult
  | .fdiv => .FloorDiv
  | .mod => .Mod
  | .pow => .Pow
theorem op_bin (op : Bop) : OpR X (binaryOp (opOf op)) (rB (binT op)) := by
  cases op with
  | add => exact op_addT
  | sub => exact op_int2 op_sub' fun i j t e => ⟨trivial, (Option.some.inj e).symm⟩
  | mul => exact op_mulT
  | fdiv =>
    refine op_int2 op_fdivW fun i j t e => ?_
    split at e
    · rename_i h
      simp only [Bool.and_eq_true, decide_eq_true_eq] at h
      exact ⟨h, (Option.some.inj e).symm⟩
    · cases e
  | mod =>
    refine op_int2 op_mod fun i j t e => ?_
    split at e
    · rename_i h
      exact ⟨h, (Option.some.inj e).symm⟩
    · cases e
  | pow =>
    refine op_int2 op_powW fun i j t e => ?_
    split at e
    · rename_i h
      exact ⟨h, (Option.some.inj e).symm⟩
    · cases e
end
end SW
end
section
/-! SWg: a frozen thing reads as its datum; comparisons. -/
namespace SW
open PySem PySem.Spec PyProof.Rows L2

section
variable {X : Cx} {pins : List (Addr × Obj)} {σ : L2.St} {H : Hp} {s : Shared}
theorem kV_reads {h : Heap} {k : Key} {u : Value} (r : RelV (kV k) u) : Reads h u (kD k) [] := by
  cases k with
  | inl i =>
    obtain ⟨t, rfl⟩ := r
    exact .int i t
  | inr x =>
    obtain ⟨t, rfl⟩ := r
    exact .str x t
theorem kVs_reads {h : Heap} : ∀ {ks : List Key} {us : List Value}, Vals (ks.map kV) us → ReadsAll h us (ks.map kD) []
  | [], _, .nil => .nil
  | _ :: _, _, .cons r t => .cons (as := []) (kV_reads r) (kVs_reads t)
theorem keyIs_reads {h : Heap} {k : Key} {u : Value} (e : keyIs k u = true) : Reads h u (kD k) [] := by
  rcases keyIs_shape e with ⟨i, t, rfl, rfl⟩ | ⟨x, t, rfl, rfl⟩
  · exact .int i t
  · exact .str x t
theorem pairs_keys {h : Heap} {P : Program} {w : World} : ∀ {es : List DictEntry} {vs : List (Key × Value)}, PySem.Pairs (mixKind P w) es vs → ReadsAll h (es.map (·.key)) (vs.map fun q => kD q.1) []
  | _, _, .nil => .nil
  | _, _, .cons h1 _ r => .cons (as := []) (keyIs_reads h1) (pairs_keys r)
theorem pairs_vals {P : Program} {w : World} : ∀ {es : List DictEntry} {vs : List (Key × Value)}, PySem.Pairs (mixKind P w) es vs → es.map (·.val) = vs.map (·.2)
  | _, _, .nil => rfl
  | _, _, .cons _ h2 r => by rw [List.map_cons, List.map_cons, h2, pairs_vals r]
theorem kv_keys : ∀ {qs : List (Key × V × PyData)} {vs : List (Key × Value)}, KV (qs.map fun q => (q.1, q.2.1)) vs → vs.map (fun q => kD q.1) = qs.map fun q => kD q.1
  | [], _, .nil => rfl
  | _ :: _, _, .cons ⟨e, _⟩ r => by
    rw [List.map_cons, List.map_cons, kv_keys r]
    simp only at e
    rw [e]
theorem kv_vals : ∀ {qs : List (Key × V × PyData)} {vs : List (Key × Value)}, KV (qs.map fun q => (q.1, q.2.1)) vs → Vals ((qs.map (·.2)).map (·.1)) (vs.map (·.2))
  | [], _, .nil => .nil
  | _ :: _, _, .cons ⟨_, r1⟩ r => .cons r1 (kv_vals r)
theorem dT_vals {P : Program} {w : World} : ∀ {qs : List (List Key × V × PyData)} {xs : List (List Key × Addr × Value)},
    Paired (fun (p : List Key × V) (q : List Key × Addr × Value) => p.1 = q.1 ∧ H q.2.1 = some (.tup (p.1.map kV)) ∧ RelV p.2 q.2.2) (qs.map fun q => (q.1, q.2.1)) xs →
      Vals ((qs.map (·.2)).map (·.1)) ((xs.map (PySem.entryOfKey (tupleKind (mixKind P w)))).map (·.val))
  | [], _, .nil => .nil
  | _ :: _, _, .cons ⟨_, _, r1⟩ r => .cons r1 (dT_vals r)
theorem dT_keys (I : Inv X pins σ H s) : ∀ {qs : List (List Key × V × PyData)} {xs : List (List Key × Addr × Value)},
    Paired (fun (p : List Key × V) (q : List Key × Addr × Value) => p.1 = q.1 ∧ H q.2.1 = some (.tup (p.1.map kV)) ∧ RelV p.2 q.2.2) (qs.map fun q => (q.1, q.2.1)) xs →
      ReadsAll s.heap ((xs.map (PySem.entryOfKey (tupleKind (mixKind X.prog X.w)))).map (·.key)) (qs.map fun q => tD q.1) []
  | [], _, .nil => .nil
  | q :: _, _, .cons ⟨e, r1, _⟩ r => by
    refine .cons (as := []) ?_ (dT_keys I r)
    obtain ⟨_, its, rv, o, ho, hc, n, hd⟩ := I.hok _ _ r1
    exact .tuple ho hc hd (kVs_reads rv)
theorem rd_some {H : Hp} {a : Addr} {u : HO} (h : Rd H a u) : H a ≠ none := by
  rcases h with h | ⟨o, h⟩ <;> (rw [h]; exact fun z => nomatch z)
mutual
theorem Rp.readsN {G : Hp} (I : Inv X pins σ H s) (S : Sub G H) : ∀ {v : V} {d : PyData} {u : Value}, Rp G v d → RelV v u → ∃ as, Reads s.heap u d as ∧ ∀ b ∈ as, H b ≠ none
  | _, _, _, .non, r => by
    cases r
    exact ⟨_, .none, fun _ m => nomatch m⟩
  | _, _, _, .bl b, r => by
    cases r
    exact ⟨_, .bool b, fun _ m => nomatch m⟩
  | _, _, _, .int i, r => by
    obtain ⟨t, rfl⟩ := r
    exact ⟨_, .int i t, fun _ m => nomatch m⟩
  | _, _, _, .str x, r => by
    obtain ⟨t, rfl⟩ := r
    exact ⟨_, .str x t, fun _ m => nomatch m⟩
  | _, _, _, .lst e h, r => by
    cases r
    obtain ⟨_, its, n, rv, ho⟩ := (S _ _ e).1.ok I.hok
    obtain ⟨as, k, nn⟩ := RpP.readsAllN I S h rv
    refine ⟨_, .list ho rfl rfl k, fun b m => ?_⟩
    rcases List.mem_cons.mp m with rfl | m
    · exact rd_some (S _ _ e).1
    · exact nn b m
  | _, _, _, .tup e h, r => by
    cases r
    obtain ⟨_, its, rv, o, ho, hc, n, hd⟩ := (S _ _ e).1.ok I.hok
    obtain ⟨as, k, nn⟩ := RpP.readsAllN I S h rv
    exact ⟨_, .tuple ho hc hd k, nn⟩
  | _, _, _, .dK (qs := qs) e h, r => by
    cases r
    obtain ⟨_, _, vs, kv, o, es, ep, ho, hx, hd, _, hp, _⟩ := (S _ _ e).1.ok I.hok
    obtain ⟨as, k, nn⟩ := RpP.readsAllN (us := es.toList.map (·.val)) I S h (by rw [pairs_vals hp]; exact kv_vals kv)
    refine ⟨_, .dict ho hx.1 hd (as := []) ?_ (bs := as) ?_, fun b m => ?_⟩
    · rw [List.map_map]
      have := pairs_keys (h := s.heap) hp
      rw [kv_keys kv] at this
      exact this
    · rw [List.map_map]
      rw [List.map_map] at k
      exact k
    · rcases List.mem_cons.mp m with rfl | m
      · exact rd_some (S _ _ e).1
      · exact nn b m
  | _, _, _, .dT (qs := qs) e h, r => by
    cases r
    obtain ⟨_, _, xs, px, o, es, ep, ho, hx, hd, he, _⟩ := (S _ _ e).1.ok I.hok
    obtain ⟨as, k, nn⟩ := RpP.readsAllN (us := es.toList.map (·.val)) I S h (by rw [he]; exact dT_vals px)
    refine ⟨_, .dict ho hx.1 hd (as := []) ?_ (bs := as) ?_, fun b m => ?_⟩
    · rw [List.map_map, he]
      exact dT_keys I px
    · rw [List.map_map]
      rw [List.map_map] at k
      exact k
    · rcases List.mem_cons.mp m with rfl | m
      · exact rd_some (S _ _ e).1
      · exact nn b m
theorem RpP.readsAllN {G : Hp} (I : Inv X pins σ H s) (S : Sub G H) : ∀ {ps : List (V × PyData)} {us : List Value}, RpP G ps → Vals (ps.map (·.1)) us → ∃ as, ReadsAll s.heap us (ps.map (·.2)) as ∧ ∀ b ∈ as, H b ≠ none
  | _, _, .nil, .nil => ⟨_, .nil, fun _ m => nomatch m⟩
  | _, _, .cons h r, .cons r1 rs => by
    obtain ⟨as, k, n1⟩ := Rp.readsN I S h r1
    obtain ⟨bs, ks, n2⟩ := RpP.readsAllN I S r rs
    exact ⟨_, .cons k ks, fun b m => (List.mem_append.mp m).elim (n1 b) (n2 b)⟩
end
theorem Rp.reads {G : Hp} (I : Inv X pins σ H s) (S : Sub G H) {v : V} {d : PyData} {u : Value} (h : Rp G v d) (r : RelV v u) : ∃ as, Reads s.heap u d as :=
  let ⟨as, k, _⟩ := h.readsN I S r
  ⟨as, k⟩
theorem RpP.readsAll {G : Hp} (I : Inv X pins σ H s) (S : Sub G H) {ps : List (V × PyData)} {us : List Value} (h : RpP G ps) (r : Vals (ps.map (·.1)) us) : ∃ as, ReadsAll s.heap us (ps.map (·.2)) as :=
  let ⟨as, k, _⟩ := h.readsAllN I S r
  ⟨as, k⟩
theorem View.readsN (I : Inv X pins σ H s) {v : V} {d : PyData} {u : Value} (h : View H v d) (r : RelV v u) : ∃ as, Reads s.heap u d as ∧ ∀ b ∈ as, H b ≠ none :=
  let ⟨_, S, k⟩ := h
  k.readsN I S r
theorem View.reads (I : Inv X pins σ H s) {v : V} {d : PyData} {u : Value} (h : View H v d) (r : RelV v u) : ∃ as, Reads s.heap u d as :=
  let ⟨_, S, k⟩ := h
  k.reads I S r
theorem ViewP.readsAll (I : Inv X pins σ H s) {ps : List (V × PyData)} {us : List Value} (h : ViewP H ps) (r : Vals (ps.map (·.1)) us) : ∃ as, ReadsAll s.heap us (ps.map (·.2)) as :=
  let ⟨_, S, k⟩ := h
  k.readsAll I S r
end
end SW
end
section
/-! SWh: keys and what a dict holds at them; comparisons. -/
namespace SW
open PySem PySem.Spec PyProof.Rows L2

/-! ### keys -/
theorem keq1_kD (a b : Key) : keq1 (kD a) (kD b) = decide (a = b) := by
  cases a with
  | inl i =>
    cases b with
    | inl j => rw [key_ll]; rfl
    | inr y => rw [key_lr]; rfl
  | inr x =>
    cases b with
    | inl j => rw [key_rl]; rfl
    | inr y =>
      rw [key_rr]
      show (x == y) = _
      by_cases e : x = y
      · subst e
        simp
      · rw [decide_eq_false e]
        simpa using e
theorem keq_kD (a b : Key) : keq (kD a) (kD b) = decide (a = b) := by
  rw [← keq1_kD]
  cases a <;> cases b <;> rfl
theorem keqs_kD : ∀ a b : List Key, keqs (a.map kD) (b.map kD) = decide (a = b)
  | [], [] => rfl
  | [], _ :: _ => rfl
  | _ :: _, [] => rfl
  | x :: a, y :: b => by
    simp only [List.map_cons, keqs, keqs_kD a b, keq1_kD]
    by_cases e : x = y
    · subst e
      simp
    · simp [e]
theorem keq_tD (a b : List Key) : keq (tD a) (tD b) = decide (a = b) := keqs_kD a b
theorem isK_kD (k : Key) : isK (kD k) = true := by cases k <;> rfl
theorem isK_tD (k : List Key) : isK (tD k) = false := rfl
theorem isKT_kD (k : Key) : isKT (kD k) = false := by cases k <;> rfl
theorem isKT_tD (k : List Key) : isKT (tD k) = true := by
  show (k.map kD).all isK = true
  rw [List.all_eq_true]
  intro x m
  obtain ⟨y, _, rfl⟩ := List.mem_map.mp m
  exact isK_kD y
theorem isK_of {d : PyData} (h : isK d = true) : ∃ k, d = kD k := by
  unfold isK at h
  split at h
  · exact ⟨.inl _, rfl⟩
  · exact ⟨.inr _, rfl⟩
  · cases h
theorem isKs_of : ∀ {ds : List PyData}, ds.all isK = true → ∃ ks : List Key, ds = ks.map kD
  | [], _ => ⟨[], rfl⟩
  | d :: ds, h => by
    simp only [List.all_cons, Bool.and_eq_true] at h
    obtain ⟨k, rfl⟩ := isK_of h.1
    obtain ⟨ks, rfl⟩ := isKs_of h.2
    exact ⟨k :: ks, rfl⟩
theorem isKT_of {d : PyData} (h : isKT d = true) : ∃ ks, d = tD ks := by
  unfold isKT at h
  split at h
  · obtain ⟨ks, rfl⟩ := isKs_of h
    exact ⟨ks, rfl⟩
  · cases h
theorem kFind_of {κ β α : Type} [DecidableEq κ] (f : κ → PyData) (g : β → α) (hf : ∀ a b, keq (f a) (f b) = decide (a = b)) (k : κ) : ∀ qs : List (κ × β),
    kFind (f k) (qs.map fun q => (f q.1, g q.2)) = ((qs.find? fun q => decide (q.1 = k)).map fun q => g q.2)
  | [] => rfl
  | q :: qs => by
    simp only [List.map_cons, kFind, hf, List.find?_cons]
    by_cases e : q.1 = k
    · simp [e]
    · simp [e, kFind_of f g hf k qs]
theorem find_V {κ β : Type} [DecidableEq κ] (g : β → V) (k : κ) (qs : List (κ × β)) : valV (qs.map fun q => (q.1, g q.2)) k = ((qs.find? fun q => decide (q.1 = k)).map fun q => g q.2) := by
  unfold valV
  rw [List.find?_map]
  cases h : qs.find? fun q => decide (q.1 = k) with
  | none =>
    have : (List.find? ((fun kv : κ × V => decide (kv.1 = k)) ∘ fun q : κ × β => (q.1, g q.2)) qs) = none := h
    rw [this]
    rfl
  | some q =>
    have : (List.find? ((fun kv : κ × V => decide (kv.1 = k)) ∘ fun q : κ × β => (q.1, g q.2)) qs) = some q := h
    rw [this]
    rfl

theorem View.keyK {H : Hp} {y : V} {k : Key} (h : View H y (kD k)) : y = kV k := by
  cases k with
  | inl i => exact h.int
  | inr x => exact h.str
theorem ViewP.keys {H : Hp} : ∀ {ks : List Key} {ps : List (V × PyData)}, ViewP H ps → ps.map (·.2) = ks.map kD → ps.map (·.1) = ks.map kV
  | [], [], _, _ => rfl
  | [], _ :: _, _, e => by cases e
  | _ :: _, [], _, e => by cases e
  | k :: ks, (v, d) :: ps, h, e => by
    simp only [List.map_cons, List.cons.injEq] at e
    obtain ⟨rfl, e⟩ := e
    have h1 := (h.mem (v, kD k) List.mem_cons_self).keyK
    obtain ⟨G, s, r⟩ := h
    cases r with
    | cons _ r =>
      have := ViewP.keys ⟨G, s, r⟩ e
      simp only at h1
      simp [h1, this]
/-- a tuple stands as it is -/
theorem View.tupX {H : Hp} {x : V} {ds : List PyData} (h : View H x (.tuple ds)) : ∃ a, ∃ ps : List (V × PyData), x = .ref a ∧ ps.map (·.2) = ds ∧ H a = some (.tup (ps.map (·.1))) ∧ ViewP H ps := by
  obtain ⟨G, s, h⟩ := h
  generalize e : PyData.tuple ds = d at h
  cases h <;> first | (cases e; done) | (rename_i e1 h1; cases e; exact ⟨_, _, rfl, rfl, (s _ _ e1).2.2 rfl, G, s, h1⟩)
theorem View.keyT {H : Hp} {y : V} {ks : List Key} (h : View H y (tD ks)) : ∃ b, y = .ref b ∧ H b = some (.tup (ks.map kV)) := by
  obtain ⟨a, ps, rfl, e, h1, h2⟩ := View.tupX h
  rw [h2.keys e] at h1
  exact ⟨a, rfl, h1⟩

/-! ### what a dict holds -/
/-- the dict at a, of one kind of keys; its items ps -/
def DShape {α : Type} (H : Hp) (a : Addr) (kvs : List (PyData × α)) (ps : List (V × α)) : Prop :=
  (∃ qs : List (Key × V × α), qs.map (fun q => (kD q.1, q.2.2)) = kvs ∧ ps = qs.map (·.2) ∧ Rd H a (.dK (qs.map fun q => (q.1, q.2.1)))) ∨
    ∃ qs : List (List Key × V × α), qs.map (fun q => (tD q.1, q.2.2)) = kvs ∧ ps = qs.map (·.2) ∧ Rd H a (.dT (qs.map fun q => (q.1, q.2.1)))
/-- .. where the empty dict is of both kinds -/
inductive DLook (H : Hp) (a : Addr) (y : V) : Option V → Prop
  | gt {o : Option V} : DGet H a y o → DLook H a y o
  | eK {b : Addr} {ks : List Key} : Rd H a (.dK []) → y = .ref b → H b = some (.tup (ks.map kV)) → DLook H a y none
  | eT {k : Key} : Rd H a (.dT []) → y = kV k → DLook H a y none
def Same2 {α : Type} (ps : List (V × α)) : Option α → Option V → Prop
  | some d, some v => (v, d) ∈ ps
  | none, none => True
  | _, _ => False
theorem look_of {α : Type} {H : Hp} {a : Addr} {y : V} {k : PyData} {kvs : List (PyData × α)} {ps : List (V × α)} (h : DShape H a kvs ps) (ok : kOk k kvs = true) (hv : View H y k) : ∃ o, DLook H a y o ∧ Same2 ps (kFind k kvs) o := by
  unfold kOk at ok
  simp only [Bool.or_eq_true, Bool.and_eq_true] at ok
  rcases h with ⟨qs, rfl, rfl, r⟩ | ⟨qs, rfl, rfl, r⟩
  · rcases ok with ⟨k1, _⟩ | ⟨k1, al⟩
    · obtain ⟨k, rfl⟩ := isK_of k1
      refine ⟨_, .gt (.inl ⟨_, k, r, hv.keyK, rfl⟩), ?_⟩
      rw [find_V (fun q : V × α => q.1) k qs, kFind_of kD (fun q : V × α => q.2) keq_kD k qs]
      cases e : qs.find? fun q => decide (q.1 = k) with
      | none => trivial
      | some q => exact List.mem_map.mpr ⟨q, List.mem_of_find?_eq_some e, rfl⟩
    · obtain ⟨ks, rfl⟩ := isKT_of k1
      obtain ⟨b, rfl, hb⟩ := hv.keyT
      cases qs with
      | nil => exact ⟨none, .eK r rfl hb, trivial⟩
      | cons q qs =>
        simp only [List.map_cons, List.all_cons, Bool.and_eq_true] at al
        rw [isKT_kD] at al
        cases al.1
  · rcases ok with ⟨k1, al⟩ | ⟨k1, _⟩
    · obtain ⟨k, rfl⟩ := isK_of k1
      cases qs with
      | nil => exact ⟨none, .eT r hv.keyK, trivial⟩
      | cons q qs =>
        simp only [List.map_cons, List.all_cons, Bool.and_eq_true] at al
        rw [isK_tD] at al
        cases al.1
    · obtain ⟨ks, rfl⟩ := isKT_of k1
      obtain ⟨b, rfl, hb⟩ := hv.keyT
      refine ⟨_, .gt (.inr ⟨_, ks, b, r, rfl, hb, rfl⟩), ?_⟩
      rw [find_V (fun q : V × α => q.1) ks qs, kFind_of tD (fun q : V × α => q.2) keq_tD ks qs]
      cases e : qs.find? fun q => decide (q.1 = ks) with
      | none => trivial
      | some q => exact List.mem_map.mpr ⟨q, List.mem_of_find?_eq_some e, rfl⟩
theorem Same2.some {α : Type} {ps : List (V × α)} {d : α} {o : Option V} (h : Same2 ps (some d) o) : ∃ v, o = some v ∧ (v, d) ∈ ps := by
  cases o with
  | none => exact h.elim
  | some v => exact ⟨v, rfl, h⟩
theorem Same2.none {α : Type} {ps : List (V × α)} {o : Option V} (h : Same2 ps (none : Option α) o) : o = none := by
  cases o with
  | none => rfl
  | some v => exact h.elim
theorem Same2.isSome {α : Type} {ps : List (V × α)} {d : Option α} {o : Option V} (h : Same2 ps d o) : d.isSome = o.isSome := by
  cases d <;> cases o <;> first | rfl | exact h.elim

section
variable {X : Cx} {pins : List (Addr × Obj)} {σ : L2.St} {H : Hp} {s : Shared} {a : Addr} {y d : V} {u r : Value} {o : Option V} {A : Around} {E : Value → Shared → Prop}
theorem emptyT (I : Inv X pins σ H s) (h : Rd H a (.dK [])) : (a == sysModules) = false ∧ s.heap.DictOfH (tupleKind (mixKind X.prog X.w)) a [] := by
  obtain ⟨_, hd, vs, kv, ob, es, ep, h1, h2, h3, _, h5, _⟩ := dk_rd I.hok h
  cases kv
  refine ⟨hd, ob, es, ep, h1, h2, h3, ?_, fun x m => absurd m (List.not_mem_nil), List.nodup_nil⟩
  cases e : es.toList with
  | nil => rfl
  | cons _ _ =>
    rw [e] at h5
    cases h5
theorem emptyK (I : Inv X pins σ H s) (h : Rd H a (.dT [])) : (a == sysModules) = false ∧ s.heap.DictOf (mixKind X.prog X.w) a [] := by
  obtain ⟨_, hd, xs, kt, ob, es, ep, h1, h2, h3, h4, _⟩ := dt_rd I.hok h
  cases kt
  have e : es = #[] := Array.toList_eq_nil_iff.mp h4
  subst e
  exact ⟨hd, ob, #[], ep, h1, h2, h3, fun x m => by simp at m, .nil, List.nodup_nil⟩
theorem dl_in {Q : Value → Shared → Prop} (hu : A.units + 1 < cLine) (I : Inv X pins σ H s) (g : DLook H a y o) (ry : RelV y u) (h : ∀ s', Inv X pins σ H s' → Q (.bool o.isSome) s') :
    wpAny (model X.prog X.w) A (compareOp .In u (.ref a)) Q E s := by
  cases g with
  | gt g => exact d_in hu I g ry h
  | eK r e hb =>
    subst e
    cases ry
    obtain ⟨hd, dd⟩ := emptyT I r
    exact wpAny_in_heap (tupleKind_room_in1 hu) (key_of I.hok hb) hd dd (h _ (I.tok _))
  | eT r e =>
    subst e
    obtain ⟨hd, dd⟩ := emptyK I r
    exact wpAny_in_of (kV_is ry) hd dd.mapOf (h _ (I.tok _))
theorem dl_nin {Q : Value → Shared → Prop} (hu : A.units + 1 < cLine) (I : Inv X pins σ H s) (g : DLook H a y o) (ry : RelV y u) (h : ∀ s', Inv X pins σ H s' → Q (.bool (!o.isSome)) s') :
    wpAny (model X.prog X.w) A (compareOp .NotIn u (.ref a)) Q E s := by
  cases g with
  | gt g => exact d_notIn hu I g ry h
  | eK r e hb =>
    subst e
    cases ry
    obtain ⟨hd, dd⟩ := emptyT I r
    exact wpAny_notIn_heap (tupleKind_room_in1 hu) (key_of I.hok hb) hd dd (h _ (I.tok _))
  | eT r e =>
    subst e
    obtain ⟨hd, dd⟩ := emptyK I r
    exact wpAny_notIn_of (kV_is ry) hd dd.mapOf (h _ (I.tok _))
theorem dl_get {Q : Value → Shared → Prop} {v : V} (hu : A.units + 1 < cLine) (I : Inv X pins σ H s) (g : DLook H a y (some v)) (ry : RelV y u) (h : ∀ w' s', Inv X pins σ H s' → RelV v w' → Q w' s') :
    wpAny (model X.prog X.w) A (getItem (.ref a) u) Q E s := by
  cases g with
  | gt g => exact d_getItem hu I g ry h
theorem dl_get2 {Q : Value → Shared → Prop} (hu : A.units + 1 < cLine) (I : Inv X pins σ H s) (g : DLook H a y o) (ry : RelV y u) (rd : RelV d r) (h : ∀ w' s', Inv X pins σ H s' → RelV (o.getD d) w' → Q w' s') :
    wpAny (model X.prog X.w) A (call (.builtin "dict.get") [.ref a, u, r]) Q E s := by
  cases g with
  | gt g => exact d_get2 hu I g ry rd h
  | eK q e hb =>
    subst e
    cases ry
    obtain ⟨hd, dd⟩ := emptyT I q
    exact call_meetsIn PySem.F.slot_dict_get dd.typeIs PySem.F.entry_dict_get (PySem.F.args_dict_get_3 _ _ _) (meetsH_dict_get_default _ a _ hd r) ⟨tupleKind_room_in1 hu, _, [], key_of I.hok hb, dd, h _ _ (I.tok _) rd⟩
  | eT q e =>
    subst e
    obtain ⟨hd, dd⟩ := emptyK I q
    exact call_meetsIn PySem.F.slot_dict_get dd.typeIs PySem.F.entry_dict_get (PySem.F.args_dict_get_3 _ _ _) (meets_dict_get_default (mixKind X.prog X.w) a (kV_is ry) hd r) ⟨_, dd.mapOf, h _ _ (I.tok _) rd⟩
theorem View.shape {x : V} {kvs : List (PyData × PyData)} (h : View H x (.dict kvs)) : ∃ a ps, x = .ref a ∧ DShape H a kvs ps ∧ ViewP H ps := by
  obtain ⟨a, rfl, ⟨qs, e, r, vp⟩ | ⟨qs, e, r, vp⟩⟩ := h.dct
  · exact ⟨a, _, rfl, .inl ⟨qs, e, rfl, r⟩, vp⟩
  · exact ⟨a, _, rfl, .inr ⟨qs, e, rfl, r⟩, vp⟩
end

/-! ### comparisons -/
def copOf : Cop → CmpOp
  | .eq => .Eq
  | .ne => .NotEq
  | .lt => .Lt
  | .le => .LtE
  | .gt => .Gt
  | .ge => .GtE
  | .is => .Is
  | .isn => .IsNot
  | .inn => .In
  | .nin => .NotIn
def cmpT (op : Cop) (a b : Ag) : Option T := match a.d, b.d with
  | some p, some q => (cmpD op p q).map tB
  | _, _ => none
theorem okD_of {d : PyData} (h : okD d = true) : d.plain = true ∧ d.depth ≤ 100 := by
  unfold okD at h
  simpa using h
theorem okDs_of {ds : List PyData} (h : okDs ds = true) : PyData.plainAll ds = true ∧ PyData.depthAll ds ≤ 100 := by
  unfold okDs at h
  simpa using h
theorem ordOk_of {x y : PyData} (h : ordOk x y = true) : PySem.W.alike x y = true ∧ x ≠ .none ∧ x.depth ≤ 100 := by
  unfold ordOk at h
  simp only [Bool.and_eq_true, decide_eq_true_eq, Bool.not_eq_true'] at h
  refine ⟨h.1.1, fun e => ?_, h.2⟩
  subst e
  cases h.1.2
theorem alike_none {x y : PyData} (h : PySem.W.alike x y = true) (e : y = .none) : x = .none := by
  subst e
  cases x <;> first | rfl | cases h
theorem View.isNon {H : Hp} {x : V} {d : PyData} (h : View H x d) : decide (x = .non) = isNone d := by
  obtain ⟨G, _, h⟩ := h
  cases h <;> rfl
section
variable {X : Cx}
/-- what the model needs of a dict's object -/
def DRaw (h : Heap) (a : Addr) (n : Nat) : Prop := (a == sysModules) = false ∧ ∃ o es ep, h.get? a = some o ∧ o.ExactDict ∧ o.data = .dict es ep ∧ es.size = n
theorem DShape.raw {α : Type} {pins : List (Addr × Obj)} {σ : L2.St} {H : Hp} {s : Shared} (I : Inv X pins σ H s) {a : Addr} {kvs : List (PyData × α)} {ps : List (V × α)} (h : DShape H a kvs ps) : DRaw s.heap a kvs.length := by
  rcases h with ⟨qs, rfl, rfl, r⟩ | ⟨qs, rfl, rfl, r⟩
  · obtain ⟨_, hd, vs, kv, ob, es, ep, h1, h2, h3, _, h5, _⟩ := dk_rd I.hok r
    refine ⟨hd, ob, es, ep, h1, h2, h3, ?_⟩
    rw [← Array.length_toList, h5.length, ← Paired.length kv]
    simp
  · obtain ⟨_, hd, xs, kt, ob, es, ep, h1, h2, h3, h4, _⟩ := dt_rd I.hok r
    refine ⟨hd, ob, es, ep, h1, h2, h3, ?_⟩
    rw [← Array.length_toList, h4, List.length_map, ← Paired.length kt]
    simp
theorem DRaw.isD {s : Shared} {a : Addr} {n : Nat} (h : DRaw s.heap a n) : s.TypeIs (.ref a) "dict" :=
  let ⟨_, o, _, _, e, x, _⟩ := h
  ⟨o, e, x.1⟩
/-- dicts of different sizes, or both empty -/
theorem samePairs_sz {M : World} {P : Program} {A : Around} {E : Value → Shared → Prop} {s : Shared} {nm : String} {a b : Addr} {n m : Nat} {Q : Bool → Shared → Prop} (ha : DRaw s.heap a n) (hb : DRaw s.heap b m) (hn : n ≠ m ∨ n = 0) (h : Q (n == m) s) :
    wpAny (model P M) A (Builtin.Dict.samePairs nm a b) Q E s := by
  obtain ⟨na, oa, es, ep, hoa, _, hda, la⟩ := ha
  obtain ⟨nb, ob, es', ep', hob, _, hdb, lb⟩ := hb
  unfold Builtin.Dict.samePairs Builtin.Dict.showsAll
  rw [if_neg (by rw [na]; exact Bool.false_ne_true), if_neg (by rw [nb]; exact Bool.false_ne_true)]
  refine wpAny_bind (wpAny_pure (wpAny_bind (wpAny_pure ?_)))
  refine wpAny_bind (wpAny_dictEntries hoa hda ?_)
  dsimp only
  refine wpAny_bind (wpAny_dictEntries hob hdb ?_)
  by_cases hsz : es.size = es'.size
  · rw [if_neg (by rw [hsz]; simp)]
    have z : es.size = 0 := by omega
    have hm : (n == m) = true := by
      rw [← la, ← lb, hsz]
      simp
    rw [hm] at h
    have e0 : es = #[] := Array.eq_empty_of_size_eq_zero z
    subst e0
    refine wpAny_bind (wpAny_dictEpoch hoa hda ?_)
    simp only [Std.Legacy.Range.forIn_eq_forIn_range', Std.Legacy.Range.size, List.size_toArray, List.length_nil]
    exact wpAny_bind (wpAny_pure (wpAny_pure h))
  · have hm : (n == m) = false := by
      rw [← la, ← lb]
      simpa using hsz
    rw [hm] at h
    rw [if_pos (by simpa using hsz)]
    exact wpAny_bind (wpAny_rule (wpAny_pure h))
theorem op_cmp (hu : X.A.units + 150 < cLine) (op : Cop) (hne : op ≠ .eq ∧ op ≠ .ne) : OpR X (compareOp (copOf op)) (rB (cmpT op)) := by
  intro pins s σ H x y v u Q I rx ry h
  obtain ⟨R, o1, o2, a, b, t, rs, ha, hb, e, q⟩ := h
  have ma := m1 (o2 := o2) ha
  have mb := m2 (o1 := o1) hb
  have rR : RS H R := rs.dropL.dropL
  unfold cmpT at e
  split at e
  · rename_i p p' ea eb
    have va := rs.viewM ma ea
    have vb := rs.viewM mb eb
    obtain ⟨r, er, rfl⟩ := Option.map_eq_some_iff.mp e
    have fin : ∀ s', Inv X pins σ H s' → EP X pins σ Q (.bool r) s' := fun s' I' => ⟨.bl r, H, I', rfl, q _ _ (rR.addB r)⟩
    obtain ⟨as, ra⟩ := va.reads I rx
    obtain ⟨bs, rb⟩ := vb.reads I ry
    cases op with
    | eq => exact absurd rfl hne.1
    | ne => exact absurd rfl hne.2
    | lt =>
      simp only [cmpD, ltD] at er
      split at er
      · rename_i ok
        cases er
        obtain ⟨k1, k2, k3⟩ := ordOk_of ok
        exact PySem.W.lt_data ra rb k1 k2 (by omega) (fin s I)
      · cases er
    | gt =>
      simp only [cmpD, ltD] at er
      split at er
      · rename_i ok
        cases er
        obtain ⟨k1, k2, k3⟩ := ordOk_of ok
        have sy : PySem.W.alike p p' = true := by rw [PySem.W.alike_comm]; exact k1
        exact PySem.W.gt_data ra rb sy (fun z => k2 (alike_none k1 z)) (by omega) (fin s I)
      · cases er
    | le =>
      simp only [cmpD, ltD] at er
      split at er
      · rename_i ok
        cases er
        obtain ⟨k1, k2, k3⟩ := ordOk_of ok
        have sy : PySem.W.alike p p' = true := by rw [PySem.W.alike_comm]; exact k1
        exact PySem.W.le_data ra rb sy (fun z => k2 (alike_none k1 z)) (by omega) (fin s I)
      · cases er
    | ge =>
      simp only [cmpD, ltD] at er
      split at er
      · rename_i ok
        cases er
        obtain ⟨k1, k2, k3⟩ := ordOk_of ok
        exact PySem.W.ge_data ra rb k1 k2 (by omega) (fin s I)
      · cases er
    | is =>
      simp only [cmpD] at er
      split at er
      · cases er
        have z := vb.non
        subst z
        exact op_isN pins s σ H _ _ v u Q I rx ry ⟨rfl, by rw [va.isNon]; exact q _ _ (rR.addB _)⟩
      · cases er
        have z1 := va.bl
        have z2 := vb.bl
        subst z1 z2
        exact op_is_bl pins s σ H _ _ v u Q I rx ry ⟨_, _, rfl, rfl, by rw [← Bool.beq_eq_decide_eq]; exact q _ _ (rR.addB _)⟩
      · cases er
    | isn =>
      simp only [cmpD] at er
      split at er
      · cases er
        have z := vb.non
        subst z
        exact op_notN pins s σ H _ _ v u Q I rx ry ⟨rfl, by rw [va.isNon]; exact q _ _ (rR.addB _)⟩
      · cases er
        have z1 := va.bl
        have z2 := vb.bl
        subst z1 z2
        exact op_isnot_bl pins s σ H _ _ v u Q I rx ry ⟨_, _, rfl, rfl, by rw [← Bool.beq_eq_decide_eq]; exact q _ _ (rR.addB _)⟩
      · cases er
    | inn =>
      simp only [cmpD] at er
      unfold inD at er
      split at er
      · split at er
        · rename_i ok
          cases er
          simp only [Bool.and_eq_true] at ok
          obtain ⟨k1, k2⟩ := okD_of ok.1
          obtain ⟨k3, k4⟩ := okDs_of ok.2
          exact PySem.SeqAt.in_list_data rb ra k3 k1 (by omega) (fin s I)
        · cases er
      · split at er
        · rename_i ok
          cases er
          simp only [Bool.and_eq_true] at ok
          obtain ⟨k1, k2⟩ := okD_of ok.1
          obtain ⟨k3, k4⟩ := okDs_of ok.2
          exact PySem.SeqAt.in_tuple_data rb ra k3 k1 (by omega) (fin s I)
        · cases er
      · split at er
        · rename_i ok
          cases er
          obtain ⟨d, ps, rfl, sh, _⟩ := vb.shape
          obtain ⟨o, g, sm⟩ := look_of sh ok va
          cases ry
          refine dl_in (by omega) I g rx fun s' I' => ?_
          rw [← sm.isSome]
          exact fin s' I'
        · cases er
      · split at er
        · cases er
          have z1 := va.str
          have z2 := vb.str
          subst z1 z2
          exact op_in_str pins s σ H _ _ v u Q I rx ry ⟨_, _, rfl, rfl, q _ _ (rR.addB _)⟩
        · cases er
      · cases er
    | nin =>
      simp only [cmpD] at er
      obtain ⟨r', er2, rfl⟩ := Option.map_eq_some_iff.mp er
      unfold inD at er2
      split at er2
      · split at er2
        · rename_i ok
          have er2 := Option.some.inj er2
          subst er2
          simp only [Bool.and_eq_true] at ok
          obtain ⟨k1, k2⟩ := okD_of ok.1
          obtain ⟨k3, k4⟩ := okDs_of ok.2
          exact PySem.SeqAt.notIn_list_data rb ra k3 k1 (by omega) (fin s I)
        · cases er2
      · split at er2
        · rename_i ok
          have er2 := Option.some.inj er2
          subst er2
          simp only [Bool.and_eq_true] at ok
          obtain ⟨k1, k2⟩ := okD_of ok.1
          obtain ⟨k3, k4⟩ := okDs_of ok.2
          exact PySem.SeqAt.notIn_tuple_data rb ra k3 k1 (by omega) (fin s I)
        · cases er2
      · split at er2
        · rename_i ok
          have er2 := Option.some.inj er2
          subst er2
          obtain ⟨d, ps, rfl, sh, _⟩ := vb.shape
          obtain ⟨o, g, sm⟩ := look_of sh ok va
          cases ry
          refine dl_nin (by omega) I g rx fun s' I' => ?_
          rw [← sm.isSome]
          exact fin s' I'
        · cases er2
      · split at er2
        · have er2 := Option.some.inj er2
          subst er2
          have z1 := va.str
          have z2 := vb.str
          subst z1 z2
          exact op_notin_str pins s σ H _ _ v u Q I rx ry ⟨_, _, rfl, rfl, q _ _ (rR.addB _)⟩
        · cases er2
      · cases er2
  · cases e
end
end SW
end
section
/-! SWi: == and != (dicts with an empty one too); truth. -/
namespace SW
open PySem PySem.Spec PyProof.Rows L2

section
variable {X : Cx}
theorem eq_raw {s : Shared} {P : Program} {M : World} {A : Around} {E : Value → Shared → Prop} {a b : Addr} {n m : Nat} {Q : Value → Shared → Prop} (ha : DRaw s.heap a n) (hb : DRaw s.heap b m) (hn : n ≠ m ∨ n = 0) (hu : A.units < cLine) (h : Q (.bool (n == m)) s) :
    wpAny (model P M) A (compareOp .Eq (.ref a) (.ref b)) Q E s := by
  refine wpAny_richCompare_same_room (op := .Eq) ha.isD hb.isD PySem.F.slot_dict_eq (wpAny_call_entry PySem.F.slot_dict_eq ha.isD PySem.F.entry_dict_eq ?_ (PySem.F.args_dict_eq_2 _ _)) hu
  show wpAny _ _ (Builtin.Dict.dictSlotArgs "__eq__" ⟨[Value.ref a, Value.ref b], []⟩ >>= _) _ _ s
  refine wpAny_bind ?_
  unfold Builtin.Dict.dictSlotArgs
  refine wpAny_bind (wpAny_notOrdered_dict ha.isD (wpAny_pure ?_))
  refine wpAny_bind (wpAny_isInstance (T := "dict") hb.isD PySem.F.sub_dict_dict ?_)
  simp only [Bool.not_true, if_false, Bool.false_eq_true]
  refine wpAny_bind (wpAny_pure (wpAny_bind (wpAny_pure (wpAny_bind (samePairs_sz ha hb hn (wpAny_pure ⟨_, rfl, ?_, ?_⟩))))))
  · exact fun z => nomatch z
  · simpa using h
theorem ne_raw {s : Shared} {P : Program} {M : World} {A : Around} {E : Value → Shared → Prop} {a b : Addr} {n m : Nat} {Q : Value → Shared → Prop} (ha : DRaw s.heap a n) (hb : DRaw s.heap b m) (hn : n ≠ m ∨ n = 0) (hu : A.units < cLine) (h : Q (.bool (!(n == m))) s) :
    wpAny (model P M) A (compareOp .NotEq (.ref a) (.ref b)) Q E s := by
  refine wpAny_richCompare_same_room (op := .NotEq) ha.isD hb.isD PySem.F.slot_dict_ne (wpAny_call_entry PySem.F.slot_dict_ne ha.isD PySem.F.entry_dict_ne ?_ (PySem.F.args_dict_ne_2 _ _)) hu
  show wpAny _ _ (Builtin.Dict.dictSlotArgs "__ne__" ⟨[Value.ref a, Value.ref b], []⟩ >>= _) _ _ s
  refine wpAny_bind ?_
  unfold Builtin.Dict.dictSlotArgs
  refine wpAny_bind (wpAny_notOrdered_dict ha.isD (wpAny_pure ?_))
  refine wpAny_bind (wpAny_isInstance (T := "dict") hb.isD PySem.F.sub_dict_dict ?_)
  simp only [Bool.not_true, if_false, Bool.false_eq_true]
  refine wpAny_bind (wpAny_pure (wpAny_bind (wpAny_pure (wpAny_bind (samePairs_sz ha hb hn (wpAny_pure ⟨_, rfl, ?_, ?_⟩))))))
  · exact fun z => nomatch z
  · simpa using h
theorem emp_len {α β : Type} {a : List α} {b : List β} (h : (a.isEmpty || b.isEmpty) = true) : (a.length ≠ b.length ∨ a.length = 0) ∧ (a.length == b.length) = (a.isEmpty && b.isEmpty) := by
  cases a <;> cases b <;> simp at h ⊢
theorem op_cmpA (hu : X.A.units + 150 < cLine) (op : Cop) : OpR X (compareOp (copOf op)) (rB (cmpT op)) := by
  by_cases hne : op ≠ .eq ∧ op ≠ .ne
  · exact op_cmp hu op hne
  intro pins s σ H x y v u Q I rx ry h
  obtain ⟨R, o1, o2, a, b, t, rs, ha, hb, e, q⟩ := h
  have ma := m1 (o2 := o2) ha
  have mb := m2 (o1 := o1) hb
  have rR : RS H R := rs.dropL.dropL
  unfold cmpT at e
  split at e
  case h_2 => cases e
  rename_i p p' ea eb
  have va := rs.viewM ma ea
  have vb := rs.viewM mb eb
  obtain ⟨r, er, rfl⟩ := Option.map_eq_some_iff.mp e
  have fin : ∀ s', Inv X pins σ H s' → EP X pins σ Q (.bool r) s' := fun s' I' => ⟨.bl r, H, I', rfl, q _ _ (rR.addB r)⟩
  cases op with
  | eq =>
    simp only [cmpD] at er
    unfold eqD at er
    split at er
    · split at er
      · rename_i ok
        have er := Option.some.inj er
        simp only [Bool.and_eq_true] at ok
        obtain ⟨n1, n2⟩ := emp_len ok.1.1
        obtain ⟨d1, ps1, rfl, sh1, _⟩ := va.shape
        obtain ⟨d2, ps2, rfl, sh2, _⟩ := vb.shape
        cases rx
        cases ry
        exact eq_raw (sh1.raw I) (sh2.raw I) n1 (by omega) (by rw [n2, er]; exact fin s I)
      · cases er
    · split at er
      · rename_i ok
        have er := Option.some.inj er
        simp only [Bool.and_eq_true] at ok
        obtain ⟨k1, k2⟩ := okD_of ok.1
        obtain ⟨k3, k4⟩ := okD_of ok.2
        obtain ⟨as, ra⟩ := va.reads I rx
        obtain ⟨bs, rb⟩ := vb.reads I ry
        exact PySem.SeqAt.eq_plain ra rb k1 k3 (by omega) (by rw [er]; exact fin s I)
      · cases er
  | ne =>
    simp only [cmpD] at er
    obtain ⟨r', er2, rfl⟩ := Option.map_eq_some_iff.mp er
    unfold eqD at er2
    split at er2
    · split at er2
      · rename_i ok
        have er2 := Option.some.inj er2
        simp only [Bool.and_eq_true] at ok
        obtain ⟨n1, n2⟩ := emp_len ok.1.1
        obtain ⟨d1, ps1, rfl, sh1, _⟩ := va.shape
        obtain ⟨d2, ps2, rfl, sh2, _⟩ := vb.shape
        cases rx
        cases ry
        exact ne_raw (sh1.raw I) (sh2.raw I) n1 (by omega) (by rw [n2, er2]; exact fin s I)
      · cases er2
    · split at er2
      · rename_i ok
        have er2 := Option.some.inj er2
        simp only [Bool.and_eq_true] at ok
        obtain ⟨k1, k2⟩ := okD_of ok.1
        obtain ⟨k3, k4⟩ := okD_of ok.2
        obtain ⟨as, ra⟩ := va.reads I rx
        obtain ⟨bs, rb⟩ := vb.reads I ry
        exact PySem.SeqAt.ne_plain ra rb k1 k3 (by omega) (by rw [er2]; exact fin s I)
      · cases er2
  | _ => exact absurd (by constructor <;> exact fun z => nomatch z) hne
end
end SW
end
section
/-! SWj: what expressions do to data trees, with the rules: names, constants, operators, comparisons, tests, displays. -/
namespace SW
open PySem PySem.Spec PyProof.Rows L2

/-! ### the makers -/
def vVar (i : Nat) : VF := fun τ => (gT τ i).toD.map fun d => (.fz d, τ.set i (.fz d))
def aRef (i : Nat) : AF := fun τ => if live (gT τ i) then some (.sl i, τ) else none
def vMov (i : Nat) : VF := fun τ => if live (gT τ i) then some (gT τ i, τ.set i .gone) else none
def vCst (d : PyData) : VF := fun τ => some (.fz d, τ)
def asArg (f : VF) : AF := fun τ => (f τ).map fun p => (.tm p.1, p.2)
def asTst (f : AF) : BF := fun τ => (f τ).bind fun p => (truT (p.1.ag p.2).2).map fun b => (b, p.2)
def v1 (g : Ag → Option T) (a : AF) : VF := fun τ => (a τ).bind fun p => (g (p.1.ag p.2)).map fun t => (t, p.2)
def v2 (g : Ag → Ag → Option T) (a b : AF) : VF := fun τ => (a τ).bind fun p => (b p.2).bind fun q => (g (p.1.ag q.2) (q.1.ag q.2)).map fun t => (t, q.2)
def boolT : T → Option Bool
  | .fz (.bool b) => some b
  | _ => none
def vAnd (f g : VF) : VF := fun τ => (f τ).bind fun p => (boolT p.1).bind fun c => if c then g p.2 else some (tB false, p.2)
def vOr (f g : VF) : VF := fun τ => (f τ).bind fun p => (boolT p.1).bind fun c => if c then some (tB true, p.2) else g p.2
def vNot (f : VF) : VF := fun τ => (f τ).bind fun p => (boolT p.1).map fun c => (tB (!c), p.2)
def vOfB (f : BF) : VF := fun τ => (f τ).map fun p => (tB p.1, p.2)
def bAnd (f g : BF) : BF := fun τ => (f τ).bind fun p => if p.1 then g p.2 else some (false, p.2)
def bOr (f g : BF) : BF := fun τ => (f τ).bind fun p => if p.1 then some (true, p.2) else g p.2
def bNot (f : BF) : BF := fun τ => (f τ).map fun p => (!p.1, p.2)
def bOf (f : VF) : BF := fun τ => (f τ).bind fun p => (boolT p.1).map fun c => (c, p.2)
def vIte (c : BF) (f g : VF) : VF := fun τ => (c τ).bind fun p => if p.1 then f p.2 else g p.2
def vCmp2 (op op' : Cop) (a b c : AF) : VF := fun τ => (a τ).bind fun p => (b p.2).bind fun q => (cmpT op (p.1.ag q.2) (q.1.ag q.2)).bind fun r =>
  (boolT r).bind fun k => if k then (c q.2).bind fun z => (cmpT op' (q.1.ag z.2) (z.1.ag z.2)).map fun t => (t, z.2) else some (tB false, q.2)
def lNil : LF := fun τ => some ([], τ)
def lCons (f : VF) (g : LF) : LF := fun τ => (f τ).bind fun p => (g p.2).map fun q => (p.1 :: q.1, q.2)
def mNil : MF := fun τ => some ([], τ)
def mCons (f : AF) (g : MF) : MF := fun τ => (f τ).bind fun p => (g p.2).map fun q => (p.1 :: q.1, q.2)
def vLst (f : LF) : VF := fun τ => (f τ).bind fun p => if p.1.length ≤ sizeL then some (.lst p.1, p.2) else none
def vTup (f : LF) : VF := fun τ => (f τ).bind fun p => if p.1.length ≤ sizeL then some (mkT p.1, p.2) else none

section
variable {X : Cx} {e a b c : Expr} {pos : Pos}
theorem _root_.L2.PE.wk {t t' : TE} (h : PE X e t) (i : ∀ σ H Q, t' σ H Q → t σ H Q) : PE X e t' := ⟨fun pins s σ H Q I q => h.run pins s σ H Q I (i σ H Q q)⟩
theorem _root_.L2.PT.wk {t t' : TT} (h : PT X e t) (i : ∀ σ H Q, t' σ H Q → t σ H Q) : PT X e t' := ⟨fun pins s σ H Q I q => h.run pins s σ H Q I (i σ H Q q)⟩
theorem _root_.L2.PW.wk {t t' : TT} (h : PW X e t) (i : ∀ σ H Q, t' σ H Q → t σ H Q) : PW X e t' := ⟨fun whole pins s σ H Q I q => h.run whole pins s σ H Q I (i σ H Q q)⟩
theorem _root_.L2.PA.wk {es : List Expr} {t t' : TA} (h : PA X es t) (i : ∀ σ H Q, t' σ H Q → t σ H Q) : PA X es t' := ⟨fun pos pins s σ H Q I q => h.run pos pins s σ H Q I (i σ H Q q)⟩

/-! ### roots in another order -/
theorem RS.swap {H : Hp} {o P F : List Rt} (h : RS H (o ++ (P ++ F))) : RS H (P ++ (o ++ F)) := h.perm (by
  rw [← List.append_assoc, ← List.append_assoc]
  exact List.perm_append_comm.append_right _)
theorem RS.swap1 {H : Hp} {r : Rt} {P F : List Rt} (h : RS H (r :: (P ++ F))) : RS H (P ++ (r :: F)) := RS.swap (o := [r]) h

/-! ### names, constants -/
theorem te_var {i : Nat} {σ : L2.St} {H : Hp} {Q : VK} (h : tE (vVar i) σ H Q) : tVar i σ H Q := by
  obtain ⟨τ, F, t, τ', sl, rs, e, q⟩ := h
  obtain ⟨d, ed, e2⟩ := Option.map_eq_some_iff.mp e
  have lv : gT τ i ≠ .gone := fun z => by
    rw [z] at ed
    cases ed
  obtain ⟨v, hv⟩ := sl.bound lv
  cases e2
  refine ⟨v, hv, q v H (sl.setT ⟨v, hv⟩) ?_⟩
  have k := (rs.perm ((slr_out sl hv).append_right F)).freeze ed
  have k2 := k.dup
  refine k2.perm ?_
  exact ((slr_in sl hv).symm.append_right F).cons _
theorem pe_name {i : Nat} {x : Str} (hN : X.N[i]? = some x) (hv : Vis X.env.scope x) (hd : (x == ("__debug__" : Str)) = false := by decide) (hcd : (x == ("__classdict__" : Str)) = false := by decide) : PE X (.Name x pos) (tE (vVar i)) :=
  (pe_var hN hv hd hcd).wk fun _ _ _ h => te_var h
theorem pa_name {i : Nat} {x : Str} (hN : X.N[i]? = some x) (hv : Vis X.env.scope x) (hd : (x == ("__debug__" : Str)) = false := by decide) (hcd : (x == ("__classdict__" : Str)) = false := by decide) : PE X (.Name x pos) (tA (aRef i)) :=
  (pe_var hN hv hd hcd).wk fun σ H Q h => by
    obtain ⟨τ, F, a, τ', sl, rs, e, q⟩ := h
    unfold aRef at e
    split at e
    · rename_i lv
      cases e
      obtain ⟨v, hv⟩ := sl.bound (live_ne lv)
      exact ⟨v, hv, q v H sl hv rs⟩
    · cases e
theorem pm_name {i : Nat} {x : Str} (hN : X.N[i]? = some x) (hv : Vis X.env.scope x) (hd : (x == ("__debug__" : Str)) = false := by decide) (hcd : (x == ("__classdict__" : Str)) = false := by decide) : PE X (.Name x pos) (tE (vMov i)) :=
  (pe_var hN hv hd hcd).wk fun σ H Q h => by
    obtain ⟨τ, F, t, τ', sl, rs, e, q⟩ := h
    unfold vMov at e
    split at e
    · rename_i lv
      cases e
      obtain ⟨v, hv⟩ := sl.bound (live_ne lv)
      refine ⟨v, hv, q v H sl.gone ?_⟩
      have k := rs.perm ((slr_out sl hv).append_right F)
      have k2 : RS H ((v, gT τ i) :: ((v, .gone) :: (slx σ τ i ++ F))) := (RS.gone (v := v) k).perm (.swap _ _ _)
      refine k2.perm ?_
      exact ((slr_in sl hv).symm.append_right F).cons _
    · cases e
def isAt : PyData → Bool
  | .none => true
  | .bool _ => true
  | .int _ => true
  | .str _ => true
  | _ => false
def cV : PyData → V
  | .bool b => .bl b
  | .int i => .int i
  | .str x => .str x
  | _ => .non
theorem te_cst {d : PyData} (h : isAt d = true) {σ : L2.St} {H : Hp} {Q : VK} (h : tE (vCst d) σ H Q) : tC (cV d) σ H Q := by
  obtain ⟨τ, F, t, τ', sl, rs, e, q⟩ := h
  cases e
  refine q _ H sl ?_
  refine rs.add fun G => ?_
  cases d <;> first | exact .fz .non | exact .fz (.bl _) | exact .fz (.int _) | exact .fz (.str _) | cases h
theorem pe_cInt {i j : Int} {k : Nat} : PE X (.Constant (.int i) k pos) (tE (vCst (.int i))) := pe_int.wk fun _ _ _ h => te_cst rfl h
theorem pe_cBl {i : Bool} {k : Nat} : PE X (.Constant (.bool i) k pos) (tE (vCst (.bool i))) := pe_bl.wk fun _ _ _ h => te_cst rfl h
theorem pe_cNon {k : Nat} : PE X (.Constant .none k pos) (tE (vCst .none)) := pe_non.wk fun _ _ _ h => te_cst rfl h
theorem pe_cStr {i : Str} {k : Nat} : PE X (.Constant (.str i) k pos) (tE (vCst (.str i))) := pe_str.wk fun _ _ _ h => te_cst rfl h

/-! ### values as arguments, as tests -/
theorem ta_of {f : VF} {σ : L2.St} {H : Hp} {Q : VK} (h : tA (asArg f) σ H Q) : tE f σ H Q := by
  obtain ⟨τ, F, a, τ', sl, rs, e, q⟩ := h
  obtain ⟨p, ep, e2⟩ := Option.map_eq_some_iff.mp e
  cases e2
  exact ⟨τ, F, _, _, sl, rs, ep, fun v H' sl' rs' => q v H' sl' trivial rs'⟩
theorem pe_arg {f : VF} (h : PE X e (tE f)) : PE X e (tA (asArg f)) := h.wk fun _ _ _ k => ta_of k
/-- the argument's root, and what stands -/
theorem tru_has {H : Hp} {R o : List Rt} {x : V} {g : Ag} {k : Bool} (h : RS H (o ++ R)) (hh : Has R x g o) (e : truT g.2 = some k) (K : PySem.W.Frag) : TruV K x H k := by
  have m := hh.mem
  unfold truT at e
  split at e
  · rename_i b eg
    cases e
    rw [eg] at m
    rw [(h.viewM m rfl).bl]
    exact (rfl : _ = _)
  · rename_i b eg
    cases e
    rw [eg] at m
    rw [(h.viewM m rfl).int]
    exact (rfl : _ = _)
  · rename_i eg
    cases e
    rw [eg] at m
    rw [(h.viewM m rfl).non]
    exact (rfl : _ = _)
  · rename_i b eg
    split at e
    · rename_i hz
      cases e
      rw [eg] at m
      rw [(h.viewM m rfl).str]
      exact ⟨by rw [← sizeL_eq]; exact hz, rfl⟩
    · cases e
  · rename_i ds eg
    cases e
    rw [eg] at m
    obtain ⟨p, ps, rfl, rfl, r, _⟩ := (h.viewM m rfl).lst
    exact .inl ⟨_, .inl r, by cases ps <;> rfl⟩
  · rename_i ds eg
    cases e
    rw [eg] at m
    obtain ⟨p, ps, rfl, rfl, r, _⟩ := (h.viewM m rfl).tup
    exact .inr (.inl ⟨_, .inl r, by cases ps <;> rfl⟩)
  · rename_i ts eg
    cases e
    rw [eg] at m
    obtain ⟨r, p⟩ := mem_perm m
    obtain ⟨a, ps, rfl, rfl, r, _⟩ := (h.perm p).x.openL
    exact .inl ⟨_, .inl (.inl r), by cases ps <;> rfl⟩
  · cases e
theorem pt_arg {f : AF} (h : PE X e (tA f)) (he : ∀ whole, isTrue e X.env whole = (do let v ← whole; standAt e.pos; holding [v] (truthy v)) := by intro _; rfl) : PT X e (tT (asTst f)) :=
  (pt_truth h he).wk fun σ H Q h => by
    obtain ⟨τ, F, b, τ', sl, rs, e, q⟩ := h
    obtain ⟨p, ep, e2⟩ := Option.bind_eq_some_iff.mp e
    obtain ⟨k, ek, e3⟩ := Option.map_eq_some_iff.mp e2
    cases e3
    refine ⟨τ, F, _, _, sl, rs, ep, fun v H' sl' ok rs' => ⟨_, tru_has rs' (has_of sl' ok) ek X.K, ?_⟩⟩
    exact q H' sl' rs'.dropL
theorem pt_bool {f : VF} (h : PE X e (tE f)) (he : ∀ whole, isTrue e X.env whole = (do let v ← whole; standAt e.pos; holding [v] (truthy v)) := by intro _; rfl) : PT X e (tT (asTst (asArg f))) := pt_arg (pe_arg h) he

/-! ### one argument, two arguments -/
theorem ta1 {f : AF} {g : Ag → Option T} {σ : L2.St} {H : Hp} {Q : VK} (h : tE (v1 g f) σ H Q) : tA f σ H fun x H1 => ∃ R o a t, RS H1 (o ++ R) ∧ Has R x a o ∧ g a = some t ∧ ∀ z H', RS H' ((z, t) :: R) → Q z H' := by
  obtain ⟨τ, F, t, τ', sl, rs, e, q⟩ := h
  obtain ⟨p, ep, e2⟩ := Option.bind_eq_some_iff.mp e
  obtain ⟨t', et, e3⟩ := Option.map_eq_some_iff.mp e2
  cases e3
  exact ⟨τ, F, _, _, sl, rs, ep, fun v H' sl' ok rs' => ⟨_, _, _, _, rs', has_of sl' ok, et, fun z H2 r2 => q z H2 sl' r2⟩⟩
theorem ta2 {f g : AF} {G : Ag → Ag → Option T} {σ : L2.St} {H : Hp} {Q : VK} (h : tE (v2 G f g) σ H Q) : tA f σ H fun x H1 => tA g σ H1 fun y H2 => rB G x y H2 Q := by
  obtain ⟨τ, F, t, τ', sl, rs, e, q⟩ := h
  obtain ⟨p, ep, e2⟩ := Option.bind_eq_some_iff.mp e
  obtain ⟨p2, eq2, e3⟩ := Option.bind_eq_some_iff.mp e2
  obtain ⟨t', et, e4⟩ := Option.map_eq_some_iff.mp e3
  cases e4
  refine ⟨τ, F, _, _, sl, rs, ep, fun v H' sl' ok rs' => ⟨_, agr v p.1 ++ F, _, _, sl', rs'.swap, eq2, fun w H2 sl2 ok2 rs2 => ?_⟩⟩
  have z1 : RS H2 (agr w p2.1 ++ (agr v p.1 ++ (slr σ p2.2 ++ F))) := rs2.perm (List.Perm.append_left _ (by
    rw [← List.append_assoc, ← List.append_assoc]
    exact List.perm_append_comm.append_right _))
  exact ⟨_, agr v p.1, agr w p2.1, _, _, _, z1.swap, has_of sl2 ok, has_of sl2 ok2, et, fun z H3 r3 => q z H3 sl2 r3⟩
theorem pe_bin {f g : AF} (op : Bop) (ha : PE X a (tA f)) (hb : PE X b (tA g)) : PE X (.BinOp a (opOf op) b pos) (tE (v2 (binT op) f g)) :=
  (pe_op (op_bin op) ha hb).wk fun _ _ _ h => ta2 h
theorem pe_cmp' {f g : AF} (op : Cop) (hu : X.A.units + 150 < cLine) (ha : PE X a (tA f)) (hb : PE X b (tA g)) (hm : behindInMarks (copOf op) b = false := by with_unfolding_all rfl) : PE X (.Compare a [copOf op] [b] pos) (tE (v2 (cmpT op) f g)) :=
  (pe_cmpR (op_cmpA hu op) ha hb hm).wk fun _ _ _ h => ta2 h
def negT (a : Ag) : Option T := a.int.map fun i => tI (-i)
theorem pe_neg {f : AF} (ha : PE X a (tA f)) : PE X (.UnaryOp .USub a pos) (tE (v1 negT f)) :=
  (pe_un un_neg ha).wk fun σ H Q h => by
    obtain ⟨τ, F, p, τ', sl, rs, e, q⟩ := ta1 h
    refine ⟨τ, F, p, τ', sl, rs, e, fun v H' sl' ok rs' => ?_⟩
    obtain ⟨R, o, g, t, r1, hh, eg, q2⟩ := q v H' sl' ok rs'
    obtain ⟨i, ei, rfl⟩ := Option.map_eq_some_iff.mp eg
    have m := hh.mem
    rw [ag_int ei] at m
    exact ⟨i, (r1.viewM m rfl).int, q2 _ _ (r1.dropL.addI _)⟩
end
end SW
end
section
/-! SWk: and, or, not, if-else, chains, displays. -/
namespace SW
open PySem PySem.Spec PyProof.Rows L2
section
variable {X : Cx} {e a b c : Expr} {rest : List Expr} {pos : Pos}
theorem bool_of {t : T} {k : Bool} (h : boolT t = some k) : t = tB k := by
  unfold boolT at h
  split at h
  · cases h
    rfl
  · cases h
theorem root_bl {H : Hp} {v : V} {k : Bool} {R : List Rt} (h : RS H ((v, tB k) :: R)) : v = .bl k := (h.view rfl).bl
theorem pe_andV {f g : VF} (ha : PE X a (tE f)) (hb : PE X (.BoolOp .And (b :: rest) pos) (tE g)) : PE X (.BoolOp .And (a :: b :: rest) pos) (tE (vAnd f g)) :=
  (pe_and ha hb).wk fun σ H Q h => by
    obtain ⟨τ, F, t, τ', sl, rs, e, q⟩ := h
    obtain ⟨p, ep, e2⟩ := Option.bind_eq_some_iff.mp e
    obtain ⟨k, ek, e3⟩ := Option.bind_eq_some_iff.mp e2
    refine ⟨τ, F, _, _, sl, rs, ep, fun v H' sl' rs' => ?_⟩
    rw [bool_of ek] at rs'
    refine ⟨k, root_bl rs', ?_⟩
    cases k with
    | true => exact ⟨_, F, _, _, sl', rs'.tail, e3, q⟩
    | false =>
      cases e3
      exact q _ _ sl' (rs'.tail.addB false)
theorem pe_orV {f g : VF} (ha : PE X a (tE f)) (hb : PE X (.BoolOp .Or (b :: rest) pos) (tE g)) : PE X (.BoolOp .Or (a :: b :: rest) pos) (tE (vOr f g)) :=
  (pe_or ha hb).wk fun σ H Q h => by
    obtain ⟨τ, F, t, τ', sl, rs, e, q⟩ := h
    obtain ⟨p, ep, e2⟩ := Option.bind_eq_some_iff.mp e
    obtain ⟨k, ek, e3⟩ := Option.bind_eq_some_iff.mp e2
    refine ⟨τ, F, _, _, sl, rs, ep, fun v H' sl' rs' => ?_⟩
    rw [bool_of ek] at rs'
    refine ⟨k, root_bl rs', ?_⟩
    cases k with
    | false => exact ⟨_, F, _, _, sl', rs'.tail, e3, q⟩
    | true =>
      cases e3
      exact q _ _ sl' (rs'.tail.addB true)
theorem pe_oneV {op} {f : VF} (ha : PE X a (tE f)) : PE X (.BoolOp op [a] pos) (tE f) := pe_one ha
theorem pe_notV {f : VF} (ha : PE X a (tE f)) : PE X (.UnaryOp .Not a pos) (tE (vNot f)) :=
  (pe_not ha).wk fun σ H Q h => by
    obtain ⟨τ, F, t, τ', sl, rs, e, q⟩ := h
    obtain ⟨p, ep, e2⟩ := Option.bind_eq_some_iff.mp e
    obtain ⟨k, ek, e3⟩ := Option.map_eq_some_iff.mp e2
    cases e3
    refine ⟨τ, F, _, _, sl, rs, ep, fun v H' sl' rs' => ?_⟩
    rw [bool_of ek] at rs'
    exact ⟨k, root_bl rs', q _ _ sl' (rs'.tail.addB _)⟩
/-! tests -/
theorem pt_notB {f : BF} (ha : PT X a (tT f)) : PT X (.UnaryOp .Not a pos) (tT (bNot f)) :=
  (pt_not ha).wk fun σ H Q h => by
    obtain ⟨τ, F, t, τ', sl, rs, e, q⟩ := h
    obtain ⟨p, ep, e2⟩ := Option.map_eq_some_iff.mp e
    cases e2
    exact ⟨τ, F, _, _, sl, rs, ep, q⟩
theorem pw_andB {f g : BF} (ha : PT X a (tT f)) (hb : PW X (.BoolOp .And (b :: rest) pos) (tT g)) : PW X (.BoolOp .And (a :: b :: rest) pos) (tT (bAnd f g)) :=
  (pw_and ha hb).wk fun σ H Q h => by
    obtain ⟨τ, F, t, τ', sl, rs, e, q⟩ := h
    obtain ⟨p, ep, e2⟩ := Option.bind_eq_some_iff.mp e
    refine ⟨τ, F, _, _, sl, rs, ep, fun H' sl' rs' => ?_⟩
    cases hk : p.1 with
    | true =>
      rw [hk] at e2
      exact ⟨_, F, _, _, sl', rs', e2, q⟩
    | false =>
      rw [hk] at e2
      cases e2
      exact q _ sl' rs'
theorem pw_orB {f g : BF} (ha : PT X a (tT f)) (hb : PW X (.BoolOp .Or (b :: rest) pos) (tT g)) : PW X (.BoolOp .Or (a :: b :: rest) pos) (tT (bOr f g)) :=
  (pw_or ha hb).wk fun σ H Q h => by
    obtain ⟨τ, F, t, τ', sl, rs, e, q⟩ := h
    obtain ⟨p, ep, e2⟩ := Option.bind_eq_some_iff.mp e
    refine ⟨τ, F, _, _, sl, rs, ep, fun H' sl' rs' => ?_⟩
    cases hk : p.1 with
    | false =>
      rw [hk] at e2
      exact ⟨_, F, _, _, sl', rs', e2, q⟩
    | true =>
      rw [hk] at e2
      cases e2
      exact q _ sl' rs'
theorem pw_and1B {f : BF} (ha : PT X a (tT f)) : PW X (.BoolOp .And [a] pos) (tT f) := pw_and1 ha
theorem pw_or1B {f : BF} (ha : PT X a (tT f)) : PW X (.BoolOp .Or [a] pos) (tT f) := pw_or1 ha
theorem pt_w {f : BF} (h : PW X e (tT f)) : PT X e (tT f) := h.pt
theorem pe_ite {k : BF} {f g : VF} (hc : PT X c (tT k)) (ha : PE X a (tE f)) (hb : PE X b (tE g)) : PE X (.IfExp c a b pos) (tE (vIte k f g)) :=
  (pe_ifExp hc ha hb).wk fun σ H Q h => by
    obtain ⟨τ, F, t, τ', sl, rs, e, q⟩ := h
    obtain ⟨p, ep, e2⟩ := Option.bind_eq_some_iff.mp e
    refine ⟨τ, F, _, _, sl, rs, ep, fun H' sl' rs' => ?_⟩
    cases hk : p.1 with
    | true =>
      rw [hk] at e2
      exact ⟨_, F, _, _, sl', rs', e2, q⟩
    | false =>
      rw [hk] at e2
      exact ⟨_, F, _, _, sl', rs', e2, q⟩

/-! ### argument lists, displays -/
theorem pm_nil : PA X [] (tAs mNil) := pa_nil.wk fun σ H Q h => by
  obtain ⟨τ, F, t, τ', sl, rs, e, q⟩ := h
  cases e
  exact q [] H sl trivial rs
theorem pm_cons {es : List Expr} {f : AF} {g : MF} (ha : PE X e (tA f)) (hr : PA X es (tAs g)) (hs : starEach (e :: es) X.env = (false, eval e X.env) :: starEach es X.env := by rfl) : PA X (e :: es) (tAs (mCons f g)) :=
  (pa_cons ha hr hs).wk fun σ H Q h => by
    obtain ⟨τ, F, t, τ', sl, rs, e, q⟩ := h
    obtain ⟨p, ep, e2⟩ := Option.bind_eq_some_iff.mp e
    obtain ⟨p2, ep2, e3⟩ := Option.map_eq_some_iff.mp e2
    cases e3
    refine ⟨τ, F, _, _, sl, rs, ep, fun v H' sl' ok rs' => ⟨_, agr v p.1 ++ F, _, _, sl', rs'.swap, ep2, fun vs H2 sl2 ok2 rs2 => q (v :: vs) H2 sl2 ⟨ok, ok2⟩ ?_⟩⟩
    show RS H2 ((agr v p.1 ++ agrs vs p2.1) ++ (slr σ p2.2 ++ F))
    refine rs2.perm ?_
    rw [← List.append_assoc, ← List.append_assoc, ← List.append_assoc]
    refine List.Perm.append_right _ ?_
    refine List.perm_append_comm.trans ?_
    rw [← List.append_assoc]
theorem pl_nil : PA X [] (tLs lNil) := pa_nil.wk fun σ H Q h => by
  obtain ⟨τ, F, t, τ', sl, rs, e, q⟩ := h
  cases e
  exact q [] H rfl sl rs
theorem pl_cons {es : List Expr} {f : VF} {g : LF} (ha : PE X e (tE f)) (hr : PA X es (tLs g)) (hs : starEach (e :: es) X.env = (false, eval e X.env) :: starEach es X.env := by rfl) : PA X (e :: es) (tLs (lCons f g)) :=
  (pa_cons ha hr hs).wk fun σ H Q h => by
    obtain ⟨τ, F, t, τ', sl, rs, e, q⟩ := h
    obtain ⟨p, ep, e2⟩ := Option.bind_eq_some_iff.mp e
    obtain ⟨p2, ep2, e3⟩ := Option.map_eq_some_iff.mp e2
    cases e3
    refine ⟨τ, F, _, _, sl, rs, ep, fun v H' sl' rs' => ⟨_, (v, p.1) :: F, _, _, sl', rs'.swap1, ep2, fun vs H2 hl sl2 rs2 => q (v :: vs) H2 (by simp [hl]) sl2 ?_⟩⟩
    show RS H2 ((v, p.1) :: (vs.zip p2.1 ++ (slr σ p2.2 ++ F)))
    refine rs2.perm ?_
    rw [← List.append_assoc, ← List.append_assoc]
    exact List.perm_middle
theorem pe_tupD {es : List Expr} {x1} {f : LF} (h : PA X es (tLs f)) : PE X (.Tuple es x1 pos) (tE (vTup f)) :=
  (pe_tup h).wk fun σ H Q h => by
    obtain ⟨τ, F, t, τ', sl, rs, e, q⟩ := h
    obtain ⟨p, ep, e2⟩ := Option.bind_eq_some_iff.mp e
    split at e2
    · rename_i hz
      cases e2
      refine ⟨τ, F, _, _, sl, rs, ep, fun vs H' hl sl' rs' => ⟨by rw [hl, ← sizeL_eq]; exact hz, fun l hn => q _ _ sl' (rs'.newT hl hn)⟩⟩
    · cases e2
theorem pe_lstD {es : List Expr} {f : LF} (h : PA X es (tLs f)) : PE X (.List es pos) (tE (vLst f)) :=
  (pe_lst h).wk fun σ H Q h => by
    obtain ⟨τ, F, t, τ', sl, rs, e, q⟩ := h
    obtain ⟨p, ep, e2⟩ := Option.bind_eq_some_iff.mp e
    split at e2
    · rename_i hz
      cases e2
      refine ⟨τ, F, _, _, sl, rs, ep, fun vs H' hl sl' rs' => ⟨by rw [hl, ← sizeL_eq]; exact hz, fun l hn => q _ _ sl' (rs'.newL hl hn)⟩⟩
    · cases e2

/-! ### chains -/
theorem chain_of {f g h0 : AF} {op op' : Cop} {σ : L2.St} {H : Hp} {Q : VK} (h : tE (vCmp2 op op' f g h0) σ H Q) : tChain (rB (cmpT op)) (rB (cmpT op')) (tA f) (tA g) (tA h0) σ H Q := by
    obtain ⟨τ, F, t, τ', sl, rs, e, q⟩ := h
    obtain ⟨p, ep, e2⟩ := Option.bind_eq_some_iff.mp e
    obtain ⟨p2, ep2, e3⟩ := Option.bind_eq_some_iff.mp e2
    obtain ⟨r, er, e4⟩ := Option.bind_eq_some_iff.mp e3
    obtain ⟨k, ek, e5⟩ := Option.bind_eq_some_iff.mp e4
    have er' := bool_of ek
    refine ⟨τ, F, _, _, sl, rs, ep, fun v H' sl' ok rs' => ⟨_, agr v p.1 ++ F, _, _, sl', rs'.swap, ep2, fun w H2 sl2 ok2 rs2 => ?_⟩⟩
    have z1 : RS H2 (agr w p2.1 ++ (agr v p.1 ++ (slr σ p2.2 ++ F))) := rs2.perm (List.Perm.append_left _ (by
      rw [← List.append_assoc, ← List.append_assoc]
      exact List.perm_append_comm.append_right _))
    have hb2 : Has (agr w p2.1 ++ (slr σ p2.2 ++ F)) w (false, (p2.1.ag p2.2).2) [] := by
      refine .inr ⟨rfl, rfl, ?_⟩
      exact (has_of (F := F) sl2 ok2).mem
    have ha2 : Has (agr w p2.1 ++ (slr σ p2.2 ++ F)) v (p.1.ag p2.2) (agr v p.1) := by
      rcases has_of (F := F) sl2 ok with ⟨h1, h2⟩ | ⟨h1, h2, h3⟩
      · exact .inl ⟨h1, h2⟩
      · exact .inr ⟨h1, h2, List.mem_append_right _ h3⟩
    refine ⟨agr w p2.1 ++ (slr σ p2.2 ++ F), agr v p.1, [], _, _, r, z1.swap, ha2, hb2, er, fun z H3 r3 => ?_⟩
    rw [er'] at r3
    refine ⟨k, root_bl r3, ?_⟩
    cases k with
    | false =>
      cases e5
      exact q _ _ sl2 (r3.tail.dropL.addB false)
    | true =>
      obtain ⟨p3, ep3, e6⟩ := Option.bind_eq_some_iff.mp e5
      obtain ⟨t2, et2, e7⟩ := Option.map_eq_some_iff.mp e6
      cases e7
      refine ⟨_, agr w p2.1 ++ F, _, _, sl2, r3.tail.swap, ep3, fun w3 H4 sl4 ok4 rs4 => ?_⟩
      have z2 : RS H4 (agr w3 p3.1 ++ (agr w p2.1 ++ (slr σ p3.2 ++ F))) := rs4.perm (List.Perm.append_left _ (by
        rw [← List.append_assoc, ← List.append_assoc]
        exact List.perm_append_comm.append_right _))
      exact ⟨_, _, _, _, _, _, z2.swap, has_of sl4 ok2, has_of sl4 ok4, et2, fun z H5 r5 => q z H5 sl4 r5⟩
theorem pe_cmp3 {f g h : AF} (op op' : Cop) (hu : X.A.units + 150 < cLine) (ha : PE X a (tA f)) (hb : PE X b (tA g)) (hc : PE X c (tA h)) (hm : lastMarks [copOf op, copOf op'] [b, c] = false := by with_unfolding_all rfl) :
    PE X (.Compare a [copOf op, copOf op'] [b, c] pos) (tE (vCmp2 op op' f g h)) :=
  (pe_chain (op_cmpA hu op) (op_cmpA hu op') ha hb hc hm).wk fun _ _ _ h => chain_of h
/-- what ends in a bool, as a test -/
theorem test_of {F : VF} {T0 : TE} (i : ∀ σ H Q, tE F σ H Q → T0 σ H Q) (hb : ∀ τ p k, F τ = some p → truT p.1 = some k → p.1 = tB k) {σ : L2.St} {H : Hp} {Q : Bool → Hp → Prop} (h : tT (asTst (asArg F)) σ H Q) : tTest T0 σ H Q := by
  obtain ⟨τ, R, k, τ', sl, rs, e, q⟩ := h
  obtain ⟨p, ep, e2⟩ := Option.bind_eq_some_iff.mp e
  obtain ⟨p0, ep0, e3⟩ := Option.map_eq_some_iff.mp ep
  cases e3
  obtain ⟨k0, ek, e4⟩ := Option.map_eq_some_iff.mp e2
  cases e4
  refine i σ H _ ⟨τ, R, p0.1, p0.2, sl, rs, ep0, fun v H' sl' rs' => ⟨k, ?_, q H' sl' rs'.tail⟩⟩
  have et : p0.1 = tB k := hb τ p0 k ep0 ek
  rw [et] at rs'
  exact root_bl rs'
theorem cmpT_bool {op : Cop} {a b : Ag} {t : T} (h : cmpT op a b = some t) : ∃ k, t = tB k := by
  unfold cmpT at h
  split at h
  · obtain ⟨k, _, rfl⟩ := Option.map_eq_some_iff.mp h
    exact ⟨k, rfl⟩
  · cases h
theorem pt_cmpB {f g : AF} (op : Cop) (hu : X.A.units + 150 < cLine) (ha : PE X a (tA f)) (hb : PE X b (tA g)) (hm : behindInMarks (copOf op) b = false := by with_unfolding_all rfl) : PT X (.Compare a [copOf op] [b] pos) (tT (asTst (asArg (v2 (cmpT op) f g)))) :=
  (pt_cmpR (op_cmpA hu op) ha hb hm).wk fun σ H Q h => test_of (fun _ _ _ k => ta2 k) (fun τ p k e ek => by
    obtain ⟨p1, e1, e2⟩ := Option.bind_eq_some_iff.mp e
    obtain ⟨p2, e3, e4⟩ := Option.bind_eq_some_iff.mp e2
    obtain ⟨t, et, e5⟩ := Option.map_eq_some_iff.mp e4
    cases e5
    obtain ⟨k', rfl⟩ := cmpT_bool et
    cases ek
    rfl) h
theorem pt_cmp3B {f g h : AF} (op op' : Cop) (hu : X.A.units + 150 < cLine) (ha : PE X a (tA f)) (hb : PE X b (tA g)) (hc : PE X c (tA h)) (hm : lastMarks [copOf op, copOf op'] [b, c] = false := by with_unfolding_all rfl) :
    PT X (.Compare a [copOf op, copOf op'] [b, c] pos) (tT (asTst (asArg (vCmp2 op op' f g h)))) :=
  (pt_chain (op_cmpA hu op) (op_cmpA hu op') ha hb hc hm).wk fun σ H Q h => test_of (fun _ _ _ k => chain_of k) (fun τ p k e ek => by
    obtain ⟨p1, e1, e2⟩ := Option.bind_eq_some_iff.mp e
    obtain ⟨p2, e3, e4⟩ := Option.bind_eq_some_iff.mp e2
    obtain ⟨r, er, e5⟩ := Option.bind_eq_some_iff.mp e4
    obtain ⟨k1, ek1, e6⟩ := Option.bind_eq_some_iff.mp e5
    cases k1 with
    | false =>
      cases e6
      cases ek
      rfl
    | true =>
      obtain ⟨p3, e7, e8⟩ := Option.bind_eq_some_iff.mp e6
      obtain ⟨t, et, e9⟩ := Option.map_eq_some_iff.mp e8
      cases e9
      obtain ⟨k', rfl⟩ := cmpT_bool et
      cases ek
      rfl) h
end
end SW
end
section
/-! SWl: what blocks do to data trees, with the rules: stores, if, while, return; targets. -/
namespace SW
open PySem PySem.Spec PyProof.Rows L2

inductive Out | nx (τ : Ta) | rt (t : T) (τ : Ta) | bk (τ : Ta) | ct (τ : Ta)
abbrev BS := Ta → Option Out
/-- only the slots W may have been stored to -/
def AgW (W : List Nat) (σ σ' : L2.St) : Prop := σ'.length = σ.length ∧ ∀ i, i ∉ W → σ'[i]? = σ[i]?
theorem AgW.refl {W : List Nat} {σ : L2.St} : AgW W σ σ := ⟨rfl, fun _ _ => rfl⟩
theorem AgW.trans {W : List Nat} {σ σ1 σ2 : L2.St} (a : AgW W σ σ1) (b : AgW W σ1 σ2) : AgW W σ σ2 := ⟨b.1.trans a.1, fun i h => (b.2 i h).trans (a.2 i h)⟩
theorem AgW.mono {W W' : List Nat} {σ σ1 : L2.St} (a : AgW W σ σ1) (h : ∀ i ∈ W, i ∈ W') : AgW W' σ σ1 := ⟨a.1, fun i n => a.2 i fun m => n (h i m)⟩
theorem AgW.set {W : List Nat} {σ : L2.St} {i : Nat} {o : Option V} (h : i ∈ W) : AgW W σ (σ.set i o) := ⟨by simp, fun j n => by
  have ne : i ≠ j := fun z => by
    subst z
    exact n h
  rw [List.getElem?_set_ne ne]⟩
def Fin (W : List Nat) (σ : L2.St) (F : List Rt) (D : Ends) : Out → Prop
  | .nx τ' => ∀ σ' H', AgW W σ σ' → Sl σ' τ' → RS H' (slr σ' τ' ++ F) → D.nx σ' H'
  | .bk τ' => ∀ σ' H', AgW W σ σ' → Sl σ' τ' → RS H' (slr σ' τ' ++ F) → D.bk σ' H'
  | .ct τ' => ∀ σ' H', AgW W σ σ' → Sl σ' τ' → RS H' (slr σ' τ' ++ F) → D.ct σ' H'
  | .rt t τ' => ∀ v σ' H', AgW W σ σ' → Sl σ' τ' → RS H' ((v, t) :: (slr σ' τ' ++ F)) → D.rt v H'
theorem Fin.mono {W : List Nat} {σ σ1 : L2.St} {F : List Rt} {D : Ends} {o : Out} (h : Fin W σ F D o) (a : AgW W σ σ1) : Fin W σ1 F D o := by
  cases o with
  | nx τ => exact fun σ' H' b => h σ' H' (a.trans b)
  | bk τ => exact fun σ' H' b => h σ' H' (a.trans b)
  | ct τ => exact fun σ' H' b => h σ' H' (a.trans b)
  | rt t τ => exact fun v σ' H' b => h v σ' H' (a.trans b)
def tW (W : List Nat) (f : BS) : TS := fun D σ H => ∃ τ F o, Sl σ τ ∧ RS H (slr σ τ ++ F) ∧ f τ = some o ∧ Fin W σ F D o

/-! ### the makers -/
def sNil : BS := fun τ => some (.nx τ)
def sSeq (f g : BS) : BS := fun τ => (f τ).bind fun o => match o with
  | .nx τ1 => g τ1
  | o => some o
def sExpr (f : VF) : BS := fun τ => (f τ).map fun p => .nx p.2
def sAsg (g : Tg) (f : VF) : BS := fun τ => (f τ).bind fun p => (putG g p.1 p.2).map .nx
def sIf (c : BF) (f g : BS) : BS := fun τ => (c τ).bind fun p => if p.1 then f p.2 else g p.2
def sRet (f : VF) : BS := fun τ => (f τ).map fun p => .rt p.1 p.2
def sRetN : BS := fun τ => some (.rt (.fz .none) τ)
def sBrk : BS := fun τ => some (.bk τ)
def sCnt : BS := fun τ => some (.ct τ)
def sNever : BS := fun _ => none
def augI : Bop → Int → Int → Option Int
  | .add, z, k => some (z + k)
  | .sub, z, k => some (z - k)
  | _, _, _ => none
def sAug (i : Nat) (op : Bop) (f : AF) : BS := fun τ => match gT τ i with
  | .fz (.int z) => (f τ).bind fun p => (p.1.ag p.2).int.bind fun k => (augI op z k).map fun r => .nx (p.2.set i (tI r))
  | _ => none
def loopW (c : BF) (f : BS) : Nat → BS
  | 0 => fun _ => none
  | n + 1 => fun τ => (c τ).bind fun p => if p.1 then (f p.2).bind fun o => match o with
    | .nx τ1 => loopW c f n τ1
    | .ct τ1 => loopW c f n τ1
    | .bk τ1 => some (.nx τ1)
    | .rt r τ1 => some (.rt r τ1) else some (.nx p.2)
/-- a while: as many turns as it takes -/
noncomputable def sWhile (c : BF) (f : BS) : BS := fun τ => open Classical in if h : ∃ n o, loopW c f n τ = some o then some h.choose_spec.choose else none
theorem loopW_mono {c : BF} {f : BS} : ∀ {n : Nat} {τ : Ta} {o : Out}, loopW c f n τ = some o → loopW c f (n + 1) τ = some o
  | 0, _, _, h => by cases h
  | n + 1, τ, o, h => by
    unfold loopW at h ⊢
    obtain ⟨p, ep, e2⟩ := Option.bind_eq_some_iff.mp h
    rw [ep, Option.bind_some]
    split at e2
    · rename_i hp
      rw [if_pos hp]
      obtain ⟨o1, eo, e3⟩ := Option.bind_eq_some_iff.mp e2
      rw [eo, Option.bind_some]
      cases o1 with
      | nx τ1 => exact loopW_mono (n := n) e3
      | ct τ1 => exact loopW_mono (n := n) e3
      | bk τ1 => exact e3
      | rt r τ1 => exact e3
    · rename_i hp
      rw [if_neg hp]
      exact e2
theorem loopW_le {c : BF} {f : BS} {n m : Nat} {τ : Ta} {o : Out} (h : loopW c f n τ = some o) (l : n ≤ m) : loopW c f m τ = some o := by
  induction m with
  | zero =>
    have : n = 0 := by omega
    subst this
    exact h
  | succ m ih =>
    by_cases e : n = m + 1
    · subst e
      exact h
    · exact loopW_mono (ih (by omega))
theorem sWhile_eq {c : BF} {f : BS} {n : Nat} {τ : Ta} {o : Out} (h : loopW c f n τ = some o) : sWhile c f τ = some o := by
  unfold sWhile
  have q : ∃ n o, loopW c f n τ = some o := ⟨n, o, h⟩
  rw [dif_pos q]
  have k := q.choose_spec.choose_spec
  have k1 := loopW_le h (Nat.le_max_left n q.choose)
  have k2 := loopW_le k (Nat.le_max_right n q.choose)
  rw [k2] at k1
  exact k1
theorem sWhile_inv {c : BF} {f : BS} {τ : Ta} {o : Out} (h : sWhile c f τ = some o) : ∃ n, loopW c f n τ = some o := by
  unfold sWhile at h
  split at h
  · rename_i q
    have k := q.choose_spec.choose_spec
    cases h
    exact ⟨_, k⟩
  · cases h

section
variable {X : Cx} {st : Stmt} {sts : List Stmt} {e a b c : Expr} {pos : Pos} {W : List Nat}
theorem _root_.L2.PS.wk {t t' : TS} (h : PS X st t) (i : ∀ D σ H, t' D σ H → t D σ H) : PS X st t' := ⟨fun pins s σ H D I q => h.run pins s σ H D I (i D σ H q)⟩
theorem _root_.L2.PSs.wk {t t' : TS} (h : PSs X sts t) (i : ∀ D σ H, t' D σ H → t D σ H) : PSs X sts t' := ⟨fun pins s σ H D I q => h.run pins s σ H D I (i D σ H q)⟩
theorem ss_nil : PSs X [] (tW W sNil) := pss_nil.wk fun D σ H ⟨τ, F, o, sl, rs, e, q⟩ => by
  cases e
  exact q σ H .refl sl rs
theorem ss_cons {f g : BS} (h1 : PS X st (tW W f)) (h2 : PSs X sts (tW W g)) : PSs X (st :: sts) (tW W (sSeq f g)) :=
  (pss_cons h1 h2).wk fun D σ H ⟨τ, F, o, sl, rs, e, q⟩ => by
    obtain ⟨o1, e1, e2⟩ := Option.bind_eq_some_iff.mp e
    refine ⟨τ, F, o1, sl, rs, e1, ?_⟩
    cases o1 with
    | nx τ1 => exact fun σ' H' a sl' rs' => ⟨τ1, F, o, sl', rs', e2, q.mono a⟩
    | bk τ1 =>
      cases e2
      exact q
    | ct τ1 =>
      cases e2
      exact q
    | rt r τ1 =>
      cases e2
      exact q
theorem ss_one {f : BS} (h1 : PS X st (tW W f)) : PSs X [st] (tW W f) := pss_one h1
theorem s_pass : PS X (.Pass pos) (tW W sNil) := ps_pass.wk fun D σ H ⟨τ, F, o, sl, rs, e, q⟩ => by
  cases e
  exact q σ H .refl sl rs
theorem s_brk : PS X (.Break pos) (tW W sBrk) := ps_break.wk fun D σ H ⟨τ, F, o, sl, rs, e, q⟩ => by
  cases e
  exact q σ H .refl sl rs
theorem s_cnt : PS X (.Continue pos) (tW W sCnt) := ps_continue.wk fun D σ H ⟨τ, F, o, sl, rs, e, q⟩ => by
  cases e
  exact q σ H .refl sl rs
theorem s_never : PS X st (tW W sNever) := ps_never.wk fun D σ H ⟨τ, F, o, sl, rs, e, q⟩ => by cases e
theorem ss_never : PSs X sts (tW W sNever) := pss_never.wk fun D σ H ⟨τ, F, o, sl, rs, e, q⟩ => by cases e
theorem s_expr {f : VF} (he : PE X e (tE f)) (hs : swapsWith e none pos.line X.env = pure false := by rfl) : PS X (.Expr e pos) (tW W (sExpr f)) :=
  (ps_expr he hs).wk fun D σ H ⟨τ, F, o, sl, rs, e, q⟩ => by
    obtain ⟨p, ep, e2⟩ := Option.map_eq_some_iff.mp e
    cases e2
    exact ⟨τ, F, _, _, sl, rs, ep, fun v H' sl' rs' => q σ H' .refl sl' rs'.tail⟩
theorem s_ret {f : VF} (he : PE X e (tE f)) : PS X (.Return (some e) pos) (tW W (sRet f)) :=
  (ps_ret he).wk fun D σ H ⟨τ, F, o, sl, rs, e, q⟩ => by
    obtain ⟨p, ep, e2⟩ := Option.map_eq_some_iff.mp e
    cases e2
    exact ⟨τ, F, _, _, sl, rs, ep, fun v H' sl' rs' => q v σ H' .refl sl' rs'⟩
theorem s_retN : PS X (.Return none pos) (tW W sRetN) := ps_retN.wk fun D σ H ⟨τ, F, o, sl, rs, e, q⟩ => by
  cases e
  exact q .non σ H .refl sl rs.addN
theorem s_if {k : BF} {f g : BS} {th el : List Stmt} (hc : PT X c (tT k)) (ha : PSs X th (tW W f)) (hb : PSs X el (tW W g)) : PS X (.If c th el pos) (tW W (sIf k f g)) :=
  (ps_if hc ha hb).wk fun D σ H ⟨τ, F, o, sl, rs, e, q⟩ => by
    obtain ⟨p, ep, e2⟩ := Option.bind_eq_some_iff.mp e
    refine ⟨τ, F, _, _, sl, rs, ep, fun H' sl' rs' => ?_⟩
    cases hk : p.1 with
    | true =>
      rw [hk] at e2
      exact ⟨_, F, _, sl', rs', e2, q⟩
    | false =>
      rw [hk] at e2
      exact ⟨_, F, _, sl', rs', e2, q⟩

/-! ### targets -/
def tG (g : Tg) : TG := fun v σ H Q => ∃ τ F t τ', Sl σ τ ∧ RS H ((v, t) :: (slr σ τ ++ F)) ∧ putG g t τ = some τ' ∧ ∀ σ' H', AgW g.own σ σ' → Sl σ' τ' → RS H' (slr σ' τ' ++ F) → Q σ' H'
def tGs (g : Tg) : TGs := fun vs σ H Q => ∃ τ F ts τ', vs.length = ts.length ∧ Sl σ τ ∧ RS H (vs.zip ts ++ (slr σ τ ++ F)) ∧ putGs g ts τ = some τ' ∧ ∀ σ' H', AgW g.own σ σ' → Sl σ' τ' → RS H' (slr σ' τ' ++ F) → Q σ' H'
theorem _root_.L2.PG.wk {t t' : TG} (h : PG X e t) (i : ∀ v σ H Q, t' v σ H Q → t v σ H Q) : PG X e t' := ⟨fun pins s σ H v u Q I r q => h.run pins s σ H v u Q I r (i v σ H Q q)⟩
theorem _root_.L2.PGs.wk {es : List Expr} {t t' : TGs} (h : PGs X es t) (i : ∀ v σ H Q, t' v σ H Q → t v σ H Q) : PGs X es t' := ⟨fun pins s σ H v u Q I r q => h.run pins s σ H v u Q I r (i v σ H Q q)⟩
theorem RS.bind {H : Hp} {σ : L2.St} {τ : Ta} {i : Nat} {v : V} {t : T} {F : List Rt} (sl : Sl σ τ) (rs : RS H ((v, t) :: (slr σ τ ++ F))) : RS H (slr (σ.set i (some v)) (τ.set i t) ++ F) := by
  by_cases hi : i < σ.length
  · have hl : (slr σ τ).length = σ.length := slr_length sl.1
    have p1 : (slr σ τ).Perm ((slr σ τ)[i]'(by omega) :: slx σ τ i) := perm_take (List.getElem?_eq_getElem (by omega))
    have k : RS H ((slr σ τ)[i]'(by omega) :: ((v, t) :: (slx σ τ i ++ F))) := rs.perm (((p1.append_right F).cons _).trans (.swap _ _ _))
    exact k.tail.perm ((slr_bind sl hi).symm.append_right F)
  · rw [List.set_eq_of_length_le (by omega), List.set_eq_of_length_le (by rw [← sl.1]; omega)]
    exact rs.tail
theorem g_name {i : Nat} {x : Str} (hN : X.N.Nodup) (hi : X.N[i]? = some x) (hx : Loc X.env.scope x) (hf : X.fn x = true ∨ X.env.scope.names.lookup x = some .local := by first | exact .inl rfl | exact .inr rfl | assumption) : PG X (.Name x pos) (tG (.nm i)) :=
  (pg_name hN hi hx hf).wk fun v σ H Q h => by
    obtain ⟨τ, F, t, τ', sl, rs, e, q⟩ := h
    cases e
    exact q _ H (.set (by simp [Tg.own])) sl.set (RS.bind sl rs)
theorem gs_nil : PGs X [] (tGs .nil) := pgs_nil.wk fun v σ H Q h => by
  obtain ⟨τ, F, t, τ', hl, sl, rs, e, q⟩ := h
  cases t with
  | cons _ _ => cases e
  | nil =>
    cases e
    exact ⟨List.length_eq_zero_iff.mp hl, q σ H .refl sl rs.dropL⟩
theorem gs_cons {es : List Expr} {g r : Tg} (h1 : PG X e (tG g)) (h2 : PGs X es (tGs r)) (hs : (assignEach (e :: es) X.env).map (·.2) = assign e X.env :: (assignEach es X.env).map (·.2) := by rfl) : PGs X (e :: es) (tGs (.cons g r)) :=
  (pgs_cons h1 h2 hs).wk fun vs σ H Q h => by
    obtain ⟨τ, F, ts, τ', hl, sl, rs, e, q⟩ := h
    cases ts with
    | nil => cases e
    | cons t ts =>
      cases vs with
      | nil => cases hl
      | cons v vs =>
        obtain ⟨τ1, e1, e2⟩ := Option.bind_eq_some_iff.mp e
        refine ⟨v, vs, rfl, τ, vs.zip ts ++ F, t, τ1, sl, ?_, e1, fun σ' H' a sl' rs' => ⟨τ1, F, ts, τ', by simpa using hl, sl', rs'.swap, e2, fun σ2 H2 a2 sl2 rs2 => q σ2 H2 ?_ sl2 rs2⟩⟩
        · rw [List.zip_cons_cons, List.cons_append] at rs
          refine rs.perm (.cons _ ?_)
          rw [← List.append_assoc, ← List.append_assoc]
          exact List.perm_append_comm.append_right _
        · refine (a.mono fun i m => ?_).trans (a2.mono fun i m => ?_)
          · exact List.mem_append_left _ m
          · exact List.mem_append_right _ m
theorem g_tup {es : List Expr} {k n : Nat} {g r : Tg} (hc : X.calm = true) (h : PGs X es (tGs (.cons g r))) (hn : (assignEach es X.env).length = n := by rfl) (hst : (assignEach es X.env).findIdx? (·.1) = none := by rfl) (hl : (Tg.cons g r).len = n := by rfl) :
    PG X (.Tuple es k pos) (tG (.cons g r)) :=
  (pg_tup (n := n) hc h hn hst).wk fun v σ H Q h => by
    obtain ⟨τ, F, t, τ', sl, rs, e, q⟩ := h
    have key : ∃ ts, SW.kidsT (true, t) = some ts ∧ putGs (.cons g r) ts τ = some τ' := Option.bind_eq_some_iff.mp e
    obtain ⟨ts, ek, e⟩ := key
    have hlen : ∀ {g : Tg} {ts : List T} {τ τ' : Ta}, putGs g ts τ = some τ' → ts.length = g.len := by
      intro g
      induction g with
      | nm i =>
        intro ts τ τ' h
        cases h
      | fn f =>
        intro ts τ τ' h
        cases h
      | nil =>
        intro ts τ τ' h
        cases ts with
        | nil => rfl
        | cons _ _ => cases h
      | cons g r _ ih =>
        intro ts τ τ' h
        cases ts with
        | nil => cases h
        | cons t ts =>
          obtain ⟨τ1, _, e2⟩ := Option.bind_eq_some_iff.mp h
          simp [Tg.len, ih e2]
    obtain ⟨a, vs, rfl, r1, l1, rs1⟩ := RS.kidsT (o := [(v, t)]) (R := []) (L := slr σ τ ++ F) rs (.inl ⟨rfl, rfl⟩) (fun _ m => nomatch m) ek
    exact ⟨a, vs, rfl, .inl r1, by rw [l1, hlen e, hl], τ, F, ts, τ', l1, sl, rs1, e, q⟩

/-! ### stores -/
theorem s_asg {tg e : Expr} {g : Tg} {f : VF} (he : PE X e (tE f)) (hg : PG X tg (tG g)) (hw : ∀ i ∈ g.own, i ∈ W) (hs : swapsWithSole [tg] e pos.line X.env = pure false := by rfl) (hw2 : swappedStores [tg] e X.env = pure none := by rfl)
    (h1 : (assignEach [tg] X.env).map (·.2) = [assign tg X.env] := by rfl) : PS X (.Assign [tg] e pos) (tW W (sAsg g f)) :=
  (ps_asg he hg hs hw2 h1).wk fun D σ H ⟨τ, F, o, sl, rs, e, q⟩ => by
    obtain ⟨p, ep, e2⟩ := Option.bind_eq_some_iff.mp e
    obtain ⟨τ2, e3, e4⟩ := Option.map_eq_some_iff.mp e2
    cases e4
    exact ⟨τ, F, _, _, sl, rs, ep, fun v H' sl' rs' => ⟨_, F, _, _, sl', rs', e3, fun σ' H2 a sl2 rs2 => q σ' H2 (a.mono hw) sl2 rs2⟩⟩
theorem s_aug {i : Nat} {x : Str} {e : Expr} {f : AF} {pos' : Pos} (op : Bop) (hop : op = .add ∨ op = .sub) (hN : X.N.Nodup) (hi : X.N[i]? = some x) (hx : Loc X.env.scope x) (he : PE X e (tA f)) (hW : i ∈ W)
    (hf : X.fn x = true ∨ X.env.scope.names.lookup x = some .local := by first | exact .inl rfl | exact .inr rfl | assumption) : PS X (.AugAssign (.Name x pos') (opOf op) e pos) (tW W (sAug i op f)) := by
  have main : ∀ (f2 : Int → Int → Int), (∀ z k : Int, augI op z k = some (f2 z k)) → PIp X (opOf op) (ipI f2) → PS X (.AugAssign (.Name x pos') (opOf op) e pos) (tW W (sAug i op f)) := fun f2 hf2 hp =>
    (ps_aug hN hi hx he hp hf).wk fun D σ H ⟨τ, F, o, sl, rs, e, q⟩ => by
      unfold sAug at e
      split at e
      · rename_i z hz
        obtain ⟨p, ep, e2⟩ := Option.bind_eq_some_iff.mp e
        obtain ⟨k, ek, e3⟩ := Option.bind_eq_some_iff.mp e2
        rw [hf2] at e3
        cases e3
        obtain ⟨v, hv⟩ := sl.bound (by rw [hz]; exact fun z => nomatch z)
        have rv : (v, tI z) ∈ slr σ τ := by
          have := slr_mem sl hv
          rwa [hz] at this
        have ev := (rs.viewM (List.mem_append_left F rv) rfl).int
        subst ev
        refine ⟨_, hv, τ, F, _, _, sl, rs, ep, fun y H' sl' ok rs' => ?_⟩
        have m := (has_of (F := F) sl' ok).mem
        rw [ag_int ek] at m
        refine ⟨z, k, rfl, (rs'.viewM m rfl).int, q _ _ (.set hW) sl'.set ?_⟩
        exact RS.bind sl' (rs'.dropL.addI _)
      · cases e
  rcases hop with rfl | rfl
  · exact main (fun z k => z + k) (fun z k => rfl) ip_add
  · exact main (fun z k => z - k) (fun z k => rfl) ip_sub

/-! ### while -/
theorem s_while {c : Expr} {body : List Stmt} {k : BF} {f : BS} (hE : X.xe = fun _ _ => False) (hc : PT X c (tT k)) (hb : PSs X body (tW W f)) : PS X (.While c body [] pos) (tW W (sWhile k f)) :=
  (ps_while (by rw [hE]; exact .never) hc hb).wk fun D σ0 H0 ⟨τ0, F, o, sl0, rs0, e0, q⟩ => by
    obtain ⟨n0, e0⟩ := sWhile_inv e0
    refine ⟨fun m σ H => ∃ τ, Sl σ τ ∧ RS H (slr σ τ ++ F) ∧ AgW W σ0 σ ∧ loopW k f m τ = some o, ⟨n0, τ0, sl0, rs0, .refl, e0⟩, ?_⟩
    rintro m σ H ⟨τ, sl, rs, ag, e⟩
    cases m with
    | zero => cases e
    | succ m =>
      unfold loopW at e
      obtain ⟨p, ep, e2⟩ := Option.bind_eq_some_iff.mp e
      refine ⟨τ, F, _, _, sl, rs, ep, fun H' sl' rs' => ?_⟩
      cases hp : p.1 with
      | false =>
        rw [hp] at e2
        cases e2
        exact q σ H' ag sl' rs'
      | true =>
        rw [hp] at e2
        simp only [if_true] at e2 ⊢
        obtain ⟨o1, eo, e3⟩ := Option.bind_eq_some_iff.mp e2
        refine ⟨fun σ' H2 => ∃ τ, Sl σ' τ ∧ RS H2 (slr σ' τ ++ F) ∧ AgW W σ0 σ' ∧ loopW k f m τ = some o, fun σ' H2 z => ⟨m, by omega, z⟩, _, F, o1, sl', rs', eo, ?_⟩
        cases o1 with
        | nx τ1 => exact fun σ' H2 a sl2 rs2 => ⟨τ1, sl2, rs2, ag.trans a, e3⟩
        | ct τ1 => exact fun σ' H2 a sl2 rs2 => ⟨τ1, sl2, rs2, ag.trans a, e3⟩
        | bk τ1 =>
          cases e3
          exact fun σ' H2 a sl2 rs2 => q σ' H2 (ag.trans a) sl2 rs2
        | rt r τ1 =>
          cases e3
          exact fun v σ' H2 a sl2 rs2 => q v σ' H2 (ag.trans a) sl2 rs2
end
end SW
end
section
/-! SWm: calls of defs; a def's promise from its body. -/
namespace SW
open PySem PySem.Spec PyProof.Rows L2

/-! ### lent arguments -/
theorem allSome_len {α : Type} : ∀ {l : List (Option α)} {r : List α}, allSome l = some r → l.length = r.length
  | [], _, h => by
    cases h
    rfl
  | none :: _, _, h => by cases h
  | some x :: l, r, h => by
    obtain ⟨r', e, rfl⟩ := Option.map_eq_some_iff.mp h
    simp [allSome_len e]
theorem ags_len {σ : L2.St} : ∀ {vs : List V} {as : List A}, AgsOk σ vs as → vs.length = as.length
  | [], [], _ => rfl
  | _ :: vs, _ :: as, h => by simp [ags_len h.2]
  | [], _ :: _, h => h.elim
  | _ :: _, [], h => h.elim
theorem ags_app {σ : L2.St} : ∀ {vs ws : List V} {as bs : List A}, AgsOk σ vs as → AgsOk σ ws bs → AgsOk σ (vs ++ ws) (as ++ bs) ∧ agrs (vs ++ ws) (as ++ bs) = agrs vs as ++ agrs ws bs
  | [], _, [], _, _, k => ⟨k, rfl⟩
  | _ :: vs, ws, _ :: as, bs, h, k => by
    obtain ⟨h1, h2⟩ := ags_app h.2 k
    refine ⟨⟨h.1, h1⟩, ?_⟩
    simp only [List.cons_append, agrs, h2, List.append_assoc]
  | [], _, _ :: _, _, h, _ => h.elim
  | _ :: _, _, [], _, h, _ => h.elim
theorem take_ok {H : Hp} {σ : L2.St} {F : List Rt} : ∀ {as : List A} {vs : List V} {τ τ' : Ta} {ts : List T}, Sl σ τ → AgsOk σ vs as → RS H (agrs vs as ++ (slr σ τ ++ F)) → takeA τ as = some (ts, τ') →
    Sl σ τ' ∧ vs.length = ts.length ∧ RS H (vs.zip ts ++ (slr σ τ' ++ F))
  | [], [], τ, _, _, sl, _, rs, e => by
    cases e
    exact ⟨sl, rfl, rs⟩
  | [], _ :: _, _, _, _, _, k, _, _ => k.elim
  | _ :: _, [], _, _, _, _, k, _, _ => k.elim
  | .tm t :: as, v :: vs, τ, τ', ts, sl, k, rs, e => by
    obtain ⟨p, ep, e2⟩ := Option.map_eq_some_iff.mp e
    cases e2
    have rs' : RS H ((v, t) :: (agrs vs as ++ (slr σ τ ++ F))) := rs
    have rs2 : RS H (agrs vs as ++ (slr σ τ ++ ((v, t) :: F))) := rs'.perm (by
      rw [← List.append_assoc, ← List.append_assoc]
      exact List.perm_middle.symm)
    obtain ⟨s1, l1, r1⟩ := take_ok (F := (v, t) :: F) sl k.2 rs2 ep
    refine ⟨s1, by simp [l1], ?_⟩
    refine r1.perm ?_
    simp only [List.zip_cons_cons, List.cons_append]
    rw [← List.append_assoc, ← List.append_assoc]
    exact List.perm_middle
  | .sl i :: as, v :: vs, τ, τ', ts, sl, k, rs, e => by
    unfold takeA at e
    split at e
    · rename_i lv
      obtain ⟨p, ep, e2⟩ := Option.map_eq_some_iff.mp e
      cases e2
      have hv : σ[i]? = some (some v) := k.1
      have rs' : RS H (agrs vs as ++ (slr σ τ ++ F)) := rs
      have z1 : (agrs vs as ++ (slr σ τ ++ F)).Perm (agrs vs as ++ (((v, gT τ i) :: slx σ τ i) ++ F)) := ((slr_out sl hv).append_right F).append_left _
      have rs2 := rs'.perm z1
      have rs3 : RS H ((v, .gone) :: (agrs vs as ++ (((v, gT τ i) :: slx σ τ i) ++ F))) := rs2.gone
      have z2 : ((v, T.gone) :: (agrs vs as ++ (((v, gT τ i) :: slx σ τ i) ++ F))).Perm (agrs vs as ++ (slr σ (τ.set i .gone) ++ ((v, gT τ i) :: F))) := by
        refine List.perm_middle.symm.trans (List.Perm.append_left _ ?_)
        refine List.Perm.trans ?_ ((slr_in sl hv).append_right _).symm
        simp only [List.cons_append]
        exact (List.perm_middle.symm).cons _
      obtain ⟨s1, l1, r1⟩ := take_ok (F := (v, gT τ i) :: F) sl.gone k.2 (rs3.perm z2) ep
      refine ⟨s1, by simp [l1], ?_⟩
      refine r1.perm ?_
      simp only [List.zip_cons_cons, List.cons_append]
      rw [← List.append_assoc, ← List.append_assoc]
      exact List.perm_middle
    · cases e
theorem back_ok {H : Hp} {σ : L2.St} {F : List Rt} : ∀ {as : List A} {vs : List V} {τ : Ta} {ts : List T}, Sl σ τ → AgsOk σ vs as → vs.length = ts.length → RS H (vs.zip ts ++ (slr σ τ ++ F)) → Sl σ (backA τ as ts) ∧ RS H (slr σ (backA τ as ts) ++ F)
  | [], [], _, [], sl, _, _, rs => ⟨sl, rs⟩
  | [], _ :: _, _, _, _, k, _, _ => k.elim
  | _ :: _, [], _, _, _, k, _, _ => k.elim
  | _ :: _, _ :: _, _, [], _, _, l, _ => by cases l
  | [], [], _, _ :: _, _, _, l, _ => by cases l
  | .tm _ :: as, v :: vs, τ, t :: ts, sl, k, l, rs => back_ok (as := as) (vs := vs) (ts := ts) sl k.2 (by simpa using l) (RS.tail (r := (v, t)) rs)
  | .sl i :: as, v :: vs, τ, t :: ts, sl, k, l, rs => by
    have hv : σ[i]? = some (some v) := k.1
    have rs0 : RS H ((v, t) :: (vs.zip ts ++ (slr σ τ ++ F))) := rs
    have rs1 : RS H ((v, gT τ i) :: ((v, t) :: (vs.zip ts ++ (slx σ τ i ++ F)))) := rs0.perm (by
      refine (List.Perm.cons _ (((slr_out sl hv).append_right F).append_left _)).trans ?_
      simp only [List.cons_append]
      refine (List.Perm.cons _ List.perm_middle).trans (.swap _ _ _))
    have rs2 : RS H (vs.zip ts ++ (slr σ (τ.set i t) ++ F)) := rs1.tail.perm (by
      refine List.Perm.trans ?_ (((slr_in sl hv).append_right F).append_left _).symm
      simp only [List.cons_append]
      exact List.perm_middle.symm)
    exact back_ok (as := as) (vs := vs) (ts := ts) (τ := τ.set i t) (sl.setT ⟨v, hv⟩) k.2 (by simpa using l) rs2

/-! ### binding -/
structure Bnd (K : PySem.W.Frag) (fd : FuncData) (ps : List Str) (n : Nat) (ks : List Str) (ar : List Nat) (dn : List PyData) : Prop where
  pm : ar.Perm (List.range ps.length)
  len : n + ks.length + dn.length = ps.length
  at_ : dn.all isAt = true
  to : ∃ ds, Vals (dn.map cV) ds ∧ ∀ (s : Shared) (us ws : List Value), K.In s.heap → us.length = n → ws.length = ks.length → BindsTo s fd ⟨us, ks.zip ws⟩ (ps.zip (ar.map fun j => (us ++ (ws ++ ds)).getD j .none))
section
variable {K : PySem.W.Frag} {x qual : Str} {params : Arguments} {body : List Stmt} {scope : Scope} {dvs : List V} {f : Addr} {fd : FuncData} {ps : List Str}
theorem bnd_all (F : FunD K x qual params body scope [] [] f fd) (n : Nat) (ks : List Str) (ar : List Nat) (pm : ar.Perm (List.range ps.length)) (len : n + ks.length + 0 = ps.length)
    (h : ∀ (kV doc pm : Value) (an : Option Addr) (cdv ct : Value) (us ws : List Value), us.length = n → ws.length = ks.length → bindArgs (PySem.W.fnOf x qual params body scope .none kV doc pm an cdv ct) ⟨us, ks.zip ws⟩ = pure (ps.zip (ar.map fun j => (us ++ (ws ++ [])).getD j .none))) :
    Bnd K fd ps n ks ar [] := by
  refine ⟨pm, len, rfl, [], .nil, ?_⟩
  obtain ⟨oc, od, dV, kV, doc, pm, an, cdv, ct, osl, rfl, lk, hcd, hD, hK⟩ := F.ex
  rcases hD with ⟨_, rfl⟩ | ⟨e, _⟩
  · exact fun s us ws _ l1 l2 => .of_eq (h kV doc pm an cdv ct us ws l1 l2)
  · exact absurd rfl e
/-- with defaults: those from j on fill up -/
theorem bnd_dfl (F : FunD K x qual params body scope dvs [] f fd) (n : Nat) (ks : List Str) (ar : List Nat) (dn : List PyData) (j : Nat) (hd : dvs ≠ []) (hj : dvs.drop j = dn.map cV) (at_ : dn.all isAt = true) (pm : ar.Perm (List.range ps.length)) (len : n + ks.length + dn.length = ps.length)
    (h : ∀ (T : Addr) (kV doc pm : Value) (an : Option Addr) (cdv ct : Value) (us ws its : List Value), us.length = n → ws.length = ks.length → its.length = dvs.length →
      ∃ k, bindArgs (PySem.W.fnOf x qual params body scope (.ref T) kV doc pm an cdv ct) ⟨us, ks.zip ws⟩ = seqItems? (.ref T) >>= k ∧ k (some its.toArray) = pure (ps.zip (ar.map fun i => (us ++ (ws ++ its.drop j)).getD i .none))) :
    Bnd K fd ps n ks ar dn := by
  obtain ⟨oc, od, dV, kV, doc, pm', an, cdv, ct, osl, rfl, lk, hcd, hD, hK⟩ := F.ex
  rcases hD with ⟨e, _⟩ | ⟨_, T, o, its, m, rfl, lT, oT, rT⟩
  · exact absurd e hd
  · refine ⟨pm, len, at_, its.drop j, by rw [← hj]; exact rT.drop j, fun s us ws X l1 l2 => ?_⟩
    obtain ⟨k, e1, e2⟩ := h T kV doc pm' an cdv ct us ws its l1 l2 rT.length.symm
    refine BindsTo.of_looks fun M => ?_
    rw [e1]
    exact looks_items X lT oT (.of_pure e2)
end
theorem vals_getD {us : List Value} {vs : List V} (r : Vals vs us) (j : Nat) : RelV (vs.getD j .non) (us.getD j .none) := by
  rw [List.getD_eq_getElem?_getD, List.getD_eq_getElem?_getD]
  cases e : vs[j]? with
  | none =>
    rw [r.none_of e]
    exact (rfl : _ = _)
  | some v =>
    obtain ⟨u, e2, r2⟩ := r.get e
    rw [e2]
    exact r2
theorem vals_map {us : List Value} {vs : List V} (r : Vals vs us) : ∀ ar : List Nat, Vals (ar.map fun j => vs.getD j .non) (ar.map fun j => us.getD j .none)
  | [] => .nil
  | j :: ar => .cons (vals_getD r j) (vals_map r ar)
theorem range_getD {α : Type} (d : α) (l : List α) : (List.range l.length).map (fun j => l.getD j d) = l := by
  apply List.ext_getElem
  · simp
  · intro i h1 h2
    rw [List.getElem_map, List.getElem_range, List.getD_eq_getElem?_getD, List.getElem?_eq_getElem h2]
    rfl
theorem zip_map_getD {α β : Type} (d : α) (e : β) (xs : List α) (ys : List β) (l : xs.length = ys.length) (ar : List Nat) (hl : ∀ j ∈ ar, j < xs.length) : (ar.map fun j => xs.getD j d).zip (ar.map fun j => ys.getD j e) = ar.map fun j => (xs.zip ys).getD j (d, e) := by
  induction ar with
  | nil => rfl
  | cons j ar ih =>
    have h1 := hl j List.mem_cons_self
    simp only [List.map_cons, List.zip_cons_cons, ih fun i m => hl i (List.mem_cons_of_mem _ m)]
    congr 1
    rw [List.getD_eq_getElem?_getD, List.getD_eq_getElem?_getD, List.getD_eq_getElem?_getD, List.getElem?_eq_getElem h1, List.getElem?_eq_getElem (by omega), List.getElem?_eq_getElem (by simp; omega)]
    simp
theorem perm_arr {xs : List V} {ys : List T} {ar : List Nat} {n : Nat} (l : xs.length = ys.length) (ln : xs.length = n) (pm : ar.Perm (List.range n)) : ((ar.map fun j => xs.getD j .non).zip (ar.map fun j => ys.getD j .gone)).Perm (xs.zip ys) := by
  rw [zip_map_getD _ _ xs ys l ar fun j m => by rw [ln]; exact List.mem_range.mp (pm.mem_iff.mp m)]
  have h := pm.map fun j => (xs.zip ys).getD j (V.non, T.gone)
  refine h.trans ?_
  have e : (xs.zip ys).length = n := by simp [← l, ln]
  rw [← e, range_getD]

/-! ### the call -/
/-- what a def does to its arguments: what it returns, and what the arguments' things have become -/
def spC (C : CallT) (f n : Nat) : SpG := fun vs H Q => ∃ ts F t ts', vs.length = n ∧ ts.length = n ∧ ts'.length = n ∧ RS H (vs.zip ts ++ F) ∧ C f ts = some (t, ts') ∧ ∀ v H', RS H' ((v, t) :: (vs.zip ts' ++ F)) → Q v H'
/-- as: the arguments as they are written, dn: the defaults; ar: where each parameter's argument stands among them -/
def callT (C : CallT) (f : Nat) (ar : List Nat) (as : List A) (dn : List PyData) (τ : Ta) : Option (T × Ta) :=
  (takeA τ as).bind fun p => (C f (ar.map fun j => (p.1 ++ dn.map T.fz).getD j .gone)).bind fun r =>
    if r.2.length = ar.length then some (r.1, backA p.2 as ((List.range as.length).map fun j => r.2.getD (ar.idxOf j) .gone)) else none
def vCall (C : CallT) (f : Nat) (n m : Nat) (ar : List Nat) (dn : List PyData) (g h : MF) : VF := fun τ => (g τ).bind fun p => (h p.2).bind fun q =>
  if p.1.length = n ∧ q.1.length = m then callT C f ar (p.1 ++ q.1) dn q.2 else none
theorem back_perm {H : Hp} {xs ys : List V} {ts : List T} {ar : List Nat} {F : List Rt} {n : Nat} (ln : (xs ++ ys).length = n) (l2 : ts.length = n) (pm : ar.Perm (List.range n)) (h : RS H ((ar.map fun j => (xs ++ ys).getD j .non).zip ts ++ F)) :
    RS H (xs.zip ((List.range xs.length).map fun j => ts.getD (ar.idxOf j) .gone) ++ F) := by
  have la : ar.length = n := by rw [pm.length_eq, List.length_range]
  have e1 : (List.range n).map (fun j => ts.getD (ar.idxOf (ar.getD j 0)) .gone) = ts := by
    have nd : ar.Nodup := pm.nodup_iff.mpr List.nodup_range
    have : ∀ j ∈ List.range n, ts.getD (ar.idxOf (ar.getD j 0)) .gone = ts.getD j .gone := fun j m => by
      have hj : j < ar.length := by rw [la]; exact List.mem_range.mp m
      have : ar.getD j 0 = ar[j] := by
        rw [List.getD_eq_getElem?_getD, List.getElem?_eq_getElem hj]
        rfl
      rw [this, List.Nodup.idxOf_getElem nd]
    rw [List.map_congr_left this]
    rw [← l2]
    exact range_getD _ ts
  have e2 : ts = ar.map fun i => ((List.range n).map fun j => ts.getD (ar.idxOf j) .gone).getD i .gone := by
    apply List.ext_getElem
    · rw [List.length_map, la, l2]
    · intro i h1 h2
      have hi : i < ar.length := by omega
      have hb : ar[i] < n := List.mem_range.mp (pm.mem_iff.mp (List.getElem_mem hi))
      have nd : ar.Nodup := pm.nodup_iff.mpr List.nodup_range
      rw [List.getElem_map, List.getD_eq_getElem?_getD, List.getElem?_map, List.getElem?_range hb]
      simp only [Option.map_some, Option.getD_some]
      rw [List.Nodup.idxOf_getElem nd, List.getD_eq_getElem?_getD, List.getElem?_eq_getElem (by omega)]
      rfl
  have k := perm_arr (xs := xs ++ ys) (ys := (List.range n).map fun j => ts.getD (ar.idxOf j) .gone) (ar := ar) (n := n) (by simp [ln]) ln pm
  rw [← e2] at k
  have h2 := h.perm (k.append_right F)
  have hx : xs.length ≤ n := by
    rw [← ln]
    simp
  have e3 : (List.range n).map (fun j => ts.getD (ar.idxOf j) .gone) = (List.range xs.length).map (fun j => ts.getD (ar.idxOf j) .gone) ++ (List.range' xs.length (n - xs.length)).map (fun j => ts.getD (ar.idxOf j) .gone) := by
    rw [← List.map_append]
    congr 1
    have h5 := List.range'_append_1 (s := 0) (m := xs.length) (n := n - xs.length)
    rw [Nat.zero_add] at h5
    rw [List.range_eq_range', List.range_eq_range', h5]
    congr 1
    omega
  rw [e3, List.zip_append (by simp)] at h2
  have h3 : RS H ((ys.zip ((List.range' xs.length (n - xs.length)).map fun j => ts.getD (ar.idxOf j) .gone)) ++ (xs.zip ((List.range xs.length).map fun j => ts.getD (ar.idxOf j) .gone) ++ F)) := h2.perm (by
    rw [← List.append_assoc]
    exact List.perm_append_comm.append_right _)
  exact h3.dropL
theorem fz_roots {H : Hp} {F : List Rt} : ∀ {dn : List PyData}, dn.all isAt = true → RS H F → RS H ((dn.map cV).zip (dn.map T.fz) ++ F)
  | [], _, h => h
  | d :: dn, a, h => by
    simp only [List.all_cons, Bool.and_eq_true] at a
    refine (fz_roots a.2 h).add fun G => ?_
    cases d <;> first | exact .fz .non | exact .fz (.bl _) | exact .fz (.int _) | exact .fz (.str _) | cases a.1
section
variable {X : Cx} {k f n : Nat} {fa : Addr} {fd : FuncData} {ps ks : List Str} {x : Str} {p pos : Pos} {e : Expr} {es : List Expr} {kws : List Keyword} {C : CallT} {ar : List Nat} {dn : List PyData} {g h : MF}
theorem run_call {pins : List (Addr × Obj)} {σ : L2.St} {H : Hp} {s : Shared} {Q : VK} {us ws : List Value} {vs zs : List V} (F : FnG X.prog X.w X.K X.mg X.base k fa fd ps (spC C f ps.length)) (hr : Room k X.A) (hg : X.A.guards = some []) (hb : Bnd X.K fd ps n ks ar dn)
    (I : Inv X pins σ H s) (r : Vals vs us) (rz : Vals zs ws) {τ : Ta} {F0 : List Rt} {as bs : List A} {t : T} {τ' : Ta} (sl : Sl σ τ) (ok : AgsOk σ (vs ++ zs) (as ++ bs)) (l1 : vs.length = n) (l2 : zs.length = ks.length) (rs : RS H (agrs (vs ++ zs) (as ++ bs) ++ (slr σ τ ++ F0)))
    (e : callT C f ar (as ++ bs) dn τ = some (t, τ')) (q : ∀ v H', Sl σ τ' → RS H' ((v, t) :: (slr σ τ' ++ F0)) → Q v H') : wpAny (model X.prog X.w) X.A (call (.ref fa) us (ks.zip ws)) (EP X pins σ Q) X.xe s := by
  obtain ⟨ds, rd, bt⟩ := hb.to
  obtain ⟨p, ep, e2⟩ := Option.bind_eq_some_iff.mp e
  obtain ⟨o, eo, e3⟩ := Option.bind_eq_some_iff.mp e2
  split at e3
  case isFalse => cases e3
  rename_i lo
  cases e3
  obtain ⟨s1, t1, r1⟩ := take_ok sl ok rs ep
  have la : ar.length = ps.length := by rw [hb.pm.length_eq, List.length_range]
  have ln : ((vs ++ zs) ++ dn.map cV).length = ps.length := by
    rw [List.length_append, List.length_append, l1, l2, List.length_map]
    exact hb.len
  have r2 : RS H (((vs ++ zs) ++ dn.map cV).zip (p.1 ++ dn.map T.fz) ++ (slr σ p.2 ++ F0)) := by
    rw [List.zip_append t1]
    have := fz_roots hb.at_ r1
    refine this.perm ?_
    rw [← List.append_assoc]
    exact List.perm_append_comm.append_right _
  have lt : (vs ++ zs ++ dn.map cV).length = (p.1 ++ dn.map T.fz).length := by
    simp only [List.length_append, List.length_map]
    rw [← t1, List.length_append]
  have r3 := r2.perm ((perm_arr lt ln hb.pm).symm.append_right _)
  have rv : Vals (ar.map fun j => (vs ++ zs ++ dn.map cV).getD j .non) (ar.map fun j => (us ++ (ws ++ ds)).getD j .none) := by
    rw [← List.append_assoc us]
    exact vals_map ((r.append rz).append rd) ar
  refine F.call hr hg I (bt s us ws I.kIn (r.length.symm.trans l1) (rz.length.symm.trans l2)) rv ?_
  refine ⟨_, slr σ p.2 ++ F0, o.1, o.2, by rw [List.length_map, la], by rw [List.length_map, la], by rw [lo, la], r3, eo, fun v H' r4 => ?_⟩
  have r5 : RS H' ((ar.map fun j => (vs ++ zs ++ dn.map cV).getD j .non).zip o.2 ++ ((v, o.1) :: (slr σ p.2 ++ F0))) := r4.perm List.perm_middle.symm
  have r6 := back_perm ln (by rw [lo, la]) hb.pm r5
  have lz : (as ++ bs).length = (vs ++ zs).length := (ags_len ok).symm
  rw [← lz] at r6
  have r7 : RS H' ((vs ++ zs).zip ((List.range (as ++ bs).length).map fun j => o.2.getD (ar.idxOf j) .gone) ++ (slr σ p.2 ++ ((v, o.1) :: F0))) := r6.perm (List.Perm.append_left _ List.perm_middle.symm)
  obtain ⟨s2, r8⟩ := back_ok s1 ok (by simp [← lz]) r7
  exact q v H' s2 (r8.perm List.perm_middle)
theorem pk_nilM : PK X [] (tAs mNil) := ⟨fun pos pins s σ H Q I h => pk_nil.run pos pins s σ H Q I (by
  obtain ⟨τ, F, t, τ', sl, rs, e, q⟩ := h
  cases e
  exact q [] H sl trivial rs)⟩
theorem pk_consM {nm : Option Str} {kpos : Pos} {a : AF} {g : MF} (ha : PE X e (tA a)) (hr : PK X kws (tAs g)) : PK X (⟨nm, e, kpos⟩ :: kws) (tAs (mCons a g)) := ⟨fun pos pins s σ H Q I h => (pk_cons ha hr).run pos pins s σ H Q I (by
  obtain ⟨τ, F, t, τ', sl, rs, e, q⟩ := h
  obtain ⟨p, ep, e2⟩ := Option.bind_eq_some_iff.mp e
  obtain ⟨p2, ep2, e3⟩ := Option.map_eq_some_iff.mp e2
  cases e3
  refine ⟨τ, F, _, _, sl, rs, ep, fun v H' sl' ok rs' => ⟨_, agr v p.1 ++ F, _, _, sl', rs'.swap, ep2, fun vs H2 sl2 ok2 rs2 => q (v :: vs) H2 sl2 ⟨ok, ok2⟩ ?_⟩⟩
  show RS H2 ((agr v p.1 ++ agrs vs p2.1) ++ (slr σ p2.2 ++ F))
  refine rs2.perm ?_
  rw [← List.append_assoc, ← List.append_assoc, ← List.append_assoc]
  refine List.Perm.append_right _ ?_
  refine List.perm_append_comm.trans ?_
  rw [← List.append_assoc])⟩
theorem tcall_of {m : Nat} {σ : L2.St} {H : Hp} {Q : VK} (h0 : tE (vCall C f n m ar dn g h) σ H Q) : tAs g σ H fun vs H1 => tAs h σ H1 fun zs H2 => ∃ τ F0 as bs t τ', Sl σ τ ∧ AgsOk σ (vs ++ zs) (as ++ bs) ∧ vs.length = n ∧ zs.length = m ∧ RS H2 (agrs (vs ++ zs) (as ++ bs) ++ (slr σ τ ++ F0)) ∧
    callT C f ar (as ++ bs) dn τ = some (t, τ') ∧ ∀ v H', Sl σ τ' → RS H' ((v, t) :: (slr σ τ' ++ F0)) → Q v H' := by
  obtain ⟨τ, F, t, τ', sl, rs, e, q⟩ := h0
  obtain ⟨p, ep, e2⟩ := Option.bind_eq_some_iff.mp e
  obtain ⟨p2, ep2, e3⟩ := Option.bind_eq_some_iff.mp e2
  split at e3
  case isFalse => cases e3
  rename_i hl
  refine ⟨τ, F, _, _, sl, rs, ep, fun vs H' sl' ok rs' => ⟨_, agrs vs p.1 ++ F, _, _, sl', rs'.swap, ep2, fun zs H2 sl2 ok2 rs2 => ?_⟩⟩
  obtain ⟨k1, k2⟩ := ags_app ok ok2
  refine ⟨p2.2, F, p.1, p2.1, t, τ', sl2, k1, by rw [ags_len ok]; exact hl.1, by rw [ags_len ok2]; exact hl.2, ?_, e3, q⟩
  rw [k2]
  refine rs2.perm ?_
  rw [← List.append_assoc, ← List.append_assoc, ← List.append_assoc]
  refine List.Perm.append_right _ ?_
  refine List.perm_append_comm.trans ?_
  rw [← List.append_assoc]
/-- f(e, .., k = v, ..) -/
theorem pe_def (F : FnG X.prog X.w X.K X.mg X.base k fa fd ps (spC C f ps.length)) (hr : Room k X.A) (hG : X.A.guards = some []) (hg : Gl X x) (hm : X.mg x = some (.ref fa)) (hk : PySem.W.keepIn X.K (.ref fa) = true) (hb : Bnd X.K fd ps n ks ar dn)
    (ha : PA X (e :: es) (tAs g)) (hkw : PK X kws (tAs h)) (hall : (backToKw pos (keywordEach kws X.env)).all (·.1.isSome) = true := by rfl) (hks : (backToKw pos (keywordEach kws X.env)).filterMap (·.1) = ks := by rfl)
    (hdb : (x == ("__debug__" : Str)) = false := by decide) (he : starEach (e :: es) X.env = (false, eval e X.env) :: starEach es X.env := by rfl)
    (hpl : ((backTo pos (starEach (e :: es) X.env)).any (·.1) || (backToKw pos (keywordEach kws X.env)).any (·.1.isNone)) = false := by rfl) : PE X (.Call (.Name x p) (e :: es) kws pos) (tE (vCall C f n ks.length ar dn g h)) := by
  refine ⟨fun pins s σ H Q I h0 => ?_⟩
  have h1 := tcall_of h0
  refine wpAny_Call_Name_kw (ld_glob I hg hm (PySem.W.callWith_KW (h₀ := X.base) I.ok.mod.kin hk hall (thn (ha.run pos pins s σ H _ I h1) fun us s1 ⟨vs, H1, I1, r, q1⟩ => thn (hkw.run pos pins s1 σ H1 _ I1 q1) fun ws s2 ⟨zs, H2, I2, rz, q2⟩ => ⟨I2.kIn, ?_⟩) hpl he) hdb)
  rw [hks]
  obtain ⟨τ, F0, as, bs, t, τ', sl, ok, l1, l2, rs, ec, q⟩ := q2
  exact run_call F hr hG hb I2 r rz sl ok l1 l2 rs ec q
/-- f(k = v, ..) -/
theorem pe_defK (F : FnG X.prog X.w X.K X.mg X.base k fa fd ps (spC C f ps.length)) (hr : Room k X.A) (hG : X.A.guards = some []) (hg : Gl X x) (hm : X.mg x = some (.ref fa)) (hk : PySem.W.keepIn X.K (.ref fa) = true) (hb : Bnd X.K fd ps 0 ks ar dn)
    (hkw : PK X kws (tAs h)) (hall : (backToKw pos (keywordEach kws X.env)).all (·.1.isSome) = true := by rfl) (hks : (backToKw pos (keywordEach kws X.env)).filterMap (·.1) = ks := by rfl)
    (hdb : (x == ("__debug__" : Str)) = false := by decide) (hpl : ((backTo pos (starEach [] X.env)).any (·.1) || (backToKw pos (keywordEach kws X.env)).any (·.1.isNone)) = false := by rfl) :
    PE X (.Call (.Name x p) [] kws pos) (tE (vCall C f 0 ks.length ar dn mNil h)) := by
  refine ⟨fun pins s σ H Q I h0 => ?_⟩
  have h1 := tcall_of h0
  have h2 : tAs h σ H fun zs H2 => ∃ τ F0 as bs t τ', Sl σ τ ∧ AgsOk σ ([] ++ zs) (as ++ bs) ∧ ([] : List V).length = 0 ∧ zs.length = ks.length ∧ RS H2 (agrs ([] ++ zs) (as ++ bs) ++ (slr σ τ ++ F0)) ∧
      callT C f ar (as ++ bs) dn τ = some (t, τ') ∧ ∀ v H', Sl σ τ' → RS H' ((v, t) :: (slr σ τ' ++ F0)) → Q v H' := by
    obtain ⟨τ, F1, as, τ', sl, rs, e, q⟩ := h1
    cases e
    exact q [] H sl trivial rs
  refine wpAny_Call_Name_kw (ld_glob I hg hm (PySem.W.callWith_KW0 (h₀ := X.base) I.ok.mod.kin hk hall (thn (hkw.run pos pins s σ H _ I h2) fun ws s2 ⟨zs, H2, I2, rz, q2⟩ => ⟨I2.kIn, ?_⟩) hpl) hdb)
  rw [hks]
  obtain ⟨τ, F0, as, bs, t, τ', sl, ok, l1, l2, rs, ec, q⟩ := q2
  exact run_call (us := []) (vs := []) F hr hG hb I2 .nil rz sl ok l1 l2 rs ec q

/-! ### a def's promise -/
def outs (np : Nat) (W : List Nat) (τ : Ta) : List T := (List.range np).map fun i => if W.contains i then .gone else gT τ i
def outOf (np : Nat) (W : List Nat) : Out → Option (T × List T)
  | .nx τ => some (.fz .none, outs np W τ)
  | .rt t τ => some (t, outs np W τ)
  | _ => none
/-- the def's function: np parameters, ns slots, W the slots stored to -/
def defT (np ns : Nat) (W : List Nat) (b : BS) (ts : List T) : Option (T × List T) := (b (ts ++ List.replicate (ns - np) .gone)).bind (outOf np W)
end
end SW
end
section
/-! SWn: a def's promise; isinstance. -/
namespace SW
open PySem PySem.Spec PyProof.Rows L2

/-! ### a def's promise -/
theorem slr_start : ∀ {vs : List V} {ts : List T} {m : Nat}, vs.length = ts.length → slr (vs.map some ++ List.replicate m none) (ts ++ List.replicate m .gone) = vs.zip ts ++ List.replicate m (V.non, T.gone)
  | [], [], 0, _ => rfl
  | [], [], m + 1, h => by
    have := slr_start (vs := []) (ts := []) (m := m) h
    simp only [List.map_nil, List.nil_append, List.zip_nil_left] at this
    simp only [List.map_nil, List.nil_append, List.zip_nil_left, List.replicate_succ, slr, this]
    rfl
  | v :: vs, t :: ts, m, h => by
    simp only [List.map_cons, List.cons_append, slr, List.zip_cons_cons]
    rw [slr_start (by simpa using h)]
    rfl
  | [], _ :: _, _, h => by cases h
  | _ :: _, [], _, h => by cases h
theorem gone_roots {H : Hp} {F : List Rt} : ∀ m : Nat, RS H F → RS H (List.replicate m (V.non, T.gone) ++ F)
  | 0, h => h
  | m + 1, h => by
    rw [List.replicate_succ, List.cons_append]
    exact (gone_roots m h).gone
theorem sl_start {vs : List V} {ts : List T} {m : Nat} (h : vs.length = ts.length) : Sl (vs.map some ++ List.replicate m none) (ts ++ List.replicate m .gone) := by
  refine ⟨by simp [h], fun i e => ?_⟩
  unfold gT
  rw [List.getD_eq_getElem?_getD]
  by_cases hi : i < vs.length
  · rw [List.getElem?_append_left (by simpa using hi), List.getElem?_map, List.getElem?_eq_getElem hi] at e
    cases e
  · rw [List.getElem?_append_right (by omega)]
    cases e2 : (List.replicate m T.gone)[i - ts.length]? with
    | none => rfl
    | some t =>
      have := List.mem_of_getElem? e2
      rw [List.mem_replicate] at this
      exact this.2
/-- some roots, others lost -/
theorem pick_roots {H : Hp} : ∀ {M L F : List Rt}, (∀ (i : Nat) (m : Rt), M[i]? = some m → L[i]? = some m ∨ ∃ v, m = (v, T.gone)) → RS H (L ++ F) → RS H (M ++ F)
  | [], _, _, _, h => h.dropL
  | m :: M, [], F, k, h => by
    rcases k 0 m rfl with z | ⟨v, rfl⟩
    · cases z
    · exact (pick_roots (L := []) (fun i x e => by
        rcases k (i + 1) x (by simpa using e) with z | z
        · simp at z
        · exact .inr z) h).gone
  | m :: M, l :: L, F, k, h => by
    have h1 : RS H (L ++ (l :: F)) := h.perm List.perm_middle.symm
    have h2 := pick_roots (M := M) (L := L) (F := l :: F) (fun i x e => by
      rcases k (i + 1) x (by simpa using e) with z | z
      · exact .inl (by simpa using z)
      · exact .inr z) h1
    have h3 : RS H (l :: (M ++ F)) := h2.perm List.perm_middle
    rcases k 0 m rfl with z | ⟨v, rfl⟩
    · simp at z
      subst z
      exact h3
    · exact h3.tail.gone
/-- the parameters' roots at the end -/
theorem outs_ok {H : Hp} {W : List Nat} {F : List Rt} {vs : List V} {m : Nat} {σ' : L2.St} {τ' : Ta} (sl : Sl σ' τ') (ag : AgW W (vs.map some ++ List.replicate m none) σ') (rs : RS H (slr σ' τ' ++ F)) : RS H (vs.zip (outs vs.length W τ') ++ F) := by
  refine pick_roots (L := slr σ' τ') (fun i r e => ?_) rs
  have hl : (vs.zip (outs vs.length W τ')).length = vs.length := by simp [outs]
  have hi : i < vs.length := by
    rw [← hl]
    exact (List.getElem?_eq_some_iff.mp e).1
  have er : r = (vs[i], if W.contains i then .gone else gT τ' i) := by
    rw [List.getElem?_eq_getElem (by omega)] at e
    have := Option.some.inj e
    rw [List.getElem_zip] at this
    rw [← this]
    simp [outs]
  cases hw : W.contains i with
  | true =>
    rw [hw] at er
    exact .inr ⟨_, er⟩
  | false =>
    rw [hw] at er
    have hm : i ∉ W := fun z => by
      have : W.contains i = true := List.contains_iff_mem.mpr z
      rw [hw] at this
      cases this
    have hs := ag.2 i hm
    rw [List.getElem?_append_left (by simpa using hi), List.getElem?_map, List.getElem?_eq_getElem hi] at hs
    rw [er]
    exact .inl (slr_get sl.1 hs)
section
variable {P : Program} {w : World} {K : PySem.W.Frag} {mg : Str → Option Value} {base : Heap} {x qual : Str} {params : Arguments} {body : List Stmt} {scope : Scope} {dvs : List V} {kws : List (Str × V)} {f : Addr} {fd : FuncData} {N ps : List Str} {k : Nat}
theorem def_of {C : CallT} {i : Nat} {W : List Nat} {b : BS} (F : FunD K x qual params body scope dvs kws f fd) (S : FnScope N ps scope)
    (hb : ∀ (cdv : Value) (A : Around) (outer : List Env) (s : Shared) (H : Hp), Room k (A.deeper (envOfC qual scope s.heap.objs.size f cdv)) → A.guards = some [] → PSs (cxOf CX0 P w K mg base N qual scope f cdv A outer s H E0).nox body (tW W b))
    (hC : ∀ ts r, C i ts = some r → defT ps.length N.length W b ts = some r) : FnG P w K mg base (k + 1) f fd ps (spC C i ps.length) := by
  refine FnG.of F S (fun vs H Q h => ?_) fun cdv A outer s H vs Q hr hg h => ⟨_, (hb cdv A outer s H hr hg).nox, ?_⟩
  · obtain ⟨_, _, _, _, h, _⟩ := h
    exact h
  · obtain ⟨ts, F, t, ts', l1, l2, l3, rs, e, q⟩ := h
    have e := hC ts _ e
    obtain ⟨o, eo, e2⟩ := Option.bind_eq_some_iff.mp e
    have l : vs.length = ts.length := l1.trans l2.symm
    have st : start N vs = vs.map some ++ List.replicate (N.length - ps.length) none := by
      rw [← l1]
      rfl
    refine ⟨_, F, o, by rw [st]; exact sl_start (m := N.length - ps.length) l, ?_, eo, ?_⟩
    · rw [st, slr_start l, List.append_assoc]
      exact RS.swap (gone_roots _ rs)
    · have ag : ∀ {σ' : L2.St}, AgW W (start N vs) σ' → AgW W (vs.map some ++ List.replicate (N.length - vs.length) none) σ' := fun z => z
      cases o with
      | nx τ' =>
        cases e2
        intro σ' H' a sl rs'
        refine q _ _ ?_
        rw [← l1]
        exact (outs_ok sl (ag a) rs').addN
      | rt r τ' =>
        cases e2
        intro v σ' H' a sl rs'
        refine q _ _ ?_
        rw [← l1]
        have := outs_ok (F := (v, t) :: F) sl (ag a) (rs'.perm List.perm_middle.symm)
        exact this.perm List.perm_middle
      | bk τ' => cases e2
      | ct τ' => cases e2
end

/-! ### isinstance -/
def tyNm : Ty → String
  | .int => "int"
  | .bool => "bool"
  | .str => "str"
  | .list => "list"
  | .tuple => "tuple"
  | .dict => "dict"
def tyN : PyData → String
  | .none => "NoneType"
  | .bool _ => "bool"
  | .int _ => "int"
  | .str _ => "str"
  | .list _ => "list"
  | .tuple _ => "tuple"
  | .dict _ => "dict"
def isiT (Ts : List Ty) (a : Ag) : Option T := a.d.map fun d => tB (Ts.any (isTy d))
theorem kit_reads {K : PySem.W.Frag} {h : Heap} {u : Value} {d : PyData} {as : List Addr} (r : Reads h u d as) : ∃ P : Heap → Prop, PySem.W.KitX K u (.type (tyN d)) P ∧ P h ∧ u ≠ .builtin "__main__.__loader__#opaque" := by
  cases r with
  | none => exact ⟨_, PySem.W.kitx_none, trivial, fun z => nomatch z⟩
  | bool b => exact ⟨_, PySem.W.kitx_bool, trivial, fun z => nomatch z⟩
  | int i t => exact ⟨_, PySem.W.kitx_int, trivial, fun z => nomatch z⟩
  | str i t => exact ⟨_, PySem.W.kitx_str, trivial, fun z => nomatch z⟩
  | list h1 h2 h3 h4 => exact ⟨_, PySem.W.kitx_list, ⟨_, h1, h2⟩, fun z => nomatch z⟩
  | tuple h1 h2 h3 h4 => exact ⟨_, PySem.W.kitx_tuple, ⟨_, h1, h2⟩, fun z => nomatch z⟩
  | dict h1 h2 h3 h4 h5 => exact ⟨_, PySem.W.kitx_dict, ⟨_, h1, h2⟩, fun z => nomatch z⟩
inductive Kd | none | bool | int | str | list | tuple | dict
def Kd.of : PyData → Kd
  | .none => .none
  | .bool _ => .bool
  | .int _ => .int
  | .str _ => .str
  | .list _ => .list
  | .tuple _ => .tuple
  | .dict _ => .dict
def Kd.nm : Kd → String
  | .none => "NoneType"
  | .bool => "bool"
  | .int => "int"
  | .str => "str"
  | .list => "list"
  | .tuple => "tuple"
  | .dict => "dict"
def Kd.is : Kd → Ty → Bool
  | .bool, .int => true
  | .bool, .bool => true
  | .int, .int => true
  | .str, .str => true
  | .list, .list => true
  | .tuple, .tuple => true
  | .dict, .dict => true
  | _, _ => false
theorem Kd.kit (k : Kd) (t : Ty) : kitB k.nm (tyNm t) = some (k.is t) := by
  cases k <;> cases t <;> decide +kernel
theorem kit_one {K : PySem.W.Frag} (d : PyData) (t : Ty) : PySem.W.kitOne K (.type (tyN d)) (.type (tyNm t)) = some (isTy d t) := by
  have e1 : tyN d = (Kd.of d).nm := by cases d <;> rfl
  have e2 : isTy d t = (Kd.of d).is t := by cases d <;> cases t <;> rfl
  rw [e1, e2]
  exact kit_ty (Kd.kit _ _)
theorem kit_any {K : PySem.W.Frag} (d : PyData) : ∀ Ts : List Ty, PySem.W.kitAny K (.type (tyN d)) (Ts.map fun t => .type (tyNm t)) = some (Ts.any (isTy d))
  | [] => kitAny_nil
  | t :: Ts => by
    rw [List.map_cons]
    refine kitAny_cons (kit_one d t) (fun e => ?_) fun e => ?_
    · rw [kit_any d Ts, List.any_cons, e]
      rfl
    · rw [List.any_cons, e]
      rfl
def rIsD : List V → Hp → VK → Prop := fun xs H Q => ∃ x d t, xs = [x, .ty (tyNm t)] ∧ View H x d ∧ Q (.bl (isTy d t)) H
def rIsDs : List V → Hp → VK → Prop := fun xs H Q => ∃ x d tp, ∃ Ts : List Ty, xs = [x, .ref tp] ∧ View H x d ∧ H tp = some (.tup (Ts.map fun t => .ty (tyNm t))) ∧ Q (.bl (Ts.any (isTy d))) H
theorem tys_vals : ∀ {Ts : List Ty} {us : List Value}, Vals (Ts.map fun t => V.ty (tyNm t)) us → us = Ts.map fun t => .type (tyNm t)
  | [], _, .nil => rfl
  | t :: Ts, _, .cons r k => by
    have h : _ = Value.type (tyNm t) := r
    rw [tys_vals k, List.map_cons, h]
section
variable {X : Cx} {e : Expr} {p q pos : Pos}
theorem cr_isD : CallR X (.builtin "isinstance") rIsD := by
  intro pins s σ H xs us Q I r h
  obtain ⟨x, d, t, rfl, v, q⟩ := h
  obtain ⟨u1, u2, rfl, r1, r2⟩ := vals2 r
  cases (show u2 = Value.type (tyNm t) from r2)
  obtain ⟨as, rd⟩ := v.reads I r1
  obtain ⟨P, Z, p, hx⟩ := kit_reads (K := X.K) rd
  exact PySem.W.kia_one Z I.kIn p (kit_one d t) hx fun tk => ⟨.bl _, H, I.tok tk, rfl, q⟩
theorem cr_isDs : CallR X (.builtin "isinstance") rIsDs := by
  intro pins s σ H xs us Q I r h
  obtain ⟨x, d, tp, Ts, rfl, v, hT, q⟩ := h
  obtain ⟨u1, u2, rfl, r1, r2⟩ := vals2 r
  cases (show u2 = Value.ref tp from r2)
  obtain ⟨as, rd⟩ := v.reads I r1
  obtain ⟨P, Z, p, hx⟩ := kit_reads (K := X.K) rd
  obtain ⟨_, its, rv, ⟨oc, od, dt, sl⟩, h1, h2, n, h3⟩ := (show ObjOk X.prog X.w H s.heap tp (.tup _) from I.hok tp _ hT)
  have e3 := tys_vals rv
  subst e3
  simp only at h2 h3
  subst h2 h3
  exact PySem.W.kia_tup Z I.kIn p h1 (kit_any d Ts) hx fun tk => ⟨.bl _, H, I.tok tk, rfl, q⟩
theorem pe_isi {f : AF} {y : Str} (t : Ty) (hg : Gl X "isinstance") (hm : X.mg "isinstance" = none) (hv : bootBuiltins "isinstance" = some (.builtin "isinstance")) (ha : PE X e (tA f)) (hy : Gl X y) (hym : X.mg y = none) (hyv : bootBuiltins y = some (.type (tyNm t))) (hn : y ≠ "__name__" := by decide) (hd : (y == ("__debug__" : Str)) = false := by decide)
    (he : starEach [e, .Name y q] X.env = (false, eval e X.env) :: starEach [.Name y q] X.env := by rfl) (he2 : starEach [.Name y q] X.env = (false, eval (.Name y q) X.env) :: starEach [] X.env := by rfl)
    (hpl : (backTo pos (starEach [.Name y q] X.env)).any (·.1) = false := by rfl) : PE X (.Call (.Name "isinstance" p) [e, .Name y q] [] pos) (tE (v1 (isiT [t]) f)) := by
  have k := pe_callB (pos := pos) (p := p) cr_isD hg hm hv (pa_cons ha (pa_cons (pe_bltn (v := .ty (tyNm t)) (pos := q) hy hym hyv rfl hn hd) pa_nil he2) he) (by decide) (by decide) he hpl
  refine k.wk fun σ H Q h => ?_
  obtain ⟨τ, F, a, τ', sl, rs, e, q⟩ := ta1 h
  refine ⟨τ, F, a, τ', sl, rs, e, fun v H' sl' ok rs' => ?_⟩
  obtain ⟨R, o, g, t', r1, hh, eg, q2⟩ := q v H' sl' ok rs'
  obtain ⟨d, ed, rfl⟩ := Option.map_eq_some_iff.mp eg
  refine ⟨v, d, t, rfl, r1.viewM hh.mem ed, q2 _ _ ?_⟩
  have : isTy d t = [t].any (isTy d) := by simp
  rw [this]
  exact r1.dropL.addB _
end
end SW
end
section
/-! SWo: the defs of a program, together: levels. -/
namespace SW
open PySem PySem.Spec PyProof.Rows L2

/-- a def of the table: its parameters, how many slots, the slots stored to, what its body does -/
structure Df where
  ps : List Str
  N : List Str
  W : List Nat
  body : CallT → BS
def callN (tab : List Df) : Nat → CallT
  | 0 => fun _ _ => none
  | n + 1 => fun f ts => (tab[f]?).bind fun d => defT d.ps.length d.N.length d.W (d.body (callN tab n)) ts
/-- the program's facts, over the base -/
structure Wd (P : Program) (w : World) (fa : List He.Fa) (fn : List He.DefD) (K : PySem.W.Frag) (mg : Str → Option Value) (base : Heap) : Prop where
  c : He.SaysD fa fn K
  inb : K.In base
  ns : base.Ns mainGlobals mg
  sm : (K.lookup sysModules).isSome = true
section
variable {P : Program} {w : World} {fa : List He.Fa} {fn : List He.DefD} {K : PySem.W.Frag} {mg : Str → Option Value} {base : Heap} {k : Nat} {C : CallT} {tab : List Df}
theorem Wd.glo (E : Wd P w fa fn K mg base) (i : Nat) {x : Str} (h : fa[i]? = some (.glo x) := by rfl) : mg x = some (.ref (He.ga K x)) := He.glo_ok E.inb E.ns (E.c.fact i h)
theorem Wd.free (E : Wd P w fa fn K mg base) (i : Nat) {x : Str} (h : fa[i]? = some (.free x) := by rfl) : mg x = none := He.free_ok E.inb E.ns (E.c.fact i h)
/-- all defs keep their promise at the level k -/
def Cs (P : Program) (w : World) (fn : List He.DefD) (K : PySem.W.Frag) (mg : Str → Option Value) (base : Heap) (tab : List Df) (k : Nat) (C : CallT) : Prop :=
  ∀ i d (D : Df), fn[i]? = some d → tab[i]? = some D → ∀ fd, FunD K d.name d.qual d.params d.body d.scope (d.dvs K) (d.kws K) (He.fAd K d.at_) fd → FnG P w K mg base k (He.fAd K d.at_) fd D.ps (spC C i D.ps.length)
theorem cs_zero : Cs P w fn K mg base tab 0 (callN tab 0) := fun i d D _ _ fd _ => ⟨fun vs H Q h => by
  obtain ⟨_, _, _, _, h, _⟩ := h
  exact h, fun A outer s H args us vs Q _ _ _ _ _ h => by
  obtain ⟨_, _, _, _, _, _, _, _, e, _⟩ := h
  cases e⟩
/-- one def's step -/
structure Stp (P : Program) (w : World) (fa : List He.Fa) (fn : List He.DefD) (tab : List Df) (i : Nat) (d : He.DefD) (D : Df) : Prop where
  scope : FnScope D.N D.ps d.scope
  body : ∀ {K : PySem.W.Frag} {mg : Str → Option Value} {base : Heap} {k : Nat} {C : CallT}, Wd P w fa fn K mg base → Cs P w fn K mg base tab k C →
    ∀ (f : Addr) (cdv : Value) (A : Around) (outer : List Env) (s : Shared) (H : Hp), Room k (A.deeper (envOfC d.qual d.scope s.heap.objs.size f cdv)) → A.guards = some [] →
      PSs (cxOf CX0 P w K mg base D.N d.qual d.scope f cdv A outer s H E0).nox d.body (tW D.W (D.body C))
theorem cs_all (E : Wd P w fa fn K mg base) (h : ∀ i d D, fn[i]? = some d → tab[i]? = some D → Stp P w fa fn tab i d D) : ∀ k, Cs P w fn K mg base tab k (callN tab k)
  | 0 => cs_zero
  | k + 1 => fun i d D hd hD fd F => by
    have S := h i d D hd hD
    refine def_of F S.scope (fun cdv A outer s H hr hg => S.body E (cs_all E h k) _ cdv A outer s H hr hg) fun ts r e => ?_
    unfold callN at e
    rw [hD] at e
    exact e
end
/-- the context of a body -/
structure Gd (X : Cx) (k : Nat) : Prop where
  xe : X.xe = fun _ _ => False
  room : Room k X.A
  gd : X.A.guards = some []
  calm : X.calm = true
  nd : X.N.Nodup
  sm : ∃ o, X.base.get? sysModules = some o
theorem Gd.u {X : Cx} {k : Nat} (g : Gd X k) : X.A.units + 150 < cLine := by
  have := g.room.un
  omega
theorem Gd.blk {X : Cx} {k : Nat} (g : Gd X k) (s : Shared) (H : Hp) (scope : Scope) (cenv : Env) (fp : List Addr) : Gd (X.blk s H scope cenv fp) k := ⟨rfl, g.room, g.gd, g.calm, g.nd, g.sm⟩
theorem Gd.nox {P : Program} {w : World} {K : PySem.W.Frag} {mg : Str → Option Value} {base : Heap} {N : List Str} {qual : Str} {scope : Scope} {f : Addr} {cd : Value} {A : Around} {outer : List Env} {s : Shared} {H : Hp} {k : Nat}
    (hr : Room k (A.deeper (envOfC qual scope s.heap.objs.size f cd))) (hg : A.guards = some []) (nd : N.Nodup) (sm : ∃ o, base.get? sysModules = some o) : Gd (cxOf CX0 P w K mg base N qual scope f cd A outer s H E0).nox k := ⟨rfl, hr, hg, rfl, nd, sm⟩
theorem Wd.sms {P : Program} {w : World} {fa : List He.Fa} {fn : List He.DefD} {K : PySem.W.Frag} {mg : Str → Option Value} {base : Heap} (E : Wd P w fa fn K mg base) : ∃ o, base.get? sysModules = some o := by
  obtain ⟨o, e⟩ := Option.isSome_iff_exists.mp E.sm
  exact ⟨o, E.inb _ _ e⟩
end SW
end
section
/-! SWp: subscripts. -/
namespace SW
open PySem PySem.Spec PyProof.Rows L2

/-! ### picking among roots -/
theorem RS.pickAt {H : Hp} {L R : List Rt} {j : Nat} {r : Rt} (h : RS H (L ++ R)) (e : L[j]? = some r) : RS H (r :: R) := by
  have k : RS H (r :: (L.eraseIdx j ++ R)) := h.perm ((perm_take e).append_right R)
  have k2 : RS H (L.eraseIdx j ++ (r :: R)) := k.perm List.perm_middle.symm
  exact k2.dropL
/-- closing without a change -/
theorem RSx.shutL {H : Hp} {a : Addr} {xs : List Addr} {ps rs : List Rt} (h : RSx H (a :: xs) (ps ++ rs)) (e : H a = some (.lst (ps.map (·.1)))) : RSx H xs ((.ref a, .lst (ps.map (·.2))) :: rs) := by
  obtain ⟨G, cs, s, r, nd, no, ow⟩ := h
  obtain ⟨as, bs, rfl, r1, r2⟩ := r.split
  have p : (xs ++ (a :: as ++ bs)).Perm (a :: xs ++ (as ++ bs)) := List.perm_middle
  exact ⟨G, _, s, .cons (.lst e r1) r2, p.nodup_iff.mpr nd, fun b m => no b (p.mem_iff.mp m), fun b m => ow b (List.mem_cons_of_mem _ m)⟩
theorem RSx.shutT {H : Hp} {a : Addr} {xs : List Addr} {ps rs : List Rt} (h : RSx H xs (ps ++ rs)) (e : H a = some (.tup (ps.map (·.1)))) : RSx H xs ((.ref a, .tup (ps.map (·.2))) :: rs) := by
  obtain ⟨G, cs, s, r, nd, no, ow⟩ := h
  obtain ⟨as, bs, rfl, r1, r2⟩ := r.split
  exact ⟨G, _, s, .cons (.tup e r1) r2, nd, no, ow⟩
theorem RSx.shutK {H : Hp} {a : Addr} {xs : List Addr} {qs : List (Key × V × T)} {rs : List Rt} (h : RSx H (a :: xs) (qs.map (·.2) ++ rs)) (e : H a = some (.dK (qs.map fun q => (q.1, q.2.1)))) : RSx H xs ((.ref a, .dct (qs.map fun q => (kD q.1, q.2.2))) :: rs) := by
  obtain ⟨G, cs, s, r, nd, no, ow⟩ := h
  obtain ⟨as, bs, rfl, r1, r2⟩ := r.split
  have p : (xs ++ (a :: as ++ bs)).Perm (a :: xs ++ (as ++ bs)) := List.perm_middle
  exact ⟨G, _, s, .cons (.dK e r1) r2, p.nodup_iff.mpr nd, fun b m => no b (p.mem_iff.mp m), fun b m => ow b (List.mem_cons_of_mem _ m)⟩
theorem RSx.shutD {H : Hp} {a : Addr} {xs : List Addr} {qs : List (List Key × V × T)} {rs : List Rt} (h : RSx H (a :: xs) (qs.map (·.2) ++ rs)) (e : H a = some (.dT (qs.map fun q => (q.1, q.2.1)))) : RSx H xs ((.ref a, .dct (qs.map fun q => (tD q.1, q.2.2))) :: rs) := by
  obtain ⟨G, cs, s, r, nd, no, ow⟩ := h
  obtain ⟨as, bs, rfl, r1, r2⟩ := r.split
  have p : (xs ++ (a :: as ++ bs)).Perm (a :: xs ++ (as ++ bs)) := List.perm_middle
  exact ⟨G, _, s, .cons (.dT e r1) r2, p.nodup_iff.mpr nd, fun b m => no b (p.mem_iff.mp m), fun b m => ow b (List.mem_cons_of_mem _ m)⟩
theorem RSx.dup {H : Hp} {xs : List Addr} {v : V} {d : PyData} {rs : List Rt} (h : RSx H xs ((v, .fz d) :: rs)) : RSx H xs ((v, .fz d) :: (v, .fz d) :: rs) := by
  obtain ⟨G, as, s, r, nd, no, ow⟩ := h
  cases r with
  | cons h r =>
    cases h with
    | fz h => exact ⟨G, _, s, .cons (as := []) (.fz h) (.cons (.fz h) r), nd, no, ow⟩
/-- a child of an open thing: frozen there, and handed out -/
theorem RSx.child {H : Hp} {xs : List Addr} {ps rs : List Rt} {j : Nat} {v : V} {c : T} {d : PyData} (h : RSx H xs (ps ++ rs)) (e : ps[j]? = some (v, c)) (ed : c.toD = some d) : RSx H xs (ps.set j (v, .fz d) ++ ((v, .fz d) :: rs)) := by
  have hj : j < ps.length := (List.getElem?_eq_some_iff.mp e).1
  have k1 : RSx H xs ((v, c) :: (ps.eraseIdx j ++ rs)) := h.perm ((perm_take e).append_right rs)
  have k2 := (k1.freeze ed).dup
  refine k2.perm ?_
  have p1 : (ps.set j (v, T.fz d) ++ ((v, T.fz d) :: rs)).Perm (((v, T.fz d) :: ps.eraseIdx j) ++ ((v, T.fz d) :: rs)) := (perm_set hj).append_right _
  refine List.Perm.trans ?_ p1.symm
  simp only [List.cons_append]
  exact List.Perm.cons _ List.perm_middle.symm
theorem RSx.kid {H : Hp} {xs : List Addr} {ps rs : List Rt} {j : Nat} {v : V} {c : T} (h : RSx H xs (ps ++ rs)) (e : ps[j]? = some (v, c)) : RS H ((v, c) :: rs) := h.forget.pickAt e
theorem map_set {α β : Type} (f : α → β) : ∀ (l : List α) (j : Nat) (x : α), (l.set j x).map f = (l.map f).set j (f x)
  | [], _, _ => rfl
  | _ :: _, 0, _ => rfl
  | _ :: l, j + 1, x => by simp [map_set f l j x]
theorem set_same {α : Type} : ∀ {l : List α} {j : Nat} {x : α}, l[j]? = some x → l.set j x = l
  | [], _, _, h => by simp at h
  | _ :: _, 0, x, h => by
    simp at h
    subst h
    rfl
  | _ :: l, j + 1, x, h => by
    have h' : l[j]? = some x := by simpa using h
    simp [set_same h']
theorem get_map2 {ps : List Rt} {j : Nat} {c : T} (e : (ps.map (·.2))[j]? = some c) : ∃ v, ps[j]? = some (v, c) := by
  rw [List.getElem?_map] at e
  obtain ⟨p, e1, e2⟩ := Option.map_eq_some_iff.mp e
  subst e2
  exact ⟨p.1, e1⟩
/-- the key's place -/
theorem key_at {κ : Type} [DecidableEq κ] (f : κ → PyData) (hf : ∀ a b, keq (f a) (f b) = decide (a = b)) (k : κ) : ∀ (qs : List (κ × V × T)) {c : T}, kFind (f k) (qs.map fun q => (f q.1, q.2.2)) = some c →
    ∃ j v, qs[j]? = some (k, v, c) ∧ valV (qs.map fun q => (q.1, q.2.1)) k = some v ∧ ∀ t, kPut (f k) t (qs.map fun q => (f q.1, q.2.2)) = (qs.set j (k, v, t)).map fun q => (f q.1, q.2.2)
  | [], _, h => by cases h
  | q :: qs, c, h => by
    simp only [List.map_cons, kFind, hf] at h
    by_cases e : q.1 = k
    · subst e
      simp at h
      subst h
      refine ⟨0, q.2.1, rfl, by simp [valV], fun t => ?_⟩
      simp [kPut, hf]
    · simp [e] at h
      obtain ⟨j, v, h1, h2, h3⟩ := key_at f hf k qs h
      refine ⟨j + 1, v, by simpa using h1, ?_, fun t => ?_⟩
      · rw [List.map_cons, valV_neg e]
        exact h2
      · simp [kPut, hf, e, h3 t]

/-- what stands at an index, at a key -/
inductive Ixd (H : Hp) (x y : V) : V → Prop
  | lst {p : Addr} {vs : List V} {i : Int} {z : V} : x = .ref p → y = .int i → Rd H p (.lst vs) → atI vs i = some z → Ixd H x y z
  | tup {p : Addr} {vs : List V} {i : Int} {z : V} : x = .ref p → y = .int i → Rd H p (.tup vs) → atI vs i = some z → Ixd H x y z
  | str {w : Str} {i : Int} {c : Nat} : x = .str w → y = .int i → w.length ≤ sizeLine → atI w.cps.toList i = some c → Ixd H x y (.str ⟨#[c]⟩)
  | dct {a : Addr} {z : V} : x = .ref a → DLook H a y (some z) → Ixd H x y z
theorem at_of {vs : List V} {n : Nat} {i : Int} {j : Nat} {z : V} (hn : vs.length = n) (e : ixOf n i = some j) (ej : vs[j]? = some z) : atI vs i = some z := by
  unfold atI
  rw [hn]
  show (ixOf n i).bind _ = _
  rw [e]
  exact ej
/-- a frozen thing's item -/
theorem at_fz {ps : List (V × PyData)} {j : Nat} {d : PyData} (e : (ps.map (·.2))[j]? = some d) : ∃ v, ps[j]? = some (v, d) := by
  rw [List.getElem?_map] at e
  obtain ⟨p, e1, e2⟩ := Option.map_eq_some_iff.mp e
  subst e2
  exact ⟨p.1, e1⟩
theorem sub_ok {H : Hp} {x y : V} {t t' c : T} {k : PyData} {b : Bool} {L : List Rt} (h : RS H ((x, t) :: L)) (hy : View H y k) (e : subT b t k = some (c, t')) : ∃ z, Ixd H x y z ∧ RS H ((z, c) :: (x, t') :: L) := by
  unfold subT at e
  split at e
  · -- a frozen list
    rename_i ds i
    obtain ⟨d, e1, e2⟩ := Option.map_eq_some_iff.mp e
    cases e2
    obtain ⟨j, ej, ed⟩ := Option.bind_eq_some_iff.mp e1
    obtain ⟨a, ps, rfl, rfl, r, k⟩ := h.x.readL
    obtain ⟨v, ev⟩ := at_fz ed
    refine ⟨v, .lst rfl hy.int r (at_of (by simp) ej (by rw [List.getElem?_map, ev]; rfl)), ?_⟩
    exact k.s.pickAt (j := j) (by rw [List.getElem?_map, ev]; rfl)
  · rename_i ds i
    obtain ⟨d, e1, e2⟩ := Option.map_eq_some_iff.mp e
    cases e2
    obtain ⟨j, ej, ed⟩ := Option.bind_eq_some_iff.mp e1
    obtain ⟨a, ps, rfl, rfl, r, k⟩ := h.x.readT
    obtain ⟨v, ev⟩ := at_fz ed
    refine ⟨v, .tup rfl hy.int r (at_of (by simp) ej (by rw [List.getElem?_map, ev]; rfl)), ?_⟩
    exact k.s.pickAt (j := j) (by rw [List.getElem?_map, ev]; rfl)
  · -- a frozen dict
    rename_i kvs k
    split at e
    · rename_i ok
      obtain ⟨d, e1, e2⟩ := Option.map_eq_some_iff.mp e
      cases e2
      obtain ⟨a, rfl, ⟨qs, eq1, r, kk⟩ | ⟨qs, eq1, r, kk⟩⟩ := h.x.readD
      · have sh : DShape H a _ (qs.map (·.2)) := .inl ⟨qs, eq1, rfl, r⟩
        obtain ⟨o, g, sm⟩ := look_of sh ok hy
        rw [e1] at sm
        obtain ⟨v, rfl, m⟩ := sm.some
        obtain ⟨j, hj⟩ := List.mem_iff_getElem?.mp m
        exact ⟨v, .dct rfl g, kk.s.pickAt (j := j) (by rw [List.getElem?_map, hj]; rfl)⟩
      · have sh : DShape H a _ (qs.map (·.2)) := .inr ⟨qs, eq1, rfl, r⟩
        obtain ⟨o, g, sm⟩ := look_of sh ok hy
        rw [e1] at sm
        obtain ⟨v, rfl, m⟩ := sm.some
        obtain ⟨j, hj⟩ := List.mem_iff_getElem?.mp m
        exact ⟨v, .dct rfl g, kk.s.pickAt (j := j) (by rw [List.getElem?_map, hj]; rfl)⟩
    · cases e
  · -- a text
    rename_i w i
    split at e
    · rename_i hz
      obtain ⟨n, e1, e2⟩ := Option.map_eq_some_iff.mp e
      cases e2
      obtain ⟨j, ej, ed⟩ := Option.bind_eq_some_iff.mp e1
      refine ⟨_, .str (h.view rfl).str hy.int (by rw [← sizeL_eq]; exact hz) (c := n) ?_, h.addS _⟩
      unfold atI
      have : w.cps.toList.length = w.length := by simp [Str.length]
      rw [this]
      show (ixOf w.length i).bind _ = _
      rw [ej]
      simpa using ed
    · cases e
  · -- an owned list
    rename_i ts i
    obtain ⟨j, ej, e1⟩ := Option.bind_eq_some_iff.mp e
    obtain ⟨a, ps, rfl, rfl, r, k⟩ := h.x.openL
    have at_ : ∀ {v : V} {q : T}, ps[j]? = some (v, q) → Ixd H (.ref a) y v := fun {v q} ev => .lst rfl hy.int (.inl r) (at_of (by simp) ej (by rw [List.getElem?_map, ev]; rfl))
    have shut : ∀ {v : V} {q : T} {d : PyData}, ps[j]? = some (v, q) → q.toD = some d → RS H ((v, .fz d) :: (.ref a, .lst ((ps.map (·.2)).set j (.fz d))) :: L) := fun {v q d} ev ed => by
      have k1 := k.child ev ed
      have e2 : H a = some (.lst ((ps.set j (v, .fz d)).map (·.1))) := by
        rw [map_set, set_same (by rw [List.getElem?_map, ev]; rfl)]
        exact r
      have k2 := (k1.shutL e2).s
      rw [map_set] at k2
      exact k2.perm (.swap _ _ _)
    split at e1
    · cases e1
    · rename_i d hd
      cases e1
      obtain ⟨v, ev⟩ := get_map2 hd
      refine ⟨v, at_ ev, ?_⟩
      have := shut ev rfl
      rwa [set_same hd] at this
    · rename_i q _ hq
      split at e1
      · cases e1
        obtain ⟨v, ev⟩ := get_map2 hq
        exact ⟨v, at_ ev, (k.kid ev |> fun z => (RS.gone (v := .ref a) z).perm (.swap _ _ _))⟩
      · obtain ⟨d, ed, e2⟩ := Option.map_eq_some_iff.mp e1
        cases e2
        obtain ⟨v, ev⟩ := get_map2 hq
        exact ⟨v, at_ ev, shut ev ed⟩
  · -- an owned tuple
    rename_i ts i
    obtain ⟨j, ej, e1⟩ := Option.bind_eq_some_iff.mp e
    obtain ⟨a, ps, rfl, rfl, r, k⟩ := h.x.openT
    have at_ : ∀ {v : V} {q : T}, ps[j]? = some (v, q) → Ixd H (.ref a) y v := fun {v q} ev => .tup rfl hy.int (.inl r) (at_of (by simp) ej (by rw [List.getElem?_map, ev]; rfl))
    have shut : ∀ {v : V} {q : T} {d : PyData}, ps[j]? = some (v, q) → q.toD = some d → RS H ((v, .fz d) :: (.ref a, .tup ((ps.map (·.2)).set j (.fz d))) :: L) := fun {v q d} ev ed => by
      have k1 := k.child ev ed
      have e2 : H a = some (.tup ((ps.set j (v, .fz d)).map (·.1))) := by
        rw [map_set, set_same (by rw [List.getElem?_map, ev]; rfl)]
        exact r
      have k2 := (k1.shutT e2).s
      rw [map_set] at k2
      exact k2.perm (.swap _ _ _)
    split at e1
    · cases e1
    · rename_i d hd
      cases e1
      obtain ⟨v, ev⟩ := get_map2 hd
      refine ⟨v, at_ ev, ?_⟩
      have := shut ev rfl
      rwa [set_same hd] at this
    · rename_i q _ hq
      split at e1
      · cases e1
        obtain ⟨v, ev⟩ := get_map2 hq
        exact ⟨v, at_ ev, (k.kid ev |> fun z => (RS.gone (v := .ref a) z).perm (.swap _ _ _))⟩
      · obtain ⟨d, ed, e2⟩ := Option.map_eq_some_iff.mp e1
        cases e2
        obtain ⟨v, ev⟩ := get_map2 hq
        exact ⟨v, at_ ev, shut ev ed⟩
  · -- an owned dict
    rename_i kvs k
    split at e
    case isFalse => cases e
    rename_i ok
    unfold kOk at ok
    simp only [Bool.or_eq_true, Bool.and_eq_true] at ok
    obtain ⟨a, rfl, ⟨qs, rfl, r, kk⟩ | ⟨qs, rfl, r, kk⟩⟩ := h.x.openD
    · rcases ok with ⟨k1, _⟩ | ⟨k1, al⟩
      · obtain ⟨k, rfl⟩ := isK_of k1
        have main : ∀ {q : T}, kFind (kD k) (qs.map fun q => (kD q.1, q.2.2)) = some q → ∃ v, Ixd H (.ref a) y v ∧ RS H ((v, q) :: L) ∧ ∀ d, q.toD = some d → RS H ((v, .fz d) :: (.ref a, .dct (kPut (kD k) (.fz d) (qs.map fun q => (kD q.1, q.2.2)))) :: L) := fun {q} hq => by
          obtain ⟨j, v, h1, h2, h3⟩ := key_at kD keq_kD k qs hq
          have ev : (qs.map (·.2))[j]? = some (v, q) := by rw [List.getElem?_map, h1]; rfl
          refine ⟨v, .dct rfl (.gt (.inl ⟨_, k, .inl r, hy.keyK, h2.symm⟩)), kk.kid ev, fun d ed => ?_⟩
          have k1 := kk.child ev ed
          have e1 : (qs.map (·.2)).set j (v, .fz d) = (qs.set j (k, v, .fz d)).map (·.2) := by rw [map_set]
          rw [e1] at k1
          have e2 : H a = some (.dK ((qs.set j (k, v, .fz d)).map fun q => (q.1, q.2.1))) := by
            rw [map_set, set_same (by rw [List.getElem?_map, h1]; rfl)]
            exact r
          have k2 := (k1.shutK e2).s
          rw [h3]
          exact k2.perm (.swap _ _ _)
        split at e
        · cases e
        · rename_i d hd
          cases e
          obtain ⟨v, ix, _, k2⟩ := main hd
          refine ⟨v, ix, ?_⟩
          have := k2 d rfl
          obtain ⟨j, v', h1, h2, h3⟩ := key_at kD keq_kD k qs hd
          rwa [h3, set_same h1] at this
        · rename_i q _ hq
          obtain ⟨v, ix, k1, k2⟩ := main hq
          split at e
          · cases e
            exact ⟨v, ix, (RS.gone (v := .ref a) k1).perm (.swap _ _ _)⟩
          · obtain ⟨d, ed, e2⟩ := Option.map_eq_some_iff.mp e
            cases e2
            exact ⟨v, ix, k2 d ed⟩
      · obtain ⟨ks, rfl⟩ := isKT_of k1
        cases qs with
        | nil => simp [kFind] at e
        | cons q qs =>
          simp only [List.map_cons, List.all_cons, Bool.and_eq_true] at al
          rw [isKT_kD] at al
          cases al.1
    · rcases ok with ⟨k1, al⟩ | ⟨k1, _⟩
      · obtain ⟨k, rfl⟩ := isK_of k1
        cases qs with
        | nil => simp [kFind] at e
        | cons q qs =>
          simp only [List.map_cons, List.all_cons, Bool.and_eq_true] at al
          rw [isK_tD] at al
          cases al.1
      · obtain ⟨k, rfl⟩ := isKT_of k1
        obtain ⟨b0, rfl, hb⟩ := hy.keyT
        have main : ∀ {q : T}, kFind (tD k) (qs.map fun q => (tD q.1, q.2.2)) = some q → ∃ v, Ixd H (.ref a) (.ref b0) v ∧ RS H ((v, q) :: L) ∧ ∀ d, q.toD = some d → RS H ((v, .fz d) :: (.ref a, .dct (kPut (tD k) (.fz d) (qs.map fun q => (tD q.1, q.2.2)))) :: L) := fun {q} hq => by
          obtain ⟨j, v, h1, h2, h3⟩ := key_at tD keq_tD k qs hq
          have ev : (qs.map (·.2))[j]? = some (v, q) := by rw [List.getElem?_map, h1]; rfl
          refine ⟨v, .dct rfl (.gt (.inr ⟨_, k, b0, .inl r, rfl, hb, h2.symm⟩)), kk.kid ev, fun d ed => ?_⟩
          have k1 := kk.child ev ed
          have e1 : (qs.map (·.2)).set j (v, .fz d) = (qs.set j (k, v, .fz d)).map (·.2) := by rw [map_set]
          rw [e1] at k1
          have e2 : H a = some (.dT ((qs.set j (k, v, .fz d)).map fun q => (q.1, q.2.1))) := by
            rw [map_set, set_same (by rw [List.getElem?_map, h1]; rfl)]
            exact r
          have k2 := (k1.shutD e2).s
          rw [h3]
          exact k2.perm (.swap _ _ _)
        split at e
        · cases e
        · rename_i d hd
          cases e
          obtain ⟨v, ix, _, k2⟩ := main hd
          refine ⟨v, ix, ?_⟩
          have := k2 d rfl
          obtain ⟨j, v', h1, h2, h3⟩ := key_at tD keq_tD k qs hd
          rwa [h3, set_same h1] at this
        · rename_i q _ hq
          obtain ⟨v, ix, k1, k2⟩ := main hq
          split at e
          · cases e
            exact ⟨v, ix, (RS.gone (v := .ref a) k1).perm (.swap _ _ _)⟩
          · obtain ⟨d, ed, e2⟩ := Option.map_eq_some_iff.mp e
            cases e2
            exact ⟨v, ix, k2 d ed⟩
  · cases e

/-! ### the rule -/
def setA (τ : Ta) (x : A) (t : T) : Ta := match x with
  | .sl j => τ.set j t
  | .tm _ => τ
def vSub (a i : AF) : VF := fun τ => (a τ).bind fun p => (i p.2).bind fun q => (q.1.ag q.2).d.bind fun k => (subT (p.1.ag q.2).1 (p.1.ag q.2).2 k).map fun c => (c.1, setA q.2 p.1 c.2)
section
variable {X : Cx} {a b : Expr} {pos : Pos}
theorem ix_all (hu : X.A.units + 1 < cLine) : IxR X (fun x y H Q => ∃ z, Ixd H x y z ∧ Q z H) := by
  intro value slice pins s σ H x y v u Q I rx ry h hs
  obtain ⟨z, ix, q⟩ := h
  cases ix with
  | lst e1 e2 r e3 => exact ix_seq value slice pins s σ H x y v u Q I rx ry (.inl ⟨_, _, _, _, e1, e2, .inl r, e3, q⟩) hs
  | tup e1 e2 r e3 => exact ix_seq value slice pins s σ H x y v u Q I rx ry (.inr (.inl ⟨_, _, _, _, e1, e2, .inl r, e3, q⟩)) hs
  | str e1 e2 r e3 => exact ix_seq value slice pins s σ H x y v u Q I rx ry (.inr (.inr ⟨_, _, _, e1, e2, r, e3, q⟩)) hs
  | dct e1 g =>
    subst e1
    cases rx
    have ty := (match g with | .gt g => dict_typeIs I g)
    exact tail_any ty PySem.F.slot_dict_getitem.lookup (dl_get hu I g ry fun w' s' I' r' => ⟨z, H, I', r', q⟩) hs
theorem pe_sub {f g : AF} (hu : X.A.units + 1 < cLine) (ha : PE X a (tA f)) (hb : PE X b (tA g)) (hs : PlainIx b := by intro _ _; rfl) : PE X (.Subscript a b pos) (tE (vSub f g)) :=
  (pe_ix (ix_all hu) ha hb hs).wk fun σ H Q h => by
    obtain ⟨τ, F, t, τ', sl, rs, e, q⟩ := h
    obtain ⟨p, ep, e2⟩ := Option.bind_eq_some_iff.mp e
    obtain ⟨p2, ep2, e3⟩ := Option.bind_eq_some_iff.mp e2
    obtain ⟨k, ek, e4⟩ := Option.bind_eq_some_iff.mp e3
    obtain ⟨c, ec, e5⟩ := Option.map_eq_some_iff.mp e4
    cases e5
    refine ⟨τ, F, _, _, sl, rs, ep, fun v H' sl' ok rs' => ⟨_, agr v p.1 ++ F, _, _, sl', rs'.swap, ep2, fun w H2 sl2 ok2 rs2 => ?_⟩⟩
    have vk := rs2.viewM (has_of (F := agr v p.1 ++ F) sl2 ok2).mem ek
    have rs3 : RS H2 (slr σ p2.2 ++ (agr v p.1 ++ F)) := rs2.dropL
    cases hp : p.1 with
    | tm t0 =>
      rw [hp] at ec rs3
      have k1 : RS H2 ((v, t0) :: (slr σ p2.2 ++ F)) := rs3.perm List.perm_middle
      obtain ⟨z, ix, k2⟩ := sub_ok k1 vk ec
      refine ⟨z, ix, q z H2 (by rw [hp]; exact sl2) ?_⟩
      rw [hp]
      exact (k2.perm (.swap _ _ _)).tail
    | sl j =>
      rw [hp] at ec rs3 ok
      have hv : σ[j]? = some (some v) := ok
      have k1 : RS H2 ((v, gT p2.2 j) :: (slx σ p2.2 j ++ F)) := rs3.perm ((slr_out sl2 hv).append_right F)
      obtain ⟨z, ix, k2⟩ := sub_ok k1 vk ec
      refine ⟨z, ix, q z H2 (by rw [hp]; exact sl2.setT ⟨v, hv⟩) ?_⟩
      rw [hp]
      exact k2.perm (((slr_in sl2 hv).symm.append_right F).cons _)
end
end SW
end
section
/-! SWq: what is walked; for loops. -/
namespace SW
open PySem PySem.Spec PyProof.Rows L2

/-- the items of the walk J are ts; P i: the roots at turn i -/
structure Cur (J : It) (ts : List T) (P : Nat → List Rt) : Prop where
  go : ∀ i H R, i < ts.length → RS H (P i ++ R) → J.go i H
  stop : ∀ H R, RS H (P ts.length ++ R) → J.stop ts.length H
  yld : ∀ (i : Nat) (H : Hp) (x : V) (H' : Hp) (R : List Rt) (t : T), ts[i]? = some t → RS H (P i ++ R) → J.yld i H x H' → RS H' ((x, t) :: (P (i + 1) ++ R))
def tIt (f : LF) : TI := fun σ H Rr => ∃ τ F ts τ', Sl σ τ ∧ RS H (slr σ τ ++ F) ∧ f τ = some (ts, τ') ∧ ∀ J P H', Cur J ts P → Sl σ τ' → RS H' (P 0 ++ (slr σ τ' ++ F)) → Rr J H'
theorem _root_.L2.PI.wk {X : Cx} {tg e : Expr} {t t' : TI} (h : PI X tg e t) (i : ∀ σ H Q, t' σ H Q → t σ H Q) : PI X tg e t' := ⟨fun pins s σ H Q I q => h.run pins s σ H Q I (i σ H Q q)⟩

/-! ### a list, a tuple laid open: its shell and its items -/
theorem RS.iterL {H : Hp} {v : V} {t : T} {ts : List T} {R : List Rt} (h : RS H ((v, t) :: R)) (e : SW.kidsL (true, t) = some ts) : ∃ a vs, v = .ref a ∧ vs.length = ts.length ∧ RS H ((.ref a, .pin (.lst vs)) :: (vs.zip ts ++ R)) := by
  unfold SW.kidsL at e
  split at e
  · rename_i ds hg
    cases hg
    cases e
    obtain ⟨G, cs, s, r, nd, no⟩ := h
    cases r with
    | cons h r =>
      generalize et : T.fz (.list ds) = t at h
      cases h with
      | fz h =>
        cases et
        generalize ed : PyData.list ds = d at h
        cases h with
        | lst ea k =>
          cases ed
          rename_i a ps
          refine ⟨a, ps.map (·.1), rfl, by simp, ?_⟩
          rw [fz_zip]
          exact ⟨G, _, s, .cons (as := []) (.pin ea) ((RP.fzs k).append r), nd, no⟩
        | _ => cases ed
      | _ => cases et
  · rename_i ts' hg
    cases hg
    simp only [Bool.true_or, if_true] at e
    cases e
    obtain ⟨G, cs, s, r, nd, no⟩ := h
    cases r with
    | cons h r =>
      generalize et : T.lst ts = t at h
      cases h with
      | lst ea k =>
        cases et
        rename_i bs a ps as
        refine ⟨a, ps.map (·.1), rfl, by simp, ?_⟩
        rw [zip_self]
        have na : a ∉ as ++ bs := (List.nodup_cons.mp nd).1
        have x : Ext G (L2.upd G a (.lst (ps.map (·.1)))) := fun b u eb => by
          rw [L2.upd_ne]
          · exact eb
          · intro z
            subst z
            rw [no b List.mem_cons_self] at eb
            cases eb
        refine ⟨L2.upd G a (.lst (ps.map (·.1))), as ++ bs, fun b u eb => ?_, .cons (as := []) (.pin L2.upd_same) ((k.append r).frame x (fun _ _ e => e) (fun _ _ _ e => e) fun _ _ => rfl), (List.nodup_cons.mp nd).2, fun b m => ?_⟩
        · by_cases hb : b = a
          · subst hb
            rw [L2.upd_same] at eb
            cases eb
            exact ⟨.inl ea, rfl, fun _ => ea⟩
          · rw [L2.upd_ne hb] at eb
            exact s b u eb
        · have ne : b ≠ a := fun z => by
            subst z
            exact na m
          rw [L2.upd_ne ne]
          exact no b (List.mem_cons_of_mem _ m)
      | _ => cases et
  · cases e
theorem RS.iterT {H : Hp} {v : V} {t : T} {ts : List T} {R : List Rt} (h : RS H ((v, t) :: R)) (e : SW.kidsT (true, t) = some ts) : ∃ a vs, v = .ref a ∧ vs.length = ts.length ∧ RS H ((.ref a, .pin (.tup vs)) :: (vs.zip ts ++ R)) := by
  unfold SW.kidsT at e
  split at e
  · rename_i ds hg
    cases hg
    cases e
    obtain ⟨G, cs, s, r, nd, no⟩ := h
    cases r with
    | cons h r =>
      generalize et : T.fz (.tuple ds) = t at h
      cases h with
      | fz h =>
        cases et
        generalize ed : PyData.tuple ds = d at h
        cases h with
        | tup ea k =>
          cases ed
          rename_i a ps
          refine ⟨a, ps.map (·.1), rfl, by simp, ?_⟩
          rw [fz_zip]
          exact ⟨G, _, s, .cons (as := []) (.pin ea) ((RP.fzs k).append r), nd, no⟩
        | _ => cases ed
      | _ => cases et
  · rename_i ts' hg
    cases hg
    simp only [Bool.true_or, if_true] at e
    cases e
    obtain ⟨G, cs, s, r, nd, no⟩ := h
    cases r with
    | cons h r =>
      generalize et : T.tup ts = t at h
      cases h with
      | tup ea k =>
        cases et
        rename_i bs a ps
        refine ⟨a, ps.map (·.1), rfl, by simp, ?_⟩
        rw [zip_self]
        exact ⟨G, _, s, .cons (as := []) (.pinT ea) (k.append r), nd, no⟩
      | _ => cases et
  · cases e
theorem RS.pinL {H : Hp} {a : Addr} {vs : List V} {R : List Rt} (h : RS H ((.ref a, .pin (.lst vs)) :: R)) : Rd H a (.lst vs) := by
  obtain ⟨G, cs, s, r, nd, no⟩ := h
  cases r with
  | cons h r =>
    generalize et : T.pin (.lst vs) = t at h
    cases h with
    | pin e =>
      cases et
      exact (s _ _ e).1
    | pinT e => cases et
    | _ => cases et
theorem RS.pinT {H : Hp} {a : Addr} {vs : List V} {R : List Rt} (h : RS H ((.ref a, .pin (.tup vs)) :: R)) : Rd H a (.tup vs) := by
  obtain ⟨G, cs, s, r, nd, no⟩ := h
  cases r with
  | cons h r =>
    generalize et : T.pin (.tup vs) = t at h
    cases h with
    | pin e =>
      cases et
      exact (s _ _ e).1
    | pinT e =>
      cases et
      exact .inl e
    | _ => cases et
theorem sqL_eq {K : PySem.W.Frag} {H : Hp} {a : Addr} {vs : List V} {i : Nat} {x : V} (h : Rd H a (.lst vs)) (k : ∀ xs, SqL K H a xs → xs[i]? = some x) : vs[i]? = some x := k vs (.inl h)
theorem drop_zip {vs : List V} {ts : List T} {i : Nat} {x : V} {t : T} (h1 : vs[i]? = some x) (h2 : ts[i]? = some t) : (vs.zip ts).drop i = (x, t) :: (vs.zip ts).drop (i + 1) := by
  have a := (List.getElem?_eq_some_iff.mp h1)
  have b := (List.getElem?_eq_some_iff.mp h2)
  rw [List.drop_eq_getElem_cons (by rw [List.length_zip]; have := a.1; have := b.1; omega)]
  congr 1
  rw [List.getElem_zip, a.2, b.2]
/-- over a list, a tuple -/
def PL (a : Addr) (vs : List V) (ts : List T) (i : Nat) : List Rt := (.ref a, .pin (.lst vs)) :: (vs.zip ts).drop i
def PT' (a : Addr) (vs : List V) (ts : List T) (i : Nat) : List Rt := (.ref a, .pin (.tup vs)) :: (vs.zip ts).drop i
theorem cur_list {K : PySem.W.Frag} {a : Addr} {vs : List V} {ts : List T} (l : vs.length = ts.length) : Cur (Itl K a) ts (PL a vs ts) := by
  refine ⟨fun i H R hi h => ?_, fun H R h => ⟨vs, .inl h.pinL, by omega⟩, fun i H x H' R t ht h y => ?_⟩
  · exact ⟨vs, vs[i], .inl h.pinL, by rw [List.getElem?_eq_getElem (by omega)]⟩
  · obtain ⟨rfl, y⟩ := y
    have hx := sqL_eq h.pinL y
    unfold PL at h ⊢
    rw [drop_zip hx ht] at h
    exact h.perm (.swap _ _ _)
theorem cur_tup {K : PySem.W.Frag} {a : Addr} {vs : List V} {ts : List T} (l : vs.length = ts.length) : Cur (Itt K a) ts (PT' a vs ts) := by
  refine ⟨fun i H R hi h => ?_, fun H R h => ⟨vs, .inl h.pinT, by omega⟩, fun i H x H' R t ht h y => ?_⟩
  · exact ⟨vs, vs[i], .inl h.pinT, by rw [List.getElem?_eq_getElem (by omega)]⟩
  · obtain ⟨rfl, y⟩ := y
    have hx := y vs (.inl h.pinT)
    unfold PT' at h ⊢
    rw [drop_zip hx ht] at h
    exact h.perm (.swap _ _ _)
theorem cur_str {x : Str} : Cur (Its x) (x.cps.toList.map fun c => tS ⟨#[c]⟩) (fun _ => []) := by
  refine ⟨fun i H R hi h => ?_, fun H R h => ?_, fun i H v H' R t ht h y => ?_⟩
  · show i < x.cps.size
    simpa using hi
  · show x.cps.size ≤ _
    simp
  · obtain ⟨rfl, c, hc, rfl⟩ := y
    rw [List.getElem?_map] at ht
    have : x.cps.toList[i]? = some c := by simpa using hc
    rw [this] at ht
    cases ht
    exact RS.addS (rs := R) ⟨#[c]⟩ h
theorem cur_range {lo : Int} {n : Nat} : Cur (Itr lo n) ((rngL lo n).map .fz) (fun _ => []) := by
  have hl : ((rngL lo n).map T.fz).length = n := by simp [rngL]
  refine ⟨fun i H R hi h => ?_, fun H R h => ?_, fun i H v H' R t ht h y => ?_⟩
  · show i < n
    omega
  · show n ≤ _
    omega
  · obtain ⟨rfl, rfl⟩ := y
    have hi : i < n := by
      rw [← hl]
      exact (List.getElem?_eq_some_iff.mp ht).1
    simp only [rngL, List.getElem?_map, List.getElem?_range hi, Option.map_some] at ht
    cases ht
    exact RS.addI (rs := R) _ h
theorem pairT {H : Hp} {T0 : Addr} {x y : V} {t u : T} {R : List Rt} (hn : H T0 = none) (h : RS H ((x, t) :: (y, u) :: R)) : RS (L2.upd H T0 (.tup [x, y])) ((.ref T0, mkT [t, u]) :: R) := RS.newT (vs := [x, y]) (ts := [t, u]) h rfl hn
/-- pairs with their number -/
def enuT (ts : List T) : List T := ((List.range ts.length).zip ts).map fun q => mkT [tI (q.1 : Nat), q.2]
theorem cur_enum {K : PySem.W.Frag} {a : Addr} {vs : List V} {ts : List T} (l : vs.length = ts.length) : Cur (Ite K a) (enuT ts) (PL a vs ts) := by
  have hl : (enuT ts).length = ts.length := by simp [enuT]
  refine ⟨fun i H R hi h => ?_, fun H R h => ⟨vs, .inl h.pinL, by omega⟩, fun i H x H' R t ht h y => ?_⟩
  · exact ⟨vs, vs[i], .inl h.pinL, by rw [List.getElem?_eq_getElem (by omega)]⟩
  · obtain ⟨T0, x0, rfl, hn, rfl, y⟩ := y
    have hx := y vs (.inl h.pinL)
    have hi : i < ts.length := by
      rw [← l]
      exact (List.getElem?_eq_some_iff.mp hx).1
    have et : t = mkT [tI (i : Nat), ts[i]] := by
      rw [List.getElem?_eq_getElem (by omega)] at ht
      have := Option.some.inj ht
      rw [← this]
      simp [enuT]
    unfold PL at h ⊢
    rw [drop_zip hx (List.getElem?_eq_getElem hi)] at h
    rw [et]
    refine pairT hn (RS.addI _ ?_)
    exact h.perm (.swap _ _ _)
def zipT (ts us : List T) : List T := (ts.zip us).map fun z => mkT [z.1, z.2]
def PZ (a b : Addr) (vs ws : List V) (ts us : List T) (i : Nat) : List Rt := (.ref a, .pin (.lst vs)) :: (.ref b, .pin (.lst ws)) :: ((vs.zip ts).drop i ++ (ws.zip us).drop i)
def PZT (a b : Addr) (vs ws : List V) (ts us : List T) (i : Nat) : List Rt := (.ref a, .pin (.tup vs)) :: (.ref b, .pin (.tup ws)) :: ((vs.zip ts).drop i ++ (ws.zip us).drop i)
theorem zip_len {ts us : List T} : (zipT ts us).length = min ts.length us.length := by simp [zipT]
theorem zip_root {H : Hp} {p q : Rt} {A B R : List Rt} {x y : Rt} (h : RS H (p :: q :: ((x :: A) ++ (y :: B) ++ R))) : RS H (x :: y :: (p :: q :: (A ++ B ++ R))) := by
  refine h.perm ?_
  have e1 : (p :: q :: ((x :: A) ++ (y :: B) ++ R)).Perm (x :: p :: q :: (A ++ (y :: B) ++ R)) := by
    refine (List.Perm.cons _ (List.Perm.swap _ _ _)).trans ?_
    exact .swap _ _ _
  refine e1.trans (.cons _ ?_)
  have e2 : (A ++ (y :: B) ++ R).Perm (y :: (A ++ B ++ R)) := by
    rw [List.append_assoc, List.append_assoc]
    exact List.perm_middle
  refine ((e2.cons _).cons _).trans ?_
  refine (List.Perm.cons _ (List.Perm.swap _ _ _)).trans ?_
  exact .swap _ _ _
theorem cur_zip {K : PySem.W.Frag} {a b : Addr} {vs ws : List V} {ts us : List T} (l : vs.length = ts.length) (l2 : ws.length = us.length) : Cur (Itz K a b) (zipT ts us) (PZ a b vs ws ts us) := by
  have p1 : ∀ {i : Nat} {H : Hp} {R : List Rt}, RS H (PZ a b vs ws ts us i ++ R) → Rd H a (.lst vs) ∧ Rd H b (.lst ws) := fun h => ⟨h.pinL, (RS.tail h).pinL⟩
  have zl := zip_len (ts := ts) (us := us)
  refine ⟨fun i H R hi h => ?_, fun H R h => ⟨vs, ws, .inl (p1 h).1, .inl (p1 h).2, by omega⟩, fun i H x H' R t ht h y => ?_⟩
  · exact ⟨vs, ws, vs[i], ws[i], .inl (p1 h).1, .inl (p1 h).2, by rw [List.getElem?_eq_getElem (by omega)], by rw [List.getElem?_eq_getElem (by omega)]⟩
  · obtain ⟨T0, x0, y0, rfl, hn, rfl, y1, y2⟩ := y
    have hx := y1 vs (.inl (p1 h).1)
    have hy := y2 ws (.inl (p1 h).2)
    have hi : i < (zipT ts us).length := (List.getElem?_eq_some_iff.mp ht).1
    have et : t = mkT [ts[i], us[i]] := by
      rw [List.getElem?_eq_getElem hi] at ht
      have := Option.some.inj ht
      rw [← this]
      simp [zipT]
    unfold PZ at h ⊢
    rw [drop_zip hx (List.getElem?_eq_getElem (by omega)), drop_zip hy (List.getElem?_eq_getElem (by omega))] at h
    rw [et]
    exact pairT hn (zip_root h)
theorem cur_zipT {K : PySem.W.Frag} {a b : Addr} {vs ws : List V} {ts us : List T} (l : vs.length = ts.length) (l2 : ws.length = us.length) : Cur (RZ.ItzT K a b) (zipT ts us) (PZT a b vs ws ts us) := by
  have p1 : ∀ {i : Nat} {H : Hp} {R : List Rt}, RS H (PZT a b vs ws ts us i ++ R) → Rd H a (.tup vs) ∧ Rd H b (.tup ws) := fun h => ⟨h.pinT, (RS.tail h).pinT⟩
  have zl := zip_len (ts := ts) (us := us)
  refine ⟨fun i H R hi h => ?_, fun H R h => ⟨vs, ws, .inl (p1 h).1, .inl (p1 h).2, by omega⟩, fun i H x H' R t ht h y => ?_⟩
  · exact ⟨vs, ws, vs[i], ws[i], .inl (p1 h).1, .inl (p1 h).2, by rw [List.getElem?_eq_getElem (by omega)], by rw [List.getElem?_eq_getElem (by omega)]⟩
  · obtain ⟨T0, x0, y0, rfl, hn, rfl, y1, y2⟩ := y
    have hx := y1 vs (.inl (p1 h).1)
    have hy := y2 ws (.inl (p1 h).2)
    have hi : i < (zipT ts us).length := (List.getElem?_eq_some_iff.mp ht).1
    have et : t = mkT [ts[i], us[i]] := by
      rw [List.getElem?_eq_getElem hi] at ht
      have := Option.some.inj ht
      rw [← this]
      simp [zipT]
    unfold PZT at h ⊢
    rw [drop_zip hx (List.getElem?_eq_getElem (by omega)), drop_zip hy (List.getElem?_eq_getElem (by omega))] at h
    rw [et]
    exact pairT hn (zip_root h)

/-! ### what an expression gives to walk -/
def itsT : T → Option (List T)
  | .fz (.list ds) => some (ds.map .fz)
  | .fz (.tuple ds) => some (ds.map .fz)
  | .fz (.str x) => some (x.cps.toList.map fun c => tS ⟨#[c]⟩)
  | .lst ts => some ts
  | .tup ts => some ts
  | _ => none
def lIts (v : VF) : LF := fun τ => (v τ).bind fun p => (itsT p.1).map fun ts => (ts, p.2)
def lEnu (v : VF) : LF := fun τ => (v τ).bind fun p => (kidsL (true, p.1)).map fun ts => (enuT ts, p.2)
def lZip (v w : VF) : LF := fun τ => (v τ).bind fun p => (w p.2).bind fun q => match kidsL (true, p.1), kidsL (true, q.1) with
  | some ts, some us => some (zipT ts us, q.2)
  | _, _ => match kidsT (true, p.1), kidsT (true, q.1) with
    | some ts, some us => some (zipT ts us, q.2)
    | _, _ => none
def rngOk (i : Int) : Bool := decide (-(2 ^ 62) ≤ i) && decide (i < 2 ^ 62)
def lRng1 (a : AF) : LF := fun τ => (a τ).bind fun p => (p.1.ag p.2).int.bind fun n => if rngOk n then some ((rngL 0 n.toNat).map .fz, p.2) else none
def lRng2 (a b : AF) : LF := fun τ => (a τ).bind fun p => (b p.2).bind fun q => (p.1.ag q.2).int.bind fun i => (q.1.ag q.2).int.bind fun j => if rngOk i && rngOk j then some ((rngL i (j - i).toNat).map .fz, q.2) else none
theorem rngOk_of {i : Int} (h : rngOk i = true) : -(2 ^ 62) ≤ i ∧ i < 2 ^ 62 := by
  unfold rngOk at h
  simpa using h
section
variable {X : Cx} {tg e e2 : Expr} {pos p : Pos}
theorem pi_val {f : VF} (h : PE X e (tE f)) : PI X tg e (tIt (lIts f)) := by
  refine ⟨fun pins s σ H R I q => ?_⟩
  obtain ⟨τ, F, ts, τ', sl, rs, e0, q⟩ := q
  obtain ⟨p, ep, e1⟩ := Option.bind_eq_some_iff.mp e0
  obtain ⟨us, e2, e3⟩ := Option.map_eq_some_iff.mp e1
  cases e3
  have lists : SW.kidsL (true, p.1) = some ts → wpAny (model X.prog X.w) X.A (eval e X.env) (fun xv s1 => wpAny (model X.prog X.w) X.A (pyIter xv) (PIE X pins σ tg R) X.xe s1) X.xe s := fun ek =>
    (pi_list h).run pins s σ H R I ⟨τ, F, _, _, sl, rs, ep, fun v H' sl' rs' => by
      obtain ⟨a, vs, rfl, l, k⟩ := rs'.iterL ek
      exact ⟨a, rfl, ⟨vs, .inl k.pinL⟩, q _ _ _ (cur_list l) sl' k⟩⟩
  have tups : SW.kidsT (true, p.1) = some ts → wpAny (model X.prog X.w) X.A (eval e X.env) (fun xv s1 => wpAny (model X.prog X.w) X.A (pyIter xv) (PIE X pins σ tg R) X.xe s1) X.xe s := fun ek =>
    (pi_tup h).run pins s σ H R I ⟨τ, F, _, _, sl, rs, ep, fun v H' sl' rs' => by
      obtain ⟨a, vs, rfl, l, k⟩ := rs'.iterT ek
      exact ⟨a, rfl, ⟨vs, .inl k.pinT⟩, q _ _ _ (cur_tup l) sl' k⟩⟩
  unfold itsT at e2
  split at e2
  · rename_i ds hd
    cases e2
    exact lists (by rw [hd]; rfl)
  · rename_i ds hd
    cases e2
    exact tups (by rw [hd]; rfl)
  · rename_i x hd
    cases e2
    refine (pi_str h).run pins s σ H R I ⟨τ, F, _, _, sl, rs, ep, fun v H' sl' rs' => ⟨x, ?_, q _ _ _ cur_str sl' rs'.tail⟩⟩
    rw [hd] at rs'
    exact (rs'.view rfl).str
  · rename_i ds hd
    cases e2
    exact lists (by rw [hd]; rfl)
  · rename_i ds hd
    cases e2
    exact tups (by rw [hd]; rfl)
  · cases e2
theorem pi_enu {f : VF} {tpos : Pos} {elts : List Expr} {kk : Nat} (hg : Gl X "enumerate") (hm : X.mg "enumerate" = none) (h : PE X e (tE f)) (hs : starEach [e] X.env = [(false, eval e X.env)] := by rfl) :
    PI X (.Tuple elts kk tpos) (.Call (.Name "enumerate" p) [e] [] pos) (tIt (lEnu f)) :=
  (pi_enum hg hm (pa_cons h pa_nil hs) hs).wk fun σ H R q => by
    obtain ⟨τ, F, ts, τ', sl, rs, e0, q⟩ := q
    obtain ⟨p, ep, e1⟩ := Option.bind_eq_some_iff.mp e0
    obtain ⟨us, e2, e3⟩ := Option.map_eq_some_iff.mp e1
    cases e3
    refine ⟨τ, F, _, _, sl, rs, ep, fun v H' sl' rs' => ?_⟩
    obtain ⟨a, vs, rfl, l, k⟩ := rs'.iterL e2
    exact ⟨a, vs, rfl, .inl k.pinL, q _ _ _ (cur_enum l) sl' k⟩
theorem pi_zp {f g : VF} {tpos : Pos} {elts : List Expr} {kk : Nat} (hg : Gl X "zip") (hm : X.mg "zip" = none) (ha : PE X e (tE f)) (hb : PE X e2 (tE g)) (hs : starEach [e, e2] X.env = (false, eval e X.env) :: starEach [e2] X.env := by rfl)
    (hs2 : starEach [e2] X.env = (false, eval e2 X.env) :: starEach [] X.env := by rfl) (hpl : (backTo pos (starEach [e2] X.env)).any (·.1) = false := by rfl) :
    PI X (.Tuple elts kk tpos) (.Call (.Name "zip" p) [e, e2] [] pos) (tIt (lZip f g)) :=
  (RZ.pi_zipA hg hm (pa_cons ha (pa_cons hb pa_nil hs2) hs) hs hpl).wk fun σ H R q => by
    obtain ⟨τ, F, ts, τ', sl, rs, e0, q⟩ := q
    obtain ⟨p, ep, e1⟩ := Option.bind_eq_some_iff.mp e0
    obtain ⟨p2, ep2, e2⟩ := Option.bind_eq_some_iff.mp e1
    refine ⟨τ, F, _, _, sl, rs, ep, fun v H' sl' rs' => ⟨_, (v, p.1) :: F, _, _, sl', rs'.swap1, ep2, fun w H2 sl2 rs2 => ?_⟩⟩
    have r3 : RS H2 ((v, p.1) :: ((w, p2.1) :: (slr σ p2.2 ++ F))) := rs2.perm (by
      refine (List.Perm.cons _ List.perm_middle).trans ?_
      exact .swap _ _ _)
    split at e2
    · rename_i us ws k1 k2
      cases e2
      obtain ⟨a, vs, rfl, l, r4⟩ := r3.iterL k1
      have r5 : RS H2 ((w, p2.1) :: ((V.ref a, T.pin (.lst vs)) :: (vs.zip us ++ (slr σ p2.2 ++ F)))) := r4.perm (by
        refine (List.Perm.cons _ List.perm_middle).trans ?_
        exact .swap _ _ _)
      obtain ⟨b, xs, rfl, l2, r6⟩ := r5.iterL k2
      have r7 : RS H2 (PZ a b vs xs us ws 0 ++ (slr σ p2.2 ++ F)) := r6.perm (by
        simp only [PZ, List.drop_zero, List.cons_append]
        refine (List.Perm.cons _ List.perm_middle).trans ?_
        refine (List.Perm.swap _ _ _).trans ?_
        refine List.Perm.cons _ (List.Perm.cons _ ?_)
        rw [← List.append_assoc]
        exact List.perm_append_comm.append_right _)
      exact ⟨a, b, vs, xs, rfl, .inl ⟨.inl (RS.pinL r7), .inl (RS.pinL (RS.tail r7)), q _ _ _ (cur_zip l l2) sl2 r7⟩⟩
    · split at e2
      · rename_i us ws k1 k2
        cases e2
        obtain ⟨a, vs, rfl, l, r4⟩ := r3.iterT k1
        have r5 : RS H2 ((w, p2.1) :: ((V.ref a, T.pin (.tup vs)) :: (vs.zip us ++ (slr σ p2.2 ++ F)))) := r4.perm (by
          refine (List.Perm.cons _ List.perm_middle).trans ?_
          exact .swap _ _ _)
        obtain ⟨b, xs, rfl, l2, r6⟩ := r5.iterT k2
        have r7 : RS H2 (PZT a b vs xs us ws 0 ++ (slr σ p2.2 ++ F)) := r6.perm (by
          simp only [PZT, List.drop_zero, List.cons_append]
          refine (List.Perm.cons _ List.perm_middle).trans ?_
          refine (List.Perm.swap _ _ _).trans ?_
          refine List.Perm.cons _ (List.Perm.cons _ ?_)
          rw [← List.append_assoc]
          exact List.perm_append_comm.append_right _)
        exact ⟨a, b, vs, xs, rfl, .inr ⟨.inl (RS.pinT r7), .inl (RS.pinT (RS.tail r7)), q _ _ _ (cur_zipT l l2) sl2 r7⟩⟩
      · cases e2
theorem pi_rng1 {f : AF} (hg : Gl X "range") (hm : X.mg "range" = none) (ha : PE X e (tA f)) (hs : starEach [e] X.env = [(false, eval e X.env)] := by rfl) : PI X tg (.Call (.Name "range" p) [e] [] pos) (tIt (lRng1 f)) :=
  (pi_range1 hg hm (pa_cons ha pa_nil hs) hs).wk fun σ H R q => by
    obtain ⟨τ, F, ts, τ', sl, rs, e0, q⟩ := q
    obtain ⟨p, ep, e1⟩ := Option.bind_eq_some_iff.mp e0
    obtain ⟨n, en, e2⟩ := Option.bind_eq_some_iff.mp e1
    split at e2
    · rename_i ok
      cases e2
      obtain ⟨o1, o2⟩ := rngOk_of ok
      refine ⟨τ, F, _, _, sl, rs, ep, fun v H' sl' ok' rs' => ⟨n, ?_, o1, o2, q _ _ _ cur_range sl' rs'.dropL⟩⟩
      rw [get_int rs' (has_of (F := F) sl' ok').mem en]
    · cases e2
theorem pi_rng2 {f g : AF} (hg : Gl X "range") (hm : X.mg "range" = none) (ha : PE X e (tA f)) (hb : PE X e2 (tA g)) (hs : starEach [e, e2] X.env = [(false, eval e X.env), (false, eval e2 X.env)] := by rfl) (hs2 : starEach [e2] X.env = [(false, eval e2 X.env)] := by rfl) :
    PI X tg (.Call (.Name "range" p) [e, e2] [] pos) (tIt (lRng2 f g)) :=
  (pi_range2 hg hm (pa_cons ha (pa_cons hb pa_nil hs2) (by rw [hs, hs2])) hs hs2).wk fun σ H R q => by
    obtain ⟨τ, F, ts, τ', sl, rs, e0, q⟩ := q
    obtain ⟨p, ep, e1⟩ := Option.bind_eq_some_iff.mp e0
    obtain ⟨p2, ep2, e2⟩ := Option.bind_eq_some_iff.mp e1
    obtain ⟨i, ei, e3⟩ := Option.bind_eq_some_iff.mp e2
    obtain ⟨j, ej, e4⟩ := Option.bind_eq_some_iff.mp e3
    split at e4
    · rename_i ok
      cases e4
      simp only [Bool.and_eq_true] at ok
      obtain ⟨o1, o2⟩ := rngOk_of ok.1
      obtain ⟨o3, o4⟩ := rngOk_of ok.2
      refine ⟨τ, F, _, _, sl, rs, ep, fun v H' sl' ok' rs' => ⟨_, agr v p.1 ++ F, _, _, sl', rs'.swap, ep2, fun w H2 sl2 ok2 rs2 => ⟨i, j, ?_, ⟨o1, o2, o3, o4⟩, q _ _ _ cur_range sl2 ?_⟩⟩⟩
      · have m2 := (has_of (F := agr v p.1 ++ F) sl2 ok2).mem
        have hw := get_int rs2 m2 ej
        have m1 : (v, (p.1.ag p2.2).2) ∈ agr w p2.1 ++ (slr σ p2.2 ++ (agr v p.1 ++ F)) := (has_of (F := F) sl2 ok').mem2 (fun r m => List.mem_append_right _ (List.mem_append_right _ (List.mem_append_left _ m))) (fun r m => by
          rcases List.mem_append.mp m with m | m
          · exact List.mem_append_right _ (List.mem_append_left _ m)
          · exact List.mem_append_right _ (List.mem_append_right _ (List.mem_append_right _ m)))
        have hv := get_int rs2 m1 ei
        rw [hv, hw]
      · have r3 : RS H2 (slr σ p2.2 ++ (agr v p.1 ++ F)) := rs2.dropL
        exact (RS.swap r3).dropL
    · cases e4

/-! ### for -/
def loopF (f : T → BS) : List T → BS
  | [], τ => some (.nx τ)
  | t :: ts, τ => (f t τ).bind fun o => match o with
    | .nx τ1 => loopF f ts τ1
    | .ct τ1 => loopF f ts τ1
    | .bk τ1 => some (.nx τ1)
    | .rt r τ1 => some (.rt r τ1)
def sFor (g : Tg) (f : LF) (b : BS) : BS := fun τ => (f τ).bind fun p => loopF (fun t τ => (putG g t τ).bind b) p.1 p.2
theorem s_for {iter : Expr} {body : List Stmt} {f : LF} {g : Tg} {b : BS} {W : List Nat} (hE : X.xe = fun _ _ => False) (hc : X.calm = true) (hi : PI X tg iter (tIt f)) (hg : PG X tg (tG g)) (hb : PSs X body (tW W b)) (hw : ∀ i ∈ g.own, i ∈ W)
    (hs : ∀ x, foldedSetIterable iter X.env x = pure x := by intro _; rfl) : PS X (.For tg iter body [] pos) (tW W (sFor g f b)) :=
  (ps_for (by rw [hE]; exact .never) hc hi hg hb hs).wk fun D σ0 H0 h => by
    obtain ⟨τ0, F, o, sl0, rs0, e0, q⟩ := h
    obtain ⟨p, ep, e1⟩ := Option.bind_eq_some_iff.mp e0
    refine ⟨τ0, F, _, _, sl0, rs0, ep, fun J P H1 cur sl1 rs1 => ?_⟩
    refine ⟨fun i m σ H => m = p.1.length - i ∧ i ≤ p.1.length ∧ ∃ τ, Sl σ τ ∧ RS H (P i ++ (slr σ τ ++ F)) ∧ AgW W σ0 σ ∧ loopF (fun t τ => (putG g t τ).bind b) (p.1.drop i) τ = some o, ⟨_, rfl, Nat.zero_le _, p.2, sl1, rs1, .refl, e1⟩, ?_⟩
    rintro i m σ H ⟨rfl, hi, τ, sl, rs, ag, e⟩
    by_cases hlt : i < p.1.length
    · refine .inr ⟨cur.go i H _ hlt rs, fun σ' H' => i + 1 ≤ p.1.length ∧ ∃ τ, Sl σ' τ ∧ RS H' (P (i + 1) ++ (slr σ' τ ++ F)) ∧ AgW W σ0 σ' ∧ loopF (fun t τ => (putG g t τ).bind b) (p.1.drop (i + 1)) τ = some o, fun σ' H' z => ⟨_, by omega, rfl, z⟩, fun x H' y => ?_⟩
      have et : p.1[i]? = some p.1[i] := List.getElem?_eq_getElem hlt
      have r2 := cur.yld i H x H' _ _ et rs y
      rw [List.drop_eq_getElem_cons hlt] at e
      obtain ⟨o1, eo, e2⟩ := Option.bind_eq_some_iff.mp e
      obtain ⟨τ1, et1, eb⟩ := Option.bind_eq_some_iff.mp eo
      have r3 : RS H' ((x, p.1[i]) :: (slr σ τ ++ (P (i + 1) ++ F))) := r2.perm (.cons _ (by
        rw [← List.append_assoc, ← List.append_assoc]
        exact List.perm_append_comm.append_right _))
      refine ⟨τ, P (i + 1) ++ F, _, _, sl, r3, et1, fun σ2 H2 a2 sl2 rs2 => ?_⟩
      have ag2 := ag.trans (a2.mono hw)
      refine ⟨τ1, P (i + 1) ++ F, o1, sl2, rs2, eb, ?_⟩
      cases o1 with
      | nx τ3 => exact fun σ3 H3 a3 sl3 rs3 => ⟨hlt, τ3, sl3, rs3.swap, ag2.trans a3, e2⟩
      | ct τ3 => exact fun σ3 H3 a3 sl3 rs3 => ⟨hlt, τ3, sl3, rs3.swap, ag2.trans a3, e2⟩
      | bk τ3 =>
        cases e2
        exact fun σ3 H3 a3 sl3 rs3 => q σ3 H3 (ag2.trans a3) sl3 rs3.swap.dropL
      | rt r τ3 =>
        cases e2
        refine fun v σ3 H3 a3 sl3 rs3 => q v σ3 H3 (ag2.trans a3) sl3 ?_
        have r5 : RS H3 (P (i + 1) ++ ((v, r) :: (slr σ3 τ3 ++ F))) := rs3.perm (by
          refine (List.Perm.cons _ ?_).trans List.perm_middle.symm
          rw [← List.append_assoc, ← List.append_assoc]
          exact List.perm_append_comm.append_right _)
        exact r5.dropL
    · have : i = p.1.length := by omega
      subst this
      rw [List.drop_length] at e
      cases e
      exact .inl ⟨cur.stop H _ rs, q σ H ag sl rs.dropL⟩
end
end SW
end
section
/-! SWr: list comprehensions. -/
namespace SW
open PySem PySem.Spec PyProof.Rows L2

/-! ### a block's own slots -/
theorem wipe_get {σ : L2.St} : ∀ {vs : List Nat} {i : Nat}, i < σ.length → (wipe σ vs)[i]? = if i ∈ vs then some none else σ[i]?
  | [], i, _ => by simp [wipe]
  | v :: vs, i, hi => by
    unfold wipe
    by_cases e : v = i
    · subst e
      rw [List.getElem?_set_self (by rw [wipe_length]; exact hi), if_pos List.mem_cons_self]
    · rw [List.getElem?_set_ne e, wipe_get hi]
      by_cases m : i ∈ vs
      · rw [if_pos m, if_pos (List.mem_cons_of_mem _ m)]
      · rw [if_neg m, if_neg]
        intro z
        rcases List.mem_cons.mp z with z | z
        · exact e z.symm
        · exact m z
theorem wipe_ext {σ σ' : L2.St} {vs : List Nat} (l : σ'.length = σ.length) (h : ∀ i, i ∉ vs → σ'[i]? = σ[i]?) : wipe σ' vs = wipe σ vs := by
  apply List.ext_getElem?
  intro i
  by_cases hi : i < σ.length
  · rw [wipe_get (by omega), wipe_get hi]
    by_cases m : i ∈ vs
    · rw [if_pos m, if_pos m]
    · rw [if_neg m, if_neg m, h i m]
  · rw [List.getElem?_eq_none (by rw [wipe_length]; omega), List.getElem?_eq_none (by rw [wipe_length]; omega)]
theorem wipe_wipe {σ : L2.St} {vs : List Nat} : wipe (wipe σ vs) vs = wipe σ vs := by
  refine wipe_ext (wipe_length _ _) fun i m => ?_
  by_cases hi : i < σ.length
  · rw [wipe_get hi, if_neg m]
  · rw [List.getElem?_eq_none (by rw [wipe_length]; omega), List.getElem?_eq_none (by omega)]
theorem wipe_ag {σ σ' : L2.St} {vs W : List Nat} (a : AgW W (wipe σ vs) σ') (h : ∀ i ∈ W, i ∈ vs) : wipe σ' vs = wipe σ vs := by
  rw [← wipe_wipe (σ := σ)]
  exact wipe_ext a.1 fun i m => a.2 i fun z => m (h i z)
theorem fresh_length (τ : Ta) : ∀ vs : List Nat, (fresh τ vs).length = τ.length
  | [] => rfl
  | v :: vs => by
    unfold fresh
    rw [List.length_set, fresh_length τ vs]
/-- the roots of the block's own slots, behind -/
def olds (σ : L2.St) (τ : Ta) : List Nat → List Rt
  | [] => []
  | v :: vs => ((((wipe σ vs)[v]?).getD none).getD .non, gT (fresh τ vs) v) :: olds σ τ vs
theorem Sl.hide {σ : L2.St} {τ : Ta} {v : Nat} (sl : Sl σ τ) : Sl (σ.set v none) (τ.set v .gone) := by
  refine ⟨by simpa using sl.1, fun i k => ?_⟩
  by_cases ne : v = i
  · subst ne
    by_cases hv : v < σ.length
    · exact gT_set (by rw [← sl.1]; exact hv)
    · rw [List.set_eq_of_length_le (by rw [← sl.1]; omega)]
      rw [List.set_eq_of_length_le (by omega)] at k
      exact sl.2 v k
  · rw [gT_ne ne]
    rw [List.getElem?_set_ne ne] at k
    exact sl.2 i k
theorem Sl.hides {σ : L2.St} {τ : Ta} (sl : Sl σ τ) : ∀ vs : List Nat, Sl (wipe σ vs) (fresh τ vs)
  | [] => sl
  | v :: vs => (Sl.hides sl vs).hide
theorem hide1 {H : Hp} {σ : L2.St} {τ : Ta} {F : List Rt} {v : Nat} (sl : Sl σ τ) (rs : RS H (slr σ τ ++ F)) : Sl (σ.set v none) (τ.set v .gone) ∧ RS H (slr (σ.set v none) (τ.set v .gone) ++ ((((σ[v]?).getD none).getD .non, gT τ v) :: F)) := by
  by_cases hv : v < σ.length
  · have hl : (slr σ τ).length = σ.length := slr_length sl.1
    have e : (slr σ τ)[v]? = some (((σ[v]?).getD none).getD .non, gT τ v) := by
      have := slr_get sl.1 (List.getElem?_eq_getElem hv)
      rw [this, List.getElem?_eq_getElem hv]
      rfl
    have e2 : slr (σ.set v none) (τ.set v .gone) = (slr σ τ).set v (.non, .gone) := by
      clear rs e hl sl
      induction σ generalizing τ v with
      | nil => simp at hv
      | cons o σ ih =>
        cases τ with
        | nil => cases v <;> simp [slr]
        | cons t τ =>
          cases v with
          | zero => rfl
          | succ v =>
            simp only [List.set_cons_succ, slr]
            rw [ih (by simpa using hv)]
    refine ⟨sl.hide, ?_⟩
    · rw [e2]
      have p1 := perm_set (l := slr σ τ) (i := v) (x := (V.non, T.gone)) (by omega)
      have k1 : RS H ((((σ[v]?).getD none).getD .non, gT τ v) :: ((slr σ τ).eraseIdx v ++ F)) := rs.perm ((perm_take e).append_right F)
      have k2 : RS H ((V.non, T.gone) :: ((((σ[v]?).getD none).getD .non, gT τ v) :: ((slr σ τ).eraseIdx v ++ F))) := k1.gone
      refine k2.perm ?_
      refine List.Perm.trans ?_ (p1.symm.append_right _)
      simp only [List.cons_append]
      exact List.Perm.cons _ List.perm_middle.symm
  · have e1 : σ.set v none = σ := List.set_eq_of_length_le (by omega)
    have e2 : τ.set v .gone = τ := List.set_eq_of_length_le (by rw [← sl.1]; omega)
    rw [e1, e2]
    refine ⟨sl, ?_⟩
    have : gT τ v = .gone := by
      unfold gT
      rw [List.getD_eq_getElem?_getD, List.getElem?_eq_none (by rw [← sl.1]; omega)]
      rfl
    rw [this]
    exact rs.gone.perm List.perm_middle.symm
theorem hideAll {H : Hp} {σ : L2.St} {τ : Ta} : ∀ (vs : List Nat) {F : List Rt}, Sl σ τ → RS H (slr σ τ ++ F) → Sl (wipe σ vs) (fresh τ vs) ∧ RS H (slr (wipe σ vs) (fresh τ vs) ++ (olds σ τ vs ++ F))
  | [], _, sl, rs => ⟨sl, rs⟩
  | v :: vs, F, sl, rs => by
    obtain ⟨s1, r1⟩ := hideAll vs sl rs
    exact hide1 s1 r1
/-- what the slots held is put back -/
def restore (τ0 τ : Ta) : List Nat → Ta
  | [] => τ
  | v :: vs => restore τ0 (τ.set v (gT (fresh τ0 vs) v)) vs
theorem rest1 {H : Hp} {σ : L2.St} {τ : Ta} {F : List Rt} {v : Nat} {t : T} (hg : σ[v]? = some none → t = .gone) (sl : Sl (σ.set v none) τ) (rs : RS H (slr (σ.set v none) τ ++ ((((σ[v]?).getD none).getD .non, t) :: F))) :
    Sl σ (τ.set v t) ∧ RS H (slr σ (τ.set v t) ++ F) := by
  by_cases hv : v < σ.length
  · have hl : τ.length = σ.length := by rw [← sl.1]; simp
    have hl2 : (slr (σ.set v none) τ).length = σ.length := by rw [slr_length sl.1]; simp
    have e2 : slr σ (τ.set v t) = (slr (σ.set v none) τ).set v (((σ[v]?).getD none).getD .non, t) := by
      clear rs hl2 sl hg
      induction σ generalizing τ v with
      | nil => simp at hv
      | cons o σ ih =>
        cases τ with
        | nil => simp at hl
        | cons t0 τ =>
          cases v with
          | zero => rfl
          | succ v =>
            simp only [List.set_cons_succ, slr]
            rw [ih (by simpa using hv) (by simpa using hl)]
            simp
    refine ⟨⟨by simp [hl], fun i k => ?_⟩, ?_⟩
    · by_cases ne : v = i
      · subst ne
        rw [gT_set (by omega)]
        exact hg k
      · rw [gT_ne ne]
        exact sl.2 i (by rw [List.getElem?_set_ne ne]; exact k)
    · rw [e2]
      have p1 := perm_set (l := slr (σ.set v none) τ) (i := v) (x := (((σ[v]?).getD none).getD V.non, t)) (by omega)
      have et : (slr (σ.set v none) τ)[v]? = some ((slr (σ.set v none) τ)[v]'(by omega)) := List.getElem?_eq_getElem (by omega)
      have k1 : RS H ((slr (σ.set v none) τ)[v]'(by omega) :: ((slr (σ.set v none) τ).eraseIdx v ++ ((((σ[v]?).getD none).getD .non, t) :: F))) := rs.perm ((perm_take et).append_right _)
      refine k1.tail.perm ?_
      refine List.Perm.trans List.perm_middle ?_
      exact p1.symm.append_right F
  · have e1 : σ.set v none = σ := List.set_eq_of_length_le (by omega)
    rw [e1] at sl rs
    have e2 : τ.set v t = τ := List.set_eq_of_length_le (by rw [← sl.1]; omega)
    rw [e2]
    exact ⟨sl, (rs.perm List.perm_middle).tail⟩
theorem restAll {H : Hp} {σ : L2.St} {τ0 : Ta} (sl0 : Sl σ τ0) : ∀ (vs : List Nat) {τ : Ta} {F : List Rt}, Sl (wipe σ vs) τ → RS H (slr (wipe σ vs) τ ++ (olds σ τ0 vs ++ F)) → Sl σ (restore τ0 τ vs) ∧ RS H (slr σ (restore τ0 τ vs) ++ F)
  | [], _, _, sl, rs => ⟨sl, rs⟩
  | v :: vs, τ, F, sl, rs => by
    have s0 : Sl (wipe σ vs) (fresh τ0 vs) := sl0.hides vs
    obtain ⟨s1, r1⟩ := rest1 (σ := wipe σ vs) (v := v) (t := gT (fresh τ0 vs) v) (fun k => s0.2 v k) sl rs
    exact restAll sl0 vs s1 r1

theorem perm3 {α : Type} (A B C : List α) : (A ++ (B ++ C)).Perm (B ++ (A ++ C)) := by
  rw [← List.append_assoc, ← List.append_assoc]
  exact List.perm_append_comm.append_right _
/-! ### list comprehensions -/
def bTrue : BF := fun τ => some (true, τ)
def lcTurn (vs : List Nat) (g : Tg) (b : BF) (z : VF) (t : T) (s : List T × Ta) : Option (List T × Ta) := (putG g t s.2).bind fun τ1 => (b τ1).bind fun q =>
  if q.1 then (z q.2).bind fun r => if s.1.length < sizeL then some (s.1 ++ [r.1], fresh r.2 vs) else none else some (s.1, fresh q.2 vs)
def vLc (vs : List Nat) (g : Tg) (f : LF) (b : BF) (z : VF) : VF := fun τ => (f τ).bind fun p => (eachT (lcTurn vs g b z) p.1 ([], fresh p.2 vs)).map fun r => (.lst r.1, restore p.2 r.2 vs)
/-- an owned list has one more -/
theorem RS.app {H : Hp} {D : Addr} {acc : List T} {y : V} {t : T} {R : List Rt} (h : RS H ((y, t) :: (.ref D, .lst acc) :: R)) : ∃ xs, H D = some (.lst xs) ∧ xs.length = acc.length ∧ RS (L2.upd H D (.lst (xs ++ [y]))) ((.ref D, .lst (acc ++ [t])) :: R) := by
  have h2 : RS H ((.ref D, .lst acc) :: ((y, t) :: R)) := h.perm (.swap _ _ _)
  obtain ⟨a, ps, ea, rfl, r, k⟩ := h2.x.openL
  cases ea
  have k2 : RSx H [D] ((ps ++ [(y, t)]) ++ R) := by
    rw [List.append_assoc]
    exact k
  have k3 := k2.closeL.s
  refine ⟨ps.map (·.1), r, by simp, ?_⟩
  rw [List.map_append, List.map_append] at k3
  exact k3
section
variable {X : Cx} {tg e c : Expr} {pos : Pos}
theorem _root_.L2.PTs.wk {ifs : List Expr} {t t' : TT} (h : PTs X ifs t) (i : ∀ σ H Q, t' σ H Q → t σ H Q) : PTs X ifs t' := ⟨fun pins s σ H Q I q => h.run pins s σ H Q I (i σ H Q q)⟩
theorem pts_none : PTs X [] (tT bTrue) := pts_nil.wk fun σ H Q ⟨τ, F, b, τ', sl, rs, e, q⟩ => by
  cases e
  exact q H sl rs
theorem pts_if {b : BF} (h : PT X c (tT b)) : PTs X [c] (tT b) := pts_one h
/-- what every comprehension of ours meets: the loop -/
theorem lc_loop {f : LF} {g : Tg} {b : BF} {z : VF} {vs : List Nat} (hw : ∀ i ∈ g.own, i ∈ vs) {σ : L2.St} {H : Hp} {Q : VK} (h : tE (vLc vs g f b z) σ H Q) : tLc (tIt f) (tG g) (tT b) (tE z) vs σ H Q := by
  obtain ⟨τ0, F, t, τ', sl0, rs0, e0, q⟩ := h
  obtain ⟨p, ep, e1⟩ := Option.bind_eq_some_iff.mp e0
  obtain ⟨r, er, e2⟩ := Option.map_eq_some_iff.mp e1
  cases e2
  refine ⟨τ0, F, _, _, sl0, rs0, ep, fun J P H1 cur sl1 rs1 D hD => ?_⟩
  have r1 : RS H1 (slr σ p.2 ++ (P 0 ++ F)) := RS.swap rs1
  obtain ⟨s2, r2⟩ := hideAll vs sl1 r1
  have r3 : RS (L2.upd H1 D (.lst [])) ((.ref D, .lst []) :: (slr (wipe σ vs) (fresh p.2 vs) ++ (olds σ p.2 vs ++ (P 0 ++ F)))) := RS.newL (vs := []) (ts := []) r2 rfl hD
  have fin : ∀ {i : Nat} {H : Hp} {acc : List T} {τ : Ta}, RS H ((.ref D, .lst acc) :: (slr (wipe σ vs) τ ++ (olds σ p.2 vs ++ (P i ++ F)))) → RS H (P i ++ ((.ref D, .lst acc) :: (slr (wipe σ vs) τ ++ (olds σ p.2 vs ++ F)))) := fun {i H acc τ} h => h.perm (by
    refine List.Perm.trans ?_ List.perm_middle.symm
    refine List.Perm.cons _ ?_
    rw [← List.append_assoc, ← List.append_assoc, ← List.append_assoc]
    rw [← List.append_assoc]
    refine List.Perm.append_right F ?_
    rw [List.append_assoc (P i)]
    exact List.perm_append_comm)
  refine ⟨fun i m H => m = p.1.length - i ∧ i ≤ p.1.length ∧ ∃ acc τ, Sl (wipe σ vs) τ ∧ RS H (P i ++ ((.ref D, .lst acc) :: (slr (wipe σ vs) τ ++ (olds σ p.2 vs ++ F)))) ∧ eachT (lcTurn vs g b z) (p.1.drop i) (acc, τ) = some r, ⟨_, rfl, Nat.zero_le _, [], fresh p.2 vs, s2, fin r3, er⟩, ?_⟩
  rintro i m H ⟨rfl, hi, acc, τ, sl, rs, e⟩
  by_cases hlt : i < p.1.length
  · refine .inr ⟨cur.go i H _ hlt rs, fun H' => i + 1 ≤ p.1.length ∧ ∃ acc τ, Sl (wipe σ vs) τ ∧ RS H' (P (i + 1) ++ ((.ref D, .lst acc) :: (slr (wipe σ vs) τ ++ (olds σ p.2 vs ++ F)))) ∧ eachT (lcTurn vs g b z) (p.1.drop (i + 1)) (acc, τ) = some r, fun H' zz => ⟨_, by omega, rfl, zz⟩, fun x H' y => ?_⟩
    have et : p.1[i]? = some p.1[i] := List.getElem?_eq_getElem hlt
    have k1 := cur.yld i H x H' _ _ et rs y
    rw [List.drop_eq_getElem_cons hlt] at e
    obtain ⟨st, est, e3⟩ := Option.bind_eq_some_iff.mp e
    obtain ⟨τ1, et1, e4⟩ := Option.bind_eq_some_iff.mp est
    obtain ⟨qq, eqq, e5⟩ := Option.bind_eq_some_iff.mp e4
    have k2 : RS H' ((x, p.1[i]) :: (slr (wipe σ vs) τ ++ ((.ref D, .lst acc) :: (P (i + 1) ++ (olds σ p.2 vs ++ F))))) := k1.perm (.cons _ (by
      refine List.perm_middle.trans ?_
      refine List.Perm.trans ?_ List.perm_middle.symm
      exact List.Perm.cons _ (perm3 _ _ _)))
    refine ⟨τ, _, _, _, sl, k2, et1, fun σ2 H2 a2 sl2 rs2 => ⟨wipe_ag a2 hw, τ1, _, _, _, sl2, rs2, eqq, fun H3 sl3 rs3 => ?_⟩⟩
    have ew := wipe_ag a2 hw
    -- the turn's end
    have turn : ∀ {H4 : Hp} {acc2 : List T} {τ3 : Ta}, Sl σ2 τ3 → RS H4 (slr σ2 τ3 ++ ((.ref D, .lst acc2) :: (P (i + 1) ++ (olds σ p.2 vs ++ F)))) → Sl (wipe σ vs) (fresh τ3 vs) ∧ RS H4 (P (i + 1) ++ ((.ref D, .lst acc2) :: (slr (wipe σ vs) (fresh τ3 vs) ++ (olds σ p.2 vs ++ F)))) := fun {H4 acc2 τ3} s4 r4 => by
      obtain ⟨s5, r5⟩ := hideAll vs s4 r4
      rw [ew] at s5 r5
      refine ⟨s5, ?_⟩
      have r6 : RS H4 (slr (wipe σ vs) (fresh τ3 vs) ++ ((.ref D, .lst acc2) :: (P (i + 1) ++ (olds σ p.2 vs ++ F)))) := (RS.swap r5).dropL
      refine r6.perm ?_
      refine List.perm_middle.trans ?_
      refine List.Perm.trans ?_ List.perm_middle.symm
      exact List.Perm.cons _ (perm3 _ _ _)
    cases hq : qq.1 with
    | false =>
      rw [hq] at e5
      cases e5
      obtain ⟨s6, r6⟩ := turn sl3 rs3
      exact ⟨hlt, acc, _, s6, r6, e3⟩
    | true =>
      rw [hq] at e5
      simp only [if_true] at e5 ⊢
      obtain ⟨zz, ez, e6⟩ := Option.bind_eq_some_iff.mp e5
      split at e6
      case isFalse => cases e6
      rename_i hz
      cases e6
      refine ⟨_, _, _, _, sl3, rs3, ez, fun yv H4 sl4 rs4 => ?_⟩
      have r7 : RS H4 ((yv, zz.1) :: (.ref D, .lst acc) :: (slr σ2 zz.2 ++ (P (i + 1) ++ (olds σ p.2 vs ++ F)))) := rs4.perm (.cons _ List.perm_middle)
      obtain ⟨xs, hx, hl, r8⟩ := r7.app
      refine ⟨xs, hx, by rw [hl, ← sizeL_eq]; exact hz, hlt, acc ++ [zz.1], fresh zz.2 vs, ?_⟩
      obtain ⟨s9, r9⟩ := turn (acc2 := acc ++ [zz.1]) sl4 (r8.perm List.perm_middle.symm)
      exact ⟨s9, r9, e3⟩
  · have hi2 : i = p.1.length := by omega
    subst hi2
    rw [List.drop_length] at e
    cases e
    refine .inl ⟨cur.stop H _ rs, ?_⟩
    have k1 : RS H ((.ref D, .lst acc) :: (slr (wipe σ vs) τ ++ (olds σ p.2 vs ++ F))) := rs.dropL
    have k2 : RS H (slr (wipe σ vs) τ ++ (olds σ p.2 vs ++ ((.ref D, .lst acc) :: F))) := k1.perm (by
      refine List.Perm.trans ?_ (List.Perm.append_left _ List.perm_middle.symm)
      exact List.perm_middle.symm)
    obtain ⟨s3, k3⟩ := restAll sl1 vs sl k2
    exact q _ _ s3 (k3.perm List.perm_middle)
theorem pe_comp {elt iter : Expr} {ifs : List Expr} {scope : Scope} {own : List (Str × Nat)} {f : LF} {g : Tg} {b : BF} {z : VF} (hc : X.calm = true) (hN : X.N.Nodup) (hi : PI X tg iter (tIt f)) (ok : BlkOk X.N X.env.scope scope own)
    (hg : ∀ (s : Shared) (H : Hp) (C : Addr) (cl : List (Str × Addr)) (fp : List Addr), PG (X.blk s H scope (compEnvC scope cl C X.env) fp) tg (tG g))
    (ht : ∀ (s : Shared) (H : Hp) (C : Addr) (cl : List (Str × Addr)) (fp : List Addr), PTs (X.blk s H scope (compEnvC scope cl C X.env) fp) ifs (tT b))
    (he : ∀ (s : Shared) (H : Hp) (C : Addr) (cl : List (Str × Addr)) (fp : List Addr), PE (X.blk s H scope (compEnvC scope cl C X.env) fp) elt (tE z))
    (hw : ∀ i ∈ g.own, i ∈ own.map (·.2)) (hs : ∀ x, foldedSetIterable iter X.env x = pure x := by intro _; rfl) : PE X (.ListComp elt [⟨tg, iter, ifs, 0⟩] scope pos) (tE (vLc (own.map (·.2)) g f b z)) :=
  (pe_lc hc hN hi ok hg ht he hs).wk fun _ _ _ h => lc_loop hw h
/-- x = [..] on one line, x a plain local name -/
theorem s_comp {i : Nat} {y : Str} {py spos : Pos} {W : List Nat} {elt iter : Expr} {ifs : List Expr} {scope : Scope} {own : List (Str × Nat)} {f : LF} {g : Tg} {b : BF} {z : VF} (hc : X.calm = true) (hN : X.N.Nodup) (hy : X.N[i]? = some y) (hyl : X.env.scope.names.lookup y = some .local) (hW : i ∈ W)
    (hsw : swapsWith (.ListComp elt [⟨tg, iter, ifs, 0⟩] scope pos) (some (.Name y py)) spos.line X.env = pure true) (hi : PI X tg iter (tIt f)) (ok : BlkOk X.N X.env.scope scope own)
    (hg : ∀ (s : Shared) (H : Hp) (C : Addr) (cl : List (Str × Addr)) (fp : List Addr), PG (X.blk s H scope (compEnvC scope cl C X.env) fp) tg (tG g))
    (ht : ∀ (s : Shared) (H : Hp) (C : Addr) (cl : List (Str × Addr)) (fp : List Addr), PTs (X.blk s H scope (compEnvC scope cl C X.env) fp) ifs (tT b))
    (he : ∀ (s : Shared) (H : Hp) (C : Addr) (cl : List (Str × Addr)) (fp : List Addr), PE (X.blk s H scope (compEnvC scope cl C X.env) fp) elt (tE z))
    (hw : ∀ i ∈ g.own, i ∈ own.map (·.2)) (hs : ∀ x, foldedSetIterable iter X.env x = pure x := by intro _; rfl) : PS X (.Assign [.Name y py] (.ListComp elt [⟨tg, iter, ifs, 0⟩] scope pos) spos) (tW W (sAsg (.nm i) (vLc (own.map (·.2)) g f b z))) :=
  (ps_setLc hc hN hy hyl hsw hi ok hg ht he hs).wk fun D σ H ⟨τ, F, o, sl, rs, e, q⟩ => by
    obtain ⟨p, ep, e2⟩ := Option.bind_eq_some_iff.mp e
    obtain ⟨τ2, e3, e4⟩ := Option.map_eq_some_iff.mp e2
    cases e4
    cases e3
    refine lc_loop hw ⟨τ, F, _, _, sl, rs, ep, fun v H' sl' rs' => ?_⟩
    exact q _ _ (.set hW) sl'.set (RS.bind sl' rs')
end
end SW
end
section
/-! SWs: functions of values. -/
namespace SW
open PySem PySem.Spec PyProof.Rows L2

/-! ### items of a list argument, frozen -/
def itemsF (a : Ag) : Option (List PyData) := (kidsL a).bind toDs
theorem RS.freezeAll {H : Hp} : ∀ {vs : List V} {ts : List T} {ds : List PyData} {R : List Rt}, vs.length = ts.length → toDs ts = some ds → RS H (vs.zip ts ++ R) → RS H (vs.zip (ds.map .fz) ++ R)
  | [], [], _, _, _, e, h => by
    unfold toDs at e
    cases e
    exact h
  | v :: vs, t :: ts, _, R, l, e, h => by
    obtain ⟨d, ds, e1, e2, rfl⟩ := toDs_cons e
    have h1 : RS H ((v, t) :: (vs.zip ts ++ R)) := h
    have h2 : RS H (vs.zip ts ++ ((v, .fz d) :: R)) := (h1.freeze e1).perm List.perm_middle.symm
    have h3 := RS.freezeAll (R := (v, .fz d) :: R) (by simpa using l) e2 h2
    exact h3.perm List.perm_middle
  | [], _ :: _, _, _, l, _, _ => by cases l
  | _ :: _, [], _, _, l, _, _ => by cases l
theorem toDs_len : ∀ {ts : List T} {ds : List PyData}, toDs ts = some ds → ts.length = ds.length
  | [], _, e => by
    unfold toDs at e
    cases e
    rfl
  | t :: ts, _, e => by
    obtain ⟨d, ds, _, e2, rfl⟩ := toDs_cons e
    simp [toDs_len e2]
theorem RS.items {H : Hp} {x : V} {g : Ag} {o R : List Rt} {ds : List PyData} (h : RS H (o ++ R)) (hh : Has R x g o) (e : itemsF g = some ds) :
    ∃ a vs, x = .ref a ∧ Rd H a (.lst vs) ∧ vs.length = ds.length ∧ RS H (vs.zip (ds.map .fz) ++ R) := by
  obtain ⟨ts, e1, e2⟩ := Option.bind_eq_some_iff.mp e
  obtain ⟨a, vs, rfl, r, l, k⟩ := h.kidsL hh (fun _ m => m) e1
  exact ⟨a, vs, rfl, r, l.trans (toDs_len e2), k.freezeAll l e2⟩
/-- the items as views, together -/
theorem RS.viewP {H : Hp} : ∀ {vs : List V} {ds : List PyData} {R : List Rt}, vs.length = ds.length → RS H (vs.zip (ds.map T.fz) ++ R) → ViewP H (vs.zip ds) := fun {vs ds R} l h => by
  obtain ⟨G, as, s, r, _⟩ := h
  obtain ⟨a1, a2, ea, r1, _⟩ := r.split
  clear ea
  refine ⟨G, s, ?_⟩
  clear r s
  induction vs generalizing ds a1 with
  | nil => exact .nil
  | cons v vs ih =>
    cases ds with
    | nil => cases l
    | cons d ds =>
      simp only [List.map_cons, List.zip_cons_cons] at r1
      cases r1 with
      | cons h r =>
        cases h with
        | fz h => exact .cons h (ih (by simpa using l) _ r)
theorem zip_fst' {α β : Type} {xs : List α} {ys : List β} (l : xs.length = ys.length) : (xs.zip ys).map (·.1) = xs := List.map_fst_zip (by omega)
theorem zip_snd' {α β : Type} {xs : List α} {ys : List β} (l : xs.length = ys.length) : (xs.zip ys).map (·.2) = ys := List.map_snd_zip (by omega)

/-! ### one argument, two arguments, by a call -/
def r1g (g : Ag → Option T) : List V → Hp → VK → Prop := fun vs H Q => ∃ x R o a t, vs = [x] ∧ RS H (o ++ R) ∧ Has R x a o ∧ g a = some t ∧ ∀ z H', RS H' ((z, t) :: R) → Q z H'
def r2g (g : Ag → Ag → Option T) : List V → Hp → VK → Prop := fun vs H Q => ∃ x y R o1 o2 a b t, vs = [x, y] ∧ RS H (o1 ++ (o2 ++ R)) ∧ Has R x a o1 ∧ Has R y b o2 ∧ g a b = some t ∧ ∀ z H', RS H' ((z, t) :: R) → Q z H'
section
variable {X : Cx} {e e2 : Expr} {x : Str} {p pos : Pos} {id : String}
theorem pe_b1 {g : Ag → Option T} {f : AF} (hc : CallR X (.builtin id) (r1g g)) (hg : Gl X x) (hm : X.mg x = none) (hv : bootBuiltins x = some (.builtin id)) (ha : PE X e (tA f)) (hn : x ≠ "__name__" := by decide) (hdb : (x == ("__debug__" : Str)) = false := by decide)
    (he : starEach [e] X.env = (false, eval e X.env) :: starEach [] X.env := by rfl) (hpl : (backTo pos (starEach [] X.env)).any (·.1) = false := by rfl) : PE X (.Call (.Name x p) [e] [] pos) (tE (v1 g f)) :=
  (pe_callB hc hg hm hv (pa_cons ha pa_nil he) hn hdb he hpl).wk fun σ H Q h => by
    obtain ⟨τ, F, a, τ', sl, rs, e, q⟩ := ta1 h
    refine ⟨τ, F, a, τ', sl, rs, e, fun v H' sl' ok rs' => ?_⟩
    obtain ⟨R, o, a, t, k1, k2, k3, k4⟩ := q v H' sl' ok rs'
    exact ⟨v, R, o, a, t, rfl, k1, k2, k3, k4⟩
theorem pe_t1 {g : Ag → Option T} {f : AF} (hc : CallR X (.type id) (r1g g)) (hg : Gl X x) (hm : X.mg x = none) (hv : bootBuiltins x = some (.type id)) (ha : PE X e (tA f)) (hn : x ≠ "__name__" := by decide) (hdb : (x == ("__debug__" : Str)) = false := by decide)
    (he : starEach [e] X.env = (false, eval e X.env) :: starEach [] X.env := by rfl) (hpl : (backTo pos (starEach [] X.env)).any (·.1) = false := by rfl) : PE X (.Call (.Name x p) [e] [] pos) (tE (v1 g f)) :=
  (pe_callTy hc hg hm hv (pa_cons ha pa_nil he) hn hdb he hpl).wk fun σ H Q h => by
    obtain ⟨τ, F, a, τ', sl, rs, e, q⟩ := ta1 h
    refine ⟨τ, F, a, τ', sl, rs, e, fun v H' sl' ok rs' => ?_⟩
    obtain ⟨R, o, a, t, k1, k2, k3, k4⟩ := q v H' sl' ok rs'
    exact ⟨v, R, o, a, t, rfl, k1, k2, k3, k4⟩
theorem pe_b2 {g : Ag → Ag → Option T} {f f2 : AF} (hc : CallR X (.builtin id) (r2g g)) (hg : Gl X x) (hm : X.mg x = none) (hv : bootBuiltins x = some (.builtin id)) (ha : PE X e (tA f)) (hb : PE X e2 (tA f2)) (hn : x ≠ "__name__" := by decide) (hdb : (x == ("__debug__" : Str)) = false := by decide)
    (he : starEach [e, e2] X.env = (false, eval e X.env) :: starEach [e2] X.env := by rfl) (he2 : starEach [e2] X.env = (false, eval e2 X.env) :: starEach [] X.env := by rfl) (hpl : (backTo pos (starEach [e2] X.env)).any (·.1) = false := by rfl) : PE X (.Call (.Name x p) [e, e2] [] pos) (tE (v2 g f f2)) :=
  (pe_callB hc hg hm hv (pa_cons ha (pa_cons hb pa_nil he2) he) hn hdb he hpl).wk fun σ H Q h => by
    obtain ⟨τ, F, a, τ', sl, rs, e, q⟩ := ta2 h
    refine ⟨τ, F, a, τ', sl, rs, e, fun v H' sl' ok rs' => ?_⟩
    obtain ⟨τ1, F1, a1, τ1', sl1, rs1, e1, q1⟩ := q v H' sl' ok rs'
    refine ⟨τ1, F1, a1, τ1', sl1, rs1, e1, fun w H2 sl2 ok2 rs2 => ?_⟩
    obtain ⟨R, o1, o2, a, b, t, k1, k2, k3, k4, k5⟩ := q1 w H2 sl2 ok2 rs2
    exact ⟨v, w, R, o1, o2, a, b, t, rfl, k1, k2, k3, k4, k5⟩

/-! ### the functions -/
def lenG (a : Ag) : Option T := (lenT a.2).map fun n => tI n
theorem cr_len : CallR X (.builtin "len") (r1g lenG) := by
  intro pins s σ H vs us Q I r h
  obtain ⟨x, R, o, a, t, rfl, rs, hh, e, q⟩ := h
  obtain ⟨n, en, rfl⟩ := Option.map_eq_some_iff.mp e
  have m := hh.mem
  have fin : Q (.int n) H := q _ _ (rs.dropL.addI _)
  unfold lenT at en
  split at en
  · rename_i ds eg
    cases en
    rw [eg] at m
    obtain ⟨p, ps, rfl, rfl, rd, _⟩ := (rs.viewM m rfl).lst
    exact call_len_seq pins s σ H _ us Q I r ⟨p, _, rfl, .inl (.inl rd), by simpa using fin⟩
  · rename_i ds eg
    cases en
    rw [eg] at m
    obtain ⟨p, ps, rfl, rfl, rd, _⟩ := (rs.viewM m rfl).tup
    exact call_len_seq pins s σ H _ us Q I r ⟨p, _, rfl, .inr (.inl rd), by simpa using fin⟩
  · rename_i kvs eg
    cases en
    rw [eg] at m
    obtain ⟨p, rfl, ⟨qs, rfl, rd, _⟩ | ⟨qs, rfl, rd, _⟩⟩ := (rs.viewM m rfl).dct
    · obtain ⟨u, rfl, ru⟩ := vals1 r
      cases ru
      refine d_len I rd fun t s' I' => ⟨.int _, H, I', ⟨_, rfl⟩, ?_⟩
      simpa using fin
    · obtain ⟨u, rfl, ru⟩ := vals1 r
      cases ru
      obtain ⟨z, hd, ys, rel, dd⟩ := dt_rd I.hok rd
      have hl := Paired.length rel
      rw [List.length_map] at hl
      refine call_len_dictH hd dd (by rw [← hl]; rw [List.length_map, sizeLine_eq] at z; omega) ⟨.int _, H, I.tok _, ⟨_, rfl⟩, ?_⟩
      rw [← hl]
      simpa using fin
  · rename_i x0 eg
    split at en
    · rename_i hz
      cases en
      rw [eg] at m
      have := (rs.viewM m rfl).str
      subst this
      exact call_len_str pins s σ H _ us Q I r ⟨x0, rfl, by rw [← sizeL_eq]; exact hz, fin⟩
    · cases en
  · rename_i ts eg
    cases en
    rw [eg] at m
    obtain ⟨r0, pp⟩ := mem_perm m
    obtain ⟨p, ps, rfl, rfl, rd, _⟩ := (rs.perm pp).x.openL
    exact call_len_seq pins s σ H _ us Q I r ⟨p, _, rfl, .inl (.inl (.inl rd)), by simpa using fin⟩
  · rename_i ts eg
    cases en
    rw [eg] at m
    obtain ⟨r0, pp⟩ := mem_perm m
    obtain ⟨p, ps, rfl, rfl, rd, _⟩ := (rs.perm pp).x.openT
    exact call_len_seq pins s σ H _ us Q I r ⟨p, _, rfl, .inr (.inl (.inl rd)), by simpa using fin⟩
  · rename_i kvs eg
    cases en
    rw [eg] at m
    obtain ⟨r0, pp⟩ := mem_perm m
    obtain ⟨p, rfl, ⟨qs, rfl, rd, _⟩ | ⟨qs, rfl, rd, _⟩⟩ := (rs.perm pp).x.openD
    · obtain ⟨u, rfl, ru⟩ := vals1 r
      cases ru
      refine d_len I (.inl rd) fun t s' I' => ⟨.int _, H, I', ⟨_, rfl⟩, ?_⟩
      simpa using fin
    · obtain ⟨u, rfl, ru⟩ := vals1 r
      cases ru
      obtain ⟨z, hd, ys, rel, dd⟩ := dt_rd I.hok (.inl rd)
      have hl := Paired.length rel
      rw [List.length_map] at hl
      refine call_len_dictH hd dd (by rw [← hl]; rw [List.length_map, sizeLine_eq] at z; omega) ⟨.int _, H, I.tok _, ⟨_, rfl⟩, ?_⟩
      rw [← hl]
      simpa using fin
  · cases en
def absG (a : Ag) : Option T := a.int.map fun i => tI (if i < 0 then -i else i)
theorem cr_abs : CallR X (.builtin "abs") (r1g absG) := by
  intro pins s σ H vs us Q I r h
  obtain ⟨x, R, o, a, t, rfl, rs, hh, e, q⟩ := h
  obtain ⟨n, en, rfl⟩ := Option.map_eq_some_iff.mp e
  have := get_int rs hh.mem en
  subst this
  exact call_abs pins s σ H _ us Q I r ⟨n, rfl, q _ _ (rs.dropL.addI _)⟩
def intG (a : Ag) : Option T := match a.2 with
  | .fz (.int i) => some (tI i)
  | .fz (.bool b) => some (tI (if b then 1 else 0))
  | _ => none
theorem cr_int : CallR X (.type "int") (r1g intG) := by
  intro pins s σ H vs us Q I r h
  obtain ⟨x, R, o, a, t, rfl, rs, hh, e, q⟩ := h
  have m := hh.mem
  unfold intG at e
  split at e
  · rename_i i eg
    cases e
    rw [eg] at m
    have := (rs.viewM m rfl).int
    subst this
    exact call_int1 pins s σ H _ us Q I r (.inl ⟨i, rfl, q _ _ (rs.dropL.addI _)⟩)
  · rename_i i eg
    cases e
    rw [eg] at m
    have := (rs.viewM m rfl).bl
    subst this
    exact call_int1 pins s σ H _ us Q I r (.inr ⟨i, rfl, q _ _ (rs.dropL.addI _)⟩)
  · cases e
def maxG (a b : Ag) : Option T := int2 (fun i j => some (tI (if j > i then j else i))) a b
def minG (a b : Ag) : Option T := int2 (fun i j => some (tI (if j < i then j else i))) a b
theorem cr_max2 (hc : X.calm = true) : CallR X (.builtin "max") (r2g maxG) := by
  intro pins s σ H vs us Q I r h
  obtain ⟨x, y, R, o1, o2, a, b, t, rfl, rs, ha, hb, e, q⟩ := h
  have ma := m1 (o2 := o2) ha
  have mb := m2 (o1 := o1) hb
  unfold maxG int2 at e
  split at e
  · rename_i i j ei ej
    cases e
    have h1 := get_int rs ma ei
    have h2 := get_int rs mb ej
    subst h1 h2
    exact call_max2 hc pins s σ H _ us Q I r ⟨i, j, rfl, q _ _ (rs.dropL.dropL.addI _)⟩
  · cases e
theorem cr_min2 (hc : X.calm = true) : CallR X (.builtin "min") (r2g minG) := by
  intro pins s σ H vs us Q I r h
  obtain ⟨x, y, R, o1, o2, a, b, t, rfl, rs, ha, hb, e, q⟩ := h
  have ma := m1 (o2 := o2) ha
  have mb := m2 (o1 := o1) hb
  unfold minG int2 at e
  split at e
  · rename_i i j ei ej
    cases e
    have h1 := get_int rs ma ei
    have h2 := get_int rs mb ej
    subst h1 h2
    exact call_min2 hc pins s σ H _ us Q I r ⟨i, j, rfl, q _ _ (rs.dropL.dropL.addI _)⟩
  · cases e
def sumG (a : Ag) : Option T := ((itemsF a).bind intsD).map fun ns => tI ns.sum
def allG (a : Ag) : Option T := ((itemsF a).bind boolsD).map fun bs => tB (bs.all fun b => b)
def anyG (a : Ag) : Option T := ((itemsF a).bind boolsD).map fun bs => tB (bs.any fun b => b)
theorem ints_v {H : Hp} {vs : List V} {ds : List PyData} {ns : List Int} {R : List Rt} (l : vs.length = ds.length) (h : RS H (vs.zip (ds.map T.fz) ++ R)) (e : intsD ds = some ns) : vs = ns.map .int := by
  have k := (RS.viewP l h).ints (ns := ns) (by rw [zip_snd' l]; exact ints_of e)
  rw [zip_fst' l] at k
  exact k
theorem bools_v {H : Hp} {vs : List V} {ds : List PyData} {ns : List Bool} {R : List Rt} (l : vs.length = ds.length) (h : RS H (vs.zip (ds.map T.fz) ++ R)) (e : boolsD ds = some ns) : vs = ns.map .bl := by
  have k := (RS.viewP l h).bools (ns := ns) (by rw [zip_snd' l]; exact bools_of e)
  rw [zip_fst' l] at k
  exact k
theorem cr_sum' (hc : X.calm = true) : CallR X (.builtin "sum") (r1g sumG) := by
  intro pins s σ H vs us Q I r h
  obtain ⟨x, R, o, a, t, rfl, rs, hh, e, q⟩ := h
  obtain ⟨n, en, rfl⟩ := Option.map_eq_some_iff.mp e
  obtain ⟨ds, e1, e2⟩ := Option.bind_eq_some_iff.mp en
  obtain ⟨p, ws, rfl, rd, l, k⟩ := rs.items hh e1
  have := ints_v l k e2
  subst this
  exact cr_sum hc pins s σ H _ us Q I r ⟨p, n, rfl, .inl rd, q _ _ (k.dropL.addI _)⟩
theorem cr_all' (hc : X.calm = true) : CallR X (.builtin "all") (r1g allG) := by
  intro pins s σ H vs us Q I r h
  obtain ⟨x, R, o, a, t, rfl, rs, hh, e, q⟩ := h
  obtain ⟨n, en, rfl⟩ := Option.map_eq_some_iff.mp e
  obtain ⟨ds, e1, e2⟩ := Option.bind_eq_some_iff.mp en
  obtain ⟨p, ws, rfl, rd, l, k⟩ := rs.items hh e1
  have := bools_v l k e2
  subst this
  exact cr_all hc pins s σ H _ us Q I r ⟨p, n, rfl, .inl rd, q _ _ (k.dropL.addB _)⟩
theorem cr_any' (hc : X.calm = true) : CallR X (.builtin "any") (r1g anyG) := by
  intro pins s σ H vs us Q I r h
  obtain ⟨x, R, o, a, t, rfl, rs, hh, e, q⟩ := h
  obtain ⟨n, en, rfl⟩ := Option.map_eq_some_iff.mp e
  obtain ⟨ds, e1, e2⟩ := Option.bind_eq_some_iff.mp en
  obtain ⟨p, ws, rfl, rd, l, k⟩ := rs.items hh e1
  have := bools_v l k e2
  subst this
  exact cr_any hc pins s σ H _ us Q I r ⟨p, n, rfl, .inl rd, q _ _ (k.dropL.addB _)⟩
/-- list(x), tuple(x) of a list or a tuple -/
def listG (a : Ag) : Option T := match kidsL a with
  | some ts => some (.lst ts)
  | none => (kidsT a).map .lst
theorem cr_list : CallR X (.type "list") (r1g listG) := by
  intro pins s σ H vs us Q I r h
  obtain ⟨x, R, o, a, t, rfl, rs, hh, e, q⟩ := h
  unfold listG at e
  split at e
  · rename_i ts ek
    cases e
    obtain ⟨p, ws, rfl, rd, l, k⟩ := rs.kidsL hh (fun _ m => m) ek
    exact call_list_of pins s σ H _ us Q I r ⟨p, ws, rfl, .inl (.inl rd), fun l0 hn => q _ _ (k.newL l hn)⟩
  · obtain ⟨ts, ek, rfl⟩ := Option.map_eq_some_iff.mp e
    obtain ⟨p, ws, rfl, rd, l, k⟩ := rs.kidsT hh (fun _ m => m) ek
    exact call_list_of pins s σ H _ us Q I r ⟨p, ws, rfl, .inr (.inl rd), fun l0 hn => q _ _ (k.newL l hn)⟩
def tupG (a : Ag) : Option T := (kidsL a).map mkT
theorem cr_tup : CallR X (.type "tuple") (r1g tupG) := by
  intro pins s σ H vs us Q I r h
  obtain ⟨x, R, o, a, t, rfl, rs, hh, e, q⟩ := h
  obtain ⟨ts, ek, rfl⟩ := Option.map_eq_some_iff.mp e
  obtain ⟨p, ws, rfl, rd, l, k⟩ := rs.kidsL hh (fun _ m => m) ek
  exact call_tuple_of pins s σ H _ us Q I r ⟨p, ws, rfl, .inl ⟨.inl rd, fun l0 hn => q _ _ (k.newT l hn)⟩⟩
end
end SW
end
section
/-! SWt: sorted, min, max of a list. -/
namespace SW
open PySem PySem.Spec PyProof.Rows L2

theorem zip_map_fz {vs : List V} {ds : List PyData} : vs.zip (ds.map T.fz) = (vs.zip ds).map fzr := by
  induction vs generalizing ds with
  | nil => rfl
  | cons v vs ih =>
    cases ds with
    | nil => rfl
    | cons d ds =>
      simp only [List.map_cons, List.zip_cons_cons, ih]
      rfl
theorem each_zip {vs : List V} {its : List Value} (r : Vals vs its) : ∀ {ds : List PyData}, vs.length = ds.length → PySem.W.EachIs (fun (v : Value) (b : V × PyData) => RelV b.1 v) its (vs.zip ds) := by
  induction r with
  | nil => intro ds l; exact .nil
  | cons r t ih =>
    intro ds l
    cases ds with
    | nil => cases l
    | cons d ds => exact .cons r (ih (by simpa using l))
theorem vals_each {out : List Value} {bs : List (V × PyData)} (h : PySem.W.EachIs (fun (v : Value) (b : V × PyData) => RelV b.1 v) out bs) : Vals (bs.map (·.1)) out := by
  induction h with
  | nil => exact .nil
  | cons r _ ih => exact .cons r ih
theorem srtOk_of {ds : List PyData} (h : srtOk ds = true) : PySem.W.AllAlike ds ∧ PySem.W.Sortable ds ∧ ∀ d ∈ ds, d.depth ≤ 100 := by
  unfold srtOk at h
  simp only [Bool.and_eq_true, Bool.or_eq_true, List.all_eq_true, decide_eq_true_eq] at h
  obtain ⟨⟨h1, h2⟩, h3⟩ := h
  refine ⟨fun d m d' m' => ?_, ?_, h3⟩
  · unfold allAlike at h1
    simp only [List.all_eq_true] at h1
    exact h1 d m d' m'
  · rcases h2 with h2 | h2
    · refine .inl fun d m => ?_
      have := h2 d m
      unfold tupC at this
      split at this
      · exact ⟨_, _, rfl⟩
      · cases this
    · refine .inr fun d m => ?_
      have := h2 d m
      refine ⟨fun z => ?_, fun xs z => ?_⟩
      · subst z
        cases this
      · subst z
        cases this
def srtG (a : Ag) : Option T := ((itemsF a).bind fun ds => if ds.length ≤ sizeL then sortD ds else none).map fzL
section
variable {X : Cx}
theorem viewP_mem {H : Hp} {vs : List V} {ds : List PyData} {b : V × PyData} (h : ViewP H (vs.zip ds)) (m : b ∈ vs.zip ds) : View H b.1 b.2 := h.mem b m
theorem each_reads {H : Hp} {pins : List (Addr × Obj)} {σ : L2.St} {s : Shared} (I : Inv X pins σ H s) {vs : List V} {its : List Value} (r : Vals vs its) : ∀ {ds : List PyData}, vs.length = ds.length → ViewP H (vs.zip ds) → PySem.W.EachIs (fun (v : Value) (b : V × PyData) => ∃ as, Reads s.heap v b.2 as) its (vs.zip ds) := by
  induction r with
  | nil => intro ds l h; exact .nil
  | cons r t ih =>
    intro ds l h
    cases ds with
    | nil => cases l
    | cons d ds =>
      refine .cons ((h.mem _ List.mem_cons_self).reads I r) (ih (by simpa using l) ?_)
      obtain ⟨G, S, k⟩ := h
      cases k with
      | cons _ k => exact ⟨G, S, k⟩
theorem cr_sort (hu : X.A.units + 150 < cLine) : CallR X (.builtin "sorted") (r1g srtG) := by
  intro pins s σ H vs us Q I r h
  obtain ⟨x, R, o, a, t, rfl, rs, hh, e, q⟩ := h
  obtain ⟨ss, e0, rfl⟩ := Option.map_eq_some_iff.mp e
  obtain ⟨ds, e1, e2⟩ := Option.bind_eq_some_iff.mp e0
  split at e2
  case isFalse => cases e2
  rename_i hz
  unfold sortD at e2
  split at e2
  case isFalse => cases e2
  rename_i ok
  cases e2
  obtain ⟨k1, k2, k3⟩ := srtOk_of ok
  obtain ⟨p, ws, rfl, rd, l, k⟩ := rs.items hh e1
  obtain ⟨u, rfl, ru⟩ := vals1 r
  cases ru
  obtain ⟨its, rv, pl, _⟩ := I.list (.inl rd)
  have vp := RS.viewP l k
  have em : (ws.zip ds).map (·.2) = ds := zip_snd' l
  have lz : (ws.zip ds).length = ds.length := by simp [l]
  refine PySem.W.sorted_data (enc := fun b : V × PyData => b.2) (bs := ws.zip ds) (R := fun (v : Value) (b : V × PyData) => RelV b.1 v) pl.isList (each_zip rv l) (each_reads I rv l vp) (by rw [em]; exact k1) (by rw [em]; exact k2) (by rw [lz, ← sizeL_eq]; exact hz) (fun b m => ?_) fun out hl eo => ?_
  · have := k3 b.2 (by rw [← em]; exact List.mem_map.mpr ⟨b, m, rfl⟩)
    omega
  · obtain ⟨ep, he'⟩ := PyProof.Rows.sortedAll_at s.heap its out.toArray
    have vo := vals_each eo
    have es : ((ws.zip ds).mergeSort (PySem.W.dataLe false fun b : V × PyData => b.2)).map (·.2) = ds.mergeSort leD := by
      rw [List.map_mergeSort (s := leD) (fun a _ b _ => ?_), em]
      rw [PySem.W.dataLe_eq]
      rfl
    have pm := List.mergeSort_perm (ws.zip ds) (PySem.W.dataLe false fun b : V × PyData => b.2)
    have hlen : (((ws.zip ds).mergeSort (PySem.W.dataLe false fun b : V × PyData => b.2)).map (·.1)).length ≤ sizeLine := by
      rw [List.length_map, pm.length_eq, lz, ← sizeL_eq]
      exact hz
    refine ⟨.ref _, L2.upd H (s.heap.objs.size + 1) (.lst (((ws.zip ds).mergeSort (PySem.W.dataLe false fun b : V × PyData => b.2)).map (·.1))), I.laid (t' := s.toks) (fun _ _ => PyProof.Rows.sortedAll_old) (Nat.le_succ _) ⟨hlen, out, ep, vo, he'⟩, rfl, q _ _ ?_⟩
    have k5 : RS H (((ws.zip ds).mergeSort (PySem.W.dataLe false fun b : V × PyData => b.2)).map fzr ++ R) := by
      rw [zip_map_fz] at k
      exact k.perm ((pm.symm.map fzr).append_right R)
    have k6 : RS H ((((ws.zip ds).mergeSort (PySem.W.dataLe false fun b : V × PyData => b.2)).map (·.1)).zip ((ds.mergeSort leD).map T.fz) ++ R) := by
      rw [← es, zip_map_fz]
      have : ∀ l : List (V × PyData), (l.map (·.1)).zip (l.map (·.2)) = l := fun l => by
        induction l with
        | nil => rfl
        | cons a l ih => simp [ih]
      rw [this]
      exact k5
    exact k6.newL (by rw [List.length_map, List.length_map, ← es, List.length_map]) (I.hok.fresh (Nat.le_succ _))
end
end SW
end
section
/-! SWu: slices. -/
namespace SW
open PySem PySem.Spec PyProof.Rows L2

abbrev OF := Ta → Option (Option Int × Ta)
def oNone : OF := fun τ => some (none, τ)
def oSome (a : AF) : OF := fun τ => (a τ).bind fun p => (p.1.ag p.2).int.map fun i => (some i, p.2)
def tO (f : OF) : TO := fun σ H Q => ∃ τ F o τ', Sl σ τ ∧ RS H (slr σ τ ++ F) ∧ f τ = some (o, τ') ∧ ∀ H', Sl σ τ' → RS H' (slr σ τ' ++ F) → Q o H'
def vSlc (a : AF) (lo hi : OF) : VF := fun τ => (a τ).bind fun p => (lo p.2).bind fun l => (hi l.2).bind fun h => (slcT (p.1.ag h.2) l.1 h.1).map fun t => (t, h.2)
def vRev (a : AF) : VF := v1 (fun g => (kidsL g).map fun ts => .lst ts.reverse) a
section
variable {X : Cx} {e : Expr} {lo hi : Option Expr} {pos p2 : Pos}
theorem _root_.L2.PO.wk {e : Option Expr} {t t' : TO} (h : PO X e t) (i : ∀ σ H Q, t' σ H Q → t σ H Q) : PO X e t' := ⟨fun pins s σ H Q I q => h.run pins s σ H Q I (i σ H Q q)⟩
theorem po_no : PO X none (tO oNone) := po_none.wk fun σ H Q ⟨τ, F, o, τ', sl, rs, e, q⟩ => by
  cases e
  exact q H sl rs
theorem po_yes {a : AF} (h : PE X e (tA a)) : PO X (some e) (tO (oSome a)) := (po_some h).wk fun σ H Q ⟨τ, F, o, τ', sl, rs, e, q⟩ => by
  obtain ⟨p, ep, e2⟩ := Option.bind_eq_some_iff.mp e
  obtain ⟨i, ei, e3⟩ := Option.map_eq_some_iff.mp e2
  cases e3
  exact ⟨τ, F, _, _, sl, rs, ep, fun v H' sl' ok rs' => ⟨i, get_int rs' (has_of (F := F) sl' ok).mem ei, q H' sl' rs'.dropL⟩⟩
theorem cut_roots {H : Hp} {vs : List V} {ts : List T} {R : List Rt} (l : vs.length = ts.length) (lo hi : Option Int) (h : RS H (vs.zip ts ++ R)) : RS H ((cutV vs lo hi).zip (cutL ts lo hi) ++ R) := by
  unfold cutV cutL
  rw [l]
  generalize HT.sIx ts.length ts.length hi - HT.sIx ts.length 0 lo = m
  generalize HT.sIx ts.length 0 lo = n
  have e : ((vs.drop n).take m).zip ((ts.drop n).take m) = ((vs.zip ts).drop n).take m := by
    rw [List.zip_eq_zipWith, List.zip_eq_zipWith, List.drop_zipWith, List.take_zipWith]
  rw [e]
  have h1 : RS H ((vs.zip ts).take n ++ ((vs.zip ts).drop n ++ R)) := by
    rw [← List.append_assoc, List.take_append_drop]
    exact h
  have h2 := h1.dropL
  have h3 : RS H (((vs.zip ts).drop n).take m ++ (((vs.zip ts).drop n).drop m ++ R)) := by
    rw [← List.append_assoc, List.take_append_drop]
    exact h2
  exact (RS.swap h3).dropL
theorem cut_len {α β : Type} {vs : List α} {ts : List β} (l : vs.length = ts.length) (m n : Nat) : ((vs.drop n).take m).length = ((ts.drop n).take m).length := by simp [l]
theorem pe_slc {f : AF} {l h : OF} (he : PE X e (tA f)) (hl : PO X lo (tO l)) (hh : PO X hi (tO h)) : PE X (.Subscript e (.Slice lo hi none p2) pos) (tE (vSlc f l h)) :=
  (pe_slice (sl_list.or sl_tup) he hl hh).wk fun σ H Q h0 => by
    obtain ⟨τ, F, t, τ', sl, rs, e, q⟩ := h0
    obtain ⟨p, ep, e2⟩ := Option.bind_eq_some_iff.mp e
    obtain ⟨p1, ep1, e3⟩ := Option.bind_eq_some_iff.mp e2
    obtain ⟨p2, ep2, e4⟩ := Option.bind_eq_some_iff.mp e3
    obtain ⟨t', et, e5⟩ := Option.map_eq_some_iff.mp e4
    cases e5
    refine ⟨τ, F, _, _, sl, rs, ep, fun v H1 sl1 ok1 rs1 => ⟨_, agr v p.1 ++ F, _, _, sl1, rs1.swap, ep1, fun H2 sl2 rs2 => ⟨_, agr v p.1 ++ F, _, _, sl2, rs2, ep2, fun H3 sl3 rs3 => ?_⟩⟩⟩
    have r4 : RS H3 (agr v p.1 ++ (slr σ p2.2 ++ F)) := rs3.swap
    have hh := has_of (F := F) sl3 ok1
    unfold slcT at et
    split at et
    · rename_i ts ek
      cases et
      obtain ⟨a, vs, rfl, rd, ll, k⟩ := r4.kidsL hh (fun _ m => m) ek
      refine .inl ⟨a, vs, rfl, .inl rd, fun l0 hn => q _ _ sl3 ((cut_roots ll p1.1 p2.1 k).newL ?_ hn)⟩
      unfold cutV cutL
      rw [ll]
      exact cut_len ll _ _
    · split at et
      · rename_i ts ek
        split at et
        · cases et
        · rename_i hw
          cases et
          obtain ⟨a, vs, rfl, rd, ll, k⟩ := r4.kidsT hh (fun _ m => m) ek
          refine .inr ⟨a, vs, rfl, .inl rd, by rw [ll]; exact hw, fun l0 hn => q _ _ sl3 ((cut_roots ll p1.1 p2.1 k).newT ?_ hn)⟩
          unfold cutV cutL
          rw [ll]
          exact cut_len ll _ _
      · cases et
theorem rev_roots {H : Hp} {vs : List V} {ts : List T} {R : List Rt} (l : vs.length = ts.length) (h : RS H (vs.zip ts ++ R)) : RS H (vs.reverse.zip ts.reverse ++ R) := by
  have e : vs.reverse.zip ts.reverse = (vs.zip ts).reverse := by
    rw [List.zip_eq_zipWith, List.zip_eq_zipWith, List.reverse_zipWith l]
  rw [e]
  exact h.perm ((List.reverse_perm _).symm.append_right R)
theorem pe_revD {f : AF} {k : Nat} {p1 p2 p3 : Pos} (he : PE X e (tA f)) : PE X (.Subscript e (.Slice none none (some (.UnaryOp .USub (.Constant (.int 1) k p1) p2)) p3) pos) (tE (vRev f)) :=
  (pe_revL he).wk fun σ H Q h => by
    obtain ⟨τ, F, a, τ', sl, rs, e, q⟩ := ta1 h
    refine ⟨τ, F, a, τ', sl, rs, e, fun v H' sl' ok rs' => ?_⟩
    obtain ⟨R, o, g, t, r1, hh, eg, q2⟩ := q v H' sl' ok rs'
    obtain ⟨ts, ek, rfl⟩ := Option.map_eq_some_iff.mp eg
    obtain ⟨a, vs, rfl, rd, ll, k⟩ := r1.kidsL hh (fun _ m => m) ek
    exact ⟨a, vs, rfl, .inl rd, fun l0 hn => q2 _ _ ((rev_roots ll k).newL (by simp [ll]) hn)⟩
end
end SW
end
section
/-! SWv: methods that change a list in its slot, or within what a slot holds. -/
namespace SW
open PySem PySem.Spec PyProof.Rows L2

def mId : Mm → String
  | .append => "list.append"
  | .insert => "list.insert"
  | .pop => "list.pop"
  | .popAt => "list.pop"
  | .extend => "list.extend"
  | .popD => "dict.pop"
/-- the changes that we follow -/
def mmL (m : Mm) (t : T) (as : List T) : Option (T × T) := match m, t, as with
  | .append, .lst ts, [x] => if ts.length < sizeL then some (.lst (ts ++ [x]), .fz .none) else none
  | .insert, .lst ts, [.fz (.int i), x] => if ts.length < sizeL ∧ 0 ≤ i ∧ i < 2 ^ 63 then some (.lst (ts.take i.toNat ++ ([x] ++ ts.drop i.toNat)), .fz .none) else none
  | .pop, .lst ts, [] => (ts[ts.length - 1]?).map fun x => (.lst ts.dropLast, x)
  | .popAt, .lst ts, [.fz (.int i)] => if -(2 ^ 63) ≤ i ∧ i < 2 ^ 63 then (ixOf ts.length i).bind fun j => ts[j]?.map fun x => (.lst (ts.eraseIdx j), x) else none
  | .extend, .lst ts, [.lst us] => if ts.length + us.length ≤ sizeL then some (.lst (ts ++ us), .fz .none) else none
  | .extend, .lst ts, [.fz (.list ds)] => if ts.length + ds.length ≤ sizeL then some (.lst (ts ++ ds.map .fz), .fz .none) else none
  | _, _, _ => none
theorem RSx.tl {H : Hp} {xs : List Addr} {r : Rt} {rs : List Rt} (h : RSx H xs (r :: rs)) : RSx H xs rs := RSx.dropL (rs := [r]) h
def rMm (m : Mm) : V → List V → Hp → VK → Prop := fun x vs H Q => ∃ t ts t' res R, vs.length = ts.length ∧ RS H ((x, t) :: (vs.zip ts ++ R)) ∧ mmL m t ts = some (t', res) ∧ ∀ z H', RS H' ((z, res) :: (x, t') :: R) → Q z H'
section
variable {X : Cx}
theorem open1 {H : Hp} {x : V} {ts : List T} {L : List Rt} (h : RS H ((x, .lst ts) :: L)) : ∃ l ps, x = .ref l ∧ ps.map (·.2) = ts ∧ H l = some (.lst (ps.map (·.1))) ∧ RSx H [l] (ps ++ L) := h.x.openL
theorem mt_mm (m : Mm) : MtR X (mId m) (rMm m) := by
  intro pins s σ H x vs v us Q I rx rv h
  obtain ⟨t, ts, t', res, R, ll, rs, e, q⟩ := h
  unfold mmL at e
  split at e
  · -- append
    rename_i ts0 x0
    split at e
    case isFalse => cases e
    rename_i hz
    cases e
    obtain ⟨y, rfl⟩ : ∃ y, vs = [y] := by
      cases vs with
      | nil => cases ll
      | cons y vs =>
        cases vs with
        | nil => exact ⟨y, rfl⟩
        | cons _ _ => cases ll
    obtain ⟨l, ps, rfl, rfl, r, k⟩ := open1 rs
    refine mt_append pins s σ H _ _ v us Q I rx rv ⟨l, _, y, rfl, rfl, r, by rw [← sizeL_eq]; simpa using hz, q _ _ ?_⟩
    have k2 : RSx H [l] ((ps ++ [(y, x0)]) ++ R) := by
      rw [List.append_assoc]
      exact k
    have k3 := k2.closeL.s
    simp only [List.map_append, List.map_cons, List.map_nil] at k3
    exact k3.addN
  · -- insert
    rename_i ts0 i x0
    split at e
    case isFalse => cases e
    rename_i hz
    cases e
    obtain ⟨yi, y, rfl⟩ : ∃ yi y, vs = [yi, y] := by
      cases vs with
      | nil => cases ll
      | cons y vs =>
        cases vs with
        | nil => cases ll
        | cons y2 vs =>
          cases vs with
          | nil => exact ⟨y, y2, rfl⟩
          | cons _ _ => cases ll
    have ei : yi = .int i := (rs.viewM (x := yi) (t := .fz (.int i)) (List.mem_cons_of_mem _ List.mem_cons_self) rfl).int
    subst ei
    obtain ⟨l, ps, rfl, rfl, r, k⟩ := open1 rs
    have hz1 := hz.1
    rw [List.length_map] at hz1
    refine mt_insert pins s σ H _ _ v us Q I rx rv ⟨l, _, i, y, rfl, rfl, r, by rw [← sizeL_eq]; simpa using hz1, hz.2.1, hz.2.2, q _ _ ?_⟩
    have k1 : RSx H [l] ((V.int i, T.fz (.int i)) :: (ps ++ ((y, x0) :: R))) := k.perm List.perm_middle
    have k2 : RSx H [l] (ps ++ ((y, x0) :: R)) := RSx.dropL (rs := [(V.int i, T.fz (.int i))]) k1
    have k3 : RSx H [l] ((ps.take i.toNat ++ ([(y, x0)] ++ ps.drop i.toNat)) ++ R) := k2.perm (by
      have e1 : ps = ps.take i.toNat ++ ps.drop i.toNat := (List.take_append_drop _ _).symm
      conv => lhs; rw [e1]
      simp only [List.append_assoc, List.singleton_append, List.cons_append]
      exact List.Perm.append_left _ List.perm_middle)
    have k4 := k3.closeL.s
    simp only [List.map_append, List.map_cons, List.map_nil, List.map_take, List.map_drop] at k4
    rw [← List.append_assoc] at k4
    exact k4.addN
  · -- pop
    rename_i ts0
    obtain ⟨x0, ex, e2⟩ := Option.map_eq_some_iff.mp e
    cases e2
    obtain rfl : vs = [] := List.length_eq_zero_iff.mp ll
    obtain ⟨l, ps, rfl, rfl, r, k⟩ := open1 rs
    rw [List.length_map] at ex
    obtain ⟨y, ey⟩ := get_map2 ex
    have ne : ps ≠ [] := fun z => by
      subst z
      cases ey
    have el : ps.getLast ne = (y, res) := by
      rw [List.getLast_eq_getElem]
      exact (List.getElem?_eq_some_iff.mp ey).2
    refine mt_pop pins s σ H _ _ v us Q I rx rv ⟨l, _, y, rfl, rfl, r, by rw [List.length_map, List.getElem?_map, ey]; rfl, q _ _ ?_⟩
    have k2 : RSx H [l] (ps.dropLast ++ ((y, res) :: R)) := by
      have : ps.dropLast ++ ((y, res) :: R) = ps ++ R := by
        rw [← el, show ps.dropLast ++ (ps.getLast ne :: R) = (ps.dropLast ++ [ps.getLast ne]) ++ R by simp, List.dropLast_concat_getLast]
      rw [this]
      exact k
    have k3 := k2.closeL.s
    rw [← List.map_dropLast, ← List.map_dropLast]
    exact k3.perm (.swap _ _ _)
  · -- pop(i)
    rename_i ts0 i
    split at e
    case isFalse => cases e
    rename_i hi
    obtain ⟨j, ej, e1⟩ := Option.bind_eq_some_iff.mp e
    obtain ⟨x0, ex, e2⟩ := Option.map_eq_some_iff.mp e1
    cases e2
    obtain ⟨yi, rfl⟩ : ∃ y, vs = [y] := by
      cases vs with
      | nil => cases ll
      | cons y vs =>
        cases vs with
        | nil => exact ⟨y, rfl⟩
        | cons _ _ => cases ll
    have ei : yi = .int i := (rs.viewM (x := yi) (t := .fz (.int i)) (List.mem_cons_of_mem _ List.mem_cons_self) rfl).int
    subst ei
    obtain ⟨l, ps, rfl, rfl, r, k⟩ := open1 rs
    obtain ⟨y, ey⟩ := get_map2 ex
    rw [List.length_map] at ej
    refine mt_popAt pins s σ H _ _ v us Q I rx rv ⟨l, _, i, j, y, rfl, rfl, r, hi.1, hi.2, by rw [List.length_map]; exact (ixN_seq ej).1, by rw [List.getElem?_map, ey]; rfl, q _ _ ?_⟩
    have k1 : RSx H [l] ((V.int i, T.fz (.int i)) :: (ps ++ R)) := k.perm List.perm_middle
    have k2 : RSx H [l] (ps ++ R) := RSx.dropL (rs := [(V.int i, T.fz (.int i))]) k1
    have k3 : RSx H [l] (ps.eraseIdx j ++ ((y, res) :: R)) := k2.perm (((perm_take ey).append_right R).trans List.perm_middle.symm)
    have k4 := k3.closeL.s
    have em : ∀ {α β : Type} (f : α → β) (l : List α) (j : Nat), (l.eraseIdx j).map f = (l.map f).eraseIdx j := fun {α β} f l => by
      induction l with
      | nil => intro j; rfl
      | cons a l ih =>
        intro j
        cases j with
        | zero => rfl
        | succ j => simp [ih]
    rw [em, em] at k4
    exact k4.perm (.swap _ _ _)
  · -- extend
    rename_i ts0 us0
    split at e
    case isFalse => cases e
    rename_i hz
    cases e
    obtain ⟨yi, rfl⟩ : ∃ y, vs = [y] := by
      cases vs with
      | nil => cases ll
      | cons y vs =>
        cases vs with
        | nil => exact ⟨y, rfl⟩
        | cons _ _ => cases ll
    obtain ⟨l, ps, rfl, rfl, r, k⟩ := open1 rs
    have k1 : RSx H [l] ((yi, T.lst us0) :: (ps ++ R)) := k.perm List.perm_middle
    obtain ⟨b, zs, rfl, rfl, rb, k2⟩ := k1.openL
    refine mt_extend pins s σ H _ _ v us Q I rx rv ⟨l, b, _, _, rfl, rfl, r, rb, by rw [List.length_map, List.length_map, ← sizeL_eq]; simpa using hz, q _ _ ?_⟩
    have k3 : RSx H [l] ((ps ++ zs) ++ R) := by
      obtain ⟨G, as, S, rr, nd, no, ow⟩ := k2
      have nd' := (List.nodup_cons.mp nd).2
      have : RSx H [l] (zs ++ (ps ++ R)) := ⟨G, as, S, rr, nd', fun a m => no a (List.mem_cons_of_mem _ m), fun a m => ow a (List.mem_cons_of_mem _ m)⟩
      exact this.perm (by
        rw [List.append_assoc]
        exact perm3 _ _ _)
    have k4 := k3.closeL.s
    simp only [List.map_append] at k4
    exact k4.addN
  · rename_i ts0 ds
    split at e
    case isFalse => cases e
    rename_i hz
    cases e
    obtain ⟨yi, rfl⟩ : ∃ y, vs = [y] := by
      cases vs with
      | nil => cases ll
      | cons y vs =>
        cases vs with
        | nil => exact ⟨y, rfl⟩
        | cons _ _ => cases ll
    obtain ⟨l, ps, rfl, rfl, r, k⟩ := open1 rs
    have k1 : RSx H [l] ((yi, T.fz (.list ds)) :: (ps ++ R)) := k.perm List.perm_middle
    obtain ⟨b, zs, rfl, rfl, rb, k2⟩ := k1.readL
    have rb' : H b = some (.lst (zs.map (·.1))) := by
      have vw := (RSx.forget k1).view rfl
      obtain ⟨G, S, hR⟩ := vw
      generalize ed : PyData.list (zs.map (·.2)) = d at hR
      cases hR with
      | lst e1 h1 =>
        have x1 := (S _ _ e1).2.2 rfl
        rcases rb with rb | ⟨o, rb⟩
        · exact rb
        · rw [rb] at x1
          cases x1
      | _ => cases ed
    refine mt_extend pins s σ H _ _ v us Q I rx rv ⟨l, b, _, _, rfl, rfl, r, rb', by rw [List.length_map, List.length_map, ← sizeL_eq]; simpa using hz, q _ _ ?_⟩
    have k3 : RSx H [l] ((ps ++ zs.map fzr) ++ R) := by
      have k5 : RSx H [l] ((V.ref b, T.fz (.list (zs.map (·.2)))) :: (zs.map fzr ++ (ps ++ R))) := k2.perm List.perm_middle
      have k6 : RSx H [l] (zs.map fzr ++ (ps ++ R)) := k5.tl
      exact k6.perm (by
        rw [List.append_assoc]
        exact perm3 _ _ _)
    have k4 := k3.closeL.s
    simp only [List.map_append, List.map_map] at k4
    have e5 : zs.map ((fun r : Rt => r.1) ∘ fzr) = zs.map (·.1) := rfl
    have e6 : zs.map ((fun r : Rt => r.2) ∘ fzr) = (zs.map (·.2)).map T.fz := by
      rw [List.map_map]
      rfl
    rw [e5, e6] at k4
    exact k4.addN
  · cases e

/-! ### the rule: the thing stands in a slot -/
def isL : T → Bool
  | .lst _ => true
  | _ => false
def vMm (m : Mm) (i : Nat) (g : LF) : VF := fun τ => if isL (gT τ i) then (g τ).bind fun p => (mmL m (gT p.2 i) p.1).map fun r => (r.2, p.2.set i r.1) else none
variable {e : Expr} {es : List Expr} {x : Str} {name : Str} {npos apos cpos : Pos}
theorem tyL {H : Hp} {v : V} {t : T} {R : List Rt} (h : RS H ((v, t) :: R)) (il : isL t = true) (K : PySem.W.Frag) : tyV K "list" v H := by
  cases t with
  | lst ts =>
    obtain ⟨l, ps, rfl, _, r, _⟩ := open1 h
    exact .inl ⟨rfl, _, .inl (.inl r)⟩
  | _ => cases il
theorem mm_slot {m : Mm} {i : Nat} {g : LF} {σ : L2.St} {H : Hp} {Q : VK} (h : tE (vMm m i g) σ H Q) (K : PySem.W.Frag) : ∃ v, σ[i]? = some (some v) ∧ tyV K "list" v H ∧ tLs g σ H fun vs H2 => rMm m v vs H2 Q := by
  obtain ⟨τ, F, t, τ', sl, rs, e, q⟩ := h
  unfold vMm at e
  split at e
  case isFalse => cases e
  rename_i il
  obtain ⟨p, ep, e2⟩ := Option.bind_eq_some_iff.mp e
  obtain ⟨r, er, e3⟩ := Option.map_eq_some_iff.mp e2
  cases e3
  obtain ⟨v, hv⟩ := sl.bound (i := i) (fun z => by rw [z] at il; cases il)
  refine ⟨v, hv, tyL (rs.perm ((slr_out sl hv).append_right F)) il K, τ, F, _, _, sl, rs, ep, fun vs H2 ll sl2 rs2 => ⟨_, _, _, _, slx σ p.2 i ++ F, ll, ?_, er, fun z H3 r3 => q z H3 (sl2.setT ⟨v, hv⟩) ?_⟩⟩
  · refine rs2.perm ?_
    refine (List.Perm.append_left _ ((slr_out sl2 hv).append_right F)).trans ?_
    simp only [List.cons_append]
    exact List.perm_middle
  · exact r3.perm (((slr_in sl2 hv).symm.append_right F).cons _)
theorem pe_mm (m : Mm) {i : Nat} {g : LF} (hN : X.N[i]? = some x) (hv : Vis X.env.scope x) (slot : Slot "list" name (mId m)) (hty : typeOf (.builtin (mId m)) = pure (.type "method_descriptor")) (ha : PA X (e :: es) (tLs g))
    (hd : (x == ("__debug__" : Str)) = false := by decide) (hcd : (x == ("__classdict__" : Str)) = false := by decide)
    (hbase : attributeBase (.Name x npos) name X.env (eval (.Name x npos) X.env) = eval (.Name x npos) X.env := by rfl)
    (hfew : ((backTo cpos (starEach (e :: es) X.env)).all (fun x => !x.1) && (backToKw cpos (keywordEach [] X.env)).all (fun x => x.1.isSome)
      && decide ((e :: es).length + ([] : List Keyword).length + (if ([] : List Keyword).isEmpty then 0 else 1) < 30)) = true := by rfl)
    (hline : (apos.endLine == cpos.line) = true := by rfl) (hs : starEach (e :: es) X.env = (false, eval e X.env) :: starEach es X.env := by rfl) (hplain : (backTo cpos (starEach es X.env)).any (·.1) = false := by rfl) :
    PE X (.Call (.Attribute (.Name x npos) name apos) (e :: es) [] cpos) (tE (vMm m i g)) :=
  (pe_bm PySem.F.plainAttrs_list slot hty (mt_mm m) (pe_var hN hv hd hcd) ha hbase hfew hline hs hplain).wk fun σ H Q h => by
    obtain ⟨v, hv, ty, k⟩ := mm_slot h X.K
    exact ⟨v, hv, ty, k⟩
theorem pe_mm0 {i : Nat} (hN : X.N[i]? = some x) (hv : Vis X.env.scope x) (slot : Slot "list" name "list.pop") (hty : typeOf (.builtin "list.pop") = pure (.type "method_descriptor"))
    (hd : (x == ("__debug__" : Str)) = false := by decide) (hcd : (x == ("__classdict__" : Str)) = false := by decide)
    (hbase : attributeBase (.Name x npos) name X.env (eval (.Name x npos) X.env) = eval (.Name x npos) X.env := by rfl) (hline : (apos.endLine == cpos.line) = true := by rfl) :
    PE X (.Call (.Attribute (.Name x npos) name apos) [] [] cpos) (tE (vMm .pop i lNil)) :=
  (pe_bm0 PySem.F.plainAttrs_list slot hty (mt_mm .pop) (pe_var hN hv hd hcd) hbase hline).wk fun σ H Q h => by
    obtain ⟨v, hv, ty, τ, F, ts, τ', sl, rs, e, q⟩ := mm_slot h X.K
    cases e
    exact ⟨v, hv, ty, q [] H rfl sl rs⟩
/-- x.bit_length() -/
def bitG (a : Ag) : Option T := a.int.map fun i => tI (Builtin.Int.intBits i : Nat)
theorem pe_bitl {f : AF} (ho : PE X e (tA f)) (hbase : attributeBase e "bit_length" X.env (eval e X.env) = eval e X.env := by rfl) (hline : (apos.endLine == cpos.line) = true := by rfl) : PE X (.Call (.Attribute e "bit_length" apos) [] [] cpos) (tE (v1 bitG f)) :=
  (pe_bits ho hbase hline).wk fun σ H Q h => by
    obtain ⟨τ, F, a, τ', sl, rs, e, q⟩ := ta1 h
    refine ⟨τ, F, a, τ', sl, rs, e, fun v H' sl' ok rs' => ?_⟩
    obtain ⟨R, o, g, t, r1, hh, eg, q2⟩ := q v H' sl' ok rs'
    obtain ⟨i, ei, rfl⟩ := Option.map_eq_some_iff.mp eg
    exact ⟨i, get_int r1 hh.mem ei, q2 _ _ (r1.dropL.addI _)⟩
end
end SW
end
section
/-! SWw: x[k] = v. -/
namespace SW
open PySem PySem.Spec PyProof.Rows L2

/-! ### putting into a dict of known items -/
theorem putK_at {κ : Type} [DecidableEq κ] {k : κ} {v : V} : ∀ {qs : List (κ × V)} {j : Nat} {w : V}, (qs.map (·.1)).Nodup → qs[j]? = some (k, w) → putK qs k v = qs.set j (k, v) := by
  intro qs j w nd e
  have an : (qs.any fun kv => decide (kv.1 = k)) = true := List.any_eq_true.mpr ⟨(k, w), List.mem_of_getElem? e, by simp⟩
  unfold putK
  rw [if_pos an]
  clear an
  induction qs generalizing j with
  | nil => simp at e
  | cons p qs ih =>
    have nd2 := List.nodup_cons.mp nd
    cases j with
    | zero =>
      simp at e
      subst e
      simp only [List.map_cons, List.set_cons_zero, if_true]
      congr 1
      have : ∀ q ∈ qs, (if q.1 = k then (q.1, v) else q) = q := fun q m => by
        rw [if_neg]
        intro z
        exact nd2.1 (List.mem_map.mpr ⟨q, m, z⟩)
      rw [List.map_congr_left this]
      simp
    | succ j =>
      have e' : qs[j]? = some (k, w) := by simpa using e
      have ne : p.1 ≠ k := fun z => nd2.1 (by
        show p.1 ∈ _
        rw [z]
        exact List.mem_map.mpr ⟨(k, w), List.mem_of_getElem? e', rfl⟩)
      simp only [List.map_cons, List.set_cons_succ, if_neg ne]
      rw [ih nd2.2 e']
theorem putK_new {κ : Type} [DecidableEq κ] {k : κ} {v : V} {qs : List (κ × V)} (h : valV qs k = none) : putK qs k v = qs ++ [(k, v)] := by
  unfold putK
  rw [if_neg]
  rw [valV_any, h]
  simp
theorem kPut_new {κ : Type} [DecidableEq κ] (f : κ → PyData) (hf : ∀ a b, keq (f a) (f b) = decide (a = b)) (k : κ) (t : T) : ∀ (qs : List (κ × V × T)), kFind (f k) (qs.map fun q => (f q.1, q.2.2)) = none →
    valV (qs.map fun q => (q.1, q.2.1)) k = none ∧ kPut (f k) t (qs.map fun q => (f q.1, q.2.2)) = qs.map (fun q => (f q.1, q.2.2)) ++ [(f k, t)]
  | [], _ => ⟨rfl, rfl⟩
  | q :: qs, h => by
    simp only [List.map_cons, kFind, hf] at h
    by_cases e : q.1 = k
    · subst e
      simp at h
    · simp [e] at h
      obtain ⟨h1, h2⟩ := kPut_new f hf k t qs h
      refine ⟨?_, ?_⟩
      · rw [List.map_cons, valV_neg e]
        exact h1
      · simp [kPut, hf, e, h2]
/-- the heap behind a[y] = v; the empty dict is of both kinds -/
inductive DSto (H : Hp) (a : Addr) (y v : V) : Hp → Prop
  | gt {H' : Hp} : DPut H a y v H' → DSto H a y v H'
  | eK {b : Addr} {ks : List Key} : H a = some (.dK []) → y = .ref b → H b = some (.tup (ks.map kV)) → DSto H a y v (L2.upd H a (.dT [(ks, v)]))
  | eT {k : Key} : H a = some (.dT []) → y = kV k → DSto H a y v (L2.upd H a (.dK [(k, v)]))
section
variable {X : Cx} {pins : List (Addr × Obj)} {σ : L2.St} {H : Hp} {s : Shared} {a : Addr} {y v : V} {u r : Value} {A : Around} {E : Value → Shared → Prop}
theorem ghostT (I : Inv X pins σ H s) (h : H a = some (.dK [])) : Inv X pins σ (L2.upd H a (.dT [])) s := by
  obtain ⟨hd, ob, es, ep, h1, h2, h3, h4, _⟩ := emptyT I (.inl h)
  exact I.write (x := a) (e := a) (t' := s.toks) (h' := s.heap) (by rw [h]; trivial) (.inl rfl) (fun _ _ _ z => z) ⟨_, h1⟩ ⟨Nat.zero_le _, hd, [], .nil, ob, es, ep, h1, h2, h3, h4, List.nodup_nil⟩
theorem ghostK (I : Inv X pins σ H s) (h : H a = some (.dT [])) : Inv X pins σ (L2.upd H a (.dK [])) s := by
  obtain ⟨hd, dd⟩ := emptyK I (.inl h)
  have ⟨ob, _, _, h1, _⟩ := dd
  exact I.write (x := a) (e := a) (t' := s.toks) (h' := s.heap) (by rw [h]; trivial) (.inl rfl) (fun _ _ _ z => z) ⟨_, h1⟩ ⟨Nat.zero_le _, hd, [], .nil, dd⟩
theorem ds_put {H' : Hp} {Q : Unit → Shared → Prop} (hu : A.units + 1 < cLine) (I : Inv X pins σ H s) (g : DSto H a y v H') (ry : RelV y u) (rv : RelV v r) (h : ∀ s', Inv X pins σ H' s' → Q () s') :
    wpAny (model X.prog X.w) A (setItem (.ref a) u r) Q E s := by
  cases g with
  | gt g => exact d_setItem hu I g ry rv h
  | @eK b ks e ey hb =>
    subst ey
    refine d_setItem (H' := L2.upd (L2.upd H a (.dT [])) a (.dT (putK [] ks v))) hu (ghostT I e) (.inr ⟨[], ks, b, L2.upd_same, rfl, ?_, by decide, rfl⟩) ry rv fun s' I' => h s' ?_
    · rw [L2.upd_ne (fun z => by subst z; rw [e] at hb; cases hb)]
      exact hb
    · rw [L2.upd_upd] at I'
      exact I'
  | @eT k e ey =>
    subst ey
    refine d_setItem (H' := L2.upd (L2.upd H a (.dK [])) a (.dK (putK [] k v))) hu (ghostK I e) (.inl ⟨[], k, L2.upd_same, rfl, by decide, rfl⟩) ry rv fun s' I' => h s' ?_
    rw [L2.upd_upd] at I'
    exact I'
theorem KV.nodupK {kvs : List (Key × V)} (I : Inv X pins σ H s) (h : Rd H a (.dK kvs)) : (kvs.map (·.1)).Nodup := by
  obtain ⟨_, _, vs, kv, o, es, ep, _, _, _, _, _, nd⟩ := dk_rd I.hok h
  rw [KV.keys kv]
  exact nd
theorem KV.nodupT {kvs : List (List Key × V)} (I : Inv X pins σ H s) (h : Rd H a (.dT kvs)) : (kvs.map (·.1)).Nodup := by
  obtain ⟨_, _, xs, kt, o, es, ep, _, _, _, _, _, nd⟩ := dt_rd I.hok h
  have : ∀ {l : List (List Key × V)} {m : List (List Key × Addr × Value)}, KT H l m → l.map (·.1) = m.map (·.1) := by
    intro l m k
    induction k with
    | nil => rfl
    | cons h _ ih => rw [List.map_cons, List.map_cons, h.1, ih]
  rw [this kt]
  exact nd
end
/-- what x[k] = v does -/
def setG (t : T) (k : PyData) (v : T) : Option T := match t, k with
  | .lst ts, .int i => (ixOf ts.length i).map fun j => .lst (ts.set j v)
  | .dct kvs, k => if kOk k kvs && decide (kvs.length < sizeL) then some (.dct (kPut k v kvs)) else none
  | _, _ => none
def rSet : TSet := fun o i v H Q => ∃ t tv k t' R, RS H ((o, t) :: (v, tv) :: R) ∧ View H i k ∧ setG t k tv = some t' ∧ ∀ H', RS H' ((o, t') :: R) → Q H'
theorem dict_put {X : Cx} {pins : List (Addr × Obj)} {σ : L2.St} {H : Hp} {s : Shared} (I : Inv X pins σ H s) {o v i : V} {kvs : List (PyData × T)} {tv : T} {k : PyData} {R : List Rt} (h : RS H ((o, .dct kvs) :: (v, tv) :: R)) (hi : View H i k) (ok : kOk k kvs = true) (hz : kvs.length < sizeL) :
    ∃ a H', o = .ref a ∧ DSto H a i v H' ∧ RS H' ((.ref a, .dct (kPut k tv kvs)) :: R) := by
  unfold kOk at ok
  simp only [Bool.or_eq_true, Bool.and_eq_true] at ok
  obtain ⟨a, rfl, ⟨qs, rfl, r, kk⟩ | ⟨qs, rfl, r, kk⟩⟩ := h.x.openD
  · rcases ok with ⟨k1, _⟩ | ⟨k1, al⟩
    · obtain ⟨k, rfl⟩ := isK_of k1
      have hz' : (qs.map fun q => (q.1, q.2.1)).length < sizeLine := by
        rw [← sizeL_eq]
        simpa using hz
      cases e : kFind (kD k) (qs.map fun q => (kD q.1, q.2.2)) with
      | none =>
        obtain ⟨n1, n2⟩ := kPut_new kD keq_kD k tv qs e
        refine ⟨a, _, rfl, .gt (.inl ⟨_, k, r, hi.keyK, hz', rfl⟩), ?_⟩
        rw [putK_new n1, n2]
        have k2 : RSx H [a] ((qs ++ [(k, v, tv)]).map (·.2) ++ R) := by
          rw [List.map_append, List.append_assoc]
          exact kk
        have k3 := k2.closeK.s
        simp only [List.map_append, List.map_cons, List.map_nil] at k3
        exact k3
      | some c =>
        obtain ⟨j, w, h1, h2, h3⟩ := key_at kD keq_kD k qs e
        have nd := KV.nodupK I (.inl r)
        have pe := putK_at (v := v) (j := j) (w := w) nd (by rw [List.getElem?_map, h1]; rfl)
        refine ⟨a, _, rfl, .gt (.inl ⟨_, k, r, hi.keyK, hz', rfl⟩), ?_⟩
        rw [pe, h3]
        have k1 : RSx H [a] ((w, c) :: ((qs.map (·.2)).eraseIdx j ++ ((v, tv) :: R))) := kk.perm ((perm_take (by rw [List.getElem?_map, h1]; rfl)).append_right _)
        have hj : j < (qs.map fun q : Key × V × T => q.2).length := by
          rw [List.length_map]
          exact (List.getElem?_eq_some_iff.mp h1).1
        have k2 : RSx H [a] ((qs.set j (k, v, tv)).map (·.2) ++ R) := by
          rw [map_set]
          refine k1.tl.perm ?_
          refine List.Perm.trans List.perm_middle ?_
          exact ((perm_set hj).symm.append_right R)
        have k3 := k2.closeK.s
        rw [map_set, map_set] at k3
        rw [map_set]
        exact k3
    · obtain ⟨ks, rfl⟩ := isKT_of k1
      cases qs with
      | nil =>
        obtain ⟨b, rfl, hb⟩ := hi.keyT
        refine ⟨a, _, rfl, .eK r rfl hb, ?_⟩
        have k2 : RSx H [a] (([(ks, v, tv)] : List (List Key × V × T)).map (·.2) ++ R) := kk
        exact k2.closeT.s
      | cons q qs =>
        simp only [List.map_cons, List.all_cons, Bool.and_eq_true] at al
        rw [isKT_kD] at al
        cases al.1
  · rcases ok with ⟨k1, al⟩ | ⟨k1, _⟩
    · obtain ⟨k, rfl⟩ := isK_of k1
      cases qs with
      | nil =>
        refine ⟨a, _, rfl, .eT r hi.keyK, ?_⟩
        have k2 : RSx H [a] (([(k, v, tv)] : List (Key × V × T)).map (·.2) ++ R) := kk
        exact k2.closeK.s
      | cons q qs =>
        simp only [List.map_cons, List.all_cons, Bool.and_eq_true] at al
        rw [isK_tD] at al
        cases al.1
    · obtain ⟨k, rfl⟩ := isKT_of k1
      obtain ⟨b, rfl, hb⟩ := hi.keyT
      have hz' : (qs.map fun q => (q.1, q.2.1)).length < sizeLine := by
        rw [← sizeL_eq]
        simpa using hz
      cases e : kFind (tD k) (qs.map fun q => (tD q.1, q.2.2)) with
      | none =>
        obtain ⟨n1, n2⟩ := kPut_new tD keq_tD k tv qs e
        refine ⟨a, _, rfl, .gt (.inr ⟨_, k, b, r, rfl, hb, hz', rfl⟩), ?_⟩
        rw [putK_new n1, n2]
        have k2 : RSx H [a] ((qs ++ [(k, v, tv)]).map (·.2) ++ R) := by
          rw [List.map_append, List.append_assoc]
          exact kk
        have k3 := k2.closeT.s
        simp only [List.map_append, List.map_cons, List.map_nil] at k3
        exact k3
      | some c =>
        obtain ⟨j, w, h1, h2, h3⟩ := key_at tD keq_tD k qs e
        have nd := KV.nodupT I (.inl r)
        have pe := putK_at (v := v) (j := j) (w := w) nd (by rw [List.getElem?_map, h1]; rfl)
        refine ⟨a, _, rfl, .gt (.inr ⟨_, k, b, r, rfl, hb, hz', rfl⟩), ?_⟩
        rw [pe, h3]
        have k1 : RSx H [a] ((w, c) :: ((qs.map (·.2)).eraseIdx j ++ ((v, tv) :: R))) := kk.perm ((perm_take (by rw [List.getElem?_map, h1]; rfl)).append_right _)
        have hj : j < (qs.map fun q : List Key × V × T => q.2).length := by
          rw [List.length_map]
          exact (List.getElem?_eq_some_iff.mp h1).1
        have k2 : RSx H [a] ((qs.set j (k, v, tv)).map (·.2) ++ R) := by
          rw [map_set]
          refine k1.tl.perm ?_
          refine List.Perm.trans List.perm_middle ?_
          exact ((perm_set hj).symm.append_right R)
        have k3 := k2.closeT.s
        rw [map_set, map_set] at k3
        rw [map_set]
        exact k3
section
variable {X : Cx} {value o i : Expr} {x : Str} {pos pos' npos : Pos} {W : List Nat}
theorem pset_all (hu : X.A.units + 1 < cLine) : PSet X rSet := by
  intro pins s σ H o i v ov iv u Q I ro ri rv h
  obtain ⟨t, tv, k, t', R, rs, hi, e, q⟩ := h
  unfold setG at e
  split at e
  · rename_i ts z
    obtain ⟨j, ej, rfl⟩ := Option.map_eq_some_iff.mp e
    have ei := hi.int
    subst ei
    obtain ⟨p, ps, rfl, rfl, r, k⟩ := open1 rs
    rw [List.length_map] at ej
    have hj : j < ps.length := (ixN_seq ej).2.1
    refine set_list pins s σ H _ _ v ov iv u Q I ro ri rv ⟨p, _, z, j, rfl, rfl, r, by rw [List.length_map]; exact ej, q _ ?_⟩
    have k1 : RSx H [p] (ps[j] :: (ps.eraseIdx j ++ ((v, tv) :: R))) := k.perm ((perm_take (List.getElem?_eq_getElem hj)).append_right _)
    have k2 : RSx H [p] (ps.set j (v, tv) ++ R) := by
      refine k1.tl.perm ?_
      refine List.Perm.trans List.perm_middle ?_
      exact ((perm_set hj).symm.append_right R)
    have k3 := k2.closeL.s
    rw [map_set, map_set] at k3
    exact k3
  · split at e
    case isFalse => cases e
    rename_i ok
    cases e
    simp only [Bool.and_eq_true, decide_eq_true_eq] at ok
    obtain ⟨a, H', rfl, g, k⟩ := dict_put I rs hi ok.1 ok.2
    cases ro
    exact ds_put hu I g ri rv fun s' I' => ⟨H', I', q H' k⟩
  · cases e
/-- x[k] = e, x in its slot -/
def sSet (j : Nat) (k : AF) (f : VF) : BS := fun τ => (f τ).bind fun p => if live (gT p.2 j) then (k p.2).bind fun q => (q.1.ag q.2).d.bind fun kd => (setG (gT q.2 j) kd p.1).map fun t => .nx (q.2.set j t) else none
/-- the target alone -/
theorem g_set {j : Nat} {k : AF} (hu : X.A.units + 1 < cLine) (hN : X.N[j]? = some x) (hv : Vis X.env.scope x) (hi : PE X i (tA k)) (hd : (x == ("__debug__" : Str)) = false := by decide) (hcd : (x == ("__classdict__" : Str)) = false := by decide)
    (hsub : ∀ v, assign (.Subscript (.Name x npos) i pos') X.env v = (do
      let ov ← holding [v] (eval (.Name x npos) X.env)
      let iv ← holding [v, ov] (eval i X.env)
      standAt pos'
      holding [v, ov, iv] (setItem ov iv v)
      release [v, ov, iv] []) := by intro _; rfl) : PG X (.Subscript (.Name x npos) i pos') (gSub (tVar j) (tA k) rSet) := pg_sub (pe_var hN hv hd hcd) hi (pset_all hu) hsub
theorem set_of {σ : L2.St} {H : Hp} {τ : Ta} {F : List Rt} {j : Nat} {k : AF} {v : V} {t0 t' : T} {p : A × Ta} {kd : PyData} {Q : Hp → Prop} (sl : Sl σ τ) (rs : RS H ((v, t0) :: (slr σ τ ++ F))) (ek : k τ = some p) (ed : (p.1.ag p.2).d = some kd) (es : setG (gT p.2 j) kd t0 = some t') (lv : gT τ j ≠ .gone)
    (q : ∀ H', Sl σ (p.2.set j t') → RS H' (slr σ (p.2.set j t') ++ F) → Q H') : tVar j σ H fun o H1 => tA k σ H1 fun i H2 => rSet o i v H2 Q := by
  obtain ⟨x, hx⟩ := sl.bound lv
  refine ⟨x, hx, τ, (v, t0) :: F, _, _, sl, rs.swap1, ek, fun y H2 sl2 ok2 rs2 => ?_⟩
  have vk := rs2.viewM (has_of (F := (v, t0) :: F) sl2 ok2).mem ed
  refine ⟨_, t0, kd, t', slx σ p.2 j ++ F, ?_, vk, es, fun H' r3 => q H' (sl2.setT ⟨x, hx⟩) (r3.perm ((slr_in sl2 hx).symm.append_right F))⟩
  have r1 : RS H2 (slr σ p.2 ++ ((v, t0) :: F)) := rs2.dropL
  have r2 : RS H2 (((x, gT p.2 j) :: slx σ p.2 j) ++ ((v, t0) :: F)) := r1.perm ((slr_out sl2 hx).append_right _)
  exact r2.perm (.cons _ List.perm_middle)
theorem s_set {j : Nat} {k : AF} {f : VF} (hu : X.A.units + 1 < cLine) (hN : X.N[j]? = some x) (hv : Vis X.env.scope x) (he : PE X value (tE f)) (hi : PE X i (tA k))
    (hd : (x == ("__debug__" : Str)) = false := by decide) (hcd : (x == ("__classdict__" : Str)) = false := by decide)
    (hsub : ∀ v, assign (.Subscript (.Name x npos) i pos') X.env v = (do
      let ov ← holding [v] (eval (.Name x npos) X.env)
      let iv ← holding [v, ov] (eval i X.env)
      standAt pos'
      holding [v, ov, iv] (setItem ov iv v)
      release [v, ov, iv] []) := by intro _; rfl)
    (hs : swapsWithSole [.Subscript (.Name x npos) i pos'] value pos.line X.env = pure false := by rfl) (hw2 : swappedStores [.Subscript (.Name x npos) i pos'] value X.env = pure none := by rfl)
    (h1 : (assignEach [.Subscript (.Name x npos) i pos'] X.env).map (·.2) = [assign (.Subscript (.Name x npos) i pos') X.env] := by rfl) : PS X (.Assign [.Subscript (.Name x npos) i pos'] value pos) (tW W (sSet j k f)) :=
  (ps_asg he (g_set hu hN hv hi hd hcd hsub) hs hw2 h1).wk fun D σ H ⟨τ, F, o, sl, rs, e, q⟩ => by
    obtain ⟨p, ep, e2⟩ := Option.bind_eq_some_iff.mp e
    split at e2
    case isFalse => cases e2
    rename_i lv
    obtain ⟨p2, ep2, e3⟩ := Option.bind_eq_some_iff.mp e2
    obtain ⟨kd, ek, e4⟩ := Option.bind_eq_some_iff.mp e3
    obtain ⟨t', et, e5⟩ := Option.map_eq_some_iff.mp e4
    cases e5
    refine ⟨τ, F, _, _, sl, rs, ep, fun v H' sl' rs' => set_of sl' rs' ep2 ek et (live_ne lv) fun H2 sl2 rs2 => q σ H2 .refl sl2 rs2⟩
end
end SW
end
section
/-! SWx: dict.get, dict displays, two names at once, isinstance of several types. -/
namespace SW
open PySem PySem.Spec PyProof.Rows L2

/-! ### d.get(k, x) -/
def isDT : T → Bool
  | .fz (.dict _) => true
  | .dct _ => true
  | _ => false
/-- what stands at the key, or the default -/
def getD2 (t : T) (k : PyData) (d : Ag) : Option T := match t with
  | .fz (.dict kvs) => if kOk k kvs then (match kFind k kvs with
    | some v => some (.fz v)
    | none => if d.1 || d.2.isFz then some d.2 else none) else none
  | .dct kvs => if kOk k kvs then (match kFind k kvs with
    | some (.fz v) => some (.fz v)
    | some _ => none
    | none => if d.1 || d.2.isFz then some d.2 else none) else none
  | _ => none
def vGet2 (o k d : AF) : VF := fun τ => (o τ).bind fun p => if isDT (p.1.ag p.2).2 then (k p.2).bind fun q => (d q.2).bind fun r => (q.1.ag r.2).d.bind fun kd => (getD2 (p.1.ag r.2).2 kd (r.1.ag r.2)).map fun t => (t, r.2) else none
theorem isDT_of {H : Hp} {v : V} {t : T} {L : List Rt} (h : RS H L) (m : (v, t) ∈ L) (e : isDT t = true) : ∃ a, v = .ref a ∧ IsD H a := by
  unfold isDT at e
  split at e
  · obtain ⟨a, rfl, ⟨qs, _, r, _⟩ | ⟨qs, _, r, _⟩⟩ := (h.viewM m rfl).dct
    · exact ⟨a, rfl, .inl ⟨_, r⟩⟩
    · exact ⟨a, rfl, .inr ⟨_, r⟩⟩
  · obtain ⟨r, p⟩ := mem_perm m
    obtain ⟨a, rfl, ⟨qs, _, r, _⟩ | ⟨qs, _, r, _⟩⟩ := (h.perm p).x.openD
    · exact ⟨a, rfl, .inl ⟨_, .inl r⟩⟩
    · exact ⟨a, rfl, .inr ⟨_, .inl r⟩⟩
  · cases e
/-- the root of what d.get gives -/
theorem get2_ok {H : Hp} {x y z : V} {t c : T} {k : PyData} {d : Ag} {R L oz : List Rt} (h : RS H (oz ++ L)) (m : (x, t) ∈ L) (hR : ∀ r ∈ R, r ∈ L) (hz : Has R z d oz) (hy : View H y k) (e : getD2 t k d = some c) :
    ∃ a o, x = .ref a ∧ DLook H a y o ∧ RS H ((o.getD z, c) :: L) := by
  have dflt : d.1 = true ∨ d.2.isFz = true → RS H ((z, d.2) :: L) := fun hd => by
    rcases hz with ⟨_, rfl⟩ | ⟨hb, rfl, mz⟩
    · exact h
    · rcases hd with hd | hd
      · rw [hb] at hd
        cases hd
      · obtain ⟨r, p⟩ := mem_perm (hR _ mz)
        have h2 : RS H ((z, d.2) :: r) := RS.perm p h
        cases ed : d.2 with
        | fz q =>
          rw [ed] at h2 p
          exact h2.dup.perm (p.symm.cons _)
        | _ =>
          rw [ed] at hd
          cases hd
  have hL : RS H L := h.dropL
  obtain ⟨r0, p0⟩ := mem_perm m
  have hx := hL.perm p0
  unfold getD2 at e
  split at e
  · rename_i kvs
    split at e
    case isFalse => cases e
    rename_i ok
    obtain ⟨a, rfl, sh⟩ : ∃ a, x = .ref a ∧ ∃ ps, DShape H a kvs ps ∧ RS H (ps.map fzr ++ (x, .fz (.dict kvs)) :: r0) := by
      obtain ⟨a, ea, ⟨qs, eq1, r, kk⟩ | ⟨qs, eq1, r, kk⟩⟩ := hx.x.readD
      · exact ⟨a, ea, _, .inl ⟨qs, eq1, rfl, r⟩, kk.s⟩
      · exact ⟨a, ea, _, .inr ⟨qs, eq1, rfl, r⟩, kk.s⟩
    obtain ⟨ps, sh, kk⟩ := sh
    obtain ⟨o, g, sm⟩ := look_of sh ok hy
    split at e
    · rename_i v hv
      cases e
      rw [hv] at sm
      obtain ⟨w, rfl, mw⟩ := sm.some
      obtain ⟨j, hj⟩ := List.mem_iff_getElem?.mp mw
      have k1 := kk.pickAt (j := j) (r := (w, .fz v)) (by rw [List.getElem?_map, hj]; rfl)
      exact ⟨a, _, rfl, g, k1.perm (p0.symm.cons _)⟩
    · rename_i hv
      split at e
      case isFalse => cases e
      rename_i hd
      cases e
      rw [hv] at sm
      have := sm.none
      subst this
      exact ⟨a, none, rfl, g, dflt (by simpa using hd)⟩
  · rename_i kvs
    split at e
    case isFalse => cases e
    rename_i ok
    split at e
    · rename_i v hv
      cases e
      obtain ⟨w, ix, k1⟩ := sub_ok (b := false) (c := .fz v) (t' := .dct kvs) hx hy (by
        unfold subT
        simp only [ok, if_true]
        rw [hv])
      cases ix with
      | dct e1 g => exact ⟨_, _, e1, g, k1.perm (p0.symm.cons _)⟩
      | lst e1 _ r _ =>
        exfalso
        obtain ⟨a, ea, hh⟩ := hx.x.openD
        rw [ea] at e1
        cases e1
        rcases hh with ⟨qs, _, r1, _⟩ | ⟨qs, _, r1, _⟩ <;> (rcases r with r | ⟨o', r⟩ <;> (rw [r1] at r; cases r))
      | tup e1 _ r _ =>
        exfalso
        obtain ⟨a, ea, hh⟩ := hx.x.openD
        rw [ea] at e1
        cases e1
        rcases hh with ⟨qs, _, r1, _⟩ | ⟨qs, _, r1, _⟩ <;> (rcases r with r | ⟨o', r⟩ <;> (rw [r1] at r; cases r))
      | str e1 _ _ _ =>
        exfalso
        obtain ⟨a, ea, hh⟩ := hx.x.openD
        rw [ea] at e1
        cases e1
    · cases e
    · rename_i hv
      split at e
      case isFalse => cases e
      rename_i hd
      cases e
      obtain ⟨a, rfl, hh⟩ := hx.x.openD
      obtain ⟨ps, sh⟩ : ∃ ps, DShape H a kvs ps := by
        rcases hh with ⟨qs, eq1, r, _⟩ | ⟨qs, eq1, r, _⟩
        · exact ⟨_, .inl ⟨qs, eq1, rfl, .inl r⟩⟩
        · exact ⟨_, .inr ⟨qs, eq1, rfl, .inl r⟩⟩
      obtain ⟨o, g, sm⟩ := look_of sh ok hy
      rw [hv] at sm
      have := sm.none
      subst this
      exact ⟨a, none, rfl, g, dflt (by simpa using hd)⟩
  · cases e
section
variable {X : Cx} {o e f : Expr} {apos cpos pos p q q2 : Pos}
theorem pe_get2 {a k d : AF} (hu : X.A.units + 1 < cLine) (ho : PE X o (tA a)) (he : PE X e (tA k)) (hf : PE X f (tA d)) (m : M2 X o "get" apos e f cpos) : PE X (.Call (.Attribute o "get" apos) [e, f] [] cpos) (tE (vGet2 a k d)) := by
  refine ⟨fun pins s σ H Q I h => ?_⟩
  obtain ⟨τ, F, t, τ', sl, rs, e0, q⟩ := h
  obtain ⟨p, ep, e1⟩ := Option.bind_eq_some_iff.mp e0
  split at e1
  case isFalse => cases e1
  rename_i hd
  obtain ⟨p2, ep2, e2⟩ := Option.bind_eq_some_iff.mp e1
  obtain ⟨p3, ep3, e3⟩ := Option.bind_eq_some_iff.mp e2
  obtain ⟨kd, ek, e4⟩ := Option.bind_eq_some_iff.mp e3
  obtain ⟨c, ec, e5⟩ := Option.map_eq_some_iff.mp e4
  cases e5
  refine wpAny_Call_method m.base m.few m.line PySem.F.plainAttrs_dict PySem.F.slot_dict_get PySem.F.type_dict_get (thn (ho.run pins s σ H _ I ⟨τ, F, _, _, sl, rs, ep, fun v H1 sl1 ok1 rs1 => (show (fun v H1 => AgOk σ v p.1 ∧ Sl σ p.2 ∧ RS H1 (agr v p.1 ++ (slr σ p.2 ++ F))) v H1 from ⟨ok1, sl1, rs1⟩)⟩) fun u s1 ⟨x, H1, I1, rx, ok1, sl1, rs1⟩ => ?_)
  obtain ⟨ad, rfl, dd⟩ := isDT_of rs1 (has_of (F := F) sl1 ok1).mem hd
  obtain rfl : u = Value.ref ad := rx
  obtain ⟨t1, t2, _⟩ := isD_at I1 dd
  refine ⟨t1, t2, ?_⟩
  rw [m.trees]
  refine Calls.callWith_builtin rfl (Calls.evalArgs_plain (Calls.spliced_cons (thn (he.run pins s1 σ H1 _ I1 ⟨p.2, agr (V.ref ad) p.1 ++ F, _, _, sl1, rs1.swap, ep2, fun w H2 sl2 ok2 rs2 => (show (fun w H2 => AgOk σ w p2.1 ∧ Sl σ p2.2 ∧ RS H2 (agr w p2.1 ++ (slr σ p2.2 ++ (agr (V.ref ad) p.1 ++ F)))) w H2 from ⟨ok2, sl2, rs2⟩)⟩) fun u2 s2 ⟨y, H2, I2, ry, ok2, sl2, rs2⟩ => ?_)))
  refine Calls.spliced_cons (thn (hf.run pins s2 σ H2 _ I2 ⟨p2.2, agr y p2.1 ++ (agr (V.ref ad) p.1 ++ F), _, _, sl2, rs2.swap, ep3, fun w H3 sl3 ok3 rs3 => (show (fun w H3 => AgOk σ w p3.1 ∧ Sl σ p3.2 ∧ RS H3 (agr w p3.1 ++ (slr σ p3.2 ++ (agr y p2.1 ++ (agr (V.ref ad) p.1 ++ F))))) w H3 from ⟨ok3, sl3, rs3⟩)⟩) fun u3 s3 ⟨z, H3, I3, rz, ok3, sl3, rs3⟩ => Calls.spliced_nil ?_)
  -- the roots at the end
  have hz := has_of (F := agr y p2.1 ++ (agr (V.ref ad) p.1 ++ F)) sl3 ok3
  have mk : (y, (p2.1.ag p3.2).2) ∈ agr z p3.1 ++ (slr σ p3.2 ++ (agr y p2.1 ++ (agr (V.ref ad) p.1 ++ F))) := (has_of (F := F) sl3 ok2).mem2 (fun r mm => List.mem_append_right _ (List.mem_append_right _ (List.mem_append_left _ mm))) (fun r mm => by
    rcases List.mem_append.mp mm with mm | mm
    · exact List.mem_append_right _ (List.mem_append_left _ mm)
    · exact List.mem_append_right _ (List.mem_append_right _ (List.mem_append_right _ (List.mem_append_right _ mm))))
  have md : (V.ref ad, (p.1.ag p3.2).2) ∈ slr σ p3.2 ++ (agr y p2.1 ++ (agr (V.ref ad) p.1 ++ F)) := (has_of (F := F) sl3 ok1).mem2 (fun r mm => List.mem_append_right _ (List.mem_append_right _ (List.mem_append_left _ mm))) (fun r mm => by
    rcases List.mem_append.mp mm with mm | mm
    · exact List.mem_append_left _ mm
    · exact List.mem_append_right _ (List.mem_append_right _ (List.mem_append_right _ mm)))
  obtain ⟨a0, oo, ea, g, rf⟩ := get2_ok rs3 md (fun _ mm => mm) hz (rs3.viewM mk ek) ec
  cases ea
  refine dl_get2 hu I3 g ry rz fun w' s4 I4 rw' => ⟨_, H3, I4, rw', q _ _ sl3 ?_⟩
  have k1 : RS H3 (slr σ p3.2 ++ (agr y p2.1 ++ (agr (V.ref ad) p.1 ++ ((oo.getD z, t) :: F)))) := rf.perm (by
    refine List.Perm.trans ?_ (List.Perm.append_left _ (List.Perm.append_left _ List.perm_middle.symm))
    refine List.Perm.trans ?_ (List.Perm.append_left _ List.perm_middle.symm)
    exact List.perm_middle.symm)
  have k2 := (RS.swap k1).dropL
  have k3 := (RS.swap k2).dropL
  exact k3.perm List.perm_middle

/-! ### {} -/
def vD0 : VF := fun τ => some (.dct [], τ)
theorem pe_d0 : PE X (.Dict [] [] pos) (tE vD0) := pe_dnewK.wk fun σ H Q ⟨τ, F, t, τ', sl, rs, e, q⟩ => by
  cases e
  intro l hn
  exact q _ _ sl ((RSx.newK (qs := []) rs.x hn).s)

/-! ### isinstance(x, (A, B)) -/
def tTys (Ts : List Ty) : TA := fun _ H Q => Q (Ts.map fun t => .ty (tyNm t)) H
theorem pa_tys0 : PA X [] (tTys []) := pa_nil
theorem pa_tys {y : Str} {es : List Expr} {Ts : List Ty} (t : Ty) (hy : Gl X y) (hym : X.mg y = none) (hyv : bootBuiltins y = some (.type (tyNm t))) (hr : PA X es (tTys Ts)) (hn : y ≠ "__name__" := by decide) (hd : (y == ("__debug__" : Str)) = false := by decide)
    (hs : starEach (.Name y q :: es) X.env = (false, eval (.Name y q) X.env) :: starEach es X.env := by rfl) : PA X (.Name y q :: es) (tTys (t :: Ts)) := pa_cons (pe_bltn (v := .ty (tyNm t)) (pos := q) hy hym hyv rfl hn hd) hr hs
theorem pe_isiN {g : AF} {es : List Expr} {x1} {Ts : List Ty} (hg : Gl X "isinstance") (hm : X.mg "isinstance" = none) (hv : bootBuiltins "isinstance" = some (.builtin "isinstance")) (ha : PE X e (tA g)) (ht : PA X es (tTys Ts)) (hl : Ts.length ≤ sizeL)
    (he : starEach [e, .Tuple es x1 q2] X.env = (false, eval e X.env) :: starEach [.Tuple es x1 q2] X.env := by rfl) (he2 : starEach [.Tuple es x1 q2] X.env = (false, eval (.Tuple es x1 q2) X.env) :: starEach [] X.env := by rfl)
    (hpl : (backTo pos (starEach [.Tuple es x1 q2] X.env)).any (·.1) = false := by rfl) : PE X (.Call (.Name "isinstance" p) [e, .Tuple es x1 q2] [] pos) (tE (v1 (isiT Ts) g)) :=
  (pe_callB (pos := pos) (p := p) cr_isDs hg hm hv (pa_cons ha (pa_cons (pe_tup ht) pa_nil he2) he) (by decide) (by decide) he hpl).wk fun σ H Q h => by
    obtain ⟨τ, F, a, τ', sl, rs, e, q⟩ := ta1 h
    refine ⟨τ, F, a, τ', sl, rs, e, fun v H' sl' ok rs' => ?_⟩
    obtain ⟨R, o, g, t', r1, hh, eg, q2⟩ := q v H' sl' ok rs'
    obtain ⟨d, ed, rfl⟩ := Option.map_eq_some_iff.mp eg
    refine ⟨by rw [List.length_map, ← sizeL_eq]; exact hl, fun l hn => ?_⟩
    have r2 : RS (L2.upd H' l (.tup (Ts.map fun t => .ty (tyNm t)))) (o ++ R) := by
      obtain ⟨G, as, S, rr, nd, no, _⟩ := (r1.x).new hn (o := .tup (Ts.map fun t => .ty (tyNm t)))
      exact ⟨G, as, S, rr, (List.nodup_cons.mp nd).2, fun b m => no b (List.mem_cons_of_mem _ m)⟩
    exact ⟨v, d, l, Ts, rfl, r2.viewM hh.mem ed, L2.upd_same, q2 _ _ (r2.dropL.addB _)⟩
end

/-! ### a, b = x, y -/
def sPar (i j : Nat) (f : LF) : BS := fun τ => (f τ).bind fun p => match p.1 with
  | [t, u] => some (.nx ((p.2.set i t).set j u))
  | _ => none
section
variable {X : Cx} {W : List Nat}
theorem s_par {i j : Nat} {x y : Str} {a b : Expr} {f : LF} {px py pt pos : Pos} {kt k2 pt2} (hc : X.calm = true) (hN : X.N.Nodup) (hi : X.N[i]? = some x) (hj : X.N[j]? = some y) (hij : i ≠ j) (hiW : i ∈ W) (hjW : j ∈ W)
    (hx : X.env.scope.names.lookup x = some .local) (hy : X.env.scope.names.lookup y = some .local) (ha : PA X [a, b] (tLs f)) (hw : swappedStores [.Tuple [.Name x px, .Name y py] kt pt] (.Tuple [a, b] k2 pt2) X.env = pure (some [x, y]))
    (hs : swapsWithSole [.Tuple [.Name x px, .Name y py] kt pt] (.Tuple [a, b] k2 pt2) pos.line X.env = pure false := by rfl) : PS X (.Assign [.Tuple [.Name x px, .Name y py] kt pt] (.Tuple [a, b] k2 pt2) pos) (tW W (sPar i j f)) :=
  (ps_par hc hN hi hj hij hx hy ha hw hs).wk fun D σ H ⟨τ, F, o, sl, rs, e, q⟩ => by
    obtain ⟨p, ep, e2⟩ := Option.bind_eq_some_iff.mp e
    refine ⟨τ, F, _, _, sl, rs, ep, fun vs H1 ll sl1 rs1 => ?_⟩
    split at e2
    · rename_i t u hp
      cases e2
      rw [hp] at ll rs1
      obtain ⟨v, w, rfl⟩ : ∃ v w, vs = [v, w] := by
        cases vs with
        | nil => cases ll
        | cons v vs =>
          cases vs with
          | nil => cases ll
          | cons w vs =>
            cases vs with
            | nil => exact ⟨v, w, rfl⟩
            | cons _ _ => cases ll
      have r1 : RS H1 ((v, t) :: (slr σ p.2 ++ ((w, u) :: F))) := rs1.perm (.cons _ List.perm_middle.symm)
      have r2 := RS.bind (i := i) sl1 r1
      have r3 := RS.bind (i := j) (sl1.set (v := v) (t := t)) (r2.perm List.perm_middle)
      exact ⟨v, w, rfl, q _ _ ((AgW.set hiW).trans (AgW.set hjW)) ((sl1.set).set) r3⟩
    · cases e2
end
end SW
end
section
/-! SWy: the values of a dict, its entries told as they are (keys of any make). -/
namespace SWR
open PySem PySem.W PySem.Calls PyProof.Rows PySem.Spec
section
variable {P : Program} {W0 : World} {A : Around} {E : Value → Shared → Prop} {z : Shared} {D J : Addr} {B : Array DictEntry} {c m : Nat}
theorem vals_meets (hD : (D == sysModules) = false) : MeetsIn P W0 (Builtin.«dict.values» ⟨[.ref D], []⟩) (fun _ R t => DT.Raw t.heap D B c ∧
      R (.ok (.ret (.ref t.heap.objs.size))) { t with heap := t.heap.push { cls := .type "dict_values", data := .fields #[.ref D] } }) :=
  .of_wp fun A R t ⟨raw, fin⟩ => by
    refine wpAny_bind ?_
    unfold Builtin.Dict.noArgs
    refine wpAny_bind (wpAny_notOrdered_dict raw.typeIs (wpAny_pure ?_))
    show wpAny _ _ (Builtin.Dict.showsAll D >>= _) _ _ t
    unfold Builtin.Dict.showsAll
    rw [if_neg (by simp [hD])]
    exact wpAny_bind (wpAny_pure (wpAny_bind (wpAny_newObj_type (wpAny_pure ⟨_, rfl, fin⟩))))
theorem vals_iter {V0 : Addr} {Q : Value → Shared → Prop} (view : z.heap.IsValuesView V0 D) (raw : DT.Raw z.heap D B c)
    (fin : Q (.ref z.heap.objs.size) { z with heap := z.heap.push { cls := .type "dict_valueiterator", data := .fields #[.ref D, .int 0 0, .int B.size 0, .int c 0] } }) : wpAny (model P W0) A (pyIter (.ref V0)) Q E z := by
  obtain ⟨o1, g1, c1, d1⟩ := id view
  obtain ⟨o2, g2, x2, d2⟩ := id raw
  refine wpAny_pyIter_slot view.typeIs F.slot_dict_values_iter (wpAny_call_entry F.slot_dict_values_iter view.typeIs F.entry_dict_values_iter ?_ (F.args_dict_values_iter_1 _))
  unfold Builtin.«dict_values.__iter__»
  refine wpAny_bind (wpAny_pure (wpAny_bind ?_))
  unfold Builtin.Dict_items.dictOf
  refine wpAny_bind (wpAny_field g1 d1 (x := .ref D) rfl (wpAny_pure (wpAny_bind ?_)))
  unfold Builtin.Dict_items.newIterator
  refine wpAny_bind (wpAny_dictEntries g2 d2 (wpAny_bind (wpAny_dictEpoch g2 d2 ?_)))
  have own : Builtin.Dict_items.ownsTuple "dict_valueiterator" = false := by decide
  simp only [own, if_false, Bool.false_eq_true]
  refine wpAny_newObj_type (wpAny_pure ⟨_, rfl, "dict_valueiterator", _, ⟨_, Heap.get?_push_size _ rfl, rfl⟩, F.slot_dict_valueiterator_next.lookup, ?_⟩)
  simpa [rawInt] using fin
theorem vals_next {e : DictEntry} {Q : Option Value → Shared → Prop} (it : z.heap.IsValIter J D m B.size c) (raw : DT.Raw z.heap D B c) (he : B[m]? = some e)
    (fin : ∀ h2, h2.IsValIter J D (m + 1) B.size c → Heap.SameBut J z.heap h2 → Q (some e.val) { z with heap := h2 }) : wpAny (model P W0) A (pyNext (.ref J)) Q E z := by
  obtain ⟨o1, g1, c1, d1⟩ := id it
  obtain ⟨o2, g2, x2, d2⟩ := id raw
  unfold pyNext
  refine wpAny_bind (wpAny_attempt (wpAny_callSpecial?_slot (name := Str.ofString "__next__") it.typeIs F.slot_dict_valueiterator_next (wpAny_call_entry F.slot_dict_valueiterator_next it.typeIs F.entry_dict_valueiterator_next ?_ (F.args_dict_valueiterator_next_1 _))))
  refine wpAny_bind (wpAny_pure (wpAny_bind (wpAny_bind ?_)))
  first | refine wpAny_bind (wpAny_typeNameOfWhole_valiter it.typeIs (wpAny_pure ?_)) | refine wpAny_bind (wpAny_typeNameOf_valiter it.typeIs (wpAny_pure ?_))
  refine wpAny_bind (wpAny_fieldsOf g1 d1 ?_)
  have own : Builtin.Dict_items.ownsTuple "dict_valueiterator" = false := by decide
  simp only [own, if_false, Bool.false_eq_true]
  show wpAny _ _ (if (Value.ref D == Value.none) = true then _ else _) _ _ z
  rw [if_neg (show ¬ ((Value.ref D == Value.none) = true) from fun x => nomatch x)]
  refine wpAny_bind (wpAny_pure (wpAny_bind (wpAny_dictEntries g2 d2 ?_)))
  rw [if_neg (by simp)]
  refine wpAny_bind (wpAny_pure (wpAny_bind (wpAny_dictEpoch g2 d2 ?_)))
  rw [if_neg (by simp)]
  refine wpAny_pure ?_
  obtain ⟨hm, em⟩ := Array.getElem?_eq_some_iff.mp he
  simp only [show ¬ ((m : Int) < 0) from by omega, if_false, Int.toNat_natCast, Array.getElem?_eq_getElem hm]
  refine wpAny_bind ?_
  first | refine wpAny_bind (wpAny_typeNameOfWhole_valiter it.typeIs (wpAny_pure ?_)) | refine wpAny_bind (wpAny_typeNameOf_valiter it.typeIs (wpAny_pure ?_))
  refine wpAny_bind (wpAny_isOneOf_valiter it.typeIs ?_)
  show wpAny _ _ (setField (.ref J) 1 (rawInt ((m : Int) + 1)) >>= _) _ _ z
  refine wpAny_bind (wpAny_setField g1 d1 (by simp) ?_)
  have it2 : (z.heap.update J (Obj.mapFields (·.setIfInBounds 1 (rawInt ((m : Int) + 1))))).IsValIter J D (m + 1) B.size c := by
    refine ⟨_, Heap.get?_update_self _ g1 (Obj.isFreed_of_fields (Obj.data_mapFields d1 _)), (Obj.cls_mapFields ..).trans c1, ?_⟩
    rw [Obj.data_mapFields d1]
    simp [rawInt]
  refine wpAny_bind (wpAny_holding (wpAny_bind ?_))
  refine wpAny_isOneOf_valiter (s := { z with heap := z.heap.update J (Obj.mapFields (·.setIfInBounds 1 (rawInt ((m : Int) + 1)))) }) it2.typeIs (wpAny_bind ?_)
  refine wpAny_isOneOf_valiter (s := { z with heap := z.heap.update J (Obj.mapFields (·.setIfInBounds 1 (rawInt ((m : Int) + 1)))) }) it2.typeIs ?_
  show wpAny _ _ (pure B[m].val) _ _ _
  rw [em]
  exact wpAny_pure (wpAny_pure ⟨_, rfl, wpAny_pure (fin _ it2 (Heap.SameBut.update ..))⟩)
theorem vals_end {Q : Option Value → Shared → Prop} (hh : A.handled = none) (it : z.heap.IsValIter J D m B.size c) (raw : DT.Raw z.heap D B c) (hm : B.size ≤ m) (fin : ∀ h2, Heap.ExtBut J z.heap h2 → Q none { z with heap := h2 }) :
    wpAny (model P W0) A (pyNext (.ref J)) Q E z := by
  obtain ⟨o1, g1, c1, d1⟩ := id it
  obtain ⟨o2, g2, x2, d2⟩ := id raw
  unfold pyNext
  refine wpAny_bind (wpAny_attempt (wpAny_callSpecial?_slot (name := Str.ofString "__next__") it.typeIs F.slot_dict_valueiterator_next (wpAny_call_entry F.slot_dict_valueiterator_next it.typeIs F.entry_dict_valueiterator_next ?_ (F.args_dict_valueiterator_next_1 _))))
  refine wpAny_bind (wpAny_pure (wpAny_bind (wpAny_bind ?_)))
  first | refine wpAny_bind (wpAny_typeNameOfWhole_valiter it.typeIs (wpAny_pure ?_)) | refine wpAny_bind (wpAny_typeNameOf_valiter it.typeIs (wpAny_pure ?_))
  refine wpAny_bind (wpAny_fieldsOf g1 d1 ?_)
  have own : Builtin.Dict_items.ownsTuple "dict_valueiterator" = false := by decide
  simp only [own, if_false, Bool.false_eq_true]
  show wpAny _ _ (if (Value.ref D == Value.none) = true then _ else _) _ _ z
  rw [if_neg (show ¬ ((Value.ref D == Value.none) = true) from fun x => nomatch x)]
  refine wpAny_bind (wpAny_pure (wpAny_bind (wpAny_dictEntries g2 d2 ?_)))
  rw [if_neg (by simp)]
  refine wpAny_bind (wpAny_pure (wpAny_bind (wpAny_dictEpoch g2 d2 ?_)))
  rw [if_neg (by simp)]
  refine wpAny_pure ?_
  simp only [show ¬ ((m : Int) < 0) from by omega, if_false, Int.toNat_natCast, Array.getElem?_eq_none hm]
  refine wpAny_bind ?_
  first | refine wpAny_bind (wpAny_typeNameOfWhole_valiter it.typeIs (wpAny_pure ?_)) | refine wpAny_bind (wpAny_typeNameOf_valiter it.typeIs (wpAny_pure ?_))
  show wpAny _ _ (setField (.ref J) 0 .none >>= _) _ _ z
  refine wpAny_bind (wpAny_setField g1 d1 (by simp) ?_)
  show wpAny _ _ (newExc (.type "StopIteration") [] >>= _) _ _ _
  refine wpAny_bind ?_
  simp only [newTuple, newExc]
  refine wpAny_bind (wpAny_newObj_type ?_ (by size_fits))
  refine wpAny_bind (m := firstArgMember _ _) (wpAny_of_eq (a := Value.none) (by first | rfl | (simp only [firstArgMember]; rfl)) (wpAny_newObj_type ?_ (by size_fits)))
  simp only [raiseNew]
  refine wpAny_bind (wpAny_handled ?_)
  rw [show A.in1.handled = none from hh]
  refine wpAny_bind (wpAny_pure (wpAny_throw ?_))
  refine wpAny_bind (wpAny_isInstance (b := true) (T := "StopIteration") ⟨_, Heap.get?_push_size _ rfl, rfl⟩ isSubtype_stop ?_)
  exact wpAny_pure (fin _ (((Heap.SameBut.update ..).extBut.push _).push _))
end
end SWR
end
section
/-! SWz: walks over dicts: keys, values, items. -/
namespace SW
open PySem PySem.Spec PyProof.Rows L2

def uLen : HO → Nat
  | .dK kvs => kvs.length
  | .dT kvs => kvs.length
  | _ => 0
def KeyAt (H : Hp) (u : HO) (i : Nat) (y : V) : Prop := match u with
  | .dK kvs => ∃ k v, kvs[i]? = some (k, v) ∧ y = kV k
  | .dT kvs => ∃ k v q, kvs[i]? = some (k, v) ∧ y = .ref q ∧ H q = some (.tup (k.map kV))
  | _ => False
def ValAt (u : HO) (i : Nat) (x : V) : Prop := match u with
  | .dK kvs => ∃ k, kvs[i]? = some (k, x)
  | .dT kvs => ∃ k, kvs[i]? = some (k, x)
  | _ => False
section
variable {X : Cx} {pins : List (Addr × Obj)} {σ : L2.St} {H : Hp} {s : Shared} {d : Addr} {o : Obj} {u : HO}
/-- a locked dict's entries -/
theorem entU (I : Inv X pins σ H s) (hu : dctO u = true) (h : H d = some (.frz o u)) : (d == sysModules) = false ∧ s.heap.get? d = some o ∧ o.ExactDict ∧ ∃ es ep, o.data = .dict es ep ∧ DT.Raw s.heap d es ep ∧ es.size = uLen u ∧
    ∀ i, i < es.size → ∃ en y v, es[i]? = some en ∧ RelV y en.key ∧ RelV v en.val ∧ KeyAt H u i y ∧ ValAt u i v := by
  cases u with
  | dK kvs =>
    obtain ⟨hs, hgd, hx, es, ep, vs, hdt, hsz, kv, hm⟩ := I.frzK h
    refine ⟨hs, hgd, hx, es, ep, hdt, ⟨o, hgd, hx, hdt⟩, hsz, fun i hi => ?_⟩
    have e1 : kvs[i]? = some kvs[i] := List.getElem?_eq_getElem (by omega)
    obtain ⟨w, hw, rw'⟩ := kv_get (k := kvs[i].1) (v := kvs[i].2) kv (by rw [e1])
    obtain ⟨od, es2, hod, _, hdd, _, hp, _⟩ := id hm
    rw [hgd] at hod
    cases hod
    rw [hdt] at hdd
    cases hdd
    have en : es.toList[i]? = some es[i] := by rw [Array.getElem?_toList, Array.getElem?_eq_getElem hi]
    obtain ⟨k1, k2⟩ := hp.get? (e := es[i]) en hw
    exact ⟨es[i], kV kvs[i].1, kvs[i].2, Array.getElem?_eq_getElem hi, relV_key k1, by rw [k2]; exact rw', ⟨_, _, e1, rfl⟩, ⟨_, e1⟩⟩
  | dT kvs =>
    obtain ⟨hd, z, hs, xs, pr, o', es, ep, ho, hx, hdt, he, _⟩ := I.hok d _ h
    rw [hd] at ho
    cases ho
    have l1 : es.size = xs.length := size_of_entries he
    have l2 : kvs.length = xs.length := Paired.length pr
    refine ⟨hs, hd, hx, es, ep, hdt, ⟨o, hd, hx, hdt⟩, by show es.size = kvs.length; omega, fun i hi => ?_⟩
    have e1 : kvs[i]? = some kvs[i] := List.getElem?_eq_getElem (by omega)
    obtain ⟨b, hb, r1, r2, r3⟩ := paired_get pr e1
    have q := entry_at he i
    rw [hb] at q
    exact ⟨_, .ref b.2.1, kvs[i].2, q, rfl, r3, ⟨_, _, b.2.1, e1, rfl, r2⟩, ⟨_, e1⟩⟩
  | _ => cases hu
end
/-! ### the walks -/
def JK (d : Addr) (o : Obj) (u : HO) : It := ⟨fun i H => H d = some (.frz o u) ∧ i < uLen u, fun i H x H' => H' = H ∧ KeyAt H u i x, fun i H => H d = some (.frz o u) ∧ uLen u ≤ i⟩
def JV (d : Addr) (o : Obj) (u : HO) : It := ⟨fun i H => H d = some (.frz o u) ∧ i < uLen u, fun i H x H' => H' = H ∧ ValAt u i x, fun i H => H d = some (.frz o u) ∧ uLen u ≤ i⟩
def JI (d : Addr) (o : Obj) (u : HO) : It := ⟨fun i H => H d = some (.frz o u) ∧ i < uLen u, fun i H x H' => ∃ T y v, x = .ref T ∧ H T = none ∧ KeyAt H u i y ∧ ValAt u i v ∧ H' = L2.upd H T (.tup [y, v]), fun i H => H d = some (.frz o u) ∧ uLen u ≤ i⟩
section
variable {P : Program} {w : World} {K : PySem.W.Frag} {tg : Expr} {d : Addr} {o : Obj} {u : HO} {es : Array DictEntry} {ep : Nat}
theorem turn_JK (it : Addr) (hu : dctO u = true) (hod : o.data = .dict es ep) : Turn P w K tg (JK d o u) [it] it (fun i h => h.IsKeyIter it d i (uLen u) ep) where
  mem := by simp
  obj := fun i h st b hb => by
    cases (by simpa using hb : b = it)
    obtain ⟨oi, e, c, dd⟩ := st
    exact ⟨oi, e, fun v z => by rw [dd] at z; cases z⟩
  keep := fun i h h' st k => st.at fun oi e => k it (by simp) oi e
  item := by
    intro X hP hw hK hc i pins s σ H E I hf st hg
    subst hP hw hK
    obtain ⟨f0, f1, f2, f3, f4, f5⟩ := hf it (by simp)
    obtain ⟨_, hgd, _, es', ep', hdt, _, hsz, ent⟩ := entU I hu hg.1
    cases hod.symm.trans hdt
    obtain ⟨en, y, v, hen, ry, _, ky, _⟩ := ent i (by rw [hsz]; exact hg.2)
    refine next_key_item st hgd hdt hsz hen fun h' st' sb => ?_
    have J1 : Inv X pins σ H { s with heap := h' } := I.turned (t' := s.toks) (fun b ob hb e => (sb.2 b hb).trans e) f0 f1 f3 f4 f5
    obtain ⟨oi, e, c, dd⟩ := id st'
    exact ⟨en.key, rfl, go_of (s := { s with heap := h' }) e c dd (by decide) ⟨y, H, J1, ry, ⟨rfl, ky⟩, st', fun b hb => (hf b hb).1⟩⟩
  done := by
    intro X hP hw hK hc i pins s σ H E I hf st hg
    subst hP hw hK
    obtain ⟨f0, f1, f2, f3, f4, f5⟩ := hf it (by simp)
    obtain ⟨_, hgd, _, es', ep', hdt, _, hsz, ent⟩ := entU I hu hg.1
    cases hod.symm.trans hdt
    exact next_key_end (I.ok.hd hc) st hgd hdt hsz hg.2 fun h' eb => ⟨rfl, I.turned (t' := s.toks) (fun b ob hb e => eb b ob hb e) f0 f1 f3 f4 f5⟩
  self := fun A i s Q E st h => by
    refine wpAny_pyIter_slot st.typeIs PySem.F.slot_dict_keyiterator_iter (wpAny_call_entry PySem.F.slot_dict_keyiterator_iter st.typeIs PySem.F.entry_dict_keyiterator_iter ?_ (PySem.F.args_dict_keyiterator_iter_1 _))
    show wpAny _ _ (ret (Value.ref it)) _ _ s
    exact wpAny_pure ⟨_, rfl, "dict_keyiterator", _, st.typeIs, PySem.F.slot_dict_keyiterator_next.lookup, h⟩
theorem turn_JV (it : Addr) (hu : dctO u = true) (hod : o.data = .dict es ep) : Turn P w K tg (JV d o u) [it] it (fun i h => h.IsValIter it d i (uLen u) ep) where
  mem := by simp
  obj := fun i h st b hb => by
    cases (by simpa using hb : b = it)
    obtain ⟨oi, e, c, dd⟩ := st
    exact ⟨oi, e, fun v z => by rw [dd] at z; cases z⟩
  keep := fun i h h' st k => st.at fun oi e => k it (by simp) oi e
  item := by
    intro X hP hw hK hc i pins s σ H E I hf st hg
    subst hP hw hK
    obtain ⟨f0, f1, f2, f3, f4, f5⟩ := hf it (by simp)
    obtain ⟨_, hgd, _, es', ep', hdt, raw, hsz, ent⟩ := entU I hu hg.1
    cases hod.symm.trans hdt
    obtain ⟨en, y, v, hen, _, rv, _, vv⟩ := ent i (by rw [hsz]; exact hg.2)
    rw [← hsz] at st
    refine SWR.vals_next st raw hen fun h' st' sb => ?_
    have J1 : Inv X pins σ H { s with heap := h' } := I.turned (t' := s.toks) (fun b ob hb e => (sb.2 b hb).trans e) f0 f1 f3 f4 f5
    obtain ⟨oi, e, c, dd⟩ := id st'
    refine ⟨en.val, rfl, go_of (s := { s with heap := h' }) e c dd (by decide) ⟨v, H, J1, rv, ⟨rfl, vv⟩, ?_, fun b hb => (hf b hb).1⟩⟩
    rw [← hsz]
    exact st'
  done := by
    intro X hP hw hK hc i pins s σ H E I hf st hg
    subst hP hw hK
    obtain ⟨f0, f1, f2, f3, f4, f5⟩ := hf it (by simp)
    obtain ⟨_, hgd, _, es', ep', hdt, raw, hsz, ent⟩ := entU I hu hg.1
    cases hod.symm.trans hdt
    rw [← hsz] at st
    exact SWR.vals_end (I.ok.hd hc) st raw (by rw [hsz]; exact hg.2) fun h' eb => ⟨rfl, I.turned (t' := s.toks) (fun b ob hb e => eb b ob hb e) f0 f1 f3 f4 f5⟩
  self := fun A i s Q E st h => wpAny_pyIter_valiter st h
theorem turn_JI {elts : List Expr} {kk : Nat} {tpos : Pos} (it : Addr) (hu : dctO u = true) (hod : o.data = .dict es ep) :
    Turn P w K (.Tuple elts kk tpos) (JI d o u) [it] it (fun i h => ∃ ok ov, IsItemIter h it d i (uLen u) ep ok ov) where
  mem := by simp
  obj := fun i h st b hb => by
    cases (by simpa using hb : b = it)
    obtain ⟨ok, ov, e⟩ := st
    exact ⟨_, e, fun v z => nomatch z⟩
  keep := fun i h h' st k => let ⟨ok, ov, e⟩ := st; ⟨ok, ov, k it (by simp) _ e⟩
  item := by
    intro X hP hw hK hc i pins s σ H E I hf st hg
    subst hP hw hK
    obtain ⟨_, hgd, _, es', ep', hdt, raw, hsz, ent⟩ := entU I hu hg.1
    cases hod.symm.trans hdt
    have hi : i < es.size := by rw [hsz]; exact hg.2
    obtain ⟨en, y, v, hen, ry, rv, ky, vv⟩ := ent i hi
    have een : es[i] = en := by
      rw [Array.getElem?_eq_getElem hi] at hen
      exact Option.some.inj hen
    obtain ⟨ok, ov, st⟩ := st
    rw [← hsz] at st
    have hlt : it < s.heap.objs.size := Heap.lt_size st
    refine DT.nextI st raw hi fun h' ho hT hz hk => ?_
    refine ⟨_, rfl, wpAny_letOwnedTupleGo_items (s := { s with heap := h' }) ho fun h'' he' sb => ?_⟩
    rw [een] at hT he'
    have hT2 : h''.get? s.heap.objs.size = some { cls := .type "tuple", data := .seq #[en.key, en.val] } := (sb.2 _ (Nat.ne_of_gt hlt)).trans hT
    have new : ObjOk X.prog X.w (L2.upd H s.heap.objs.size (.tup [y, v])) h'' s.heap.objs.size (.tup [y, v]) :=
      ⟨by show 2 ≤ sizeLine; decide, [en.key, en.val], .cons ry (.cons rv .nil), ⟨_, hT2, rfl, _, rfl⟩⟩
    have J1 : Inv X pins σ (L2.upd H s.heap.objs.size (.tup [y, v])) { s with heap := h'' } :=
      I.turnedNew (ch := [it]) (t' := s.toks) (fun b ob hb e => (sb.2 b (by simpa using hb)).trans (hk b ob (by simpa using hb) e)) hf (Nat.le_refl _) new
    refine ⟨.ref s.heap.objs.size, _, J1, rfl, ⟨_, y, v, rfl, I.hok.fresh (Nat.le_refl _), ky, vv, rfl⟩, ⟨en.key, en.val, ?_⟩, fun b hb => ?_⟩
    · rw [← hsz]
      exact he'
    · cases (by simpa using hb : b = it)
      rw [L2.upd_ne (Nat.ne_of_lt hlt)]
      exact (hf it (by simp)).1
  done := by
    intro X hP hw hK hc i pins s σ H E I hf st hg
    subst hP hw hK
    obtain ⟨f0, f1, f2, f3, f4, f5⟩ := hf it (by simp)
    obtain ⟨_, hgd, _, es', ep', hdt, raw, hsz, ent⟩ := entU I hu hg.1
    cases hod.symm.trans hdt
    obtain ⟨ok, ov, st⟩ := st
    rw [← hsz] at st
    exact DT.endI (I.ok.hd hc) st raw (by rw [hsz]; exact hg.2) fun h' eb => ⟨rfl, I.turned (t' := s.toks) (fun b ob hb e => eb b ob hb e) f0 f1 f3 f4 f5⟩
  self := fun A i s Q E st h => let ⟨_, _, e⟩ := st; PySem.W.kcp_self e h
end
end SW
end
section
/-! SXa: dicts are locked to be walked. -/
namespace SW
open PySem PySem.Spec PyProof.Rows L2

/-- the dict's object and its items -/
def DU (u : HO) (kvs : List (PyData × PyData)) (its : List (V × PyData)) : Prop :=
  (∃ qs : List (Key × V × PyData), qs.map (fun q => (kD q.1, q.2.2)) = kvs ∧ u = .dK (qs.map fun q => (q.1, q.2.1)) ∧ its = qs.map (·.2)) ∨
    ∃ qs : List (List Key × V × PyData), qs.map (fun q => (tD q.1, q.2.2)) = kvs ∧ u = .dT (qs.map fun q => (q.1, q.2.1)) ∧ its = qs.map (·.2)
theorem DU.dct {u : HO} {kvs : List (PyData × PyData)} {its : List (V × PyData)} (h : DU u kvs its) : dctO u = true := by
  rcases h with ⟨_, _, rfl, _⟩ | ⟨_, _, rfl, _⟩ <;> rfl
theorem DU.len {u : HO} {kvs : List (PyData × PyData)} {its : List (V × PyData)} (h : DU u kvs its) : uLen u = kvs.length ∧ its.length = kvs.length := by
  rcases h with ⟨qs, rfl, rfl, rfl⟩ | ⟨qs, rfl, rfl, rfl⟩ <;> simp [uLen]
theorem RS.lockD {H : Hp} {v : V} {kvs : List (PyData × PyData)} {R : List Rt} (h : RS H ((v, .fz (.dict kvs)) :: R)) : ∃ d u its, v = .ref d ∧ DU u kvs its ∧
    ((∃ o, H d = some (.frz o u) ∧ RS H ((.ref d, .lck o u) :: (its.map fzr ++ R))) ∨ (H d = some u ∧ ∀ od, RS (L2.upd H d (.frz od u)) ((.ref d, .lck od u) :: (its.map fzr ++ R)))) := by
  obtain ⟨G, cs, s, r, nd, no⟩ := h
  have main : ∀ {d : Addr} {u : HO} {its : List (V × PyData)} {bs : List Addr}, G d = some u → dctO u = true → RpP G its → RP G H R bs → bs.Nodup → (∀ a ∈ bs, G a = none) →
      ((∃ o, H d = some (.frz o u) ∧ RS H ((.ref d, .lck o u) :: (its.map fzr ++ R))) ∨ (H d = some u ∧ ∀ od, RS (L2.upd H d (.frz od u)) ((.ref d, .lck od u) :: (its.map fzr ++ R)))) := fun {d u its bs} gd du k r nd no => by
    have rr := (s _ _ gd).1
    rcases rr with e | ⟨o, e⟩
    · refine .inr ⟨e, fun od => ?_⟩
      have ne : ∀ {b : Addr} {w : HO}, H b = some w → w ≠ u → b ≠ d := fun {b w} eb hw z => by
        subst z
        rw [e] at eb
        exact hw (Option.some.inj eb).symm
      refine ⟨G, [] ++ bs, fun a w ea => ?_, .cons (.lck gd L2.upd_same) ((RP.fzs k).append (r.frame (Ext.refl _) (fun a vs ea => ?_) (fun a o' w ea => ?_) fun a m => ?_)), nd, no⟩
      · by_cases hd : a = d
        · subst hd
          rw [gd] at ea
          cases ea
          refine ⟨.inr ⟨od, L2.upd_same⟩, (s _ _ gd).2.1, fun z => ?_⟩
          rw [du] at z
          cases z
        · obtain ⟨x1, x2, x3⟩ := s a w ea
          refine ⟨?_, x2, fun z => by rw [L2.upd_ne hd]; exact x3 z⟩
          rcases x1 with x1 | ⟨o', x1⟩
          · exact .inl (by rw [L2.upd_ne hd]; exact x1)
          · exact .inr ⟨o', by rw [L2.upd_ne hd]; exact x1⟩
      · rw [L2.upd_ne (ne ea (fun z => by subst z; cases du))]
        exact ea
      · rw [L2.upd_ne (ne ea (fun z => by subst z; cases du))]
        exact ea
      · have : a ≠ d := fun z => by
          subst z
          rw [no a m] at gd
          cases gd
        exact L2.upd_ne this
    · exact .inl ⟨o, e, G, [] ++ bs, s, .cons (.lck gd e) ((RP.fzs k).append r), nd, no⟩
  cases r with
  | cons h r =>
    generalize et : T.fz (.dict kvs) = t at h
    cases h with
    | fz h =>
      cases et
      generalize ed : PyData.dict kvs = dd at h
      cases h with
      | dK e k =>
        cases ed
        exact ⟨_, _, _, rfl, .inl ⟨_, rfl, rfl, rfl⟩, main e rfl k r nd no⟩
      | dT e k =>
        cases ed
        exact ⟨_, _, _, rfl, .inr ⟨_, rfl, rfl, rfl⟩, main e rfl k r nd no⟩
      | _ => cases ed
    | _ => cases et
theorem RS.lckA {H : Hp} {d : Addr} {o : Obj} {u : HO} {R : List Rt} (h : RS H ((.ref d, .lck o u) :: R)) : H d = some (.frz o u) := by
  obtain ⟨G, cs, s, r, nd, no⟩ := h
  cases r with
  | cons h r =>
    generalize et : T.lck o u = t at h
    cases h with
    | lck e1 e2 =>
      cases et
      exact e2
    | _ => cases et
/-- a tuple of numbers and texts that stands in the heap is a root -/
theorem RS.addKT {H : Hp} {q : Addr} {ks : List Key} {R : List Rt} (h : RS H R) (e : H q = some (.tup (ks.map kV))) : RS H ((.ref q, .fz (tD ks)) :: R) := by
  obtain ⟨G, as, s, r, nd, no⟩ := h
  have own := r.own
  refine ⟨fzG G H [], as, fzG_sub s (fun a m => nomatch m), .cons (as := []) (.fz ?_) (r.frame fzG_ext (fun _ _ e => e) (fun _ _ _ e => e) fun _ _ => rfl), nd, fun a m => fzG_out (no a m) (fun z => nomatch z) (own a m)⟩
  have g : fzG G H [] q = some (.tup (ks.map kV)) := fzG_tup s e
  have keys : ∀ l : List Key, RpP (fzG G H []) (l.map fun k => (kV k, kD k)) := fun l => by
    induction l with
    | nil => exact .nil
    | cons k l ih =>
      refine .cons ?_ ih
      cases k with
      | inl i => exact .int i
      | inr x => exact .str x
  have k2 := Rp.tup (G := fzG G H []) (a := q) (ps := ks.map fun k => (kV k, kD k)) (by rw [g, List.map_map]; rfl) (keys ks)
  have e2 : (ks.map fun k => (kV k, kD k)).map (·.2) = ks.map kD := by rw [List.map_map]; rfl
  rw [e2] at k2
  exact k2
theorem RS.addKey {H : Hp} {u : HO} {kvs : List (PyData × PyData)} {its : List (V × PyData)} {i : Nat} {y : V} {R : List Rt} (h : RS H R) (du : DU u kvs its) (k : KeyAt H u i y) {p : PyData × PyData} (hp : kvs[i]? = some p) : RS H ((y, .fz p.1) :: R) := by
  rcases du with ⟨qs, rfl, rfl, rfl⟩ | ⟨qs, rfl, rfl, rfl⟩
  · obtain ⟨kk, v, e, rfl⟩ := k
    rw [List.getElem?_map] at e hp
    obtain ⟨q, e1, e2⟩ := Option.map_eq_some_iff.mp e
    rw [e1] at hp
    cases hp
    cases e2
    refine h.add fun G => .fz ?_
    show Rp G (kV q.1) (kD q.1)
    generalize q.1 = z
    cases z with
    | inl i => exact .int i
    | inr x => exact .str x
  · obtain ⟨kk, v, b, e, rfl, hb⟩ := k
    rw [List.getElem?_map] at e hp
    obtain ⟨q, e1, e2⟩ := Option.map_eq_some_iff.mp e
    rw [e1] at hp
    cases hp
    cases e2
    exact h.addKT hb
theorem val_at {u : HO} {kvs : List (PyData × PyData)} {its : List (V × PyData)} {i : Nat} {x : V} (du : DU u kvs its) (k : ValAt u i x) {p : PyData × PyData} (hp : kvs[i]? = some p) : its[i]? = some (x, p.2) := by
  rcases du with ⟨qs, rfl, rfl, rfl⟩ | ⟨qs, rfl, rfl, rfl⟩
  all_goals
    obtain ⟨kk, e⟩ := k
    rw [List.getElem?_map] at e hp
    obtain ⟨q, e1, e2⟩ := Option.map_eq_some_iff.mp e
    rw [e1] at hp
    cases hp
    cases e2
    rw [List.getElem?_map, e1]
    rfl

/-! ### cursors -/
def PD (d : Addr) (o : Obj) (u : HO) (its : List (V × PyData)) (i : Nat) : List Rt := (.ref d, .lck o u) :: (its.drop i).map fzr
theorem cur_JK {d : Addr} {o : Obj} {u : HO} {kvs : List (PyData × PyData)} {its : List (V × PyData)} (du : DU u kvs its) : Cur (JK d o u) (kvs.map fun p => .fz p.1) (fun _ => [(.ref d, .lck o u)]) := by
  obtain ⟨l1, l2⟩ := du.len
  refine ⟨fun i H R hi h => ⟨RS.lckA h, by rw [l1]; simpa using hi⟩, fun H R h => ⟨RS.lckA h, by rw [l1]; simp⟩, fun i H x H' R t ht h y => ?_⟩
  obtain ⟨rfl, ky⟩ := y
  rw [List.getElem?_map] at ht
  obtain ⟨p, e1, rfl⟩ := Option.map_eq_some_iff.mp ht
  exact RS.addKey h du ky e1
theorem PD.step {d : Addr} {o : Obj} {u : HO} {kvs : List (PyData × PyData)} {its : List (V × PyData)} {i : Nat} {H : Hp} {R : List Rt} {x : V} {p : PyData × PyData} (du : DU u kvs its) (hp : kvs[i]? = some p) (hv : ValAt u i x) (h : RS H (PD d o u its i ++ R)) : RS H ((x, .fz p.2) :: (PD d o u its (i + 1) ++ R)) := by
  have e := val_at du hv hp
  have hi := (List.getElem?_eq_some_iff.mp e).1
  have ei := (List.getElem?_eq_some_iff.mp e).2
  unfold PD at h ⊢
  rw [List.drop_eq_getElem_cons hi, ei] at h
  exact h.perm (.swap _ _ _)
theorem cur_JV {d : Addr} {o : Obj} {u : HO} {kvs : List (PyData × PyData)} {its : List (V × PyData)} (du : DU u kvs its) : Cur (JV d o u) (kvs.map fun p => .fz p.2) (PD d o u its) := by
  obtain ⟨l1, l2⟩ := du.len
  refine ⟨fun i H R hi h => ⟨RS.lckA h, by rw [l1]; simpa using hi⟩, fun H R h => ⟨RS.lckA h, by rw [l1]; simp⟩, fun i H x H' R t ht h y => ?_⟩
  obtain ⟨rfl, vv⟩ := y
  rw [List.getElem?_map] at ht
  obtain ⟨p, e1, rfl⟩ := Option.map_eq_some_iff.mp ht
  exact PD.step du e1 vv h
theorem cur_JI {d : Addr} {o : Obj} {u : HO} {kvs : List (PyData × PyData)} {its : List (V × PyData)} (du : DU u kvs its) : Cur (JI d o u) (kvs.map fun p => .fz (.tuple [p.1, p.2])) (PD d o u its) := by
  obtain ⟨l1, l2⟩ := du.len
  refine ⟨fun i H R hi h => ⟨RS.lckA h, by rw [l1]; simpa using hi⟩, fun H R h => ⟨RS.lckA h, by rw [l1]; simp⟩, fun i H x H' R t ht h y => ?_⟩
  obtain ⟨T0, y0, v0, rfl, hn, ky, vv, rfl⟩ := y
  rw [List.getElem?_map] at ht
  obtain ⟨p, e1, rfl⟩ := Option.map_eq_some_iff.mp ht
  exact pairT (t := .fz p.1) (u := .fz p.2) hn (RS.addKey (PD.step du e1 vv h) du ky e1)

/-! ### the rules -/
def dKvs (t : T) : Option (List (PyData × PyData)) := t.toD.bind fun d => match d with
  | .dict kvs => some kvs
  | _ => none
def lKeys (v : VF) : LF := fun τ => (v τ).bind fun p => (dKvs p.1).map fun kvs => (kvs.map fun q => .fz q.1, p.2)
def lVals (v : VF) : LF := fun τ => (v τ).bind fun p => (dKvs p.1).map fun kvs => (kvs.map fun q => .fz q.2, p.2)
def lItms (v : VF) : LF := fun τ => (v τ).bind fun p => (dKvs p.1).map fun kvs => (kvs.map fun q => .fz (.tuple [q.1, q.2]), p.2)
/-- the dict that comes is locked -/
def tLk (f : VF) : TE := fun σ H Q => ∃ τ F t τ' kvs, Sl σ τ ∧ RS H (slr σ τ ++ F) ∧ f τ = some (t, τ') ∧ dKvs t = some kvs ∧ ∀ d o u its H', DU u kvs its → Sl σ τ' → RS H' ((.ref d, .lck o u) :: (its.map fzr ++ (slr σ τ' ++ F))) → Q (.ref d) H'
section
variable {X : Cx} {tg e : Expr} {apos cpos : Pos}
theorem pe_lk {f : VF} (h : PE X e (tE f)) : PE X e (tLk f) := by
  refine ⟨fun pins s σ H Q I hq => ?_⟩
  obtain ⟨τ, F, t, τ', kvs, sl, rs, e1, ek, q⟩ := hq
  refine thn (h.run pins s σ H (fun v H' => Sl σ τ' ∧ RS H' ((v, t) :: (slr σ τ' ++ F))) I ⟨τ, F, t, τ', sl, rs, e1, fun v H' sl' rs' => ⟨sl', rs'⟩⟩) fun u s1 ⟨v, H1, I1, rv, sl1, rs1⟩ => ?_
  have ed : t.toD = some (.dict kvs) := by
    unfold dKvs at ek
    obtain ⟨d, e1, e2⟩ := Option.bind_eq_some_iff.mp ek
    split at e2
    · cases e2
      exact e1
    · cases e2
  obtain ⟨d, u0, its, rfl, du, ⟨o, eo, k⟩ | ⟨eo, k⟩⟩ := (rs1.freeze ed).lockD
  · exact ⟨_, H1, I1, rv, q d o u0 its H1 du sl1 k⟩
  · obtain ⟨od, I2⟩ := I1.lock eo (by
      rcases du with ⟨_, _, rfl, _⟩ | ⟨_, _, rfl, _⟩ <;> trivial)
    exact ⟨_, _, I2, rv, q d od u0 its _ du sl1 (k od)⟩
theorem pi_dk {f : VF} (h : PE X e (tE f)) : PI X tg e (tIt (lKeys f)) := by
  refine ⟨fun pins s σ H R I q => ?_⟩
  obtain ⟨τ, F, ts, τ', sl, rs, e0, q⟩ := q
  obtain ⟨p, ep, e1⟩ := Option.bind_eq_some_iff.mp e0
  obtain ⟨kvs, ek, e2⟩ := Option.map_eq_some_iff.mp e1
  cases e2
  refine thn ((pe_lk h).run pins s σ H (fun x H1 => ∃ d o u its, x = .ref d ∧ DU u kvs its ∧ H1 d = some (.frz o u) ∧ R (JK d o u) H1) I ⟨τ, F, _, _, kvs, sl, rs, ep, ek, fun d o u its H' du sl' k => ?_⟩) fun xv s1 ⟨x, H1, I1, rx, d, o, u, its, ex, du, hd, r⟩ => ?_
  · refine ⟨d, o, u, its, rfl, du, k.lckA, q _ _ H' (cur_JK du) sl' ?_⟩
    have k2 : RS H' (its.map fzr ++ ((V.ref d, T.lck o u) :: (slr σ p.2 ++ F))) := k.perm List.perm_middle.symm
    exact k2.dropL
  · subst ex
    obtain rfl : xv = Value.ref d := rx
    obtain ⟨hs, hgd, hx, es, ep', hdt, raw, hsz, ent⟩ := entU I1 du.dct hd
    refine iter_keys hs hgd hx hdt (pi_one (tk := s1.toks) I1 _ (turn_JK _ du.dct hdt) ⟨_, Heap.get?_push_size _ rfl, rfl, ?_⟩ r)
    rw [← hsz]
    rfl
theorem pi_dv {f : VF} (h : PE X e (tE f)) (hbase : attributeBase e "values" X.env (eval e X.env) = eval e X.env := by rfl) (hline : (apos.endLine == cpos.line) = true := by rfl) : PI X tg (.Call (.Attribute e "values" apos) [] [] cpos) (tIt (lVals f)) := by
  refine ⟨fun pins s σ H R I q => ?_⟩
  obtain ⟨τ, F, ts, τ', sl, rs, e0, q⟩ := q
  obtain ⟨p, ep, e1⟩ := Option.bind_eq_some_iff.mp e0
  obtain ⟨kvs, ek, e2⟩ := Option.map_eq_some_iff.mp e1
  cases e2
  refine wpAny_Call_method (T := "dict") (id := "dict.values") hbase rfl hline PySem.F.plainAttrs_dict PySem.F.slot_dict_values PySem.F.type_dict_values
    (thn ((pe_lk h).run pins s σ H (fun x H1 => ∃ d o u its, x = .ref d ∧ DU u kvs its ∧ H1 d = some (.frz o u) ∧ R (JV d o u) H1) I ⟨τ, F, _, _, kvs, sl, rs, ep, ek, fun d o u its H' du sl' k => ?_⟩) fun xv s1 ⟨x, H1, I1, rx, d, o, u, its, ex, du, hd, r⟩ => ?_)
  · refine ⟨d, o, u, its, rfl, du, k.lckA, q _ _ H' (cur_JV du) sl' ?_⟩
    unfold PD
    exact k
  · subst ex
    obtain rfl : xv = Value.ref d := rx
    obtain ⟨hs, hgd, hx, es, ep', hdt, raw, hsz, ent⟩ := entU I1 du.dct hd
    refine ⟨raw.typeIs, fun b eb => ?_, ?_⟩
    · cases eb
      exact ⟨o, hgd, hx.2.1⟩
    have I2 : Inv X pins σ H1 { s1 with heap := s1.heap.push { cls := .type "dict_values", data := .fields #[.ref d] } } := I1.kept (t' := s1.toks) fun b ob q => Heap.get?_push_of_some _ q
    have fin : wpAny (model X.prog X.w) X.A (pyIter (.ref s1.heap.objs.size)) (PIE X pins σ tg R) X.xe { s1 with heap := s1.heap.push { cls := .type "dict_values", data := .fields #[.ref d] } } := by
      refine SWR.vals_iter ⟨_, Heap.get?_push_size _ rfl, rfl, rfl⟩ (raw.push _) (pi_one (tk := s1.toks) I2 _ (turn_JV _ du.dct hdt) ⟨_, Heap.get?_push_size _ rfl, rfl, ?_⟩ r)
      rw [← hsz]
      rfl
    show wpAny _ _ (callWith cpos (.builtin "dict.values") [Value.ref d] [] []) _ X.xe s1
    exact method_meetsIn PySem.F.slot_dict_values PySem.F.entry_dict_values rfl (PySem.evalArgs_none ⟨rfl, raw.typeIs, PySem.F.args_dict_values_1 _, _, SWR.vals_meets hs, raw, fin⟩)
theorem pi_di {elts : List Expr} {kk : Nat} {tpos : Pos} {f : VF} (h : PE X e (tE f)) (hbase : attributeBase e "items" X.env (eval e X.env) = eval e X.env := by rfl) (hline : (apos.endLine == cpos.line) = true := by rfl) :
    PI X (.Tuple elts kk tpos) (.Call (.Attribute e "items" apos) [] [] cpos) (tIt (lItms f)) := by
  refine ⟨fun pins s σ H R I q => ?_⟩
  obtain ⟨τ, F, ts, τ', sl, rs, e0, q⟩ := q
  obtain ⟨p, ep, e1⟩ := Option.bind_eq_some_iff.mp e0
  obtain ⟨kvs, ek, e2⟩ := Option.map_eq_some_iff.mp e1
  cases e2
  refine wpAny_Call_method (T := "dict") (id := "dict.items") hbase rfl hline PySem.F.plainAttrs_dict PySem.F.slot_dict_items PySem.F.type_dict_items
    (thn ((pe_lk h).run pins s σ H (fun x H1 => ∃ d o u its, x = .ref d ∧ DU u kvs its ∧ H1 d = some (.frz o u) ∧ R (JI d o u) H1) I ⟨τ, F, _, _, kvs, sl, rs, ep, ek, fun d o u its H' du sl' k => ?_⟩) fun xv s1 ⟨x, H1, I1, rx, d, o, u, its, ex, du, hd, r⟩ => ?_)
  · refine ⟨d, o, u, its, rfl, du, k.lckA, q _ _ H' (cur_JI du) sl' ?_⟩
    unfold PD
    exact k
  · subst ex
    obtain rfl : xv = Value.ref d := rx
    obtain ⟨hs, hgd, hx, es, ep', hdt, raw, hsz, ent⟩ := entU I1 du.dct hd
    refine ⟨raw.typeIs, fun b eb => ?_, ?_⟩
    · cases eb
      exact ⟨o, hgd, hx.2.1⟩
    have I2 : Inv X pins σ H1 { s1 with heap := s1.heap.push { cls := .type "dict_items", data := .fields #[.ref d] } } := I1.kept (t' := s1.toks) fun b ob q => Heap.get?_push_of_some _ q
    have fin : wpAny (model X.prog X.w) X.A (pyIter (.ref s1.heap.objs.size)) (PIE X pins σ (.Tuple elts kk tpos) R) X.xe { s1 with heap := s1.heap.push { cls := .type "dict_items", data := .fields #[.ref d] } } := by
      refine DT.iterI ⟨_, Heap.get?_push_size _ rfl, rfl, rfl⟩ (raw.push _) (pi_one (tk := s1.toks) I2 _ (turn_JI _ du.dct hdt) ⟨.none, .none, ?_⟩ r)
      rw [← hsz]
      exact Heap.get?_push_size _ rfl
    show wpAny _ _ (callWith cpos (.builtin "dict.items") [Value.ref d] [] []) _ X.xe s1
    exact method_meetsIn PySem.F.slot_dict_items PySem.F.entry_dict_items rfl (PySem.evalArgs_none ⟨rfl, raw.typeIs, PySem.F.args_dict_items_1 _, _, DT.meetsItems (es := es) (ep := ep') hs, raw, fin⟩)
end
end SW
end
section
/-! SXb: a pure expression reads owned lists as frozen ones and gives them back. -/
namespace SW
open PySem PySem.Spec PyProof.Rows L2

mutual
/-- no dict, nothing lent: only frozen data, lists, tuples -/
def T.calm : T → Bool
  | .fz _ => true
  | .lst ts => calms ts
  | .tup ts => calms ts
  | _ => false
def calms : List T → Bool
  | [] => true
  | t :: ts => t.calm && calms ts
end
def T.vw (t : T) : T := if t.calm then match t.toD with
  | some d => .fz d
  | none => .gone else .gone
/-- an owned list stands exactly -/
def LstAt (H : Hp) (as : List Addr) : Prop := ∀ a ∈ as, ∃ vs, H a = some (.lst vs)
mutual
theorem RT.calmL {G H : Hp} : ∀ {v : V} {t : T} {as : List Addr}, RT G H v t as → t.calm = true → LstAt H as
  | _, _, _, .fz _, _ => fun _ m => nomatch m
  | _, _, _, .gone, c => by cases c
  | _, _, _, .pin _, c => by cases c
  | _, _, _, .pinT _, c => by cases c
  | _, _, _, .lck _ _, c => by cases c
  | _, _, _, .scr _, c => by cases c
  | _, _, _, .box _ _, c => by cases c
  | _, _, _, .world _ _ _ _ _, c => by cases c
  | _, _, _, .dK _ _, c => by simp [T.calm] at c
  | _, _, _, .dT _ _, c => by simp [T.calm] at c
  | _, _, _, .lst e h, c => fun a m => by
    rcases List.mem_cons.mp m with rfl | m
    · exact ⟨_, e⟩
    · exact RP.calmL h (by simpa [T.calm] using c) a m
  | _, _, _, .tup e h, c => RP.calmL h (by simpa [T.calm] using c)
theorem RP.calmL {G H : Hp} : ∀ {ps : List (V × T)} {as : List Addr}, RP G H ps as → calms (ps.map (·.2)) = true → LstAt H as
  | _, _, .nil, _ => fun _ m => nomatch m
  | _, _, .cons h r, c => fun a m => by
    simp only [List.map_cons, calms, Bool.and_eq_true] at c
    rcases List.mem_append.mp m with m | m
    · exact RT.calmL h c.1 a m
    · exact RP.calmL r c.2 a m
end
/-- the roots part into what is calm (to be viewed) and the rest -/
theorem RP.part {G H : Hp} : ∀ {R : List Rt} {as : List Addr}, RP G H R as → ∃ bs cs, as.Perm (bs ++ cs) ∧ LstAt H bs ∧
    ∀ G1, Ext G G1 → (∀ a vs, H a = some (.tup vs) → G1 a = some (.tup vs)) → (∀ a ∈ bs, G1 a = H a) → RP G1 H (R.map fun p => (p.1, p.2.vw)) []
  | [], _, .nil => ⟨[], [], .refl _, fun _ m => (nomatch m), fun _ _ _ _ => .nil⟩
  | (v, t) :: R, _, .cons (as := a1) h r => by
    obtain ⟨bs, cs, p, l, k⟩ := RP.part r
    by_cases hc : t.calm = true ∧ ∃ d, t.toD = some d
    · obtain ⟨c, d, ed⟩ := hc
      refine ⟨a1 ++ bs, cs, by rw [List.append_assoc]; exact p.append_left _, fun a m => ?_, fun G1 x ht he => ?_⟩
      · rcases List.mem_append.mp m with m | m
        · exact h.calmL c a m
        · exact l a m
      · refine .cons (as := []) ?_ (k G1 x ht fun a m => he a (List.mem_append_right _ m))
        have : t.vw = .fz d := by
          unfold T.vw
          rw [if_pos c, ed]
        show RT G1 H v t.vw []
        rw [this]
        exact .fz (h.froze x ht (fun a m => he a (List.mem_append_left _ m)) ed)
    · refine ⟨bs, a1 ++ cs, ?_, l, fun G1 x ht he => ?_⟩
      · have := p.append_left a1
        refine this.trans ?_
        rw [← List.append_assoc, ← List.append_assoc]
        exact List.perm_append_comm.append_right _
      · refine .cons (as := []) ?_ (k G1 x ht he)
        have : t.vw = .gone := by
          unfold T.vw
          split
          · rename_i c
            cases ed : t.toD with
            | none => rfl
            | some d => exact absurd ⟨c, d, ed⟩ hc
          · rfl
        show RT G1 H v t.vw []
        rw [this]
        exact .gone
/-- a view of the roots; afterwards they can be had again -/
theorem RS.save {H : Hp} {R F : List Rt} (h : RS H (R ++ F)) : ∃ W : T, RS H ((R.map fun p => (p.1, p.2.vw)) ++ [(.non, W)]) ∧ ∀ H' S, RS H' (S ++ [(.non, W)]) → RS H' (R ++ F) := by
  obtain ⟨G, es, s, r, nd, no⟩ := h
  have ow := r.own
  obtain ⟨as, fs, rfl, r1, r2⟩ := r.split
  obtain ⟨bs, cs, p, l, k⟩ := r1.part
  have pp : (as ++ fs).Perm (bs ++ (cs ++ fs)) := by
    rw [← List.append_assoc]
    exact p.append_right _
  have nd1 := pp.nodup_iff.mp nd
  have nob : ∀ a ∈ bs, G a = none := fun a m => no a (pp.mem_iff.mpr (List.mem_append_left _ m))
  have noc : ∀ a ∈ cs ++ fs, G a = none := fun a m => no a (pp.mem_iff.mpr (List.mem_append_right _ m))
  have owb : ∀ a ∈ bs, Own H a := fun a m => ow a (pp.mem_iff.mpr (List.mem_append_left _ m))
  have owc : ∀ a ∈ cs ++ fs, Own H a := fun a m => ow a (pp.mem_iff.mpr (List.mem_append_right _ m))
  refine ⟨.world (fzG G H bs) H (cs ++ fs), ⟨fzG G H bs, [] ++ ((cs ++ fs) ++ []), fzG_sub s owb, ?_, ?_, ?_⟩, fun H' S hs => ?_⟩
  · exact (k _ fzG_ext (fun a vs e => fzG_tup s e) fun a m => fzG_own (nob a m) m).append (.cons (.world (Ext.refl _) (fun _ _ => rfl) owc (fun _ _ e => e) fun _ _ _ e => e) .nil)
  · rw [List.nil_append, List.append_nil]
    exact (List.nodup_append.mp nd1).2.1
  · rw [List.nil_append, List.append_nil]
    intro a m
    exact fzG_out (noc a m) (fun m2 => (List.nodup_append.mp nd1).2.2 a m2 a m rfl) (owc a m)
  · obtain ⟨G', gs, s', r', nd', no'⟩ := hs
    obtain ⟨_, _, rfl, _, rw'⟩ := r'.split
    cases rw' with
    | cons hw _ =>
      cases hw with
      | world x h2 h3 h4 h5 =>
        refine ⟨G, as ++ fs, fun a u e => s' a u (x a u (fzG_ext a u e)), r.frame (Ext.refl _) h4 h5 fun a m => ?_, nd, no⟩
        rcases List.mem_append.mp (pp.mem_iff.mp m) with m | m
        · obtain ⟨vs, e⟩ := l a m
          have e1 : fzG G H bs a = some (.lst vs) := by rw [fzG_own (nob a m) m, e]
          rw [(s' a _ (x a _ e1)).2.2 rfl, e]
        · exact h2 a m

/-! ### the rule -/
def atomT : T → Bool
  | .fz .none => true
  | .fz (.bool _) => true
  | .fz (.int _) => true
  | .fz (.str _) => true
  | _ => false
theorem RS.atom {H : Hp} {v : V} {t : T} {R S : List Rt} (h : RS H ((v, t) :: R)) (a : atomT t = true) (k : RS H S) : RS H ((v, t) :: S) := by
  obtain ⟨G, cs, s, r, nd, no⟩ := h
  cases r with
  | cons h r =>
    cases h with
    | fz h =>
      refine k.add fun G' => ?_
      cases h with
      | non => exact .fz .non
      | bl b => exact .fz (.bl b)
      | int i => exact .fz (.int i)
      | str x => exact .fz (.str x)
      | _ => cases a
    | _ => cases a
theorem slr_map {σ : L2.St} {τ : Ta} {f : T → T} : slr σ (τ.map f) = (slr σ τ).map fun p => (p.1, f p.2) := by
  induction σ generalizing τ with
  | nil => rfl
  | cons o σ ih =>
    cases τ with
    | nil => rfl
    | cons t τ => simp [slr, ih]
theorem Sl.vw {σ : L2.St} {τ : Ta} (h : Sl σ τ) : Sl σ (τ.map T.vw) := by
  refine ⟨by rw [List.length_map]; exact h.1, fun i e => ?_⟩
  have := h.2 i e
  unfold gT at this ⊢
  rw [List.getD_eq_getElem?_getD] at this ⊢
  rw [List.getElem?_map]
  cases et : τ[i]? with
  | none => rfl
  | some t =>
    rw [et] at this
    have : t = .gone := this
    subst this
    rfl
/-- pure: slots are viewed, the result is an atom -/
def vPure (f : VF) : VF := fun τ => (f (τ.map T.vw)).bind fun p => if atomT p.1 then some (p.1, τ) else none
section
variable {X : Cx} {e : Expr}
theorem pe_pure {f : VF} (h : PE X e (tE f)) : PE X e (tE (vPure f)) := by
  refine h.wk fun σ H Q q => ?_
  obtain ⟨τ, F, t, τ', sl, rs, e1, q⟩ := q
  obtain ⟨p, ep, e2⟩ := Option.bind_eq_some_iff.mp e1
  split at e2
  · rename_i ha
    cases e2
    obtain ⟨W, k1, k2⟩ := rs.save
    rw [← slr_map] at k1
    refine ⟨_, [(.non, W)], _, _, sl.vw, k1, ep, fun v H' sl' rs' => q v H' sl ?_⟩
    exact rs'.atom ha (k2 H' ((v, p.1) :: slr σ p.2) rs')
  · cases e2
end
end SW
end
section
/-! SXc: methods that change a list that comes from an expression. -/
namespace SW
open PySem PySem.Spec PyProof.Rows L2

def vMmV (m : Mm) (f : VF) (g : LF) : VF := fun τ => (f τ).bind fun c => if isL c.1 then (g c.2).bind fun p => (mmL m c.1 p.1).map fun r => (r.2, p.2) else none
section
variable {X : Cx} {o e : Expr} {es : List Expr} {name : Str} {apos cpos : Pos}
theorem pe_mmV (m : Mm) {f : VF} {g : LF} (ho : PE X o (tE f)) (slot : Slot "list" name (mId m)) (hty : typeOf (.builtin (mId m)) = pure (.type "method_descriptor")) (ha : PA X (e :: es) (tLs g))
    (hbase : attributeBase o name X.env (eval o X.env) = eval o X.env := by rfl)
    (hfew : ((backTo cpos (starEach (e :: es) X.env)).all (fun x => !x.1) && (backToKw cpos (keywordEach [] X.env)).all (fun x => x.1.isSome)
      && decide ((e :: es).length + ([] : List Keyword).length + (if ([] : List Keyword).isEmpty then 0 else 1) < 30)) = true := by rfl)
    (hline : (apos.endLine == cpos.line) = true := by rfl) (hs : starEach (e :: es) X.env = (false, eval e X.env) :: starEach es X.env := by rfl) (hplain : (backTo cpos (starEach es X.env)).any (·.1) = false := by rfl) :
    PE X (.Call (.Attribute o name apos) (e :: es) [] cpos) (tE (vMmV m f g)) :=
  (pe_bm PySem.F.plainAttrs_list slot hty (mt_mm m) ho ha hbase hfew hline hs hplain).wk fun σ H Q h => by
    obtain ⟨τ, F, t, τ', sl, rs, e0, q⟩ := h
    obtain ⟨c, ec, e1⟩ := Option.bind_eq_some_iff.mp e0
    split at e1
    case isFalse => cases e1
    rename_i il
    obtain ⟨p, ep, e2⟩ := Option.bind_eq_some_iff.mp e1
    obtain ⟨r, er, e3⟩ := Option.map_eq_some_iff.mp e2
    cases e3
    refine ⟨τ, F, _, _, sl, rs, ec, fun v H1 sl1 rs1 => ⟨tyL rs1 il X.K, c.2, (v, c.1) :: F, _, _, sl1, rs1.swap1, ep, fun vs H2 ll sl2 rs2 => ?_⟩⟩
    refine ⟨c.1, p.1, r.1, r.2, slr σ p.2 ++ F, ll, ?_, er, fun z H3 r3 => q z H3 sl2 (r3.perm (.swap _ _ _)).tail⟩
    have z := List.perm_middle (l₁ := vs.zip p.1 ++ slr σ p.2) (l₂ := F) (a := (v, c.1))
    rw [List.append_assoc, List.append_assoc] at z
    exact rs2.perm z
end
end SW
end
section
/-! SXd: dict comprehensions whose keys are numbers, texts or tuples of them. -/
namespace SW
open PySem PySem.Spec PyProof.Rows L2

section
variable {X : Cx} {pins : List (Addr × Obj)} {σ : L2.St} {H : Hp} {s : Shared} {a : Addr} {y v : V} {u r : Value} {E : Value → Shared → Prop}
theorem dp_put {A : Around} {H' : Hp} {Q : Unit → Shared → Prop} (room : A.units < cLine) (I : Inv X pins σ H s) (g : DPut H a y v H') (ky : RelV y u) (rv : RelV v r) (k : ∀ s', (∀ b o, b ≠ a → s.heap.get? b = some o → s'.heap.get? b = some o) → Inv X pins σ H' s' → Q () s') : wpAny (model X.prog X.w) A (dictSet a u r) Q E s := by
  rcases g with ⟨kvs, kk, e, rfl, l, rfl⟩ | ⟨kvs, ks, b, e, rfl, eb, l, rfl⟩
  · obtain ⟨zz, hh, vs, rel, dd⟩ := dk_of I.hok e
    have n1 := rel.length
    have n2 := length_putK kvs kk v
    refine wpAny_dictSet_pairs (knd := mixKind X.prog X.w) (k := kk) (kV_is ky) dd (fun h2 d2 sb => k _ (fun b o hb eo => (sb.2 b hb).trans eo) ?_) (by omega)
    have ⟨o2, _, _, g1, _⟩ := d2
    exact d_write I (by rw [e]; trivial) sb ⟨o2, g1⟩ (dk_new (by omega) hh (rel.put kk rv) d2)
  · obtain rfl : u = Value.ref b := ky
    obtain ⟨zz, hh, xs, rel, dd⟩ := dt_of I.hok e
    have n1 := Paired.length rel
    have n2 := length_putK kvs ks v
    refine wpAny_dictSet_heap (knd := tupleKind (mixKind X.prog X.w)) room (key_of I.hok eb) dd (fun h2 d2 sb => k _ (fun b o hb eo => (sb.2 b hb).trans eo) ?_) (by omega)
    have ⟨o2, es2, ep2, g1, g2, g3, g4, g5, g6⟩ := d2
    have rel2 := (rel.put ks eb rv).keeps (H' := L2.upd H a (.dT (putK kvs ks v))) fun c ys ec => by
      rw [L2.upd_ne (ne_of ec e fun z => by cases z)]
      exact ec
    exact d_write I (by rw [e]; trivial) sb ⟨o2, g1⟩ ⟨by omega, hh, _, rel2, o2, es2, ep2, g1, g2, g3, g4, g6⟩
theorem dq_put {A : Around} {H' : Hp} {Q : Unit → Shared → Prop} (room : A.units < cLine) (I : Inv X pins σ H s) (g : DSto H a y v H') (ky : RelV y u) (rv : RelV v r) (k : ∀ s', (∀ b o, b ≠ a → s.heap.get? b = some o → s'.heap.get? b = some o) → Inv X pins σ H' s' → Q () s') : wpAny (model X.prog X.w) A (dictSet a u r) Q E s := by
  cases g with
  | gt g => exact dp_put room I g ky rv k
  | @eK b ks e ey hb =>
    have nb : b ≠ a := fun z => by
      subst z
      rw [e] at hb
      cases hb
    refine dp_put (H' := L2.upd (L2.upd H a (.dT [])) a (.dT (putK [] ks v))) room (ghostT I e) (.inr ⟨[], ks, b, L2.upd_same, ey, by rw [L2.upd_ne nb]; exact hb, by decide, rfl⟩) ky rv fun s' kp I' => k s' kp ?_
    rwa [L2.upd_upd] at I'
  | @eT kk e ey =>
    refine dp_put (H' := L2.upd (L2.upd H a (.dK [])) a (.dK (putK [] kk v))) room (ghostK I e) (.inl ⟨[], kk, L2.upd_same, ey, by decide, rfl⟩) ky rv fun s' kp I' => k s' kp ?_
    rwa [L2.upd_upd] at I'
end
/-- {key: value for tg in iter if ..}; what a store does is asked of the heap as the model sees it -/
def tDw (wi : TI) (g : TG) (tt : TT) (tk tv : TE) (vs : List Nat) : TE := fun σ H Q => wi σ H fun J H1 => ∀ D, H1 D = none →
  ∃ W : Nat → Nat → Hp → Prop, (∃ m, W 0 m (L2.upd H1 D (.dK []))) ∧ ∀ i m H, W i m H →
    (J.stop i H ∧ Q (.ref D) H) ∨ (J.go i H ∧ ∃ Nx : Hp → Prop, (∀ H', Nx H' → ∃ m', m' < m ∧ W (i + 1) m' H') ∧
      ∀ x H', J.yld i H x H' → g x (wipe σ vs) H' fun σ2 H2 => wipe σ2 vs = wipe σ vs ∧ tt σ2 H2 fun b H3 =>
        if b = true then tk σ2 H3 fun y H4 => tv σ2 H4 fun z H5 => ∀ (Y : Cx) pins σ' s, Inv Y pins σ' H5 s → ∃ H6, DSto H5 D y z H6 ∧ Nx H6
        else Nx H3)
/-- in a block whose world is fixed -/
abbrev InB (X : Cx) (scope : Scope) (p : Cx → Prop) : Prop := ∀ (s : Shared) (H : Hp) (C : Addr) (cl : List (Str × Addr)) (fp : List Addr), p (X.blk s H scope (compEnvC scope cl C X.env) fp)
section
variable {X : Cx} {kx vx tg iter : Expr} {ifs : List Expr} {scope : Scope} {own : List (Str × Nat)} {pos : Pos} {wi : TI} {g : TG} {tt : TT} {tk tv : TE}
theorem dcw_core {pins : List (Addr × Obj)} {s : Shared} {σ : L2.St} {H : Hp} {Q : VK} {p2 : Pos} {use : Option (Value → Sem Unit)} {Qf : Value → Shared → Prop} (room : X.A.units + 1 < cLine) (calm : X.calm = true) (nd : X.N.Nodup) (I : Inv X pins σ H s) (src : PI X tg iter wi) (ok : BlkOk X.N X.env.scope scope own) (pg : InB X scope fun Y => PG Y tg g) (pt : InB X scope fun Y => PTs Y ifs tt)
    (pk : InB X scope fun Y => PE Y kx tk) (pv : InB X scope fun Y => PE Y vx tv) (hs : ∀ x, foldedSetIterable iter X.env x = pure x) (hq : tDw wi g tt tk tv (own.map (·.2)) σ H Q)
    (last : ∀ D C s' m H', Inv X pins σ H' s' → Q (.ref D) H' → s'.heap.Ns C m → FpOk X pins H' C → compPost (model X.prog X.w) X.A X.xe use Qf (.ref D) C (.ok .next) s') :
    wpAny (model X.prog X.w) X.A (comprehension (.DictComp kx vx [⟨tg, iter, ifs, 0⟩] scope pos) scope X.env p2 newDict false (eval iter X.env) use) Qf X.xe s := by
  have has : ∀ y ∈ scope.names, y.2 = .free → ∃ c, X.env.cells.lookup y.1 = some c := fun y m e =>
    (ok.free y m e).elim (fun z => I.ok.has _ (.inl z)) (fun z => I.ok.has _ (.inr z))
  refine wpAny_comprehension_free (use := use) rfl hs (closure_ok has) ok.kind (fun y m e => by rw [ok.uniq y m, e]) (thn (src.run pins s σ H _ I hq) fun xv s1 h1 => thn h1 fun itv s2 h2 => ?_)
  obtain ⟨it, fp, tn, J, H2, rfl, I2, Tn, st2, f2, q⟩ := h2
  refine wpAny_newObj_type (newEnv_comp ?_)
  obtain ⟨D, hD⟩ : ∃ D, s2.heap.objs.size = D := ⟨_, rfl⟩
  rw [hD]
  obtain ⟨W, ⟨m0, w0⟩, turn⟩ := q D (I2.hok.fresh (Nat.le_of_eq hD))
  obtain ⟨s3, e3⟩ : ∃ s3 : Shared, s3 = { s2 with heap := s2.heap.push { cls := .type "dict", data := .dict #[] } } := ⟨_, rfl⟩
  obtain ⟨H3, eH3⟩ : ∃ H3 : Hp, H3 = L2.upd H2 D (.dK []) := ⟨_, rfl⟩
  rw [← e3]
  rw [← eH3] at w0
  have eh : s3.heap = s2.heap.push { cls := .type "dict", data := .dict #[] } := by rw [e3]
  have I3 : Inv X pins σ H3 s3 := by
    subst e3 eH3
    refine I2.laid (t' := s2.toks) (fun b o e => Heap.get?_push_of_some _ e) (Nat.le_of_eq hD) ?_
    subst hD
    exact dk_empty s2.heap I2.big
  have f3 : ∀ b ∈ fp, FpOk X pins H3 b ∧ b < s3.heap.objs.size := fun b m => by
    obtain ⟨o, e, _⟩ := Tn.obj _ _ st2 b m
    have lt := Heap.lt_size e
    refine ⟨⟨?_, (f2 b m).2⟩, by rw [eh, Heap.size_push]; exact Nat.lt_succ_of_lt lt⟩
    rw [eH3, L2.upd_ne (Nat.ne_of_lt (hD ▸ lt))]
    exact (f2 b m).1
  have st3 : tn 0 s3.heap := Tn.keep _ _ _ st2 fun b _ o e => by rw [eh]; exact Heap.get?_push_of_some _ e
  have I4 := block_start I3 ok nd f3
  show codeAny _ _ (.compStart (.DictComp kx vx [⟨tg, iter, ifs, 0⟩] scope pos) 0 (.ref it) (.ref D) (compEnvC scope (cellsFrom (s3.heap.objs.size + 1) scope.names (cloFrom X.env.cells scope.names [])) s3.heap.objs.size X.env)) _ { s3 with heap := pushCells (s3.heap.push { cls := .type "dict", data := .dict #[] }) scope.names }
  obtain ⟨cl, ecl⟩ : ∃ cl, cl = cellsFrom (s3.heap.objs.size + 1) scope.names (cloFrom X.env.cells scope.names []) := ⟨_, rfl⟩
  rw [← ecl] at I4 ⊢
  obtain ⟨s4, e4⟩ : ∃ s4 : Shared, s4 = { s3 with heap := pushCells (s3.heap.push { cls := .type "dict", data := .dict #[] }) scope.names } := ⟨_, rfl⟩
  rw [← e4] at I4 ⊢
  have st4 : tn 0 s4.heap := Tn.keep _ _ _ st3 fun b _ o e => by
    rw [e4]
    exact pushCells_keeps _ _ _ _ (Heap.get?_push_of_some _ e)
  have B1 := pg s3 H3 s3.heap.objs.size cl fp
  have B2 := pt s3 H3 s3.heap.objs.size cl fp
  have B3 := pk s3 H3 s3.heap.objs.size cl fp
  have B4 := pv s3 H3 s3.heap.objs.size cl fp
  have cL : (compEnvC scope cl s3.heap.objs.size X.env).locals = s3.heap.objs.size := rfl
  generalize compEnvC scope cl s3.heap.objs.size X.env = ce at I4 B1 B2 B3 B4 cL ⊢
  have fpo : ∀ {σ' : L2.St} {H' : Hp} {s' : Shared}, Inv (X.blk s3 H3 scope ce fp) [] σ' H' s' → (∀ b ∈ fp, H' b = none) → ∀ b ∈ fp, FpOk (X.blk s3 H3 scope ce fp) [] H' b := fun {σ' H' s'} I' nn b m => by
    exact ⟨nn b m, (I'.ok.exf b m).1, I'.ok.exfs b m, .inl m, fun x c e => (I'.ok.exf b m).2 x c e, fun p hp => absurd (show p ∈ ([] : List (Addr × Obj)) ++ [] from hp) (by simp)⟩
  have loop : codeAny (model X.prog X.w) X.A (.compLoop (.DictComp kx vx [⟨tg, iter, ifs, 0⟩] scope pos) 0 (.ref it) (.ref D) ce) (compPost (model X.prog X.w) X.A X.xe use Qf (.ref D) s3.heap.objs.size) s4 := by
    refine compLoop_anyD (fun n s' => ∃ i H', Inv (X.blk s3 H3 scope ce fp) [] (wipe σ (own.map (·.2))) H' s' ∧ tn i s'.heap ∧ (∀ b ∈ fp, H' b = none) ∧ W i n H') ?_ m0 ⟨0, H3, I4, st4, fun b m => (f3 b m).1.1, w0⟩
    rintro n s5 ⟨i, H5, I5, st5, n5, w5⟩
    rcases turn i n H5 w5 with ⟨stop, qq⟩ | ⟨go, Nx, hNx, step⟩
    · have fin := Tn.done (X.blk s3 H3 scope ce fp) rfl rfl rfl calm i [] s5 _ H5 (fun _ _ => False) I5 (fpo I5 n5) st5 stop
      refine thnF fin fun r s6 ⟨er, I6⟩ => ?_
      subst er
      have I7 : Inv X pins σ H5 s6 := I3.call' (ch := fp) I6.os I6.base I6.hok I6.bare fun b m => ⟨(f3 b m).1.2.2.2.1, (f3 b m).1.2.1, (f3 b m).1.2.2.2.2.1, (f3 b m).1.2.2.2.2.2⟩
      have free : H5 ce.locals = none := I6.free
      obtain ⟨mm, ns, _⟩ := I6.loc
      have ns : s6.heap.Ns ce.locals mm := ns
      rw [cL] at free ns
      exact last D _ s6 mm H5 I7 qq ns (I3.fpOk (Nat.le_refl _) free)
    · have next := Tn.item (X.blk s3 H3 scope ce fp) rfl rfl rfl calm i [] s5 _ H5 (fun _ _ => False) I5 (fpo I5 n5) st5 go
      refine thnF next fun r s6 ⟨u, er, h6⟩ => ?_
      subst er
      refine thnF h6 fun _ s7 ⟨x, H7, I7, r7, y7, st7, n7⟩ => ?_
      have Ip := I7.pinned (fpo I7 n7) (Tn.obj _ _ st7)
      refine thnF (B1.run _ s7 _ H7 x u _ Ip r7 (step x H7 y7)) fun _ s8 ⟨σ8, H8, I8, ew, q8⟩ => ?_
      refine thnF (B2.run _ s8 σ8 H8 _ I8 q8) fun b s9 ⟨H9, I9, q9⟩ => ?_
      have len8 : (wipe σ (own.map (·.2))).length = σ8.length := by rw [← ew, wipe_length]
      have over : ∀ {s' : Shared} {H' : Hp}, Inv (X.blk s3 H3 scope ce fp) ([] ++ pinsAt fp s7.heap) σ8 H' s' → Nx H' → ∃ m, m < n ∧ ∃ i H', Inv (X.blk s3 H3 scope ce fp) [] (wipe σ (own.map (·.2))) H' s' ∧ tn i s'.heap ∧ (∀ b ∈ fp, H' b = none) ∧ W i m H' := fun {s' H'} I' nx => by
        obtain ⟨m', hm, w'⟩ := hNx H' nx
        have held : ∀ b ∈ fp, ∀ o, s7.heap.get? b = some o → s'.heap.get? b = some o ∧ H' b = none := fun b m o e =>
          have z := I'.pin (b, o) (List.mem_append_right _ (List.mem_append_right _ (mem_pinsAt m e)))
          ⟨z.1, z.2.1⟩
        refine ⟨m', hm, i + 1, H', (I'.unpinned (pins := [])).weak len8 (fun j v e => by rw [← ew] at e; exact (wipe_some e).1), Tn.keep _ _ _ st7 fun b m o e => (held b m o e).1, fun b m => ?_, w'⟩
        obtain ⟨o, e, _⟩ := Tn.obj _ _ st7 b m
        exact (held b m o e).2
      cases b with
      | false => exact over I9 q9
      | true =>
        refine thnF (B3.run _ s9 σ8 H9 _ I9 q9) fun kv s10 ⟨y, H10, I10, ry, q10⟩ => ?_
        refine thnF (B4.run _ s10 σ8 H10 _ I10 q10) fun vv s11 ⟨z, H11, I11, rz, nx⟩ => ?_
        obtain ⟨H12, sto, nx⟩ := nx (X.blk s3 H3 scope ce fp) _ _ _ I11
        exact dq_put (X := X.blk s3 H3 scope ce fp) (show X.A.units < cLine by omega) I11 sto ry rz fun s12 _ I12 => over I12 nx
  exact codeAny_compStart_dict loop (Tn.self X.A 0 _ _ _ st4 loop)
theorem pe_dcw (room : X.A.units + 1 < cLine) (calm : X.calm = true) (nd : X.N.Nodup) (src : PI X tg iter wi) (ok : BlkOk X.N X.env.scope scope own) (pg : InB X scope fun Y => PG Y tg g) (pt : InB X scope fun Y => PTs Y ifs tt)
    (pk : InB X scope fun Y => PE Y kx tk) (pv : InB X scope fun Y => PE Y vx tv) (hs : ∀ x, foldedSetIterable iter X.env x = pure x := by intro _; rfl) : PE X (.DictComp kx vx [⟨tg, iter, ifs, 0⟩] scope pos) (tDw wi g tt tk tv (own.map (·.2))) := by
  refine ⟨fun pins s σ H Q I hq => ?_⟩
  rw [arm_eval_DictComp]
  refine dcw_core room calm nd I src ok pg pt pk pv hs hq fun D C s' m H' I' q ns f => ⟨m, ns, fun h'' sb => ?_⟩
  obtain ⟨g0, g1, g2, g3, g4, g5⟩ := f
  exact ⟨.ref D, H', I'.turned (t' := s'.toks) (fun b o hb e => (sb.2 b hb).trans e) g0 g1 g3 g4 g5, rfl, q⟩
/-- stored at once in a local name of its line -/
theorem ps_dcw {i : Nat} {y : Str} {py spos : Pos} (room : X.A.units + 1 < cLine) (calm : X.calm = true) (nd : X.N.Nodup) (hy : X.N[i]? = some y) (loc : X.env.scope.names.lookup y = some .local)
    (swap : swapsWith (.DictComp kx vx [⟨tg, iter, ifs, 0⟩] scope pos) (some (.Name y py)) spos.line X.env = pure true) (src : PI X tg iter wi) (ok : BlkOk X.N X.env.scope scope own) (pg : InB X scope fun Y => PG Y tg g) (pt : InB X scope fun Y => PTs Y ifs tt)
    (pk : InB X scope fun Y => PE Y kx tk) (pv : InB X scope fun Y => PE Y vx tv) (hs : ∀ x, foldedSetIterable iter X.env x = pure x := by intro _; rfl) : PS X (.Assign [.Name y py] (.DictComp kx vx [⟨tg, iter, ifs, 0⟩] scope pos) spos) (tAsg (tDw wi g tt tk tv (own.map (·.2))) (gName i)) := by
  refine ⟨fun pins s σ H D I hq => ?_⟩
  rw [exec_Assign_Name_used _ _ _ _ swap]
  refine wpAny_bind (wpAny_standAt (wpAny_bind ?_))
  show wpAny _ X.A (comprehension (.DictComp kx vx [⟨tg, iter, ifs, 0⟩] scope pos) scope X.env (firstIterPos [⟨tg, iter, ifs, 0⟩] pos) newDict false (eval iter X.env) (some (assign (.Name y py) X.env)) >>= _) _ _ s
  have hq : tDw wi g tt tk tv (own.map (·.2)) σ H (fun x H1 => gName i x σ H1 D.nx) := hq
  refine wpAny_bind (thn (dcw_core (Qf := fun _ s' => SP X pins D .next s') room calm nd I src ok pg pt pk pv hs hq fun L C s' m H' I' q ns f => ?_) fun _ s' z => wpAny_pure (wpAny_pure z))
  obtain ⟨g0, g1, g2, g3, g4, g5⟩ := f
  show wpAny _ _ (assign (.Name y py) X.env (.ref L)) _ _ _
  refine wpAny_assign_Name (store_ok2 (v := V.ref L) I' nd hy (.inl loc) rfl (fun s2 I2 ⟨a, sb, ha⟩ => ?_) (.inr loc))
  have na : C ≠ a := ha.elim (fun z => z ▸ g1) fun z e => g4 y a z e.symm
  exact ⟨m, ns.sameBut sb na, fun h3 sb3 => ⟨_, H', I2.turned (t' := s2.toks) (fun b o hb e => (sb3.2 b hb).trans e) g0 g1 g3 g4 g5, q⟩⟩
theorem sw_trueD {l : Nat} {y : Str} {py : Pos} {gs : List Comprehension} {env : Env} (hk : env.scope.kind = .function) (loc : env.scope.names.lookup y = some .local) (hl : (py.line == pos.line) = true)
    (ha : (scope.names.any fun (n, k) => n == y && (k == .local || k == .cell)) = false) : swapsWith (.DictComp kx vx gs scope pos) (some (.Name y py)) l env = pure true := by
  have k1 : env.kindOf y = some .local := loc
  have k2 : env.blockKind = .function := by unfold Env.blockKind; rw [hk]; rfl
  unfold swapsWith
  simp only [k1, k2, ha, Expr.pos, hl]
  rfl
end
/-! ### the maker -/
def dcTurn (vs : List Nat) (g : Tg) (b : BF) (zk zv : VF) (t : T) (s : List (PyData × T) × Ta) : Option (List (PyData × T) × Ta) := (putG g t s.2).bind fun τ1 => (b τ1).bind fun q =>
  if q.1 then (zk q.2).bind fun k => k.1.toD.bind fun kd => (zv k.2).bind fun r => if kOk kd s.1 && decide (s.1.length < sizeL) then some (kPut kd r.1 s.1, fresh r.2 vs) else none else some (s.1, fresh q.2 vs)
def vDc (vs : List Nat) (g : Tg) (f : LF) (b : BF) (zk zv : VF) : VF := fun τ => (f τ).bind fun p => (eachT (dcTurn vs g b zk zv) p.1 ([], fresh p.2 vs)).map fun r => (.dct r.1, restore p.2 r.2 vs)
theorem dc_loop {f : LF} {g : Tg} {b : BF} {zk zv : VF} {vs : List Nat} (hw : ∀ i ∈ g.own, i ∈ vs) {σ : L2.St} {H : Hp} {Q : VK} (h : tE (vDc vs g f b zk zv) σ H Q) : tDw (tIt f) (tG g) (tT b) (tE zk) (tE zv) vs σ H Q := by
  obtain ⟨τ0, F, t, τ', sl0, rs0, e0, q⟩ := h
  obtain ⟨p, ep, e1⟩ := Option.bind_eq_some_iff.mp e0
  obtain ⟨r, er, e2⟩ := Option.map_eq_some_iff.mp e1
  cases e2
  refine ⟨τ0, F, _, _, sl0, rs0, ep, fun J P H1 cur sl1 rs1 D hD => ?_⟩
  have r1 : RS H1 (slr σ p.2 ++ (P 0 ++ F)) := RS.swap rs1
  obtain ⟨s2, r2⟩ := hideAll vs sl1 r1
  have r3 : RS (L2.upd H1 D (.dK [])) ((.ref D, .dct []) :: (slr (wipe σ vs) (fresh p.2 vs) ++ (olds σ p.2 vs ++ (P 0 ++ F)))) := (r2.x.newK (qs := []) hD).s
  have mix : ∀ {i : Nat} {acc : List (PyData × T)} {τ : Ta}, ((V.ref D, T.dct acc) :: (slr (wipe σ vs) τ ++ (olds σ p.2 vs ++ (P i ++ F)))).Perm (P i ++ ((.ref D, .dct acc) :: (slr (wipe σ vs) τ ++ (olds σ p.2 vs ++ F)))) := fun {i acc τ} => by
    refine List.Perm.trans (List.Perm.cons _ ?_) List.perm_middle.symm
    refine (List.Perm.append_left _ (perm3 _ _ _)).trans ?_
    exact perm3 _ _ _
  refine ⟨fun i m H => m = p.1.length - i ∧ i ≤ p.1.length ∧ ∃ acc τ, Sl (wipe σ vs) τ ∧ RS H (P i ++ ((.ref D, .dct acc) :: (slr (wipe σ vs) τ ++ (olds σ p.2 vs ++ F)))) ∧ eachT (dcTurn vs g b zk zv) (p.1.drop i) (acc, τ) = some r, ⟨_, rfl, Nat.zero_le _, [], fresh p.2 vs, s2, r3.perm mix, er⟩, ?_⟩
  rintro i m H ⟨rfl, hi, acc, τ, sl, rs, e⟩
  by_cases hlt : i < p.1.length
  · refine .inr ⟨cur.go i H _ hlt rs, fun H' => i + 1 ≤ p.1.length ∧ ∃ acc τ, Sl (wipe σ vs) τ ∧ RS H' (P (i + 1) ++ ((.ref D, .dct acc) :: (slr (wipe σ vs) τ ++ (olds σ p.2 vs ++ F)))) ∧ eachT (dcTurn vs g b zk zv) (p.1.drop (i + 1)) (acc, τ) = some r, fun H' zz => ⟨_, by omega, rfl, zz⟩, fun x H' y => ?_⟩
    have k1 := cur.yld i H x H' _ _ (List.getElem?_eq_getElem hlt) rs y
    rw [List.drop_eq_getElem_cons hlt] at e
    obtain ⟨st, est, e3⟩ := Option.bind_eq_some_iff.mp e
    obtain ⟨τ1, et1, e4⟩ := Option.bind_eq_some_iff.mp est
    obtain ⟨qq, eqq, e5⟩ := Option.bind_eq_some_iff.mp e4
    have mid : ∀ {σ' : L2.St} {τ' : Ta} {acc' : List (PyData × T)}, (P (i + 1) ++ ((V.ref D, T.dct acc') :: (slr σ' τ' ++ (olds σ p.2 vs ++ F)))).Perm (slr σ' τ' ++ ((.ref D, .dct acc') :: (P (i + 1) ++ (olds σ p.2 vs ++ F)))) := fun {σ' τ' acc'} => by
      refine List.perm_middle.trans (List.Perm.trans (List.Perm.cons _ (perm3 _ _ _)) List.perm_middle.symm)
    refine ⟨τ, _, _, _, sl, k1.perm (.cons _ mid), et1, fun σ2 H2 a2 sl2 rs2 => ⟨wipe_ag a2 hw, τ1, _, _, _, sl2, rs2, eqq, fun H3 sl3 rs3 => ?_⟩⟩
    have ew := wipe_ag a2 hw
    have turn : ∀ {H4 : Hp} {acc2 : List (PyData × T)} {τ3 : Ta}, Sl σ2 τ3 → RS H4 (slr σ2 τ3 ++ ((.ref D, .dct acc2) :: (P (i + 1) ++ (olds σ p.2 vs ++ F)))) → Sl (wipe σ vs) (fresh τ3 vs) ∧ RS H4 (P (i + 1) ++ ((.ref D, .dct acc2) :: (slr (wipe σ vs) (fresh τ3 vs) ++ (olds σ p.2 vs ++ F)))) := fun {H4 acc2 τ3} s4 r4 => by
      obtain ⟨s5, r5⟩ := hideAll vs s4 r4
      rw [ew] at s5 r5
      exact ⟨s5, ((RS.swap r5).dropL).perm mid.symm⟩
    cases hq : qq.1 with
    | false =>
      rw [hq] at e5
      cases e5
      obtain ⟨s6, r6⟩ := turn sl3 rs3
      exact ⟨hlt, acc, _, s6, r6, e3⟩
    | true =>
      rw [hq] at e5
      simp only [if_true] at e5 ⊢
      obtain ⟨kk, ek, e6⟩ := Option.bind_eq_some_iff.mp e5
      obtain ⟨kd, ed, e7⟩ := Option.bind_eq_some_iff.mp e6
      obtain ⟨zz, ez, e8⟩ := Option.bind_eq_some_iff.mp e7
      split at e8
      case isFalse => cases e8
      rename_i okk
      cases e8
      simp only [Bool.and_eq_true, decide_eq_true_eq] at okk
      refine ⟨_, _, _, _, sl3, rs3, ek, fun kv H4 sl4 rs4 => ?_⟩
      have rs4 := (rs4.freeze ed).swap1
      refine ⟨_, _, _, _, sl4, rs4, ez, fun yv H5 sl5 rs5 => fun Y pins σ' s IY => ?_⟩
      have r6 : RS H5 ((kv, .fz kd) :: (yv, zz.1) :: (slr σ2 zz.2 ++ ((.ref D, .dct acc) :: (P (i + 1) ++ (olds σ p.2 vs ++ F))))) := rs5.perm ((List.perm_middle (l₁ := (yv, zz.1) :: slr σ2 zz.2)))
      have vk : View H5 kv kd := r6.view rfl
      have r7 : RS H5 ((.ref D, .dct acc) :: (yv, zz.1) :: (slr σ2 zz.2 ++ (P (i + 1) ++ (olds σ p.2 vs ++ F)))) := r6.tail.perm (List.perm_middle (l₁ := (yv, zz.1) :: slr σ2 zz.2))
      obtain ⟨a, H6, ea, sto, r8⟩ := dict_put IY r7 vk okk.1 okk.2
      cases ea
      refine ⟨H6, sto, hlt, kPut kd zz.1 acc, fresh zz.2 vs, ?_⟩
      obtain ⟨s9, r9⟩ := turn (acc2 := kPut kd zz.1 acc) sl5 (r8.perm List.perm_middle.symm)
      exact ⟨s9, r9, e3⟩
  · obtain rfl : i = p.1.length := by omega
    rw [List.drop_length] at e
    cases e
    refine .inl ⟨cur.stop H _ rs, ?_⟩
    have k1 : RS H ((.ref D, .dct acc) :: (slr (wipe σ vs) τ ++ (olds σ p.2 vs ++ F))) := rs.dropL
    have k2 : RS H (slr (wipe σ vs) τ ++ (olds σ p.2 vs ++ ((.ref D, .dct acc) :: F))) := k1.perm (List.perm_middle.symm.trans (List.Perm.append_left _ List.perm_middle.symm))
    obtain ⟨s3, k3⟩ := restAll sl1 vs sl k2
    exact q _ _ s3 (k3.perm List.perm_middle)
section
variable {X : Cx} {kx vx tg iter : Expr} {ifs : List Expr} {scope : Scope} {own : List (Str × Nat)} {pos : Pos} {f : LF} {g : Tg} {b : BF} {zk zv : VF}
theorem pe_dcm (room : X.A.units + 1 < cLine) (calm : X.calm = true) (nd : X.N.Nodup) (src : PI X tg iter (tIt f)) (ok : BlkOk X.N X.env.scope scope own) (pg : InB X scope fun Y => PG Y tg (tG g)) (pt : InB X scope fun Y => PTs Y ifs (tT b))
    (pk : InB X scope fun Y => PE Y kx (tE zk)) (pv : InB X scope fun Y => PE Y vx (tE zv)) (hw : ∀ i ∈ g.own, i ∈ own.map (·.2)) (hs : ∀ x, foldedSetIterable iter X.env x = pure x := by intro _; rfl) : PE X (.DictComp kx vx [⟨tg, iter, ifs, 0⟩] scope pos) (tE (vDc (own.map (·.2)) g f b zk zv)) :=
  (pe_dcw room calm nd src ok pg pt pk pv hs).wk fun _ _ _ h => dc_loop hw h
theorem s_dcm {i : Nat} {y : Str} {py spos : Pos} {W : List Nat} (room : X.A.units + 1 < cLine) (calm : X.calm = true) (nd : X.N.Nodup) (hy : X.N[i]? = some y) (loc : X.env.scope.names.lookup y = some .local) (hW : i ∈ W)
    (swap : swapsWith (.DictComp kx vx [⟨tg, iter, ifs, 0⟩] scope pos) (some (.Name y py)) spos.line X.env = pure true) (src : PI X tg iter (tIt f)) (ok : BlkOk X.N X.env.scope scope own) (pg : InB X scope fun Y => PG Y tg (tG g)) (pt : InB X scope fun Y => PTs Y ifs (tT b))
    (pk : InB X scope fun Y => PE Y kx (tE zk)) (pv : InB X scope fun Y => PE Y vx (tE zv)) (hw : ∀ i ∈ g.own, i ∈ own.map (·.2)) (hs : ∀ x, foldedSetIterable iter X.env x = pure x := by intro _; rfl) : PS X (.Assign [.Name y py] (.DictComp kx vx [⟨tg, iter, ifs, 0⟩] scope pos) spos) (tW W (sAsg (.nm i) (vDc (own.map (·.2)) g f b zk zv))) :=
  (ps_dcw room calm nd hy loc swap src ok pg pt pk pv hs).wk fun D σ H ⟨τ, F, o, sl, rs, e, q⟩ => by
    obtain ⟨p, ep, e2⟩ := Option.bind_eq_some_iff.mp e
    obtain ⟨τ2, e3, e4⟩ := Option.map_eq_some_iff.mp e2
    cases e4
    cases e3
    exact dc_loop hw ⟨τ, F, _, _, sl, rs, ep, fun v H' sl' rs' => q _ _ (.set hW) sl'.set (RS.bind sl' rs')⟩
end
end SW
end
section
/-! SXe: list comprehensions with two clauses. -/
namespace SW
open PySem PySem.Spec PyProof.Rows L2

theorem wipe_at {σ : L2.St} {i : Nat} : ∀ {vs : List Nat}, (wipe σ vs)[i]? = if i ∈ vs then (σ[i]?).map (fun _ => none) else σ[i]?
  | [] => rfl
  | v :: vs => by
    have ih := wipe_at (σ := σ) (i := i) (vs := vs)
    unfold wipe
    rw [List.getElem?_set]
    by_cases e : v = i
    · subst e
      simp only [if_true, List.mem_cons, true_or]
      have hl : (wipe σ vs).length = σ.length := wipe_length _ _
      by_cases h : v < σ.length
      · rw [if_pos (by omega), List.getElem?_eq_getElem h]
        rfl
      · rw [if_neg (by omega), List.getElem?_eq_none (by omega)]
        rfl
    · rw [if_neg e, ih]
      have : (i ∈ v :: vs) ↔ i ∈ vs := by
        rw [List.mem_cons]
        constructor
        · rintro (z | z)
          · exact absurd z.symm e
          · exact z
        · exact .inr
      simp only [this]
theorem wipe_in {σ : L2.St} {vs ws : List Nat} (h : ∀ i ∈ ws, i ∈ vs) : wipe (wipe σ ws) vs = wipe σ vs := by
  apply List.ext_getElem?
  intro i
  rw [wipe_at, wipe_at, wipe_at]
  by_cases h1 : i ∈ vs
  · simp only [if_pos h1]
    split
    · cases σ[i]? <;> rfl
    · rfl
  · rw [if_neg h1, if_neg h1, if_neg fun z => h1 (h i z)]
def lc2Turn (vs ws : List Nat) (g : Tg) (b : BF) (f1 : LF) (g1 : Tg) (b1 : BF) (z : VF) (t : T) (s : List T × Ta) : Option (List T × Ta) := (putG g t s.2).bind fun τ1 => (b τ1).bind fun q =>
  if q.1 then (f1 q.2).bind fun p => (eachT (lcTurn ws g1 b1 z) p.1 (s.1, fresh p.2 ws)).map fun r => (r.1, fresh r.2 vs) else some (s.1, fresh q.2 vs)
def vLc2 (vs ws : List Nat) (g : Tg) (f : LF) (b : BF) (g1 : Tg) (f1 : LF) (b1 : BF) (z : VF) : VF := fun τ => (f τ).bind fun p => (eachT (lc2Turn vs ws g b f1 g1 b1 z) p.1 ([], fresh p.2 vs)).map fun r => (.lst r.1, restore p.2 r.2 vs)
theorem lc2_loop {f f1 : LF} {g g1 : Tg} {b b1 : BF} {z : VF} {vs ws : List Nat} (hw : ∀ i ∈ g.own, i ∈ vs) (hw1 : ∀ i ∈ g1.own, i ∈ ws) (sub : ∀ i ∈ ws, i ∈ vs) {σ : L2.St} {H : Hp} {Q : VK} (h : tE (vLc2 vs ws g f b g1 f1 b1 z) σ H Q) : tLc2 (tIt f) (tG g) (tT b) (tIt f1) (tG g1) (tT b1) (tE z) vs ws σ H Q := by
  obtain ⟨τ0, F, t, τ', sl0, rs0, e0, q⟩ := h
  obtain ⟨p, ep, e1⟩ := Option.bind_eq_some_iff.mp e0
  obtain ⟨r, er, e2⟩ := Option.map_eq_some_iff.mp e1
  cases e2
  refine ⟨τ0, F, _, _, sl0, rs0, ep, fun J P H1 cur sl1 rs1 D hD => ?_⟩
  have r1 : RS H1 (slr σ p.2 ++ (P 0 ++ F)) := RS.swap rs1
  obtain ⟨s2, r2⟩ := hideAll vs sl1 r1
  have r3 : RS (L2.upd H1 D (.lst [])) ((.ref D, .lst []) :: (slr (wipe σ vs) (fresh p.2 vs) ++ (olds σ p.2 vs ++ (P 0 ++ F)))) := RS.newL (vs := []) (ts := []) r2 rfl hD
  have mix : ∀ {A B C F : List Rt} {d : Rt}, (d :: (A ++ (B ++ (C ++ F)))).Perm (C ++ (d :: (A ++ (B ++ F)))) := fun {A B C F d} =>
    (List.Perm.cons _ ((List.Perm.append_left _ (perm3 _ _ _)).trans (perm3 _ _ _))).trans List.perm_middle.symm
  have mid : ∀ {A B C : List Rt} {d : Rt}, (A ++ (d :: (B ++ C))).Perm (B ++ (d :: (A ++ C))) := fun {A B C d} =>
    List.perm_middle.trans (List.Perm.trans (List.Perm.cons _ (perm3 _ _ _)) List.perm_middle.symm)
  refine ⟨fun i m H => m = p.1.length - i ∧ i ≤ p.1.length ∧ ∃ acc τ, Sl (wipe σ vs) τ ∧ RS H (P i ++ ((.ref D, .lst acc) :: (slr (wipe σ vs) τ ++ (olds σ p.2 vs ++ F)))) ∧ eachT (lc2Turn vs ws g b f1 g1 b1 z) (p.1.drop i) (acc, τ) = some r, ⟨_, rfl, Nat.zero_le _, [], fresh p.2 vs, s2, r3.perm mix, er⟩, ?_⟩
  rintro i m H ⟨rfl, hi, acc, τ, sl, rs, e⟩
  by_cases hlt : i < p.1.length
  · refine .inr ⟨cur.go i H _ hlt rs, fun H' => i + 1 ≤ p.1.length ∧ ∃ acc τ, Sl (wipe σ vs) τ ∧ RS H' (P (i + 1) ++ ((.ref D, .lst acc) :: (slr (wipe σ vs) τ ++ (olds σ p.2 vs ++ F)))) ∧ eachT (lc2Turn vs ws g b f1 g1 b1 z) (p.1.drop (i + 1)) (acc, τ) = some r, fun H' zz => ⟨_, by omega, rfl, zz⟩, fun x H' y => ?_⟩
    have k1 := cur.yld i H x H' _ _ (List.getElem?_eq_getElem hlt) rs y
    rw [List.drop_eq_getElem_cons hlt] at e
    obtain ⟨st, est, e3⟩ := Option.bind_eq_some_iff.mp e
    obtain ⟨τ1, et1, e4⟩ := Option.bind_eq_some_iff.mp est
    obtain ⟨qq, eqq, e5⟩ := Option.bind_eq_some_iff.mp e4
    refine ⟨τ, _, _, _, sl, k1.perm (.cons _ mid), et1, fun σ2 H2 a2 sl2 rs2 => ⟨wipe_ag a2 hw, τ1, _, _, _, sl2, rs2, eqq, fun H3 sl3 rs3 => ?_⟩⟩
    have ew := wipe_ag a2 hw
    -- the outer turn's end
    have turn : ∀ {σ3 : L2.St} {H4 : Hp} {acc2 : List T} {τ3 : Ta}, wipe σ3 vs = wipe σ vs → Sl σ3 τ3 → RS H4 (slr σ3 τ3 ++ ((.ref D, .lst acc2) :: (P (i + 1) ++ (olds σ p.2 vs ++ F)))) → Sl (wipe σ vs) (fresh τ3 vs) ∧ RS H4 (P (i + 1) ++ ((.ref D, .lst acc2) :: (slr (wipe σ vs) (fresh τ3 vs) ++ (olds σ p.2 vs ++ F)))) := fun {σ3 H4 acc2 τ3} ew s4 r4 => by
      obtain ⟨s5, r5⟩ := hideAll vs s4 r4
      rw [ew] at s5 r5
      exact ⟨s5, ((RS.swap r5).dropL).perm mid.symm⟩
    cases hq : qq.1 with
    | false =>
      rw [hq] at e5
      cases e5
      obtain ⟨s6, r6⟩ := turn ew sl3 rs3
      exact ⟨hlt, acc, _, s6, r6, e3⟩
    | true =>
      rw [hq] at e5
      simp only [if_true] at e5 ⊢
      obtain ⟨p1, ep1, e6⟩ := Option.bind_eq_some_iff.mp e5
      obtain ⟨r1', er1, e7⟩ := Option.map_eq_some_iff.mp e6
      cases e7
      refine ⟨_, _, _, _, sl3, rs3, ep1, fun J1 P1 H4 cur1 sl4 rs4 => ?_⟩
      have z1 : RS H4 (slr σ2 p1.2 ++ (P1 0 ++ ((.ref D, .lst acc) :: (P (i + 1) ++ (olds σ p.2 vs ++ F))))) := RS.swap rs4
      obtain ⟨s5, r5⟩ := hideAll ws sl4 z1
      have r6 : RS H4 (slr (wipe σ2 ws) (fresh p1.2 ws) ++ (P1 0 ++ ((.ref D, .lst acc) :: (P (i + 1) ++ (olds σ p.2 vs ++ F))))) := (RS.swap r5).dropL
      refine ⟨fun j k H => k = p1.1.length - j ∧ j ≤ p1.1.length ∧ ∃ acc τ, Sl (wipe σ2 ws) τ ∧ RS H (P1 j ++ ((.ref D, .lst acc) :: (slr (wipe σ2 ws) τ ++ (P (i + 1) ++ (olds σ p.2 vs ++ F))))) ∧ eachT (lcTurn ws g1 b1 z) (p1.1.drop j) (acc, τ) = some r1', ⟨_, rfl, Nat.zero_le _, acc, fresh p1.2 ws, s5, r6.perm ?_, er1⟩, ?_⟩
      · refine (perm3 _ _ _).trans (List.Perm.append_left _ ?_)
        exact List.perm_middle
      rintro j k H6 ⟨rfl, hj, acc6, τ6, sl6, rs6, e8⟩
      by_cases hlt1 : j < p1.1.length
      · refine .inr ⟨cur1.go j H6 _ hlt1 rs6, fun H' => j + 1 ≤ p1.1.length ∧ ∃ acc τ, Sl (wipe σ2 ws) τ ∧ RS H' (P1 (j + 1) ++ ((.ref D, .lst acc) :: (slr (wipe σ2 ws) τ ++ (P (i + 1) ++ (olds σ p.2 vs ++ F))))) ∧ eachT (lcTurn ws g1 b1 z) (p1.1.drop (j + 1)) (acc, τ) = some r1', fun H' zz => ⟨_, by omega, rfl, zz⟩, fun x1 H7 y1 => ?_⟩
        have k2 := cur1.yld j H6 x1 H7 _ _ (List.getElem?_eq_getElem hlt1) rs6 y1
        rw [List.drop_eq_getElem_cons hlt1] at e8
        obtain ⟨st1, est1, f3⟩ := Option.bind_eq_some_iff.mp e8
        obtain ⟨τ7, et7, f4⟩ := Option.bind_eq_some_iff.mp est1
        obtain ⟨q7, eq7, f5⟩ := Option.bind_eq_some_iff.mp f4
        refine ⟨τ6, _, _, _, sl6, k2.perm (.cons _ mid), et7, fun σ3 H8 a3 sl8 rs8 => ⟨wipe_ag a3 hw1, τ7, _, _, _, sl8, rs8, eq7, fun H9 sl9 rs9 => ?_⟩⟩
        have ew1 := wipe_ag a3 hw1
        have turn1 : ∀ {H4 : Hp} {acc2 : List T} {τ3 : Ta}, Sl σ3 τ3 → RS H4 (slr σ3 τ3 ++ ((.ref D, .lst acc2) :: (P1 (j + 1) ++ (P (i + 1) ++ (olds σ p.2 vs ++ F))))) → Sl (wipe σ2 ws) (fresh τ3 ws) ∧ RS H4 (P1 (j + 1) ++ ((.ref D, .lst acc2) :: (slr (wipe σ2 ws) (fresh τ3 ws) ++ (P (i + 1) ++ (olds σ p.2 vs ++ F))))) := fun {H4 acc2 τ3} s4 r4 => by
          obtain ⟨s5, r5⟩ := hideAll ws s4 r4
          rw [ew1] at s5 r5
          exact ⟨s5, ((RS.swap r5).dropL).perm mid.symm⟩
        cases hq1 : q7.1 with
        | false =>
          rw [hq1] at f5
          cases f5
          obtain ⟨s10, r10⟩ := turn1 sl9 rs9
          exact ⟨hlt1, acc6, _, s10, r10, f3⟩
        | true =>
          rw [hq1] at f5
          simp only [if_true] at f5 ⊢
          obtain ⟨zz, ez, f6⟩ := Option.bind_eq_some_iff.mp f5
          split at f6
          case isFalse => cases f6
          rename_i hz
          cases f6
          refine ⟨_, _, _, _, sl9, rs9, ez, fun yv H10 sl10 rs10 => ?_⟩
          have r11 : RS H10 ((yv, zz.1) :: (.ref D, .lst acc6) :: (slr σ3 zz.2 ++ (P1 (j + 1) ++ (P (i + 1) ++ (olds σ p.2 vs ++ F))))) := rs10.perm (.cons _ List.perm_middle)
          obtain ⟨xs, hx, hl, r12⟩ := r11.app
          refine ⟨xs, hx, by rw [hl, ← sizeL_eq]; exact hz, hlt1, acc6 ++ [zz.1], fresh zz.2 ws, ?_⟩
          obtain ⟨s13, r13⟩ := turn1 (acc2 := acc6 ++ [zz.1]) sl10 (r12.perm List.perm_middle.symm)
          exact ⟨s13, r13, f3⟩
      · obtain rfl : j = p1.1.length := by omega
        rw [List.drop_length] at e8
        cases e8
        refine .inl ⟨cur1.stop H6 _ rs6, hlt, acc6, fresh τ6 vs, ?_⟩
        have k3 : RS H6 ((.ref D, .lst acc6) :: (slr (wipe σ2 ws) τ6 ++ (P (i + 1) ++ (olds σ p.2 vs ++ F)))) := rs6.dropL
        obtain ⟨s14, r14⟩ := turn ((wipe_in sub).trans ew) sl6 (k3.perm List.perm_middle.symm)
        exact ⟨s14, r14, e3⟩
  · obtain rfl : i = p.1.length := by omega
    rw [List.drop_length] at e
    cases e
    refine .inl ⟨cur.stop H _ rs, ?_⟩
    have k1 : RS H ((.ref D, .lst acc) :: (slr (wipe σ vs) τ ++ (olds σ p.2 vs ++ F))) := rs.dropL
    have k2 : RS H (slr (wipe σ vs) τ ++ (olds σ p.2 vs ++ ((.ref D, .lst acc) :: F))) := k1.perm (List.perm_middle.symm.trans (List.Perm.append_left _ List.perm_middle.symm))
    obtain ⟨s3, k3⟩ := restAll sl1 vs sl k2
    exact q _ _ s3 (k3.perm List.perm_middle)
section
variable {X : Cx} {elt tg iter tg1 iter1 : Expr} {ifs ifs1 : List Expr} {scope : Scope} {own : List (Str × Nat)} {pos : Pos} {f f1 : LF} {g g1 : Tg} {b b1 : BF} {z : VF} {ws : List Nat}
theorem pe_lcm (calm : X.calm = true) (nd : X.N.Nodup) (src : PI X tg iter (tIt f)) (ok : BlkOk X.N X.env.scope scope own) (sub : ∀ i ∈ ws, i ∈ own.map (·.2)) (pg : InB X scope fun Y => PG Y tg (tG g)) (pt : InB X scope fun Y => PTs Y ifs (tT b))
    (src1 : InB X scope fun Y => PI Y tg1 iter1 (tIt f1)) (pg1 : InB X scope fun Y => PG Y tg1 (tG g1)) (pt1 : InB X scope fun Y => PTs Y ifs1 (tT b1)) (pe : InB X scope fun Y => PE Y elt (tE z)) (hw : ∀ i ∈ g.own, i ∈ own.map (·.2)) (hw1 : ∀ i ∈ g1.own, i ∈ ws)
    (hs : ∀ x, foldedSetIterable iter X.env x = pure x := by intro _; rfl) (hs1 : ∀ env x, foldedSetIterable iter1 env x = pure x := by intro _ _; rfl) : PE X (.ListComp elt [⟨tg, iter, ifs, 0⟩, ⟨tg1, iter1, ifs1, 0⟩] scope pos) (tE (vLc2 (own.map (·.2)) ws g f b g1 f1 b1 z)) :=
  (pe_lc2 calm nd src ok sub pg pt src1 pg1 pt1 pe hs hs1).wk fun _ _ _ h => lc2_loop hw hw1 sub h
theorem s_lcm {i : Nat} {y : Str} {py spos : Pos} {W : List Nat} (calm : X.calm = true) (nd : X.N.Nodup) (hy : X.N[i]? = some y) (loc : X.env.scope.names.lookup y = some .local) (hW : i ∈ W)
    (swap : swapsWith (.ListComp elt [⟨tg, iter, ifs, 0⟩, ⟨tg1, iter1, ifs1, 0⟩] scope pos) (some (.Name y py)) spos.line X.env = pure true) (src : PI X tg iter (tIt f)) (ok : BlkOk X.N X.env.scope scope own) (sub : ∀ i ∈ ws, i ∈ own.map (·.2)) (pg : InB X scope fun Y => PG Y tg (tG g)) (pt : InB X scope fun Y => PTs Y ifs (tT b))
    (src1 : InB X scope fun Y => PI Y tg1 iter1 (tIt f1)) (pg1 : InB X scope fun Y => PG Y tg1 (tG g1)) (pt1 : InB X scope fun Y => PTs Y ifs1 (tT b1)) (pe : InB X scope fun Y => PE Y elt (tE z)) (hw : ∀ i ∈ g.own, i ∈ own.map (·.2)) (hw1 : ∀ i ∈ g1.own, i ∈ ws)
    (hs : ∀ x, foldedSetIterable iter X.env x = pure x := by intro _; rfl) (hs1 : ∀ env x, foldedSetIterable iter1 env x = pure x := by intro _ _; rfl) : PS X (.Assign [.Name y py] (.ListComp elt [⟨tg, iter, ifs, 0⟩, ⟨tg1, iter1, ifs1, 0⟩] scope pos) spos) (tW W (sAsg (.nm i) (vLc2 (own.map (·.2)) ws g f b g1 f1 b1 z))) :=
  (ps_setLc2 calm nd hy loc swap src ok sub pg pt src1 pg1 pt1 pe hs hs1).wk fun D σ H ⟨τ, F, o, sl, rs, e, q⟩ => by
    obtain ⟨p, ep, e2⟩ := Option.bind_eq_some_iff.mp e
    obtain ⟨τ2, e3, e4⟩ := Option.map_eq_some_iff.mp e2
    cases e4
    cases e3
    exact lc2_loop hw hw1 sub ⟨τ, F, _, _, sl, rs, ep, fun v H' sl' rs' => q _ _ (.set hW) sl'.set (RS.bind sl' rs')⟩
end
end SW
end
section
/-! SXf: min and max of a list of alike data; default. -/
namespace SW
open PySem PySem.Spec PyProof.Rows L2

theorem minOk_of {ds : List PyData} (h : minOk ds = true) : PySem.W.AlikeAll ds ∧ PyData.depthAll ds ≤ 100 := by
  unfold minOk at h
  simp only [Bool.and_eq_true, List.all_eq_true, decide_eq_true_eq] at h
  obtain ⟨h1, h2⟩ := h
  refine ⟨⟨fun x m y m' => ?_, fun x m z => ?_⟩, ?_⟩
  · unfold allAlike at h1
    simp only [List.all_eq_true] at h1
    exact h1 x m y m'
  · subst z
    have := (h2 _ m).2
    cases this
  · clear h1
    induction ds with
    | nil => exact Nat.zero_le _
    | cons d ds ih =>
      have h3 := (h2 d List.mem_cons_self).1
      have h4 := ih fun x m => h2 x (List.mem_cons_of_mem _ m)
      exact Nat.max_le.mpr ⟨h3, h4⟩
def minLG (a : Ag) : Option T := (itemsF a).bind fun ds => match ds with
  | [] => none
  | x :: xs => if minOk (x :: xs) then some (.fz (PySem.W.minD x xs)) else none
def maxLG (a : Ag) : Option T := (itemsF a).bind fun ds => match ds with
  | [] => none
  | x :: xs => if minOk (x :: xs) then some (.fz (PySem.W.maxD x xs)) else none
def minDG (a b : Ag) : Option T := (itemsF a).bind fun ds => if minOk ds then match ds with
  | [] => if atomT b.2 then some b.2 else none
  | x :: xs => some (.fz (PySem.W.minD x xs)) else none
theorem RS.addV {H : Hp} {v : V} {t : T} {L R : List Rt} (m : (v, t) ∈ L) (k : RS H L) (a : atomT t = true) (h : RS H R) : RS H ((v, t) :: R) := by
  unfold atomT at a
  split at a
  · have := (k.viewM m (d := .none) rfl).non
    subst this
    exact h.add fun _ => .fz .non
  · rename_i b
    have := (k.viewM m (d := .bool b) rfl).bl
    subst this
    exact h.add fun _ => .fz (.bl b)
  · rename_i b
    have := (k.viewM m (d := .int b) rfl).int
    subst this
    exact h.add fun _ => .fz (.int b)
  · rename_i b
    have := (k.viewM m (d := .str b) rfl).str
    subst this
    exact h.add fun _ => .fz (.str b)
  · cases a
section
variable {X : Cx}
/-- what the four have in common: the list's items read, one of them is the answer -/
theorem best_item {pins : List (Addr × Obj)} {σ : L2.St} {H : Hp} {s : Shared} {R : List Rt} {ws : List V} {ds : List PyData} {its : List Value} (I : Inv X pins σ H s) (rv : Vals ws its) (l : ws.length = ds.length) (k : RS H (ws.zip (ds.map T.fz) ++ R))
    {i : Nat} {v : Value} {h' : Heap} {bs : List Addr} {d : PyData} (ev : its[i]? = some v) (rd : Reads h' v d bs) (kp : ∀ b o, s.heap.get? b = some o → h'.get? b = some o) : ∃ w, RelV w v ∧ RS H ((w, .fz d) :: R) := by
  have hi : i < its.length := (List.getElem?_eq_some_iff.mp ev).1
  have hl : ws.length = its.length := rv.length
  have ew : ws[i]? = some ws[i] := List.getElem?_eq_getElem (by omega)
  obtain ⟨v', ev', rw'⟩ := rv.get ew
  rw [ev] at ev'
  cases ev'
  have ed : ds[i]? = some ds[i] := List.getElem?_eq_getElem (by omega)
  have ez : (ws.zip (ds.map T.fz))[i]? = some (ws[i], .fz ds[i]) := by
    rw [List.getElem?_zip_eq_some]
    exact ⟨ew, by rw [List.getElem?_map, ed]; rfl⟩
  have k1 : RS H ((ws[i], .fz ds[i]) :: R) := by
    have := k.perm ((perm_take ez).append_right R)
    have k2 : RS H ((ws.zip (ds.map T.fz)).eraseIdx i ++ ((ws[i], .fz ds[i]) :: R)) := this.perm List.perm_middle.symm
    exact k2.dropL
  obtain ⟨as, r1⟩ := (k1.view (d := ds[i]) rfl).reads I rw'
  have := (PyProof.Rows.reads_det (fun b o e _ => kp b o e) r1 rd).1
  subst this
  exact ⟨_, rw', k1⟩
theorem reads_list {pins : List (Addr × Obj)} {σ : L2.St} {H : Hp} {s : Shared} {R : List Rt} {ws : List V} {ds : List PyData} {its : List Value} (I : Inv X pins σ H s) (rv : Vals ws its) (l : ws.length = ds.length) (k : RS H (ws.zip (ds.map T.fz) ++ R)) : ∃ as, ReadsAll s.heap its ds as := by
  obtain ⟨as, h⟩ := ViewP.readsAll I (RS.viewP l k) (us := its) (by rw [zip_fst' l]; exact rv)
  rw [zip_snd' l] at h
  exact ⟨as, h⟩
theorem cr_minL (hc : X.calm = true) (hu : X.A.units + 150 < cLine) : CallR X (.builtin "min") (r1g minLG) := by
  intro pins s σ H vs us Q I r h
  obtain ⟨x, R, o, a, t, rfl, rs, hh, e, q⟩ := h
  obtain ⟨ds, e1, e2⟩ := Option.bind_eq_some_iff.mp e
  split at e2
  · cases e2
  · rename_i d ds
    split at e2
    case isFalse => cases e2
    rename_i ok
    cases e2
    obtain ⟨al, dp⟩ := minOk_of ok
    obtain ⟨p, ws, rfl, rd, l, k⟩ := rs.items hh e1
    obtain ⟨u, rfl, ru⟩ := vals1 r
    cases ru
    obtain ⟨its, rv, pl, _⟩ := I.list (.inl rd)
    obtain ⟨as, ra⟩ := reads_list I rv l k
    refine PySem.W.min_list_data (I.ok.hd hc) pl.isList ra al (by omega) fun i v h' tk bs ev rd kp => ?_
    obtain ⟨w, rw', k2⟩ := best_item I rv l k (i := i) (by simpa using ev) rd kp
    exact ⟨w, H, I.kept kp, rw', q _ _ k2⟩
theorem cr_maxL (hc : X.calm = true) (hu : X.A.units + 150 < cLine) : CallR X (.builtin "max") (r1g maxLG) := by
  intro pins s σ H vs us Q I r h
  obtain ⟨x, R, o, a, t, rfl, rs, hh, e, q⟩ := h
  obtain ⟨ds, e1, e2⟩ := Option.bind_eq_some_iff.mp e
  split at e2
  · cases e2
  · rename_i d ds
    split at e2
    case isFalse => cases e2
    rename_i ok
    cases e2
    obtain ⟨al, dp⟩ := minOk_of ok
    obtain ⟨p, ws, rfl, rd, l, k⟩ := rs.items hh e1
    obtain ⟨u, rfl, ru⟩ := vals1 r
    cases ru
    obtain ⟨its, rv, pl, _⟩ := I.list (.inl rd)
    obtain ⟨as, ra⟩ := reads_list I rv l k
    refine PySem.W.max_list_data (I.ok.hd hc) pl.isList ra al (by omega) fun i v h' tk bs ev rd kp => ?_
    obtain ⟨w, rw', k2⟩ := best_item I rv l k (i := i) (by simpa using ev) rd kp
    exact ⟨w, H, I.kept kp, rw', q _ _ k2⟩
/-- one argument, and one by name -/
def r1k (g : Ag → Ag → Option T) : List V → List V → Hp → VK → Prop := fun vs zs H Q => ∃ x y R o1 o2 a b t, vs = [x] ∧ zs = [y] ∧ RS H (o1 ++ (o2 ++ R)) ∧ Has R x a o1 ∧ Has R y b o2 ∧ g a b = some t ∧ ∀ z H', RS H' ((z, t) :: R) → Q z H'
theorem cr_minD (hc : X.calm = true) (hu : X.A.units + 150 < cLine) : CallRK X (.builtin "min") [Str.ofString "default"] (r1k minDG) := by
  intro pins s σ H vs zs us ws Q I r rz h
  obtain ⟨x, y, R, o1, o2, a, b, t, rfl, rfl, rs, ha, hb, e, q⟩ := h
  obtain ⟨ds, e1, e2⟩ := Option.bind_eq_some_iff.mp e
  split at e2
  case isFalse => cases e2
  rename_i ok
  obtain ⟨al, dp⟩ := minOk_of ok
  obtain ⟨u, rfl, ru⟩ := vals1 r
  obtain ⟨z, rfl, ry⟩ := vals1 rz
  have ha2 : Has (o2 ++ R) x a o1 := ha.imp (fun z => z) fun z => ⟨z.1, z.2.1, List.mem_append_right _ z.2.2⟩
  obtain ⟨p, ws, rfl, rd, l, k⟩ := rs.items ha2 e1
  cases ru
  obtain ⟨its, rv, pl, _⟩ := I.list (.inl rd)
  obtain ⟨as, ra⟩ := reads_list I rv l k
  refine PySem.W.min_list_default (I.ok.hd hc) pl.isList ra al (by omega) (fun e0 h' tk kp => ?_) fun d' ds' i v h' tk bs e0 ev rd kp => ?_
  · subst e0
    dsimp only at e2
    split at e2
    case isFalse => cases e2
    rename_i at_
    cases e2
    exact ⟨y, H, I.kept kp, ry, q _ _ (RS.addV (m2 (o1 := o1) hb) rs at_ k.dropL.dropL)⟩
  · subst e0
    cases e2
    obtain ⟨w, rw', k2⟩ := best_item I rv l k (i := i) (by simpa using ev) rd kp
    have k3 : RS H (o2 ++ ((w, .fz (PySem.W.minD d' ds')) :: R)) := k2.perm List.perm_middle.symm
    exact ⟨w, H, I.kept kp, rw', q _ _ k3.dropL⟩
variable {e e2 : Expr} {x : Str} {p pos kpos : Pos} {id : String}
theorem pe_b1k {nm : Str} {g : Ag → Ag → Option T} {f f2 : AF} (hc : CallRK X (.builtin id) [nm] (r1k g)) (hg : Gl X x) (hm : X.mg x = none) (hv : bootBuiltins x = some (.builtin id)) (ha : PE X e (tA f)) (hb : PE X e2 (tA f2)) (hn : x ≠ "__name__" := by decide) (hdb : (x == ("__debug__" : Str)) = false := by decide)
    (h0 : starEach [e] X.env = (false, eval e X.env) :: starEach [] X.env := by rfl)
    (he : backTo pos (starEach [e] X.env) = (false, eval e X.env) :: backTo pos (starEach [] X.env) := by rfl) (hpl : (backTo pos (starEach [e] X.env)).any (·.1) = false := by rfl)
    (hall : (backToKw pos (keywordEach [⟨some nm, e2, kpos⟩] X.env)).all (·.1.isSome) = true := by rfl) (hnone : (backToKw pos (keywordEach [⟨some nm, e2, kpos⟩] X.env)).any (·.1.isNone) = false := by rfl) (hks : (backToKw pos (keywordEach [⟨some nm, e2, kpos⟩] X.env)).filterMap (·.1) = [nm] := by rfl) :
    PE X (.Call (.Name x p) [e] [⟨some nm, e2, kpos⟩] pos) (tE (v2 g f f2)) :=
  (pe_callBK hc hg hm hv (pa_cons ha pa_nil h0) (pk_cons hb pk_nil) hn hdb he hpl hall hnone hks).wk fun σ H Q h => by
    obtain ⟨τ, F, a, τ', sl, rs, e, q⟩ := ta2 h
    refine ⟨τ, F, a, τ', sl, rs, e, fun v H' sl' ok rs' => ?_⟩
    obtain ⟨τ1, F1, a1, τ1', sl1, rs1, e1, q1⟩ := q v H' sl' ok rs'
    refine ⟨τ1, F1, a1, τ1', sl1, rs1, e1, fun w H2 sl2 ok2 rs2 => ?_⟩
    obtain ⟨R, o1, o2, a, b, t, k1, k2, k3, k4, k5⟩ := q1 w H2 sl2 ok2 rs2
    exact ⟨v, w, R, o1, o2, a, b, t, rfl, rfl, k1, k2, k3, k4, k5⟩
end
end SW
end
section
/-! SXg: sets of numbers and texts: made of a list, sorted, counted. -/
namespace SW
open PySem PySem.Spec PyProof.Rows L2

def kE (e : Int × Value) : Key := match e.2 with
  | .int i _ => .inl i
  | .str x _ => .inr x
  | _ => .inl 0
def GE (w : World) (e : Int × Value) : Prop := ∃ k, keyIs k e.2 = true ∧ e.1 = keyH w k
/-- the set at a holds the keys l, each once -/
structure SetL (w : World) (h : Heap) (a : Addr) (l : List Key) : Prop where
  ex : ∃ o es ep t, h.get? a = some o ∧ o.ExactSet ∧ o.data = .set es ep t ∧ (∀ e ∈ es.toList, GE w e) ∧ (es.toList.map kE).Perm l ∧ t.fits es.size = true ∧ Ris t.place.toList ∧ (w.params.followText "set-order" = true ∨ t.led = true)
  nd : l.Nodup
  few : l.length < scanBound
def hasK (k : Key) (l : List Key) : Bool := l.any fun j => decide (j = k)
theorem hasK_iff {k : Key} {l : List Key} : hasK k l = true ↔ k ∈ l := by
  unfold hasK
  simp
theorem hasK_no {k : Key} {l : List Key} (h : k ∉ l) : hasK k l = false := by
  cases e : hasK k l with
  | false => rfl
  | true => exact absurd (hasK_iff.mp e) h
section
variable {P : Program} {w : World} {A : Around} {E : Value → Shared → Prop} {s : Shared} {a : Addr} {l : List Key}
theorem SetL.at {h h' : Heap} (R : SetL w h a l) (k : ∀ o, h.get? a = some o → h'.get? a = some o) : SetL w h' a l := by
  obtain ⟨⟨o, es, ep, t, ho, r⟩, nd, few⟩ := R
  exact ⟨⟨o, es, ep, t, k o ho, r⟩, nd, few⟩
theorem kE_of {e : Int × Value} {k : Key} (h : keyIs k e.2 = true) : kE e = k := by
  rcases keyIs_shape h with ⟨i, t, rfl, e2⟩ | ⟨x, t, rfl, e2⟩ <;> (unfold kE; rw [e2])
theorem GE.is {e : Int × Value} (g : GE w e) (k : Key) : keyIs k e.2 = true ↔ kE e = k := by
  obtain ⟨k0, h0, _⟩ := g
  refine ⟨kE_of, fun z => ?_⟩
  rw [kE_of h0] at z
  exact z ▸ h0
theorem ges_elems {es : List (Int × Value)} (g : ∀ e ∈ es, GE w e) : ElemsOf (mixKind P w) es := fun e m => by
  obtain ⟨k, h1, h2⟩ := g e m
  refine ⟨⟨k, h1, h2⟩, ?_⟩
  rcases keyIs_shape h1 with ⟨i, t, _, e2⟩ | ⟨x, t, _, e2⟩ <;> rw [e2] <;> rfl
theorem key_scans {k : Key} {v : Value} (h : keyIs k v = true) : v.scannable = true := by
  rcases keyIs_shape h with ⟨i, t, _, e2⟩ | ⟨x, t, _, e2⟩ <;> rw [e2] <;> rfl
/-- what is laid into the table, and its growing -/
theorem lay_tail {told : Bool → Sem Unit} (quiet : ∀ (b : Bool) (s1 : Shared) (Q' : Unit → Shared → Prop), Q' () s1 → wpAny (model P w) A (told b) Q' E s1) {o : Obj} {es : Array (Int × Value)} {ep : Nat} {t : SetTable}
    (ho : s.heap.get? a = some o) (ex : o.ExactSet) (hd : o.data = .set es ep t) {fs : Array (Int × Value)} {u : SetTable} (g : ∀ e ∈ fs.toList, GE w e) (pm : (fs.toList.map kE).Perm l) (nd : l.Nodup) (few : l.length < scanBound)
    (fit : u.fits fs.size = true) (ris : Ris u.place.toList) (led : w.params.followText "set-order" = true ∨ u.led = true) {dummy : Bool} {R : Option Bool → Shared → Prop}
    (k : ∀ h', Heap.SameBut a s.heap h' → SetL w h' a l → R (some true) { s with heap := h' }) :
    wpAny (model P w) A (do
      storeSet a fs u
      if (!dummy && u.tooFull) = true then do
        told (relayAll u fs (SetTable.grown fs.size)).2.2
        storeSet a (relayAll u fs (SetTable.grown fs.size)).1 (relayAll u fs (SetTable.grown fs.size)).2.1
        pure (some true)
      else pure (some true)) R E s := by
  have n1 : fs.size = l.length := by
    rw [← pm.length_eq, List.length_map, Array.length_toList]
  have b1 : fs.size ≤ sizeLine := fits_of_scanBound (by omega)
  refine wpAny_bind (wpAny_storeSet_of ho hd ?_ b1)
  have o1 := store_at (es' := fs) (t' := u) ho hd
  have s1 := Heap.SameBut.update s.heap a (Obj.putSet fs u)
  by_cases grow : (!dummy && u.tooFull) = true
  · rw [if_pos grow]
    have q1 := relayAll_perm u fs (SetTable.grown fs.size)
    have q2 := relayAll_fits u fs (SetTable.grown fs.size)
    have q3 := relayAll_ris u fs (SetTable.grown fs.size)
    have q4 := relayAll_led u fs (SetTable.grown fs.size)
    revert q1 q2 q3 q4
    generalize relayAll u fs (SetTable.grown fs.size) = z
    intro q1 q2 q3 q4
    have n2 : z.1.size = fs.size := by rw [← Array.length_toList, q1.length_eq, Array.length_toList]
    refine wpAny_bind (quiet _ _ _ (wpAny_bind (wpAny_storeSet_of o1 rfl (wpAny_pure (k _ (s1.trans (Heap.SameBut.update _ a _)) ?_)) (by omega))))
    exact ⟨⟨_, z.1, _, z.2.1, store_at (es' := z.1) (t' := z.2.1) o1 rfl, ex, rfl, fun e m => g e (q1.mem_iff.mp m), (q1.map kE).trans pm, q2, q3, led.imp id fun y => q4.trans y⟩, nd, few⟩
  · rw [if_neg grow]
    exact wpAny_pure (k _ s1 ⟨⟨_, fs, _, u, o1, ex, rfl, g, pm, fit, ris, led⟩, nd, few⟩)
theorem setL_add {k : Key} {v : Value} {Q : Bool → Shared → Prop} (R : SetL w s.heap a l) (kv : keyIs k v = true) (room : l.length + 1 < scanBound)
    (q : ∀ h' l', Heap.SameBut a s.heap h' → SetL w h' a l' → l' = (if hasK k l = true then l else k :: l) → Q (!hasK k l) { s with heap := h' }) : wpAny (model P w) A (setAddHashed a v (keyH w k)) Q E s := by
  obtain ⟨⟨o, es, ep, t, ho, ex, hd, g, pm, fit, ris, led⟩, nd, few⟩ := R
  have n1 : es.size = l.length := by rw [← pm.length_eq, List.length_map, Array.length_toList]
  have sc := key_scans kv
  have el : ElemsOf (mixKind P w) es.toList := ges_elems g
  unfold setAddHashed setAddHashedIn
  refine wpAny_holding (wpAny_bind (wpAny_setState_of ho hd fit ?_))
  dsimp only
  rw [byScan_of sc (by omega) el]
  simp only [↓reduceIte]
  unfold setAddByScan
  refine wpAny_bind (wpAny_bind (wpAny_rule (wpAny_bind (wpAny_setScan_of (knd := mixKind P w) (k := k) kv ho hd fit el ?_))))
  cases at_ : List.findIdx? (fun e => (mixKind P w).is k e.2) es.toList with
  | some j =>
    obtain ⟨hj, pj, _⟩ := List.findIdx?_eq_some_iff_getElem.mp at_
    have km : k ∈ l := pm.mem_iff.mp (List.mem_map.mpr ⟨_, List.getElem_mem hj, kE_of pj⟩)
    have z := q s.heap l (Heap.SameBut.refl a s.heap) ⟨⟨o, es, ep, t, ho, ex, hd, g, pm, fit, ris, led⟩, nd, few⟩ (by rw [if_pos (hasK_iff.mpr km)])
    rw [hasK_iff.mpr km] at z
    exact wpAny_pure (wpAny_pure z)
  | none =>
    have km : k ∉ l := fun z => by
      obtain ⟨e, m, ek⟩ := List.mem_map.mp (pm.mem_iff.mpr z)
      have c := List.findIdx?_eq_none_iff.mp at_ e m
      rw [show (mixKind P w).is k e.2 = true from ((g e m).is k).mpr ek] at c
      cases c
    have q1 := layNew_perm t es (keyH w k) v
    have q2 := layNew_fits t es (keyH w k) v
    have q3 := layNew_ris t es (keyH w k) v ris
    have q4 := layNew_led t es (keyH w k) v
    dsimp only
    revert q1 q2 q3 q4
    generalize layNew t es (keyH w k) v = z
    obtain ⟨es1, t1, dummy, gave⟩ := z
    intro q1 q2 q3 q4
    dsimp only at q1 q2 q3 q4 ⊢
    rw [Array.toList_push] at q1
    have p1 : es1.toList.Perm ((keyH w k, v) :: es.toList) := q1.trans (List.perm_append_singleton _ _)
    have p2 : (es1.toList.map kE).Perm (k :: l) := by
      refine (p1.map kE).trans ?_
      rw [List.map_cons, kE_of (e := (keyH w k, v)) kv]
      exact pm.cons _
    have g1 : ∀ e ∈ es1.toList, GE w e := fun e m => by
      rcases List.mem_cons.mp (p1.mem_iff.mp m) with rfl | m
      · exact ⟨k, kv, rfl⟩
      · exact g e m
    have nd1 : (k :: l).Nodup := List.nodup_cons.mpr ⟨km, nd⟩
    have few1 : (k :: l).length < scanBound := room
    have led1 : w.params.followText "set-order" = true ∨ t1.led = true := led.imp id fun y => q4.trans y
    have last : ∀ h', Heap.SameBut a s.heap h' → SetL w h' a (k :: l) → Q true { s with heap := h' } := fun h' sb r => by
      have z := q h' _ sb r (by rw [if_neg (fun y => km (hasK_iff.mp y))])
      rw [hasK_no km] at z
      exact z
    have hush : ∀ (b : Bool) {s1 : Shared} {Q' : Unit → Shared → Prop}, Q' () s1 → wpAny (model P w) A (match b with | true => rule "set.scan.the-table-gave-way" | false => pure ()) Q' E s1 := fun b s1 Q' z => by
      cases b
      · exact wpAny_pure z
      · exact wpAny_rule z
    refine wpAny_bind (hush _ ?_)
    by_cases pl : t1.plain = true
    · rw [if_pos pl]
      refine wpAny_bind ?_
      rw [hashByValue_scannable 8 sc]
      refine wpAny_pure (lay_tail (fun b s1 Q' z => by cases b <;> first | exact wpAny_pure z | exact wpAny_rule z) ho ex hd g1 p2 nd1 few1 ?_ ?_ ?_ fun h' sb r => wpAny_pure (last h' sb r))
      · split
        · exact q2
        · exact SetTable.fits_plain_off q2
      · split <;> exact q3
      · split <;> exact led1
    · rw [if_neg pl]
      refine wpAny_bind (wpAny_pure ?_)
      simp only [↓reduceIte]
      exact lay_tail (fun b s1 Q' z => by cases b <;> first | exact wpAny_pure z | exact wpAny_rule z) ho ex hd g1 p2 nd1 few1 q2 q3 led1 fun h' sb r => wpAny_pure (last h' sb r)
end
end SW
end
section
/-! SXh: set(list), sorted(set), len(set). -/
namespace SW
open PySem PySem.Spec PyProof.Rows L2

def addK (l : List Key) (k : Key) : List Key := if hasK k l = true then l else k :: l
def dedK (ks : List Key) : List Key := ks.foldl addK []
theorem addK_le (l : List Key) (k : Key) : (addK l k).length ≤ l.length + 1 := by
  unfold addK
  split
  · exact Nat.le_succ _
  · exact Nat.le_refl _
theorem foldK_le : ∀ (ks l : List Key), (ks.foldl addK l).length ≤ l.length + ks.length
  | [], l => Nat.le_refl _
  | k :: ks, l => by
    have h1 := foldK_le ks (addK l k)
    have h2 := addK_le l k
    simp only [List.foldl_cons, List.length_cons]
    omega
theorem dedK_le (ks : List Key) : (dedK ks).length ≤ ks.length := by
  have h := foldK_le ks []
  rw [List.length_nil, Nat.zero_add] at h
  exact h
theorem dedK_take {ks : List Key} {i : Nat} {k : Key} (h : ks[i]? = some k) : dedK (ks.take (i + 1)) = addK (dedK (ks.take i)) k := by
  unfold dedK
  rw [List.take_add_one, h, List.foldl_append]
  rfl
section
variable {P : Program} {w : World} {A : Around} {E : Value → Shared → Prop} {s : Shared}
theorem upd_loop {I S : Addr} {fp wr : List Addr} {G : Array GenState → Array GenState → Prop} {n : Nat} {Pv : Nat → Value → Prop} {St : Nat → Shared → Prop} {R : Result → Shared → Prop} (W : WalksS P w A.in1 I fp wr G n Pv St) (out : S ∉ fp) (ks : List Key) (hn : n = ks.length)
    (room : ks.length < scanBound) (val : ∀ i v, Pv i v → ∃ k, ks[i]? = some k ∧ keyIs k v = true) (m : Nat) : ∀ (i : Nat) (s : Shared), n - i = m → i ≤ n → St i s → SetL w s.heap S (dedK (ks.take i)) →
    (∀ s', Moved (S :: wr) G s s' → SetL w s'.heap S (dedK ks) → R (.ok (.ret .none)) s') → codeAny (model P w) A (.builtin "set.update.loop" ⟨[.ref S, .ref I], []⟩) R s := by
  have nw : S ∉ wr := fun z => out (W.sub _ z)
  have up : ∀ b ∈ wr, b ∈ S :: wr := fun b z => List.mem_cons_of_mem _ z
  induction m with
  | zero =>
    intro i s e le st D fin
    obtain rfl : i = n := by omega
    refine codeAny_builtin F.entry_set_update_loop ?_
    rw [Around.under_plainId F.plain_set_update_loop _]
    show wpAny _ A.in1 (pyNext (.ref I) >>= fun _ => _) _ _ s
    refine wpAny_bind (W.done s _ _ st fun s' mv => ?_)
    rw [hn, List.take_length] at D
    exact wpAny_pure (fin s' (mv.mono up) (D.at fun o e => mv.heap S o nw e))
  | succ m ih =>
    intro i s e le st D fin
    have lt : i < n := by omega
    refine codeAny_builtin F.entry_set_update_loop ?_
    rw [Around.under_plainId F.plain_set_update_loop _]
    show wpAny _ A.in1 (pyNext (.ref I) >>= fun _ => _) _ _ s
    refine wpAny_bind (W.item i s _ _ lt st fun v s' pv st' mv => ?_)
    obtain ⟨k, ek, kv⟩ := val i v pv
    have D' := D.at (h' := s'.heap) fun o e => mv.heap S o nw e
    have lk := dedK_le (ks.take i)
    rw [List.length_take] at lk
    show wpAny _ A.in1 (holding [v] (setAdd S v) >>= fun _ => _) _ _ s'
    refine wpAny_bind (wpAny_holding ?_)
    unfold setAdd
    refine wpAny_holding (wpAny_bind ((mixKind P w).pyHash kv ?_))
    refine setL_add (P := P) (s := { s' with toks := s'.toks + 1 }) D' kv (by omega) fun h' l' sb D2 el => ?_
    refine wpAny_pure ⟨plainId_quiet F.plain_set_update_loop _, ih (i + 1) _ (by omega) lt (W.frame _ s' _ _ st' (Nat.le_add_right _ _) fun b hb o eo => ?_) ?_ fun s'' mv2 D3 => fin s'' (Moved.trans W.gtrans ((mv.mono up).then_heap (Nat.le_add_right _ _) fun b o hb eo => ?_) mv2) D3⟩
    · exact (sb.2 b fun z => out (z ▸ hb)).trans eo
    · rw [dedK_take ek]
      subst el
      exact D2
    · exact (sb.2 b fun z => hb (z ▸ List.mem_cons_self)).trans eo
theorem setL_new {h : Heap} {a : Addr} (e : h.get? a = some { cls := .type "set", dict := none, data := .set #[] 0 (.fresh 0 0 (!w.params.followText "set-order")) }) : SetL w h a [] := by
  refine ⟨⟨_, #[], 0, _, e, ⟨rfl, rfl, rfl⟩, rfl, fun _ m => by simp at m, .refl _, rfl, .nil, ?_⟩, .nil, by decide⟩
  cases e : w.params.followText "set-order" with
  | true => exact .inl rfl
  | false => exact .inr rfl

/-- the new set's object -/
def set0 (w : World) : Obj := { cls := .type "set", dict := none, data := .set #[] 0 (.fresh 0 0 (!w.params.followText "set-order")) }
set_option maxHeartbeats 3200000 in
theorem call_setL {p : Addr} {its : Array Value} {ks : List Key} {Q : Value → Shared → Prop} (hh : A.handled = none) (hl : s.heap.IsList p its) (rel : PySem.W.EachIs (fun (v : Value) (k : Key) => keyIs k v = true) its.toList ks) (room : ks.length < scanBound)
    (q : ∀ (h' : Heap) (tk : Nat), SetL w h' s.heap.objs.size (dedK ks) → (∀ b o, s.heap.get? b = some o → h'.get? b = some o) → Q (.ref s.heap.objs.size) { s with heap := h', toks := tk }) :
    wpAny (model P w) A (call (.type "set") [.ref p]) Q E s := by
  have lenI : its.size = ks.length := by
    rw [← Array.length_toList]
    exact rel.length
  have val : ∀ (i : Nat) (v : Value), its[i]? = some v → ∃ k, ks[i]? = some k ∧ keyIs k v = true := fun i v e => by
    rw [← Array.getElem?_toList] at e
    clear lenI q room hl
    generalize its.toList = vs at e rel
    induction rel generalizing i with
    | nil => simp at e
    | cons r _ ih =>
      cases i with
      | zero =>
        simp at e
        subst e
        exact ⟨_, rfl, r⟩
      | succ i => exact ih i (by simpa using e)
  obtain ⟨c, tl, hmro⟩ := F.called_set.mro
  have made := F.called_set.made
  have sub := F.called_set.sub
  have h1 := F.called_set.notType
  have h2 := F.called_set.canCreate
  have h3 := F.typeCall_set_1 (.ref p)
  refine wpAny_call (codeAny_of_tree ?_)
  show wpAny _ _ (callAny (.type "set") _) _ _ _
  refine wpAny_pure ⟨Code.quiet_builtin _ (by decide +kernel), codeAny_builtin F.entry_type_call ?_⟩
  rw [Around.under_plain (weight_type_call_type "set" [.ref p] []) rfl]
  repeat (any_goals (first | assumption | wp_step))
  refine codeAny_mono (code_set_led1 (.ref p) (E := E) (Q₁ := fun ob s1 => ob = .ref s.heap.objs.size ∧ s1 = { s with heap := s.heap.push (set0 w) }) ⟨rfl, rfl⟩) fun r s1 hr => ?_
  cases r with
  | error e => exact hr
  | ok fl =>
    cases fl with
    | ret ob =>
      obtain ⟨rfl, rfl⟩ := hr
      have top : (s.heap.push (set0 w)).get? s.heap.objs.size = some (set0 w) := Heap.get?_push_size _ rfl
      have ty : Shared.TypeIs { s with heap := s.heap.push (set0 w) } (.ref s.heap.objs.size) "set" := ⟨_, top, rfl⟩
      have h4 := F.called_set.init.lookup
      have h5 := F.called_set.init.bind (.ref s.heap.objs.size)
      repeat (any_goals (first | assumption | wp_step))
      refine codeAny_mono (codeAny_call_builtin (R := wants (fun r s2 => r = .none ∧ ∃ h' tk, s2 = { s with heap := h', toks := tk } ∧ SetL w h' s.heap.objs.size (dedK ks) ∧ ∀ b o, s.heap.get? b = some o → h'.get? b = some o) E)
        F.called_set.init.plain F.entry_set_init (check_set_init_1 ty ?_)) fun r2 s2 hr2 => ?_
      · obtain ⟨ol, el, cl, nl, dl⟩ := hl
        obtain ⟨ocls, odict, odata, oslots⟩ := ol
        simp only at cl dl
        subst cl dl
        have el2 : (s.heap.push (set0 w)).get? p = some { cls := .type "list", dict := odict, data := .seq its nl, slots := oslots } := Heap.get?_push_of_some _ el
        have h6 := F.sub_list_set
        have h7 := F.sub_list_frozenset
        have h8 : (Value.type "list" == Value.type "dict") = false := by decide
        have hl1 : (s.heap.push (set0 w)).IsList p its := ⟨_, el2, rfl, nl, rfl⟩
        have ps : p < s.heap.objs.size := Heap.lt_size el
        unfold Builtin.«set.__init__» noKeywords Builtin.Frozenset.updateFrom
        generalize eP : pyIter = PI
        wp_walk
        subst eP
        refine wpAny_pyIter_list hl1 (wpAny_bind (wpAny_runValue ?_))
        have sz : (s.heap.push (set0 w)).objs.size = s.heap.objs.size + 1 := Heap.size_push ..
        have np : p ≠ (s.heap.push (set0 w)).objs.size := by
          rw [sz]
          exact Nat.ne_of_lt (Nat.lt_succ_of_lt ps)
        refine upd_loop (Walks.list (A := A.in1.in1.in1) (by simp [hh]) _ p np its).toS (S := s.heap.objs.size) (by
          rw [sz]
          simp only [List.mem_cons, List.not_mem_nil, or_false, not_or]
          exact ⟨Nat.ne_of_lt (Nat.lt_succ_self _), Nat.ne_of_gt ps⟩) ks lenI room val (its.size - 0) 0 _ (by omega) (Nat.zero_le _) ?_ ?_ fun s' mv D => ?_
        · exact ⟨⟨_, Heap.get?_push_size _ rfl, rfl, rfl⟩, hl1.push _⟩
        · exact setL_new (Heap.get?_push_of_some _ top)
        · obtain ⟨h', gg, dd, tk, oo⟩ := s'
          obtain rfl : gg = s.gens := mv.gens
          obtain rfl : dd = s.drawn := mv.drawn
          obtain rfl : oo = s.os := mv.os
          show wpAny _ _ _ _ _ _
          refine wpAny_pure ?_
          show wpAny _ _ (ret Value.none) _ _ _
          refine wpAny_pure ⟨rfl, h', tk, rfl, D, fun b o e => ?_⟩
          have lb := Heap.lt_size e
          refine mv.heap b o (fun z => ?_) (Heap.get?_push_of_some _ (Heap.get?_push_of_some _ e))
          rw [sz] at z
          simp only [List.mem_cons, List.not_mem_nil, or_false] at z
          rcases z with rfl | rfl
          · exact Nat.lt_irrefl _ lb
          · exact Nat.lt_irrefl _ (Nat.lt_of_succ_lt lb)
      · cases r2 with
        | error e => exact hr2
        | ok fl2 =>
          cases fl2 with
          | ret r =>
            obtain ⟨rfl, h', tk, rfl, D, kp⟩ := hr2
            repeat (any_goals (first | assumption | wp_step))
            exact q _ _ D kp
          | _ => exact hr2.elim
    | _ => exact hr.elim
end
end SW
end
section
/-! SXi: sorted(set(xs)), len(set(xs)). -/
namespace SW
open PySem PySem.Spec PyProof.Rows L2

def keyD : PyData → Option Key
  | .int i => some (.inl i)
  | .str x => some (.inr x)
  | _ => none
def keysD : List PyData → Option (List Key)
  | [] => some []
  | d :: ds => match keyD d, keysD ds with
    | some k, some ks => some (k :: ks)
    | _, _ => none
theorem keysD_map : ∀ {ds : List PyData} {ks : List Key}, keysD ds = some ks → ds = ks.map kD
  | [], _, e => by
    cases e
    rfl
  | d :: ds, ks, e => by
    unfold keysD at e
    cases e1 : keyD d with
    | none =>
      rw [e1] at e
      cases e
    | some k =>
      cases e2 : keysD ds with
      | none =>
        rw [e1, e2] at e
        cases e
      | some js =>
        rw [e1, e2] at e
        cases e
        rw [keysD_map e2, List.map_cons]
        congr 1
        cases d <;> first | (cases e1; rfl) | cases e1
theorem leD_anti {a b : Key} (al : PySem.W.alike (kD a) (kD b) = true) (h1 : leD (kD a) (kD b) = true) (h2 : leD (kD b) (kD a) = true) : a = b := by
  unfold leD at h1 h2
  cases a with
  | inl i =>
    cases b with
    | inl j =>
      have e1 := PySem.W.dataLt_int i j
      have e2 := PySem.W.dataLt_int j i
      have h1 : (!PySem.W.dataLt (.int j) (.int i)) = true := h1
      have h2 : (!PySem.W.dataLt (.int i) (.int j)) = true := h2
      rw [e2] at h1
      rw [e1] at h2
      simp only [Bool.not_eq_true', decide_eq_false_iff_not] at h1 h2
      congr 1
      omega
    | inr y => cases al
  | inr x =>
    cases b with
    | inl j => cases al
    | inr y =>
      have e1 := PySem.W.dataLt_str x y
      have e2 := PySem.W.dataLt_str y x
      have h1 : (!PySem.W.dataLt (.str y) (.str x)) = true := h1
      have h2 : (!PySem.W.dataLt (.str x) (.str y)) = true := h2
      rw [e2] at h1
      rw [e1] at h2
      simp only [Bool.not_eq_true', decide_eq_false_iff_not] at h1 h2
      have := List.le_antisymm (as := x.cps.toList) (bs := y.cps.toList) h1 h2
      cases x
      cases y
      congr 2
      exact Array.toList_inj.mp this
theorem leD_tot (a b : PyData) : (leD a b || leD b a) = true := by
  unfold leD PySem.W.dataLt
  cases h1 : PyProof.Rows.lexLt PyProof.Rows.itemOrd (PySem.W.keyToks b) (PySem.W.keyToks a) with
  | false => rfl
  | true =>
    cases h2 : PyProof.Rows.lexLt PyProof.Rows.itemOrd (PySem.W.keyToks a) (PySem.W.keyToks b) with
    | false => rfl
    | true =>
      have := lex_trans _ _ _ h1 h2
      rw [lex_irrefl] at this
      cases this
theorem leD_tr (a b c : PyData) (h1 : leD a b = true) (h2 : leD b c = true) : leD a c = true := by
  unfold leD PySem.W.dataLt at *
  cases h3 : PyProof.Rows.lexLt PyProof.Rows.itemOrd (PySem.W.keyToks c) (PySem.W.keyToks a) with
  | false => rfl
  | true =>
    rcases lex_negTrans _ (PySem.W.keyToks b) _ h3 with z | z
    · rw [z] at h2
      cases h2
    · rw [z] at h1
      cases h1
/-- the sorted list of keys does not ask for their order -/
theorem sort_perm {ks js : List Key} (p : ks.Perm js) (al : PySem.W.AllAlike (js.map kD)) : (ks.map kD).mergeSort leD = (js.map kD).mergeSort leD := by
  have pm := p.map kD
  refine List.Perm.eq_of_pairwise (le := fun a b => leD a b = true) (fun a b ma mb h1 h2 => ?_) (List.pairwise_mergeSort leD_tr leD_tot _) (List.pairwise_mergeSort leD_tr leD_tot _) ?_
  · have ma := pm.mem_iff.mp ((List.mergeSort_perm _ _).mem_iff.mp ma)
    have mb := (List.mergeSort_perm _ _).mem_iff.mp mb
    obtain ⟨i, mi, rfl⟩ := List.mem_map.mp ma
    obtain ⟨j, mj, rfl⟩ := List.mem_map.mp mb
    rw [leD_anti (al _ ma _ mb) h1 h2]
  · exact (List.mergeSort_perm _ _).trans (pm.trans (List.mergeSort_perm _ _).symm)
theorem dedK_mem {ks : List Key} {k : Key} : k ∈ dedK ks ↔ k ∈ ks := by
  have gen : ∀ (ks l : List Key), k ∈ ks.foldl addK l ↔ k ∈ l ∨ k ∈ ks := fun ks => by
    induction ks with
    | nil =>
      intro l
      simp
    | cons j ks ih =>
      intro l
      rw [List.foldl_cons, ih]
      unfold addK
      split
      · rename_i h
        have := hasK_iff.mp h
        constructor
        · rintro (z | z)
          · exact .inl z
          · exact .inr (List.mem_cons_of_mem _ z)
        · rintro (z | z)
          · exact .inl z
          · rcases List.mem_cons.mp z with rfl | z
            · exact .inl this
            · exact .inr z
      · simp only [List.mem_cons]
        constructor
        · rintro ((z | z) | z)
          · exact .inr (.inl z)
          · exact .inl z
          · exact .inr (.inr z)
        · rintro (z | z | z)
          · exact .inl (.inr z)
          · exact .inl (.inl z)
          · exact .inr z
  have := gen ks []
  simpa [dedK] using this
/-! ### the set as a tracked object -/
def SetO (w : World) (a : Addr) (l : List Key) : HO := .ext fun h => SetL w h a l
theorem setO_ok {P : Program} {w : World} {H : Hp} {h : Heap} {a : Addr} {l : List Key} (R : SetL w h a l) : ObjOk P w H h a (SetO w a l) := by
  obtain ⟨o, _, _, _, ho, _⟩ := R.ex
  exact ⟨R, ⟨o, ho⟩, fun h1 h2 p k => p.at k⟩
def rSetM (w : World) : List V → Hp → VK → Prop := fun vs H Q => ∃ x R o a ds ks, vs = [x] ∧ RS H (o ++ R) ∧ Has R x a o ∧ itemsF a = some ds ∧ keysD ds = some ks ∧ ks.length < scanBound ∧ ∀ p, H p = none → RS (L2.upd H p (SetO w p (dedK ks))) R → Q (.ref p) (L2.upd H p (SetO w p (dedK ks)))
section
variable {X : Cx}
theorem RS.newO {H : Hp} {R : List Rt} {p : Addr} {o : HO} (h : RS H R) (hn : H p = none) : RS (L2.upd H p o) R := by
  obtain ⟨G, as, s, r, nd, no, _⟩ := h.x.new hn (o := o)
  rw [List.cons_append, List.nil_append] at nd no
  exact ⟨G, as, s, r, (List.nodup_cons.mp nd).2, fun b m => no b (List.mem_cons_of_mem _ m)⟩
theorem cr_setM (hc : X.calm = true) : CallR X (.type "set") (rSetM X.w) := by
  intro pins s σ H vs us Q I r h
  obtain ⟨x, R, o, a, ds, ks, rfl, rs, hh, e, ek, few, q⟩ := h
  obtain ⟨p, ws, rfl, rd, l, k⟩ := rs.items hh e
  obtain ⟨u, rfl, ru⟩ := vals1 r
  cases ru
  obtain ⟨its, rv, pl, _⟩ := I.list (.inl rd)
  obtain ⟨as, ra⟩ := reads_list I rv l k
  have ed := keysD_map ek
  subst ed
  have rel : PySem.W.EachIs (fun (v : Value) (k : Key) => keyIs k v = true) its ks := by
    clear rv k l q few ek e hh rs rd pl
    induction ks generalizing its as with
    | nil =>
      cases ra
      exact .nil
    | cons k ks ih =>
      cases ra with
      | cons r rs =>
        refine .cons ?_ (ih _ _ rs)
        cases k with
        | inl i =>
          cases r
          simp [kD, keyIs, Value.isInt]
        | inr x =>
          cases r
          simp [kD, keyIs, Value.isStrOf]
  have hn : H s.heap.objs.size = none := I.hok.fresh (Nat.le_refl _)
  refine call_setL (I.ok.hd hc) pl.isList (by simpa using rel) few fun h' tk D kp => ?_
  exact ⟨.ref _, _, I.laid (t' := tk) kp (Nat.le_refl _) (setO_ok D), rfl, q _ hn (RS.newO k.dropL hn)⟩
def rSrtS (w : World) : List V → Hp → VK → Prop := fun vs H Q => ∃ p l R, vs = [.ref p] ∧ H p = some (SetO w p l) ∧ srtOk (l.map kD) = true ∧ RS H R ∧ ∀ z H', RS H' ((z, fzL ((l.map kD).mergeSort leD)) :: R) → Q z H'
theorem cr_srtS (hc : X.calm = true) (hu : X.A.units + 150 < cLine) : CallR X (.builtin "sorted") (rSrtS X.w) := by
  intro pins s σ H vs us Q I r h
  obtain ⟨a, l, R, rfl, ha, ok, rs, q⟩ := h
  obtain ⟨u, rfl, ru⟩ := vals1 r
  cases ru
  obtain ⟨k1, k2, k3⟩ := srtOk_of ok
  obtain ⟨⟨o, es, ep, t, ho, ex, hd, g, pm, fit, ris, led⟩, nd, few⟩ : SetL X.w s.heap a l := (I.hok a _ ha).1
  have n1 : es.size = l.length := by rw [← pm.length_eq, List.length_map, Array.length_toList]
  refine Calls.call_function_entry kind_sorted plain_sorted entry_sorted (args_sorted1 _) ?_
  unfold Builtin.«sorted»
  refine wpAny_bind (m := checkCount "sorted" 1 1 _) (wpAny_pure ?_)
  refine wpAny_bind (collect_set (A := X.A.in1) (I.ok.hd hc) ⟨o, ho, ex.1, hd⟩ fit (by omega) ris led fun s1 vs kp sz g1 o1 pv => ?_)
  -- the values and their keys
  have kv : ∀ v ∈ vs, ∃ k, keyIs k v = true := fun v m => by
    obtain ⟨e, me, rfl⟩ := List.mem_map.mp (pv.mem_iff.mp m)
    obtain ⟨k, h1, _⟩ := g e me
    exact ⟨k, h1⟩
  have pk : (vs.map fun v => kE (0, v)).Perm l := by
    have z := pv.map fun v => kE (0, v)
    rw [List.map_map] at z
    exact z.trans pm
  obtain ⟨ks, ek⟩ : ∃ ks, ks = vs.map fun v => kE (0, v) := ⟨_, rfl⟩
  rw [← ek] at pk
  have each : ∀ {Rl : Value → Key → Prop}, (∀ v k, keyIs k v = true → Rl v k) → PySem.W.EachIs Rl vs ks := fun {Rl} f => by
    subst ek
    clear pk pv
    induction vs with
    | nil => exact .nil
    | cons v vs ih =>
      refine .cons ?_ (ih fun v m => kv v (List.mem_cons_of_mem _ m))
      obtain ⟨k, hk⟩ := kv v List.mem_cons_self
      have : kE (0, v) = k := kE_of (e := (0, v)) hk
      show Rl v (kE (0, v))
      rw [this]
      exact f v k hk
  have al : PySem.W.AllAlike (ks.map kD) := fun d m d' m' => k1 d ((pk.map kD).mem_iff.mp m) d' ((pk.map kD).mem_iff.mp m')
  have so : PySem.W.Sortable (ks.map kD) := k2.imp (fun z d m => z d ((pk.map kD).mem_iff.mp m)) fun z d m => z d ((pk.map kD).mem_iff.mp m)
  have vl : vs.length = ks.length := by rw [ek, List.length_map]
  have fl : ks.length ≤ sizeLine := by
    rw [pk.length_eq]
    exact fits_of_scanBound few
  refine wpAny_bind (wpAny_newList ?_ (by omega))
  have ol : (s1.heap.push (seqObj "list" vs.toArray 0)).get? s1.heap.objs.size = some (seqObj "list" vs.toArray 0) := Heap.get?_push_size _ rfl
  refine wpAny_bind (wpAny_holding (PySem.W.list_sort_data (s := { s1 with heap := s1.heap.push (seqObj "list" vs.toArray 0) }) (enc := kD) (bs := ks) (R := fun (v : Value) (k : Key) => keyIs k v = true) ol (each fun _ _ z => z) (each fun v k z => ⟨[], keyIs_reads z, fun m => nomatch m⟩) al so fl (fun b m => ?_) fun out nl eo => ?_))
  · have := k3 (kD b) ((pk.map kD).mem_iff.mp (List.mem_map.mpr ⟨b, m, rfl⟩))
    show X.A.units + 1 + 1 + _ < _
    omega
  obtain ⟨c, hc2⟩ := sortedHeap_at (vs := vs) (out := out.toArray) ol
  have kp2 : ∀ b ob, s.heap.get? b = some ob → (sortedHeap (s1.heap.push (seqObj "list" vs.toArray 0)) s1.heap.objs.size vs out.toArray).get? b = some ob := fun b ob e => by
    have z := kp b ob e
    have lt := Heap.lt_size z
    rw [sortedHeap_old (Nat.ne_of_lt lt) (by rw [size_push']; exact Nat.lt_succ_of_lt lt)]
    exact Heap.get?_push_of_some _ z
  have vo : Vals ((ks.mergeSort (PySem.W.dataLe false kD)).map kV) out := by
    generalize ks.mergeSort (PySem.W.dataLe false kD) = js at eo
    clear nl hc2 kp2
    induction eo with
    | nil => exact .nil
    | cons r _ ih =>
      refine .cons ?_ ih
      rcases keyIs_shape r with ⟨i, t, rfl, rfl⟩ | ⟨x, t, rfl, rfl⟩
      · exact ⟨t, rfl⟩
      · exact ⟨t, rfl⟩
  have es2 : (ks.mergeSort (PySem.W.dataLe false kD)).map kD = (l.map kD).mergeSort leD := by
    rw [← sort_perm pk k1, List.map_mergeSort (s := leD) (fun a _ b _ => ?_)]
    rw [PySem.W.dataLe_eq]
    rfl
  have hn : H s1.heap.objs.size = none := I.hok.fresh sz
  have lj : (ks.mergeSort (PySem.W.dataLe false kD)).length ≤ sizeLine := by rw [List.length_mergeSort]; exact fl
  have J : Inv X pins σ (L2.upd H s1.heap.objs.size (.lst ((ks.mergeSort (PySem.W.dataLe false kD)).map kV))) { s with heap := sortedHeap (s1.heap.push (seqObj "list" vs.toArray 0)) s1.heap.objs.size vs out.toArray, gens := s1.gens, drawn := s1.drawn, toks := s1.toks } :=
    I.call (ch := []) (Un.laid kp2 sz hn) (I.hok.laid kp2 sz ⟨by rw [List.length_map]; exact lj, out, c, vo, hc2⟩) (by rw [g1]; exact I.bare) (fun _ z => nomatch z)
  have e1 : ({ s1 with heap := sortedHeap (s1.heap.push (seqObj "list" vs.toArray 0)) s1.heap.objs.size vs out.toArray } : Shared) = { s with heap := sortedHeap (s1.heap.push (seqObj "list" vs.toArray 0)) s1.heap.objs.size vs out.toArray, gens := s1.gens, drawn := s1.drawn, toks := s1.toks } := by
    cases s1
    cases s
    cases o1
    rfl
  refine wpAny_pure ⟨_, rfl, ?_⟩
  show EP X pins σ Q (.ref s1.heap.objs.size) { s1 with heap := _ }
  rw [e1]
  refine ⟨.ref _, _, J, rfl, q _ _ ?_⟩
  rw [← es2]
  generalize ks.mergeSort (PySem.W.dataLe false kD) = js
  have kk : RS H ((js.map kV).zip ((js.map kD).map T.fz) ++ R) := by
    clear J e1 es2 vo lj
    induction js with
    | nil => exact rs
    | cons k js ih =>
      refine ih.add fun G => .fz ?_
      cases k with
      | inl i => exact .int i
      | inr x => exact .str x
  exact kk.newL (by simp) hn
def rLenS (w : World) : List V → Hp → VK → Prop := fun vs H Q => ∃ p l, vs = [.ref p] ∧ H p = some (SetO w p l) ∧ Q (.int (l.length : Nat)) H
theorem cr_lenS : CallR X (.builtin "len") (rLenS X.w) := by
  intro pins s σ H vs us Q I r h
  obtain ⟨a, l, rfl, ha, q⟩ := h
  obtain ⟨u, rfl, ru⟩ := vals1 r
  cases ru
  obtain ⟨⟨o, es, ep, t, ho, ex, hd, g, pm, fit, ris, led⟩, nd, few⟩ : SetL X.w s.heap a l := (I.hok a _ ha).1
  have n1 : es.size = l.length := by rw [← pm.length_eq, List.length_map, Array.length_toList]
  have : scanBound < 2 ^ 63 := by decide
  exact call_len_set ho ex hd fit (by omega) ⟨.int (l.length : Nat), H, I.tok _, ⟨_, by rw [n1]⟩, q⟩
/-! ### the rules -/
def ssG (a : Ag) : Option T := (itemsF a).bind fun ds => (keysD ds).bind fun ks => if ks.length < scanBound ∧ srtOk ((dedK ks).map kD) = true then some (fzL (((dedK ks).map kD).mergeSort leD)) else none
def lsG (a : Ag) : Option T := (itemsF a).bind fun ds => (keysD ds).bind fun ks => if ks.length < scanBound then some (tI ((dedK ks).length : Nat)) else none
variable {e : Expr} {x y : Str} {p p2 pos pos2 : Pos}
theorem ss_arg {f : AF} (hc : X.calm = true) (hg : Gl X y) (hm : X.mg y = none) (hv : bootBuiltins y = some (.type "set")) (ha : PE X e (tA f)) (hn : y ≠ "__name__" := by decide) (hdb : (y == ("__debug__" : Str)) = false := by decide)
    (he : starEach [e] X.env = (false, eval e X.env) :: starEach [] X.env := by rfl) (hpl : (backTo pos2 (starEach [] X.env)).any (·.1) = false := by rfl) :
    PE X (.Call (.Name y p2) [e] [] pos2) fun σ H Q => ∃ τ F a τ' ds ks, Sl σ τ ∧ RS H (slr σ τ ++ F) ∧ f τ = some (a, τ') ∧ itemsF (a.ag τ') = some ds ∧ keysD ds = some ks ∧ ks.length < scanBound ∧
      ∀ q H', Sl σ τ' → H' q = some (SetO X.w q (dedK ks)) → RS H' (slr σ τ' ++ F) → Q (.ref q) H' :=
  (pe_callTy (cr_setM hc) hg hm hv (pa_cons ha pa_nil he) hn hdb he hpl).wk fun σ H Q ⟨τ, F, a, τ', ds, ks, sl, rs, e, ed, ek, few, q⟩ => by
    refine ⟨τ, F, a, τ', sl, rs, e, fun v H' sl' ok rs' => ?_⟩
    refine ⟨v, slr σ τ' ++ F, agr v a, a.ag τ', ds, ks, rfl, rs', has_of sl' ok, ed, ek, few, fun p hp k => q p _ sl' L2.upd_same k⟩
theorem pe_srtset {f : AF} (hc : X.calm = true) (hu : X.A.units + 150 < cLine) (hg : Gl X x) (hm : X.mg x = none) (hv : bootBuiltins x = some (.builtin "sorted")) (hg2 : Gl X y) (hm2 : X.mg y = none) (hv2 : bootBuiltins y = some (.type "set")) (ha : PE X e (tA f))
    (hn : x ≠ "__name__" := by decide) (hdb : (x == ("__debug__" : Str)) = false := by decide) (hn2 : y ≠ "__name__" := by decide) (hdb2 : (y == ("__debug__" : Str)) = false := by decide)
    (he : starEach [e] X.env = (false, eval e X.env) :: starEach [] X.env := by rfl) (hpl : (backTo pos (starEach [] X.env)).any (·.1) = false := by rfl) (hpl2 : (backTo pos2 (starEach [] X.env)).any (·.1) = false := by rfl)
    (he2 : starEach [.Call (.Name y p2) [e] [] pos2] X.env = (false, eval (.Call (.Name y p2) [e] [] pos2) X.env) :: starEach [] X.env := by rfl) : PE X (.Call (.Name x p) [.Call (.Name y p2) [e] [] pos2] [] pos) (tE (v1 ssG f)) :=
  (pe_callB (cr_srtS hc hu) hg hm hv (pa_cons (ss_arg hc hg2 hm2 hv2 ha hn2 hdb2 he hpl2) pa_nil he2) hn hdb he2 hpl).wk fun σ H Q h => by
    obtain ⟨τ, F, t, τ', sl, rs, e, q⟩ := h
    obtain ⟨p1, ep, e1⟩ := Option.bind_eq_some_iff.mp e
    obtain ⟨t1, et, e2⟩ := Option.map_eq_some_iff.mp e1
    cases e2
    obtain ⟨ds, ed, e3⟩ := Option.bind_eq_some_iff.mp et
    obtain ⟨ks, ek, e4⟩ := Option.bind_eq_some_iff.mp e3
    split at e4
    case isFalse => cases e4
    rename_i c
    cases e4
    exact ⟨τ, F, _, _, ds, ks, sl, rs, ep, ed, ek, c.1, fun p H' sl' hp rs' => ⟨p, _, slr σ p1.2 ++ F, rfl, hp, c.2, rs', fun z H2 r2 => q z H2 sl' r2⟩⟩
theorem pe_lenset {f : AF} (hc : X.calm = true) (hg : Gl X x) (hm : X.mg x = none) (hv : bootBuiltins x = some (.builtin "len")) (hg2 : Gl X y) (hm2 : X.mg y = none) (hv2 : bootBuiltins y = some (.type "set")) (ha : PE X e (tA f))
    (hn : x ≠ "__name__" := by decide) (hdb : (x == ("__debug__" : Str)) = false := by decide) (hn2 : y ≠ "__name__" := by decide) (hdb2 : (y == ("__debug__" : Str)) = false := by decide)
    (he : starEach [e] X.env = (false, eval e X.env) :: starEach [] X.env := by rfl) (hpl : (backTo pos (starEach [] X.env)).any (·.1) = false := by rfl) (hpl2 : (backTo pos2 (starEach [] X.env)).any (·.1) = false := by rfl)
    (he2 : starEach [.Call (.Name y p2) [e] [] pos2] X.env = (false, eval (.Call (.Name y p2) [e] [] pos2) X.env) :: starEach [] X.env := by rfl) : PE X (.Call (.Name x p) [.Call (.Name y p2) [e] [] pos2] [] pos) (tE (v1 lsG f)) :=
  (pe_callB cr_lenS hg hm hv (pa_cons (ss_arg hc hg2 hm2 hv2 ha hn2 hdb2 he hpl2) pa_nil he2) hn hdb he2 hpl).wk fun σ H Q h => by
    obtain ⟨τ, F, t, τ', sl, rs, e, q⟩ := h
    obtain ⟨p1, ep, e1⟩ := Option.bind_eq_some_iff.mp e
    obtain ⟨t1, et, e2⟩ := Option.map_eq_some_iff.mp e1
    cases e2
    obtain ⟨ds, ed, e3⟩ := Option.bind_eq_some_iff.mp et
    obtain ⟨ks, ek, e4⟩ := Option.bind_eq_some_iff.mp e3
    split at e4
    case isFalse => cases e4
    rename_i c
    cases e4
    exact ⟨τ, F, _, _, ds, ks, sl, rs, ep, ed, ek, c, fun p H' sl' hp rs' => ⟨p, _, rfl, hp, q _ H' sl' (rs'.addI _)⟩⟩
end
end SW
end
section
/-! SXj: repr of a list, a tuple, a dict. -/
namespace SW
open PySem PySem.Spec PyProof.Rows L2

def dispD : PyData → Bool
  | .list _ => true
  | .tuple _ => true
  | .dict _ => true
  | _ => false
def reprG (a : Ag) : Option T := a.d.bind fun d => if (dispD d && d.showable) = true ∧ d.shown.length ≤ sizeL ∧ d.depth ≤ 100 then some (.fz (.str d.shown)) else none
section
variable {X : Cx}
theorem cr_repr (hg : X.A.guards = some []) (hu : X.A.units + 150 < cLine) (sm : ∃ o, X.base.get? sysModules = some o) : CallR X (.builtin "repr") (r1g reprG) := by
  intro pins s σ H vs us Q I r h
  obtain ⟨x, R, o, a, t, rfl, rs, hh, e, q⟩ := h
  obtain ⟨d, ed, e2⟩ := Option.bind_eq_some_iff.mp e
  split at e2
  case isFalse => cases e2
  rename_i c
  cases e2
  obtain ⟨c1, c2, c3⟩ := c
  simp only [Bool.and_eq_true] at c1
  obtain ⟨u, rfl, ru⟩ := vals1 r
  obtain ⟨as, rd, nn⟩ := (rs.viewM hh.mem ed).readsN I ru
  obtain ⟨ob, eo⟩ := sm
  have free : H sysModules = none := (I.bs _ _ eo).2
  obtain ⟨p, rfl⟩ : ∃ p, u = .ref p := by
    cases rd <;> first | exact ⟨_, rfl⟩ | cases c1.1
  refine repr_of_reads' (h₀ := s.heap) rd c1.2 (fun _ m => nn _ m free) hg (by omega) (fun _ _ z => z) (fun h' tk n kp => ?_) (by rw [← sizeL_eq]; exact c2)
  exact ⟨.str d.shown, H, I.kept kp, ⟨_, rfl⟩, q _ _ (rs.dropL.add fun _ => .fz (.str _))⟩
end
end SW
end
section
/-! SXk: dict(list of pairs). -/
namespace SW
open PySem PySem.Spec PyProof.Rows L2

section
variable {prog : Program} {w : World} {A : Around} {E : Value → Shared → Prop}
/-- the loop over pairs; what the dict holds is said by DS -/
theorem pair_loop {R : Result → Shared → Prop} {S I l : Addr} {its : Array Value} {res : Value} (DS : Nat → Shared → Prop) (pr : Nat → Value → Value → Prop) (hh : A.handled = none) (lI : l ≠ I) (SI : S ≠ I) (Sl : S ≠ l)
    (turn : ∀ i s h', DS i s → (∀ b o, b ≠ I → s.heap.get? b = some o → h'.get? b = some o) → DS i { s with heap := h' })
    (put : ∀ i s u v (Q : Unit → Shared → Prop) (E' : Value → Shared → Prop), DS i s → pr i u v → (∀ s', (∀ b o, b ≠ S → s.heap.get? b = some o → s'.heap.get? b = some o) → DS (i + 1) s' → Q () s') → wpAny (model prog w) A.in1 (dictSet S u v) Q E' s) (m : Nat) :
    ∀ (i : Nat) (ix : Int) (t : Tok) (s : Shared), its.size - i = m → i ≤ its.size →
      (∀ j, i ≤ j → j < its.size → ∃ (b : Addr) (u v : Value), its[j]? = some (.ref b) ∧ b ≠ S ∧ b ≠ I ∧ IsTup s.heap b #[u, v] ∧ pr j u v) → s.heap.IsListIter I l i → s.heap.IsList l its → DS i s →
      (∀ s', DS its.size s' → (∀ b o, b ≠ S → b ≠ I → s.heap.get? b = some o → s'.heap.get? b = some o) → R (.ok (.ret res)) s') →
      codeAny (model prog w) A (.builtin "dict.update.loop" ⟨[.ref S, .ref I, .int ix t, res], []⟩) R s := by
  induction m with
  | zero =>
    intro i ix t s em le tu it ls ds fin
    obtain rfl : i = its.size := by omega
    refine codeAny_builtin ud_entry ?_
    rw [Around.under_plainId ud_plain _]
    show wpAny _ A.in1 (pyNext (.ref I) >>= fun _ => _) _ _ s
    refine wpAny_bind (wpAny_pyNext_list_end (A := A.in1) hh it ls (Array.getElem?_eq_none (Nat.le_refl _)) fun h' he => ?_)
    show wpAny _ A.in1 (Builtin.Dict.addKeywords S [] >>= fun _ => _) _ _ _
    exact wpAny_bind (wpAny_pure (wpAny_pure (fin _ (turn _ _ _ ds fun b o hb e => he b o hb e) fun b o _ hb e => he b o hb e)))
  | succ m ih =>
    intro i ix t s em le tu it ls ds fin
    have lt : i < its.size := by omega
    obtain ⟨b, u, v, eb, bS, bI, tb, pv⟩ := tu i (Nat.le_refl _) lt
    refine codeAny_builtin ud_entry ?_
    rw [Around.under_plainId ud_plain _]
    show wpAny _ A.in1 (pyNext (.ref I) >>= fun _ => _) _ _ s
    refine wpAny_bind (wpAny_pyNext_list_item (x := .ref b) it ls eb fun h1 it1 sb1 => ?_)
    have tb1 : IsTup h1 b #[u, v] := tb.extBut sb1.extBut bI
    have ls1 : h1.IsList l its := ls.extBut sb1.extBut lI
    obtain ⟨o, ho, hc, n, hd⟩ := id tb1
    show wpAny _ A.in1 (holding [Value.ref b] _ >>= fun _ => _) _ _ _
    refine wpAny_bind (wpAny_holding (wpAny_bind (wpAny_tryCatch ?_)))
    unfold Builtin.Dict.pairItems
    refine wpAny_bind (wpAny_typeOf (T := "tuple") ⟨o, ho, hc⟩ ?_)
    rw [if_pos (by first | decide | rfl | simp)]
    refine wpAny_bind (wpAny_seqItems ho hd (wpAny_pure ?_))
    show wpAny _ A.in1 (holding [u, v] (dictSet S u v)) _ _ _
    refine wpAny_holding (put i _ u v _ _ (turn _ _ _ ds fun c oc hb e => sb1.extBut c oc hb e) pv fun s2 sb2 ds2 => ?_)
    refine wpAny_pure ⟨plainId_quiet ud_plain _, ih (i + 1) (ix + 1) 0 s2 (by omega) lt (fun j hj hl => ?_) (it1.at fun o' e => sb2 I o' (Ne.symm SI) e) (ls1.extBut (fun c oc hb e => sb2 c oc hb e) (Ne.symm Sl)) ds2 fun s' d3 k3 => ?_⟩
    · obtain ⟨b', u', v', eb', bS', bI', tb', pv'⟩ := tu j (by omega) hl
      exact ⟨b', u', v', eb', bS', bI', (tb'.extBut sb1.extBut bI').extBut (fun c oc hb e => sb2 c oc hb e) bS', pv'⟩
    · exact fin s' d3 fun c oc h3 h4 e => k3 c oc h3 h4 (sb2 c oc h3 (sb1.extBut c oc h4 e))
theorem call_pairs {s : Shared} {l : Addr} {ol : Obj} {its : Array Value} {n : Nat} {Q : Value → Shared → Prop} (DS : Nat → Shared → Prop) (pr : Nat → Value → Value → Prop) (hh : A.handled = none) (hl : s.heap.get? l = some ol) (hc : ol.cls = .type "list") (hd : ol.dict = none) (hdat : ol.data = .seq its n)
    (tu : ∀ j, j < its.size → ∃ (b : Addr) (u v : Value), its[j]? = some (.ref b) ∧ IsTup s.heap b #[u, v] ∧ pr j u v)
    (new : ∀ h' tk, h'.get? s.heap.objs.size = some { cls := .type "dict", data := .dict #[] } → s.heap.objs.size < h'.objs.size → (∀ b o, s.heap.get? b = some o → h'.get? b = some o) → DS 0 { s with heap := h', toks := tk })
    (turn : ∀ I i s' h', s.heap.objs.size < I → DS i s' → (∀ b o, b ≠ I → s'.heap.get? b = some o → h'.get? b = some o) → DS i { s' with heap := h' })
    (put : ∀ (A' : Around) i s1 u v (Q : Unit → Shared → Prop) (E' : Value → Shared → Prop), A'.units ≤ A.units + 5 → DS i s1 → pr i u v → (∀ s', (∀ b o, b ≠ s.heap.objs.size → s1.heap.get? b = some o → s'.heap.get? b = some o) → DS (i + 1) s' → Q () s') → wpAny (model prog w) A' (dictSet s.heap.objs.size u v) Q E' s1)
    (q : ∀ s', DS its.size s' → Q (.ref s.heap.objs.size) s') : wpAny (model prog w) A (call (.type "dict") [.ref l]) Q E s := by
  refine callType_codes (Q₁ := fun ob s1 => ob = .ref s.heap.objs.size ∧ s1 = { s with heap := s.heap.push { cls := .type "dict", data := .dict #[] } }) PySem.F.kt_called_dict (PySem.F.kt_typeCall_dict_1 _) PySem.F.entry_dict_init (kt_code_dict_new _ ⟨rfl, rfl⟩) ?_
  rintro ob s1 ⟨rfl, rfl⟩
  have top : (s.heap.push { cls := .type "dict", data := .dict #[] }).get? s.heap.objs.size = some { cls := .type "dict", data := .dict #[] } := Heap.get?_push_size _ rfl
  have k0 : ∀ b o, s.heap.get? b = some o → (s.heap.push { cls := .type "dict", data := .dict #[] }).get? b = some o := fun b o e => Heap.get?_push_of_some _ e
  have ty : Shared.TypeIs { s with heap := s.heap.push { cls := .type "dict", data := .dict #[] } } (.ref s.heap.objs.size) "dict" := ⟨_, top, rfl⟩
  refine ⟨ty, PySem.F.args_dict_init_2 _ _, ?_⟩
  unfold Builtin.«dict.__init__»
  refine wpAny_bind ?_
  unfold Builtin.Dict.selfAndRest
  refine wpAny_bind (wpAny_notOrdered_dict ty ?_)
  show wpAny _ _ (pure (s.heap.objs.size, [Value.ref l])) _ _ _
  refine wpAny_pure ?_
  show wpAny _ _ (Builtin.Dict.updateFrom "dict.__init__" s.heap.objs.size (.ref l) [] .none) _ _ _
  unfold Builtin.Dict.updateFrom
  refine wpAny_bind (wpAny_typeOf (T := "list") ⟨ol, k0 _ _ hl, hc⟩ ?_)
  rw [if_pos (by first | decide | rfl | simp)]
  refine wpAny_bind (miss_list (k0 _ _ hl) hc hdat hd hh fun h1 tk1 k1 => ?_)
  rw [if_pos (show (none : Option Value).isNone = true from rfl)]
  refine wpAny_bind (wpAny_rule ?_)
  have ls1 : h1.IsList l its := ⟨ol, k1 _ _ (k0 _ _ hl), hc, n, hdat⟩
  have below : s.heap.objs.size < h1.objs.size := Heap.lt_size (k1 _ _ top)
  refine wpAny_bind (wpAny_pyIter_list ls1 ?_)
  have k2 : ∀ b o, h1.get? b = some o → (h1.push { cls := .type "list_iterator", data := .fields #[.ref l, .int 0 0] }).get? b = some o := fun b o e => Heap.get?_push_of_some _ e
  have ll : l < s.heap.objs.size := Heap.lt_size hl
  have key := pair_loop (prog := prog) (w := w) (A := A.in1) (R := wants (fun r s₂ => r = .none ∧ Q (.ref s.heap.objs.size) s₂) E) (S := s.heap.objs.size) (I := h1.objs.size) (l := l) (its := its) (res := Value.none) DS pr hh
    (Nat.ne_of_lt (Nat.lt_trans ll below)) (Nat.ne_of_lt below) (Nat.ne_of_gt ll) (fun i s' h' d k => turn _ i s' h' below d k) (fun i s1 u v Q' E' d p k => put _ i s1 u v Q' E' (by show A.units + 1 + 1 ≤ _; omega) d p k) (its.size - 0) 0 0 0
    { s with heap := h1.push { cls := .type "list_iterator", data := .fields #[.ref l, .int 0 0] }, toks := tk1 } rfl (Nat.zero_le _)
    (fun j _ hj => by
      obtain ⟨b, u, v, e1, e2, e3⟩ := tu j hj
      have hb : b < s.heap.objs.size := e2.lt
      exact ⟨b, u, v, e1, Nat.ne_of_lt hb, Nat.ne_of_lt (Nat.lt_trans hb below), e2.keeps fun c o z => k2 _ _ (k1 _ _ (k0 _ _ z)), e3⟩)
    ⟨_, Heap.get?_push_size _ rfl, rfl, rfl⟩ (ls1.at fun o e => k2 _ _ e) (new _ tk1 (k2 _ _ (k1 _ _ top)) (by rw [Heap.size_push]; exact Nat.lt_succ_of_lt below) fun b o e => k2 _ _ (k1 _ _ (k0 _ _ e)))
    fun s' d _ => ⟨rfl, q s' d⟩
  first
    | exact wpAny_pure ⟨plainId_quiet ud_plain _, key⟩
    | exact wpAny_bind (wpAny_pure (wpAny_pure ⟨plainId_quiet ud_plain _, key⟩))
end
end SW
end
section
/-! SXl: dict(list of pairs) over the trees. -/
namespace SW
open PySem PySem.Spec PyProof.Rows L2

def pairTT (t : T) : Option (T × T) := match kidsT (true, t) with
  | some [a, b] => some (a, b)
  | _ => none
def pairsT : List T → Option (List (PyData × T))
  | [] => some []
  | t :: ts => (pairTT t).bind fun p => p.1.toD.bind fun k => (pairsT ts).map fun r => (k, p.2) :: r
def dictPs : List (PyData × T) → List (PyData × T) → Option (List (PyData × T))
  | [], acc => some acc
  | p :: ps, acc => if kOk p.1 acc && decide (acc.length < sizeL) then dictPs ps (kPut p.1 p.2 acc) else none
/-- the roots of pairs: key, value -/
def prR : List (Addr × V × V) → List (PyData × T) → List Rt
  | p :: ps, q :: qs => (p.2.1, .fz q.1) :: (p.2.2, q.2) :: prR ps qs
  | _, _ => []
theorem two_mid {α : Type} (a b : α) (L R : List α) : (a :: b :: (L ++ R)).Perm (L ++ (a :: b :: R)) :=
  ((List.perm_middle (l₁ := L) (l₂ := b :: R) (a := a)).trans (List.Perm.cons _ List.perm_middle)).symm
theorem pairs_open {H : Hp} : ∀ {vs : List V} {ts : List T} {qs : List (PyData × T)} {R : List Rt}, vs.length = ts.length → pairsT ts = some qs → RS H (vs.zip ts ++ R) →
    ∃ ps : List (Addr × V × V), vs = ps.map (fun p => V.ref p.1) ∧ ps.length = qs.length ∧ (∀ p ∈ ps, Rd H p.1 (.tup [p.2.1, p.2.2])) ∧ RS H (prR ps qs ++ R)
  | [], [], _, R, _, e, h => by
    cases e
    exact ⟨[], rfl, rfl, fun _ m => (nomatch m), h⟩
  | v :: vs, t :: ts, _, R, l, e, h => by
    obtain ⟨p, ep, e1⟩ := Option.bind_eq_some_iff.mp e
    obtain ⟨k, ek, e2⟩ := Option.bind_eq_some_iff.mp e1
    obtain ⟨qs, eq_, e3⟩ := Option.map_eq_some_iff.mp e2
    cases e3
    unfold pairTT at ep
    split at ep
    case h_2 => cases ep
    rename_i a b ek2
    cases ep
    have h0 : RS H ((v, t) :: (vs.zip ts ++ R)) := h
    obtain ⟨q, ws, rfl, rd, lw, k1⟩ := RS.kidsT (o := [(v, t)]) (R := []) (g := (true, t)) (x := v) (h := h0) (.inl ⟨rfl, rfl⟩) (fun _ m => nomatch m) ek2
    obtain ⟨y, w, rfl⟩ : ∃ y w, ws = [y, w] := by
      cases ws with
      | nil => cases lw
      | cons y ws =>
        cases ws with
        | nil => cases lw
        | cons w ws =>
          cases ws with
          | nil => exact ⟨y, w, rfl⟩
          | cons _ _ => cases lw
    have k2 : RS H ((y, .fz k) :: (w, b) :: (vs.zip ts ++ R)) := RS.freeze (t := a) k1 ek
    have k3 : RS H (vs.zip ts ++ ((y, .fz k) :: (w, b) :: R)) := k2.perm (two_mid _ _ _ _)
    obtain ⟨ps, rfl, lp, rp, k4⟩ := pairs_open (R := (y, .fz k) :: (w, b) :: R) (by simpa using l) eq_ k3
    refine ⟨(q, y, w) :: ps, rfl, by simp [lp], fun p m => ?_, ?_⟩
    · rcases List.mem_cons.mp m with rfl | m
      · exact rd
      · exact rp p m
    · exact k4.perm (two_mid _ _ _ _).symm
  | [], _ :: _, _, _, l, _, _ => by cases l
  | _ :: _, [], _, _, l, _, _ => by cases l
theorem DSto.other {H H' : Hp} {a b : Addr} {y v : V} (g : DSto H a y v H') (h : b ≠ a) : H' b = H b := by
  cases g with
  | gt g =>
    rcases g with ⟨kvs, kk, e, rfl, l, rfl⟩ | ⟨kvs, ks, c, e, rfl, eb, l, rfl⟩ <;> exact L2.upd_ne h
  | eK => exact L2.upd_ne h
  | eT => exact L2.upd_ne h
theorem prR_drop {ps : List (Addr × V × V)} {qs : List (PyData × T)} {i : Nat} {p : Addr × V × V} {q : PyData × T} (hp : ps[i]? = some p) (hq : qs[i]? = some q) : prR (ps.drop i) (qs.drop i) = (p.2.1, .fz q.1) :: (p.2.2, q.2) :: prR (ps.drop (i + 1)) (qs.drop (i + 1)) := by
  obtain ⟨h1, rfl⟩ := List.getElem?_eq_some_iff.mp hp
  obtain ⟨h2, rfl⟩ := List.getElem?_eq_some_iff.mp hq
  rw [List.drop_eq_getElem_cons h1, List.drop_eq_getElem_cons h2]
  rfl
def dictPG (a : Ag) : Option T := (kidsL a).bind fun ts => if ts.length ≤ sizeL then (pairsT ts).bind fun qs => (dictPs qs []).map .dct else none
section
variable {X : Cx}
theorem cr_dictP (hc : X.calm = true) (hu : X.A.units + 150 < cLine) : CallR X (.type "dict") (r1g dictPG) := by
  intro pins s σ H vs us Q I r h
  obtain ⟨x, R, o, a, t, rfl, rs, hh, e, q⟩ := h
  obtain ⟨ts, ek, e1⟩ := Option.bind_eq_some_iff.mp e
  split at e1
  case isFalse => cases e1
  obtain ⟨qs, eq_, e2⟩ := Option.bind_eq_some_iff.mp e1
  obtain ⟨fin, ef, rfl⟩ := Option.map_eq_some_iff.mp e2
  obtain ⟨p, ws, rfl, rd, l, k⟩ := rs.kidsL hh (fun _ m => m) ek
  obtain ⟨ps, rfl, lp, rp, k1⟩ := pairs_open l eq_ k
  obtain ⟨u, rfl, ru⟩ := vals1 r
  cases ru
  obtain ⟨its, rv, pl, _⟩ := I.list (.inl rd)
  have ei : its = ps.map fun p => Value.ref p.1 := by
    have z := L2.refs_at (ps := ps.map (·.1)) (us := its) (by rw [List.map_map]; exact rv)
    rw [z, List.map_map]
    rfl
  subst ei
  obtain ⟨ol, n, ho, hc1, hd, hdat⟩ := pl
  have sz : (ps.map fun p => Value.ref p.1).toArray.size = ps.length := by simp
  have fp : ∀ b, s.heap.objs.size ≤ b → ∀ {H' : Hp}, H' b = none → FpOk X pins H' b := fun b hb H' hn => by
    obtain ⟨_, g1, g2, g3, g4, g5⟩ := I.fpOk hb (I.hok.fresh hb)
    exact ⟨hn, g1, g2, g3, g4, g5⟩
  refine call_pairs (DS := fun i s' => ∃ Hi acc, Inv X pins σ Hi s' ∧ (∀ b, s.heap.objs.size < b → Hi b = none) ∧ RS Hi ((.ref s.heap.objs.size, .dct acc) :: (prR (ps.drop i) (qs.drop i) ++ R)) ∧ dictPs (qs.drop i) acc = some fin)
    (pr := fun i u v => ∃ p, ps[i]? = some p ∧ RelV p.2.1 u ∧ RelV p.2.2 v) (I.ok.hd hc) ho hc1 hd hdat (fun j hj => ?_) (fun h' tk top big kp => ?_) (fun J i s' h' hJ ⟨Hi, acc, Ii, fr, ri, ei⟩ kp => ?_) (fun A' i s1 u v Q' E' room ⟨Hi, acc, Ii, fr, ri, ei⟩ ⟨p, hp, ry, rw'⟩ kk => ?_) fun s' ⟨Hi, acc, Ii, fr, ri, ei⟩ => ?_
  · have hj : j < ps.length := by rw [← sz]; exact hj
    have m : ps[j] ∈ ps := List.getElem_mem hj
    obtain ⟨itv, rv2, tup, _⟩ := I.tuple (.inl (rp _ m))
    obtain ⟨u, y, rfl, r1, r2⟩ := vals2 rv2
    exact ⟨ps[j].1, u, y, by simp [hj], tup, ps[j], List.getElem?_eq_getElem hj, r1, r2⟩
  · have hn : H s.heap.objs.size = none := I.hok.fresh (Nat.le_refl _)
    have dd : h'.DictOf (mixKind X.prog X.w) s.heap.objs.size [] := (Heap.DictOf.new (knd := mixKind X.prog X.w) s.heap).at fun o e => by
      rw [Heap.get?_push_size _ rfl] at e
      cases e
      exact top
    refine ⟨L2.upd H s.heap.objs.size (.dK []), [], I.laid (t' := tk) kp (Nat.le_refl _) (dk_new (kvs := []) (Nat.zero_le _) (beq_eq_false_iff_ne.mpr (Ne.symm (Nat.ne_of_lt I.big))) .nil dd), fun b hb => ?_, ?_, ef⟩
    · rw [L2.upd_ne (Nat.ne_of_gt hb)]
      exact I.hok.fresh (Nat.le_of_lt hb)
    · exact (k1.x.newK (qs := []) hn).s
  · refine ⟨Hi, acc, ?_, fr, ri, ei⟩
    exact Ii.turnedL (t' := s'.toks) (ch := [J]) (fun b o hb e => kp b o (fun z => hb (by rw [z]; exact List.mem_singleton.mpr rfl)) e) fun b m => by
      cases List.mem_singleton.mp m
      exact fp J (Nat.le_of_lt hJ) (fr J hJ)
  · have hi : i < qs.length := by
      rw [← lp]
      exact (List.getElem?_eq_some_iff.mp hp).1
    have hq : qs[i]? = some qs[i] := List.getElem?_eq_getElem hi
    rw [prR_drop hp hq] at ri
    rw [List.drop_eq_getElem_cons hi] at ei
    unfold dictPs at ei
    split at ei
    case isFalse => cases ei
    rename_i okk
    simp only [Bool.and_eq_true, decide_eq_true_eq] at okk
    have r1 : RS Hi ((p.2.1, .fz qs[i].1) :: ((.ref s.heap.objs.size, .dct acc) :: ((p.2.2, qs[i].2) :: (prR (ps.drop (i + 1)) (qs.drop (i + 1)) ++ R)))) := ri.perm (.swap _ _ _)
    have vk : View Hi p.2.1 qs[i].1 := r1.view rfl
    obtain ⟨b, H6, eb, sto, r8⟩ := dict_put Ii r1.tail vk okk.1 okk.2
    cases eb
    refine dq_put (by omega) Ii sto ry rw' fun s' kp I' => kk s' kp ⟨H6, _, I', fun b hb => ?_, r8, ei⟩
    rw [sto.other (Nat.ne_of_gt hb)]
    exact fr b hb
  · rw [sz] at ri ei
    rw [List.drop_eq_nil_of_le (by omega)] at ei
    cases ei
    have r1 : RS Hi ((.ref s.heap.objs.size, .dct fin) :: R) := ri.perm (.cons _ (by
      rw [List.drop_eq_nil_of_le (Nat.le_refl _)]
      exact .refl _))
    exact ⟨.ref _, Hi, Ii, rfl, q _ _ r1⟩
end
end SW
end
section
/-! SXm: x[k] as a target among others. -/
namespace SW
open PySem PySem.Spec PyProof.Rows L2

def tgS (j : Nat) (k : AF) : Tg := .fn fun t τ => if live (gT τ j) then (k τ).bind fun q => (q.1.ag q.2).d.bind fun kd => (setG (gT q.2 j) kd t).map fun t' => q.2.set j t' else none
section
variable {X : Cx} {i : Expr} {x : Str} {pos' npos : Pos}
theorem g_sub {j : Nat} {k : AF} (hu : X.A.units + 1 < cLine) (hN : X.N[j]? = some x) (hv : Vis X.env.scope x) (hi : PE X i (tA k)) (hd : (x == ("__debug__" : Str)) = false := by decide) (hcd : (x == ("__classdict__" : Str)) = false := by decide)
    (hsub : ∀ v, assign (.Subscript (.Name x npos) i pos') X.env v = (do
      let ov ← holding [v] (eval (.Name x npos) X.env)
      let iv ← holding [v, ov] (eval i X.env)
      standAt pos'
      holding [v, ov, iv] (setItem ov iv v)
      release [v, ov, iv] []) := by intro _; rfl) : PG X (.Subscript (.Name x npos) i pos') (tG (tgS j k)) :=
  (g_set hu hN hv hi hd hcd hsub).wk fun v σ H Q h => by
    obtain ⟨τ, F, t, τ', sl, rs, e, q⟩ := h
    have e : (if live (gT τ j) then (k τ).bind fun q => (q.1.ag q.2).d.bind fun kd => (setG (gT q.2 j) kd t).map fun t' => q.2.set j t' else none) = some τ' := e
    split at e
    case isFalse => cases e
    rename_i lv
    obtain ⟨p, ep, e1⟩ := Option.bind_eq_some_iff.mp e
    obtain ⟨kd, ek, e2⟩ := Option.bind_eq_some_iff.mp e1
    obtain ⟨t', et, e3⟩ := Option.map_eq_some_iff.mp e2
    cases e3
    exact set_of sl rs ep ek et (live_ne lv) fun H' sl' rs' => q σ H' .refl sl' rs'
end
end SW
end
section
/-! SXn: list(d.items()). -/
namespace SW
open PySem PySem.Spec PyProof.Rows L2

theorem list_items {prog : Program} {w : World} {A : Around} {E : Value → Shared → Prop} {s : Shared} {r d : Addr} {es : Array DictEntry} {ep : Nat} {Q : Value → Shared → Prop} (hh : A.handled = none) (hv : s.heap.IsItemsView r d) (hm : DT.Raw s.heap d es ep) (few : es.size ≤ sizeLine)
    (q : ∀ h' tk acc c as, (∀ b o, s.heap.get? b = some o → h'.get? b = some o) → h'.get? s.heap.objs.size = some { cls := .type "list", dict := none, data := .seq acc c, slots := #[] } → as.length = es.size → DT.Made es s.heap.objs.size h' as → acc.toList = as.map Value.ref →
      Q (.ref s.heap.objs.size) { s with heap := h', toks := tk }) : wpAny (model prog w) A (call (.type "list") [.ref r]) Q E s := by
  refine callType_codes (Q₁ := fun ob s1 => ob = .ref s.heap.objs.size ∧ s1 = { s with heap := s.heap.push { cls := .type "list", data := .seq #[] } }) PySem.F.called_list (PySem.F.typeCall_list_1 _) PySem.F.entry_list_init (code_list_new _ ⟨rfl, rfl⟩) fun ob s1 h1 => ?_
  obtain ⟨rfl, rfl⟩ := h1
  have top : (s.heap.push { cls := .type "list", data := .seq #[] }).get? s.heap.objs.size = some { cls := .type "list", data := .seq #[] } := Heap.get?_push_size _ rfl
  have lr : r < s.heap.objs.size := by
    obtain ⟨_, ho, _⟩ := hv
    exact Heap.lt_size ho
  have ld : d < s.heap.objs.size := hm.lt
  have nr : s.heap.objs.size ≠ r := Nat.ne_of_gt lr
  have nd : d ≠ s.heap.objs.size := Nat.ne_of_lt ld
  refine ⟨⟨_, top, rfl⟩, PySem.F.args_list_init_2 _ _, ?_⟩
  show wpAny _ _ (do
    let old ← Builtin.List.listItems (.ref s.heap.objs.size)
    Builtin.List.listUpdate (.ref s.heap.objs.size) (fun _ => #[])
    letGo old.toList.reverse
    Builtin.List.listExtendWith (.ref s.heap.objs.size) (.ref r) .none) _ _ _
  refine wpAny_bind ?_
  unfold Builtin.List.listItems
  refine wpAny_bind (wpAny_seqItems top rfl (wpAny_pure ?_))
  show wpAny _ _ (updateSeq s.heap.objs.size (fun _ => #[]) >>= fun _ => letGo (#[] : Array Value).toList.reverse >>= fun _ => _) _ _ _
  refine wpAny_bind (wpAny_updateSeq top rfl ?_)
  have top2 := Heap.get?_update_self (Obj.mapSeq (fun _ => (#[] : Array Value))) top rfl
  obtain ⟨c2, top3⟩ : ∃ c, ((s.heap.push { cls := .type "list", data := .seq #[] }).update s.heap.objs.size (Obj.mapSeq (fun _ => (#[] : Array Value)))).get? s.heap.objs.size = some { cls := .type "list", data := .seq #[] c } := ⟨_, top2⟩
  have other : ∀ b o, b ≠ s.heap.objs.size → (s.heap.push { cls := .type "list", data := .seq #[] }).get? b = some o → ((s.heap.push { cls := .type "list", data := .seq #[] }).update s.heap.objs.size (Obj.mapSeq (fun _ => (#[] : Array Value)))).get? b = some o :=
    fun b o hb e => (Heap.get?_update_other _ _ (Ne.symm hb)).trans e
  have up : ∀ b o, s.heap.get? b = some o → ((s.heap.push { cls := .type "list", data := .seq #[] }).update s.heap.objs.size (Obj.mapSeq (fun _ => (#[] : Array Value)))).get? b = some o := fun b o e =>
    other b o (Nat.ne_of_lt (Heap.lt_size e)) (Heap.get?_push_of_some _ e)
  refine wpAny_bind (wpAny_letGo ?_)
  refine DT.extI (A := A.in1) (R := wants (fun r s₂ => r = Value.none ∧ Q (Value.ref s.heap.objs.size) s₂) E) (es := es) (ep := ep) hh ?view ?raw s.heap.objs.size nr nd .none c2 ?at_ (fun h' tk acc c as kp hs hl made ea => ?fin) few
  case view =>
    obtain ⟨o, ho, x⟩ := hv
    exact ⟨o, up r o ho, x⟩
  case raw => exact hm.at' fun o e => up d o e
  case at_ => exact top3
  case fin => exact ⟨rfl, q h' tk acc c as (fun b o e => kp b o (Nat.ne_of_lt (Heap.lt_size e)) (up b o e)) hs hl (made.low (Nat.le_of_lt (Heap.lt_size top2))) ea⟩
end SW
end
section
/-! SXo: list(d.items()) over the trees. -/
namespace SW
open PySem PySem.Spec PyProof.Rows L2

theorem refs_vals : ∀ as : List Addr, Vals (as.map V.ref) (as.map Value.ref)
  | [] => .nil
  | _ :: as => .cons rfl (refs_vals as)
theorem KeyAt.mono {H H' : Hp} {u : HO} {i : Nat} {y : V} (h : KeyAt H u i y) (x : ∀ b o, H b = some o → H' b = some o) : KeyAt H' u i y := by
  unfold KeyAt at *
  cases u with
  | dT kvs =>
    obtain ⟨k, v, q, e1, e2, e3⟩ := h
    exact ⟨k, v, q, e1, e2, x _ _ e3⟩
  | dK kvs => exact h
  | _ => exact h.elim
def itT (kvs : List (PyData × PyData)) : List T := kvs.map fun q => .fz (.tuple [q.1, q.2])
def vItL (f : VF) : VF := fun τ => (f τ).bind fun p => (dKvs p.1).bind fun kvs => if kvs.length ≤ sizeL then some (.lst (itT kvs), p.2) else none
section
variable {X : Cx} {pins : List (Addr × Obj)} {σ : L2.St} {H : Hp} {s : Shared} {R : List Rt}
theorem track_items {d : Addr} {o : Obj} {u : HO} {kvs : List (PyData × PyData)} {its : List (V × PyData)} {es : Array DictEntry} {h' : Heap} {tk : Nat} {as : List Addr} (I : Inv X pins σ H s) (du : DU u kvs its) (rs : RS H (PD d o u its 0 ++ R)) (kp : ∀ b ob, s.heap.get? b = some ob → h'.get? b = some ob)
    (sz : es.size = kvs.length) (ent : ∀ i, i < es.size → ∃ en y v, es[i]? = some en ∧ RelV y en.key ∧ RelV v en.val ∧ KeyAt H u i y ∧ ValAt u i v) (la : as.length = es.size) (made : DT.Made es s.heap.objs.size h' as) : ∀ j, j ≤ as.length →
    ∃ Hj, Inv X pins σ Hj { s with heap := h', toks := tk } ∧ (∀ b ob, H b = some ob → Hj b = some ob) ∧ (∀ a, s.heap.objs.size ≤ a → a ∉ as.take j → Hj a = none) ∧ RS Hj (((as.take j).map V.ref).zip ((itT kvs).take j) ++ (PD d o u its j ++ R))
  | 0, _ => ⟨H, I.kept kp, fun _ _ e => e, fun a ha _ => I.hok.fresh ha, rs⟩
  | j + 1, hj => by
    obtain ⟨Hj, Ij, up, fr, rj⟩ := track_items (tk := tk) I du rs kp sz ent la made j (by omega)
    have ea : as[j]? = some as[j] := List.getElem?_eq_getElem (by omega)
    have hk : j < kvs.length := by omega
    have ek : kvs[j]? = some kvs[j] := List.getElem?_eq_getElem hk
    obtain ⟨en, y, v, e1, r1, r2, ky, vv⟩ := ent j (by omega)
    obtain ⟨en', e1', ob⟩ := made.pairs j _ ea
    rw [e1] at e1'
    cases e1'
    have above : s.heap.objs.size < as[j] := made.above _ (List.getElem_mem (by omega))
    have out : as[j] ∉ as.take j := fun m => by
      obtain ⟨i, hi, e⟩ := List.getElem_of_mem m
      rw [List.getElem_take] at e
      rw [List.length_take] at hi
      have := List.pairwise_iff_getElem.mp made.rise i j (by omega) (by omega) (by omega)
      rw [e] at this
      exact Nat.lt_irrefl _ this
    have hn : Hj as[j] = none := fr _ (Nat.le_of_lt above) out
    have f0 : FpOk X pins Hj as[j] := by
      obtain ⟨_, g1, g2, g3, g4, g5⟩ := I.fpOk (Nat.le_of_lt above) (I.hok.fresh (Nat.le_of_lt above))
      exact ⟨hn, g1, g2, g3, g4, g5⟩
    have I2 : Inv X pins σ (L2.upd Hj as[j] (.tup [y, v])) { s with heap := h', toks := tk } := Ij.take (h' := h') (t' := tk) (fun b ob _ e => e) f0 ⟨by show 2 ≤ sizeLine; decide, [en.key, en.val], .cons r1 (.cons r2 .nil), ⟨_, ob, rfl, 0, rfl⟩⟩
    refine ⟨_, I2, fun b ob e => ?_, fun a ha na => ?_, ?_⟩
    · rw [L2.upd_ne (fun z => by subst z; rw [up _ _ e] at hn; cases hn)]
      exact up b ob e
    · rw [List.take_add_one, ea] at na
      have n1 : a ∉ as.take j := fun m => na (List.mem_append_left _ m)
      have n2 : a ≠ as[j] := fun z => na (List.mem_append_right _ (by rw [z]; exact List.mem_singleton.mpr rfl))
      rw [L2.upd_ne n2]
      exact fr a ha n1
    · have r3 : RS Hj (PD d o u its j ++ (((as.take j).map V.ref).zip ((itT kvs).take j) ++ R)) := RS.swap rj
      have r4 := pairT (t := .fz kvs[j].1) (u := .fz kvs[j].2) hn (RS.addKey (PD.step du ek vv r3) du (ky.mono up) ek)
      have e3 : as.take (j + 1) = as.take j ++ [as[j]] := by rw [List.take_add_one, ea]; rfl
      have e4 : (itT kvs).take (j + 1) = (itT kvs).take j ++ [.fz (.tuple [kvs[j].1, kvs[j].2])] := by
        rw [List.take_add_one]
        unfold itT
        rw [List.getElem?_map, ek]
        rfl
      have l4 : ((as.take j).map V.ref).length = ((itT kvs).take j).length := by
        rw [List.length_map, List.length_take, List.length_take]
        unfold itT
        rw [List.length_map]
        omega
      rw [e3, e4, List.map_append, List.zip_append l4, List.append_assoc]
      have r5 : RS (L2.upd Hj as[j] (.tup [y, v])) ((V.ref as[j], T.fz (.tuple [kvs[j].1, kvs[j].2])) :: (PD d o u its (j + 1) ++ (((as.take j).map V.ref).zip ((itT kvs).take j) ++ R))) := r4
      refine r5.perm ?_
      refine (List.Perm.cons _ (perm3 _ _ _)).trans ?_
      exact List.perm_middle.symm
end
section
variable {X : Cx} {e : Expr} {y : Str} {apos cpos p pos : Pos}
theorem pe_itl {f : VF} (hc : X.calm = true) (h : PE X e (tE f)) (hg : Gl X y) (hm : X.mg y = none) (hv : bootBuiltins y = some (.type "list")) (hn : y ≠ "__name__" := by decide) (hdb : (y == ("__debug__" : Str)) = false := by decide)
    (hbase : attributeBase e "items" X.env (eval e X.env) = eval e X.env := by rfl) (hline : (apos.endLine == cpos.line) = true := by rfl)
    (na : starEach [.Call (.Attribute e "items" apos) [] [] cpos] X.env = (false, eval (.Call (.Attribute e "items" apos) [] [] cpos) X.env) :: starEach [] X.env := by rfl) : PE X (.Call (.Name y p) [.Call (.Attribute e "items" apos) [] [] cpos] [] pos) (tE (vItL f)) := by
  refine ⟨fun pins s σ H Q I q => ?_⟩
  obtain ⟨τ, F, t, τ', sl, rs, e0, q⟩ := q
  obtain ⟨p1, ep, e1⟩ := Option.bind_eq_some_iff.mp e0
  obtain ⟨kvs, ek, e2⟩ := Option.bind_eq_some_iff.mp e1
  split at e2
  case isFalse => cases e2
  rename_i few
  cases e2
  refine Call_ (ld_blt I hg hm hv ?_ hn hdb)
  refine PyProof.Rows.callWith_type1 (PyProof.Rows.args_cons ?_ na) na rfl
  refine wpAny_Call_method (T := "dict") (id := "dict.items") hbase rfl hline PySem.F.plainAttrs_dict PySem.F.slot_dict_items PySem.F.type_dict_items
    (thn ((pe_lk h).run pins s σ H (fun x H1 => ∃ d o u its, x = .ref d ∧ DU u kvs its ∧ H1 d = some (.frz o u) ∧ Sl σ p1.2 ∧ RS H1 (PD d o u its 0 ++ (slr σ p1.2 ++ F))) I ⟨τ, F, _, _, kvs, sl, rs, ep, ek, fun d o u its H' du sl' k => ⟨d, o, u, its, rfl, du, k.lckA, sl', k⟩⟩) fun xv s1 ⟨x, H1, I1, rx, d, o, u, its, ex, du, hd, sl1, r1⟩ => ?_)
  subst ex
  obtain rfl : xv = Value.ref d := rx
  obtain ⟨hs, hgd, hx, es, ep', hdt, raw, hsz, ent⟩ := entU I1 du.dct hd
  refine ⟨raw.typeIs, fun b eb => ?_, ?_⟩
  · cases eb
    exact ⟨o, hgd, hx.2.1⟩
  obtain ⟨s2, e2⟩ : ∃ s2 : Shared, s2 = { s1 with heap := s1.heap.push { cls := .type "dict_items", data := .fields #[.ref d] } } := ⟨_, rfl⟩
  have I2 : Inv X pins σ H1 s2 := by
    rw [e2]
    exact I1.kept (t' := s1.toks) fun b ob q => Heap.get?_push_of_some _ q
  have view : s2.heap.IsItemsView s1.heap.objs.size d := by
    rw [e2]
    exact ⟨_, Heap.get?_push_size _ rfl, rfl, rfl⟩
  have raw2 : DT.Raw s2.heap d es ep' := by
    rw [e2]
    exact raw.push _
  have sz : es.size = kvs.length := by rw [hsz, du.len.1]
  have fin : wpAny (model X.prog X.w) X.A (call (.type "list") [.ref s1.heap.objs.size]) (EP X pins σ Q) X.xe s2 := by
    refine list_items (I2.ok.hd hc) view raw2 (by rw [sz, ← sizeL_eq]; exact few) fun h' tk acc c as kp at_ la made ea => ?_
    obtain ⟨H3, I3, up, fr, r3⟩ := track_items (tk := tk) (as := as) I2 du r1 kp sz ent la made as.length (Nat.le_refl _)
    rw [List.take_length] at fr r3
    have lk : (itT kvs).length = as.length := by
      unfold itT
      rw [List.length_map]
      omega
    rw [List.take_of_length_le (by omega)] at r3
    have hn : H3 s2.heap.objs.size = none := fr _ (Nat.le_refl _) fun m => Nat.lt_irrefl _ (made.above _ m)
    have f0 : FpOk X pins H3 s2.heap.objs.size := by
      obtain ⟨_, g1, g2, g3, g4, g5⟩ := I2.fpOk (Nat.le_refl _) (I2.hok.fresh (Nat.le_refl _))
      exact ⟨hn, g1, g2, g3, g4, g5⟩
    have I4 : Inv X pins σ (L2.upd H3 s2.heap.objs.size (.lst (as.map V.ref))) { s2 with heap := h', toks := tk } :=
      I3.take (h' := h') (t' := tk) (fun b ob _ e => e) f0 ⟨by rw [List.length_map, la, sz, ← sizeL_eq]; exact few, acc.toList, c, by rw [ea]; exact refs_vals as, by rw [Array.toArray_toList]; exact at_⟩
    have r4 : RS H3 ((as.map V.ref).zip (itT kvs) ++ (slr σ p1.2 ++ F)) := (RS.swap r3).dropL
    exact ⟨.ref _, _, I4, rfl, q _ _ sl1 (r4.newL (by rw [List.length_map, lk]) hn)⟩
  show wpAny _ _ (callWith cpos (.builtin "dict.items") [Value.ref d] [] []) _ X.xe s1
  refine method_meetsIn PySem.F.slot_dict_items PySem.F.entry_dict_items rfl (PySem.evalArgs_none ⟨rfl, raw.typeIs, PySem.F.args_dict_items_1 _, _, DT.meetsItems (es := es) (ep := ep') hs, raw, ?_⟩)
  refine PyProof.Rows.args_nil ?_
  rw [← e2]
  exact fin
end
end SW
end
section
/-! SXp: dict displays with items. -/
namespace SW
open PySem PySem.Spec PyProof.Rows L2

/-- the stores of a display -/
def StoR (S : Addr) : List (V × V) → Hp → (Hp → Prop) → Prop
  | [], H, Q => Q H
  | p :: ps, H, Q => ∀ (Y : Cx) pins σ s, Inv Y pins σ H s → ∃ H', DSto H S p.1 p.2 H' ∧ StoR S ps H' Q
theorem store_each {X : Cx} {pins : List (Addr × Obj)} {σ : L2.St} {S : Addr} {E : Value → Shared → Prop} (room : X.A.units < cLine) : ∀ {ps : List (V × V)} {vs : List (Value × Value)} {H : Hp} {s : Shared} {Q : PUnit → Shared → Prop} {R : Hp → Prop}, VV ps vs → Inv X pins σ H s → StoR S ps H R →
    (∀ H' s', Inv X pins σ H' s' → R H' → Q PUnit.unit s') → wpAny (model X.prog X.w) X.A (forIn vs PUnit.unit fun (x : Value × Value) (_ : PUnit) => (do dictSet S x.1 x.2; pure (ForInStep.yield PUnit.unit) : Sem (ForInStep PUnit))) Q E s
  | [], _, _, _, _, _, .nil, I, h, k => by
    rw [List.forIn_nil]
    exact wpAny_pure (k _ _ I h)
  | p :: ps, _, _, _, _, _, .cons r t, I, h, k => by
    obtain ⟨H', sto, h⟩ := h X pins σ _ I
    rw [List.forIn_cons]
    exact wpAny_bind (wpAny_bind (dq_put room I sto r.1 r.2 fun s' _ I' => wpAny_pure (store_each room t I' h k)))
def tDsW (trs : List (TE × TE)) : TE := fun σ H Q => ∀ p, H p = none → tPairs trs σ (L2.upd H p (.dK [])) fun ps H2 => StoR p ps H2 fun H3 => Q (.ref p) H3
theorem pe_dsw {X : Cx} {pos : Pos} {keys : List (Option Expr)} {values : List Expr} {trs : List (TE × TE)} (room : X.A.units < cLine) (h : PPs X pos keys values trs) (hall : keys.all (·.isSome) = true) (hl : keys.length = values.length) (h0 : keys ≠ []) (h15 : keys.length ≤ 15) : PE X (.Dict keys values pos) (tDsW trs) := by
  refine ⟨fun pins s σ H Q I q => ?_⟩
  have hn := I.hok.fresh (Nat.le_refl s.heap.objs.size)
  have I1 := I.laid (a := s.heap.objs.size) (o := .dK []) (h' := s.heap.push { cls := .type "dict", data := .dict #[] }) (t' := s.toks) (fun _ _ q => Heap.get?_push_of_some _ q) (Nat.le_refl _) (dk_empty s.heap I.big)
  have len := pairTrees_length keys values X.env pos hall hl
  have ne : pairTrees keys values X.env pos ≠ [] := fun z => by
    rw [z] at len
    exact h0 (List.length_eq_zero_iff.mp len.symm)
  rw [arm_eval_Dict, zip_pairTrees keys values X.env pos hall hl, dictDisplay_pairs _ ne (by omega)]
  refine wpAny_bind (wpAny_standAt (wpAny_bind ?_))
  unfold subDict
  refine wpAny_bind (wpAny_alloc (wpAny_bind (wpAny_holding ?_)))
  rw [if_pos (by rw [len]; exact h15)]
  refine wpAny_bind (thn (h.run pins _ σ _ _ I1 (q _ hn)) fun ws s2 ⟨ps, H2, I2, rel, st⟩ => ?_)
  refine wpAny_holding (wpAny_bind (store_each room rel I2 st fun H3 s3 I3 qq => ?_))
  exact wpAny_pure (wpAny_pure (wpAny_pure ⟨.ref _, H3, I3, rfl, qq⟩))
/-! ### the maker -/
/-- the pairs' makers, from the left -/
def lPrs : List (VF × VF) → Ta → Option (List (PyData × T) × Ta)
  | [], τ => some ([], τ)
  | (f, g) :: r, τ => (f τ).bind fun a => a.1.toD.bind fun k => (g a.2).bind fun b => (lPrs r b.2).map fun c => ((k, b.1) :: c.1, c.2)
def vDsp (l : List (VF × VF)) : VF := fun τ => (lPrs l τ).bind fun p => (dictPs p.1 []).map fun d => (.dct d, p.2)
theorem stores {S : Addr} {R : List Rt} {Q : VK} : ∀ {xs : List (V × V)} {qs : List (PyData × T)} {acc fin : List (PyData × T)} {H : Hp}, xs.length = qs.length → dictPs qs acc = some fin →
    RS H ((.ref S, .dct acc) :: (prR (xs.map fun p => (0, p.1, p.2)) qs ++ R)) → (∀ H', RS H' ((.ref S, .dct fin) :: R) → Q (.ref S) H') → StoR S xs H fun H3 => Q (.ref S) H3
  | [], [], acc, fin, H, _, e, h, k => by
    cases e
    exact k _ h
  | p :: xs, q :: qs, acc, fin, H, l, e, h, k => by
    intro Y pins σ s I
    unfold dictPs at e
    split at e
    case isFalse => cases e
    rename_i okk
    simp only [Bool.and_eq_true, decide_eq_true_eq] at okk
    have h1 : RS H ((p.1, .fz q.1) :: ((.ref S, .dct acc) :: ((p.2, q.2) :: (prR (xs.map fun p => (0, p.1, p.2)) qs ++ R)))) := h.perm (.swap _ _ _)
    obtain ⟨b, H6, eb, sto, r8⟩ := dict_put I h1.tail (h1.view rfl) okk.1 okk.2
    cases eb
    exact ⟨H6, sto, stores (by simpa using l) e r8 k⟩
  | [], _ :: _, _, _, _, l, _, _, _ => by cases l
  | _ :: _, [], _, _, _, l, _, _, _ => by cases l
theorem prs_run {σ : L2.St} {Q : List (V × V) → Hp → Prop} : ∀ {l : List (VF × VF)} {τ τ' : Ta} {qs : List (PyData × T)} {F : List Rt} {H : Hp}, Sl σ τ → RS H (slr σ τ ++ F) → lPrs l τ = some (qs, τ') →
    (∀ xs H', xs.length = qs.length → Sl σ τ' → RS H' (prR (xs.map fun p => (0, p.1, p.2)) qs ++ (slr σ τ' ++ F)) → Q xs H') → tPairs (l.map fun p => (tE p.1, tE p.2)) σ H Q
  | [], τ, τ', qs, F, H, sl, rs, e, q => by
    cases e
    exact q [] H rfl sl rs
  | (f, g) :: r, τ, τ', qs, F, H, sl, rs, e, q => by
    obtain ⟨a, ea, e1⟩ := Option.bind_eq_some_iff.mp e
    obtain ⟨k, ek, e2⟩ := Option.bind_eq_some_iff.mp e1
    obtain ⟨b, eb, e3⟩ := Option.bind_eq_some_iff.mp e2
    obtain ⟨c, ec, e4⟩ := Option.map_eq_some_iff.mp e3
    cases e4
    refine ⟨τ, F, _, _, sl, rs, ea, fun v H1 sl1 rs1 => ⟨_, (v, .fz k) :: F, _, _, sl1, (rs1.freeze ek).swap1, eb, fun w H2 sl2 rs2 => ?_⟩⟩
    refine prs_run (F := (v, .fz k) :: (w, b.1) :: F) sl2 (rs2.perm ?_) ec fun xs H3 l3 sl3 rs3 => q ((v, w) :: xs) H3 (by simp [l3]) sl3 (rs3.perm ?_)
    · refine (List.Perm.cons _ List.perm_middle).trans ?_
      exact (List.Perm.swap _ _ _).trans (two_mid _ _ _ _)
    · show (prR (xs.map fun p => (0, p.1, p.2)) c.1 ++ (slr σ c.2 ++ ((v, T.fz k) :: (w, b.1) :: F))).Perm ((v, T.fz k) :: (w, b.1) :: (prR (xs.map fun p => (0, p.1, p.2)) c.1 ++ (slr σ c.2 ++ F)))
      rw [← List.append_assoc, ← List.append_assoc]
      exact (two_mid _ _ _ _).symm
theorem pe_dsp {X : Cx} {pos : Pos} {keys : List (Option Expr)} {values : List Expr} {l : List (VF × VF)} (hu : X.A.units + 1 < cLine) (h : PPs X pos keys values (l.map fun p => (tE p.1, tE p.2))) (hall : keys.all (·.isSome) = true := by rfl) (hl : keys.length = values.length := by rfl) (h0 : keys ≠ [] := by exact fun z => nomatch z)
    (h15 : keys.length ≤ 15 := by decide) : PE X (.Dict keys values pos) (tE (vDsp l)) :=
  (pe_dsw (by omega) h hall hl h0 h15).wk fun σ H Q h p hp => by
    obtain ⟨τ, F, t, τ', sl, rs, e, q⟩ := h
    obtain ⟨c, ec, e1⟩ := Option.bind_eq_some_iff.mp e
    obtain ⟨d, ed, e2⟩ := Option.map_eq_some_iff.mp e1
    cases e2
    have r1 : RS (L2.upd H p (.dK [])) ((.ref p, .dct []) :: (slr σ τ ++ F)) := (rs.x.newK (qs := []) hp).s
    refine prs_run (F := (.ref p, .dct []) :: F) sl (r1.perm List.perm_middle.symm) ec fun xs H2 lx sl2 rs2 => ?_
    refine stores (R := slr σ c.2 ++ F) lx ed (rs2.perm ?_) fun H' r3 => q _ H' sl2 r3
    rw [← List.append_assoc, ← List.append_assoc]
    exact List.perm_middle
end SW
end
section
/-! SXq: sorted(xs), the items as they are held. -/
namespace SW
open PySem PySem.Spec PyProof.Rows L2

def srtTG (a : Ag) : Option T := (kidsL a).bind fun ts => (toDs ts).bind fun ds => if ds.length ≤ sizeL ∧ srtOk ds = true then some (.lst (((ts.zip ds).mergeSort fun p q => leD p.2 q.2).map (·.1))) else none
theorem zip3_perm {vs : List V} {ts : List T} {ds : List PyData} (l1 : vs.length = ts.length) (l2 : ts.length = ds.length) : (vs.zip (ts.zip ds)).map (fun b => (b.1, b.2.1)) = vs.zip ts := by
  induction vs generalizing ts ds with
  | nil => rfl
  | cons v vs ih =>
    cases ts with
    | nil => cases l1
    | cons t ts =>
      cases ds with
      | nil => cases l2
      | cons d ds =>
        simp only [List.zip_cons_cons, List.map_cons]
        rw [ih (by simpa using l1) (by simpa using l2)]
section
variable {X : Cx}
theorem each_tree {H : Hp} {pins : List (Addr × Obj)} {σ : L2.St} {s : Shared} (I : Inv X pins σ H s) {L : List Rt} (k : RS H L) {vs : List V} {its : List Value} (r : Vals vs its) : ∀ {ts : List T} {ds : List PyData}, toDs ts = some ds → (∀ p ∈ vs.zip ts, p ∈ L) → vs.length = ts.length →
    PySem.W.EachIs (fun (v : Value) (b : V × T × PyData) => ∃ as, Reads s.heap v b.2.2 as) its (vs.zip (ts.zip ds)) ∧ PySem.W.EachIs (fun (v : Value) (b : V × T × PyData) => RelV b.1 v) its (vs.zip (ts.zip ds)) := by
  induction r with
  | nil =>
    intro ts ds e m l
    exact ⟨.nil, .nil⟩
  | cons r t ih =>
    intro ts ds e m l
    cases ts with
    | nil => cases l
    | cons tr ts =>
      obtain ⟨d, ds, e1, e2, rfl⟩ := toDs_cons e
      obtain ⟨q1, q2⟩ := ih e2 (fun p hp => m p (List.mem_cons_of_mem _ hp)) (by simpa using l)
      exact ⟨.cons ((k.viewM (m _ List.mem_cons_self) e1).reads I r) q1, .cons r q2⟩
theorem cr_srtT (hu : X.A.units + 150 < cLine) : CallR X (.builtin "sorted") (r1g srtTG) := by
  intro pins s σ H vs us Q I r h
  obtain ⟨x, R, o, a, t, rfl, rs, hh, e, q⟩ := h
  obtain ⟨ts, ek, e1⟩ := Option.bind_eq_some_iff.mp e
  obtain ⟨ds, ed, e2⟩ := Option.bind_eq_some_iff.mp e1
  split at e2
  case isFalse => cases e2
  rename_i ok
  cases e2
  obtain ⟨few, ok⟩ := ok
  obtain ⟨k1, k2, k3⟩ := srtOk_of ok
  obtain ⟨p, ws, rfl, rd, l, k⟩ := rs.kidsL hh (fun _ m => m) ek
  obtain ⟨u, rfl, ru⟩ := vals1 r
  cases ru
  obtain ⟨its, rv, pl, _⟩ := I.list (.inl rd)
  have l2 := toDs_len ed
  obtain ⟨er, ev⟩ := each_tree I k rv ed (fun p m => List.mem_append_left _ m) l
  have lz : (ws.zip (ts.zip ds)).length = ds.length := by simp [l, l2]
  have em : (ws.zip (ts.zip ds)).map (fun b => b.2.2) = ds := by
    have : (ws.zip (ts.zip ds)).map (·.2) = ts.zip ds := List.map_snd_zip (by simp [l, l2])
    have e4 : (ws.zip (ts.zip ds)).map (fun b => b.2.2) = ((ws.zip (ts.zip ds)).map (·.2)).map (·.2) := by rw [List.map_map]; rfl
    rw [e4, this, List.map_snd_zip (by omega)]
  refine PySem.W.sorted_data (enc := fun b : V × T × PyData => b.2.2) (bs := ws.zip (ts.zip ds)) (R := fun (v : Value) (b : V × T × PyData) => RelV b.1 v) pl.isList ev er (by rw [em]; exact k1) (by rw [em]; exact k2) (by rw [lz, ← sizeL_eq]; exact few) (fun b m => ?_) fun out hl eo => ?_
  · have := k3 b.2.2 (by rw [← em]; exact List.mem_map.mpr ⟨b, m, rfl⟩)
    omega
  · obtain ⟨ep, he'⟩ := PyProof.Rows.sortedAll_at s.heap its out.toArray
    have pm := List.mergeSort_perm (ws.zip (ts.zip ds)) (PySem.W.dataLe false fun b : V × T × PyData => b.2.2)
    have vo : Vals (((ws.zip (ts.zip ds)).mergeSort (PySem.W.dataLe false fun b : V × T × PyData => b.2.2)).map (·.1)) out := by
      generalize (ws.zip (ts.zip ds)).mergeSort (PySem.W.dataLe false fun b : V × T × PyData => b.2.2) = bs at eo
      clear hl he' pm
      induction eo with
      | nil => exact .nil
      | cons r _ ih => exact .cons r ih
    have es : ((ws.zip (ts.zip ds)).mergeSort (PySem.W.dataLe false fun b : V × T × PyData => b.2.2)).map (·.2) = (ts.zip ds).mergeSort fun p q => leD p.2 q.2 := by
      rw [List.map_mergeSort (s := fun p q : T × PyData => leD p.2 q.2) (fun a _ b _ => ?_), List.map_snd_zip (by simp [l, l2])]
      rw [PySem.W.dataLe_eq]
      rfl
    have hlen : (((ws.zip (ts.zip ds)).mergeSort (PySem.W.dataLe false fun b : V × T × PyData => b.2.2)).map (·.1)).length ≤ sizeLine := by
      rw [List.length_map, pm.length_eq, lz, ← sizeL_eq]
      exact few
    refine ⟨.ref _, L2.upd H (s.heap.objs.size + 1) (.lst (((ws.zip (ts.zip ds)).mergeSort (PySem.W.dataLe false fun b : V × T × PyData => b.2.2)).map (·.1))), I.laid (t' := s.toks) (fun _ _ => PyProof.Rows.sortedAll_old) (Nat.le_succ _) ⟨hlen, out, ep, vo, he'⟩, rfl, q _ _ ?_⟩
    rw [← es]
    have k5 : RS H (((ws.zip (ts.zip ds)).mergeSort (PySem.W.dataLe false fun b : V × T × PyData => b.2.2)).map (fun b => (b.1, b.2.1)) ++ R) := by
      have e6 := zip3_perm l l2
      rw [← e6] at k
      exact k.perm ((pm.symm.map _).append_right R)
    generalize (ws.zip (ts.zip ds)).mergeSort (PySem.W.dataLe false fun b : V × T × PyData => b.2.2) = bs at k5
    have e7 : bs.map (fun b => (b.1, b.2.1)) = (bs.map (·.1)).zip ((bs.map (·.2)).map (·.1)) := by
      clear k5
      induction bs with
      | nil => rfl
      | cons b bs ih => simp only [List.map_cons, List.zip_cons_cons, ih]
    rw [e7] at k5
    exact k5.newL (by simp) (I.hok.fresh (Nat.le_succ _))
end
end SW
end
section
/-! SXr: freezing a value, freezing a slot behind an assignment; what a def's proof takes of the others. -/
namespace SW
open PySem PySem.Spec PyProof.Rows L2

/-- the value, frozen -/
def vFz (f : VF) : VF := fun τ => (f τ).bind fun p => p.1.toD.map fun d => (.fz d, p.2)
section
variable {X : Cx} {e : Expr} {st : Stmt} {W : List Nat}
theorem pe_fz {f : VF} (h : PE X e (tE f)) : PE X e (tE (vFz f)) := h.wk fun σ H Q ⟨τ, F, t, τ', sl, rs, e0, q⟩ => by
  obtain ⟨p, ep, e1⟩ := Option.bind_eq_some_iff.mp e0
  obtain ⟨d, ed, e2⟩ := Option.map_eq_some_iff.mp e1
  cases e2
  exact ⟨τ, F, _, _, sl, rs, ep, fun v H' sl' rs' => q v H' sl' (rs'.freeze ed)⟩
/-- x = e, the slot's thing frozen behind it -/
theorem s_fz {i : Nat} {f : VF} (h : PS X st (tW W (sAsg (.nm i) f))) : PS X st (tW W (sAsg (.nm i) (vFz f))) := h.wk fun D σ H ⟨τ, F, o, sl, rs, e0, q⟩ => by
  obtain ⟨p, ep, e1⟩ := Option.bind_eq_some_iff.mp e0
  obtain ⟨p2, ep2, e2⟩ := Option.bind_eq_some_iff.mp ep
  obtain ⟨d, ed, e3⟩ := Option.map_eq_some_iff.mp e2
  cases e3
  obtain ⟨τ2, e4, e5⟩ := Option.map_eq_some_iff.mp e1
  cases e5
  cases e4
  refine ⟨τ, F, .nx (p2.2.set i p2.1), sl, rs, ?_, ?_⟩
  · show (f τ).bind _ = _
    rw [ep2]
    rfl
  · intro σ' H' a sl' rs'
    have len : σ'.length = (p2.2.set i p2.1).length := sl'.1
    by_cases hi : i < p2.2.length
    · have gi : gT (p2.2.set i p2.1) i = p2.1 := by unfold gT; simp [hi]
      have lv : gT (p2.2.set i p2.1) i ≠ .gone := by
        rw [gi]
        intro z
        rw [z] at ed
        cases ed
      obtain ⟨x, hx⟩ := sl'.bound lv
      have r2 : RS H' (((x, gT (p2.2.set i p2.1) i) :: slx σ' (p2.2.set i p2.1) i) ++ F) := rs'.perm ((slr_out sl' hx).append_right F)
      rw [gi] at r2
      have r3 := (r2.freeze ed)
      have s3 : Sl σ' ((p2.2.set i p2.1).set i (.fz d)) := sl'.setT ⟨x, hx⟩
      have r4 : RS H' (slr σ' ((p2.2.set i p2.1).set i (.fz d)) ++ F) := r3.perm ((slr_in sl' hx).symm.append_right F)
      rw [List.set_set] at s3 r4
      exact q σ' H' a s3 r4
    · have no : ∀ t : T, p2.2.set i t = p2.2 := fun t => List.set_eq_of_length_le (by omega)
      rw [no] at sl' rs'
      refine q σ' H' a ?_ ?_
      · rw [no]; exact sl'
      · rw [no]; exact rs'
end
theorem Gd.u1 {X : Cx} {k : Nat} (g : Gd X k) : X.A.units + 1 < cLine := by
  have := g.u
  omega
theorem fn_get {P : Program} {w : World} {fa : List He.Fa} {fn : List He.DefD} {K : PySem.W.Frag} {mg : Str → Option Value} {base : Heap} {tab : List Df} {k : Nat} {C : CallT} (E : Wd P w fa fn K mg base) (hC : Cs P w fn K mg base tab k C)
    (i : Nat) {d : He.DefD} {D : Df} (hd : fn[i]? = some d) (hD : tab[i]? = some D) :
    ∃ fd, FunD K d.name d.qual d.params d.body d.scope (d.dvs K) (d.kws K) (He.fAd K d.at_) fd ∧ FnG P w K mg base k (He.fAd K d.at_) fd D.ps (spC C i D.ps.length) := by
  obtain ⟨fd, F⟩ := E.c.def_ i hd
  exact ⟨fd, F, hC i d D hd hD fd F⟩
end SW
end
section
/-! SXs: the script, a list from outside. -/
namespace SW
open PySem PySem.Spec PyProof.Rows L2

theorem RS.scrA {H : Hp} {x : V} {ns : List Int} {R : List Rt} (h : RS H ((x, .scr ns) :: R)) : ∃ a o, x = .ref a ∧ H a = some (.frz o (.lst (ns.map V.int))) := by
  obtain ⟨G, cs, s, r, nd, no⟩ := h
  cases r with
  | cons h r =>
    cases h with
    | scr e => exact ⟨_, _, rfl, e⟩
theorem RS.scrM {H : Hp} {x : V} {ns : List Int} {R : List Rt} (h : RS H R) (m : (x, T.scr ns) ∈ R) : ∃ a o, x = .ref a ∧ H a = some (.frz o (.lst (ns.map V.int))) := by
  obtain ⟨r0, pp⟩ := mem_perm m
  exact (h.perm pp).scrA
def lenSG (a : Ag) : Option T := match a.2 with
  | .scr ns => some (tI ns.length)
  | _ => none
section
variable {X : Cx} {e : Expr} {pos p2 : Pos}
theorem cr_lenScr : CallR X (.builtin "len") (r1g lenSG) := by
  intro pins s σ H vs us Q I r h
  obtain ⟨x, R, o, a, t, rfl, rs, hh, e, q⟩ := h
  have m := hh.mem
  unfold lenSG at e
  split at e
  · rename_i ns eg
    cases e
    rw [eg] at m
    obtain ⟨p, ob, rfl, hp⟩ := rs.scrM m
    have fin : Q (.int ns.length) H := q _ _ (rs.dropL.addI _)
    exact call_len_seq pins s σ H _ us Q I r ⟨p, _, rfl, .inl (.inl (.inr ⟨ob, hp⟩)), by simpa using fin⟩
  · cases e
def slcSG (a : Ag) (lo hi : Option Int) : Option T := match a.2 with
  | .scr ns => some (.lst ((cutL ns lo hi).map fun i => .fz (.int i)))
  | _ => none
def vSlcS (a : AF) (lo hi : OF) : VF := fun τ => (a τ).bind fun p => (lo p.2).bind fun l => (hi l.2).bind fun h => (slcSG (p.1.ag h.2) l.1 h.1).map fun t => (t, h.2)
theorem RS.addInts {H : Hp} {R : List Rt} (h : RS H R) : ∀ ns : List Int, RS H ((ns.map V.int).zip (ns.map fun i => T.fz (.int i)) ++ R)
  | [] => h
  | n :: ns => (RS.addInts h ns).addI n
theorem pe_slcS {f : AF} {l h : OF} {lo hi : Option Expr} (he : PE X e (tA f)) (hl : PO X lo (tO l)) (hh : PO X hi (tO h)) : PE X (.Subscript e (.Slice lo hi none p2) pos) (tE (vSlcS f l h)) :=
  (pe_slice (sl_list.or sl_tup) he hl hh).wk fun σ H Q h0 => by
    obtain ⟨τ, F, t, τ', sl, rs, e, q⟩ := h0
    obtain ⟨p, ep, e2⟩ := Option.bind_eq_some_iff.mp e
    obtain ⟨p1, ep1, e3⟩ := Option.bind_eq_some_iff.mp e2
    obtain ⟨p2, ep2, e4⟩ := Option.bind_eq_some_iff.mp e3
    obtain ⟨t', et, e5⟩ := Option.map_eq_some_iff.mp e4
    cases e5
    refine ⟨τ, F, _, _, sl, rs, ep, fun v H1 sl1 ok1 rs1 => ⟨_, agr v p.1 ++ F, _, _, sl1, rs1.swap, ep1, fun H2 sl2 rs2 => ⟨_, agr v p.1 ++ F, _, _, sl2, rs2, ep2, fun H3 sl3 rs3 => ?_⟩⟩⟩
    have r4 : RS H3 (agr v p.1 ++ (slr σ p2.2 ++ F)) := rs3.swap
    have hh := has_of (F := F) sl3 ok1
    have m := hh.mem
    unfold slcSG at et
    split at et
    · rename_i ns eg
      cases et
      rw [eg] at m
      obtain ⟨a, ob, rfl, hp⟩ := r4.scrM m
      refine .inl ⟨a, _, rfl, .inl (.inr ⟨ob, hp⟩), fun l0 hn => q _ _ sl3 ?_⟩
      have ec : cutV (ns.map V.int) p1.1 p2.1 = (cutL ns p1.1 p2.1).map V.int := by
        unfold cutV cutL
        rw [List.length_map, List.map_take, List.map_drop]
      rw [ec]
      exact ((r4.dropL.addInts (cutL ns p1.1 p2.1)).newL (by simp) hn)
    · cases et
end
end SW
end
section
/-! SXt: the end: the law's call, from a promise that knows that no guard stands. -/
namespace SW
open PySem PySem.Spec PyProof.Rows L2

/-- the script's abstract heap -/
def scrH (a : Addr) (ob : Obj) (ns : List Int) : Hp := fun b => if b = a then some (.frz ob (.lst (ns.map V.int))) else none
theorem scrH_at {a : Addr} {ob : Obj} {ns : List Int} : scrH a ob ns a = some (.frz ob (.lst (ns.map V.int))) := if_pos rfl
theorem scrH_no {a b : Addr} {ob : Obj} {ns : List Int} (h : b ≠ a) : scrH a ob ns b = none := if_neg h
theorem scrH_eq {a b : Addr} {ob : Obj} {ns : List Int} {u : HO} (h : scrH a ob ns b = some u) : b = a ∧ u = .frz ob (.lst (ns.map V.int)) := by
  by_cases e : b = a
  · subst e
    rw [scrH_at] at h
    cases h
    exact ⟨rfl, rfl⟩
  · rw [scrH_no e] at h
    cases h
section
variable {P : Program} {w : World} {K : PySem.W.Frag} {mg mb : Str → Option Value} {k : Nat} {fa a : Addr} {fd : FuncData} {x : Str} {sp : SpG} {z : Shared} {its : List Value} {ns : List Int}
theorem law_end (kz : K.In z.heap) (n1 : z.heap.Ns mainGlobals mg) (n2 : z.heap.Ns builtinsNs mb) (n3 : ∀ y : Str, y ≠ "__name__" → mb y = bootBuiltins y) (nl : z.heap.NoLimit) (ng : z.gens = #[])
    (at_ : z.heap.get? a = some { cls := .type "list", data := .seq its.toArray }) (ints_ : IntsAre its ns) (few : ns.length ≤ sizeLine) (room : Room k callerA)
    (F : ∀ base : Heap, K.In base → base.Ns mainGlobals mg → FnG P w K mg base k fa fd [x] sp) (bind : ∀ (s : Shared) (u : Value), BindsTo s fd ⟨[u], []⟩ [(x, u)]) (out : K.lookup a = none)
    (hsp : ∀ ob : Obj, sp [.ref a] (scrH a ob ns) fun v _ => v = .bl true) :
    codeAny (model P w) callerA (.call (.ref fa) ⟨[.ref a], []⟩) (fun r t => r = .ok (.ret (.bool true)) ∧ OldK z.heap t.heap ∧ t.os = z.os ∧ AllBare t.gens) z := by
  let ob : Obj := { cls := .type "list", data := .seq its.toArray }
  let H : Hp := scrH a ob ns
  have hok : HOk P w H z.heap := fun b u e => by
    obtain ⟨rfl, rfl⟩ := scrH_eq e
    exact ⟨at_, by simpa using few, its, _, vals_ints ints_, at_⟩
  have keep : ∀ {b : Addr} {o : Obj}, z.heap.get? b = some o → b ≠ a → (hidT z.heap H).get? b = some o := fun e n => hidT_get e (scrH_no n)
  have ns_ok : ∀ {b : Addr} {m : Str → Option Value}, z.heap.Ns b m → (hidT z.heap H).Ns b m := fun {b m} ⟨o, es, ep, e, d, r⟩ => by
    refine ⟨o, es, ep, keep e fun q => ?_, d, r⟩
    subst q
    rw [at_] at e
    cases e
    cases d
  have kin : K.In (hidT z.heap H) := fun b o e => keep (kz b o e) fun q => by
    subst q
    rw [out] at e
    cases e
  have modOk : Mod K mg (hidT z.heap H) := by
    obtain ⟨mc, l1, l2⟩ := nl
    exact ⟨kin, ns_ok n1, ⟨mb, ns_ok n2, n3⟩, mc, ns_ok l1, l2⟩
  have env : Env0 P w K mg (hidT z.heap H) callerA [] z H := ⟨rfl, modOk, fun b o e => of_hidT e, Nat.le_of_eq (hidT_size _ _), trivial, fun b hb => (by cases hb), hok, .of_eq ng⟩
  have run := (F _ kin (ns_ok n1)).run callerA [] z H ⟨[.ref a], []⟩ [.ref a] [.ref a] _ room rfl env (bind z (.ref a)) (.cons rfl .nil) (hsp ob)
  refine codeAny_mono run fun r t h => ?_
  cases r with
  | error e => exact h.elim
  | ok fl =>
    cases fl with
    | ret u =>
      obtain ⟨v, H2, os, bare, un, hok2, rv, q⟩ := h
      have q : v = .bl true := q
      rw [q] at rv
      obtain rfl : u = Value.bool true := rv
      refine ⟨rfl, OldK.of_keep fun b o e => ?_, os, bare⟩
      by_cases hb : b = a
      · subst hb
        have z2 := un.frzs b ob _ scrH_at
        rw [at_] at e
        cases e
        exact (hok2 b _ z2).1
      · exact un.keep b o e (scrH_no hb) (fun m => (by cases m)) (fun m => (by cases m))
    | next => exact h.elim
    | brk => exact h.elim
    | cont => exact h.elim
end
end SW
end
section
/-! SXu: what the head looks at: the defs, the builtins' names, the dict of the modules; no list is among it. -/
namespace SW
open PySem PySem.Spec PyProof.Rows L2

def noL (o : Obj) : Bool := match o.cls with
  | .type c => !(c == "list")
  | _ => true
def frN (g : Addr → Option Obj) : PySem.W.Frag := (He.frG g (sysModules :: He.asD g 4)).filter fun p => noL p.2
theorem look_mem {K : PySem.W.Frag} {a : Addr} {o : Obj} (h : K.lookup a = some o) : (a, o) ∈ K := by
  induction K with
  | nil => cases h
  | cons p r ih =>
    obtain ⟨b, q⟩ := p
    rw [List.lookup_cons] at h
    split at h
    · rename_i e
      cases h
      rw [eq_of_beq e]
      exact List.mem_cons_self
    · exact List.mem_cons_of_mem _ (ih h)
theorem frN_mem {g : Addr → Option Obj} {a : Addr} {o : Obj} (h : (frN g).lookup a = some o) : g a = some o ∧ noL o = true := by
  have m := List.mem_filter.mp (look_mem h)
  obtain ⟨b, _, e⟩ := List.mem_filterMap.mp (show (a, o) ∈ List.filterMap _ _ from m.1)
  obtain ⟨q, e1, e2⟩ := Option.map_eq_some_iff.mp e
  cases e2
  exact ⟨e1, m.2⟩
variable (fa : List He.Fa) (fn : List He.DefD)
def lkN (g : Addr → Option Obj) : He.AlD × Bool := (He.obsD fa fn (frN g), ((frN g).lookup sysModules).isSome)
def SaysN (K : PySem.W.Frag) : Prop := He.SaysD fa fn K ∧ (K.lookup sysModules).isSome = true ∧ ∀ a o, K.lookup a = some o → noL o = true
def hkN : PySem.W.Hook where
  α := He.AlD × Bool
  obs := fun s => lkN fa fn s.heap.get?
  val := fun _ => (He.valD fn, true)
  says := fun _ h => ∃ K : PySem.W.Frag, K.In h ∧ SaysN fa fn K
  of := fun _ s e => ⟨frN s.heap.get?, fun _ _ m => (frN_mem m).1, congrArg (fun z : He.AlD × Bool => z.1) e, congrArg (fun z : He.AlD × Bool => z.2) e, fun _ _ m => (frN_mem m).2⟩
  keeps := fun _ _ _ ⟨K, h1, h2⟩ k => ⟨K, PySem.W.Frag.In.keeps h1 k, h2⟩
theorem obN_eq (s : PySem.W.SharedT) : lkN fa fn (HandSHeadRun.getT s) = (hkN fa fn).obs s.abs := by
  have e : HandSHeadRun.getT s = s.abs.heap.get? := funext (HandSHeadRun.getT_eq s)
  rw [e]
  rfl
/-- the end: a law's def keeps its promise -/
theorem walk_end {l : PySem.W.OpenLaw} {k : Nat} {q : Program} {loose : List Str} {XP : (Str → Option Value) → Heap → Prop} {YP : World → Heap → Prop} {d : DefRec} {fa : List He.Fa} {fn : List He.DefD} (most : l.most = some 63) (dfl : d.params.defaults = []) (room : Room k callerA)
    (y : ∀ w h, YP w h → (hkN fa fn).says w h)
    (F : ∀ (w : World) (mg : Str → Option Value) (f : Addr) (h : Heap) (K : PySem.W.Frag), K.In h → He.SaysD fa fn K → (K.lookup sysModules).isSome = true → h.Ns mainGlobals mg → mg d.name = some (.ref f) →
      ∃ (fd : FuncData) (sp : SpG), (∀ (s : Shared) (u : Value), BindsTo s fd ⟨[u], []⟩ [("script", u)]) ∧ (∀ (a : Addr) (ob : Obj) (ns : List Int), ns.length ≤ 63 → sp [.ref a] (scrH a ob ns) fun v _ => v = .bl true) ∧
        ∀ base : Heap, K.In base → base.Ns mainGlobals mg → FnG l.prog w K mg base k f fd ["script"] sp) :
    PySem.W.WalkO q loose XP YP l.row.toRowW d [] (fun f vs => PySem.call f vs) := by
  refine Att.attach_call most dfl fun w z0 z mg mb f o pm cd doc a its ns G Y h1 h2 h3 hm at_ ii len ng => ?_
  obtain ⟨K, kz, c, sm, nl⟩ := y _ _ Y
  obtain ⟨fd, sp, bd, hsp, hF⟩ := F w mg f _ K kz c sm G.T.g hm
  refine law_end kz G.T.g G.T.b G.T.builtins G.T.nolimit ng at_ ii (Nat.le_trans len (by decide)) room hF bd ?_ fun ob => hsp a ob ns len
  cases e : K.lookup a with
  | none => rfl
  | some o' =>
    have e1 := kz a o' e
    rw [at_] at e1
    cases e1
    have e2 := nl a _ e
    have e3 : (!(("list" : String) == "list")) = true := e2
    exact absurd e3 (by decide)
end SW
end
section
/-! SXv: from the plain equation to the law. -/
namespace SW
open PySem PySem.Spec PyProof.Rows L2

theorem scr_root {a : Addr} {ob : Obj} {ns : List Int} : RS (scrH a ob ns) [(.ref a, .scr ns)] :=
  ⟨fun _ => none, [], fun _ _ e => (by cases e), .cons (as := []) (.scr scrH_at) .nil, .nil, fun _ m => (by cases m)⟩
theorem sp_law {C : CallT} {i : Nat} {a : Addr} {ob : Obj} {ns : List Int} {t : T} (e : C i [.scr ns] = some (tB true, [t])) : spC C i 1 [.ref a] (scrH a ob ns) fun v _ => v = .bl true :=
  ⟨[.scr ns], [], tB true, [t], rfl, rfl, rfl, scr_root, e, fun v H' h => root_bl h⟩
theorem bind_law {K : PySem.W.Frag} {x qual : Str} {params : Arguments} {body : List Stmt} {scope : Scope} {f : Addr} {fd : FuncData} (F : FunD K x qual params body scope [] [] f fd)
    (h : ∀ (kV doc pm : Value) (an : Option Addr) (cdv ct : Value) (u : Value), bindArgs (PySem.W.fnOf x qual params body scope .none kV doc pm an cdv ct) ⟨[u], []⟩ = pure [(("script" : Str), u)]) (s : Shared) (u : Value) : BindsTo s fd ⟨[u], []⟩ [(("script" : Str), u)] := by
  obtain ⟨oc, od, dV, kV, doc, pm, an, cdv, ct, osl, rfl, lk, hcd, hD, hK⟩ := F.ex
  rcases hD with ⟨_, rfl⟩ | ⟨e, _⟩
  · exact .of_eq (h kV doc pm an cdv ct u)
  · exact absurd rfl e
end SW
end
section
/-! SYa: the makers, reckoned: plain equations for simp. -/
namespace SW
open PySem PySem.Spec PyProof.Rows L2

section
variable {τ : Ta} {t u : T} {ts us : List T} {d d' : PyData} {ds : List PyData} {i : Nat}
@[simp] theorem gT_z : gT (t :: ts) 0 = t := rfl
@[simp] theorem gT_s : gT (t :: ts) (i + 1) = gT ts i := rfl
@[simp] theorem live_fz : live (.fz d) = true := rfl
@[simp] theorem live_lst : live (.lst ts) = true := rfl
@[simp] theorem live_tup : live (.tup ts) = true := rfl
@[simp] theorem live_dct {k : List (PyData × T)} : live (.dct k) = true := rfl
@[simp] theorem live_scr {n : List Int} : live (.scr n) = true := rfl
@[simp] theorem toD_fz : (T.fz d).toD = some d := by unfold T.toD; rfl
@[simp] theorem toD_lst : (T.lst ts).toD = (toDs ts).map .list := by rw [T.toD]
@[simp] theorem toD_tup : (T.tup ts).toD = (toDs ts).map .tuple := by rw [T.toD]
@[simp] theorem toD_dct {k : List (PyData × T)} : (T.dct k).toD = (toKs k).map .dict := by rw [T.toD]
@[simp] theorem toDs_nil : toDs [] = some [] := by rw [toDs]
@[simp] theorem toDs_fz1 : toDs (.fz d :: ts) = (toDs ts).map (d :: ·) := by
  rw [toDs, toD_fz]
  cases toDs ts <;> rfl
@[simp] theorem toDs_map : ∀ ds : List PyData, toDs (ds.map T.fz) = some ds
  | [] => toDs_nil
  | d :: ds => by rw [List.map_cons, toDs_fz1, toDs_map ds]; rfl
@[simp] theorem toDs_mapf {α : Type} (f : α → PyData) (xs : List α) : toDs (xs.map fun x => T.fz (f x)) = some (xs.map f) := by
  rw [show (xs.map fun x => T.fz (f x)) = (xs.map f).map T.fz by rw [List.map_map]; rfl, toDs_map]
@[simp] theorem toKs_nil : toKs [] = some [] := by rw [toKs]
@[simp] theorem toKs_fz1 {k : PyData} {r : List (PyData × T)} : toKs ((k, .fz d) :: r) = (toKs r).map ((k, d) :: ·) := by
  rw [toKs, toD_fz]
  cases toKs r <;> rfl
@[simp] theorem toKs_mapf {α : Type} (f g : α → PyData) : ∀ xs : List α, toKs (xs.map fun x => (f x, T.fz (g x))) = some (xs.map fun x => (f x, g x))
  | [] => toKs_nil
  | x :: xs => by rw [List.map_cons, toKs_fz1, toKs_mapf f g xs]; rfl
@[simp] theorem ag_tm : (A.tm t).ag τ = (true, t) := rfl
@[simp] theorem ag_sl : (A.sl i).ag τ = (false, gT τ i) := rfl
@[simp] theorem agd {b : Bool} : Ag.d (b, t) = t.toD := rfl
@[simp] theorem agint {b : Bool} {n : Int} : Ag.int (b, .fz (.int n)) = some n := rfl
@[simp] theorem vVar_e : vVar i τ = (gT τ i).toD.map fun d => (.fz d, τ.set i (.fz d)) := rfl
@[simp] theorem aRef_e : aRef i τ = if live (gT τ i) then some (.sl i, τ) else none := rfl
@[simp] theorem vMov_e : vMov i τ = if live (gT τ i) then some (gT τ i, τ.set i .gone) else none := rfl
@[simp] theorem vCst_e : vCst d τ = some (.fz d, τ) := rfl
@[simp] theorem vD0_e : vD0 τ = some (.dct [], τ) := rfl
@[simp] theorem asArg_e {f : VF} : asArg f τ = (f τ).map fun p => (.tm p.1, p.2) := rfl
@[simp] theorem asTst_e {f : AF} : asTst f τ = (f τ).bind fun p => (truT (p.1.ag p.2).2).map fun b => (b, p.2) := rfl
@[simp] theorem v1_e {g : Ag → Option T} {a : AF} : v1 g a τ = (a τ).bind fun p => (g (p.1.ag p.2)).map fun t => (t, p.2) := rfl
@[simp] theorem v2_e {g : Ag → Ag → Option T} {a b : AF} : v2 g a b τ = (a τ).bind fun p => (b p.2).bind fun q => (g (p.1.ag q.2) (q.1.ag q.2)).map fun t => (t, q.2) := rfl
@[simp] theorem boolT_e {b : Bool} : boolT (.fz (.bool b)) = some b := rfl
@[simp] theorem boolT_e2 {b : Bool} : boolT (tB b) = some b := rfl
@[simp] theorem truT_b {b : Bool} : truT (.fz (.bool b)) = some b := rfl
@[simp] theorem truT_b2 {b : Bool} : truT (tB b) = some b := rfl
@[simp] theorem tB_d {b : Bool} : (tB b).toD = some (.bool b) := toD_fz
@[simp] theorem tI_d {n : Int} : (tI n).toD = some (.int n) := toD_fz
@[simp] theorem tI_e {n : Int} : tI n = .fz (.int n) := rfl
@[simp] theorem tS_e {x : Str} : tS x = .fz (.str x) := rfl
@[simp] theorem tB_e {b : Bool} : tB b = .fz (.bool b) := rfl
@[simp] theorem vAnd_e {f g : VF} : vAnd f g τ = (f τ).bind fun p => (boolT p.1).bind fun c => if c then g p.2 else some (.fz (.bool false), p.2) := rfl
@[simp] theorem vOr_e {f g : VF} : vOr f g τ = (f τ).bind fun p => (boolT p.1).bind fun c => if c then some (.fz (.bool true), p.2) else g p.2 := rfl
@[simp] theorem vNot_e {f : VF} : vNot f τ = (f τ).bind fun p => (boolT p.1).map fun c => (.fz (.bool (!c)), p.2) := rfl
@[simp] theorem bAnd_e {f g : BF} : bAnd f g τ = (f τ).bind fun p => if p.1 then g p.2 else some (false, p.2) := rfl
@[simp] theorem bOr_e {f g : BF} : bOr f g τ = (f τ).bind fun p => if p.1 then some (true, p.2) else g p.2 := rfl
@[simp] theorem bNot_e {f : BF} : bNot f τ = (f τ).map fun p => (!p.1, p.2) := rfl
@[simp] theorem bTrue_e : bTrue τ = some (true, τ) := rfl
@[simp] theorem vIte_e {c : BF} {f g : VF} : vIte c f g τ = (c τ).bind fun p => if p.1 then f p.2 else g p.2 := rfl
@[simp] theorem vCmp2_e {o o' : Cop} {a b c : AF} : vCmp2 o o' a b c τ = (a τ).bind fun p => (b p.2).bind fun q => (cmpT o (p.1.ag q.2) (q.1.ag q.2)).bind fun r =>
  (boolT r).bind fun k => if k then (c q.2).bind fun z => (cmpT o' (q.1.ag z.2) (z.1.ag z.2)).map fun t => (t, z.2) else some (.fz (.bool false), q.2) := rfl
@[simp] theorem lNil_e : lNil τ = some ([], τ) := rfl
@[simp] theorem lCons_e {f : VF} {g : LF} : lCons f g τ = (f τ).bind fun p => (g p.2).map fun q => (p.1 :: q.1, q.2) := rfl
@[simp] theorem mNil_e : mNil τ = some ([], τ) := rfl
@[simp] theorem mCons_e {f : AF} {g : MF} : mCons f g τ = (f τ).bind fun p => (g p.2).map fun q => (p.1 :: q.1, q.2) := rfl
@[simp] theorem vLst_e {f : LF} : vLst f τ = (f τ).bind fun p => if p.1.length ≤ sizeL then some (.lst p.1, p.2) else none := rfl
@[simp] theorem vTup_e {f : LF} : vTup f τ = (f τ).bind fun p => if p.1.length ≤ sizeL then some (mkT p.1, p.2) else none := rfl
@[simp] theorem vFz_e {f : VF} : vFz f τ = (f τ).bind fun p => p.1.toD.map fun d => (.fz d, p.2) := rfl
@[simp] theorem vSub_e {a i : AF} : vSub a i τ = (a τ).bind fun p => (i p.2).bind fun q => (q.1.ag q.2).d.bind fun k => (subT (p.1.ag q.2).1 (p.1.ag q.2).2 k).map fun c => (c.1, setA q.2 p.1 c.2) := rfl
@[simp] theorem setA_tm : setA τ (.tm t) u = τ := rfl
@[simp] theorem setA_sl : setA τ (.sl i) u = τ.set i u := rfl
@[simp] theorem vSlc_e {a : AF} {lo hi : OF} : vSlc a lo hi τ = (a τ).bind fun p => (lo p.2).bind fun l => (hi l.2).bind fun h => (slcT (p.1.ag h.2) l.1 h.1).map fun t => (t, h.2) := rfl
@[simp] theorem vSlcS_e {a : AF} {lo hi : OF} : vSlcS a lo hi τ = (a τ).bind fun p => (lo p.2).bind fun l => (hi l.2).bind fun h => (slcSG (p.1.ag h.2) l.1 h.1).map fun t => (t, h.2) := rfl
@[simp] theorem oNone_e : oNone τ = some (none, τ) := rfl
@[simp] theorem oSome_e {a : AF} : oSome a τ = (a τ).bind fun p => (p.1.ag p.2).int.map fun i => (some i, p.2) := rfl
@[simp] theorem vRev_e {a : AF} : vRev a τ = (a τ).bind fun p => ((kidsL (p.1.ag p.2)).map fun ts => T.lst ts.reverse).map fun t => (t, p.2) := by
  unfold vRev
  rw [v1_e]
@[simp] theorem vGet2_e {o k d : AF} : vGet2 o k d τ = (o τ).bind fun p => if isDT (p.1.ag p.2).2 then (k p.2).bind fun q => (d q.2).bind fun r => (q.1.ag r.2).d.bind fun kd => (getD2 (p.1.ag r.2).2 kd (r.1.ag r.2)).map fun t => (t, r.2) else none := rfl
@[simp] theorem vItL_e {f : VF} : vItL f τ = (f τ).bind fun p => (dKvs p.1).bind fun kvs => if kvs.length ≤ sizeL then some (.lst (itT kvs), p.2) else none := rfl
@[simp] theorem isDT_fz {k : List (PyData × PyData)} : isDT (.fz (.dict k)) = true := rfl
@[simp] theorem isDT_dct {k : List (PyData × T)} : isDT (.dct k) = true := rfl
@[simp] theorem vCall_e {C : CallT} {f n m : Nat} {ar : List Nat} {dn : List PyData} {g h : MF} : vCall C f n m ar dn g h τ = (g τ).bind fun p => (h p.2).bind fun q => if p.1.length = n ∧ q.1.length = m then callT C f ar (p.1 ++ q.1) dn q.2 else none := rfl
@[simp] theorem arr_nil {α : Type} (xs : List α) : arr xs [] = [] := rfl
@[simp] theorem arr_cons {α : Type} (xs : List α) (j : Nat) (js : List Nat) : arr xs (j :: js) = xs[j]? :: arr xs js := rfl
@[simp] theorem allSome_nil {α : Type} : allSome ([] : List (Option α)) = some [] := rfl
@[simp] theorem allSome_cons {α : Type} (x : α) (r : List (Option α)) : allSome (some x :: r) = (allSome r).map (x :: ·) := rfl
@[simp] theorem takeA_nil : takeA τ [] = some ([], τ) := rfl
@[simp] theorem takeA_tm {as : List A} : takeA τ (.tm t :: as) = (takeA τ as).map fun p => (t :: p.1, p.2) := rfl
@[simp] theorem takeA_sl {as : List A} : takeA τ (.sl i :: as) = if live (gT τ i) then (takeA (τ.set i .gone) as).map fun p => (gT τ i :: p.1, p.2) else none := rfl
@[simp] theorem backA_sl {as : List A} : backA τ (.sl i :: as) (t :: ts) = backA (τ.set i t) as ts := rfl
@[simp] theorem backA_tm {as : List A} : backA τ (.tm u :: as) (t :: ts) = backA τ as ts := rfl
@[simp] theorem backA_nil : backA τ [] ts = τ := by cases ts <;> rfl
@[simp] theorem mkT_nil : mkT [] = .fz (.tuple []) := rfl
@[simp] theorem mkT_1 {a : PyData} : mkT [.fz a] = .fz (.tuple [a]) := rfl
@[simp] theorem mkT_2 {a b : PyData} : mkT [.fz a, .fz b] = .fz (.tuple [a, b]) := rfl
@[simp] theorem mkT_3 {a b c : PyData} : mkT [.fz a, .fz b, .fz c] = .fz (.tuple [a, b, c]) := rfl
@[simp] theorem kidsT_fz {b : Bool} : kidsT (b, .fz (.tuple ds)) = some (ds.map .fz) := rfl
@[simp] theorem kidsL_fz {b : Bool} : kidsL (b, .fz (.list ds)) = some (ds.map .fz) := rfl
@[simp] theorem kidsL_tuple {b : Bool} : kidsL (b, .fz (.tuple ds)) = none := rfl
@[simp] theorem kidsL_own : kidsL (true, .lst ts) = some ts := rfl
@[simp] theorem kidsL_lent : kidsL (false, .lst (ds.map T.fz)) = some (ds.map T.fz) := by
  show (if false || (ds.map T.fz).all T.isFz then some (ds.map T.fz) else none) = _
  rw [if_pos]
  simp [T.isFz]
@[simp] theorem kidsL_lentf {α : Type} {f : α → PyData} {xs : List α} : kidsL (false, .lst (xs.map fun x => T.fz (f x))) = some (xs.map fun x => T.fz (f x)) := by
  rw [show (xs.map fun x => T.fz (f x)) = (xs.map f).map T.fz by rw [List.map_map]; rfl, kidsL_lent]
@[simp] theorem itsF_fz {b : Bool} : itemsF (b, .fz (.list ds)) = some ds := by
  unfold itemsF
  rw [kidsL_fz]
  exact toDs_map ds
@[simp] theorem itsF_own : itemsF (true, .lst ts) = toDs ts := rfl
@[simp] theorem itsF_lent {b : Bool} : itemsF (b, .lst (ds.map T.fz)) = some ds := by
  unfold itemsF
  cases b
  · rw [kidsL_lent]; exact toDs_map ds
  · rw [kidsL_own]; exact toDs_map ds
@[simp] theorem itsF_lentf {b : Bool} {α : Type} {f : α → PyData} {xs : List α} : itemsF (b, .lst (xs.map fun x => T.fz (f x))) = some (xs.map f) := by
  rw [show (xs.map fun x => T.fz (f x)) = (xs.map f).map T.fz by rw [List.map_map]; rfl, itsF_lent]
@[simp] theorem itsT_list : itsT (.fz (.list ds)) = some (ds.map .fz) := rfl
@[simp] theorem itsT_tuple : itsT (.fz (.tuple ds)) = some (ds.map .fz) := rfl
@[simp] theorem itsT_lst : itsT (.lst ts) = some ts := rfl
@[simp] theorem lIts_e {v : VF} : lIts v τ = (v τ).bind fun p => (itsT p.1).map fun ts => (ts, p.2) := rfl
@[simp] theorem lKeys_e {v : VF} : lKeys v τ = (v τ).bind fun p => (dKvs p.1).map fun kvs => (kvs.map fun q => .fz q.1, p.2) := rfl
@[simp] theorem lVals_e {v : VF} : lVals v τ = (v τ).bind fun p => (dKvs p.1).map fun kvs => (kvs.map fun q => .fz q.2, p.2) := rfl
@[simp] theorem lItms_e {v : VF} : lItms v τ = (v τ).bind fun p => (dKvs p.1).map fun kvs => (kvs.map fun q => .fz (.tuple [q.1, q.2]), p.2) := rfl
@[simp] theorem dKvs_fz {k : List (PyData × PyData)} : dKvs (.fz (.dict k)) = some k := by unfold dKvs; rw [toD_fz]; rfl
@[simp] theorem dKvs_dctf {α : Type} {f g : α → PyData} {xs : List α} : dKvs (.dct (xs.map fun x => (f x, T.fz (g x)))) = some (xs.map fun x => (f x, g x)) := by
  unfold dKvs
  rw [toD_dct, toKs_mapf]
  rfl
@[simp] theorem lRng1_e {a : AF} : lRng1 a τ = (a τ).bind fun p => (p.1.ag p.2).int.bind fun n => if rngOk n then some ((rngL 0 n.toNat).map .fz, p.2) else none := rfl
@[simp] theorem lRng2_e {a b : AF} : lRng2 a b τ = (a τ).bind fun p => (b p.2).bind fun q => (p.1.ag q.2).int.bind fun i => (q.1.ag q.2).int.bind fun j => if rngOk i && rngOk j then some ((rngL i (j - i).toNat).map .fz, q.2) else none := rfl
/-! statements -/
@[simp] theorem sNil_e : sNil τ = some (.nx τ) := rfl
@[simp] theorem sSeq_e {f g : BS} : sSeq f g τ = (f τ).bind fun o => match o with
  | .nx τ1 => g τ1
  | o => some o := rfl
@[simp] theorem sExpr_e {f : VF} : sExpr f τ = (f τ).map fun p => .nx p.2 := rfl
@[simp] theorem sAsg_e {g : Tg} {f : VF} : sAsg g f τ = (f τ).bind fun p => (putG g p.1 p.2).map .nx := rfl
@[simp] theorem sIf_e {c : BF} {f g : BS} : sIf c f g τ = (c τ).bind fun p => if p.1 then f p.2 else g p.2 := rfl
@[simp] theorem sRet_e {f : VF} : sRet f τ = (f τ).map fun p => .rt p.1 p.2 := rfl
@[simp] theorem sRetN_e : sRetN τ = some (.rt (.fz .none) τ) := rfl
@[simp] theorem sNever_e : sNever τ = none := rfl
@[simp] theorem sSet_e {j : Nat} {k : AF} {f : VF} : sSet j k f τ = (f τ).bind fun p => if live (gT p.2 j) then (k p.2).bind fun q => (q.1.ag q.2).d.bind fun kd => (setG (gT q.2 j) kd p.1).map fun t => .nx (q.2.set j t) else none := rfl
@[simp] theorem sPar_e {i j : Nat} {f : LF} : sPar i j f τ = (f τ).bind fun p => match p.1 with
  | [t, u] => some (.nx ((p.2.set i t).set j u))
  | _ => none := rfl
@[simp] theorem vMm_e {m : Mm} {i : Nat} {g : LF} : vMm m i g τ = if isL (gT τ i) then (g τ).bind fun p => (mmL m (gT p.2 i) p.1).map fun r => (r.2, p.2.set i r.1) else none := rfl
@[simp] theorem vMmV_e {m : Mm} {f : VF} {g : LF} : vMmV m f g τ = (f τ).bind fun c => if isL c.1 then (g c.2).bind fun p => (mmL m c.1 p.1).map fun r => (r.2, p.2) else none := rfl
@[simp] theorem isL_lst : isL (.lst ts) = true := rfl
@[simp] theorem mmL_app : mmL .append (.lst ts) [t] = if ts.length < sizeL then some (.lst (ts ++ [t]), .fz .none) else none := rfl
@[simp] theorem putG_nm : putG (.nm i) t τ = some (τ.set i t) := rfl
@[simp] theorem putG_fn {f : T → List T → Option (List T)} : putG (.fn f) t τ = f t τ := rfl
@[simp] theorem putG_tgS {j : Nat} {k : AF} : putG (tgS j k) t τ = if live (gT τ j) then (k τ).bind fun q => (q.1.ag q.2).d.bind fun kd => (setG (gT q.2 j) kd t).map fun t' => q.2.set j t' else none := rfl
@[simp] theorem putG_cons {g r : Tg} : putG (.cons g r) t τ = (kidsT (true, t)).bind fun ts => putGs (.cons g r) ts τ := by
  unfold putG putGs putP
  rfl
@[simp] theorem putGs_nil : putGs .nil [] τ = some τ := rfl
@[simp] theorem putGs_cons {g r : Tg} : putGs (.cons g r) (t :: ts) τ = (putG g t τ).bind (putGs r ts) := rfl
@[simp] theorem fresh_nil : fresh τ [] = τ := rfl
@[simp] theorem fresh_cons {j : Nat} {js : List Nat} : fresh τ (j :: js) = (fresh τ js).set j .gone := rfl
@[simp] theorem rest_nil {τ0 : Ta} : restore τ0 τ [] = τ := rfl
@[simp] theorem rest_cons {τ0 : Ta} {v : Nat} {vs : List Nat} : restore τ0 τ (v :: vs) = restore τ0 (τ.set v (gT (fresh τ0 vs) v)) vs := rfl
end

theorem sizeL_le {n : Nat} (h : n ≤ 1000000) : n ≤ sizeL := Nat.le_trans h (by decide)
theorem sizeL_lt {n : Nat} (h : n ≤ 1000000) : n < sizeL := Nat.lt_of_le_of_lt h (by decide)

/-! ### a call -/
/-- a def at a level: from its body -/
theorem call_of {tab : List Df} {n i : Nat} {D : Df} {ts ts' : List T} {o : Out} {r : T × List T} (hD : tab[i]? = some D) (h : D.body (callN tab n) (ts ++ List.replicate (D.N.length - D.ps.length) .gone) = some o) (ho : outOf D.ps.length D.W o = some r) :
    callN tab (n + 1) i ts = some r := by
  unfold callN
  rw [hD]
  show defT _ _ _ _ _ = _
  unfold defT
  rw [h]
  exact ho

/-! ### comprehensions over items that leave the slots as they are -/
theorem lc_go {α : Type} {vs : List Nat} {g : Tg} {b : BF} {z : VF} {τ0 : Ta} (enc out : α → T) (keep : α → Bool) : ∀ (xs : List α) (acc : List T), acc.length + xs.length ≤ sizeL →
    (∀ x ∈ xs, ∀ acc : List T, acc.length < sizeL → lcTurn vs g b z (enc x) (acc, τ0) = some (if keep x then (acc ++ [out x], τ0) else (acc, τ0))) →
    eachT (lcTurn vs g b z) (xs.map enc) (acc, τ0) = some (acc ++ (xs.filter keep).map out, τ0)
  | [], acc, _, _ => by simp [eachT]
  | x :: xs, acc, l, h => by
    have l' : acc.length + (xs.length + 1) ≤ sizeL := l
    rw [List.map_cons, eachT, h x List.mem_cons_self acc (by omega)]
    show eachT _ _ _ = _
    cases hk : keep x with
    | true =>
      rw [if_pos rfl, lc_go enc out keep xs (acc ++ [out x]) (by rw [List.length_append]; show acc.length + 1 + xs.length ≤ _; omega) fun y m => h y (List.mem_cons_of_mem _ m), List.filter_cons_of_pos hk]
      simp
    | false =>
      rw [if_neg (by simp), lc_go enc out keep xs acc (by omega) fun y m => h y (List.mem_cons_of_mem _ m), List.filter_cons_of_neg (by simp [hk])]
/-- [out x for x in xs if keep x] -/
theorem lc_ev {α : Type} {vs : List Nat} {g : Tg} {f : LF} {b : BF} {z : VF} {τ τ1 : Ta} {ts : List T} (enc out : α → T) (keep : α → Bool) (xs : List α) (hf : f τ = some (ts, τ1)) (ht : ts = xs.map enc) (l : xs.length ≤ sizeL)
    (h : ∀ x ∈ xs, ∀ acc : List T, acc.length < sizeL → lcTurn vs g b z (enc x) (acc, fresh τ1 vs) = some (if keep x then (acc ++ [out x], fresh τ1 vs) else (acc, fresh τ1 vs))) :
    vLc vs g f b z τ = some (.lst ((xs.filter keep).map out), restore τ1 (fresh τ1 vs) vs) := by
  unfold vLc
  rw [hf]
  show (eachT _ ts _).map _ = _
  rw [ht, lc_go enc out keep xs [] (by simpa using l) h]
  rfl
theorem lc_all {α : Type} {vs : List Nat} {g : Tg} {f : LF} {b : BF} {z : VF} {τ τ1 : Ta} {ts : List T} (enc out : α → T) (xs : List α) (hf : f τ = some (ts, τ1)) (ht : ts = xs.map enc) (l : xs.length ≤ sizeL)
    (h : ∀ x ∈ xs, ∀ acc : List T, acc.length < sizeL → lcTurn vs g b z (enc x) (acc, fresh τ1 vs) = some (acc ++ [out x], fresh τ1 vs)) :
    vLc vs g f b z τ = some (.lst (xs.map out), restore τ1 (fresh τ1 vs) vs) := by
  have := lc_ev enc out (fun _ => true) xs hf ht l fun x m acc la => by rw [h x m acc la]; rfl
  rw [this, List.filter_eq_self.mpr fun _ _ => rfl]
/-! ### loops -/
theorem for_go {α : Type} {f : T → BS} (enc : α → T) (xs : List α) (I : List α → Ta → Prop) : ∀ (post pre : List α) (τ : Ta), pre ++ post = xs → I pre τ →
    (∀ pre x post, pre ++ x :: post = xs → ∀ τ, I pre τ → ∃ τ', (f (enc x) τ = some (.nx τ') ∨ f (enc x) τ = some (.ct τ')) ∧ I (pre ++ [x]) τ') → ∃ τ', loopF f (post.map enc) τ = some (.nx τ') ∧ I xs τ'
  | [], pre, τ, e, h, _ => ⟨τ, rfl, by rw [List.append_nil] at e; rwa [e] at h⟩
  | x :: post, pre, τ, e, h, s => by
    obtain ⟨τ1, e1, h1⟩ := s pre x post e τ h
    obtain ⟨τ2, e2, h2⟩ := for_go enc xs I post (pre ++ [x]) τ1 (by rw [List.append_assoc]; exact e) h1 s
    refine ⟨τ2, ?_, h2⟩
    rw [List.map_cons, loopF]
    rcases e1 with e1 | e1
    · rw [e1]; exact e2
    · rw [e1]; exact e2
/-- a for whose turns all go on; I: the part taken, the slots -/
theorem for_ev {α : Type} {f : LF} {g : Tg} {b : BS} {τ τ1 : Ta} {ts : List T} (enc : α → T) (xs : List α) (I : List α → Ta → Prop) (hf : f τ = some (ts, τ1)) (ht : ts = xs.map enc) (h0 : I [] τ1)
    (s : ∀ pre x post, pre ++ x :: post = xs → ∀ τ, I pre τ → ∃ τ', (putG g (enc x) τ).bind b = some (.nx τ') ∧ I (pre ++ [x]) τ') : ∃ τ', sFor g f b τ = some (.nx τ') ∧ I xs τ' := by
  unfold sFor
  rw [hf]
  show ∃ τ', loopF _ ts τ1 = _ ∧ _
  rw [ht]
  exact for_go (f := fun t τ => (putG g t τ).bind b) enc xs I xs [] τ1 rfl h0 fun pre x post e τ i => by
    obtain ⟨τ', e', i'⟩ := s pre x post e τ i
    exact ⟨τ', .inl e', i'⟩
end SW
namespace SW
open PySem PySem.Spec PyProof.Rows L2
section
variable {τ : Ta} {t : T} {W : List Nat}
@[simp] theorem outOf_nx {n : Nat} : outOf n W (.nx τ) = some (.fz .none, outs n W τ) := rfl
@[simp] theorem outOf_rt {n : Nat} : outOf n W (.rt t τ) = some (t, outs n W τ) := rfl
@[simp] theorem outs_1 : outs 1 W τ = [if W.contains 0 then .gone else gT τ 0] := rfl
@[simp] theorem outs_2 : outs 2 W τ = [if W.contains 0 then .gone else gT τ 0, if W.contains 1 then .gone else gT τ 1] := rfl
@[simp] theorem outs_3 : outs 3 W τ = [if W.contains 0 then .gone else gT τ 0, if W.contains 1 then .gone else gT τ 1, if W.contains 2 then .gone else gT τ 2] := rfl
@[simp] theorem outs_4 : outs 4 W τ = [if W.contains 0 then .gone else gT τ 0, if W.contains 1 then .gone else gT τ 1, if W.contains 2 then .gone else gT τ 2, if W.contains 3 then .gone else gT τ 3] := rfl
@[simp] theorem outs_5 : outs 5 W τ = [if W.contains 0 then .gone else gT τ 0, if W.contains 1 then .gone else gT τ 1, if W.contains 2 then .gone else gT τ 2, if W.contains 3 then .gone else gT τ 3, if W.contains 4 then .gone else gT τ 4] := rfl
@[simp] theorem callT_e {C : CallT} {f : Nat} {ar : List Nat} {as : List A} {dn : List PyData} : callT C f ar as dn τ = (takeA τ as).bind fun p => (C f (ar.map fun j => (p.1 ++ dn.map T.fz).getD j .gone)).bind fun r =>
    if r.2.length = ar.length then some (r.1, backA p.2 as ((List.range as.length).map fun j => r.2.getD (ar.idxOf j) .gone)) else none := rfl
@[simp] theorem ran1 : List.range 1 = [0] := rfl
@[simp] theorem ran2 : List.range 2 = [0, 1] := rfl
@[simp] theorem ran3 : List.range 3 = [0, 1, 2] := rfl
@[simp] theorem ran4 : List.range 4 = [0, 1, 2, 3] := rfl
@[simp] theorem ran5 : List.range 5 = [0, 1, 2, 3, 4] := rfl
end
end SW
end
section
/-! SYb: plain data: order, sorting, dicts by typed keys. -/
namespace SW
open PySem PySem.Spec PyProof.Rows L2
open PySem.W (dataLt alike keyToks)

/-! ### order -/
theorem leD_toks {a b : PyData} (h1 : leD a b = true) (h2 : leD b a = true) : keyToks a = keyToks b := by
  unfold leD dataLt at h1 h2
  simp only [Bool.not_eq_true'] at h1 h2
  exact lex_total _ _ h2 h1
/-- the order of typed things -/
def leE {α : Type} (e : α → PyData) (a b : α) : Bool := leD (e a) (e b)
def srtE {α : Type} (e : α → PyData) (xs : List α) : List α := xs.mergeSort (leE e)
abbrev Inj {α : Type} (e : α → PyData) : Prop := ∀ a b, keyToks (e a) = keyToks (e b) → a = b
section
variable {α : Type} {e : α → PyData} {xs ys : List α}
theorem srtE_map : (xs.map e).mergeSort leD = (srtE e xs).map e := (List.map_mergeSort (r := leE e) (s := leD) (f := e) (l := xs) fun _ _ _ _ => rfl).symm
theorem srtE_perm : (srtE e xs).Perm xs := List.mergeSort_perm _ _
theorem srtE_len : (srtE e xs).length = xs.length := srtE_perm.length_eq
theorem srtE_mem {a : α} : a ∈ srtE e xs ↔ a ∈ xs := srtE_perm.mem_iff
theorem leE_tr (a b c : α) (h1 : leE e a b = true) (h2 : leE e b c = true) : leE e a c = true := leD_tr _ _ _ h1 h2
theorem leE_tot (a b : α) : (leE e a b || leE e b a) = true := leD_tot _ _
theorem srtE_pw : (srtE e xs).Pairwise fun a b => leE e a b = true := List.pairwise_mergeSort leE_tr leE_tot _
theorem srtE_same (inj : Inj e) (p : xs.Perm ys) : srtE e xs = srtE e ys :=
  List.Perm.eq_of_pairwise (le := fun a b => leE e a b = true) (fun a b _ _ h1 h2 => inj a b (leD_toks h1 h2)) srtE_pw srtE_pw (srtE_perm.trans (p.trans srtE_perm.symm))
/-- strictly one behind the other -/
def Asc (e : α → PyData) (xs : List α) : Prop := xs.Pairwise fun a b => dataLt (e a) (e b) = true
theorem srtE_asc (inj : Inj e) (nd : xs.Nodup) : Asc e (srtE e xs) := by
  have nd2 : (srtE e xs).Nodup := srtE_perm.nodup_iff.mpr nd
  refine List.Pairwise.imp_of_mem ?_ (srtE_pw.and nd2)
  intro a b _ _ h
  cases hb : dataLt (e a) (e b) with
  | true => rfl
  | false =>
    have h2 : leE e b a = true := by
      show (!dataLt (e a) (e b)) = true
      rw [hb]; rfl
    exact absurd (inj a b (leD_toks h.1 h2)) h.2
theorem Asc.nodup (h : Asc e xs) : xs.Nodup := List.Pairwise.imp (fun {a b} h z => by
  subst z
  rw [show dataLt (e a) (e a) = false from lex_irrefl _] at h
  cases h) h
theorem Asc.le (h : Asc e xs) : xs.Pairwise fun a b => leE e a b = true := List.Pairwise.imp (fun {a b} h => by
  rcases Bool.or_eq_true _ _ ▸ leE_tot (e := e) a b with z | z
  · exact z
  · have : (!dataLt (e a) (e b)) = true := z
    rw [h] at this
    cases this) h
theorem srtE_id (inj : Inj e) (h : Asc e xs) : srtE e xs = xs :=
  List.Perm.eq_of_pairwise (le := fun a b => leE e a b = true) (fun a b _ _ h1 h2 => inj a b (leD_toks h1 h2)) srtE_pw h.le srtE_perm
end
theorem srtOk_by {α : Type} {e : α → PyData} (al : ∀ a b, alike (e a) (e b) = true) (k : (∀ a, tupC (e a) = true) ∨ ∀ a, notTN (e a) = true) (dp : ∀ a, (e a).depth ≤ 100) (xs : List α) : srtOk (xs.map e) = true := by
  unfold srtOk allAlike
  simp only [Bool.and_eq_true, List.all_eq_true, List.mem_map, Bool.or_eq_true, decide_eq_true_eq]
  refine ⟨⟨?_, ?_⟩, ?_⟩
  · rintro _ ⟨a, _, rfl⟩ _ ⟨b, _, rfl⟩
    exact al a b
  · rcases k with k | k
    · refine .inl ?_
      rintro _ ⟨a, _, rfl⟩
      exact k a
    · refine .inr ?_
      rintro _ ⟨a, _, rfl⟩
      exact k a
  · rintro _ ⟨a, _, rfl⟩
    exact dp a

/-! ### the kinds of data -/
theorem inj_str : Inj PyData.str := fun a b h => by
  have h : ([Sum.inr a.cps.toList] : List (Int ⊕ List Nat)) = [Sum.inr b.cps.toList] := by simpa [keyToks] using h
  have h2 : a.cps.toList = b.cps.toList := by simpa using h
  cases a; cases b
  congr 1
  exact Array.toList_inj.mp h2
theorem inj_int : Inj PyData.int := fun a b h => by simpa [keyToks] using h
theorem str_toks {a b : Str} (h : a.cps.toList = b.cps.toList) : a = b := by
  cases a; cases b
  congr 1
  exact Array.toList_inj.mp h
theorem alike_str (a b : Str) : alike (.str a) (.str b) = true := by simp [alike]
theorem alike_int (a b : Int) : alike (.int a) (.int b) = true := by simp [alike]
theorem alikeAll_strs : ∀ (a b : List Str), PySem.W.alikeAll (a.map .str) (b.map .str) = true
  | [], _ => by simp [PySem.W.alikeAll]
  | _ :: _, [] => by simp [PySem.W.alikeAll]
  | x :: a, y :: b => by simp [PySem.W.alikeAll, alike, alikeAll_strs a b]
theorem depth_str (a : Str) : (PyData.str a).depth = 0 := by simp [PyData.depth]
theorem depth_int (a : Int) : (PyData.int a).depth = 0 := by simp [PyData.depth]
theorem depthAll_map {α : Type} {e : α → PyData} {n : Nat} (h : ∀ a, (e a).depth ≤ n) : ∀ xs : List α, PyData.depthAll (xs.map e) ≤ n
  | [] => by simp [PyData.depthAll]
  | x :: xs => by
    have := h x
    have := depthAll_map h xs
    simp only [List.map_cons, PyData.depthAll]
    omega
theorem plainAll_map {α : Type} {e : α → PyData} (h : ∀ a, (e a).plain = true) : ∀ xs : List α, PyData.plainAll (xs.map e) = true
  | [] => by simp [PyData.plainAll]
  | x :: xs => by simp [PyData.plainAll, h x, plainAll_map h xs]
@[simp] theorem ltD_int (a b : Int) : ltD (.int a) (.int b) = some (decide (a < b)) := by
  unfold ltD
  rw [if_pos (by simp [ordOk, alike, isNone, PyData.depth]), PySem.W.dataLt_int]
@[simp] theorem ltD_str (a b : Str) : ltD (.str a) (.str b) = some (dataLt (.str a) (.str b)) := by
  unfold ltD
  rw [if_pos (by simp [ordOk, alike, isNone, PyData.depth])]
@[simp] theorem okD_int (a : Int) : okD (.int a) = true := by simp [okD, PyData.plain, PyData.depth]
@[simp] theorem okD_str (a : Str) : okD (.str a) = true := by simp [okD, PyData.plain, PyData.depth]
@[simp] theorem okD_bool (a : Bool) : okD (.bool a) = true := by simp [okD, PyData.plain, PyData.depth]
@[simp] theorem okD_none : okD .none = true := by simp [okD, PyData.plain, PyData.depth]
@[simp] theorem eqD_int (a b : Int) : eqD (.int a) (.int b) = some (decide (a = b)) := by
  show (if okD (.int a) && okD (.int b) then some (PyData.eqv (.int a) (.int b)) else none) = _
  simp only [okD_int, Bool.and_self, if_true, PyData.eqv, Option.some.injEq]
  rw [Bool.eq_iff_iff]
  simp
@[simp] theorem eqD_str (a b : Str) : eqD (.str a) (.str b) = some (decide (a = b)) := by
  show (if okD (.str a) && okD (.str b) then some (PyData.eqv (.str a) (.str b)) else none) = _
  simp only [okD_str, Bool.and_self, if_true, PyData.eqv, Option.some.injEq]
  rw [Bool.eq_iff_iff]
  simp
@[simp] theorem eqD_bool (a b : Bool) : eqD (.bool a) (.bool b) = some (a == b) := by
  show (if okD (.bool a) && okD (.bool b) then some (PyData.eqv (.bool a) (.bool b)) else none) = _
  simp only [okD_bool, Bool.and_self, if_true, PyData.eqv, Option.some.injEq]
@[simp] theorem eqD_none : eqD .none .none = some true := by
  show (if okD .none && okD .none then some (PyData.eqv .none .none) else none) = _
  simp [PyData.eqv]
/-- int == None -/
@[simp] theorem eqD_in (a : Int) : eqD (.int a) .none = some false := by
  show (if okD (.int a) && okD .none then some (PyData.eqv (.int a) .none) else none) = _
  simp [PyData.eqv]
@[simp] theorem inD_strs (x : Str) (xs : List Str) : inD (.str x) (.list (xs.map .str)) = some (decide (x ∈ xs)) := by
  show (if okD (.str x) && okDs (xs.map .str) then _ else none) = _
  rw [if_pos (by
    have h1 := plainAll_map (e := PyData.str) (fun a => by simp [PyData.plain]) xs
    have h2 := depthAll_map (e := PyData.str) (n := 100) (fun a => by simp [PyData.depth]) xs
    simp [okD, okDs, PyData.plain, PyData.depth, h1, h2])]
  congr 1
  rw [Bool.eq_iff_iff]
  simp [PyData.eqv]
@[simp] theorem inD_ints (x : Int) (xs : List Int) : inD (.int x) (.list (xs.map .int)) = some (decide (x ∈ xs)) := by
  show (if okD (.int x) && okDs (xs.map .int) then _ else none) = _
  rw [if_pos (by
    have h1 := plainAll_map (e := PyData.int) (fun a => by simp [PyData.plain]) xs
    have h2 := depthAll_map (e := PyData.int) (n := 100) (fun a => by simp [PyData.depth]) xs
    simp [okD, okDs, PyData.plain, PyData.depth, h1, h2])]
  congr 1
  rw [Bool.eq_iff_iff]
  simp [PyData.eqv]
@[simp] theorem cmpT_e {op : Cop} {b c : Bool} {t u : T} : cmpT op (b, t) (c, u) = t.toD.bind fun p => u.toD.bind fun q => (cmpD op p q).map fun k => .fz (.bool k) := by
  unfold cmpT
  show (match t.toD, u.toD with
    | some p, some q => _
    | _, _ => none) = _
  cases t.toD with
  | none => rfl
  | some p =>
    cases u.toD with
    | none => rfl
    | some q => rfl
@[simp] theorem cmpD_eq {x y : PyData} : cmpD .eq x y = eqD x y := rfl
@[simp] theorem cmpD_ne {x y : PyData} : cmpD .ne x y = (eqD x y).map (!·) := rfl
@[simp] theorem cmpD_lt {x y : PyData} : cmpD .lt x y = ltD x y := rfl
@[simp] theorem cmpD_gt {x y : PyData} : cmpD .gt x y = ltD y x := rfl
@[simp] theorem cmpD_le {x y : PyData} : cmpD .le x y = (ltD y x).map (!·) := rfl
@[simp] theorem cmpD_ge {x y : PyData} : cmpD .ge x y = (ltD x y).map (!·) := rfl
@[simp] theorem cmpD_in {x y : PyData} : cmpD .inn x y = inD x y := rfl
@[simp] theorem cmpD_nin {x y : PyData} : cmpD .nin x y = (inD x y).map (!·) := rfl
@[simp] theorem cmpD_is {x : PyData} : cmpD .is x .none = some (isNone x) := by cases x <;> rfl
@[simp] theorem isNone_i {a : Int} : isNone (.int a) = false := rfl
@[simp] theorem isNone_n : isNone .none = true := rfl
@[simp] theorem isNone_s {a : Str} : isNone (.str a) = false := rfl
@[simp] theorem isNone_l {a : List PyData} : isNone (.list a) = false := rfl
@[simp] theorem isNone_b {a : Bool} : isNone (.bool a) = false := rfl

/-! ### dicts by typed keys -/
section
variable {κ β γ : Type} [DecidableEq κ]
def lk (k : κ) : List (κ × β) → Option β
  | [] => none
  | q :: r => if q.1 = k then some q.2 else lk k r
def put (k : κ) (v : β) : List (κ × β) → List (κ × β)
  | [] => [(k, v)]
  | q :: r => if q.1 = k then (q.1, v) :: r else q :: put k v r
abbrev KeyE (f : κ → PyData) : Prop := ∀ a b, keq (f a) (f b) = decide (a = b)
variable {f : κ → PyData} {g : β → γ}
theorem kFind_e (hf : KeyE f) (k : κ) : ∀ qs : List (κ × β), kFind (f k) (qs.map fun q => (f q.1, g q.2)) = (lk k qs).map g
  | [] => rfl
  | q :: qs => by
    have ih := kFind_e hf k qs
    simp only [List.map_cons, kFind, lk, hf, decide_eq_true_eq]
    split
    · rfl
    · exact ih
theorem kPut_e (hf : KeyE f) (k : κ) (v : β) : ∀ qs : List (κ × β), kPut (f k) (g v) (qs.map fun q => (f q.1, g q.2)) = (put k v qs).map fun q => (f q.1, g q.2)
  | [] => rfl
  | q :: qs => by
    have ih := kPut_e hf k v qs
    simp only [List.map_cons, kPut, put, hf, decide_eq_true_eq]
    split
    · rfl
    · rw [ih]; rfl
theorem lk_put {k j : κ} {v : β} : ∀ qs : List (κ × β), lk j (put k v qs) = if k = j then some v else lk j qs
  | [] => rfl
  | q :: qs => by
    have ih := lk_put (k := k) (j := j) (v := v) qs
    unfold put
    by_cases h : q.1 = k
    · rw [if_pos h]
      unfold lk
      by_cases h2 : k = j
      · simp [h, h2]
      · simp [h, h2]
    · rw [if_neg h]
      by_cases h2 : q.1 = j
      · have : k ≠ j := fun z => h (h2.trans z.symm)
        simp [lk, h2, this]
      · simp [lk, h2, ih]
theorem put_keys {k : κ} {v : β} : ∀ qs : List (κ × β), (put k v qs).map (·.1) = if k ∈ qs.map (·.1) then qs.map (·.1) else qs.map (·.1) ++ [k]
  | [] => rfl
  | q :: qs => by
    have ih := put_keys (k := k) (v := v) qs
    unfold put
    by_cases h : q.1 = k
    · simp [h]
    · rw [if_neg h]
      have h' : ¬ k = q.1 := fun z => h z.symm
      simp only [List.map_cons, ih, List.mem_cons, h', false_or]
      split <;> simp
theorem put_new {k : κ} {v : β} : ∀ {qs : List (κ × β)}, k ∉ qs.map (·.1) → put k v qs = qs ++ [(k, v)]
  | [], _ => rfl
  | q :: qs, h => by
    simp only [List.map_cons, List.mem_cons, not_or] at h
    unfold put
    rw [if_neg fun z => h.1 z.symm, put_new h.2]
    rfl
theorem lk_none {k : κ} : ∀ {qs : List (κ × β)}, k ∉ qs.map (·.1) → lk k qs = none
  | [], _ => rfl
  | q :: qs, h => by
    simp only [List.map_cons, List.mem_cons, not_or] at h
    unfold lk
    rw [if_neg fun z => h.1 z.symm, lk_none h.2]
theorem lk_some {k : κ} {v : β} : ∀ {qs : List (κ × β)}, lk k qs = some v → (k, v) ∈ qs
  | q :: qs, h => by
    unfold lk at h
    split at h
    · rename_i e
      cases h
      rw [← e]
      exact List.mem_cons_self
    · exact List.mem_cons_of_mem _ (lk_some h)
theorem lk_isSome {k : κ} : ∀ {qs : List (κ × β)}, (lk k qs).isSome = decide (k ∈ qs.map (·.1))
  | [] => rfl
  | q :: qs => by
    unfold lk
    by_cases h : q.1 = k
    · simp [h]
    · have h' : ¬ k = q.1 := fun z => h z.symm
      rw [if_neg h, lk_isSome]
      simp [h']
theorem lk_mem {k : κ} {v : β} : ∀ {qs : List (κ × β)}, (qs.map (·.1)).Nodup → (k, v) ∈ qs → lk k qs = some v
  | q :: qs, nd, m => by
    simp only [List.map_cons, List.nodup_cons] at nd
    unfold lk
    rcases List.mem_cons.mp m with rfl | m
    · rw [if_pos rfl]
    · have : ¬ q.1 = k := fun z => nd.1 (by
        rw [z]
        exact List.mem_map.mpr ⟨_, m, rfl⟩)
      rw [if_neg this, lk_mem nd.2 m]
end
theorem keyE_str : KeyE PyData.str := fun a b => by
  show keq1 (.str a) (.str b) = _
  show (a == b) = _
  rw [Bool.eq_iff_iff]
  simp
theorem keyE_int : KeyE PyData.int := fun a b => by
  show (a == b) = _
  rw [Bool.eq_iff_iff]
  simp
def eSS (p : Str × Str) : PyData := .tuple [.str p.1, .str p.2]
def eIS (p : Int × Str) : PyData := .tuple [.int p.1, .str p.2]
def eISS (p : Int × Str × Str) : PyData := .tuple [.int p.1, .str p.2.1, .str p.2.2]
def eSSI (p : Str × Str × Int) : PyData := .tuple [.str p.1, .str p.2.1, .int p.2.2]
theorem keyE_SS : KeyE eSS := fun a b => by
  show ((a.1 == b.1) && ((a.2 == b.2) && true)) = _
  rw [Bool.eq_iff_iff]
  simp [Prod.ext_iff]
theorem keyE_IS : KeyE eIS := fun a b => by
  show ((a.1 == b.1) && ((a.2 == b.2) && true)) = _
  rw [Bool.eq_iff_iff]
  simp [Prod.ext_iff]
theorem keyE_ISS : KeyE eISS := fun a b => by
  show ((a.1 == b.1) && ((a.2.1 == b.2.1) && ((a.2.2 == b.2.2) && true))) = _
  rw [Bool.eq_iff_iff]
  simp [Prod.ext_iff]
theorem keyE_SSI : KeyE eSSI := fun a b => by
  show ((a.1 == b.1) && ((a.2.1 == b.2.1) && ((a.2.2 == b.2.2) && true))) = _
  rw [Bool.eq_iff_iff]
  simp [Prod.ext_iff]
section
variable {κ β γ : Type} {f : κ → PyData} {g : β → γ} {qs : List (κ × β)} {k : κ}
theorem kOk_K (h : ∀ a, isK (f a) = true) : kOk (f k) (qs.map fun q => (f q.1, g q.2)) = true := by
  unfold kOk
  simp [h]
theorem kOk_T (h : ∀ a, isKT (f a) = true) : kOk (f k) (qs.map fun q => (f q.1, g q.2)) = true := by
  unfold kOk
  simp [h]
end
theorem isKT_SS (a : Str × Str) : isKT (eSS a) = true := rfl
theorem isKT_IS (a : Int × Str) : isKT (eIS a) = true := rfl
theorem isKT_ISS (a : Int × Str × Str) : isKT (eISS a) = true := rfl
theorem isKT_SSI (a : Str × Str × Int) : isKT (eSSI a) = true := rfl
theorem isK_S (a : Str) : isK (.str a) = true := rfl
theorem isK_I (a : Int) : isK (.int a) = true := rfl

/-! ### dict comprehensions -/
theorem dc_go {α κ β : Type} [DecidableEq κ] {vs : List Nat} {g : Tg} {b : BF} {zk zv : VF} {τ0 : Ta} (enc : α → T) (f : κ → PyData) (gv : β → T) (key : α → κ) (val : α → β) (hf : KeyE f) (ok : ∀ k (m : List (κ × β)), kOk (f k) (m.map fun q => (f q.1, gv q.2)) = true) :
    ∀ (xs : List α) (m : List (κ × β)), m.length + xs.length ≤ sizeL →
    (∀ x ∈ xs, ∀ m : List (PyData × T), dcTurn vs g b zk zv (enc x) (m, τ0) = if kOk (f (key x)) m && decide (m.length < sizeL) then some (kPut (f (key x)) (gv (val x)) m, τ0) else none) →
    eachT (dcTurn vs g b zk zv) (xs.map enc) (m.map fun q => (f q.1, gv q.2), τ0) = some ((xs.foldl (fun m x => put (key x) (val x) m) m).map fun q => (f q.1, gv q.2), τ0)
  | [], m, _, _ => by simp [eachT]
  | x :: xs, m, l, h => by
    have l' : m.length + (xs.length + 1) ≤ sizeL := l
    rw [List.map_cons, eachT, h x List.mem_cons_self, if_pos (by rw [ok]; simp; omega)]
    show eachT _ _ _ = _
    rw [kPut_e hf]
    have lp : (put (key x) (val x) m).length ≤ m.length + 1 := by
      have := congrArg List.length (put_keys (k := key x) (v := val x) m)
      rw [List.length_map] at this
      split at this <;> simp at this <;> omega
    exact dc_go enc f gv key val hf ok xs _ (by omega) fun y my => h y (List.mem_cons_of_mem _ my)
theorem dc_ev {α κ β : Type} [DecidableEq κ] {vs : List Nat} {g : Tg} {fl : LF} {b : BF} {zk zv : VF} {τ τ1 : Ta} {ts : List T} (enc : α → T) (f : κ → PyData) (gv : β → T) (key : α → κ) (val : α → β) (hf : KeyE f) (ok : ∀ k (m : List (κ × β)), kOk (f k) (m.map fun q => (f q.1, gv q.2)) = true)
    (xs : List α) (e : fl τ = some (ts, τ1)) (ht : ts = xs.map enc) (l : xs.length ≤ sizeL)
    (h : ∀ x ∈ xs, ∀ m : List (PyData × T), dcTurn vs g b zk zv (enc x) (m, fresh τ1 vs) = if kOk (f (key x)) m && decide (m.length < sizeL) then some (kPut (f (key x)) (gv (val x)) m, fresh τ1 vs) else none) :
    vDc vs g fl b zk zv τ = some (.dct ((xs.foldl (fun m x => put (key x) (val x) m) []).map fun q => (f q.1, gv q.2)), restore τ1 (fresh τ1 vs) vs) := by
  unfold vDc
  rw [e]
  show (eachT _ ts _).map _ = _
  rw [ht]
  have := dc_go (τ0 := fresh τ1 vs) enc f gv key val hf ok xs [] (by simpa using l) h
  rw [List.map_nil] at this
  rw [this]
  rfl
/-- all keys apart -/
theorem fold_new {α κ β : Type} [DecidableEq κ] {key : α → κ} {val : α → β} : ∀ (xs : List α) (m : List (κ × β)), (m.map (·.1) ++ xs.map key).Nodup → xs.foldl (fun m x => put (key x) (val x) m) m = m ++ xs.map fun x => (key x, val x)
  | [], m, _ => by simp
  | x :: xs, m, nd => by
    have nx : key x ∉ m.map (·.1) := fun z => (List.nodup_append.mp nd).2.2 _ z _ List.mem_cons_self rfl
    rw [List.foldl_cons, put_new nx, fold_new xs _ (by simpa [List.append_assoc] using nd)]
    simp
end SW
end
section
/-! SYc: slices, zips, tests of all, lengths, sorting as simp equations. -/
namespace SW
open PySem PySem.Spec PyProof.Rows L2
open PySem.W (dataLt alike keyToks)

theorem cutL_from {α : Type} (xs : List α) (k : Nat) : cutL xs (some (k : Int)) none = xs.drop k := by
  unfold cutL
  rw [HT.sIx_nat, HT.sIx_none]
  by_cases h : k ≤ xs.length
  · rw [Nat.min_eq_left h, List.take_of_length_le (by simp)]
  · have : xs.length ≤ k := by omega
    rw [Nat.min_eq_right this, List.drop_eq_nil_of_le this]
    simp
theorem cutL_to {α : Type} (xs : List α) (k : Nat) : cutL xs none (some (k : Int)) = xs.take k := by
  unfold cutL
  rw [HT.sIx_nat, HT.sIx_none]
  by_cases h : k ≤ xs.length
  · rw [Nat.min_eq_left h]; rfl
  · have : xs.length ≤ k := by omega
    rw [Nat.min_eq_right this, List.take_of_length_le this]
    show List.take _ xs = _
    rw [List.take_of_length_le (by simp)]
@[simp] theorem cutL_from1 {α : Type} (xs : List α) : cutL xs (some 1) none = xs.tail := by
  rw [← List.drop_one]
  exact cutL_from xs 1
theorem tail_mapT {α β : Type} (f : α → β) (xs : List α) : (xs.map f).tail = xs.tail.map f := by cases xs <;> rfl
@[simp] theorem cutL_to2 {α : Type} (xs : List α) : cutL xs none (some 2) = xs.take 2 := cutL_to xs 2
@[simp] theorem slcT_fzL {ds : List PyData} {b : Bool} {lo hi : Option Int} : slcT (b, .fz (.list ds)) lo hi = some (.lst (cutL (ds.map .fz) lo hi)) := rfl
@[simp] theorem slcT_own {ts : List T} {lo hi : Option Int} : slcT (true, .lst ts) lo hi = some (.lst (cutL ts lo hi)) := rfl
theorem zipT_e {α β : Type} {f : α → PyData} {g : β → PyData} {xs : List α} {ys : List β} : zipT (xs.map fun x => .fz (f x)) (ys.map fun y => .fz (g y)) = (xs.zip ys).map fun p => .fz (.tuple [f p.1, g p.2]) := by
  unfold zipT
  rw [List.zip_map, List.map_map]
  rfl
@[simp] theorem lZip_e {v w : VF} {τ : Ta} : lZip v w τ = (v τ).bind fun p => (w p.2).bind fun q => match kidsL (true, p.1), kidsL (true, q.1) with
  | some ts, some us => some (zipT ts us, q.2)
  | _, _ => match kidsT (true, p.1), kidsT (true, q.1) with
    | some ts, some us => some (zipT ts us, q.2)
    | _, _ => none := rfl
theorem boolsD_map {α : Type} (f : α → Bool) : ∀ xs : List α, boolsD (xs.map fun x => .bool (f x)) = some (xs.map f)
  | [] => rfl
  | x :: xs => by
    simp only [List.map_cons, boolsD, boolsD_map f xs]
    rfl
theorem intsD_map {α : Type} (f : α → Int) : ∀ xs : List α, intsD (xs.map fun x => .int (f x)) = some (xs.map f)
  | [] => rfl
  | x :: xs => by
    simp only [List.map_cons, intsD, intsD_map f xs]
    rfl
/-- all([..]) over a made list of truth values -/
@[simp] theorem allG_e {α : Type} {f : α → Bool} {xs : List α} : allG (true, .lst (xs.map fun x => .fz (.bool (f x)))) = some (.fz (.bool (xs.all f))) := by
  unfold allG
  rw [itsF_own, toDs_mapf, Option.bind_some, boolsD_map]
  simp [List.all_map, Function.comp_def]
@[simp] theorem lenG_fzL {b : Bool} {ds : List PyData} : lenG (b, .fz (.list ds)) = some (.fz (.int ds.length)) := rfl
@[simp] theorem lenG_fzT {b : Bool} {ds : List PyData} : lenG (b, .fz (.tuple ds)) = some (.fz (.int ds.length)) := rfl
@[simp] theorem lenG_fzD {b : Bool} {ds : List (PyData × PyData)} : lenG (b, .fz (.dict ds)) = some (.fz (.int ds.length)) := rfl
@[simp] theorem lenG_lst {b : Bool} {ds : List T} : lenG (b, .lst ds) = some (.fz (.int ds.length)) := rfl
@[simp] theorem lenSG_e {b : Bool} {ns : List Int} : lenSG (b, .scr ns) = some (.fz (.int ns.length)) := rfl
@[simp] theorem isiT_e {b : Bool} {t : T} {ts : List Ty} : isiT ts (b, t) = t.toD.map fun d => .fz (.bool (ts.any (isTy d))) := rfl
@[simp] theorem isTy_i {a : Int} : isTy (.int a) .int = true ∧ isTy (.int a) .bool = false ∧ isTy (.int a) .str = false ∧ isTy (.int a) .list = false ∧ isTy (.int a) .tuple = false ∧ isTy (.int a) .dict = false := ⟨rfl, rfl, rfl, rfl, rfl, rfl⟩
@[simp] theorem isTy_s {a : Str} : isTy (.str a) .int = false ∧ isTy (.str a) .bool = false ∧ isTy (.str a) .str = true ∧ isTy (.str a) .list = false ∧ isTy (.str a) .tuple = false ∧ isTy (.str a) .dict = false := ⟨rfl, rfl, rfl, rfl, rfl, rfl⟩
@[simp] theorem isTy_l {a : List PyData} : isTy (.list a) .int = false ∧ isTy (.list a) .bool = false ∧ isTy (.list a) .str = false ∧ isTy (.list a) .list = true ∧ isTy (.list a) .tuple = false ∧ isTy (.list a) .dict = false := ⟨rfl, rfl, rfl, rfl, rfl, rfl⟩
@[simp] theorem isTy_t {a : List PyData} : isTy (.tuple a) .int = false ∧ isTy (.tuple a) .bool = false ∧ isTy (.tuple a) .str = false ∧ isTy (.tuple a) .list = false ∧ isTy (.tuple a) .tuple = true ∧ isTy (.tuple a) .dict = false := ⟨rfl, rfl, rfl, rfl, rfl, rfl⟩
@[simp] theorem isTy_d {a : List (PyData × PyData)} : isTy (.dict a) .int = false ∧ isTy (.dict a) .bool = false ∧ isTy (.dict a) .str = false ∧ isTy (.dict a) .list = false ∧ isTy (.dict a) .tuple = false ∧ isTy (.dict a) .dict = true := ⟨rfl, rfl, rfl, rfl, rfl, rfl⟩
@[simp] theorem isTy_n : isTy .none .int = false ∧ isTy .none .bool = false ∧ isTy .none .str = false ∧ isTy .none .list = false ∧ isTy .none .tuple = false ∧ isTy .none .dict = false := ⟨rfl, rfl, rfl, rfl, rfl, rfl⟩
@[simp] theorem isTy_b {a : Bool} : isTy (.bool a) .int = true ∧ isTy (.bool a) .bool = true ∧ isTy (.bool a) .str = false ∧ isTy (.bool a) .list = false ∧ isTy (.bool a) .tuple = false ∧ isTy (.bool a) .dict = false := ⟨rfl, rfl, rfl, rfl, rfl, rfl⟩
@[simp] theorem int2_e {f : Int → Int → Option T} {b c : Bool} {i j : Int} : int2 f (b, .fz (.int i)) (c, .fz (.int j)) = f i j := rfl
@[simp] theorem maxG_e {b c : Bool} {i j : Int} : maxG (b, .fz (.int i)) (c, .fz (.int j)) = some (.fz (.int (if j > i then j else i))) := rfl
@[simp] theorem minG_e {b c : Bool} {i j : Int} : minG (b, .fz (.int i)) (c, .fz (.int j)) = some (.fz (.int (if j < i then j else i))) := rfl
@[simp] theorem intG_e {b : Bool} {i : Int} : intG (b, .fz (.int i)) = some (.fz (.int i)) := rfl
@[simp] theorem addT_int {b c : Bool} {i j : Int} : binT .add (b, .fz (.int i)) (c, .fz (.int j)) = some (.fz (.int (i + j))) := rfl
@[simp] theorem subT_int {b c : Bool} {i j : Int} : binT .sub (b, .fz (.int i)) (c, .fz (.int j)) = some (.fz (.int (i - j))) := rfl
@[simp] theorem mulT_int {b c : Bool} {i j : Int} : binT .mul (b, .fz (.int i)) (c, .fz (.int j)) = if mulOk i j then some (.fz (.int (i * j))) else none := rfl
@[simp] theorem modT_int {b c : Bool} {i j : Int} : binT .mod (b, .fz (.int i)) (c, .fz (.int j)) = if 0 < j then some (.fz (.int (i % j))) else none := rfl
@[simp] theorem fdivT_int {b c : Bool} {i j : Int} : binT .fdiv (b, .fz (.int i)) (c, .fz (.int j)) = if decide (0 < j) && decide (j.natAbs.log2 < 9000) then some (.fz (.int (i / j))) else none := rfl
@[simp] theorem powT_int {b c : Bool} {i j : Int} : binT .pow (b, .fz (.int i)) (c, .fz (.int j)) = if powOk i j then some (.fz (.int (i ^ j.toNat))) else none := rfl
/-- x[i] of frozen rows, i a written number -/
@[simp] theorem subT_l0 {b : Bool} {x : PyData} {xs : List PyData} : subT b (.fz (.list (x :: xs))) (.int 0) = some (.fz x, .fz (.list (x :: xs))) := by
  show ((ixOf (xs.length + 1) 0).bind fun j => (x :: xs)[j]?).map _ = _
  rw [show ixOf (xs.length + 1) 0 = some 0 from by unfold ixOf ixN; rw [if_pos (by decide), if_pos (by omega)]; rfl]
  rfl
@[simp] theorem subT_t20 {b : Bool} {x y : PyData} : subT b (.fz (.tuple [x, y])) (.int 0) = some (.fz x, .fz (.tuple [x, y])) := rfl
@[simp] theorem subT_t21 {b : Bool} {x y : PyData} : subT b (.fz (.tuple [x, y])) (.int 1) = some (.fz y, .fz (.tuple [x, y])) := rfl
@[simp] theorem subT_t30 {b : Bool} {x y z : PyData} : subT b (.fz (.tuple [x, y, z])) (.int 0) = some (.fz x, .fz (.tuple [x, y, z])) := rfl
@[simp] theorem subT_t31 {b : Bool} {x y z : PyData} : subT b (.fz (.tuple [x, y, z])) (.int 1) = some (.fz y, .fz (.tuple [x, y, z])) := rfl
@[simp] theorem subT_t32 {b : Bool} {x y z : PyData} : subT b (.fz (.tuple [x, y, z])) (.int 2) = some (.fz z, .fz (.tuple [x, y, z])) := rfl
@[simp] theorem subT_dict {b : Bool} {kvs : List (PyData × PyData)} {k : PyData} : subT b (.fz (.dict kvs)) k = if kOk k kvs then (kFind k kvs).map fun d => (.fz d, .fz (.dict kvs)) else none := by
  cases k <;> rfl
@[simp] theorem getD2_fz {kvs : List (PyData × PyData)} {k : PyData} {d : Ag} : getD2 (.fz (.dict kvs)) k d = if kOk k kvs then (match kFind k kvs with
    | some v => some (.fz v)
    | none => if d.1 || d.2.isFz then some d.2 else none) else none := rfl
@[simp] theorem setG_dct {kvs : List (PyData × T)} {k : PyData} {v : T} : setG (.dct kvs) k v = if kOk k kvs && decide (kvs.length < sizeL) then some (.dct (kPut k v kvs)) else none := by
  cases k <;> rfl
theorem srtG_e {α : Type} {e : α → PyData} {b : Bool} {t : T} {xs : List α} (h : itemsF (b, t) = some (xs.map e)) (l : xs.length ≤ sizeL) (ok : srtOk (xs.map e) = true) : srtG (b, t) = some (.lst ((srtE e xs).map fun x => .fz (e x))) := by
  unfold srtG
  rw [h, Option.bind_some, if_pos (by rw [List.length_map]; exact l)]
  unfold sortD
  rw [if_pos ok, srtE_map]
  show some (T.lst _) = _
  rw [List.map_map]
  rfl
@[simp] theorem toDs_mapc {α : Type} (f : α → PyData) (xs : List α) : toDs (xs.map (T.fz ∘ f)) = some (xs.map f) := toDs_mapf f xs
@[simp] theorem itsF_lentc {b : Bool} {α : Type} {f : α → PyData} {xs : List α} : itemsF (b, .lst (xs.map (T.fz ∘ f))) = some (xs.map f) := itsF_lentf
@[simp] theorem kidsL_lentc {α : Type} {f : α → PyData} {xs : List α} : kidsL (false, .lst (xs.map (T.fz ∘ f))) = some (xs.map (T.fz ∘ f)) := kidsL_lentf
@[simp] theorem toDs_tail {α : Type} (f : α → PyData) (xs : List α) : toDs (xs.map (T.fz ∘ f)).tail = some (xs.map f).tail := by
  rw [tail_mapT, tail_mapT]
  exact toDs_mapf f xs.tail
theorem fzmap {α : Type} {e : α → PyData} {xs : List α} : (xs.map e).map T.fz = xs.map fun x => .fz (e x) := by rw [List.map_map]; rfl
end SW
end
section
/-! SYd: comprehensions of two clauses; loops that end early; comprehensions that change the slots. -/
namespace SW
open PySem PySem.Spec PyProof.Rows L2

theorem lc2_go {α β : Type} {vs ws : List Nat} {g g1 : Tg} {b b1 : BF} {f1 : LF} {z : VF} {τ0 : Ta} (enc : α → T) (inn : α → List β) (encI : β → T) (out : α → β → T) : ∀ (xs : List α) (acc : List T), acc.length + (xs.flatMap inn).length ≤ sizeL →
    (∀ x ∈ xs, ∃ τ2 τ2' ts2 τ3, putG g (enc x) τ0 = some τ2 ∧ b τ2 = some (true, τ2') ∧ f1 τ2' = some (ts2, τ3) ∧ ts2 = (inn x).map encI ∧ fresh (fresh τ3 ws) vs = τ0 ∧
      ∀ y ∈ inn x, ∀ acc : List T, acc.length < sizeL → lcTurn ws g1 b1 z (encI y) (acc, fresh τ3 ws) = some (acc ++ [out x y], fresh τ3 ws)) →
    eachT (lc2Turn vs ws g b f1 g1 b1 z) (xs.map enc) (acc, τ0) = some (acc ++ xs.flatMap fun x => (inn x).map (out x), τ0)
  | [], acc, _, _ => by simp [eachT]
  | x :: xs, acc, l, h => by
    rw [List.flatMap_cons, List.length_append] at l
    obtain ⟨τ2, τ2', ts2, τ3, e1, e2, e3, e4, e5, e6⟩ := h x List.mem_cons_self
    rw [List.map_cons, eachT]
    have inner := lc_go (vs := ws) (g := g1) (b := b1) (z := z) (τ0 := fresh τ3 ws) encI (out x) (fun _ => true) (inn x) acc (by omega) fun y m acc la => by rw [e6 y m acc la]; rfl
    have turn : lc2Turn vs ws g b f1 g1 b1 z (enc x) (acc, τ0) = some (acc ++ (inn x).map (out x), τ0) := by
      unfold lc2Turn
      rw [e1, Option.bind_some, e2, Option.bind_some, if_pos rfl, e3, Option.bind_some, e4, inner, Option.map_some, e5, List.filter_eq_self.mpr fun _ _ => rfl]
    rw [turn]
    show eachT _ _ _ = _
    rw [lc2_go enc inn encI out xs _ (by rw [List.length_append, List.length_map]; omega) fun y m => h y (List.mem_cons_of_mem _ m), List.flatMap_cons, List.append_assoc]
theorem lc2_ev {α β : Type} {vs ws : List Nat} {g g1 : Tg} {b b1 : BF} {f f1 : LF} {z : VF} {τ τ1 : Ta} {ts : List T} (enc : α → T) (inn : α → List β) (encI : β → T) (out : α → β → T) (xs : List α) (hf : f τ = some (ts, τ1)) (ht : ts = xs.map enc) (l : (xs.flatMap inn).length ≤ sizeL)
    (h : ∀ x ∈ xs, ∃ τ2 τ2' ts2 τ3, putG g (enc x) (fresh τ1 vs) = some τ2 ∧ b τ2 = some (true, τ2') ∧ f1 τ2' = some (ts2, τ3) ∧ ts2 = (inn x).map encI ∧ fresh (fresh τ3 ws) vs = fresh τ1 vs ∧
      ∀ y ∈ inn x, ∀ acc : List T, acc.length < sizeL → lcTurn ws g1 b1 z (encI y) (acc, fresh τ3 ws) = some (acc ++ [out x y], fresh τ3 ws)) :
    vLc2 vs ws g f b g1 f1 b1 z τ = some (.lst (xs.flatMap fun x => (inn x).map (out x)), restore τ1 (fresh τ1 vs) vs) := by
  unfold vLc2
  rw [hf]
  show (eachT _ ts _).map _ = _
  rw [ht, lc2_go enc inn encI out xs [] (by simpa using l) h]
  rfl
/-- a for that may return: at the first item of which stop tells -/
theorem for_rt {α : Type} {f : LF} {g : Tg} {b : BS} {τ τ1 : Ta} {ts : List T} (enc : α → T) (xs : List α) (I : Ta → Prop) (stop : α → Option T) (hf : f τ = some (ts, τ1)) (ht : ts = xs.map enc) (h0 : I τ1)
    (s : ∀ x ∈ xs, ∀ τ, I τ → ∃ τ', I τ' ∧ (putG g (enc x) τ).bind b = some (match stop x with
      | none => .nx τ'
      | some r => .rt r τ')) : ∃ τ', I τ' ∧ sFor g f b τ = some (match xs.findSome? stop with
      | none => .nx τ'
      | some r => .rt r τ') := by
  unfold sFor
  rw [hf]
  show ∃ τ', I τ' ∧ loopF _ ts τ1 = _
  rw [ht]
  clear hf ht
  induction xs generalizing τ1 with
  | nil => exact ⟨τ1, h0, rfl⟩
  | cons x xs ih =>
    obtain ⟨τ2, i2, e⟩ := s x List.mem_cons_self τ1 h0
    rw [List.map_cons, loopF, e, List.findSome?_cons]
    cases hs : stop x with
    | none => exact ih i2 fun y m => s y (List.mem_cons_of_mem _ m)
    | some r => exact ⟨τ2, i2, rfl⟩
/-- [e for x in xs] where e changes the slots: J what holds of the slots (fresh), told by the number of turns left -/
theorem lcs_go {α : Type} {vs : List Nat} {g : Tg} {b : BF} {z : VF} (enc : α → T) (O : T → Prop) (J : Nat → Ta → Prop) : ∀ (xs : List α) (acc : List T) (τ : Ta), acc.length + xs.length ≤ sizeL → J xs.length τ → (∀ t ∈ acc, O t) →
    (∀ x ∈ xs, ∀ k τ, J (k + 1) τ → ∀ acc : List T, acc.length < sizeL → ∃ t τ', O t ∧ J k τ' ∧ lcTurn vs g b z (enc x) (acc, τ) = some (acc ++ [t], τ')) →
    ∃ out τ', eachT (lcTurn vs g b z) (xs.map enc) (acc, τ) = some (out, τ') ∧ J 0 τ' ∧ (∀ t ∈ out, O t) ∧ out.length = acc.length + xs.length
  | [], acc, τ, _, j, o, _ => ⟨acc, τ, rfl, j, o, rfl⟩
  | x :: xs, acc, τ, l, j, o, h => by
    have l' : acc.length + (xs.length + 1) ≤ sizeL := l
    obtain ⟨t, τ2, ot, j2, e⟩ := h x List.mem_cons_self _ τ j acc (by omega)
    have la : (acc ++ [t]).length = acc.length + 1 := by simp
    obtain ⟨out, τ3, e3, j3, o3, l3⟩ := lcs_go enc O J xs (acc ++ [t]) τ2 (by omega) j2 (fun u m => by
      rcases List.mem_append.mp m with m | m
      · exact o u m
      · rw [List.mem_singleton.mp m]; exact ot) fun y m => h y (List.mem_cons_of_mem _ m)
    refine ⟨out, τ3, ?_, j3, o3, by rw [l3, la, List.length_cons]; omega⟩
    rw [List.map_cons, eachT, e]
    exact e3
end SW
namespace SW
section
variable {α κ β : Type} [DecidableEq κ] {key : α → κ} {val : α → β}
theorem fold_mem {k : κ} : ∀ (xs : List α) (m : List (κ × β)), k ∈ (xs.foldl (fun m x => put (key x) (val x) m) m).map (·.1) ↔ k ∈ m.map (·.1) ∨ ∃ x ∈ xs, key x = k
  | [], m => by simp
  | x :: xs, m => by
    rw [List.foldl_cons, fold_mem xs, put_keys]
    split
    · rename_i h
      simp only [List.mem_cons, exists_eq_or_imp]
      constructor
      · rintro (h1 | h1)
        · exact .inl h1
        · exact .inr (.inr h1)
      · rintro (h1 | h1 | h1)
        · exact .inl h1
        · exact .inl (h1 ▸ h)
        · exact .inr h1
    · simp only [List.mem_append, List.mem_cons, exists_eq_or_imp, List.not_mem_nil, or_false]
      constructor
      · rintro ((h1 | h1) | h1)
        · exact .inl h1
        · exact .inr (.inl h1.symm)
        · exact .inr (.inr h1)
      · rintro (h1 | h1 | h1)
        · exact .inl (.inl h1)
        · exact .inl (.inr h1.symm)
        · exact .inr h1
theorem fold_nodup : ∀ (xs : List α) (m : List (κ × β)), (m.map (·.1)).Nodup → ((xs.foldl (fun m x => put (key x) (val x) m) m).map (·.1)).Nodup
  | [], m, h => h
  | x :: xs, m, h => by
    rw [List.foldl_cons]
    refine fold_nodup xs _ ?_
    rw [put_keys]
    split
    · exact h
    · rename_i hn
      rw [List.nodup_append]
      refine ⟨h, by simp, fun a ha b hb => ?_⟩
      rw [List.mem_singleton.mp hb]
      intro z
      exact hn (z ▸ ha)
theorem fold_vals {P : β → Prop} : ∀ (xs : List α) (m : List (κ × β)), (∀ q ∈ m, P q.2) → (∀ x ∈ xs, P (val x)) → ∀ q ∈ xs.foldl (fun m x => put (key x) (val x) m) m, P q.2
  | [], m, h, _ => h
  | x :: xs, m, h, hv => by
    rw [List.foldl_cons]
    refine fold_vals xs _ ?_ fun y my => hv y (List.mem_cons_of_mem _ my)
    have hx := hv x List.mem_cons_self
    clear hv
    induction m with
    | nil =>
      intro q mq
      rw [List.mem_singleton.mp (show q ∈ [(key x, val x)] from mq)]
      exact hx
    | cons r m ih =>
      intro q mq
      unfold put at mq
      split at mq
      · rcases List.mem_cons.mp mq with rfl | mq
        · exact hx
        · exact h q (List.mem_cons_of_mem _ mq)
      · rcases List.mem_cons.mp mq with rfl | mq
        · exact h _ List.mem_cons_self
        · exact ih (fun y my => h y (List.mem_cons_of_mem _ my)) q mq
end
end SW
end
section
/-! SYe: lists put together, sorting with owned parts, least numbers. -/
namespace SW
open PySem PySem.Spec PyProof.Rows L2
open PySem.W (dataLt alike keyToks)
@[simp] theorem mkT_3l {a b : PyData} {ts : List T} : mkT [.fz a, .fz b, .lst ts] = .tup [.fz a, .fz b, .lst ts] := rfl
theorem toDs_c {t : T} {ts : List T} : toDs (t :: ts) = t.toD.bind fun d => (toDs ts).map (d :: ·) := by
  rw [toDs]
  cases t.toD <;> cases toDs ts <;> rfl
theorem toDs_append {us : List T} : ∀ ts : List T, toDs (ts ++ us) = (toDs ts).bind fun x => (toDs us).map (x ++ ·)
  | [] => by simp
  | t :: ts => by
    rw [List.cons_append, toDs_c, toDs_append ts, toDs_c]
    cases t.toD with
    | none => rfl
    | some d =>
      cases toDs ts with
      | none => rfl
      | some ds => cases toDs us <;> rfl
theorem toDs_by {α : Type} {t : α → T} {e : α → PyData} (h : ∀ a, (t a).toD = some (e a)) : ∀ xs : List α, toDs (xs.map t) = some (xs.map e)
  | [] => toDs_nil
  | x :: xs => by
    rw [List.map_cons, toDs, h x, toDs_by h xs]
    rfl
theorem srtTG_e {α : Type} {t : α → T} {e : α → PyData} (h : ∀ a, (t a).toD = some (e a)) {xs : List α} (l : xs.length ≤ sizeL) (ok : srtOk (xs.map e) = true) : srtTG (true, .lst (xs.map t)) = some (.lst ((srtE e xs).map t)) := by
  unfold srtTG
  rw [kidsL_own, Option.bind_some, toDs_by h, Option.bind_some, if_pos ⟨by rw [List.length_map]; exact l, ok⟩]
  have z : ∀ xs : List α, (xs.map t).zip (xs.map e) = xs.map fun a => (t a, e a) := fun xs => by
    induction xs with
    | nil => rfl
    | cons x xs ih => rw [List.map_cons, List.map_cons, List.zip_cons_cons, ih, List.map_cons]
  rw [z, ← List.map_mergeSort (r := leE e) (f := fun a => (t a, e a)) (l := xs) fun _ _ _ _ => rfl, List.map_map]
  rfl
@[simp] theorem addT_lf {c : Bool} {ts : List T} {ds : List PyData} : binT .add (true, .lst ts) (c, .fz (.list ds)) = if ts.length + ds.length ≤ sizeL then some (.lst (ts ++ ds.map .fz)) else none := by
  unfold SW.binT SW.addT
  simp [Ag.int, Ag.str]
@[simp] theorem addT_fl {b : Bool} {us : List T} {ds : List PyData} : binT .add (b, .fz (.list ds)) (true, .lst us) = if ds.length + us.length ≤ sizeL then some (.lst (ds.map .fz ++ us)) else none := by
  unfold SW.binT SW.addT
  simp [Ag.int, Ag.str]
@[simp] theorem addT_ff {b c : Bool} {ds es : List PyData} : binT .add (b, .fz (.list ds)) (c, .fz (.list es)) = if ds.length + es.length ≤ sizeL then some (.lst (ds.map .fz ++ es.map .fz)) else none := by
  unfold SW.binT SW.addT
  simp [Ag.int, Ag.str]
@[simp] theorem addT_ll {ts us : List T} : binT .add (true, .lst ts) (true, .lst us) = if ts.length + us.length ≤ sizeL then some (.lst (ts ++ us)) else none := by
  unfold SW.binT SW.addT
  simp [Ag.int, Ag.str]
@[simp] theorem slcT_32 {b : Bool} {x y z : PyData} : slcT (b, .fz (.tuple [x, y, z])) none (some 2) = some (.fz (.tuple [x, y])) := rfl
theorem minOk_ints {α : Type} (f : α → Int) (xs : List α) : minOk (xs.map fun x => .int (f x)) = true := by
  unfold minOk allAlike
  simp [isNone, PyData.depth, alike]
/-- the least of whole numbers -/
def leastI : List Int → Option Int
  | [] => none
  | k :: ks => some (ks.foldl min k)
def optD : Option Int → PyData
  | none => .none
  | some k => .int k
theorem foldl_min_le : ∀ (ks : List Int) (k : Int), ks.foldl min k ≤ k ∧ (∀ j ∈ ks, ks.foldl min k ≤ j) ∧ (ks.foldl min k = k ∨ ks.foldl min k ∈ ks)
  | [], k => ⟨Int.le_refl _, fun _ m => (by cases m), .inl rfl⟩
  | j :: ks, k => by
    obtain ⟨h1, h2, h3⟩ := foldl_min_le ks (min k j)
    rw [List.foldl_cons]
    refine ⟨by omega, fun i m => ?_, ?_⟩
    · rcases List.mem_cons.mp m with rfl | m
      · omega
      · exact h2 i m
    · rcases h3 with h3 | h3
      · by_cases hk : k ≤ j
        · exact .inl (by omega)
        · exact .inr (by rw [h3, Int.min_eq_right (by omega)]; exact List.mem_cons_self)
      · exact .inr (List.mem_cons_of_mem _ h3)
theorem leastI_spec {ks : List Int} {m : Int} (h : leastI ks = some m) : (∀ j ∈ ks, m ≤ j) ∧ m ∈ ks := by
  cases ks with
  | nil => cases h
  | cons k ks =>
    cases h
    obtain ⟨h1, h2, h3⟩ := foldl_min_le ks k
    refine ⟨fun j mj => ?_, ?_⟩
    · rcases List.mem_cons.mp mj with rfl | mj
      · exact h1
      · exact h2 j mj
    · rcases h3 with h3 | h3
      · rw [h3]; exact List.mem_cons_self
      · exact List.mem_cons_of_mem _ h3
theorem minDG_e {α : Type} {f : α → Int} {xs : List α} : minDG (true, .lst (xs.map fun x => .fz (.int (f x)))) (true, .fz .none) = some (.fz (optD (leastI (xs.map f)))) := by
  unfold minDG
  rw [itsF_lentf, Option.bind_some, if_pos (minOk_ints f xs)]
  cases xs with
  | nil => rfl
  | cons x xs =>
    show some (T.fz (PySem.W.minD (.int (f x)) (xs.map fun x => .int (f x)))) = _
    rw [show (xs.map fun x => PyData.int (f x)) = (xs.map f).map .int by simp [Function.comp_def], PySem.W.minD_ints]
    rfl
theorem minLG_e {α : Type} {f : α → Int} {x : α} {xs : List α} : minLG (true, .lst ((x :: xs).map fun x => .fz (.int (f x)))) = some (.fz (optD (leastI ((x :: xs).map f)))) := by
  unfold minLG
  rw [itsF_lentf, Option.bind_some]
  show (if minOk ((x :: xs).map fun x => .int (f x)) then some (T.fz (PySem.W.minD (.int (f x)) (xs.map fun x => .int (f x)))) else none) = _
  rw [if_pos (minOk_ints f (x :: xs)), show (xs.map fun x => PyData.int (f x)) = (xs.map f).map .int by simp [Function.comp_def], PySem.W.minD_ints]
  rfl
@[simp] theorem eqD_opt (k : Int) (o : Option Int) : eqD (.int k) (optD o) = some (decide (o = some k)) := by
  cases o with
  | none => simp [optD]
  | some j =>
    simp only [optD, eqD_int, Option.some.injEq]
    rw [Bool.eq_iff_iff]
    simp
    exact eq_comm
end SW
end
section
/-! SYf: sorted(set(xs)) of numbers, of texts. -/
namespace SW
open PySem PySem.Spec PyProof.Rows L2
open PySem.W (dataLt alike keyToks)

section
variable {α : Type} [DecidableEq α]
def ded (xs : List α) : List α := xs.foldl (fun l x => if x ∈ l then l else x :: l) []
theorem ded_go : ∀ (xs l : List α), (∀ a, a ∈ xs.foldl (fun l x => if x ∈ l then l else x :: l) l ↔ a ∈ l ∨ a ∈ xs) ∧ (l.Nodup → (xs.foldl (fun l x => if x ∈ l then l else x :: l) l).Nodup) ∧ (xs.foldl (fun l x => if x ∈ l then l else x :: l) l).length ≤ l.length + xs.length
  | [], l => ⟨fun a => by simp, fun h => h, by simp⟩
  | x :: xs, l => by
    obtain ⟨h1, h2, h3⟩ := ded_go xs (if x ∈ l then l else x :: l)
    refine ⟨fun a => ?_, fun nd => ?_, ?_⟩
    · rw [List.foldl_cons, h1]
      split
      · rename_i h
        simp only [List.mem_cons]
        constructor
        · rintro (z | z)
          · exact .inl z
          · exact .inr (.inr z)
        · rintro (z | z | z)
          · exact .inl z
          · exact .inl (z ▸ h)
          · exact .inr z
      · simp only [List.mem_cons]
        constructor
        · rintro ((z | z) | z)
          · exact .inr (.inl z)
          · exact .inl z
          · exact .inr (.inr z)
        · rintro (z | z | z)
          · exact .inl (.inr z)
          · exact .inl (.inl z)
          · exact .inr z
    · rw [List.foldl_cons]
      refine h2 ?_
      split
      · exact nd
      · rename_i h
        exact List.nodup_cons.mpr ⟨h, nd⟩
    · rw [List.foldl_cons]
      refine Nat.le_trans h3 ?_
      split <;> simp <;> omega
theorem ded_mem {xs : List α} {a : α} : a ∈ ded xs ↔ a ∈ xs := by
  unfold ded
  rw [(ded_go xs []).1 a]
  simp
theorem ded_nd {xs : List α} : (ded xs).Nodup := (ded_go xs []).2.1 .nil
theorem ded_len {xs : List α} : (ded xs).length ≤ xs.length := by
  have h := (ded_go xs []).2.2
  rw [List.length_nil, Nat.zero_add] at h
  exact h
theorem dedK_e {f : α → Key} (inj : ∀ a b, f a = f b → a = b) : ∀ (xs l : List α), (xs.map f).foldl addK (l.map f) = (xs.foldl (fun l x => if x ∈ l then l else x :: l) l).map f
  | [], l => rfl
  | x :: xs, l => by
    rw [List.map_cons, List.foldl_cons, List.foldl_cons]
    have e : addK (l.map f) (f x) = (if x ∈ l then l else x :: l).map f := by
      unfold addK
      have : hasK (f x) (l.map f) = true ↔ x ∈ l := by
        rw [hasK_iff]
        constructor
        · intro h
          obtain ⟨y, m, e⟩ := List.mem_map.mp h
          rw [← inj _ _ e]
          exact m
        · exact fun h => List.mem_map_of_mem h
      by_cases h : x ∈ l
      · rw [if_pos (this.mpr h), if_pos h]
      · rw [if_neg (fun z => h (this.mp z)), if_neg h]
        rfl
    rw [e]
    exact dedK_e inj xs _
theorem keysD_e {f : α → Key} (h : ∀ a, keyD (kD (f a)) = some (f a)) : ∀ xs : List α, keysD (xs.map fun x => kD (f x)) = some (xs.map f)
  | [] => rfl
  | x :: xs => by
    rw [List.map_cons]
    unfold keysD
    rw [h x, keysD_e h xs]
    rfl
theorem ssG_e {f : α → Key} {e : α → PyData} (he : ∀ a, e a = kD (f a)) (inj : ∀ a b, f a = f b → a = b) (hk : ∀ a, keyD (kD (f a)) = some (f a)) (ok : ∀ xs : List α, srtOk (xs.map e) = true) {b : Bool} {t : T} {xs : List α} (h : itemsF (b, t) = some (xs.map e)) (l : xs.length < scanBound) :
    ssG (b, t) = some (.lst ((srtE e (ded xs)).map fun x => .fz (e x))) := by
  have ee : e = fun a => kD (f a) := funext he
  unfold ssG
  rw [h, Option.bind_some, ee, keysD_e hk, Option.bind_some]
  have e2 : dedK (xs.map f) = (ded xs).map f := by
    unfold dedK ded
    exact dedK_e inj xs []
  have e3 : ((ded xs).map f).map kD = (ded xs).map fun a => kD (f a) := by rw [List.map_map]; rfl
  rw [e2, e3, if_pos ⟨by rw [List.length_map]; exact l, by rw [← ee]; exact ok _⟩, ← ee, srtE_map]
  unfold fzL
  rw [List.map_map]
  rfl
end
theorem srtOk_strs (xs : List Str) : srtOk (xs.map PyData.str) = true := srtOk_by (fun a b => by simp [alike]) (.inr fun a => rfl) (fun a => by simp [PyData.depth]) xs
theorem srtOk_ints (xs : List Int) : srtOk (xs.map PyData.int) = true := srtOk_by (fun a b => by simp [alike]) (.inr fun a => rfl) (fun a => by simp [PyData.depth]) xs
theorem ssG_ints {b : Bool} {t : T} {xs : List Int} (h : itemsF (b, t) = some (xs.map .int)) (l : xs.length < scanBound) : ssG (b, t) = some (.lst ((srtE .int (ded xs)).map fun x => .fz (.int x))) :=
  ssG_e (f := Sum.inl) (fun a => rfl) (fun a b h => Sum.inl.inj h) (fun a => rfl) srtOk_ints h l
theorem ssG_strs {b : Bool} {t : T} {xs : List Str} (h : itemsF (b, t) = some (xs.map .str)) (l : xs.length < scanBound) : ssG (b, t) = some (.lst ((srtE .str (ded xs)).map fun x => .fz (.str x))) :=
  ssG_e (f := Sum.inr) (fun a => rfl) (fun a b h => Sum.inr.inj h) (fun a => rfl) srtOk_strs h l
theorem scan_lt {n : Nat} (h : n ≤ 4000) : n < scanBound := Nat.lt_of_le_of_lt h (by decide)
end SW
end
section
/-! SYg: dict(list of pairs). -/
namespace SW
open PySem PySem.Spec PyProof.Rows L2
section
variable {κ β : Type} [DecidableEq κ] {f : κ → PyData} {g : β → PyData}
theorem pairsT_e : ∀ qs : List (κ × β), pairsT (qs.map fun q => .fz (.tuple [f q.1, g q.2])) = some (qs.map fun q => (f q.1, T.fz (g q.2)))
  | [] => rfl
  | q :: qs => by
    rw [List.map_cons, pairsT, pairsT_e qs]
    show (some ((T.fz (f q.1), T.fz (g q.2)))).bind _ = _
    simp
theorem dictPs_e (hf : KeyE f) (ok : ∀ k (m : List (κ × β)), kOk (f k) (m.map fun q => (f q.1, T.fz (g q.2))) = true) : ∀ (qs m : List (κ × β)), ((m ++ qs).map (·.1)).Nodup → m.length + qs.length ≤ sizeL →
    dictPs (qs.map fun q => (f q.1, T.fz (g q.2))) (m.map fun q => (f q.1, T.fz (g q.2))) = some ((m ++ qs).map fun q => (f q.1, T.fz (g q.2)))
  | [], m, _, _ => by simp [dictPs]
  | q :: qs, m, nd, l => by
    have l' : m.length + (qs.length + 1) ≤ sizeL := l
    have nx : q.1 ∉ m.map (·.1) := fun z => by
      rw [List.map_append] at nd
      exact (List.nodup_append.mp nd).2.2 _ z _ List.mem_cons_self rfl
    rw [List.map_cons, dictPs, if_pos (by rw [ok]; simp; omega)]
    show dictPs _ (kPut (f q.1) (T.fz (g q.2)) (m.map fun q => (f q.1, T.fz (g q.2)))) = _
    have e : kPut (f q.1) (T.fz (g q.2)) (m.map fun q => (f q.1, T.fz (g q.2))) = (m ++ [q]).map fun q => (f q.1, T.fz (g q.2)) := by
      rw [kPut_e (g := fun b => T.fz (g b)) hf, put_new nx]
    rw [e, dictPs_e hf ok qs (m ++ [q]) (by rw [List.append_assoc]; exact nd) (by rw [List.length_append]; show m.length + 1 + qs.length ≤ _; omega), List.append_assoc]
    rfl
theorem dictPG_e (hf : KeyE f) (ok : ∀ k (m : List (κ × β)), kOk (f k) (m.map fun q => (f q.1, T.fz (g q.2))) = true) {qs : List (κ × β)} (nd : (qs.map (·.1)).Nodup) (l : qs.length ≤ sizeL) {ts : List T} (ht : ts = qs.map fun q => .fz (.tuple [f q.1, g q.2])) :
    dictPG (true, .lst ts) = some (.dct (qs.map fun q => (f q.1, .fz (g q.2)))) := by
  unfold dictPG
  rw [kidsL_own, Option.bind_some, ht, if_pos (by rw [List.length_map]; exact l), pairsT_e, Option.bind_some]
  have := dictPs_e (g := g) hf ok qs [] (by simpa using nd) (by simpa using l)
  rw [List.map_nil, List.nil_append] at this
  rw [this]
  rfl
end
/-- two rows of the same data, side by side -/
theorem zip_twin {α : Type} : ∀ xs : List α, xs.zip xs = xs.map fun x => (x, x)
  | [] => rfl
  | x :: xs => by rw [List.zip_cons_cons, zip_twin xs]; rfl
end SW
end
section
/-! SYh: how long a repr is. -/
namespace SW
open PySem PySem.Spec PyProof.Rows L2

theorem textFrom_le : ∀ (ts : List Str) (k : Nat) (acc : Str), (textFrom k acc ts).length ≤ acc.length + piled ts
  | [], k, acc => Nat.le_add_right _ _
  | t :: r, k, acc => by
    have h := textFrom_le r (k + 1) (acc ++ (if k > 0 then ", " else "" : String) ++ t)
    have e : (acc ++ (if k > 0 then ", " else "" : String) ++ t).length ≤ acc.length + 2 + t.length := by
      rw [strLen_append, strLen_append]
      have : (((if k > 0 then ", " else "" : String) : Str)).length ≤ 2 := by split <;> decide
      omega
    rw [piled_cons]
    show (textFrom (k + 1) _ r).length ≤ _
    omega
theorem listText_le (ts : List Str) : (listText ts).length ≤ piled ts + 2 := by
  unfold listText
  rw [strLen_append]
  have h := textFrom_le ts 0 "["
  have e1 : ((("[" : String) : Str)).length = 1 := rfl
  have e2 : ((("]" : String) : Str)).length = 1 := rfl
  omega
theorem join_le (ts : List Str) : (Str.join ", " ts).length ≤ piled ts := by
  by_cases h : ts = []
  · subst h
    decide
  · have := join_length_add ts h
    omega
theorem tupleText_le (ts : List Str) : (tupleText ts).length ≤ piled ts + 3 := by
  unfold tupleText
  rw [strLen_append, strLen_append]
  have h := join_le ts
  have e1 : ((("(" : String) : Str)).length = 1 := rfl
  have e2 : (((if ts.length == 1 then ",)" else ")" : String) : Str)).length ≤ 2 := by split <;> decide
  omega
theorem dictText_le (ts : List Str) : (dictText ts).length ≤ piled ts + 2 := by
  unfold dictText
  rw [strLen_append, strLen_append]
  have h := join_le ts
  have e1 : ((("{" : String) : Str)).length = 1 := rfl
  have e2 : ((("}" : String) : Str)).length = 1 := rfl
  omega
theorem piled_le {m : Nat} : ∀ {ts : List Str}, (∀ t ∈ ts, t.length ≤ m) → piled ts ≤ ts.length * (m + 2)
  | [], _ => Nat.zero_le _
  | t :: ts, h => by
    have := piled_le (ts := ts) fun u m => h u (List.mem_cons_of_mem _ m)
    have := h t List.mem_cons_self
    rw [piled_cons, List.length_cons, Nat.succ_mul]
    omega
theorem shownAll_map {α : Type} (e : α → PyData) : ∀ xs : List α, PyData.shownAll (xs.map e) = xs.map fun x => (e x).shown
  | [] => by simp [PyData.shownAll]
  | x :: xs => by simp [PyData.shownAll, shownAll_map e xs]
theorem shownKv_map {α : Type} (e g : α → PyData) : ∀ xs : List α, PyData.shownKv (xs.map fun x => (e x, g x)) = xs.map fun x => (e x).shown ++ ((": " : String) : Str) ++ (g x).shown
  | [] => by simp [PyData.shownKv]
  | x :: xs => by simp [PyData.shownKv, shownKv_map e g xs]
theorem showableAll_map {α : Type} {e : α → PyData} : ∀ {xs : List α}, (∀ x ∈ xs, (e x).showable = true) → PyData.showableAll (xs.map e) = true
  | [], _ => by simp [PyData.showableAll]
  | x :: xs, h => by simp [PyData.showableAll, h x List.mem_cons_self, showableAll_map fun y m => h y (List.mem_cons_of_mem _ m)]
theorem showableKv_map {α : Type} {e g : α → PyData} : ∀ {xs : List α}, (∀ x ∈ xs, (e x).showable = true ∧ (g x).showable = true) → PyData.showableKv (xs.map fun x => (e x, g x)) = true
  | [], _ => by simp [PyData.showableKv]
  | x :: xs, h => by
    obtain ⟨h1, h2⟩ := h x List.mem_cons_self
    simp [PyData.showableKv, h1, h2, showableKv_map fun y m => h y (List.mem_cons_of_mem _ m)]
theorem depthKv_map {α : Type} {e g : α → PyData} {n : Nat} (h1 : ∀ x, (e x).depth ≤ n) (h2 : ∀ x, (g x).depth ≤ n) : ∀ xs : List α, PyData.depthKv (xs.map fun x => (e x, g x)) ≤ n
  | [] => by simp [PyData.depthKv]
  | x :: xs => by
    have := h1 x
    have := h2 x
    have := depthKv_map h1 h2 xs
    simp only [List.map_cons, PyData.depthKv]
    omega
/-- shown in at most n signs -/
def Shw (n : Nat) (d : PyData) : Prop := d.showable = true ∧ d.shown.length ≤ n
theorem Shw.list {α : Type} {e : α → PyData} {n : Nat} {xs : List α} (h : ∀ x ∈ xs, Shw n (e x)) : Shw (xs.length * (n + 2) + 2) (.list (xs.map e)) := by
  constructor
  · unfold PyData.showable
    exact showableAll_map fun x m => (h x m).1
  · unfold PyData.shown
    rw [shownAll_map]
    have := piled_le (ts := xs.map fun x => (e x).shown) (m := n) fun t m => by
      obtain ⟨x, mx, rfl⟩ := List.mem_map.mp m
      exact (h x mx).2
    rw [List.length_map] at this
    have := listText_le (xs.map fun x => (e x).shown)
    omega
theorem Shw.dict {α : Type} {e g : α → PyData} {n m : Nat} {xs : List α} (h : ∀ x ∈ xs, Shw n (e x) ∧ Shw m (g x)) : Shw (xs.length * (n + m + 4) + 2) (.dict (xs.map fun x => (e x, g x))) := by
  constructor
  · unfold PyData.showable
    exact showableKv_map fun x m => ⟨(h x m).1.1, (h x m).2.1⟩
  · unfold PyData.shown
    rw [shownKv_map]
    have hp := piled_le (ts := xs.map fun x => (e x).shown ++ ((": " : String) : Str) ++ (g x).shown) (m := n + m + 2) fun t mt => by
      obtain ⟨x, mx, rfl⟩ := List.mem_map.mp mt
      rw [strLen_append, strLen_append]
      have := (h x mx).1.2
      have := (h x mx).2.2
      have e1 : (((": " : String) : Str)).length = 2 := rfl
      omega
    have e3 : n + m + 2 + 2 = n + m + 4 := by omega
    rw [List.length_map, e3] at hp
    have := dictText_le (xs.map fun x => (e x).shown ++ ((": " : String) : Str) ++ (g x).shown)
    omega
theorem Shw.tup2 {a b : PyData} {n m : Nat} (h1 : Shw n a) (h2 : Shw m b) : Shw (n + m + 7) (.tuple [a, b]) := by
  constructor
  · simp [PyData.showable, PyData.showableAll, h1.1, h2.1]
  · have := tupleText_le [a.shown, b.shown]
    have e : piled [a.shown, b.shown] = a.shown.length + 2 + (b.shown.length + 2) := by simp [piled]
    have := h1.2
    have := h2.2
    simp only [PyData.shown, PyData.shownAll]
    omega
theorem Shw.mono {n m : Nat} {d : PyData} (h : Shw n d) (l : n ≤ m) : Shw m d := ⟨h.1, Nat.le_trans h.2 l⟩
theorem shw_int : ∀ k : Nat, k < 100 → (PyData.int (k : Int)).showable = true ∧ (PyData.int (k : Int)).shown.length ≤ 4 := by decide +kernel
theorem Shw.int {i : Int} (h0 : 0 ≤ i) (h : i < 100) : Shw 4 (.int i) := by
  obtain ⟨k, rfl⟩ : ∃ k : Nat, i = (k : Int) := ⟨i.toNat, by omega⟩
  exact shw_int k (by omega)
theorem reprG_e {b : Bool} {t : T} {d : PyData} {n : Nat} (e : t.toD = some d) (h1 : dispD d = true) (h2 : Shw n d) (h3 : n ≤ 1000000) (h4 : d.depth ≤ 100) : reprG (b, t) = some (.fz (.str d.shown)) := by
  unfold reprG
  rw [agd, e, Option.bind_some, if_pos]
  refine ⟨by rw [h1, h2.1]; rfl, sizeL_le (Nat.le_trans h2.2 h3), h4⟩
end SW
end
section
namespace K70
open PySem PySem.Spec PyProof.Rows L2 SW
def top (i : Nat) : Stmt := PySem.Challenge.pw_schoolweek_k70_whole_calls_and_safety.main.body.getD i (.Pass ⟨0, 0, 0, 0⟩)
def fn : List He.DefD := [
  ⟨("is_whole", none), "is_whole", "is_whole", defArgs (top 5), defBody (top 5), defScope (top 5), [], []⟩,
  ⟨("is_count", none), "is_count", "is_count", defArgs (top 6), defBody (top 6), defScope (top 6), [.int 0], []⟩,
  ⟨("is_word", none), "is_word", "is_word", defArgs (top 7), defBody (top 7), defScope (top 7), [], []⟩,
  ⟨("is_tuple_of", none), "is_tuple_of", "is_tuple_of", defArgs (top 8), defBody (top 8), defScope (top 8), [], []⟩,
  ⟨("do_ascend", none), "do_ascend", "do_ascend", defArgs (top 10), defBody (top 10), defScope (top 10), [], []⟩,
  ⟨("are_hours", none), "are_hours", "are_hours", defArgs (top 11), defBody (top 11), defScope (top 11), [], []⟩,
  ⟨("is_pair_of_words", none), "is_pair_of_words", "is_pair_of_words", defArgs (top 12), defBody (top 12), defScope (top 12), [], []⟩,
  ⟨("lessons_of", none), "lessons_of", "lessons_of", defArgs (top 13), defBody (top 13), defScope (top 13), [], []⟩,
  ⟨("is_clashless", none), "is_clashless", "is_clashless", defArgs (top 14), defBody (top 14), defScope (top 14), [], []⟩,
  ⟨("is_sound_there", none), "is_sound_there", "is_sound_there", defArgs (top 15), defBody (top 15), defScope (top 15), [], []⟩,
  ⟨("are_words", none), "are_words", "are_words", defArgs (top 20), defBody (top 20), defScope (top 20), [], []⟩,
  ⟨("check_staff", none), "check_staff", "check_staff", defArgs (top 21), defBody (top 21), defScope (top 21), [], []⟩,
  ⟨("is_shut_there", none), "is_shut_there", "is_shut_there", defArgs (top 22), defBody (top 22), defScope (top 22), [], []⟩,
  ⟨("free_able", none), "free_able", "free_able", defArgs (top 23), defBody (top 23), defScope (top 23), [], []⟩,
  ⟨("calls_when", none), "calls_when", "calls_when", defArgs (top 24), defBody (top 24), defScope (top 24), [], []⟩,
  ⟨("safe_number", none), "safe_number", "safe_number", defArgs (top 25), defBody (top 25), defScope (top 25), [], []⟩,
  ⟨("weakest_lessons", none), "weakest_lessons", "weakest_lessons", defArgs (top 26), defBody (top 26), defScope (top 26), [], []⟩,
  ⟨("ill_beyond", none), "ill_beyond", "ill_beyond", defArgs (top 27), defBody (top 27), defScope (top 27), [], []⟩,
  ⟨("_law_purse", none), "_law_purse", "_law_purse", defArgs (top 29), defBody (top 29), defScope (top 29), [], []⟩,
  ⟨("_law_mixed", none), "_law_mixed", "_law_mixed", defArgs (top 30), defBody (top 30), defScope (top 30), [], []⟩,
  ⟨("_law_draw", none), "_law_draw", "_law_draw", defArgs (top 31), defBody (top 31), defScope (top 31), [], []⟩,
  ⟨("_law_purses", none), "_law_purses", "_law_purses", defArgs (top 32), defBody (top 32), defScope (top 32), [], []⟩,
  ⟨("_law_one_of", none), "_law_one_of", "_law_one_of", defArgs (top 33), defBody (top 33), defScope (top 33), [], []⟩,
  ⟨("_law_shuffled", none), "_law_shuffled", "_law_shuffled", defArgs (top 34), defBody (top 34), defScope (top 34), [], []⟩,
  ⟨("_law_exact", none), "_law_exact", "_law_exact", defArgs (top 35), defBody (top 35), defScope (top 35), [], []⟩,
  ⟨("_law_plan", none), "_law_plan", "_law_plan", defArgs (top 36), defBody (top 36), defScope (top 36), [], []⟩,
  ⟨("_law_late_hours", none), "_law_late_hours", "_law_late_hours", defArgs (top 37), defBody (top 37), defScope (top 37), [], []⟩,
  ⟨("_law_able", none), "_law_able", "_law_able", defArgs (top 38), defBody (top 38), defScope (top 38), [], []⟩,
  ⟨("_law_shut", none), "_law_shut", "_law_shut", defArgs (top 39), defBody (top 39), defScope (top 39), [], []⟩,
  ⟨("_law_busy", none), "_law_busy", "_law_busy", defArgs (top 40), defBody (top 40), defScope (top 40), [], []⟩,
  ⟨("_law_free", none), "_law_free", "_law_free", defArgs (top 41), defBody (top 41), defScope (top 41), [], []⟩,
  ⟨("_law_lessons", none), "_law_lessons", "_law_lessons", defArgs (top 42), defBody (top 42), defScope (top 42), [], []⟩,
  ⟨("_law_calls", none), "_law_calls", "_law_calls", defArgs (top 43), defBody (top 43), defScope (top 43), [], []⟩,
  ⟨("_law_can_all", none), "_law_can_all", "_law_can_all", defArgs (top 44), defBody (top 44), defScope (top 44), [], []⟩,
  ⟨("_law_lists", none), "_law_lists", "_law_lists", defArgs (top 45), defBody (top 45), defScope (top 45), [], []⟩,
  ⟨("_law_safe_right", none), "_law_safe_right", "_law_safe_right", defArgs (top 46), defBody (top 46), defScope (top 46), [], []⟩,
  ⟨("law", none), "law", "law", defArgs (top 47), defBody (top 47), defScope (top 47), [], []⟩]
def fa : List He.Fa := [
  .glo "is_whole",
  .glo "is_count",
  .glo "is_word",
  .glo "is_tuple_of",
  .glo "do_ascend",
  .glo "are_hours",
  .glo "is_pair_of_words",
  .glo "lessons_of",
  .glo "is_clashless",
  .glo "is_sound_there",
  .glo "are_words",
  .glo "check_staff",
  .glo "is_shut_there",
  .glo "free_able",
  .glo "calls_when",
  .glo "safe_number",
  .glo "weakest_lessons",
  .glo "ill_beyond",
  .glo "_law_purse",
  .glo "_law_mixed",
  .glo "_law_draw",
  .glo "_law_purses",
  .glo "_law_one_of",
  .glo "_law_shuffled",
  .glo "_law_exact",
  .glo "_law_plan",
  .glo "_law_late_hours",
  .glo "_law_able",
  .glo "_law_shut",
  .glo "_law_busy",
  .glo "_law_free",
  .glo "_law_lessons",
  .glo "_law_calls",
  .glo "_law_can_all",
  .glo "_law_lists",
  .glo "_law_safe_right",
  .glo "law",
  .free "all",
  .free "bool",
  .free "dict",
  .free "int",
  .free "isinstance",
  .free "len",
  .free "list",
  .free "max",
  .free "min",
  .free "range",
  .free "repr",
  .free "set",
  .free "sorted",
  .free "str",
  .free "sum",
  .free "tuple",
  .free "zip"]
def dd : Nat → He.DefD
  | 0 => ⟨("is_whole", none), "is_whole", "is_whole", defArgs (top 5), defBody (top 5), defScope (top 5), [], []⟩
  | 1 => ⟨("is_count", none), "is_count", "is_count", defArgs (top 6), defBody (top 6), defScope (top 6), [.int 0], []⟩
  | 2 => ⟨("is_word", none), "is_word", "is_word", defArgs (top 7), defBody (top 7), defScope (top 7), [], []⟩
  | 3 => ⟨("is_tuple_of", none), "is_tuple_of", "is_tuple_of", defArgs (top 8), defBody (top 8), defScope (top 8), [], []⟩
  | 4 => ⟨("do_ascend", none), "do_ascend", "do_ascend", defArgs (top 10), defBody (top 10), defScope (top 10), [], []⟩
  | 5 => ⟨("are_hours", none), "are_hours", "are_hours", defArgs (top 11), defBody (top 11), defScope (top 11), [], []⟩
  | 6 => ⟨("is_pair_of_words", none), "is_pair_of_words", "is_pair_of_words", defArgs (top 12), defBody (top 12), defScope (top 12), [], []⟩
  | 7 => ⟨("lessons_of", none), "lessons_of", "lessons_of", defArgs (top 13), defBody (top 13), defScope (top 13), [], []⟩
  | 8 => ⟨("is_clashless", none), "is_clashless", "is_clashless", defArgs (top 14), defBody (top 14), defScope (top 14), [], []⟩
  | 9 => ⟨("is_sound_there", none), "is_sound_there", "is_sound_there", defArgs (top 15), defBody (top 15), defScope (top 15), [], []⟩
  | 10 => ⟨("are_words", none), "are_words", "are_words", defArgs (top 20), defBody (top 20), defScope (top 20), [], []⟩
  | 11 => ⟨("check_staff", none), "check_staff", "check_staff", defArgs (top 21), defBody (top 21), defScope (top 21), [], []⟩
  | 12 => ⟨("is_shut_there", none), "is_shut_there", "is_shut_there", defArgs (top 22), defBody (top 22), defScope (top 22), [], []⟩
  | 13 => ⟨("free_able", none), "free_able", "free_able", defArgs (top 23), defBody (top 23), defScope (top 23), [], []⟩
  | 14 => ⟨("calls_when", none), "calls_when", "calls_when", defArgs (top 24), defBody (top 24), defScope (top 24), [], []⟩
  | 15 => ⟨("safe_number", none), "safe_number", "safe_number", defArgs (top 25), defBody (top 25), defScope (top 25), [], []⟩
  | 16 => ⟨("weakest_lessons", none), "weakest_lessons", "weakest_lessons", defArgs (top 26), defBody (top 26), defScope (top 26), [], []⟩
  | 17 => ⟨("ill_beyond", none), "ill_beyond", "ill_beyond", defArgs (top 27), defBody (top 27), defScope (top 27), [], []⟩
  | 18 => ⟨("_law_purse", none), "_law_purse", "_law_purse", defArgs (top 29), defBody (top 29), defScope (top 29), [], []⟩
  | 19 => ⟨("_law_mixed", none), "_law_mixed", "_law_mixed", defArgs (top 30), defBody (top 30), defScope (top 30), [], []⟩
  | 20 => ⟨("_law_draw", none), "_law_draw", "_law_draw", defArgs (top 31), defBody (top 31), defScope (top 31), [], []⟩
  | 21 => ⟨("_law_purses", none), "_law_purses", "_law_purses", defArgs (top 32), defBody (top 32), defScope (top 32), [], []⟩
  | 22 => ⟨("_law_one_of", none), "_law_one_of", "_law_one_of", defArgs (top 33), defBody (top 33), defScope (top 33), [], []⟩
  | 23 => ⟨("_law_shuffled", none), "_law_shuffled", "_law_shuffled", defArgs (top 34), defBody (top 34), defScope (top 34), [], []⟩
  | 24 => ⟨("_law_exact", none), "_law_exact", "_law_exact", defArgs (top 35), defBody (top 35), defScope (top 35), [], []⟩
  | 25 => ⟨("_law_plan", none), "_law_plan", "_law_plan", defArgs (top 36), defBody (top 36), defScope (top 36), [], []⟩
  | 26 => ⟨("_law_late_hours", none), "_law_late_hours", "_law_late_hours", defArgs (top 37), defBody (top 37), defScope (top 37), [], []⟩
  | 27 => ⟨("_law_able", none), "_law_able", "_law_able", defArgs (top 38), defBody (top 38), defScope (top 38), [], []⟩
  | 28 => ⟨("_law_shut", none), "_law_shut", "_law_shut", defArgs (top 39), defBody (top 39), defScope (top 39), [], []⟩
  | 29 => ⟨("_law_busy", none), "_law_busy", "_law_busy", defArgs (top 40), defBody (top 40), defScope (top 40), [], []⟩
  | 30 => ⟨("_law_free", none), "_law_free", "_law_free", defArgs (top 41), defBody (top 41), defScope (top 41), [], []⟩
  | 31 => ⟨("_law_lessons", none), "_law_lessons", "_law_lessons", defArgs (top 42), defBody (top 42), defScope (top 42), [], []⟩
  | 32 => ⟨("_law_calls", none), "_law_calls", "_law_calls", defArgs (top 43), defBody (top 43), defScope (top 43), [], []⟩
  | 33 => ⟨("_law_can_all", none), "_law_can_all", "_law_can_all", defArgs (top 44), defBody (top 44), defScope (top 44), [], []⟩
  | 34 => ⟨("_law_lists", none), "_law_lists", "_law_lists", defArgs (top 45), defBody (top 45), defScope (top 45), [], []⟩
  | 35 => ⟨("_law_safe_right", none), "_law_safe_right", "_law_safe_right", defArgs (top 46), defBody (top 46), defScope (top 46), [], []⟩
  | 36 => ⟨("law", none), "law", "law", defArgs (top 47), defBody (top 47), defScope (top 47), [], []⟩
  | _ => ⟨("", none), "", "", defArgs (top 0), defBody (top 0), defScope (top 0), [], []⟩
end K70
end
section
namespace K70
open PySem PySem.Spec PyProof.Rows L2 SW
/-! slots of is_whole: 0:value -/
def m_is_whole (C : CallT) : BS :=
    (sRet (vAnd (v1 (isiT [.int]) (aRef 0)) (vNot (v1 (isiT [.bool]) (aRef 0)))))
def D_is_whole : Df := ⟨["value"], ["value"], [], m_is_whole⟩
/-! slots of is_count: 0:value 1:least -/
def m_is_count (C : CallT) : BS :=
    (sRet (vAnd (vCall C 0 1 0 [0] [] (mCons (asArg (vVar 0)) mNil) mNil) (v2 (cmpT .ge) (aRef 0) (asArg (v2 maxG (aRef 1) (asArg (vCst (.int 0))))))))
def D_is_count : Df := ⟨["value", "least"], ["value", "least"], [], m_is_count⟩
/-! slots of is_word: 0:value 1:sign -/
def c_is_word_1 (C : CallT) : VF :=
    (vLc [1] (.nm 1) (lIts (vVar 0)) bTrue (vCmp2 .le .le (asArg (vCst (.str "a"))) (aRef 1) (asArg (vCst (.str "z")))))
def m_is_word (C : CallT) : BS :=
    (sRet (vAnd (v1 (isiT [.str]) (aRef 0)) (vAnd (vCmp2 .lt .lt (asArg (vCst (.int 0))) (asArg (v1 lenG (aRef 0))) (asArg (vCst (.int 13)))) (v1 allG (asArg (c_is_word_1 C))))))
def D_is_word : Df := ⟨["value"], ["value", "sign"], [], m_is_word⟩
/-! slots of is_tuple_of: 0:value 1:size -/
def m_is_tuple_of (C : CallT) : BS :=
    (sRet (vAnd (v1 (isiT [.tuple]) (aRef 0)) (v2 (cmpT .eq) (asArg (v1 lenG (aRef 0))) (aRef 1))))
def D_is_tuple_of : Df := ⟨["value", "size"], ["value", "size"], [], m_is_tuple_of⟩
/-! slots of do_ascend: 0:items 1:one 2:other -/
def c_do_ascend_1 (C : CallT) : VF :=
    (vLc [1, 2] (.cons (.nm 1) (.cons (.nm 2) .nil)) (lZip (vVar 0) (vFz (vSlc (aRef 0) (oSome (asArg (vCst (.int 1)))) oNone))) bTrue (v2 (cmpT .lt) (aRef 1) (aRef 2)))
def m_do_ascend (C : CallT) : BS :=
    (sRet (v1 allG (asArg (c_do_ascend_1 C))))
def D_do_ascend : Df := ⟨["items"], ["items", "one", "other"], [], m_do_ascend⟩
/-! slots of are_hours: 0:value 1:hour -/
def c_are_hours_1 (C : CallT) : VF :=
    (vLc [1] (.nm 1) (lIts (vVar 0)) bTrue (vCall C 1 1 0 [0, 1] [(.int 0)] (mCons (asArg (vVar 1)) mNil) mNil))
def m_are_hours (C : CallT) : BS :=
    (sRet (vAnd (v1 (isiT [.list]) (aRef 0)) (vAnd (v1 allG (asArg (c_are_hours_1 C))) (vCall C 4 1 0 [0] [] (mCons (asArg (vVar 0)) mNil) mNil))))
def D_are_hours : Df := ⟨["value"], ["value", "hour"], [], m_are_hours⟩
/-! slots of is_pair_of_words: 0:value -/
def m_is_pair_of_words (C : CallT) : BS :=
    (sRet (vAnd (vCall C 3 2 0 [0, 1] [] (mCons (asArg (vVar 0)) (mCons (asArg (vCst (.int 2))) mNil)) mNil) (vAnd (vCall C 2 1 0 [0] [] (mCons (asArg (vSub (aRef 0) (asArg (vCst (.int 0))))) mNil) mNil) (vCall C 2 1 0 [0] [] (mCons (asArg (vSub (aRef 0) (asArg (vCst (.int 1))))) mNil) mNil))))
def D_is_pair_of_words : Df := ⟨["value"], ["value"], [], m_is_pair_of_words⟩
/-! slots of lessons_of: 0:plan 1:pair 2:hours 3:hour -/
def c_lessons_of_1 (C : CallT) : VF :=
    (vLc2 [1, 2, 3] [3] (.cons (.nm 1) (.cons (.nm 2) .nil)) (lItms (vVar 0)) bTrue (.nm 3) (lIts (vVar 2)) bTrue (vTup (lCons (vVar 3) (lCons (vSub (aRef 1) (asArg (vCst (.int 0)))) (lCons (vSub (aRef 1) (asArg (vCst (.int 1)))) lNil)))))
def m_lessons_of (C : CallT) : BS :=
    (sRet (vFz (v1 srtG (asArg (c_lessons_of_1 C)))))
def D_lessons_of : Df := ⟨["plan"], ["plan", "pair", "hours", "hour"], [], m_lessons_of⟩
/-! slots of is_clashless: 0:plan 1:lessons 2:groups 3:teachers 4:hour 5:group 6:teacher -/
def c_is_clashless_1 (C : CallT) : VF :=
    (vDc [4, 5, 6] (.cons (.nm 4) (.cons (.nm 5) (.cons (.nm 6) .nil))) (lIts (vVar 1)) bTrue (vTup (lCons (vVar 4) (lCons (vVar 6) lNil))) (vCst (.bool true)))
def c_is_clashless_2 (C : CallT) : VF :=
    (vDc [4, 5, 6] (.cons (.nm 4) (.cons (.nm 5) (.cons (.nm 6) .nil))) (lIts (vVar 1)) bTrue (vTup (lCons (vVar 4) (lCons (vVar 5) lNil))) (vCst (.bool true)))
def m_is_clashless (C : CallT) : BS :=
    (sSeq (sAsg (.nm 1) (vCall C 7 1 0 [0] [] (mCons (asArg (vVar 0)) mNil) mNil))
    (sSeq (sAsg (.nm 2) (vFz (c_is_clashless_2 C)))
    (sSeq (sAsg (.nm 3) (vFz (c_is_clashless_1 C)))
    (sRet (vAnd (v2 (cmpT .eq) (asArg (v1 lenG (aRef 2))) (asArg (v1 lenG (aRef 1)))) (v2 (cmpT .eq) (asArg (v1 lenG (aRef 3))) (asArg (v1 lenG (aRef 1)))))))))
def D_is_clashless : Df := ⟨["plan"], ["plan", "lessons", "groups", "teachers", "hour", "group", "teacher"], [1, 2, 3], m_is_clashless⟩
/-! slots of is_sound_there: 0:value 1:hours 2:pair -/
def c_is_sound_there_1 (C : CallT) : VF :=
    (vLc [1] (.nm 1) (lVals (vVar 0)) bTrue (vAnd (vCall C 5 1 0 [0] [] (mCons (asArg (vVar 1)) mNil) mNil) (v2 (cmpT .ne) (aRef 1) (asArg (vLst lNil)))))
def c_is_sound_there_2 (C : CallT) : VF :=
    (vLc [2] (.nm 2) (lKeys (vVar 0)) bTrue (vCall C 6 1 0 [0] [] (mCons (asArg (vVar 2)) mNil) mNil))
def m_is_sound_there (C : CallT) : BS :=
    (sSeq (sIf (bOr (bNot (asTst (asArg (v1 (isiT [.dict]) (aRef 0))))) (bNot (asTst (asArg (v1 allG (asArg (c_is_sound_there_2 C))))))) (sRet (vCst (.bool false))) sNil)
    (sSeq (sIf (bNot (asTst (asArg (v1 allG (asArg (c_is_sound_there_1 C)))))) (sRet (vCst (.bool false))) sNil)
    (sRet (vCall C 8 1 0 [0] [] (mCons (asArg (vVar 0)) mNil) mNil))))
def D_is_sound_there : Df := ⟨["value"], ["value", "hours", "pair"], [], m_is_sound_there⟩
/-! slots of are_words: 0:value 1:word -/
def c_are_words_1 (C : CallT) : VF :=
    (vLc [1] (.nm 1) (lIts (vVar 0)) bTrue (vCall C 2 1 0 [0] [] (mCons (asArg (vVar 1)) mNil) mNil))
def m_are_words (C : CallT) : BS :=
    (sRet (vAnd (v1 (isiT [.list]) (aRef 0)) (vAnd (v1 allG (asArg (c_are_words_1 C))) (vCall C 4 1 0 [0] [] (mCons (asArg (vVar 0)) mNil) mNil))))
def D_are_words : Df := ⟨["value"], ["value", "word"], [], m_are_words⟩
/-! slots of check_staff: 0:plan 1:able 2:shut 3:groups 4:group 5:teacher -/
def c_check_staff_1 (C : CallT) : VF :=
    (vLc [4] (.nm 4) (lKeys (vVar 3)) bTrue (vCall C 10 1 0 [0] [] (mCons (asArg (vSub (aRef 1) (aRef 4))) mNil) mNil))
def c_check_staff_2 (C : CallT) : VF :=
    (vLc [4] (.nm 4) (lKeys (vVar 3)) bTrue (v2 (cmpT .inn) (aRef 4) (aRef 1)))
def c_check_staff_3 (C : CallT) : VF :=
    (vDc [4, 5] (.cons (.nm 4) (.cons (.nm 5) .nil)) (lKeys (vVar 0)) bTrue (vVar 4) (vCst (.bool true)))
def m_check_staff (C : CallT) : BS :=
    (sSeq (sIf (bNot (asTst (asArg (vCall C 9 1 0 [0] [] (mCons (asArg (vVar 0)) mNil) mNil)))) sNever sNil)
    (sSeq (sAsg (.nm 3) (vFz (c_check_staff_3 C)))
    (sSeq (sIf (bOr (bNot (asTst (asArg (v1 (isiT [.dict]) (aRef 1))))) (bOr (asTst (asArg (v2 (cmpT .ne) (asArg (v1 lenG (aRef 1))) (asArg (v1 lenG (aRef 3)))))) (bNot (asTst (asArg (v1 allG (asArg (c_check_staff_2 C)))))))) sNever sNil)
    (sSeq (sIf (bNot (asTst (asArg (v1 allG (asArg (c_check_staff_1 C)))))) sNever sNil)
    (sIf (bNot (asTst (asArg (vCall C 12 1 0 [0] [] (mCons (asArg (vVar 2)) mNil) mNil)))) sNever sNil)))))
def D_check_staff : Df := ⟨["plan", "able", "shut"], ["plan", "able", "shut", "groups", "group", "teacher"], [3], m_check_staff⟩
/-! slots of is_shut_there: 0:value 1:word -/
def c_is_shut_there_1 (C : CallT) : VF :=
    (vLc [1] (.nm 1) (lKeys (vVar 0)) bTrue (vAnd (vCall C 2 1 0 [0] [] (mCons (asArg (vVar 1)) mNil) mNil) (vCall C 5 1 0 [0] [] (mCons (asArg (vSub (aRef 0) (aRef 1))) mNil) mNil)))
def m_is_shut_there (C : CallT) : BS :=
    (sRet (vAnd (v1 (isiT [.dict]) (aRef 0)) (v1 allG (asArg (c_is_shut_there_1 C)))))
def D_is_shut_there : Df := ⟨["value"], ["value", "word"], [], m_is_shut_there⟩
/-! slots of free_able: 0:plan 1:able 2:shut 3:lessons 4:found 5:busy 6:hour 7:group 8:teacher 9:some 10:one -/
def c_free_able_1 (C : CallT) : VF :=
    (vLc [10] (.nm 10) (lIts (vSub (aRef 1) (aRef 7))) (bAnd (asTst (asArg (v2 (cmpT .nin) (asArg (vTup (lCons (vVar 6) (lCons (vVar 10) lNil)))) (aRef 5)))) (asTst (asArg (v2 (cmpT .nin) (aRef 6) (asArg (vGet2 (aRef 2) (aRef 10) (asArg (vLst lNil)))))))) (vVar 10))
def t_free_able_1 (C : CallT) : BS :=
    (sSeq (sAsg (.nm 9) (vFz (c_free_able_1 C)))
    (sSet 4 (asArg (vTup (lCons (vVar 6) (lCons (vVar 7) (lCons (vVar 8) lNil))))) (vVar 9)))
def l_free_able_1 (C : CallT) : BS :=
    (sFor (.cons (.nm 6) (.cons (.nm 7) (.cons (.nm 8) .nil))) (lIts (vVar 3)) (t_free_able_1 C))
def c_free_able_2 (C : CallT) : VF :=
    (vDc [6, 7, 8] (.cons (.nm 6) (.cons (.nm 7) (.cons (.nm 8) .nil))) (lIts (vVar 3)) bTrue (vTup (lCons (vVar 6) (lCons (vVar 8) lNil))) (vCst (.bool true)))
def m_free_able (C : CallT) : BS :=
    (sSeq (sPar 3 4 (lCons (vCall C 7 1 0 [0] [] (mCons (asArg (vVar 0)) mNil) mNil) (lCons vD0 lNil)))
    (sSeq (sAsg (.nm 5) (vFz (c_free_able_2 C)))
    (sSeq (l_free_able_1 C)
    (sRet (vVar 4)))))
def D_free_able : Df := ⟨["plan", "able", "shut"], ["plan", "able", "shut", "lessons", "found", "busy", "hour", "group", "teacher", "some", "one"], [3, 4, 5, 6, 7, 8, 9], m_free_able⟩
/-! slots of calls_when: 0:plan 1:able 2:shut 3:ill 4:found 5:hour 6:group 7:teacher 8:some 9:one -/
def c_calls_when_1 (C : CallT) : VF :=
    (vLc [9] (.nm 9) (lIts (vVar 8)) (asTst (asArg (v2 (cmpT .nin) (aRef 9) (aRef 3)))) (vVar 9))
def t_calls_when_1 (C : CallT) : BS :=
    (sIf (asTst (asArg (v2 (cmpT .inn) (aRef 7) (aRef 3)))) (sExpr (vMm .append 4 (lCons (vTup (lCons (vVar 5) (lCons (vVar 6) (lCons (c_calls_when_1 C) lNil)))) lNil))) sNil)
def l_calls_when_1 (C : CallT) : BS :=
    (sFor (.cons (.cons (.nm 5) (.cons (.nm 6) (.cons (.nm 7) .nil))) (.cons (.nm 8) .nil)) (lItms (vCall C 13 3 0 [0, 1, 2] [] (mCons (asArg (vVar 0)) (mCons (asArg (vVar 1)) (mCons (asArg (vVar 2)) mNil))) mNil)) (t_calls_when_1 C))
def m_calls_when (C : CallT) : BS :=
    (sSeq (sExpr (vCall C 11 3 0 [0, 1, 2] [] (mCons (asArg (vVar 0)) (mCons (asArg (vVar 1)) (mCons (asArg (vVar 2)) mNil))) mNil))
    (sSeq (sIf (bNot (asTst (asArg (vCall C 10 1 0 [0] [] (mCons (asArg (vVar 3)) mNil) mNil)))) sNever sNil)
    (sSeq (sAsg (.nm 4) (vLst lNil))
    (sSeq (l_calls_when_1 C)
    (sRet (v1 srtTG (asArg (vMov 4))))))))
def D_calls_when : Df := ⟨["plan", "able", "shut", "ill"], ["plan", "able", "shut", "ill", "found", "hour", "group", "teacher", "some", "one"], [4, 5, 6, 7, 8], m_calls_when⟩
/-! slots of safe_number: 0:plan 1:able 2:shut 3:some -/
def c_safe_number_1 (C : CallT) : VF :=
    (vLc [3] (.nm 3) (lVals (vCall C 13 3 0 [0, 1, 2] [] (mCons (asArg (vVar 0)) (mCons (asArg (vVar 1)) (mCons (asArg (vVar 2)) mNil))) mNil)) bTrue (v1 lenG (aRef 3)))
def m_safe_number (C : CallT) : BS :=
    (sSeq (sExpr (vCall C 11 3 0 [0, 1, 2] [] (mCons (asArg (vVar 0)) (mCons (asArg (vVar 1)) (mCons (asArg (vVar 2)) mNil))) mNil))
    (sRet (v2 minDG (asArg (c_safe_number_1 C)) (asArg (vCst .none)))))
def D_safe_number : Df := ⟨["plan", "able", "shut"], ["plan", "able", "shut", "some"], [], m_safe_number⟩
/-! slots of weakest_lessons: 0:plan 1:able 2:shut 3:least 4:key 5:some -/
def c_weakest_lessons_1 (C : CallT) : VF :=
    (vLc [4, 5] (.cons (.nm 4) (.cons (.nm 5) .nil)) (lItms (vCall C 13 3 0 [0, 1, 2] [] (mCons (asArg (vVar 0)) (mCons (asArg (vVar 1)) (mCons (asArg (vVar 2)) mNil))) mNil)) (asTst (asArg (v2 (cmpT .eq) (asArg (v1 lenG (aRef 5))) (aRef 3)))) (vFz (vSlc (aRef 4) oNone (oSome (asArg (vCst (.int 2)))))))
def m_weakest_lessons (C : CallT) : BS :=
    (sSeq (sAsg (.nm 3) (vCall C 15 3 0 [0, 1, 2] [] (mCons (asArg (vVar 0)) (mCons (asArg (vVar 1)) (mCons (asArg (vVar 2)) mNil))) mNil))
    (sRet (v1 srtG (asArg (c_weakest_lessons_1 C)))))
def D_weakest_lessons : Df := ⟨["plan", "able", "shut"], ["plan", "able", "shut", "least", "key", "some"], [3], m_weakest_lessons⟩
/-! slots of ill_beyond: 0:plan 1:able 2:shut 3:least 4:key 5:some -/
def t_ill_beyond_1 (C : CallT) : BS :=
    (sIf (asTst (asArg (v2 (cmpT .eq) (asArg (v1 lenG (aRef 5))) (aRef 3)))) (sRet (vFz (v1 srtG (asArg (v2 (binT .add) (asArg (vLst (lCons (vSub (aRef 4) (asArg (vCst (.int 2)))) lNil))) (aRef 5)))))) sNil)
def l_ill_beyond_1 (C : CallT) : BS :=
    (sFor (.cons (.nm 4) (.cons (.nm 5) .nil)) (lItms (vCall C 13 3 0 [0, 1, 2] [] (mCons (asArg (vVar 0)) (mCons (asArg (vVar 1)) (mCons (asArg (vVar 2)) mNil))) mNil)) (t_ill_beyond_1 C))
def m_ill_beyond (C : CallT) : BS :=
    (sSeq (sAsg (.nm 3) (vCall C 15 3 0 [0, 1, 2] [] (mCons (asArg (vVar 0)) (mCons (asArg (vVar 1)) (mCons (asArg (vVar 2)) mNil))) mNil))
    (sSeq (l_ill_beyond_1 C)
    (sRet (vCst .none))))
def D_ill_beyond : Df := ⟨["plan", "able", "shut"], ["plan", "able", "shut", "least", "key", "some"], [3, 4, 5], m_ill_beyond⟩
/-! slots of _law_purse: 0:script 1:at 2:seed -/
def m_law_purse (C : CallT) : BS :=
    (sSeq (sAsg (.nm 2) (v1 sumG (asArg (vSlcS (aRef 0) (oSome (aRef 1)) (oSome (asArg (v2 (binT .add) (aRef 1) (asArg (vCst (.int 1))))))))))
    (sRet (vLst (lCons (v2 (binT .mod) (asArg (v1 intG (asArg (v2 maxG (asArg (v2 (binT .sub) (aRef 2) (asArg (v2 (binT .pow) (asArg (vCst (.int 10))) (asArg (vCst (.int 18))))))) (asArg (vCst (.int 0))))))) (asArg (v2 (binT .pow) (asArg (v2 (binT .pow) (asArg (vCst (.int 10))) (asArg (vCst (.int 60))))) (asArg (vCst (.int 8)))))) (lCons (v2 (binT .mod) (asArg (v1 intG (aRef 2))) (asArg (vCst (.int 2147483629)))) (lCons (vCst (.int 0)) (lCons (vVar 1) lNil)))))))
def D_law_purse : Df := ⟨["script", "at"], ["script", "at", "seed"], [2], m_law_purse⟩
/-! slots of _law_mixed: 0:seed 1:spin 2:at 3:mixed -/
def m_law_mixed (C : CallT) : BS :=
    (sSeq (sAsg (.nm 3) (vFz (v2 (binT .add) (asArg (v2 (binT .mul) (aRef 0) (asArg (vCst (.int 69069))))) (asArg (v2 (binT .mul) (asArg (v2 (binT .mul) (asArg (vCst (.int 104729))) (aRef 1))) (aRef 1))))))
    (sSeq (sAsg (.nm 3) (v2 (binT .mod) (asArg (v1 intG (asArg (v2 (binT .add) (asArg (v2 (binT .add) (aRef 3) (asArg (v2 (binT .mul) (asArg (vCst (.int 7919))) (aRef 2))))) (aRef 1))))) (asArg (vCst (.int 2147483647)))))
    (sSeq (sAsg (.nm 3) (v2 (binT .mod) (asArg (v1 intG (asArg (v2 (binT .add) (asArg (v2 (binT .mul) (aRef 3) (aRef 3))) (asArg (vCst (.int 40503))))))) (asArg (vCst (.int 2147483629)))))
    (sRet (v2 (binT .mod) (asArg (v1 intG (asArg (v2 (binT .mul) (aRef 3) (asArg (vCst (.int 48271))))))) (asArg (vCst (.int 2147483587))))))))
def D_law_mixed : Df := ⟨["seed", "spin", "at"], ["seed", "spin", "at", "mixed"], [3], m_law_mixed⟩
/-! slots of _law_draw: 0:purse 1:many 2:drawn 3:found 4:piece -/
def t_law_draw_1 (C : CallT) : BS :=
    (sSeq (sSet 0 (asArg (vCst (.int 2))) (v2 (binT .add) (asArg (vSub (aRef 0) (asArg (vCst (.int 2))))) (asArg (vCst (.int 1)))))
    (sAsg (.nm 3) (vFz (v2 (binT .add) (asArg (v2 (binT .mul) (aRef 3) (asArg (vCst (.int 2147483587))))) (asArg (vCall C 19 3 0 [0, 1, 2] [] (mCons (asArg (vSub (aRef 0) (asArg (vCst (.int 1))))) (mCons (asArg (vSub (aRef 0) (asArg (vCst (.int 2))))) (mCons (asArg (vSub (aRef 0) (asArg (vCst (.int 3))))) mNil))) mNil))))))
def l_law_draw_1 (C : CallT) : BS :=
    (sFor (.nm 4) (lRng1 (asArg (v2 (binT .add) (asArg (vCst (.int 1))) (asArg (v2 (binT .fdiv) (asArg (v1 bitG (aRef 1))) (asArg (vCst (.int 28)))))))) (t_law_draw_1 C))
def m_law_draw (C : CallT) : BS :=
    (sSeq (sIf (asTst (asArg (v2 (cmpT .gt) (asArg (vSub (aRef 0) (asArg (vCst (.int 0))))) (asArg (vCst (.int 0)))))) (sSeq (sAsg (.nm 2) (v2 (binT .mod) (asArg (v1 intG (asArg (vSub (aRef 0) (asArg (vCst (.int 0))))))) (aRef 1)))
    (sSeq (sSet 0 (asArg (vCst (.int 0))) (v2 (binT .fdiv) (asArg (vSub (aRef 0) (asArg (vCst (.int 0))))) (aRef 1)))
    (sRet (vVar 2)))) sNil)
    (sSeq (sAsg (.nm 3) (vCst (.int 0)))
    (sSeq (l_law_draw_1 C)
    (sRet (v2 (binT .mod) (asArg (v1 intG (aRef 3))) (aRef 1))))))
def D_law_draw : Df := ⟨["purse", "many"], ["purse", "many", "drawn", "found", "piece"], [2, 3, 4], m_law_draw⟩
/-! slots of _law_purses: 0:script 1:few 2:at -/
def c_law_purses_1 (C : CallT) : VF :=
    (vLc [2] (.nm 2) (lRng1 (asArg (v2 maxG (asArg (vCst (.int 1))) (asArg (v2 minG (aRef 1) (asArg (v1 lenSG (aRef 0)))))))) bTrue (vCall C 18 2 0 [0, 1] [] (mCons (aRef 0) (mCons (asArg (vVar 2)) mNil)) mNil))
def m_law_purses (C : CallT) : BS :=
    (sRet (c_law_purses_1 C))
def D_law_purses : Df := ⟨["script", "few"], ["script", "few", "at"], [], m_law_purses⟩
/-! slots of _law_one_of: 0:purse 1:some -/
def m_law_one_of (C : CallT) : BS :=
    (sRet (vSub (aRef 1) (asArg (vCall C 20 2 0 [0, 1] [] (mCons (aRef 0) (mCons (asArg (v1 lenG (aRef 1))) mNil)) mNil))))
def D_law_one_of : Df := ⟨["purse", "some"], ["purse", "some"], [], m_law_one_of⟩
/-! slots of _law_shuffled: 0:purse 1:some 2:found 3:item -/
def t_law_shuffled_1 (C : CallT) : BS :=
    (sExpr (vMm .insert 2 (lCons (vCall C 20 2 0 [0, 1] [] (mCons (aRef 0) (mCons (asArg (v2 (binT .add) (asArg (v1 lenG (aRef 2))) (asArg (vCst (.int 1))))) mNil)) mNil) (lCons (vVar 3) lNil))))
def l_law_shuffled_1 (C : CallT) : BS :=
    (sFor (.nm 3) (lIts (vVar 1)) (t_law_shuffled_1 C))
def m_law_shuffled (C : CallT) : BS :=
    (sSeq (sAsg (.nm 2) (vLst lNil))
    (sSeq (l_law_shuffled_1 C)
    (sRet (vVar 2))))
def D_law_shuffled : Df := ⟨["purse", "some"], ["purse", "some", "found", "item"], [2, 3], m_law_shuffled⟩
/-! slots of _law_exact: 0:mine 1:theirs 2:is_list 3:is_like 4:a 5:b -/
def c_law_exact_1 (C : CallT) : VF :=
    (vLc [4, 5] (.cons (.nm 4) (.cons (.nm 5) .nil)) (lZip (vVar 0) (vVar 1)) bTrue (vCall C 24 2 0 [0, 1] [] (mCons (asArg (vVar 4)) (mCons (asArg (vVar 5)) mNil)) mNil))
def m_law_exact (C : CallT) : BS :=
    (sSeq (sIf (asTst (asArg (v1 (isiT [.list, .tuple]) (aRef 0)))) (sSeq (sAsg (.nm 2) (v2 (cmpT .eq) (asArg (v1 (isiT [.list]) (aRef 1))) (asArg (v1 (isiT [.list]) (aRef 0)))))
    (sSeq (sAsg (.nm 3) (vAnd (vVar 2) (v2 (cmpT .eq) (asArg (v1 (isiT [.tuple]) (aRef 1))) (asArg (v1 (isiT [.tuple]) (aRef 0))))))
    (sRet (vAnd (vVar 3) (vAnd (v2 (cmpT .eq) (asArg (v1 lenG (aRef 0))) (asArg (v1 lenG (aRef 1)))) (v1 allG (asArg (c_law_exact_1 C)))))))) sNil)
    (sSeq (sIf (bOr (asTst (asArg (v1 (isiT [.list, .tuple]) (aRef 1)))) (asTst (asArg (v2 (cmpT .ne) (asArg (v2 (cmpT .is) (aRef 0) (asArg (vCst .none)))) (asArg (v2 (cmpT .is) (aRef 1) (asArg (vCst .none)))))))) (sRet (vCst (.bool false))) sNil)
    (sSeq (sAsg (.nm 3) (vAnd (v2 (cmpT .eq) (asArg (v1 (isiT [.int]) (aRef 0))) (asArg (v1 (isiT [.int]) (aRef 1)))) (v2 (cmpT .eq) (asArg (v1 (isiT [.str]) (aRef 0))) (asArg (v1 (isiT [.str]) (aRef 1))))))
    (sRet (vAnd (vVar 3) (vAnd (v2 (cmpT .eq) (asArg (v1 (isiT [.bool]) (aRef 0))) (asArg (v1 (isiT [.bool]) (aRef 1)))) (v2 (cmpT .eq) (aRef 0) (aRef 1))))))))
def D_law_exact : Df := ⟨["mine", "theirs"], ["mine", "theirs", "is_list", "is_like", "a", "b"], [2, 3], m_law_exact⟩
/-! slots of _law_plan: 0:purse 1:groups 2:teachers 3:many 4:spins 5:taken 6:found 7:spin 8:hour 9:pair -/
def t_law_plan_1 (C : CallT) : BS :=
    (sSeq (sPar 8 9 (lCons (vCall C 20 2 0 [0, 1] [] (mCons (aRef 0) (mCons (asArg (vVar 3)) mNil)) mNil) (lCons (vTup (lCons (vCall C 22 2 0 [0, 1] [] (mCons (aRef 0) (mCons (asArg (vVar 1)) mNil)) mNil) (lCons (vCall C 22 2 0 [0, 1] [] (mCons (aRef 0) (mCons (asArg (vVar 2)) mNil)) mNil) lNil))) lNil)))
    (sIf (bAnd (asTst (asArg (v2 (cmpT .nin) (asArg (vTup (lCons (vCst (.str "group")) (lCons (vSub (aRef 9) (asArg (vCst (.int 0)))) (lCons (vVar 8) lNil))))) (aRef 5)))) (asTst (asArg (v2 (cmpT .nin) (asArg (vTup (lCons (vCst (.str "teacher")) (lCons (vSub (aRef 9) (asArg (vCst (.int 1)))) (lCons (vVar 8) lNil))))) (aRef 5))))) (sSeq (sAsg (.cons (tgS 5 (asArg (vTup (lCons (vCst (.str "group")) (lCons (vSub (aRef 9) (asArg (vCst (.int 0)))) (lCons (vVar 8) lNil)))))) (.cons (tgS 5 (asArg (vTup (lCons (vCst (.str "teacher")) (lCons (vSub (aRef 9) (asArg (vCst (.int 1)))) (lCons (vVar 8) lNil)))))) .nil)) (vTup (lCons (vCst (.bool true)) (lCons (vCst (.bool true)) lNil))))
    (sSet 6 (aRef 9) (vFz (v1 srtG (asArg (v2 (binT .add) (asArg (vGet2 (aRef 6) (aRef 9) (asArg (vLst lNil)))) (asArg (vLst (lCons (vVar 8) lNil))))))))) sNil))
def l_law_plan_1 (C : CallT) : BS :=
    (sFor (.nm 7) (lRng1 (aRef 4)) (t_law_plan_1 C))
def m_law_plan (C : CallT) : BS :=
    (sSeq (sPar 5 6 (lCons vD0 (lCons vD0 lNil)))
    (sSeq (l_law_plan_1 C)
    (sRet (vVar 6))))
def D_law_plan : Df := ⟨["purse", "groups", "teachers", "many", "spins"], ["purse", "groups", "teachers", "many", "spins", "taken", "found", "spin", "hour", "pair"], [5, 6, 7, 8, 9], m_law_plan⟩
/-! slots of _law_late_hours: 0:plan 1:shift 2:pair 3:hour -/
def c_law_late_hours_1 (C : CallT) : VF :=
    (vLc [3] (.nm 3) (lIts (vSub (aRef 0) (aRef 2))) bTrue (vFz (v2 (binT .add) (aRef 3) (aRef 1))))
def c_law_late_hours_2 (C : CallT) : VF :=
    (vLc [2] (.nm 2) (lKeys (vVar 0)) bTrue (vTup (lCons (vVar 2) (lCons (vFz (c_law_late_hours_1 C)) lNil))))
def m_law_late_hours (C : CallT) : BS :=
    (sRet (vFz (v1 dictPG (asArg (c_law_late_hours_2 C)))))
def D_law_late_hours : Df := ⟨["plan", "shift"], ["plan", "shift", "pair", "hour"], [], m_law_late_hours⟩
/-! slots of _law_able: 0:purse 1:plan 2:teachers 3:found 4:group 5:pair -/
def c_law_able_1 (C : CallT) : VF :=
    (vLc [5] (.nm 5) (lKeys (vVar 1)) bTrue (vSub (aRef 5) (asArg (vCst (.int 0)))))
def t_law_able_1 (C : CallT) : BS :=
    (sSet 3 (aRef 4) (vFz (v1 srtG (asArg (vSlc (asArg (vCall C 23 2 0 [0, 1] [] (mCons (aRef 0) (mCons (asArg (vVar 2)) mNil)) mNil)) oNone (oSome (asArg (vCall C 20 2 0 [0, 1] [] (mCons (aRef 0) (mCons (asArg (v2 (binT .add) (asArg (v1 lenG (aRef 2))) (asArg (vCst (.int 1))))) mNil)) mNil))))))))
def l_law_able_1 (C : CallT) : BS :=
    (sFor (.nm 4) (lIts (vFz (v1 ssG (asArg (c_law_able_1 C))))) (t_law_able_1 C))
def m_law_able (C : CallT) : BS :=
    (sSeq (sAsg (.nm 3) vD0)
    (sSeq (l_law_able_1 C)
    (sRet (vVar 3))))
def D_law_able : Df := ⟨["purse", "plan", "teachers"], ["purse", "plan", "teachers", "found", "group", "pair"], [3, 4], m_law_able⟩
/-! slots of _law_shut: 0:purse 1:teachers 2:many 3:found 4:teacher 5:spin -/
def c_law_shut_1 (C : CallT) : VF :=
    (vLc [5] (.nm 5) (lRng1 (asArg (vCall C 20 2 0 [0, 1] [] (mCons (aRef 0) (mCons (asArg (vCst (.int 4))) mNil)) mNil))) bTrue (vCall C 20 2 0 [0, 1] [] (mCons (aRef 0) (mCons (asArg (vVar 2)) mNil)) mNil))
def t_law_shut_1 (C : CallT) : BS :=
    (sIf (asTst (asArg (v2 (cmpT .eq) (asArg (vCall C 20 2 0 [0, 1] [] (mCons (aRef 0) (mCons (asArg (vCst (.int 3))) mNil)) mNil)) (asArg (vCst (.int 0)))))) (sSet 3 (aRef 4) (vFz (v1 ssG (asArg (c_law_shut_1 C))))) sNil)
def l_law_shut_1 (C : CallT) : BS :=
    (sFor (.nm 4) (lIts (vVar 1)) (t_law_shut_1 C))
def m_law_shut (C : CallT) : BS :=
    (sSeq (sAsg (.nm 3) vD0)
    (sSeq (l_law_shut_1 C)
    (sRet (vVar 3))))
def D_law_shut : Df := ⟨["purse", "teachers", "many"], ["purse", "teachers", "many", "found", "teacher", "spin"], [3, 4], m_law_shut⟩
/-! slots of _law_busy: 0:plan 1:teacher 2:hour 3:pair -/
def c_law_busy_1 (C : CallT) : VF :=
    (vLc [3] (.nm 3) (lKeys (vVar 0)) (bAnd (asTst (asArg (v2 (cmpT .eq) (asArg (vSub (aRef 3) (asArg (vCst (.int 1))))) (aRef 1)))) (asTst (asArg (v2 (cmpT .inn) (aRef 2) (asArg (vSub (aRef 0) (aRef 3))))))) (vVar 3))
def m_law_busy (C : CallT) : BS :=
    (sRet (v2 (cmpT .ne) (asArg (c_law_busy_1 C)) (asArg (vLst lNil))))
def D_law_busy : Df := ⟨["plan", "teacher", "hour"], ["plan", "teacher", "hour", "pair"], [], m_law_busy⟩
/-! slots of _law_free: 0:plan 1:able 2:shut 3:group 4:hour 5:found 6:one -/
def c_law_free_1 (C : CallT) : VF :=
    (vLc [6] (.nm 6) (lIts (vVar 5)) (asTst (asArg (v2 (cmpT .nin) (aRef 4) (asArg (vGet2 (aRef 2) (aRef 6) (asArg (vLst lNil))))))) (vVar 6))
def c_law_free_2 (C : CallT) : VF :=
    (vLc [6] (.nm 6) (lIts (vSub (aRef 1) (aRef 3))) (bNot (asTst (asArg (vCall C 29 3 0 [0, 1, 2] [] (mCons (asArg (vVar 0)) (mCons (asArg (vVar 6)) (mCons (asArg (vVar 4)) mNil))) mNil)))) (vVar 6))
def m_law_free (C : CallT) : BS :=
    (sSeq (sAsg (.nm 5) (vFz (c_law_free_2 C)))
    (sRet (vFz (c_law_free_1 C))))
def D_law_free : Df := ⟨["plan", "able", "shut", "group", "hour"], ["plan", "able", "shut", "group", "hour", "found", "one"], [5], m_law_free⟩
/-! slots of _law_lessons: 0:plan 1:found 2:pair 3:hour -/
def c_law_lessons_1 (C : CallT) : VF :=
    (vLc [3] (.nm 3) (lIts (vSub (aRef 0) (aRef 2))) bTrue (vTup (lCons (vVar 3) (lCons (vSub (aRef 2) (asArg (vCst (.int 0)))) (lCons (vSub (aRef 2) (asArg (vCst (.int 1)))) lNil)))))
def t_law_lessons_1 (C : CallT) : BS :=
    (sAsg (.nm 1) (vFz (v2 (binT .add) (aRef 1) (asArg (c_law_lessons_1 C)))))
def l_law_lessons_1 (C : CallT) : BS :=
    (sFor (.nm 2) (lKeys (vVar 0)) (t_law_lessons_1 C))
def m_law_lessons (C : CallT) : BS :=
    (sSeq (sAsg (.nm 1) (vFz (vLst lNil)))
    (sSeq (l_law_lessons_1 C)
    (sRet (vFz (v1 srtG (aRef 1))))))
def D_law_lessons : Df := ⟨["plan"], ["plan", "found", "pair", "hour"], [1, 2], m_law_lessons⟩
/-! slots of _law_calls: 0:plan 1:able 2:shut 3:ill 4:found 5:hour 6:group 7:teacher 8:one -/
def c_law_calls_1 (C : CallT) : VF :=
    (vLc [8] (.nm 8) (lIts (vCall C 30 5 0 [0, 1, 2, 3, 4] [] (mCons (asArg (vVar 0)) (mCons (asArg (vVar 1)) (mCons (asArg (vVar 2)) (mCons (asArg (vVar 6)) (mCons (asArg (vVar 5)) mNil))))) mNil)) (asTst (asArg (v2 (cmpT .nin) (aRef 8) (aRef 3)))) (vVar 8))
def t_law_calls_1 (C : CallT) : BS :=
    (sIf (asTst (asArg (v2 (cmpT .inn) (aRef 7) (aRef 3)))) (sExpr (vMm .append 4 (lCons (vTup (lCons (vVar 5) (lCons (vVar 6) (lCons (vFz (c_law_calls_1 C)) lNil)))) lNil))) sNil)
def l_law_calls_1 (C : CallT) : BS :=
    (sFor (.cons (.nm 5) (.cons (.nm 6) (.cons (.nm 7) .nil))) (lIts (vCall C 31 1 0 [0] [] (mCons (asArg (vVar 0)) mNil) mNil)) (t_law_calls_1 C))
def m_law_calls (C : CallT) : BS :=
    (sSeq (sAsg (.nm 4) (vLst lNil))
    (sSeq (l_law_calls_1 C)
    (sRet (vFz (v1 srtG (aRef 4))))))
def D_law_calls : Df := ⟨["plan", "able", "shut", "ill"], ["plan", "able", "shut", "ill", "found", "hour", "group", "teacher", "one"], [4, 5, 6, 7], m_law_calls⟩
/-! slots of _law_can_all: 0:calls 1:hour 2:ways 3:call 4:longer 5:way 6:one 7:teacher -/
def c_law_can_all_1 (C : CallT) : VF :=
    (vLc [3] (.nm 3) (lIts (vVar 0)) bTrue (vSub (aRef 3) (asArg (vCst (.int 0)))))
def c_law_can_all_2 (C : CallT) : VF :=
    (vLc [6] (.nm 6) (lIts (vVar 0)) (asTst (asArg (v2 (cmpT .eq) (asArg (vSub (aRef 6) (asArg (vCst (.int 0))))) (aRef 1)))) (vVar 6))
def c_law_can_all_3 (C : CallT) : VF :=
    (vLc [7] (.nm 7) (lIts (vSub (aRef 3) (asArg (vCst (.int 2))))) (asTst (asArg (v2 (cmpT .nin) (aRef 7) (aRef 5)))) (vFz (v2 (binT .add) (aRef 5) (asArg (vLst (lCons (vVar 7) lNil))))))
def t_law_can_all_1 (C : CallT) : BS :=
    (sAsg (.nm 4) (vFz (v2 (binT .add) (aRef 4) (asArg (c_law_can_all_3 C)))))
def l_law_can_all_1 (C : CallT) : BS :=
    (sFor (.nm 5) (lIts (vVar 2)) (t_law_can_all_1 C))
def t_law_can_all_2 (C : CallT) : BS :=
    (sSeq (sAsg (.nm 4) (vFz (vLst lNil)))
    (sSeq (l_law_can_all_1 C)
    (sAsg (.nm 2) (vVar 4))))
def l_law_can_all_2 (C : CallT) : BS :=
    (sFor (.nm 3) (lIts (vFz (c_law_can_all_2 C))) (t_law_can_all_2 C))
def t_law_can_all_3 (C : CallT) : BS :=
    (sSeq (sAsg (.nm 2) (vFz (vLst (lCons (vFz (vLst lNil)) lNil))))
    (sSeq (l_law_can_all_2 C)
    (sIf (asTst (asArg (v2 (cmpT .eq) (aRef 2) (asArg (vLst lNil))))) (sRet (vCst (.bool false))) sNil)))
def l_law_can_all_3 (C : CallT) : BS :=
    (sFor (.nm 1) (lIts (vFz (v1 ssG (asArg (c_law_can_all_1 C))))) (t_law_can_all_3 C))
def m_law_can_all (C : CallT) : BS :=
    (sSeq (l_law_can_all_3 C)
    (sRet (vCst (.bool true))))
def D_law_can_all : Df := ⟨["calls"], ["calls", "hour", "ways", "call", "longer", "way", "one", "teacher"], [1, 2, 3, 4, 5], m_law_can_all⟩
/-! slots of _law_lists: 0:names 1:most 2:found 3:name 4:row -/
def c_law_lists_1 (C : CallT) : VF :=
    (vLc [4] (.nm 4) (lIts (vVar 2)) (asTst (asArg (v2 (cmpT .lt) (asArg (v1 lenG (aRef 4))) (aRef 1)))) (vFz (v2 (binT .add) (aRef 4) (asArg (vLst (lCons (vVar 3) lNil))))))
def t_law_lists_1 (C : CallT) : BS :=
    (sAsg (.nm 2) (vFz (v2 (binT .add) (aRef 2) (asArg (c_law_lists_1 C)))))
def l_law_lists_1 (C : CallT) : BS :=
    (sFor (.nm 3) (lIts (vVar 0)) (t_law_lists_1 C))
def m_law_lists (C : CallT) : BS :=
    (sSeq (sAsg (.nm 2) (vFz (vLst (lCons (vFz (vLst lNil)) lNil))))
    (sSeq (l_law_lists_1 C)
    (sRet (vVar 2))))
def D_law_lists : Df := ⟨["names", "most"], ["names", "most", "found", "name", "row"], [2, 3], m_law_lists⟩
/-! slots of _law_safe_right: 0:plan 1:able 2:shut 3:teachers 4:free 5:due 6:weak 7:told 8:beyond 9:again 10:bent_way 11:late 12:ill 13:lesson -/
def s_law_safe_right_1 (C : CallT) : BS :=
    (sRet (vCall C 24 2 0 [0, 1] [] (mCons (asArg (vVar 6)) (mCons (asArg (vFz (vCall C 16 3 0 [0, 1, 2] [] (mCons (asArg (vVar 0)) (mCons (asArg (vVar 1)) (mCons (asArg (vVar 2)) mNil))) mNil))) mNil)) mNil))
def s_law_safe_right_2 (C : CallT) : BS :=
    (sIf (asTst (asArg (vCall C 33 1 0 [0] [] (mCons (asArg (vCall C 32 4 0 [0, 1, 2, 3] [] (mCons (asArg (vVar 0)) (mCons (asArg (vVar 1)) (mCons (asArg (vVar 2)) (mCons (asArg (vVar 8)) mNil)))) mNil)) mNil) mNil))) (sRet (vCst (.bool false))) sNil)
def s_law_safe_right_3 (C : CallT) : BS :=
    (sIf (bOr (asTst (asArg (v2 (cmpT .ne) (aRef 8) (asArg (v1 ssG (aRef 8)))))) (asTst (asArg (v2 (cmpT .ne) (asArg (v1 lenG (aRef 8))) (asArg (v2 (binT .add) (aRef 5) (asArg (vCst (.int 1))))))))) (sRet (vCst (.bool false))) sNil)
def t_law_safe_right_1 (C : CallT) : BS :=
    (sIf (bNot (asTst (asArg (vCall C 33 1 0 [0] [] (mCons (asArg (vCall C 32 4 0 [0, 1, 2, 3] [] (mCons (asArg (vVar 0)) (mCons (asArg (vVar 1)) (mCons (asArg (vVar 2)) (mCons (asArg (vFz (v1 srtG (aRef 12)))) mNil)))) mNil)) mNil) mNil)))) (sRet (vCst (.bool false))) sNil)
def l_law_safe_right_1 (C : CallT) : BS :=
    (sFor (.nm 12) (lIts (vCall C 34 2 0 [0, 1] [] (mCons (asArg (vVar 3)) (mCons (asArg (vVar 5)) mNil)) mNil)) (t_law_safe_right_1 C))
def s_law_safe_right_4 (C : CallT) : BS :=
    (l_law_safe_right_1 C)
def s_law_safe_right_5 (C : CallT) : BS :=
    (sIf (asTst (asArg (v2 (cmpT .is) (aRef 5) (asArg (vCst .none))))) (sRet (vCall C 24 2 0 [0, 1] [] (mCons (asArg (vVar 6)) (mCons (asArg (vFz (vCall C 16 3 0 [0, 1, 2] [] (mCons (asArg (vVar 0)) (mCons (asArg (vVar 1)) (mCons (asArg (vVar 2)) mNil))) mNil))) mNil)) mNil)) sNil)
def s_law_safe_right_6 (C : CallT) : BS :=
    (sExpr (vMmV .append (vSub (asArg (vMov 7)) (asArg (vCst (.int 1)))) (lCons (vCst (.str "more")) lNil)))
def s_law_safe_right_7 (C : CallT) : BS :=
    (sIf (bNot (asTst (asArg (vCall C 24 2 0 [0, 1] [] (mCons (asArg (vVar 8)) (mCons (asArg (vCall C 17 0 3 [1, 0, 2] [] mNil (mCons (asArg (vVar 10)) (mCons (asArg (vFz (v1 dictPG (asArg (vRev (asArg (vItL (vVar 0)))))))) (mCons (asArg (vVar 11)) mNil))))) mNil)) mNil)))) (sRet (vCst (.bool false))) sNil)
def s_law_safe_right_8 (C : CallT) : BS :=
    (sAsg (.nm 11) (vFz (v1 dictPG (asArg (vRev (asArg (vItL (vVar 2))))))))
def s_law_safe_right_9 (C : CallT) : BS :=
    (sAsg (.nm 10) (vFz (v1 dictPG (asArg (vRev (asArg (vItL (vVar 1))))))))
def s_law_safe_right_10 (C : CallT) : BS :=
    (sIf (bOr (bNot (asTst (asArg (vCall C 24 2 0 [0, 1] [] (mCons (asArg (vFz (vLst (lCons (vVar 5) (lCons (vVar 6) lNil))))) (mCons (asArg (vVar 9)) mNil)) mNil)))) (asTst (asArg (v2 (cmpT .ne) (asArg (v2 (cmpT .is) (aRef 8) (asArg (vCst .none)))) (asArg (v2 (cmpT .is) (aRef 5) (asArg (vCst .none)))))))) (sRet (vCst (.bool false))) sNil)
def s_law_safe_right_11 (C : CallT) : BS :=
    (sAsg (.nm 9) (vFz (vLst (lCons (vCall C 15 0 3 [2, 1, 0] [] mNil (mCons (asArg (vVar 2)) (mCons (asArg (vVar 1)) (mCons (asArg (vVar 0)) mNil)))) (lCons (vFz (vCall C 16 0 3 [2, 1, 0] [] mNil (mCons (asArg (vVar 2)) (mCons (asArg (vVar 1)) (mCons (asArg (vVar 0)) mNil))))) lNil)))))
def s_law_safe_right_12 (C : CallT) : BS :=
    (sIf (bNot (asTst (asArg (vPure (vCall C 24 2 0 [0, 1] [] (mCons (asArg (vFz (vLst (lCons (vVar 5) (lCons (vVar 6) lNil))))) (mCons (asArg (vVar 7)) mNil)) mNil))))) (sRet (vCst (.bool false))) sNil)
def s_law_safe_right_13 (C : CallT) : BS :=
    (sPar 7 8 (lCons (vLst (lCons (vCall C 15 3 0 [0, 1, 2] [] (mCons (asArg (vVar 0)) (mCons (asArg (vVar 1)) (mCons (asArg (vVar 2)) mNil))) mNil) (lCons (vCall C 16 3 0 [0, 1, 2] [] (mCons (asArg (vVar 0)) (mCons (asArg (vVar 1)) (mCons (asArg (vVar 2)) mNil))) mNil) lNil))) (lCons (vCall C 17 3 0 [0, 1, 2] [] (mCons (asArg (vVar 0)) (mCons (asArg (vVar 1)) (mCons (asArg (vVar 2)) mNil))) mNil) lNil)))
def c_law_safe_right_1 (C : CallT) : VF :=
    (vLc [13] (.nm 13) (lKeys (vVar 4)) (asTst (asArg (v2 (cmpT .eq) (asArg (v1 lenG (asArg (vSub (aRef 4) (aRef 13))))) (aRef 5)))) (vFz (vSlc (aRef 13) oNone (oSome (asArg (vCst (.int 2)))))))
def s_law_safe_right_14 (C : CallT) : BS :=
    (sAsg (.nm 6) (vFz (v1 srtG (asArg (c_law_safe_right_1 C)))))
def c_law_safe_right_2 (C : CallT) : VF :=
    (vLc [13] (.nm 13) (lKeys (vVar 4)) bTrue (v1 lenG (asArg (vSub (aRef 4) (aRef 13)))))
def s_law_safe_right_15 (C : CallT) : BS :=
    (sAsg (.nm 5) (vIte (asTst (asArg (v2 (cmpT .ne) (aRef 4) (asArg vD0)))) (v1 minLG (asArg (c_law_safe_right_2 C))) (vCst .none)))
def c_law_safe_right_3 (C : CallT) : VF :=
    (vLc [13] (.nm 13) (lIts (vCall C 31 1 0 [0] [] (mCons (asArg (vVar 0)) mNil) mNil)) bTrue (vTup (lCons (vVar 13) (lCons (vCall C 30 5 0 [0, 1, 2, 3, 4] [] (mCons (asArg (vVar 0)) (mCons (asArg (vVar 1)) (mCons (asArg (vVar 2)) (mCons (asArg (vSub (aRef 13) (asArg (vCst (.int 1))))) (mCons (asArg (vSub (aRef 13) (asArg (vCst (.int 0))))) mNil))))) mNil) lNil))))
def s_law_safe_right_16 (C : CallT) : BS :=
    (sAsg (.nm 4) (vFz (v1 dictPG (asArg (c_law_safe_right_3 C)))))
def m_law_safe_right (C : CallT) : BS :=
    (sSeq (s_law_safe_right_16 C)
    (sSeq (s_law_safe_right_15 C)
    (sSeq (s_law_safe_right_14 C)
    (sSeq (s_law_safe_right_13 C)
    (sSeq (s_law_safe_right_12 C)
    (sSeq (s_law_safe_right_11 C)
    (sSeq (s_law_safe_right_10 C)
    (sSeq (s_law_safe_right_9 C)
    (sSeq (s_law_safe_right_8 C)
    (sSeq (s_law_safe_right_7 C)
    (sSeq (s_law_safe_right_6 C)
    (sSeq (s_law_safe_right_5 C)
    (sSeq (s_law_safe_right_4 C)
    (sSeq (s_law_safe_right_3 C)
    (sSeq (s_law_safe_right_2 C)
    (s_law_safe_right_1 C))))))))))))))))
def D_law_safe_right : Df := ⟨["plan", "able", "shut", "teachers"], ["plan", "able", "shut", "teachers", "free", "due", "weak", "told", "beyond", "again", "bent_way", "late", "ill", "lesson"], [4, 5, 6, 7, 8, 9, 10, 11, 12], m_law_safe_right⟩
/-! slots of law: 0:script 1:purse 2:spin 3:teachers 4:many 5:shift 6:plan 7:able 8:shut 9:kept 10:late 11:ill 12:due 13:told 14:call -/
def s_law_1 (C : CallT) : BS :=
    (sIf (bOr (bNot (asTst (asArg (vCall C 35 4 0 [0, 1, 2, 3] [] (mCons (asArg (vVar 6)) (mCons (asArg (vVar 7)) (mCons (asArg (vVar 8)) (mCons (asArg (vFz (v2 (binT .add) (aRef 3) (asArg (vLst (lCons (vCst (.str "zoe")) lNil)))))) mNil)))) mNil)))) (asTst (asArg (v2 (cmpT .ne) (asArg (v1 reprG (asArg (vLst (lCons (vVar 6) (lCons (vVar 7) (lCons (vVar 8) lNil))))))) (aRef 9))))) (sRet (vCst (.bool false))) sNil)
def t_law_1 (C : CallT) : BS :=
    (sExpr (vMmV .append (vSub (asArg (vMov 14)) (asArg (vCst (.int 2)))) (lCons (vCst (.str "more")) lNil)))
def l_law_1 (C : CallT) : BS :=
    (sFor (.nm 14) (lIts (vMov 13)) (t_law_1 C))
def t_law_2 (C : CallT) : BS :=
    (sSeq (sAsg (.nm 11) (vFz (v1 srtG (asArg (vSlc (asArg (vCall C 23 2 0 [0, 1] [] (mCons (aRef 1) (mCons (asArg (vFz (v2 (binT .add) (aRef 3) (asArg (vLst (lCons (vCst (.str "zed")) lNil)))))) mNil)) mNil)) oNone (oSome (asArg (vCall C 20 2 0 [0, 1] [] (mCons (aRef 1) (mCons (asArg (vCst (.int 4))) mNil)) mNil))))))))
    (sSeq (sPar 12 13 (lCons (vCall C 32 4 0 [0, 1, 2, 3] [] (mCons (asArg (vVar 6)) (mCons (asArg (vVar 7)) (mCons (asArg (vVar 8)) (mCons (asArg (vVar 11)) mNil)))) mNil) (lCons (vCall C 14 4 0 [0, 1, 2, 3] [] (mCons (asArg (vVar 6)) (mCons (asArg (vVar 7)) (mCons (asArg (vVar 8)) (mCons (asArg (vVar 11)) mNil)))) mNil) lNil)))
    (sSeq (sIf (bNot (asTst (asArg (vPure (vCall C 24 2 0 [0, 1] [] (mCons (asArg (vFz (vLst (lCons (vVar 12) (lCons (vVar 12) lNil))))) (mCons (asArg (vFz (vLst (lCons (vVar 13) (lCons (vFz (vCall C 14 0 4 [3, 2, 1, 0] [] mNil (mCons (asArg (vVar 11)) (mCons (asArg (vVar 8)) (mCons (asArg (vVar 7)) (mCons (asArg (vVar 6)) mNil)))))) lNil))))) mNil)) mNil))))) (sRet (vCst (.bool false))) sNil)
    (sSeq (l_law_1 C)
    (sIf (bNot (asTst (asArg (vCall C 24 2 0 [0, 1] [] (mCons (asArg (vVar 12)) (mCons (asArg (vFz (vCall C 14 4 0 [0, 1, 2, 3] [] (mCons (asArg (vVar 6)) (mCons (asArg (vVar 7)) (mCons (asArg (vVar 8)) (mCons (asArg (vVar 11)) mNil)))) mNil))) mNil)) mNil)))) (sRet (vCst (.bool false))) sNil)))))
def l_law_2 (C : CallT) : BS :=
    (sFor (.nm 10) (lRng1 (asArg (vCst (.int 3)))) (t_law_2 C))
def s_law_2 (C : CallT) : BS :=
    (l_law_2 C)
def s_law_3 (C : CallT) : BS :=
    (sAsg (.nm 9) (v1 reprG (asArg (vLst (lCons (vVar 6) (lCons (vVar 7) (lCons (vVar 8) lNil)))))))
def s_law_4 (C : CallT) : BS :=
    (sPar 7 8 (lCons (vCall C 27 3 0 [0, 1, 2] [] (mCons (aRef 1) (mCons (asArg (vVar 6)) (mCons (asArg (vFz (v2 (binT .add) (aRef 3) (asArg (vLst (lCons (vCst (.str "zoe")) lNil)))))) mNil))) mNil) (lCons (vCall C 28 3 0 [0, 1, 2] [] (mCons (aRef 1) (mCons (asArg (vFz (v2 (binT .add) (aRef 3) (asArg (vLst (lCons (vCst (.str "zoe")) lNil)))))) (mCons (asArg (vFz (v2 (binT .add) (aRef 4) (aRef 5)))) mNil))) mNil) lNil)))
def s_law_5 (C : CallT) : BS :=
    (sAsg (.nm 6) (vCall C 26 2 0 [0, 1] [] (mCons (asArg (vVar 6)) (mCons (asArg (vVar 5)) mNil)) mNil))
def s_law_6 (C : CallT) : BS :=
    (sAsg (.nm 6) (vCall C 25 5 0 [0, 1, 2, 3, 4] [] (mCons (aRef 1) (mCons (asArg (vFz (vLst (lCons (vCst (.str "a")) (lCons (vCst (.str "ab")) (lCons (vCst (.str "b")) (lCons (vCst (.str "c")) lNil))))))) (mCons (asArg (vVar 3)) (mCons (asArg (vVar 4)) (mCons (asArg (vCall C 22 2 0 [0, 1] [] (mCons (aRef 1) (mCons (asArg (vFz (vLst (lCons (vCst (.int 0)) (lCons (vCst (.int 3)) (lCons (vCst (.int 9)) (lCons (vCst (.int 20)) lNil))))))) mNil)) mNil)) mNil))))) mNil))
def s_law_7 (C : CallT) : BS :=
    (sAsg (.nm 5) (vCall C 22 2 0 [0, 1] [] (mCons (aRef 1) (mCons (asArg (vFz (vLst (lCons (vCst (.int 0)) (lCons (vCst (.int 0)) (lCons (vCst (.int 6)) lNil)))))) mNil)) mNil))
def s_law_8 (C : CallT) : BS :=
    (sAsg (.nm 4) (v2 (binT .add) (asArg (vCst (.int 1))) (asArg (vCall C 20 2 0 [0, 1] [] (mCons (aRef 1) (mCons (asArg (vCst (.int 6))) mNil)) mNil))))
def s_law_9 (C : CallT) : BS :=
    (sAsg (.nm 3) (vCall C 22 2 0 [0, 1] [] (mCons (aRef 1) (mCons (asArg (vFz (vLst (lCons (vFz (vLst (lCons (vCst (.str "a")) (lCons (vCst (.str "v")) (lCons (vCst (.str "w")) (lCons (vCst (.str "x")) (lCons (vCst (.str "y")) lNil))))))) (lCons (vFz (vLst (lCons (vCst (.str "a")) (lCons (vCst (.str "az")) (lCons (vCst (.str "b")) (lCons (vCst (.str "ba")) (lCons (vCst (.str "zz")) lNil))))))) lNil))))) mNil)) mNil))
def t_law_3 (C : CallT) : BS :=
    (sSeq (s_law_9 C)
    (sSeq (s_law_8 C)
    (sSeq (s_law_7 C)
    (sSeq (s_law_6 C)
    (sSeq (s_law_5 C)
    (sSeq (s_law_4 C)
    (sSeq (s_law_3 C)
    (sSeq (s_law_2 C)
    (s_law_1 C)))))))))
def l_law_3 (C : CallT) : BS :=
    (sFor (.nm 2) (lRng1 (asArg (vCst (.int 2)))) (t_law_3 C))
def t_law_4 (C : CallT) : BS :=
    (l_law_3 C)
def l_law_4 (C : CallT) : BS :=
    (sFor (.nm 1) (lIts (vCall C 21 2 0 [0, 1] [] (mCons (aRef 0) (mCons (asArg (vCst (.int 3))) mNil)) mNil)) (t_law_4 C))
def m_law (C : CallT) : BS :=
    (sSeq (l_law_4 C)
    (sSeq (sAsg (.nm 6) (vFz (vDsp [((vTup (lCons (vCst (.str "a")) (lCons (vCst (.str "ann")) lNil))), (vFz (vLst (lCons (vCst (.int 0)) (lCons (vCst (.int 2)) lNil))))), ((vTup (lCons (vCst (.str "a")) (lCons (vCst (.str "bob")) lNil))), (vFz (vLst (lCons (vCst (.int 1)) lNil)))), ((vTup (lCons (vCst (.str "b")) (lCons (vCst (.str "bob")) lNil))), (vFz (vLst (lCons (vCst (.int 0)) lNil)))), ((vTup (lCons (vCst (.str "b")) (lCons (vCst (.str "cid")) lNil))), (vFz (vLst (lCons (vCst (.int 1)) (lCons (vCst (.int 2)) lNil)))))])))
    (sSeq (sAsg (.nm 7) (vFz (vDsp [((vCst (.str "a")), (vFz (vLst (lCons (vCst (.str "ann")) (lCons (vCst (.str "bob")) (lCons (vCst (.str "cid")) (lCons (vCst (.str "dan")) lNil))))))), ((vCst (.str "b")), (vFz (vLst (lCons (vCst (.str "ann")) (lCons (vCst (.str "dan")) lNil)))))])))
    (sSeq (sAsg (.nm 13) (vLst (lCons (vCall C 15 3 0 [0, 1, 2] [] (mCons (asArg (vVar 6)) (mCons (asArg (vVar 7)) (mCons (asArg (vFz vD0)) mNil))) mNil) (lCons (vCall C 16 3 0 [0, 1, 2] [] (mCons (asArg (vVar 6)) (mCons (asArg (vVar 7)) (mCons (asArg (vFz vD0)) mNil))) mNil) (lCons (vCall C 17 3 0 [0, 1, 2] [] (mCons (asArg (vFz vD0)) (mCons (asArg (vFz vD0)) (mCons (asArg (vFz vD0)) mNil))) mNil) lNil)))))
    (sRet (vPure (vCall C 24 2 0 [0, 1] [] (mCons (asArg (vFz (vLst (lCons (vCst (.int 1)) (lCons (vFz (vLst (lCons (vTup (lCons (vCst (.int 0)) (lCons (vCst (.str "b")) lNil))) (lCons (vTup (lCons (vCst (.int 2)) (lCons (vCst (.str "b")) lNil))) lNil)))) (lCons (vCst .none) lNil)))))) (mCons (asArg (vVar 13)) mNil)) mNil)))))))
def D_law : Df := ⟨["script"], ["script", "purse", "spin", "teachers", "many", "shift", "plan", "able", "shut", "kept", "late", "ill", "due", "told", "call"], [1, 2, 3, 4, 5, 6, 7, 8, 9, 10, 11, 12, 13, 14], m_law⟩
def tab : List Df := [D_is_whole, D_is_count, D_is_word, D_is_tuple_of, D_do_ascend, D_are_hours, D_is_pair_of_words, D_lessons_of, D_is_clashless, D_is_sound_there, D_are_words, D_check_staff, D_is_shut_there, D_free_able, D_calls_when, D_safe_number, D_weakest_lessons, D_ill_beyond, D_law_purse, D_law_mixed, D_law_draw, D_law_purses, D_law_one_of, D_law_shuffled, D_law_exact, D_law_plan, D_law_late_hours, D_law_able, D_law_shut, D_law_busy, D_law_free, D_law_lessons, D_law_calls, D_law_can_all, D_law_lists, D_law_safe_right, D_law]
end K70
end
section
namespace K70
open PySem PySem.Spec PyProof.Rows L2 SW
theorem b_is_whole_1 {K : PySem.W.Frag} {f : Addr} {fd : FuncData} (F : FunD K "is_whole" "is_whole" (defArgs (top 5)) (defBody (top 5)) (defScope (top 5)) [] [] f fd) : Bnd K fd ["value"] 1 [] [0] [] :=
  bnd_all F 1 [] [0] (by decide) rfl (fun kV doc pm an cdv ct us ws l1 l2 => by
    match us, l1 with
    | [u0], _ =>
      match ws, l2 with
      | [], _ => rfl)
theorem b_is_count_1 {K : PySem.W.Frag} {f : Addr} {fd : FuncData} (F : FunD K "is_count" "is_count" (defArgs (top 6)) (defBody (top 6)) (defScope (top 6)) [.int 0] [] f fd) : Bnd K fd ["value", "least"] 1 [] [0, 1] [(.int 0)] :=
  bnd_dfl F 1 [] [0, 1] [(.int 0)] 0 (by decide) rfl rfl (by decide) rfl (fun T kV doc pm an cdv ct us ws its l1 l2 l3 => by
    match us, l1 with
    | [u0], _ =>
      match ws, l2 with
      | [], _ =>
        match its, l3 with
        | [i0], _ => exact ⟨_, rfl, rfl⟩)
theorem b_do_ascend_1 {K : PySem.W.Frag} {f : Addr} {fd : FuncData} (F : FunD K "do_ascend" "do_ascend" (defArgs (top 10)) (defBody (top 10)) (defScope (top 10)) [] [] f fd) : Bnd K fd ["items"] 1 [] [0] [] :=
  bnd_all F 1 [] [0] (by decide) rfl (fun kV doc pm an cdv ct us ws l1 l2 => by
    match us, l1 with
    | [u0], _ =>
      match ws, l2 with
      | [], _ => rfl)
theorem b_is_tuple_of_2 {K : PySem.W.Frag} {f : Addr} {fd : FuncData} (F : FunD K "is_tuple_of" "is_tuple_of" (defArgs (top 8)) (defBody (top 8)) (defScope (top 8)) [] [] f fd) : Bnd K fd ["value", "size"] 2 [] [0, 1] [] :=
  bnd_all F 2 [] [0, 1] (by decide) rfl (fun kV doc pm an cdv ct us ws l1 l2 => by
    match us, l1 with
    | [u0, u1], _ =>
      match ws, l2 with
      | [], _ => rfl)
theorem b_is_word_1 {K : PySem.W.Frag} {f : Addr} {fd : FuncData} (F : FunD K "is_word" "is_word" (defArgs (top 7)) (defBody (top 7)) (defScope (top 7)) [] [] f fd) : Bnd K fd ["value"] 1 [] [0] [] :=
  bnd_all F 1 [] [0] (by decide) rfl (fun kV doc pm an cdv ct us ws l1 l2 => by
    match us, l1 with
    | [u0], _ =>
      match ws, l2 with
      | [], _ => rfl)
theorem b_lessons_of_1 {K : PySem.W.Frag} {f : Addr} {fd : FuncData} (F : FunD K "lessons_of" "lessons_of" (defArgs (top 13)) (defBody (top 13)) (defScope (top 13)) [] [] f fd) : Bnd K fd ["plan"] 1 [] [0] [] :=
  bnd_all F 1 [] [0] (by decide) rfl (fun kV doc pm an cdv ct us ws l1 l2 => by
    match us, l1 with
    | [u0], _ =>
      match ws, l2 with
      | [], _ => rfl)
theorem b_is_clashless_1 {K : PySem.W.Frag} {f : Addr} {fd : FuncData} (F : FunD K "is_clashless" "is_clashless" (defArgs (top 14)) (defBody (top 14)) (defScope (top 14)) [] [] f fd) : Bnd K fd ["plan"] 1 [] [0] [] :=
  bnd_all F 1 [] [0] (by decide) rfl (fun kV doc pm an cdv ct us ws l1 l2 => by
    match us, l1 with
    | [u0], _ =>
      match ws, l2 with
      | [], _ => rfl)
theorem b_are_hours_1 {K : PySem.W.Frag} {f : Addr} {fd : FuncData} (F : FunD K "are_hours" "are_hours" (defArgs (top 11)) (defBody (top 11)) (defScope (top 11)) [] [] f fd) : Bnd K fd ["value"] 1 [] [0] [] :=
  bnd_all F 1 [] [0] (by decide) rfl (fun kV doc pm an cdv ct us ws l1 l2 => by
    match us, l1 with
    | [u0], _ =>
      match ws, l2 with
      | [], _ => rfl)
theorem b_is_pair_of_words_1 {K : PySem.W.Frag} {f : Addr} {fd : FuncData} (F : FunD K "is_pair_of_words" "is_pair_of_words" (defArgs (top 12)) (defBody (top 12)) (defScope (top 12)) [] [] f fd) : Bnd K fd ["value"] 1 [] [0] [] :=
  bnd_all F 1 [] [0] (by decide) rfl (fun kV doc pm an cdv ct us ws l1 l2 => by
    match us, l1 with
    | [u0], _ =>
      match ws, l2 with
      | [], _ => rfl)
theorem b_is_shut_there_1 {K : PySem.W.Frag} {f : Addr} {fd : FuncData} (F : FunD K "is_shut_there" "is_shut_there" (defArgs (top 22)) (defBody (top 22)) (defScope (top 22)) [] [] f fd) : Bnd K fd ["value"] 1 [] [0] [] :=
  bnd_all F 1 [] [0] (by decide) rfl (fun kV doc pm an cdv ct us ws l1 l2 => by
    match us, l1 with
    | [u0], _ =>
      match ws, l2 with
      | [], _ => rfl)
theorem b_are_words_1 {K : PySem.W.Frag} {f : Addr} {fd : FuncData} (F : FunD K "are_words" "are_words" (defArgs (top 20)) (defBody (top 20)) (defScope (top 20)) [] [] f fd) : Bnd K fd ["value"] 1 [] [0] [] :=
  bnd_all F 1 [] [0] (by decide) rfl (fun kV doc pm an cdv ct us ws l1 l2 => by
    match us, l1 with
    | [u0], _ =>
      match ws, l2 with
      | [], _ => rfl)
theorem b_is_sound_there_1 {K : PySem.W.Frag} {f : Addr} {fd : FuncData} (F : FunD K "is_sound_there" "is_sound_there" (defArgs (top 15)) (defBody (top 15)) (defScope (top 15)) [] [] f fd) : Bnd K fd ["value"] 1 [] [0] [] :=
  bnd_all F 1 [] [0] (by decide) rfl (fun kV doc pm an cdv ct us ws l1 l2 => by
    match us, l1 with
    | [u0], _ =>
      match ws, l2 with
      | [], _ => rfl)
theorem b_free_able_3 {K : PySem.W.Frag} {f : Addr} {fd : FuncData} (F : FunD K "free_able" "free_able" (defArgs (top 23)) (defBody (top 23)) (defScope (top 23)) [] [] f fd) : Bnd K fd ["plan", "able", "shut"] 3 [] [0, 1, 2] [] :=
  bnd_all F 3 [] [0, 1, 2] (by decide) rfl (fun kV doc pm an cdv ct us ws l1 l2 => by
    match us, l1 with
    | [u0, u1, u2], _ =>
      match ws, l2 with
      | [], _ => rfl)
theorem b_check_staff_3 {K : PySem.W.Frag} {f : Addr} {fd : FuncData} (F : FunD K "check_staff" "check_staff" (defArgs (top 21)) (defBody (top 21)) (defScope (top 21)) [] [] f fd) : Bnd K fd ["plan", "able", "shut"] 3 [] [0, 1, 2] [] :=
  bnd_all F 3 [] [0, 1, 2] (by decide) rfl (fun kV doc pm an cdv ct us ws l1 l2 => by
    match us, l1 with
    | [u0, u1, u2], _ =>
      match ws, l2 with
      | [], _ => rfl)
theorem b_safe_number_3 {K : PySem.W.Frag} {f : Addr} {fd : FuncData} (F : FunD K "safe_number" "safe_number" (defArgs (top 25)) (defBody (top 25)) (defScope (top 25)) [] [] f fd) : Bnd K fd ["plan", "able", "shut"] 3 [] [0, 1, 2] [] :=
  bnd_all F 3 [] [0, 1, 2] (by decide) rfl (fun kV doc pm an cdv ct us ws l1 l2 => by
    match us, l1 with
    | [u0, u1, u2], _ =>
      match ws, l2 with
      | [], _ => rfl)
theorem b_law_mixed_3 {K : PySem.W.Frag} {f : Addr} {fd : FuncData} (F : FunD K "_law_mixed" "_law_mixed" (defArgs (top 30)) (defBody (top 30)) (defScope (top 30)) [] [] f fd) : Bnd K fd ["seed", "spin", "at"] 3 [] [0, 1, 2] [] :=
  bnd_all F 3 [] [0, 1, 2] (by decide) rfl (fun kV doc pm an cdv ct us ws l1 l2 => by
    match us, l1 with
    | [u0, u1, u2], _ =>
      match ws, l2 with
      | [], _ => rfl)
theorem b_law_purse_2 {K : PySem.W.Frag} {f : Addr} {fd : FuncData} (F : FunD K "_law_purse" "_law_purse" (defArgs (top 29)) (defBody (top 29)) (defScope (top 29)) [] [] f fd) : Bnd K fd ["script", "at"] 2 [] [0, 1] [] :=
  bnd_all F 2 [] [0, 1] (by decide) rfl (fun kV doc pm an cdv ct us ws l1 l2 => by
    match us, l1 with
    | [u0, u1], _ =>
      match ws, l2 with
      | [], _ => rfl)
theorem b_law_draw_2 {K : PySem.W.Frag} {f : Addr} {fd : FuncData} (F : FunD K "_law_draw" "_law_draw" (defArgs (top 31)) (defBody (top 31)) (defScope (top 31)) [] [] f fd) : Bnd K fd ["purse", "many"] 2 [] [0, 1] [] :=
  bnd_all F 2 [] [0, 1] (by decide) rfl (fun kV doc pm an cdv ct us ws l1 l2 => by
    match us, l1 with
    | [u0, u1], _ =>
      match ws, l2 with
      | [], _ => rfl)
theorem b_law_exact_2 {K : PySem.W.Frag} {f : Addr} {fd : FuncData} (F : FunD K "_law_exact" "_law_exact" (defArgs (top 35)) (defBody (top 35)) (defScope (top 35)) [] [] f fd) : Bnd K fd ["mine", "theirs"] 2 [] [0, 1] [] :=
  bnd_all F 2 [] [0, 1] (by decide) rfl (fun kV doc pm an cdv ct us ws l1 l2 => by
    match us, l1 with
    | [u0, u1], _ =>
      match ws, l2 with
      | [], _ => rfl)
theorem b_law_one_of_2 {K : PySem.W.Frag} {f : Addr} {fd : FuncData} (F : FunD K "_law_one_of" "_law_one_of" (defArgs (top 33)) (defBody (top 33)) (defScope (top 33)) [] [] f fd) : Bnd K fd ["purse", "some"] 2 [] [0, 1] [] :=
  bnd_all F 2 [] [0, 1] (by decide) rfl (fun kV doc pm an cdv ct us ws l1 l2 => by
    match us, l1 with
    | [u0, u1], _ =>
      match ws, l2 with
      | [], _ => rfl)
theorem b_law_shuffled_2 {K : PySem.W.Frag} {f : Addr} {fd : FuncData} (F : FunD K "_law_shuffled" "_law_shuffled" (defArgs (top 34)) (defBody (top 34)) (defScope (top 34)) [] [] f fd) : Bnd K fd ["purse", "some"] 2 [] [0, 1] [] :=
  bnd_all F 2 [] [0, 1] (by decide) rfl (fun kV doc pm an cdv ct us ws l1 l2 => by
    match us, l1 with
    | [u0, u1], _ =>
      match ws, l2 with
      | [], _ => rfl)
theorem b_law_busy_3 {K : PySem.W.Frag} {f : Addr} {fd : FuncData} (F : FunD K "_law_busy" "_law_busy" (defArgs (top 40)) (defBody (top 40)) (defScope (top 40)) [] [] f fd) : Bnd K fd ["plan", "teacher", "hour"] 3 [] [0, 1, 2] [] :=
  bnd_all F 3 [] [0, 1, 2] (by decide) rfl (fun kV doc pm an cdv ct us ws l1 l2 => by
    match us, l1 with
    | [u0, u1, u2], _ =>
      match ws, l2 with
      | [], _ => rfl)
theorem b_law_lessons_1 {K : PySem.W.Frag} {f : Addr} {fd : FuncData} (F : FunD K "_law_lessons" "_law_lessons" (defArgs (top 42)) (defBody (top 42)) (defScope (top 42)) [] [] f fd) : Bnd K fd ["plan"] 1 [] [0] [] :=
  bnd_all F 1 [] [0] (by decide) rfl (fun kV doc pm an cdv ct us ws l1 l2 => by
    match us, l1 with
    | [u0], _ =>
      match ws, l2 with
      | [], _ => rfl)
theorem b_law_free_5 {K : PySem.W.Frag} {f : Addr} {fd : FuncData} (F : FunD K "_law_free" "_law_free" (defArgs (top 41)) (defBody (top 41)) (defScope (top 41)) [] [] f fd) : Bnd K fd ["plan", "able", "shut", "group", "hour"] 5 [] [0, 1, 2, 3, 4] [] :=
  bnd_all F 5 [] [0, 1, 2, 3, 4] (by decide) rfl (fun kV doc pm an cdv ct us ws l1 l2 => by
    match us, l1 with
    | [u0, u1, u2, u3, u4], _ =>
      match ws, l2 with
      | [], _ => rfl)
theorem b_weakest_lessons_3 {K : PySem.W.Frag} {f : Addr} {fd : FuncData} (F : FunD K "weakest_lessons" "weakest_lessons" (defArgs (top 26)) (defBody (top 26)) (defScope (top 26)) [] [] f fd) : Bnd K fd ["plan", "able", "shut"] 3 [] [0, 1, 2] [] :=
  bnd_all F 3 [] [0, 1, 2] (by decide) rfl (fun kV doc pm an cdv ct us ws l1 l2 => by
    match us, l1 with
    | [u0, u1, u2], _ =>
      match ws, l2 with
      | [], _ => rfl)
theorem b_law_calls_4 {K : PySem.W.Frag} {f : Addr} {fd : FuncData} (F : FunD K "_law_calls" "_law_calls" (defArgs (top 43)) (defBody (top 43)) (defScope (top 43)) [] [] f fd) : Bnd K fd ["plan", "able", "shut", "ill"] 4 [] [0, 1, 2, 3] [] :=
  bnd_all F 4 [] [0, 1, 2, 3] (by decide) rfl (fun kV doc pm an cdv ct us ws l1 l2 => by
    match us, l1 with
    | [u0, u1, u2, u3], _ =>
      match ws, l2 with
      | [], _ => rfl)
theorem b_law_can_all_1 {K : PySem.W.Frag} {f : Addr} {fd : FuncData} (F : FunD K "_law_can_all" "_law_can_all" (defArgs (top 44)) (defBody (top 44)) (defScope (top 44)) [] [] f fd) : Bnd K fd ["calls"] 1 [] [0] [] :=
  bnd_all F 1 [] [0] (by decide) rfl (fun kV doc pm an cdv ct us ws l1 l2 => by
    match us, l1 with
    | [u0], _ =>
      match ws, l2 with
      | [], _ => rfl)
theorem b_law_lists_2 {K : PySem.W.Frag} {f : Addr} {fd : FuncData} (F : FunD K "_law_lists" "_law_lists" (defArgs (top 45)) (defBody (top 45)) (defScope (top 45)) [] [] f fd) : Bnd K fd ["names", "most"] 2 [] [0, 1] [] :=
  bnd_all F 2 [] [0, 1] (by decide) rfl (fun kV doc pm an cdv ct us ws l1 l2 => by
    match us, l1 with
    | [u0, u1], _ =>
      match ws, l2 with
      | [], _ => rfl)
theorem b_ill_beyond_0_able_plan_shut {K : PySem.W.Frag} {f : Addr} {fd : FuncData} (F : FunD K "ill_beyond" "ill_beyond" (defArgs (top 27)) (defBody (top 27)) (defScope (top 27)) [] [] f fd) : Bnd K fd ["plan", "able", "shut"] 0 ["able", "plan", "shut"] [1, 0, 2] [] :=
  bnd_all F 0 ["able", "plan", "shut"] [1, 0, 2] (by decide) rfl (fun kV doc pm an cdv ct us ws l1 l2 => by
    match us, l1 with
    | [], _ =>
      match ws, l2 with
      | [w0, w1, w2], _ => rfl)
theorem b_weakest_lessons_0_shut_able_plan {K : PySem.W.Frag} {f : Addr} {fd : FuncData} (F : FunD K "weakest_lessons" "weakest_lessons" (defArgs (top 26)) (defBody (top 26)) (defScope (top 26)) [] [] f fd) : Bnd K fd ["plan", "able", "shut"] 0 ["shut", "able", "plan"] [2, 1, 0] [] :=
  bnd_all F 0 ["shut", "able", "plan"] [2, 1, 0] (by decide) rfl (fun kV doc pm an cdv ct us ws l1 l2 => by
    match us, l1 with
    | [], _ =>
      match ws, l2 with
      | [w0, w1, w2], _ => rfl)
theorem b_safe_number_0_shut_able_plan {K : PySem.W.Frag} {f : Addr} {fd : FuncData} (F : FunD K "safe_number" "safe_number" (defArgs (top 25)) (defBody (top 25)) (defScope (top 25)) [] [] f fd) : Bnd K fd ["plan", "able", "shut"] 0 ["shut", "able", "plan"] [2, 1, 0] [] :=
  bnd_all F 0 ["shut", "able", "plan"] [2, 1, 0] (by decide) rfl (fun kV doc pm an cdv ct us ws l1 l2 => by
    match us, l1 with
    | [], _ =>
      match ws, l2 with
      | [w0, w1, w2], _ => rfl)
theorem b_ill_beyond_3 {K : PySem.W.Frag} {f : Addr} {fd : FuncData} (F : FunD K "ill_beyond" "ill_beyond" (defArgs (top 27)) (defBody (top 27)) (defScope (top 27)) [] [] f fd) : Bnd K fd ["plan", "able", "shut"] 3 [] [0, 1, 2] [] :=
  bnd_all F 3 [] [0, 1, 2] (by decide) rfl (fun kV doc pm an cdv ct us ws l1 l2 => by
    match us, l1 with
    | [u0, u1, u2], _ =>
      match ws, l2 with
      | [], _ => rfl)
theorem b_law_purses_2 {K : PySem.W.Frag} {f : Addr} {fd : FuncData} (F : FunD K "_law_purses" "_law_purses" (defArgs (top 32)) (defBody (top 32)) (defScope (top 32)) [] [] f fd) : Bnd K fd ["script", "few"] 2 [] [0, 1] [] :=
  bnd_all F 2 [] [0, 1] (by decide) rfl (fun kV doc pm an cdv ct us ws l1 l2 => by
    match us, l1 with
    | [u0, u1], _ =>
      match ws, l2 with
      | [], _ => rfl)
theorem b_law_safe_right_4 {K : PySem.W.Frag} {f : Addr} {fd : FuncData} (F : FunD K "_law_safe_right" "_law_safe_right" (defArgs (top 46)) (defBody (top 46)) (defScope (top 46)) [] [] f fd) : Bnd K fd ["plan", "able", "shut", "teachers"] 4 [] [0, 1, 2, 3] [] :=
  bnd_all F 4 [] [0, 1, 2, 3] (by decide) rfl (fun kV doc pm an cdv ct us ws l1 l2 => by
    match us, l1 with
    | [u0, u1, u2, u3], _ =>
      match ws, l2 with
      | [], _ => rfl)
theorem b_calls_when_4 {K : PySem.W.Frag} {f : Addr} {fd : FuncData} (F : FunD K "calls_when" "calls_when" (defArgs (top 24)) (defBody (top 24)) (defScope (top 24)) [] [] f fd) : Bnd K fd ["plan", "able", "shut", "ill"] 4 [] [0, 1, 2, 3] [] :=
  bnd_all F 4 [] [0, 1, 2, 3] (by decide) rfl (fun kV doc pm an cdv ct us ws l1 l2 => by
    match us, l1 with
    | [u0, u1, u2, u3], _ =>
      match ws, l2 with
      | [], _ => rfl)
theorem b_calls_when_0_ill_shut_able_plan {K : PySem.W.Frag} {f : Addr} {fd : FuncData} (F : FunD K "calls_when" "calls_when" (defArgs (top 24)) (defBody (top 24)) (defScope (top 24)) [] [] f fd) : Bnd K fd ["plan", "able", "shut", "ill"] 0 ["ill", "shut", "able", "plan"] [3, 2, 1, 0] [] :=
  bnd_all F 0 ["ill", "shut", "able", "plan"] [3, 2, 1, 0] (by decide) rfl (fun kV doc pm an cdv ct us ws l1 l2 => by
    match us, l1 with
    | [], _ =>
      match ws, l2 with
      | [w0, w1, w2, w3], _ => rfl)
theorem b_law_able_3 {K : PySem.W.Frag} {f : Addr} {fd : FuncData} (F : FunD K "_law_able" "_law_able" (defArgs (top 38)) (defBody (top 38)) (defScope (top 38)) [] [] f fd) : Bnd K fd ["purse", "plan", "teachers"] 3 [] [0, 1, 2] [] :=
  bnd_all F 3 [] [0, 1, 2] (by decide) rfl (fun kV doc pm an cdv ct us ws l1 l2 => by
    match us, l1 with
    | [u0, u1, u2], _ =>
      match ws, l2 with
      | [], _ => rfl)
theorem b_law_shut_3 {K : PySem.W.Frag} {f : Addr} {fd : FuncData} (F : FunD K "_law_shut" "_law_shut" (defArgs (top 39)) (defBody (top 39)) (defScope (top 39)) [] [] f fd) : Bnd K fd ["purse", "teachers", "many"] 3 [] [0, 1, 2] [] :=
  bnd_all F 3 [] [0, 1, 2] (by decide) rfl (fun kV doc pm an cdv ct us ws l1 l2 => by
    match us, l1 with
    | [u0, u1, u2], _ =>
      match ws, l2 with
      | [], _ => rfl)
theorem b_law_late_hours_2 {K : PySem.W.Frag} {f : Addr} {fd : FuncData} (F : FunD K "_law_late_hours" "_law_late_hours" (defArgs (top 37)) (defBody (top 37)) (defScope (top 37)) [] [] f fd) : Bnd K fd ["plan", "shift"] 2 [] [0, 1] [] :=
  bnd_all F 2 [] [0, 1] (by decide) rfl (fun kV doc pm an cdv ct us ws l1 l2 => by
    match us, l1 with
    | [u0, u1], _ =>
      match ws, l2 with
      | [], _ => rfl)
theorem b_law_plan_5 {K : PySem.W.Frag} {f : Addr} {fd : FuncData} (F : FunD K "_law_plan" "_law_plan" (defArgs (top 36)) (defBody (top 36)) (defScope (top 36)) [] [] f fd) : Bnd K fd ["purse", "groups", "teachers", "many", "spins"] 5 [] [0, 1, 2, 3, 4] [] :=
  bnd_all F 5 [] [0, 1, 2, 3, 4] (by decide) rfl (fun kV doc pm an cdv ct us ws l1 l2 => by
    match us, l1 with
    | [u0, u1, u2, u3, u4], _ =>
      match ws, l2 with
      | [], _ => rfl)
end K70
end
section
namespace K70
open PySem PySem.Spec PyProof.Rows L2 SW
theorem st_is_whole {P : Program} {w : World} : Stp P w fa fn tab 0 (dd 0) D_is_whole := by
  refine ⟨⟨rfl, rfl, rfl, by decide, rfl, by decide +kernel, by decide +kernel⟩, ?_⟩
  intro K mg base k C E hC f cdv A outer s H hr hg
  have g := Gd.nox (P := P) (w := w) (K := K) (mg := mg) (base := base) (outer := outer) (H := H) hr hg (N := ["value"]) (by decide) E.sms
  show PSs _ (dd 0).body (tW [] (m_is_whole C))
  unfold m_is_whole
  exact (ss_one (s_ret (pe_andV (pe_isi .int (by rfl) (E.free 41) (by rfl) (pa_name (i := 0) (by rfl) (.inl (by rfl))) (by rfl) (E.free 40) (by rfl)) (pe_oneV (pe_notV (pe_isi .bool (by rfl) (E.free 41) (by rfl) (pa_name (i := 0) (by rfl) (.inl (by rfl))) (by rfl) (E.free 38) (by rfl)))))))
theorem st_is_count {P : Program} {w : World} : Stp P w fa fn tab 1 (dd 1) D_is_count := by
  refine ⟨⟨rfl, rfl, rfl, by decide, rfl, by decide +kernel, by decide +kernel⟩, ?_⟩
  intro K mg base k C E hC f cdv A outer s H hr hg
  have g := Gd.nox (P := P) (w := w) (K := K) (mg := mg) (base := base) (outer := outer) (H := H) hr hg (N := ["value", "least"]) (by decide) E.sms
  obtain ⟨fd0, F0, G0⟩ := fn_get E hC 0 rfl (D := D_is_whole) rfl
  show PSs _ (dd 1).body (tW [] (m_is_count C))
  unfold m_is_count
  exact (ss_one (s_ret (pe_andV (pe_def (ks := []) G0 (by exact g.room) (by exact g.gd) (by rfl) (E.glo 0) F0.kp (b_is_whole_1 F0) (pm_cons (pe_arg (pe_name (i := 0) (by rfl) (.inl (by rfl)))) pm_nil) pk_nilM) (pe_oneV (pe_cmp' .ge (by exact g.u) (pa_name (i := 0) (by rfl) (.inl (by rfl))) (pe_arg (pe_b2 (cr_max2 (by exact g.calm)) (by rfl) (E.free 44) (by rfl) (pa_name (i := 1) (by rfl) (.inl (by rfl))) (pe_arg (pe_cInt (j := 0))))))))))
theorem st_is_word {P : Program} {w : World} : Stp P w fa fn tab 2 (dd 2) D_is_word := by
  refine ⟨⟨rfl, rfl, rfl, by decide, rfl, by decide +kernel, by decide +kernel⟩, ?_⟩
  intro K mg base k C E hC f cdv A outer s H hr hg
  have g := Gd.nox (P := P) (w := w) (K := K) (mg := mg) (base := base) (outer := outer) (H := H) hr hg (N := ["value", "sign"]) (by decide) E.sms
  show PSs _ (dd 2).body (tW [] (m_is_word C))
  unfold m_is_word
  unfold c_is_word_1
  exact (ss_one (s_ret (pe_andV (pe_isi .str (by rfl) (E.free 41) (by rfl) (pa_name (i := 0) (by rfl) (.inl (by rfl))) (by rfl) (E.free 50) (by rfl)) (pe_andV (pe_cmp3 .lt .lt (by exact g.u) (pe_arg (pe_cInt (j := 0))) (pe_arg (pe_b1 cr_len (by rfl) (E.free 42) (by rfl) (pa_name (i := 0) (by rfl) (.inl (by rfl))))) (pe_arg (pe_cInt (j := 0)))) (pe_oneV (pe_b1 (cr_all' (by exact g.calm)) (by rfl) (E.free 37) (by rfl) (pe_arg (pe_comp (by exact g.calm) (by exact g.nd) (pi_val (pe_name (i := 0) (by rfl) (.inl (by rfl)))) (own := [("sign", 1)]) (blkOk_by (by rfl)) (fun s H C cl fp => (g_name (i := 1) (by exact g.nd) (by rfl) (.inl (by rfl)))) (fun s H C cl fp => pts_none) (fun s H C cl fp => (pe_cmp3 .le .le (by exact g.u) (pe_arg pe_cStr) (pa_name (i := 1) (by rfl) (.inl (by rfl))) (pe_arg pe_cStr))) (by decide)))))))))
theorem st_is_tuple_of {P : Program} {w : World} : Stp P w fa fn tab 3 (dd 3) D_is_tuple_of := by
  refine ⟨⟨rfl, rfl, rfl, by decide, rfl, by decide +kernel, by decide +kernel⟩, ?_⟩
  intro K mg base k C E hC f cdv A outer s H hr hg
  have g := Gd.nox (P := P) (w := w) (K := K) (mg := mg) (base := base) (outer := outer) (H := H) hr hg (N := ["value", "size"]) (by decide) E.sms
  show PSs _ (dd 3).body (tW [] (m_is_tuple_of C))
  unfold m_is_tuple_of
  exact (ss_one (s_ret (pe_andV (pe_isi .tuple (by rfl) (E.free 41) (by rfl) (pa_name (i := 0) (by rfl) (.inl (by rfl))) (by rfl) (E.free 52) (by rfl)) (pe_oneV (pe_cmp' .eq (by exact g.u) (pe_arg (pe_b1 cr_len (by rfl) (E.free 42) (by rfl) (pa_name (i := 0) (by rfl) (.inl (by rfl))))) (pa_name (i := 1) (by rfl) (.inl (by rfl))))))))
theorem st_do_ascend {P : Program} {w : World} : Stp P w fa fn tab 4 (dd 4) D_do_ascend := by
  refine ⟨⟨rfl, rfl, rfl, by decide, rfl, by decide +kernel, by decide +kernel⟩, ?_⟩
  intro K mg base k C E hC f cdv A outer s H hr hg
  have g := Gd.nox (P := P) (w := w) (K := K) (mg := mg) (base := base) (outer := outer) (H := H) hr hg (N := ["items", "one", "other"]) (by decide) E.sms
  show PSs _ (dd 4).body (tW [] (m_do_ascend C))
  unfold m_do_ascend
  unfold c_do_ascend_1
  exact (ss_one (s_ret (pe_b1 (cr_all' (by exact g.calm)) (by rfl) (E.free 37) (by rfl) (pe_arg (pe_comp (by exact g.calm) (by exact g.nd) (pi_zp (by rfl) (E.free 53) (pe_name (i := 0) (by rfl) (.inl (by rfl))) (pe_fz (pe_slc (pa_name (i := 0) (by rfl) (.inl (by rfl))) (po_yes (pe_arg (pe_cInt (j := 0)))) po_no))) (own := [("one", 1), ("other", 2)]) (blkOk_by (by rfl)) (fun s H C cl fp => (g_tup (by exact g.calm) (gs_cons (g_name (i := 1) (by exact g.nd) (by rfl) (.inl (by rfl))) (gs_cons (g_name (i := 2) (by exact g.nd) (by rfl) (.inl (by rfl))) gs_nil)))) (fun s H C cl fp => pts_none) (fun s H C cl fp => (pe_cmp' .lt (by exact g.u) (pa_name (i := 1) (by rfl) (.inl (by rfl))) (pa_name (i := 2) (by rfl) (.inl (by rfl))))) (by decide))))))
theorem st_are_hours {P : Program} {w : World} : Stp P w fa fn tab 5 (dd 5) D_are_hours := by
  refine ⟨⟨rfl, rfl, rfl, by decide, rfl, by decide +kernel, by decide +kernel⟩, ?_⟩
  intro K mg base k C E hC f cdv A outer s H hr hg
  have g := Gd.nox (P := P) (w := w) (K := K) (mg := mg) (base := base) (outer := outer) (H := H) hr hg (N := ["value", "hour"]) (by decide) E.sms
  obtain ⟨fd1, F1, G1⟩ := fn_get E hC 1 rfl (D := D_is_count) rfl
  obtain ⟨fd4, F4, G4⟩ := fn_get E hC 4 rfl (D := D_do_ascend) rfl
  show PSs _ (dd 5).body (tW [] (m_are_hours C))
  unfold m_are_hours
  unfold c_are_hours_1
  exact (ss_one (s_ret (pe_andV (pe_isi .list (by rfl) (E.free 41) (by rfl) (pa_name (i := 0) (by rfl) (.inl (by rfl))) (by rfl) (E.free 43) (by rfl)) (pe_andV (pe_b1 (cr_all' (by exact g.calm)) (by rfl) (E.free 37) (by rfl) (pe_arg (pe_comp (by exact g.calm) (by exact g.nd) (pi_val (pe_name (i := 0) (by rfl) (.inl (by rfl)))) (own := [("hour", 1)]) (blkOk_by (by rfl)) (fun s H C cl fp => (g_name (i := 1) (by exact g.nd) (by rfl) (.inl (by rfl)))) (fun s H C cl fp => pts_none) (fun s H C cl fp => (pe_def (ks := []) G1 (by exact g.room) (by exact g.gd) (by rfl) (E.glo 1) F1.kp (b_is_count_1 F1) (pm_cons (pe_arg (pe_name (i := 1) (by rfl) (.inl (by rfl)))) pm_nil) pk_nilM)) (by decide)))) (pe_oneV (pe_def (ks := []) G4 (by exact g.room) (by exact g.gd) (by rfl) (E.glo 4) F4.kp (b_do_ascend_1 F4) (pm_cons (pe_arg (pe_name (i := 0) (by rfl) (.inl (by rfl)))) pm_nil) pk_nilM))))))
theorem st_is_pair_of_words {P : Program} {w : World} : Stp P w fa fn tab 6 (dd 6) D_is_pair_of_words := by
  refine ⟨⟨rfl, rfl, rfl, by decide, rfl, by decide +kernel, by decide +kernel⟩, ?_⟩
  intro K mg base k C E hC f cdv A outer s H hr hg
  have g := Gd.nox (P := P) (w := w) (K := K) (mg := mg) (base := base) (outer := outer) (H := H) hr hg (N := ["value"]) (by decide) E.sms
  obtain ⟨fd3, F3, G3⟩ := fn_get E hC 3 rfl (D := D_is_tuple_of) rfl
  obtain ⟨fd2, F2, G2⟩ := fn_get E hC 2 rfl (D := D_is_word) rfl
  show PSs _ (dd 6).body (tW [] (m_is_pair_of_words C))
  unfold m_is_pair_of_words
  exact (ss_one (s_ret (pe_andV (pe_def (ks := []) G3 (by exact g.room) (by exact g.gd) (by rfl) (E.glo 3) F3.kp (b_is_tuple_of_2 F3) (pm_cons (pe_arg (pe_name (i := 0) (by rfl) (.inl (by rfl)))) (pm_cons (pe_arg (pe_cInt (j := 0))) pm_nil)) pk_nilM) (pe_andV (pe_def (ks := []) G2 (by exact g.room) (by exact g.gd) (by rfl) (E.glo 2) F2.kp (b_is_word_1 F2) (pm_cons (pe_arg (pe_sub (by exact g.u1) (pa_name (i := 0) (by rfl) (.inl (by rfl))) (pe_arg (pe_cInt (j := 0))))) pm_nil) pk_nilM) (pe_oneV (pe_def (ks := []) G2 (by exact g.room) (by exact g.gd) (by rfl) (E.glo 2) F2.kp (b_is_word_1 F2) (pm_cons (pe_arg (pe_sub (by exact g.u1) (pa_name (i := 0) (by rfl) (.inl (by rfl))) (pe_arg (pe_cInt (j := 0))))) pm_nil) pk_nilM))))))
theorem st_lessons_of {P : Program} {w : World} : Stp P w fa fn tab 7 (dd 7) D_lessons_of := by
  refine ⟨⟨rfl, rfl, rfl, by decide, rfl, by decide +kernel, by decide +kernel⟩, ?_⟩
  intro K mg base k C E hC f cdv A outer s H hr hg
  have g := Gd.nox (P := P) (w := w) (K := K) (mg := mg) (base := base) (outer := outer) (H := H) hr hg (N := ["plan", "pair", "hours", "hour"]) (by decide) E.sms
  show PSs _ (dd 7).body (tW [] (m_lessons_of C))
  unfold m_lessons_of
  unfold c_lessons_of_1
  exact (ss_one (s_ret (pe_fz (pe_b1 (cr_sort (by exact g.u)) (by rfl) (E.free 49) (by rfl) (pe_arg (pe_lcm (by exact g.calm) (by exact g.nd) (pi_di (pe_name (i := 0) (by rfl) (.inl (by rfl)))) (own := [("pair", 1), ("hours", 2), ("hour", 3)]) (blkOk_by (by rfl)) (ws := [3]) (by decide) (fun s H C cl fp => (g_tup (by exact g.calm) (gs_cons (g_name (i := 1) (by exact g.nd) (by rfl) (.inl (by rfl))) (gs_cons (g_name (i := 2) (by exact g.nd) (by rfl) (.inl (by rfl))) gs_nil)))) (fun s H C cl fp => pts_none) (fun s H C cl fp => (pi_val (pe_name (i := 2) (by rfl) (.inl (by rfl))))) (fun s H C cl fp => (g_name (i := 3) (by exact g.nd) (by rfl) (.inl (by rfl)))) (fun s H C cl fp => pts_none) (fun s H C cl fp => (pe_tupD (pl_cons (pe_name (i := 3) (by rfl) (.inl (by rfl))) (pl_cons (pe_sub (by exact g.u1) (pa_name (i := 1) (by rfl) (.inl (by rfl))) (pe_arg (pe_cInt (j := 0)))) (pl_cons (pe_sub (by exact g.u1) (pa_name (i := 1) (by rfl) (.inl (by rfl))) (pe_arg (pe_cInt (j := 0)))) pl_nil))))) (by decide) (by decide)))))))
theorem st_is_clashless {P : Program} {w : World} : Stp P w fa fn tab 8 (dd 8) D_is_clashless := by
  refine ⟨⟨rfl, rfl, rfl, by decide, rfl, by decide +kernel, by decide +kernel⟩, ?_⟩
  intro K mg base k C E hC f cdv A outer s H hr hg
  have g := Gd.nox (P := P) (w := w) (K := K) (mg := mg) (base := base) (outer := outer) (H := H) hr hg (N := ["plan", "lessons", "groups", "teachers", "hour", "group", "teacher"]) (by decide) E.sms
  obtain ⟨fd7, F7, G7⟩ := fn_get E hC 7 rfl (D := D_lessons_of) rfl
  show PSs _ (dd 8).body (tW [1, 2, 3] (m_is_clashless C))
  unfold m_is_clashless
  unfold c_is_clashless_2
  unfold c_is_clashless_1
  exact (ss_cons (s_asg (pe_def (ks := []) G7 (by exact g.room) (by exact g.gd) (by rfl) (E.glo 7) F7.kp (b_lessons_of_1 F7) (pm_cons (pe_arg (pe_name (i := 0) (by rfl) (.inl (by rfl)))) pm_nil) pk_nilM) (g_name (i := 1) (by exact g.nd) (by rfl) (.inl (by rfl))) (by decide))
    (ss_cons (s_fz (s_dcm (i := 2) (by exact g.u1) (by exact g.calm) (by exact g.nd) (by rfl) (by rfl) (by decide) (sw_trueD (by rfl) (by rfl) (by rfl) (by rfl)) (pi_val (pe_name (i := 1) (by rfl) (.inl (by rfl)))) (own := [("hour", 4), ("group", 5), ("teacher", 6)]) (blkOk_by (by rfl)) (fun s H C cl fp => (g_tup (by exact g.calm) (gs_cons (g_name (i := 4) (by exact g.nd) (by rfl) (.inl (by rfl))) (gs_cons (g_name (i := 5) (by exact g.nd) (by rfl) (.inl (by rfl))) (gs_cons (g_name (i := 6) (by exact g.nd) (by rfl) (.inl (by rfl))) gs_nil))))) (fun s H C cl fp => pts_none) (fun s H C cl fp => (pe_tupD (pl_cons (pe_name (i := 4) (by rfl) (.inl (by rfl))) (pl_cons (pe_name (i := 5) (by rfl) (.inl (by rfl))) pl_nil)))) (fun s H C cl fp => pe_cBl) (by decide)))
    (ss_cons (s_fz (s_dcm (i := 3) (by exact g.u1) (by exact g.calm) (by exact g.nd) (by rfl) (by rfl) (by decide) (sw_trueD (by rfl) (by rfl) (by rfl) (by rfl)) (pi_val (pe_name (i := 1) (by rfl) (.inl (by rfl)))) (own := [("hour", 4), ("group", 5), ("teacher", 6)]) (blkOk_by (by rfl)) (fun s H C cl fp => (g_tup (by exact g.calm) (gs_cons (g_name (i := 4) (by exact g.nd) (by rfl) (.inl (by rfl))) (gs_cons (g_name (i := 5) (by exact g.nd) (by rfl) (.inl (by rfl))) (gs_cons (g_name (i := 6) (by exact g.nd) (by rfl) (.inl (by rfl))) gs_nil))))) (fun s H C cl fp => pts_none) (fun s H C cl fp => (pe_tupD (pl_cons (pe_name (i := 4) (by rfl) (.inl (by rfl))) (pl_cons (pe_name (i := 6) (by rfl) (.inl (by rfl))) pl_nil)))) (fun s H C cl fp => pe_cBl) (by decide)))
    (ss_one (s_ret (pe_andV (pe_cmp' .eq (by exact g.u) (pe_arg (pe_b1 cr_len (by rfl) (E.free 42) (by rfl) (pa_name (i := 2) (by rfl) (.inl (by rfl))))) (pe_arg (pe_b1 cr_len (by rfl) (E.free 42) (by rfl) (pa_name (i := 1) (by rfl) (.inl (by rfl)))))) (pe_oneV (pe_cmp' .eq (by exact g.u) (pe_arg (pe_b1 cr_len (by rfl) (E.free 42) (by rfl) (pa_name (i := 3) (by rfl) (.inl (by rfl))))) (pe_arg (pe_b1 cr_len (by rfl) (E.free 42) (by rfl) (pa_name (i := 1) (by rfl) (.inl (by rfl)))))))))))))
theorem st_is_sound_there {P : Program} {w : World} : Stp P w fa fn tab 9 (dd 9) D_is_sound_there := by
  refine ⟨⟨rfl, rfl, rfl, by decide, rfl, by decide +kernel, by decide +kernel⟩, ?_⟩
  intro K mg base k C E hC f cdv A outer s H hr hg
  have g := Gd.nox (P := P) (w := w) (K := K) (mg := mg) (base := base) (outer := outer) (H := H) hr hg (N := ["value", "hours", "pair"]) (by decide) E.sms
  obtain ⟨fd8, F8, G8⟩ := fn_get E hC 8 rfl (D := D_is_clashless) rfl
  obtain ⟨fd5, F5, G5⟩ := fn_get E hC 5 rfl (D := D_are_hours) rfl
  obtain ⟨fd6, F6, G6⟩ := fn_get E hC 6 rfl (D := D_is_pair_of_words) rfl
  show PSs _ (dd 9).body (tW [] (m_is_sound_there C))
  unfold m_is_sound_there
  unfold c_is_sound_there_2
  unfold c_is_sound_there_1
  exact (ss_cons (s_if (pt_w (pw_orB (pt_notB (pt_bool (pe_isi .dict (by rfl) (E.free 41) (by rfl) (pa_name (i := 0) (by rfl) (.inl (by rfl))) (by rfl) (E.free 39) (by rfl)))) (pw_or1B (pt_notB (pt_bool (pe_b1 (cr_all' (by exact g.calm)) (by rfl) (E.free 37) (by rfl) (pe_arg (pe_comp (by exact g.calm) (by exact g.nd) (pi_dk (pe_name (i := 0) (by rfl) (.inl (by rfl)))) (own := [("pair", 2)]) (blkOk_by (by rfl)) (fun s H C cl fp => (g_name (i := 2) (by exact g.nd) (by rfl) (.inl (by rfl)))) (fun s H C cl fp => pts_none) (fun s H C cl fp => (pe_def (ks := []) G6 (by exact g.room) (by exact g.gd) (by rfl) (E.glo 6) F6.kp (b_is_pair_of_words_1 F6) (pm_cons (pe_arg (pe_name (i := 2) (by rfl) (.inl (by rfl)))) pm_nil) pk_nilM)) (by decide))))))))) (ss_one (s_ret pe_cBl)) ss_nil)
    (ss_cons (s_if (pt_notB (pt_bool (pe_b1 (cr_all' (by exact g.calm)) (by rfl) (E.free 37) (by rfl) (pe_arg (pe_comp (by exact g.calm) (by exact g.nd) (pi_dv (pe_name (i := 0) (by rfl) (.inl (by rfl)))) (own := [("hours", 1)]) (blkOk_by (by rfl)) (fun s H C cl fp => (g_name (i := 1) (by exact g.nd) (by rfl) (.inl (by rfl)))) (fun s H C cl fp => pts_none) (fun s H C cl fp => (pe_andV (pe_def (ks := []) G5 (by exact g.room) (by exact g.gd) (by rfl) (E.glo 5) F5.kp (b_are_hours_1 F5) (pm_cons (pe_arg (pe_name (i := 1) (by rfl) (.inl (by rfl)))) pm_nil) pk_nilM) (pe_oneV (pe_cmp' .ne (by exact g.u) (pa_name (i := 1) (by rfl) (.inl (by rfl))) (pe_arg (pe_lstD pl_nil)))))) (by decide)))))) (ss_one (s_ret pe_cBl)) ss_nil)
    (ss_one (s_ret (pe_def (ks := []) G8 (by exact g.room) (by exact g.gd) (by rfl) (E.glo 8) F8.kp (b_is_clashless_1 F8) (pm_cons (pe_arg (pe_name (i := 0) (by rfl) (.inl (by rfl)))) pm_nil) pk_nilM)))))
theorem st_are_words {P : Program} {w : World} : Stp P w fa fn tab 10 (dd 10) D_are_words := by
  refine ⟨⟨rfl, rfl, rfl, by decide, rfl, by decide +kernel, by decide +kernel⟩, ?_⟩
  intro K mg base k C E hC f cdv A outer s H hr hg
  have g := Gd.nox (P := P) (w := w) (K := K) (mg := mg) (base := base) (outer := outer) (H := H) hr hg (N := ["value", "word"]) (by decide) E.sms
  obtain ⟨fd2, F2, G2⟩ := fn_get E hC 2 rfl (D := D_is_word) rfl
  obtain ⟨fd4, F4, G4⟩ := fn_get E hC 4 rfl (D := D_do_ascend) rfl
  show PSs _ (dd 10).body (tW [] (m_are_words C))
  unfold m_are_words
  unfold c_are_words_1
  exact (ss_one (s_ret (pe_andV (pe_isi .list (by rfl) (E.free 41) (by rfl) (pa_name (i := 0) (by rfl) (.inl (by rfl))) (by rfl) (E.free 43) (by rfl)) (pe_andV (pe_b1 (cr_all' (by exact g.calm)) (by rfl) (E.free 37) (by rfl) (pe_arg (pe_comp (by exact g.calm) (by exact g.nd) (pi_val (pe_name (i := 0) (by rfl) (.inl (by rfl)))) (own := [("word", 1)]) (blkOk_by (by rfl)) (fun s H C cl fp => (g_name (i := 1) (by exact g.nd) (by rfl) (.inl (by rfl)))) (fun s H C cl fp => pts_none) (fun s H C cl fp => (pe_def (ks := []) G2 (by exact g.room) (by exact g.gd) (by rfl) (E.glo 2) F2.kp (b_is_word_1 F2) (pm_cons (pe_arg (pe_name (i := 1) (by rfl) (.inl (by rfl)))) pm_nil) pk_nilM)) (by decide)))) (pe_oneV (pe_def (ks := []) G4 (by exact g.room) (by exact g.gd) (by rfl) (E.glo 4) F4.kp (b_do_ascend_1 F4) (pm_cons (pe_arg (pe_name (i := 0) (by rfl) (.inl (by rfl)))) pm_nil) pk_nilM))))))
theorem st_check_staff {P : Program} {w : World} : Stp P w fa fn tab 11 (dd 11) D_check_staff := by
  refine ⟨⟨rfl, rfl, rfl, by decide, rfl, by decide +kernel, by decide +kernel⟩, ?_⟩
  intro K mg base k C E hC f cdv A outer s H hr hg
  have g := Gd.nox (P := P) (w := w) (K := K) (mg := mg) (base := base) (outer := outer) (H := H) hr hg (N := ["plan", "able", "shut", "groups", "group", "teacher"]) (by decide) E.sms
  obtain ⟨fd12, F12, G12⟩ := fn_get E hC 12 rfl (D := D_is_shut_there) rfl
  obtain ⟨fd10, F10, G10⟩ := fn_get E hC 10 rfl (D := D_are_words) rfl
  obtain ⟨fd9, F9, G9⟩ := fn_get E hC 9 rfl (D := D_is_sound_there) rfl
  show PSs _ (dd 11).body (tW [3] (m_check_staff C))
  unfold m_check_staff
  unfold c_check_staff_3
  unfold c_check_staff_2
  unfold c_check_staff_1
  exact (ss_cons (s_if (pt_notB (pt_bool (pe_def (ks := []) G9 (by exact g.room) (by exact g.gd) (by rfl) (E.glo 9) F9.kp (b_is_sound_there_1 F9) (pm_cons (pe_arg (pe_name (i := 0) (by rfl) (.inl (by rfl)))) pm_nil) pk_nilM))) ss_never ss_nil)
    (ss_cons (s_fz (s_dcm (i := 3) (by exact g.u1) (by exact g.calm) (by exact g.nd) (by rfl) (by rfl) (by decide) (sw_trueD (by rfl) (by rfl) (by rfl) (by rfl)) (pi_dk (pe_name (i := 0) (by rfl) (.inl (by rfl)))) (own := [("group", 4), ("teacher", 5)]) (blkOk_by (by rfl)) (fun s H C cl fp => (g_tup (by exact g.calm) (gs_cons (g_name (i := 4) (by exact g.nd) (by rfl) (.inl (by rfl))) (gs_cons (g_name (i := 5) (by exact g.nd) (by rfl) (.inl (by rfl))) gs_nil)))) (fun s H C cl fp => pts_none) (fun s H C cl fp => (pe_name (i := 4) (by rfl) (.inl (by rfl)))) (fun s H C cl fp => pe_cBl) (by decide)))
    (ss_cons (s_if (pt_w (pw_orB (pt_notB (pt_bool (pe_isi .dict (by rfl) (E.free 41) (by rfl) (pa_name (i := 1) (by rfl) (.inr (.inl (by rfl)))) (by rfl) (E.free 39) (by rfl)))) (pw_orB (pt_cmpB .ne (by exact g.u) (pe_arg (pe_b1 cr_len (by rfl) (E.free 42) (by rfl) (pa_name (i := 1) (by rfl) (.inr (.inl (by rfl)))))) (pe_arg (pe_b1 cr_len (by rfl) (E.free 42) (by rfl) (pa_name (i := 3) (by rfl) (.inl (by rfl)))))) (pw_or1B (pt_notB (pt_bool (pe_b1 (cr_all' (by exact g.calm)) (by rfl) (E.free 37) (by rfl) (pe_arg (pe_comp (by exact g.calm) (by exact g.nd) (pi_dk (pe_name (i := 3) (by rfl) (.inl (by rfl)))) (own := [("group", 4)]) (blkOk_by (by rfl)) (fun s H C cl fp => (g_name (i := 4) (by exact g.nd) (by rfl) (.inl (by rfl)))) (fun s H C cl fp => pts_none) (fun s H C cl fp => (pe_cmp' .inn (by exact g.u) (pa_name (i := 4) (by rfl) (.inl (by rfl))) (pa_name (i := 1) (by rfl) (.inr (.inl (by rfl)))))) (by decide)))))))))) ss_never ss_nil)
    (ss_cons (s_if (pt_notB (pt_bool (pe_b1 (cr_all' (by exact g.calm)) (by rfl) (E.free 37) (by rfl) (pe_arg (pe_comp (by exact g.calm) (by exact g.nd) (pi_dk (pe_name (i := 3) (by rfl) (.inl (by rfl)))) (own := [("group", 4)]) (blkOk_by (by rfl)) (fun s H C cl fp => (g_name (i := 4) (by exact g.nd) (by rfl) (.inl (by rfl)))) (fun s H C cl fp => pts_none) (fun s H C cl fp => (pe_def (ks := []) G10 (by exact g.room) (by exact g.gd) (by rfl) (E.glo 10) F10.kp (b_are_words_1 F10) (pm_cons (pe_arg (pe_sub (by exact g.u1) (pa_name (i := 1) (by rfl) (.inr (.inl (by rfl)))) (pa_name (i := 4) (by rfl) (.inl (by rfl))))) pm_nil) pk_nilM)) (by decide)))))) ss_never ss_nil)
    (ss_one (s_if (pt_notB (pt_bool (pe_def (ks := []) G12 (by exact g.room) (by exact g.gd) (by rfl) (E.glo 12) F12.kp (b_is_shut_there_1 F12) (pm_cons (pe_arg (pe_name (i := 2) (by rfl) (.inl (by rfl)))) pm_nil) pk_nilM))) ss_never ss_nil))))))
theorem st_is_shut_there {P : Program} {w : World} : Stp P w fa fn tab 12 (dd 12) D_is_shut_there := by
  refine ⟨⟨rfl, rfl, rfl, by decide, rfl, by decide +kernel, by decide +kernel⟩, ?_⟩
  intro K mg base k C E hC f cdv A outer s H hr hg
  have g := Gd.nox (P := P) (w := w) (K := K) (mg := mg) (base := base) (outer := outer) (H := H) hr hg (N := ["value", "word"]) (by decide) E.sms
  obtain ⟨fd2, F2, G2⟩ := fn_get E hC 2 rfl (D := D_is_word) rfl
  obtain ⟨fd5, F5, G5⟩ := fn_get E hC 5 rfl (D := D_are_hours) rfl
  show PSs _ (dd 12).body (tW [] (m_is_shut_there C))
  unfold m_is_shut_there
  unfold c_is_shut_there_1
  exact (ss_one (s_ret (pe_andV (pe_isi .dict (by rfl) (E.free 41) (by rfl) (pa_name (i := 0) (by rfl) (.inr (.inl (by rfl)))) (by rfl) (E.free 39) (by rfl)) (pe_oneV (pe_b1 (cr_all' (by exact g.calm)) (by rfl) (E.free 37) (by rfl) (pe_arg (pe_comp (by exact g.calm) (by exact g.nd) (pi_dk (pe_name (i := 0) (by rfl) (.inr (.inl (by rfl))))) (own := [("word", 1)]) (blkOk_by (by rfl)) (fun s H C cl fp => (g_name (i := 1) (by exact g.nd) (by rfl) (.inl (by rfl)))) (fun s H C cl fp => pts_none) (fun s H C cl fp => (pe_andV (pe_def (ks := []) G2 (by exact g.room) (by exact g.gd) (by rfl) (E.glo 2) F2.kp (b_is_word_1 F2) (pm_cons (pe_arg (pe_name (i := 1) (by rfl) (.inl (by rfl)))) pm_nil) pk_nilM) (pe_oneV (pe_def (ks := []) G5 (by exact g.room) (by exact g.gd) (by rfl) (E.glo 5) F5.kp (b_are_hours_1 F5) (pm_cons (pe_arg (pe_sub (by exact g.u1) (pa_name (i := 0) (by rfl) (.inr (.inl (by rfl)))) (pa_name (i := 1) (by rfl) (.inl (by rfl))))) pm_nil) pk_nilM)))) (by decide))))))))
theorem st_free_able {P : Program} {w : World} : Stp P w fa fn tab 13 (dd 13) D_free_able := by
  refine ⟨⟨rfl, rfl, rfl, by decide, rfl, by decide +kernel, by decide +kernel⟩, ?_⟩
  intro K mg base k C E hC f cdv A outer s H hr hg
  have g := Gd.nox (P := P) (w := w) (K := K) (mg := mg) (base := base) (outer := outer) (H := H) hr hg (N := ["plan", "able", "shut", "lessons", "found", "busy", "hour", "group", "teacher", "some", "one"]) (by decide) E.sms
  obtain ⟨fd7, F7, G7⟩ := fn_get E hC 7 rfl (D := D_lessons_of) rfl
  show PSs _ (dd 13).body (tW [3, 4, 5, 6, 7, 8, 9] (m_free_able C))
  unfold m_free_able
  unfold c_free_able_2
  unfold l_free_able_1
  unfold t_free_able_1
  unfold c_free_able_1
  exact (ss_cons (s_par (i := 3) (j := 4) (by exact g.calm) (by exact g.nd) (by rfl) (by rfl) (by decide) (by decide) (by decide) (by rfl) (by rfl) (pl_cons (pe_def (ks := []) G7 (by exact g.room) (by exact g.gd) (by rfl) (E.glo 7) F7.kp (b_lessons_of_1 F7) (pm_cons (pe_arg (pe_name (i := 0) (by rfl) (.inl (by rfl)))) pm_nil) pk_nilM) (pl_cons pe_d0 pl_nil)) (by rfl))
    (ss_cons (s_asg (pe_fz (pe_dcm (by exact g.u1) (by exact g.calm) (by exact g.nd) (pi_val (pe_name (i := 3) (by rfl) (.inl (by rfl)))) (own := [("hour", 6), ("group", 7), ("teacher", 8)]) (blkOk_by (by rfl)) (fun s H C cl fp => (g_tup (by exact g.calm) (gs_cons (g_name (i := 6) (by exact g.nd) (by rfl) (.inl (by rfl))) (gs_cons (g_name (i := 7) (by exact g.nd) (by rfl) (.inl (by rfl))) (gs_cons (g_name (i := 8) (by exact g.nd) (by rfl) (.inl (by rfl))) gs_nil))))) (fun s H C cl fp => pts_none) (fun s H C cl fp => (pe_tupD (pl_cons (pe_name (i := 6) (by rfl) (.inl (by rfl))) (pl_cons (pe_name (i := 8) (by rfl) (.inl (by rfl))) pl_nil)))) (fun s H C cl fp => pe_cBl) (by decide))) (g_name (i := 5) (by exact g.nd) (by rfl) (.inr (by rfl))) (by decide))
    (ss_cons (s_for (by exact g.xe) (by exact g.calm) (pi_val (pe_name (i := 3) (by rfl) (.inl (by rfl)))) (g_tup (by exact g.calm) (gs_cons (g_name (i := 6) (by exact g.nd) (by rfl) (.inr (by rfl))) (gs_cons (g_name (i := 7) (by exact g.nd) (by rfl) (.inl (by rfl))) (gs_cons (g_name (i := 8) (by exact g.nd) (by rfl) (.inl (by rfl))) gs_nil)))) (ss_cons (s_fz (s_comp (i := 9) (by exact g.calm) (by exact g.nd) (by rfl) (by rfl) (by decide) (sw_true (by rfl) (by rfl) (by rfl) (by rfl)) (pi_val (pe_sub (by exact g.u1) (pa_name (i := 1) (by rfl) (.inl (by rfl))) (pa_name (i := 7) (by rfl) (.inl (by rfl))))) (own := [("one", 10)]) (blkOk_by (by rfl)) (fun s H C cl fp => (g_name (i := 10) (by exact g.nd) (by rfl) (.inl (by rfl)))) (fun s H C cl fp => (pts_if (pt_w (pw_andB (pt_cmpB .nin (by exact g.u) (pe_arg (pe_tupD (pl_cons (pe_name (i := 6) (by rfl) (.inr (.inl (by rfl)))) (pl_cons (pe_name (i := 10) (by rfl) (.inl (by rfl))) pl_nil)))) (pa_name (i := 5) (by rfl) (.inr (.inl (by rfl))))) (pw_and1B (pt_cmpB .nin (by exact g.u) (pa_name (i := 6) (by rfl) (.inr (.inl (by rfl)))) (pe_arg (pe_get2 (by exact g.u1) (pa_name (i := 2) (by rfl) (.inr (.inl (by rfl)))) (pa_name (i := 10) (by rfl) (.inl (by rfl))) (pe_arg (pe_lstD pl_nil)) ⟨(by rfl), (by rfl), (by rfl), (by rfl)⟩)))))))) (fun s H C cl fp => (pe_name (i := 10) (by rfl) (.inl (by rfl)))) (by decide)))
    (ss_one (s_set (j := 4) (by exact g.u1) (by rfl) (.inl (by rfl)) (pe_name (i := 9) (by rfl) (.inl (by rfl))) (pe_arg (pe_tupD (pl_cons (pe_name (i := 6) (by rfl) (.inr (.inl (by rfl)))) (pl_cons (pe_name (i := 7) (by rfl) (.inl (by rfl))) (pl_cons (pe_name (i := 8) (by rfl) (.inl (by rfl))) pl_nil)))))))) (by decide))
    (ss_one (s_ret (pe_name (i := 4) (by rfl) (.inl (by rfl))))))))
theorem st_calls_when {P : Program} {w : World} : Stp P w fa fn tab 14 (dd 14) D_calls_when := by
  refine ⟨⟨rfl, rfl, rfl, by decide, rfl, by decide +kernel, by decide +kernel⟩, ?_⟩
  intro K mg base k C E hC f cdv A outer s H hr hg
  have g := Gd.nox (P := P) (w := w) (K := K) (mg := mg) (base := base) (outer := outer) (H := H) hr hg (N := ["plan", "able", "shut", "ill", "found", "hour", "group", "teacher", "some", "one"]) (by decide) E.sms
  obtain ⟨fd13, F13, G13⟩ := fn_get E hC 13 rfl (D := D_free_able) rfl
  obtain ⟨fd10, F10, G10⟩ := fn_get E hC 10 rfl (D := D_are_words) rfl
  obtain ⟨fd11, F11, G11⟩ := fn_get E hC 11 rfl (D := D_check_staff) rfl
  show PSs _ (dd 14).body (tW [4, 5, 6, 7, 8] (m_calls_when C))
  unfold m_calls_when
  unfold l_calls_when_1
  unfold t_calls_when_1
  unfold c_calls_when_1
  exact (ss_cons (s_expr (pe_def (ks := []) G11 (by exact g.room) (by exact g.gd) (by rfl) (E.glo 11) F11.kp (b_check_staff_3 F11) (pm_cons (pe_arg (pe_name (i := 0) (by rfl) (.inl (by rfl)))) (pm_cons (pe_arg (pe_name (i := 1) (by rfl) (.inl (by rfl)))) (pm_cons (pe_arg (pe_name (i := 2) (by rfl) (.inl (by rfl)))) pm_nil))) pk_nilM))
    (ss_cons (s_if (pt_notB (pt_bool (pe_def (ks := []) G10 (by exact g.room) (by exact g.gd) (by rfl) (E.glo 10) F10.kp (b_are_words_1 F10) (pm_cons (pe_arg (pe_name (i := 3) (by rfl) (.inr (.inl (by rfl))))) pm_nil) pk_nilM))) ss_never ss_nil)
    (ss_cons (s_asg (pe_lstD pl_nil) (g_name (i := 4) (by exact g.nd) (by rfl) (.inl (by rfl))) (by decide))
    (ss_cons (s_for (by exact g.xe) (by exact g.calm) (pi_di (pe_def (ks := []) G13 (by exact g.room) (by exact g.gd) (by rfl) (E.glo 13) F13.kp (b_free_able_3 F13) (pm_cons (pe_arg (pe_name (i := 0) (by rfl) (.inl (by rfl)))) (pm_cons (pe_arg (pe_name (i := 1) (by rfl) (.inl (by rfl)))) (pm_cons (pe_arg (pe_name (i := 2) (by rfl) (.inl (by rfl)))) pm_nil))) pk_nilM)) (g_tup (by exact g.calm) (gs_cons (g_tup (by exact g.calm) (gs_cons (g_name (i := 5) (by exact g.nd) (by rfl) (.inl (by rfl))) (gs_cons (g_name (i := 6) (by exact g.nd) (by rfl) (.inl (by rfl))) (gs_cons (g_name (i := 7) (by exact g.nd) (by rfl) (.inl (by rfl))) gs_nil)))) (gs_cons (g_name (i := 8) (by exact g.nd) (by rfl) (.inl (by rfl))) gs_nil))) (ss_one (s_if (pt_cmpB .inn (by exact g.u) (pa_name (i := 7) (by rfl) (.inl (by rfl))) (pa_name (i := 3) (by rfl) (.inr (.inl (by rfl))))) (ss_one (s_expr (pe_mm .append (i := 4) (by rfl) (.inl (by rfl)) PySem.F.slot_list_append PySem.F.type_list_append (pl_cons (pe_tupD (pl_cons (pe_name (i := 5) (by rfl) (.inl (by rfl))) (pl_cons (pe_name (i := 6) (by rfl) (.inl (by rfl))) (pl_cons (pe_comp (by exact g.calm) (by exact g.nd) (pi_val (pe_name (i := 8) (by rfl) (.inl (by rfl)))) (own := [("one", 9)]) (blkOk_by (by rfl)) (fun s H C cl fp => (g_name (i := 9) (by exact g.nd) (by rfl) (.inl (by rfl)))) (fun s H C cl fp => (pts_if (pt_cmpB .nin (by exact g.u) (pa_name (i := 9) (by rfl) (.inl (by rfl))) (pa_name (i := 3) (by rfl) (.inr (.inl (by rfl))))))) (fun s H C cl fp => (pe_name (i := 9) (by rfl) (.inl (by rfl)))) (by decide)) pl_nil)))) pl_nil)))) ss_nil)) (by decide))
    (ss_one (s_ret (pe_b1 (cr_srtT (by exact g.u)) (by rfl) (E.free 49) (by rfl) (pe_arg (pm_name (i := 4) (by rfl) (.inl (by rfl)))))))))))
theorem st_safe_number {P : Program} {w : World} : Stp P w fa fn tab 15 (dd 15) D_safe_number := by
  refine ⟨⟨rfl, rfl, rfl, by decide, rfl, by decide +kernel, by decide +kernel⟩, ?_⟩
  intro K mg base k C E hC f cdv A outer s H hr hg
  have g := Gd.nox (P := P) (w := w) (K := K) (mg := mg) (base := base) (outer := outer) (H := H) hr hg (N := ["plan", "able", "shut", "some"]) (by decide) E.sms
  obtain ⟨fd13, F13, G13⟩ := fn_get E hC 13 rfl (D := D_free_able) rfl
  obtain ⟨fd11, F11, G11⟩ := fn_get E hC 11 rfl (D := D_check_staff) rfl
  show PSs _ (dd 15).body (tW [] (m_safe_number C))
  unfold m_safe_number
  unfold c_safe_number_1
  exact (ss_cons (s_expr (pe_def (ks := []) G11 (by exact g.room) (by exact g.gd) (by rfl) (E.glo 11) F11.kp (b_check_staff_3 F11) (pm_cons (pe_arg (pe_name (i := 0) (by rfl) (.inl (by rfl)))) (pm_cons (pe_arg (pe_name (i := 1) (by rfl) (.inl (by rfl)))) (pm_cons (pe_arg (pe_name (i := 2) (by rfl) (.inl (by rfl)))) pm_nil))) pk_nilM))
    (ss_one (s_ret (pe_b1k (cr_minD (by exact g.calm) (by exact g.u)) (by rfl) (E.free 45) (by rfl) (pe_arg (pe_comp (by exact g.calm) (by exact g.nd) (pi_dv (pe_def (ks := []) G13 (by exact g.room) (by exact g.gd) (by rfl) (E.glo 13) F13.kp (b_free_able_3 F13) (pm_cons (pe_arg (pe_name (i := 0) (by rfl) (.inl (by rfl)))) (pm_cons (pe_arg (pe_name (i := 1) (by rfl) (.inl (by rfl)))) (pm_cons (pe_arg (pe_name (i := 2) (by rfl) (.inl (by rfl)))) pm_nil))) pk_nilM)) (own := [("some", 3)]) (blkOk_by (by rfl)) (fun s H C cl fp => (g_name (i := 3) (by exact g.nd) (by rfl) (.inl (by rfl)))) (fun s H C cl fp => pts_none) (fun s H C cl fp => (pe_b1 cr_len (by rfl) (E.free 42) (by rfl) (pa_name (i := 3) (by rfl) (.inl (by rfl))))) (by decide))) (pe_arg pe_cNon)))))
theorem st_weakest_lessons {P : Program} {w : World} : Stp P w fa fn tab 16 (dd 16) D_weakest_lessons := by
  refine ⟨⟨rfl, rfl, rfl, by decide, rfl, by decide +kernel, by decide +kernel⟩, ?_⟩
  intro K mg base k C E hC f cdv A outer s H hr hg
  have g := Gd.nox (P := P) (w := w) (K := K) (mg := mg) (base := base) (outer := outer) (H := H) hr hg (N := ["plan", "able", "shut", "least", "key", "some"]) (by decide) E.sms
  obtain ⟨fd13, F13, G13⟩ := fn_get E hC 13 rfl (D := D_free_able) rfl
  obtain ⟨fd15, F15, G15⟩ := fn_get E hC 15 rfl (D := D_safe_number) rfl
  show PSs _ (dd 16).body (tW [3] (m_weakest_lessons C))
  unfold m_weakest_lessons
  unfold c_weakest_lessons_1
  exact (ss_cons (s_asg (pe_def (ks := []) G15 (by exact g.room) (by exact g.gd) (by rfl) (E.glo 15) F15.kp (b_safe_number_3 F15) (pm_cons (pe_arg (pe_name (i := 0) (by rfl) (.inl (by rfl)))) (pm_cons (pe_arg (pe_name (i := 1) (by rfl) (.inl (by rfl)))) (pm_cons (pe_arg (pe_name (i := 2) (by rfl) (.inl (by rfl)))) pm_nil))) pk_nilM) (g_name (i := 3) (by exact g.nd) (by rfl) (.inr (by rfl))) (by decide))
    (ss_one (s_ret (pe_b1 (cr_sort (by exact g.u)) (by rfl) (E.free 49) (by rfl) (pe_arg (pe_comp (by exact g.calm) (by exact g.nd) (pi_di (pe_def (ks := []) G13 (by exact g.room) (by exact g.gd) (by rfl) (E.glo 13) F13.kp (b_free_able_3 F13) (pm_cons (pe_arg (pe_name (i := 0) (by rfl) (.inl (by rfl)))) (pm_cons (pe_arg (pe_name (i := 1) (by rfl) (.inl (by rfl)))) (pm_cons (pe_arg (pe_name (i := 2) (by rfl) (.inl (by rfl)))) pm_nil))) pk_nilM)) (own := [("key", 4), ("some", 5)]) (blkOk_by (by rfl)) (fun s H C cl fp => (g_tup (by exact g.calm) (gs_cons (g_name (i := 4) (by exact g.nd) (by rfl) (.inl (by rfl))) (gs_cons (g_name (i := 5) (by exact g.nd) (by rfl) (.inl (by rfl))) gs_nil)))) (fun s H C cl fp => (pts_if (pt_cmpB .eq (by exact g.u) (pe_arg (pe_b1 cr_len (by rfl) (E.free 42) (by rfl) (pa_name (i := 5) (by rfl) (.inl (by rfl))))) (pa_name (i := 3) (by rfl) (.inr (.inl (by rfl))))))) (fun s H C cl fp => (pe_fz (pe_slc (pa_name (i := 4) (by rfl) (.inl (by rfl))) po_no (po_yes (pe_arg (pe_cInt (j := 0))))))) (by decide)))))))
theorem st_ill_beyond {P : Program} {w : World} : Stp P w fa fn tab 17 (dd 17) D_ill_beyond := by
  refine ⟨⟨rfl, rfl, rfl, by decide, rfl, by decide +kernel, by decide +kernel⟩, ?_⟩
  intro K mg base k C E hC f cdv A outer s H hr hg
  have g := Gd.nox (P := P) (w := w) (K := K) (mg := mg) (base := base) (outer := outer) (H := H) hr hg (N := ["plan", "able", "shut", "least", "key", "some"]) (by decide) E.sms
  obtain ⟨fd13, F13, G13⟩ := fn_get E hC 13 rfl (D := D_free_able) rfl
  obtain ⟨fd15, F15, G15⟩ := fn_get E hC 15 rfl (D := D_safe_number) rfl
  show PSs _ (dd 17).body (tW [3, 4, 5] (m_ill_beyond C))
  unfold m_ill_beyond
  unfold l_ill_beyond_1
  unfold t_ill_beyond_1
  exact (ss_cons (s_asg (pe_def (ks := []) G15 (by exact g.room) (by exact g.gd) (by rfl) (E.glo 15) F15.kp (b_safe_number_3 F15) (pm_cons (pe_arg (pe_name (i := 0) (by rfl) (.inl (by rfl)))) (pm_cons (pe_arg (pe_name (i := 1) (by rfl) (.inl (by rfl)))) (pm_cons (pe_arg (pe_name (i := 2) (by rfl) (.inl (by rfl)))) pm_nil))) pk_nilM) (g_name (i := 3) (by exact g.nd) (by rfl) (.inl (by rfl))) (by decide))
    (ss_cons (s_for (by exact g.xe) (by exact g.calm) (pi_di (pe_def (ks := []) G13 (by exact g.room) (by exact g.gd) (by rfl) (E.glo 13) F13.kp (b_free_able_3 F13) (pm_cons (pe_arg (pe_name (i := 0) (by rfl) (.inl (by rfl)))) (pm_cons (pe_arg (pe_name (i := 1) (by rfl) (.inl (by rfl)))) (pm_cons (pe_arg (pe_name (i := 2) (by rfl) (.inl (by rfl)))) pm_nil))) pk_nilM)) (g_tup (by exact g.calm) (gs_cons (g_name (i := 4) (by exact g.nd) (by rfl) (.inl (by rfl))) (gs_cons (g_name (i := 5) (by exact g.nd) (by rfl) (.inl (by rfl))) gs_nil))) (ss_one (s_if (pt_cmpB .eq (by exact g.u) (pe_arg (pe_b1 cr_len (by rfl) (E.free 42) (by rfl) (pa_name (i := 5) (by rfl) (.inl (by rfl))))) (pa_name (i := 3) (by rfl) (.inl (by rfl)))) (ss_one (s_ret (pe_fz (pe_b1 (cr_sort (by exact g.u)) (by rfl) (E.free 49) (by rfl) (pe_arg (pe_bin .add (pe_arg (pe_lstD (pl_cons (pe_sub (by exact g.u1) (pa_name (i := 4) (by rfl) (.inl (by rfl))) (pe_arg (pe_cInt (j := 0)))) pl_nil))) (pa_name (i := 5) (by rfl) (.inl (by rfl))))))))) ss_nil)) (by decide))
    (ss_one (s_ret pe_cNon))))
theorem st_law_purse {P : Program} {w : World} : Stp P w fa fn tab 18 (dd 18) D_law_purse := by
  refine ⟨⟨rfl, rfl, rfl, by decide, rfl, by decide +kernel, by decide +kernel⟩, ?_⟩
  intro K mg base k C E hC f cdv A outer s H hr hg
  have g := Gd.nox (P := P) (w := w) (K := K) (mg := mg) (base := base) (outer := outer) (H := H) hr hg (N := ["script", "at", "seed"]) (by decide) E.sms
  show PSs _ (dd 18).body (tW [2] (m_law_purse C))
  unfold m_law_purse
  exact (ss_cons (s_asg (pe_b1 (cr_sum' (by exact g.calm)) (by rfl) (E.free 51) (by rfl) (pe_arg (pe_slcS (pa_name (i := 0) (by rfl) (.inl (by rfl))) (po_yes (pa_name (i := 1) (by rfl) (.inl (by rfl)))) (po_yes (pe_arg (pe_bin .add (pa_name (i := 1) (by rfl) (.inl (by rfl))) (pe_arg (pe_cInt (j := 0))))))))) (g_name (i := 2) (by exact g.nd) (by rfl) (.inl (by rfl))) (by decide))
    (ss_one (s_ret (pe_lstD (pl_cons (pe_bin .mod (pe_arg (pe_t1 cr_int (by rfl) (E.free 40) (by rfl) (pe_arg (pe_b2 (cr_max2 (by exact g.calm)) (by rfl) (E.free 44) (by rfl) (pe_arg (pe_bin .sub (pa_name (i := 2) (by rfl) (.inl (by rfl))) (pe_arg (pe_bin .pow (pe_arg (pe_cInt (j := 0))) (pe_arg (pe_cInt (j := 0))))))) (pe_arg (pe_cInt (j := 0))))))) (pe_arg (pe_bin .pow (pe_arg (pe_bin .pow (pe_arg (pe_cInt (j := 0))) (pe_arg (pe_cInt (j := 0))))) (pe_arg (pe_cInt (j := 0)))))) (pl_cons (pe_bin .mod (pe_arg (pe_t1 cr_int (by rfl) (E.free 40) (by rfl) (pa_name (i := 2) (by rfl) (.inl (by rfl))))) (pe_arg (pe_cInt (j := 0)))) (pl_cons (pe_cInt (j := 0)) (pl_cons (pe_name (i := 1) (by rfl) (.inl (by rfl))) pl_nil))))))))
theorem st_law_mixed {P : Program} {w : World} : Stp P w fa fn tab 19 (dd 19) D_law_mixed := by
  refine ⟨⟨rfl, rfl, rfl, by decide, rfl, by decide +kernel, by decide +kernel⟩, ?_⟩
  intro K mg base k C E hC f cdv A outer s H hr hg
  have g := Gd.nox (P := P) (w := w) (K := K) (mg := mg) (base := base) (outer := outer) (H := H) hr hg (N := ["seed", "spin", "at", "mixed"]) (by decide) E.sms
  show PSs _ (dd 19).body (tW [3] (m_law_mixed C))
  unfold m_law_mixed
  exact (ss_cons (s_asg (pe_fz (pe_bin .add (pe_arg (pe_bin .mul (pa_name (i := 0) (by rfl) (.inl (by rfl))) (pe_arg (pe_cInt (j := 0))))) (pe_arg (pe_bin .mul (pe_arg (pe_bin .mul (pe_arg (pe_cInt (j := 0))) (pa_name (i := 1) (by rfl) (.inl (by rfl))))) (pa_name (i := 1) (by rfl) (.inl (by rfl))))))) (g_name (i := 3) (by exact g.nd) (by rfl) (.inl (by rfl))) (by decide))
    (ss_cons (s_asg (pe_bin .mod (pe_arg (pe_t1 cr_int (by rfl) (E.free 40) (by rfl) (pe_arg (pe_bin .add (pe_arg (pe_bin .add (pa_name (i := 3) (by rfl) (.inl (by rfl))) (pe_arg (pe_bin .mul (pe_arg (pe_cInt (j := 0))) (pa_name (i := 2) (by rfl) (.inl (by rfl))))))) (pa_name (i := 1) (by rfl) (.inl (by rfl))))))) (pe_arg (pe_cInt (j := 0)))) (g_name (i := 3) (by exact g.nd) (by rfl) (.inl (by rfl))) (by decide))
    (ss_cons (s_asg (pe_bin .mod (pe_arg (pe_t1 cr_int (by rfl) (E.free 40) (by rfl) (pe_arg (pe_bin .add (pe_arg (pe_bin .mul (pa_name (i := 3) (by rfl) (.inl (by rfl))) (pa_name (i := 3) (by rfl) (.inl (by rfl))))) (pe_arg (pe_cInt (j := 0))))))) (pe_arg (pe_cInt (j := 0)))) (g_name (i := 3) (by exact g.nd) (by rfl) (.inl (by rfl))) (by decide))
    (ss_one (s_ret (pe_bin .mod (pe_arg (pe_t1 cr_int (by rfl) (E.free 40) (by rfl) (pe_arg (pe_bin .mul (pa_name (i := 3) (by rfl) (.inl (by rfl))) (pe_arg (pe_cInt (j := 0))))))) (pe_arg (pe_cInt (j := 0)))))))))
theorem st_law_draw {P : Program} {w : World} : Stp P w fa fn tab 20 (dd 20) D_law_draw := by
  refine ⟨⟨rfl, rfl, rfl, by decide, rfl, by decide +kernel, by decide +kernel⟩, ?_⟩
  intro K mg base k C E hC f cdv A outer s H hr hg
  have g := Gd.nox (P := P) (w := w) (K := K) (mg := mg) (base := base) (outer := outer) (H := H) hr hg (N := ["purse", "many", "drawn", "found", "piece"]) (by decide) E.sms
  obtain ⟨fd19, F19, G19⟩ := fn_get E hC 19 rfl (D := D_law_mixed) rfl
  show PSs _ (dd 20).body (tW [2, 3, 4] (m_law_draw C))
  unfold m_law_draw
  unfold l_law_draw_1
  unfold t_law_draw_1
  exact (ss_cons (s_if (pt_cmpB .gt (by exact g.u) (pe_arg (pe_sub (by exact g.u1) (pa_name (i := 0) (by rfl) (.inl (by rfl))) (pe_arg (pe_cInt (j := 0))))) (pe_arg (pe_cInt (j := 0)))) (ss_cons (s_asg (pe_bin .mod (pe_arg (pe_t1 cr_int (by rfl) (E.free 40) (by rfl) (pe_arg (pe_sub (by exact g.u1) (pa_name (i := 0) (by rfl) (.inl (by rfl))) (pe_arg (pe_cInt (j := 0))))))) (pa_name (i := 1) (by rfl) (.inl (by rfl)))) (g_name (i := 2) (by exact g.nd) (by rfl) (.inl (by rfl))) (by decide))
    (ss_cons (s_set (j := 0) (by exact g.u1) (by rfl) (.inl (by rfl)) (pe_bin .fdiv (pe_arg (pe_sub (by exact g.u1) (pa_name (i := 0) (by rfl) (.inl (by rfl))) (pe_arg (pe_cInt (j := 0))))) (pa_name (i := 1) (by rfl) (.inl (by rfl)))) (pe_arg (pe_cInt (j := 0))))
    (ss_one (s_ret (pe_name (i := 2) (by rfl) (.inl (by rfl))))))) ss_nil)
    (ss_cons (s_asg (pe_cInt (j := 0)) (g_name (i := 3) (by exact g.nd) (by rfl) (.inl (by rfl))) (by decide))
    (ss_cons (s_for (by exact g.xe) (by exact g.calm) (pi_rng1 (by rfl) (E.free 46) (pe_arg (pe_bin .add (pe_arg (pe_cInt (j := 0))) (pe_arg (pe_bin .fdiv (pe_arg (pe_bitl (pa_name (i := 1) (by rfl) (.inl (by rfl))))) (pe_arg (pe_cInt (j := 0)))))))) (g_name (i := 4) (by exact g.nd) (by rfl) (.inl (by rfl))) (ss_cons (s_set (j := 0) (by exact g.u1) (by rfl) (.inl (by rfl)) (pe_bin .add (pe_arg (pe_sub (by exact g.u1) (pa_name (i := 0) (by rfl) (.inl (by rfl))) (pe_arg (pe_cInt (j := 0))))) (pe_arg (pe_cInt (j := 0)))) (pe_arg (pe_cInt (j := 0))))
    (ss_one (s_asg (pe_fz (pe_bin .add (pe_arg (pe_bin .mul (pa_name (i := 3) (by rfl) (.inl (by rfl))) (pe_arg (pe_cInt (j := 0))))) (pe_arg (pe_def (ks := []) G19 (by exact g.room) (by exact g.gd) (by rfl) (E.glo 19) F19.kp (b_law_mixed_3 F19) (pm_cons (pe_arg (pe_sub (by exact g.u1) (pa_name (i := 0) (by rfl) (.inl (by rfl))) (pe_arg (pe_cInt (j := 0))))) (pm_cons (pe_arg (pe_sub (by exact g.u1) (pa_name (i := 0) (by rfl) (.inl (by rfl))) (pe_arg (pe_cInt (j := 0))))) (pm_cons (pe_arg (pe_sub (by exact g.u1) (pa_name (i := 0) (by rfl) (.inl (by rfl))) (pe_arg (pe_cInt (j := 0))))) pm_nil))) pk_nilM)))) (g_name (i := 3) (by exact g.nd) (by rfl) (.inl (by rfl))) (by decide)))) (by decide))
    (ss_one (s_ret (pe_bin .mod (pe_arg (pe_t1 cr_int (by rfl) (E.free 40) (by rfl) (pa_name (i := 3) (by rfl) (.inl (by rfl))))) (pa_name (i := 1) (by rfl) (.inl (by rfl)))))))))
theorem st_law_purses {P : Program} {w : World} : Stp P w fa fn tab 21 (dd 21) D_law_purses := by
  refine ⟨⟨rfl, rfl, rfl, by decide, rfl, by decide +kernel, by decide +kernel⟩, ?_⟩
  intro K mg base k C E hC f cdv A outer s H hr hg
  have g := Gd.nox (P := P) (w := w) (K := K) (mg := mg) (base := base) (outer := outer) (H := H) hr hg (N := ["script", "few", "at"]) (by decide) E.sms
  obtain ⟨fd18, F18, G18⟩ := fn_get E hC 18 rfl (D := D_law_purse) rfl
  show PSs _ (dd 21).body (tW [] (m_law_purses C))
  unfold m_law_purses
  unfold c_law_purses_1
  exact (ss_one (s_ret (pe_comp (by exact g.calm) (by exact g.nd) (pi_rng1 (by rfl) (E.free 46) (pe_arg (pe_b2 (cr_max2 (by exact g.calm)) (by rfl) (E.free 44) (by rfl) (pe_arg (pe_cInt (j := 0))) (pe_arg (pe_b2 (cr_min2 (by exact g.calm)) (by rfl) (E.free 45) (by rfl) (pa_name (i := 1) (by rfl) (.inl (by rfl))) (pe_arg (pe_b1 cr_lenScr (by rfl) (E.free 42) (by rfl) (pa_name (i := 0) (by rfl) (.inr (.inl (by rfl))))))))))) (own := [("at", 2)]) (blkOk_by (by rfl)) (fun s H C cl fp => (g_name (i := 2) (by exact g.nd) (by rfl) (.inl (by rfl)))) (fun s H C cl fp => pts_none) (fun s H C cl fp => (pe_def (ks := []) G18 (by exact g.room) (by exact g.gd) (by rfl) (E.glo 18) F18.kp (b_law_purse_2 F18) (pm_cons (pa_name (i := 0) (by rfl) (.inr (.inl (by rfl)))) (pm_cons (pe_arg (pe_name (i := 2) (by rfl) (.inl (by rfl)))) pm_nil)) pk_nilM)) (by decide))))
theorem st_law_one_of {P : Program} {w : World} : Stp P w fa fn tab 22 (dd 22) D_law_one_of := by
  refine ⟨⟨rfl, rfl, rfl, by decide, rfl, by decide +kernel, by decide +kernel⟩, ?_⟩
  intro K mg base k C E hC f cdv A outer s H hr hg
  have g := Gd.nox (P := P) (w := w) (K := K) (mg := mg) (base := base) (outer := outer) (H := H) hr hg (N := ["purse", "some"]) (by decide) E.sms
  obtain ⟨fd20, F20, G20⟩ := fn_get E hC 20 rfl (D := D_law_draw) rfl
  show PSs _ (dd 22).body (tW [] (m_law_one_of C))
  unfold m_law_one_of
  exact (ss_one (s_ret (pe_sub (by exact g.u1) (pa_name (i := 1) (by rfl) (.inl (by rfl))) (pe_arg (pe_def (ks := []) G20 (by exact g.room) (by exact g.gd) (by rfl) (E.glo 20) F20.kp (b_law_draw_2 F20) (pm_cons (pa_name (i := 0) (by rfl) (.inl (by rfl))) (pm_cons (pe_arg (pe_b1 cr_len (by rfl) (E.free 42) (by rfl) (pa_name (i := 1) (by rfl) (.inl (by rfl))))) pm_nil)) pk_nilM)))))
theorem st_law_shuffled {P : Program} {w : World} : Stp P w fa fn tab 23 (dd 23) D_law_shuffled := by
  refine ⟨⟨rfl, rfl, rfl, by decide, rfl, by decide +kernel, by decide +kernel⟩, ?_⟩
  intro K mg base k C E hC f cdv A outer s H hr hg
  have g := Gd.nox (P := P) (w := w) (K := K) (mg := mg) (base := base) (outer := outer) (H := H) hr hg (N := ["purse", "some", "found", "item"]) (by decide) E.sms
  obtain ⟨fd20, F20, G20⟩ := fn_get E hC 20 rfl (D := D_law_draw) rfl
  show PSs _ (dd 23).body (tW [2, 3] (m_law_shuffled C))
  unfold m_law_shuffled
  unfold l_law_shuffled_1
  unfold t_law_shuffled_1
  exact (ss_cons (s_asg (pe_lstD pl_nil) (g_name (i := 2) (by exact g.nd) (by rfl) (.inl (by rfl))) (by decide))
    (ss_cons (s_for (by exact g.xe) (by exact g.calm) (pi_val (pe_name (i := 1) (by rfl) (.inl (by rfl)))) (g_name (i := 3) (by exact g.nd) (by rfl) (.inl (by rfl))) (ss_one (s_expr (pe_mm .insert (i := 2) (by rfl) (.inl (by rfl)) PySem.F.slot_list_insert PySem.F.type_list_insert (pl_cons (pe_def (ks := []) G20 (by exact g.room) (by exact g.gd) (by rfl) (E.glo 20) F20.kp (b_law_draw_2 F20) (pm_cons (pa_name (i := 0) (by rfl) (.inl (by rfl))) (pm_cons (pe_arg (pe_bin .add (pe_arg (pe_b1 cr_len (by rfl) (E.free 42) (by rfl) (pa_name (i := 2) (by rfl) (.inl (by rfl))))) (pe_arg (pe_cInt (j := 0))))) pm_nil)) pk_nilM) (pl_cons (pe_name (i := 3) (by rfl) (.inl (by rfl))) pl_nil))))) (by decide))
    (ss_one (s_ret (pe_name (i := 2) (by rfl) (.inl (by rfl)))))))
theorem st_law_exact {P : Program} {w : World} : Stp P w fa fn tab 24 (dd 24) D_law_exact := by
  refine ⟨⟨rfl, rfl, rfl, by decide, rfl, by decide +kernel, by decide +kernel⟩, ?_⟩
  intro K mg base k C E hC f cdv A outer s H hr hg
  have g := Gd.nox (P := P) (w := w) (K := K) (mg := mg) (base := base) (outer := outer) (H := H) hr hg (N := ["mine", "theirs", "is_list", "is_like", "a", "b"]) (by decide) E.sms
  obtain ⟨fd24, F24, G24⟩ := fn_get E hC 24 rfl (D := D_law_exact) rfl
  show PSs _ (dd 24).body (tW [2, 3] (m_law_exact C))
  unfold m_law_exact
  unfold c_law_exact_1
  exact (ss_cons (s_if (pt_bool (pe_isiN (by rfl) (E.free 41) (by rfl) (pa_name (i := 0) (by rfl) (.inl (by rfl))) (pa_tys .list (by rfl) (E.free 43) (by rfl) (pa_tys .tuple (by rfl) (E.free 52) (by rfl) pa_tys0)) (by decide))) (ss_cons (s_asg (pe_cmp' .eq (by exact g.u) (pe_arg (pe_isi .list (by rfl) (E.free 41) (by rfl) (pa_name (i := 1) (by rfl) (.inl (by rfl))) (by rfl) (E.free 43) (by rfl))) (pe_arg (pe_isi .list (by rfl) (E.free 41) (by rfl) (pa_name (i := 0) (by rfl) (.inl (by rfl))) (by rfl) (E.free 43) (by rfl)))) (g_name (i := 2) (by exact g.nd) (by rfl) (.inl (by rfl))) (by decide))
    (ss_cons (s_asg (pe_andV (pe_name (i := 2) (by rfl) (.inl (by rfl))) (pe_oneV (pe_cmp' .eq (by exact g.u) (pe_arg (pe_isi .tuple (by rfl) (E.free 41) (by rfl) (pa_name (i := 1) (by rfl) (.inl (by rfl))) (by rfl) (E.free 52) (by rfl))) (pe_arg (pe_isi .tuple (by rfl) (E.free 41) (by rfl) (pa_name (i := 0) (by rfl) (.inl (by rfl))) (by rfl) (E.free 52) (by rfl)))))) (g_name (i := 3) (by exact g.nd) (by rfl) (.inl (by rfl))) (by decide))
    (ss_one (s_ret (pe_andV (pe_name (i := 3) (by rfl) (.inl (by rfl))) (pe_andV (pe_cmp' .eq (by exact g.u) (pe_arg (pe_b1 cr_len (by rfl) (E.free 42) (by rfl) (pa_name (i := 0) (by rfl) (.inl (by rfl))))) (pe_arg (pe_b1 cr_len (by rfl) (E.free 42) (by rfl) (pa_name (i := 1) (by rfl) (.inl (by rfl)))))) (pe_oneV (pe_b1 (cr_all' (by exact g.calm)) (by rfl) (E.free 37) (by rfl) (pe_arg (pe_comp (by exact g.calm) (by exact g.nd) (pi_zp (by rfl) (E.free 53) (pe_name (i := 0) (by rfl) (.inl (by rfl))) (pe_name (i := 1) (by rfl) (.inl (by rfl)))) (own := [("a", 4), ("b", 5)]) (blkOk_by (by rfl)) (fun s H C cl fp => (g_tup (by exact g.calm) (gs_cons (g_name (i := 4) (by exact g.nd) (by rfl) (.inl (by rfl))) (gs_cons (g_name (i := 5) (by exact g.nd) (by rfl) (.inl (by rfl))) gs_nil)))) (fun s H C cl fp => pts_none) (fun s H C cl fp => (pe_def (ks := []) G24 (by exact g.room) (by exact g.gd) (by rfl) (E.glo 24) F24.kp (b_law_exact_2 F24) (pm_cons (pe_arg (pe_name (i := 4) (by rfl) (.inl (by rfl)))) (pm_cons (pe_arg (pe_name (i := 5) (by rfl) (.inl (by rfl)))) pm_nil)) pk_nilM)) (by decide))))))))))) ss_nil)
    (ss_cons (s_if (pt_w (pw_orB (pt_bool (pe_isiN (by rfl) (E.free 41) (by rfl) (pa_name (i := 1) (by rfl) (.inl (by rfl))) (pa_tys .list (by rfl) (E.free 43) (by rfl) (pa_tys .tuple (by rfl) (E.free 52) (by rfl) pa_tys0)) (by decide))) (pw_or1B (pt_cmpB .ne (by exact g.u) (pe_arg (pe_cmp' .is (by exact g.u) (pa_name (i := 0) (by rfl) (.inl (by rfl))) (pe_arg pe_cNon))) (pe_arg (pe_cmp' .is (by exact g.u) (pa_name (i := 1) (by rfl) (.inl (by rfl))) (pe_arg pe_cNon))))))) (ss_one (s_ret pe_cBl)) ss_nil)
    (ss_cons (s_asg (pe_andV (pe_cmp' .eq (by exact g.u) (pe_arg (pe_isi .int (by rfl) (E.free 41) (by rfl) (pa_name (i := 0) (by rfl) (.inl (by rfl))) (by rfl) (E.free 40) (by rfl))) (pe_arg (pe_isi .int (by rfl) (E.free 41) (by rfl) (pa_name (i := 1) (by rfl) (.inl (by rfl))) (by rfl) (E.free 40) (by rfl)))) (pe_oneV (pe_cmp' .eq (by exact g.u) (pe_arg (pe_isi .str (by rfl) (E.free 41) (by rfl) (pa_name (i := 0) (by rfl) (.inl (by rfl))) (by rfl) (E.free 50) (by rfl))) (pe_arg (pe_isi .str (by rfl) (E.free 41) (by rfl) (pa_name (i := 1) (by rfl) (.inl (by rfl))) (by rfl) (E.free 50) (by rfl)))))) (g_name (i := 3) (by exact g.nd) (by rfl) (.inl (by rfl))) (by decide))
    (ss_one (s_ret (pe_andV (pe_name (i := 3) (by rfl) (.inl (by rfl))) (pe_andV (pe_cmp' .eq (by exact g.u) (pe_arg (pe_isi .bool (by rfl) (E.free 41) (by rfl) (pa_name (i := 0) (by rfl) (.inl (by rfl))) (by rfl) (E.free 38) (by rfl))) (pe_arg (pe_isi .bool (by rfl) (E.free 41) (by rfl) (pa_name (i := 1) (by rfl) (.inl (by rfl))) (by rfl) (E.free 38) (by rfl)))) (pe_oneV (pe_cmp' .eq (by exact g.u) (pa_name (i := 0) (by rfl) (.inl (by rfl))) (pa_name (i := 1) (by rfl) (.inl (by rfl))))))))))))
theorem st_law_plan {P : Program} {w : World} : Stp P w fa fn tab 25 (dd 25) D_law_plan := by
  refine ⟨⟨rfl, rfl, rfl, by decide, rfl, by decide +kernel, by decide +kernel⟩, ?_⟩
  intro K mg base k C E hC f cdv A outer s H hr hg
  have g := Gd.nox (P := P) (w := w) (K := K) (mg := mg) (base := base) (outer := outer) (H := H) hr hg (N := ["purse", "groups", "teachers", "many", "spins", "taken", "found", "spin", "hour", "pair"]) (by decide) E.sms
  obtain ⟨fd20, F20, G20⟩ := fn_get E hC 20 rfl (D := D_law_draw) rfl
  obtain ⟨fd22, F22, G22⟩ := fn_get E hC 22 rfl (D := D_law_one_of) rfl
  show PSs _ (dd 25).body (tW [5, 6, 7, 8, 9] (m_law_plan C))
  unfold m_law_plan
  unfold l_law_plan_1
  unfold t_law_plan_1
  exact (ss_cons (s_par (i := 5) (j := 6) (by exact g.calm) (by exact g.nd) (by rfl) (by rfl) (by decide) (by decide) (by decide) (by rfl) (by rfl) (pl_cons pe_d0 (pl_cons pe_d0 pl_nil)) (by rfl))
    (ss_cons (s_for (by exact g.xe) (by exact g.calm) (pi_rng1 (by rfl) (E.free 46) (pa_name (i := 4) (by rfl) (.inl (by rfl)))) (g_name (i := 7) (by exact g.nd) (by rfl) (.inl (by rfl))) (ss_cons (s_par (i := 8) (j := 9) (by exact g.calm) (by exact g.nd) (by rfl) (by rfl) (by decide) (by decide) (by decide) (by rfl) (by rfl) (pl_cons (pe_def (ks := []) G20 (by exact g.room) (by exact g.gd) (by rfl) (E.glo 20) F20.kp (b_law_draw_2 F20) (pm_cons (pa_name (i := 0) (by rfl) (.inl (by rfl))) (pm_cons (pe_arg (pe_name (i := 3) (by rfl) (.inl (by rfl)))) pm_nil)) pk_nilM) (pl_cons (pe_tupD (pl_cons (pe_def (ks := []) G22 (by exact g.room) (by exact g.gd) (by rfl) (E.glo 22) F22.kp (b_law_one_of_2 F22) (pm_cons (pa_name (i := 0) (by rfl) (.inl (by rfl))) (pm_cons (pe_arg (pe_name (i := 1) (by rfl) (.inl (by rfl)))) pm_nil)) pk_nilM) (pl_cons (pe_def (ks := []) G22 (by exact g.room) (by exact g.gd) (by rfl) (E.glo 22) F22.kp (b_law_one_of_2 F22) (pm_cons (pa_name (i := 0) (by rfl) (.inl (by rfl))) (pm_cons (pe_arg (pe_name (i := 2) (by rfl) (.inl (by rfl)))) pm_nil)) pk_nilM) pl_nil))) pl_nil)) (by rfl))
    (ss_one (s_if (pt_w (pw_andB (pt_cmpB .nin (by exact g.u) (pe_arg (pe_tupD (pl_cons pe_cStr (pl_cons (pe_sub (by exact g.u1) (pa_name (i := 9) (by rfl) (.inl (by rfl))) (pe_arg (pe_cInt (j := 0)))) (pl_cons (pe_name (i := 8) (by rfl) (.inl (by rfl))) pl_nil))))) (pa_name (i := 5) (by rfl) (.inl (by rfl)))) (pw_and1B (pt_cmpB .nin (by exact g.u) (pe_arg (pe_tupD (pl_cons pe_cStr (pl_cons (pe_sub (by exact g.u1) (pa_name (i := 9) (by rfl) (.inl (by rfl))) (pe_arg (pe_cInt (j := 0)))) (pl_cons (pe_name (i := 8) (by rfl) (.inl (by rfl))) pl_nil))))) (pa_name (i := 5) (by rfl) (.inl (by rfl))))))) (ss_cons (s_asg (pe_tupD (pl_cons pe_cBl (pl_cons pe_cBl pl_nil))) (g_tup (by exact g.calm) (gs_cons (g_sub (j := 5) (by exact g.u1) (by rfl) (.inl (by rfl)) (pe_arg (pe_tupD (pl_cons pe_cStr (pl_cons (pe_sub (by exact g.u1) (pa_name (i := 9) (by rfl) (.inl (by rfl))) (pe_arg (pe_cInt (j := 0)))) (pl_cons (pe_name (i := 8) (by rfl) (.inl (by rfl))) pl_nil)))))) (gs_cons (g_sub (j := 5) (by exact g.u1) (by rfl) (.inl (by rfl)) (pe_arg (pe_tupD (pl_cons pe_cStr (pl_cons (pe_sub (by exact g.u1) (pa_name (i := 9) (by rfl) (.inl (by rfl))) (pe_arg (pe_cInt (j := 0)))) (pl_cons (pe_name (i := 8) (by rfl) (.inl (by rfl))) pl_nil)))))) gs_nil))) (by decide))
    (ss_one (s_set (j := 6) (by exact g.u1) (by rfl) (.inl (by rfl)) (pe_fz (pe_b1 (cr_sort (by exact g.u)) (by rfl) (E.free 49) (by rfl) (pe_arg (pe_bin .add (pe_arg (pe_get2 (by exact g.u1) (pa_name (i := 6) (by rfl) (.inl (by rfl))) (pa_name (i := 9) (by rfl) (.inl (by rfl))) (pe_arg (pe_lstD pl_nil)) ⟨(by rfl), (by rfl), (by rfl), (by rfl)⟩)) (pe_arg (pe_lstD (pl_cons (pe_name (i := 8) (by rfl) (.inl (by rfl))) pl_nil))))))) (pa_name (i := 9) (by rfl) (.inl (by rfl)))))) ss_nil))) (by decide))
    (ss_one (s_ret (pe_name (i := 6) (by rfl) (.inl (by rfl)))))))
theorem st_law_late_hours {P : Program} {w : World} : Stp P w fa fn tab 26 (dd 26) D_law_late_hours := by
  refine ⟨⟨rfl, rfl, rfl, by decide, rfl, by decide +kernel, by decide +kernel⟩, ?_⟩
  intro K mg base k C E hC f cdv A outer s H hr hg
  have g := Gd.nox (P := P) (w := w) (K := K) (mg := mg) (base := base) (outer := outer) (H := H) hr hg (N := ["plan", "shift", "pair", "hour"]) (by decide) E.sms
  show PSs _ (dd 26).body (tW [] (m_law_late_hours C))
  unfold m_law_late_hours
  unfold c_law_late_hours_2
  unfold c_law_late_hours_1
  exact (ss_one (s_ret (pe_fz (pe_t1 (cr_dictP (by exact g.calm) (by exact g.u)) (by rfl) (E.free 39) (by rfl) (pe_arg (pe_comp (by exact g.calm) (by exact g.nd) (pi_dk (pe_name (i := 0) (by rfl) (.inr (.inl (by rfl))))) (own := [("pair", 2)]) (blkOk_by (by rfl)) (fun s H C cl fp => (g_name (i := 2) (by exact g.nd) (by rfl) (.inl (by rfl)))) (fun s H C cl fp => pts_none) (fun s H C cl fp => (pe_tupD (pl_cons (pe_name (i := 2) (by rfl) (.inl (by rfl))) (pl_cons (pe_fz (pe_comp (by exact g.calm) (by exact g.nd) (pi_val (pe_sub (by exact g.u1) (pa_name (i := 0) (by rfl) (.inr (.inl (by rfl)))) (pa_name (i := 2) (by rfl) (.inl (by rfl))))) (own := [("hour", 3)]) (blkOk_by (by rfl)) (fun s H C cl fp => (g_name (i := 3) (by exact g.nd) (by rfl) (.inl (by rfl)))) (fun s H C cl fp => pts_none) (fun s H C cl fp => (pe_fz (pe_bin .add (pa_name (i := 3) (by rfl) (.inl (by rfl))) (pa_name (i := 1) (by rfl) (.inr (.inl (by rfl))))))) (by decide))) pl_nil)))) (by decide)))))))
theorem st_law_able {P : Program} {w : World} : Stp P w fa fn tab 27 (dd 27) D_law_able := by
  refine ⟨⟨rfl, rfl, rfl, by decide, rfl, by decide +kernel, by decide +kernel⟩, ?_⟩
  intro K mg base k C E hC f cdv A outer s H hr hg
  have g := Gd.nox (P := P) (w := w) (K := K) (mg := mg) (base := base) (outer := outer) (H := H) hr hg (N := ["purse", "plan", "teachers", "found", "group", "pair"]) (by decide) E.sms
  obtain ⟨fd23, F23, G23⟩ := fn_get E hC 23 rfl (D := D_law_shuffled) rfl
  obtain ⟨fd20, F20, G20⟩ := fn_get E hC 20 rfl (D := D_law_draw) rfl
  show PSs _ (dd 27).body (tW [3, 4] (m_law_able C))
  unfold m_law_able
  unfold l_law_able_1
  unfold t_law_able_1
  unfold c_law_able_1
  exact (ss_cons (s_asg pe_d0 (g_name (i := 3) (by exact g.nd) (by rfl) (.inl (by rfl))) (by decide))
    (ss_cons (s_for (by exact g.xe) (by exact g.calm) (pi_val (pe_fz (pe_srtset (by exact g.calm) (by exact g.u) (by rfl) (E.free 49) (by rfl) (by rfl) (E.free 48) (by rfl) (pe_arg (pe_comp (by exact g.calm) (by exact g.nd) (pi_dk (pe_name (i := 1) (by rfl) (.inl (by rfl)))) (own := [("pair", 5)]) (blkOk_by (by rfl)) (fun s H C cl fp => (g_name (i := 5) (by exact g.nd) (by rfl) (.inl (by rfl)))) (fun s H C cl fp => pts_none) (fun s H C cl fp => (pe_sub (by exact g.u1) (pa_name (i := 5) (by rfl) (.inl (by rfl))) (pe_arg (pe_cInt (j := 0))))) (by decide)))))) (g_name (i := 4) (by exact g.nd) (by rfl) (.inl (by rfl))) (ss_one (s_set (j := 3) (by exact g.u1) (by rfl) (.inl (by rfl)) (pe_fz (pe_b1 (cr_sort (by exact g.u)) (by rfl) (E.free 49) (by rfl) (pe_arg (pe_slc (pe_arg (pe_def (ks := []) G23 (by exact g.room) (by exact g.gd) (by rfl) (E.glo 23) F23.kp (b_law_shuffled_2 F23) (pm_cons (pa_name (i := 0) (by rfl) (.inl (by rfl))) (pm_cons (pe_arg (pe_name (i := 2) (by rfl) (.inl (by rfl)))) pm_nil)) pk_nilM)) po_no (po_yes (pe_arg (pe_def (ks := []) G20 (by exact g.room) (by exact g.gd) (by rfl) (E.glo 20) F20.kp (b_law_draw_2 F20) (pm_cons (pa_name (i := 0) (by rfl) (.inl (by rfl))) (pm_cons (pe_arg (pe_bin .add (pe_arg (pe_b1 cr_len (by rfl) (E.free 42) (by rfl) (pa_name (i := 2) (by rfl) (.inl (by rfl))))) (pe_arg (pe_cInt (j := 0))))) pm_nil)) pk_nilM))))))) (pa_name (i := 4) (by rfl) (.inl (by rfl))))) (by decide))
    (ss_one (s_ret (pe_name (i := 3) (by rfl) (.inl (by rfl)))))))
theorem st_law_shut {P : Program} {w : World} : Stp P w fa fn tab 28 (dd 28) D_law_shut := by
  refine ⟨⟨rfl, rfl, rfl, by decide, rfl, by decide +kernel, by decide +kernel⟩, ?_⟩
  intro K mg base k C E hC f cdv A outer s H hr hg
  have g := Gd.nox (P := P) (w := w) (K := K) (mg := mg) (base := base) (outer := outer) (H := H) hr hg (N := ["purse", "teachers", "many", "found", "teacher", "spin"]) (by decide) E.sms
  obtain ⟨fd20, F20, G20⟩ := fn_get E hC 20 rfl (D := D_law_draw) rfl
  show PSs _ (dd 28).body (tW [3, 4] (m_law_shut C))
  unfold m_law_shut
  unfold l_law_shut_1
  unfold t_law_shut_1
  unfold c_law_shut_1
  exact (ss_cons (s_asg pe_d0 (g_name (i := 3) (by exact g.nd) (by rfl) (.inl (by rfl))) (by decide))
    (ss_cons (s_for (by exact g.xe) (by exact g.calm) (pi_val (pe_name (i := 1) (by rfl) (.inl (by rfl)))) (g_name (i := 4) (by exact g.nd) (by rfl) (.inl (by rfl))) (ss_one (s_if (pt_cmpB .eq (by exact g.u) (pe_arg (pe_def (ks := []) G20 (by exact g.room) (by exact g.gd) (by rfl) (E.glo 20) F20.kp (b_law_draw_2 F20) (pm_cons (pa_name (i := 0) (by rfl) (.inr (.inl (by rfl)))) (pm_cons (pe_arg (pe_cInt (j := 0))) pm_nil)) pk_nilM)) (pe_arg (pe_cInt (j := 0)))) (ss_one (s_set (j := 3) (by exact g.u1) (by rfl) (.inl (by rfl)) (pe_fz (pe_srtset (by exact g.calm) (by exact g.u) (by rfl) (E.free 49) (by rfl) (by rfl) (E.free 48) (by rfl) (pe_arg (pe_comp (by exact g.calm) (by exact g.nd) (pi_rng1 (by rfl) (E.free 46) (pe_arg (pe_def (ks := []) G20 (by exact g.room) (by exact g.gd) (by rfl) (E.glo 20) F20.kp (b_law_draw_2 F20) (pm_cons (pa_name (i := 0) (by rfl) (.inr (.inl (by rfl)))) (pm_cons (pe_arg (pe_cInt (j := 0))) pm_nil)) pk_nilM))) (own := [("spin", 5)]) (blkOk_by (by rfl)) (fun s H C cl fp => (g_name (i := 5) (by exact g.nd) (by rfl) (.inl (by rfl)))) (fun s H C cl fp => pts_none) (fun s H C cl fp => (pe_def (ks := []) G20 (by exact g.room) (by exact g.gd) (by rfl) (E.glo 20) F20.kp (b_law_draw_2 F20) (pm_cons (pa_name (i := 0) (by rfl) (.inr (.inl (by rfl)))) (pm_cons (pe_arg (pe_name (i := 2) (by rfl) (.inr (.inl (by rfl))))) pm_nil)) pk_nilM)) (by decide))))) (pa_name (i := 4) (by rfl) (.inl (by rfl))))) ss_nil)) (by decide))
    (ss_one (s_ret (pe_name (i := 3) (by rfl) (.inl (by rfl)))))))
theorem st_law_busy {P : Program} {w : World} : Stp P w fa fn tab 29 (dd 29) D_law_busy := by
  refine ⟨⟨rfl, rfl, rfl, by decide, rfl, by decide +kernel, by decide +kernel⟩, ?_⟩
  intro K mg base k C E hC f cdv A outer s H hr hg
  have g := Gd.nox (P := P) (w := w) (K := K) (mg := mg) (base := base) (outer := outer) (H := H) hr hg (N := ["plan", "teacher", "hour", "pair"]) (by decide) E.sms
  show PSs _ (dd 29).body (tW [] (m_law_busy C))
  unfold m_law_busy
  unfold c_law_busy_1
  exact (ss_one (s_ret (pe_cmp' .ne (by exact g.u) (pe_arg (pe_comp (by exact g.calm) (by exact g.nd) (pi_dk (pe_name (i := 0) (by rfl) (.inr (.inl (by rfl))))) (own := [("pair", 3)]) (blkOk_by (by rfl)) (fun s H C cl fp => (g_name (i := 3) (by exact g.nd) (by rfl) (.inl (by rfl)))) (fun s H C cl fp => (pts_if (pt_w (pw_andB (pt_cmpB .eq (by exact g.u) (pe_arg (pe_sub (by exact g.u1) (pa_name (i := 3) (by rfl) (.inl (by rfl))) (pe_arg (pe_cInt (j := 0))))) (pa_name (i := 1) (by rfl) (.inr (.inl (by rfl))))) (pw_and1B (pt_cmpB .inn (by exact g.u) (pa_name (i := 2) (by rfl) (.inr (.inl (by rfl)))) (pe_arg (pe_sub (by exact g.u1) (pa_name (i := 0) (by rfl) (.inr (.inl (by rfl)))) (pa_name (i := 3) (by rfl) (.inl (by rfl))))))))))) (fun s H C cl fp => (pe_name (i := 3) (by rfl) (.inl (by rfl)))) (by decide))) (pe_arg (pe_lstD pl_nil)))))
theorem st_law_free {P : Program} {w : World} : Stp P w fa fn tab 30 (dd 30) D_law_free := by
  refine ⟨⟨rfl, rfl, rfl, by decide, rfl, by decide +kernel, by decide +kernel⟩, ?_⟩
  intro K mg base k C E hC f cdv A outer s H hr hg
  have g := Gd.nox (P := P) (w := w) (K := K) (mg := mg) (base := base) (outer := outer) (H := H) hr hg (N := ["plan", "able", "shut", "group", "hour", "found", "one"]) (by decide) E.sms
  obtain ⟨fd29, F29, G29⟩ := fn_get E hC 29 rfl (D := D_law_busy) rfl
  show PSs _ (dd 30).body (tW [5] (m_law_free C))
  unfold m_law_free
  unfold c_law_free_2
  unfold c_law_free_1
  exact (ss_cons (s_fz (s_comp (i := 5) (by exact g.calm) (by exact g.nd) (by rfl) (by rfl) (by decide) (sw_true (by rfl) (by rfl) (by rfl) (by rfl)) (pi_val (pe_sub (by exact g.u1) (pa_name (i := 1) (by rfl) (.inl (by rfl))) (pa_name (i := 3) (by rfl) (.inl (by rfl))))) (own := [("one", 6)]) (blkOk_by (by rfl)) (fun s H C cl fp => (g_name (i := 6) (by exact g.nd) (by rfl) (.inl (by rfl)))) (fun s H C cl fp => (pts_if (pt_notB (pt_bool (pe_def (ks := []) G29 (by exact g.room) (by exact g.gd) (by rfl) (E.glo 29) F29.kp (b_law_busy_3 F29) (pm_cons (pe_arg (pe_name (i := 0) (by rfl) (.inr (.inl (by rfl))))) (pm_cons (pe_arg (pe_name (i := 6) (by rfl) (.inl (by rfl)))) (pm_cons (pe_arg (pe_name (i := 4) (by rfl) (.inr (.inl (by rfl))))) pm_nil))) pk_nilM))))) (fun s H C cl fp => (pe_name (i := 6) (by rfl) (.inl (by rfl)))) (by decide)))
    (ss_one (s_ret (pe_fz (pe_comp (by exact g.calm) (by exact g.nd) (pi_val (pe_name (i := 5) (by rfl) (.inl (by rfl)))) (own := [("one", 6)]) (blkOk_by (by rfl)) (fun s H C cl fp => (g_name (i := 6) (by exact g.nd) (by rfl) (.inl (by rfl)))) (fun s H C cl fp => (pts_if (pt_cmpB .nin (by exact g.u) (pa_name (i := 4) (by rfl) (.inr (.inl (by rfl)))) (pe_arg (pe_get2 (by exact g.u1) (pa_name (i := 2) (by rfl) (.inr (.inl (by rfl)))) (pa_name (i := 6) (by rfl) (.inl (by rfl))) (pe_arg (pe_lstD pl_nil)) ⟨(by rfl), (by rfl), (by rfl), (by rfl)⟩))))) (fun s H C cl fp => (pe_name (i := 6) (by rfl) (.inl (by rfl)))) (by decide))))))
theorem st_law_lessons {P : Program} {w : World} : Stp P w fa fn tab 31 (dd 31) D_law_lessons := by
  refine ⟨⟨rfl, rfl, rfl, by decide, rfl, by decide +kernel, by decide +kernel⟩, ?_⟩
  intro K mg base k C E hC f cdv A outer s H hr hg
  have g := Gd.nox (P := P) (w := w) (K := K) (mg := mg) (base := base) (outer := outer) (H := H) hr hg (N := ["plan", "found", "pair", "hour"]) (by decide) E.sms
  show PSs _ (dd 31).body (tW [1, 2] (m_law_lessons C))
  unfold m_law_lessons
  unfold l_law_lessons_1
  unfold t_law_lessons_1
  unfold c_law_lessons_1
  exact (ss_cons (s_asg (pe_fz (pe_lstD pl_nil)) (g_name (i := 1) (by exact g.nd) (by rfl) (.inl (by rfl))) (by decide))
    (ss_cons (s_for (by exact g.xe) (by exact g.calm) (pi_dk (pe_name (i := 0) (by rfl) (.inl (by rfl)))) (g_name (i := 2) (by exact g.nd) (by rfl) (.inr (by rfl))) (ss_one (s_asg (pe_fz (pe_bin .add (pa_name (i := 1) (by rfl) (.inl (by rfl))) (pe_arg (pe_comp (by exact g.calm) (by exact g.nd) (pi_val (pe_sub (by exact g.u1) (pa_name (i := 0) (by rfl) (.inl (by rfl))) (pa_name (i := 2) (by rfl) (.inr (.inl (by rfl)))))) (own := [("hour", 3)]) (blkOk_by (by rfl)) (fun s H C cl fp => (g_name (i := 3) (by exact g.nd) (by rfl) (.inl (by rfl)))) (fun s H C cl fp => pts_none) (fun s H C cl fp => (pe_tupD (pl_cons (pe_name (i := 3) (by rfl) (.inl (by rfl))) (pl_cons (pe_sub (by exact g.u1) (pa_name (i := 2) (by rfl) (.inr (.inl (by rfl)))) (pe_arg (pe_cInt (j := 0)))) (pl_cons (pe_sub (by exact g.u1) (pa_name (i := 2) (by rfl) (.inr (.inl (by rfl)))) (pe_arg (pe_cInt (j := 0)))) pl_nil))))) (by decide))))) (g_name (i := 1) (by exact g.nd) (by rfl) (.inl (by rfl))) (by decide))) (by decide))
    (ss_one (s_ret (pe_fz (pe_b1 (cr_sort (by exact g.u)) (by rfl) (E.free 49) (by rfl) (pa_name (i := 1) (by rfl) (.inl (by rfl)))))))))
theorem st_law_calls {P : Program} {w : World} : Stp P w fa fn tab 32 (dd 32) D_law_calls := by
  refine ⟨⟨rfl, rfl, rfl, by decide, rfl, by decide +kernel, by decide +kernel⟩, ?_⟩
  intro K mg base k C E hC f cdv A outer s H hr hg
  have g := Gd.nox (P := P) (w := w) (K := K) (mg := mg) (base := base) (outer := outer) (H := H) hr hg (N := ["plan", "able", "shut", "ill", "found", "hour", "group", "teacher", "one"]) (by decide) E.sms
  obtain ⟨fd31, F31, G31⟩ := fn_get E hC 31 rfl (D := D_law_lessons) rfl
  obtain ⟨fd30, F30, G30⟩ := fn_get E hC 30 rfl (D := D_law_free) rfl
  show PSs _ (dd 32).body (tW [4, 5, 6, 7] (m_law_calls C))
  unfold m_law_calls
  unfold l_law_calls_1
  unfold t_law_calls_1
  unfold c_law_calls_1
  exact (ss_cons (s_asg (pe_lstD pl_nil) (g_name (i := 4) (by exact g.nd) (by rfl) (.inl (by rfl))) (by decide))
    (ss_cons (s_for (by exact g.xe) (by exact g.calm) (pi_val (pe_def (ks := []) G31 (by exact g.room) (by exact g.gd) (by rfl) (E.glo 31) F31.kp (b_law_lessons_1 F31) (pm_cons (pe_arg (pe_name (i := 0) (by rfl) (.inl (by rfl)))) pm_nil) pk_nilM)) (g_tup (by exact g.calm) (gs_cons (g_name (i := 5) (by exact g.nd) (by rfl) (.inl (by rfl))) (gs_cons (g_name (i := 6) (by exact g.nd) (by rfl) (.inl (by rfl))) (gs_cons (g_name (i := 7) (by exact g.nd) (by rfl) (.inl (by rfl))) gs_nil)))) (ss_one (s_if (pt_cmpB .inn (by exact g.u) (pa_name (i := 7) (by rfl) (.inl (by rfl))) (pa_name (i := 3) (by rfl) (.inr (.inl (by rfl))))) (ss_one (s_expr (pe_mm .append (i := 4) (by rfl) (.inl (by rfl)) PySem.F.slot_list_append PySem.F.type_list_append (pl_cons (pe_tupD (pl_cons (pe_name (i := 5) (by rfl) (.inl (by rfl))) (pl_cons (pe_name (i := 6) (by rfl) (.inl (by rfl))) (pl_cons (pe_fz (pe_comp (by exact g.calm) (by exact g.nd) (pi_val (pe_def (ks := []) G30 (by exact g.room) (by exact g.gd) (by rfl) (E.glo 30) F30.kp (b_law_free_5 F30) (pm_cons (pe_arg (pe_name (i := 0) (by rfl) (.inl (by rfl)))) (pm_cons (pe_arg (pe_name (i := 1) (by rfl) (.inl (by rfl)))) (pm_cons (pe_arg (pe_name (i := 2) (by rfl) (.inl (by rfl)))) (pm_cons (pe_arg (pe_name (i := 6) (by rfl) (.inl (by rfl)))) (pm_cons (pe_arg (pe_name (i := 5) (by rfl) (.inl (by rfl)))) pm_nil))))) pk_nilM)) (own := [("one", 8)]) (blkOk_by (by rfl)) (fun s H C cl fp => (g_name (i := 8) (by exact g.nd) (by rfl) (.inl (by rfl)))) (fun s H C cl fp => (pts_if (pt_cmpB .nin (by exact g.u) (pa_name (i := 8) (by rfl) (.inl (by rfl))) (pa_name (i := 3) (by rfl) (.inr (.inl (by rfl))))))) (fun s H C cl fp => (pe_name (i := 8) (by rfl) (.inl (by rfl)))) (by decide))) pl_nil)))) pl_nil)))) ss_nil)) (by decide))
    (ss_one (s_ret (pe_fz (pe_b1 (cr_sort (by exact g.u)) (by rfl) (E.free 49) (by rfl) (pa_name (i := 4) (by rfl) (.inl (by rfl)))))))))
theorem st_law_can_all {P : Program} {w : World} : Stp P w fa fn tab 33 (dd 33) D_law_can_all := by
  refine ⟨⟨rfl, rfl, rfl, by decide, rfl, by decide +kernel, by decide +kernel⟩, ?_⟩
  intro K mg base k C E hC f cdv A outer s H hr hg
  have g := Gd.nox (P := P) (w := w) (K := K) (mg := mg) (base := base) (outer := outer) (H := H) hr hg (N := ["calls", "hour", "ways", "call", "longer", "way", "one", "teacher"]) (by decide) E.sms
  show PSs _ (dd 33).body (tW [1, 2, 3, 4, 5] (m_law_can_all C))
  unfold m_law_can_all
  unfold l_law_can_all_3
  unfold t_law_can_all_3
  unfold l_law_can_all_2
  unfold t_law_can_all_2
  unfold l_law_can_all_1
  unfold t_law_can_all_1
  unfold c_law_can_all_3
  unfold c_law_can_all_2
  unfold c_law_can_all_1
  exact (ss_cons (s_for (by exact g.xe) (by exact g.calm) (pi_val (pe_fz (pe_srtset (by exact g.calm) (by exact g.u) (by rfl) (E.free 49) (by rfl) (by rfl) (E.free 48) (by rfl) (pe_arg (pe_comp (by exact g.calm) (by exact g.nd) (pi_val (pe_name (i := 0) (by rfl) (.inl (by rfl)))) (own := [("call", 3)]) (blkOk_by (by rfl)) (fun s H C cl fp => (g_name (i := 3) (by exact g.nd) (by rfl) (.inl (by rfl)))) (fun s H C cl fp => pts_none) (fun s H C cl fp => (pe_sub (by exact g.u1) (pa_name (i := 3) (by rfl) (.inl (by rfl))) (pe_arg (pe_cInt (j := 0))))) (by decide)))))) (g_name (i := 1) (by exact g.nd) (by rfl) (.inr (by rfl))) (ss_cons (s_asg (pe_fz (pe_lstD (pl_cons (pe_fz (pe_lstD pl_nil)) pl_nil))) (g_name (i := 2) (by exact g.nd) (by rfl) (.inl (by rfl))) (by decide))
    (ss_cons (s_for (by exact g.xe) (by exact g.calm) (pi_val (pe_fz (pe_comp (by exact g.calm) (by exact g.nd) (pi_val (pe_name (i := 0) (by rfl) (.inl (by rfl)))) (own := [("one", 6)]) (blkOk_by (by rfl)) (fun s H C cl fp => (g_name (i := 6) (by exact g.nd) (by rfl) (.inl (by rfl)))) (fun s H C cl fp => (pts_if (pt_cmpB .eq (by exact g.u) (pe_arg (pe_sub (by exact g.u1) (pa_name (i := 6) (by rfl) (.inl (by rfl))) (pe_arg (pe_cInt (j := 0))))) (pa_name (i := 1) (by rfl) (.inr (.inl (by rfl))))))) (fun s H C cl fp => (pe_name (i := 6) (by rfl) (.inl (by rfl)))) (by decide)))) (g_name (i := 3) (by exact g.nd) (by rfl) (.inl (by rfl))) (ss_cons (s_asg (pe_fz (pe_lstD pl_nil)) (g_name (i := 4) (by exact g.nd) (by rfl) (.inl (by rfl))) (by decide))
    (ss_cons (s_for (by exact g.xe) (by exact g.calm) (pi_val (pe_name (i := 2) (by rfl) (.inl (by rfl)))) (g_name (i := 5) (by exact g.nd) (by rfl) (.inr (by rfl))) (ss_one (s_asg (pe_fz (pe_bin .add (pa_name (i := 4) (by rfl) (.inl (by rfl))) (pe_arg (pe_comp (by exact g.calm) (by exact g.nd) (pi_val (pe_sub (by exact g.u1) (pa_name (i := 3) (by rfl) (.inl (by rfl))) (pe_arg (pe_cInt (j := 0))))) (own := [("teacher", 7)]) (blkOk_by (by rfl)) (fun s H C cl fp => (g_name (i := 7) (by exact g.nd) (by rfl) (.inl (by rfl)))) (fun s H C cl fp => (pts_if (pt_cmpB .nin (by exact g.u) (pa_name (i := 7) (by rfl) (.inl (by rfl))) (pa_name (i := 5) (by rfl) (.inr (.inl (by rfl))))))) (fun s H C cl fp => (pe_fz (pe_bin .add (pa_name (i := 5) (by rfl) (.inr (.inl (by rfl)))) (pe_arg (pe_lstD (pl_cons (pe_name (i := 7) (by rfl) (.inl (by rfl))) pl_nil)))))) (by decide))))) (g_name (i := 4) (by exact g.nd) (by rfl) (.inl (by rfl))) (by decide))) (by decide))
    (ss_one (s_asg (pe_name (i := 4) (by rfl) (.inl (by rfl))) (g_name (i := 2) (by exact g.nd) (by rfl) (.inl (by rfl))) (by decide))))) (by decide))
    (ss_one (s_if (pt_cmpB .eq (by exact g.u) (pa_name (i := 2) (by rfl) (.inl (by rfl))) (pe_arg (pe_lstD pl_nil))) (ss_one (s_ret pe_cBl)) ss_nil)))) (by decide))
    (ss_one (s_ret pe_cBl)))
theorem st_law_lists {P : Program} {w : World} : Stp P w fa fn tab 34 (dd 34) D_law_lists := by
  refine ⟨⟨rfl, rfl, rfl, by decide, rfl, by decide +kernel, by decide +kernel⟩, ?_⟩
  intro K mg base k C E hC f cdv A outer s H hr hg
  have g := Gd.nox (P := P) (w := w) (K := K) (mg := mg) (base := base) (outer := outer) (H := H) hr hg (N := ["names", "most", "found", "name", "row"]) (by decide) E.sms
  show PSs _ (dd 34).body (tW [2, 3] (m_law_lists C))
  unfold m_law_lists
  unfold l_law_lists_1
  unfold t_law_lists_1
  unfold c_law_lists_1
  exact (ss_cons (s_asg (pe_fz (pe_lstD (pl_cons (pe_fz (pe_lstD pl_nil)) pl_nil))) (g_name (i := 2) (by exact g.nd) (by rfl) (.inl (by rfl))) (by decide))
    (ss_cons (s_for (by exact g.xe) (by exact g.calm) (pi_val (pe_name (i := 0) (by rfl) (.inl (by rfl)))) (g_name (i := 3) (by exact g.nd) (by rfl) (.inr (by rfl))) (ss_one (s_asg (pe_fz (pe_bin .add (pa_name (i := 2) (by rfl) (.inl (by rfl))) (pe_arg (pe_comp (by exact g.calm) (by exact g.nd) (pi_val (pe_name (i := 2) (by rfl) (.inl (by rfl)))) (own := [("row", 4)]) (blkOk_by (by rfl)) (fun s H C cl fp => (g_name (i := 4) (by exact g.nd) (by rfl) (.inl (by rfl)))) (fun s H C cl fp => (pts_if (pt_cmpB .lt (by exact g.u) (pe_arg (pe_b1 cr_len (by rfl) (E.free 42) (by rfl) (pa_name (i := 4) (by rfl) (.inl (by rfl))))) (pa_name (i := 1) (by rfl) (.inr (.inl (by rfl))))))) (fun s H C cl fp => (pe_fz (pe_bin .add (pa_name (i := 4) (by rfl) (.inl (by rfl))) (pe_arg (pe_lstD (pl_cons (pe_name (i := 3) (by rfl) (.inr (.inl (by rfl)))) pl_nil)))))) (by decide))))) (g_name (i := 2) (by exact g.nd) (by rfl) (.inl (by rfl))) (by decide))) (by decide))
    (ss_one (s_ret (pe_name (i := 2) (by rfl) (.inl (by rfl)))))))
theorem st_law_safe_right {P : Program} {w : World} : Stp P w fa fn tab 35 (dd 35) D_law_safe_right := by
  refine ⟨⟨rfl, rfl, rfl, by decide, rfl, by decide +kernel, by decide +kernel⟩, ?_⟩
  intro K mg base k C E hC f cdv A outer s H hr hg
  have g := Gd.nox (P := P) (w := w) (K := K) (mg := mg) (base := base) (outer := outer) (H := H) hr hg (N := ["plan", "able", "shut", "teachers", "free", "due", "weak", "told", "beyond", "again", "bent_way", "late", "ill", "lesson"]) (by decide) E.sms
  obtain ⟨fd16, F16, G16⟩ := fn_get E hC 16 rfl (D := D_weakest_lessons) rfl
  obtain ⟨fd24, F24, G24⟩ := fn_get E hC 24 rfl (D := D_law_exact) rfl
  obtain ⟨fd32, F32, G32⟩ := fn_get E hC 32 rfl (D := D_law_calls) rfl
  obtain ⟨fd33, F33, G33⟩ := fn_get E hC 33 rfl (D := D_law_can_all) rfl
  obtain ⟨fd34, F34, G34⟩ := fn_get E hC 34 rfl (D := D_law_lists) rfl
  obtain ⟨fd17, F17, G17⟩ := fn_get E hC 17 rfl (D := D_ill_beyond) rfl
  obtain ⟨fd15, F15, G15⟩ := fn_get E hC 15 rfl (D := D_safe_number) rfl
  obtain ⟨fd31, F31, G31⟩ := fn_get E hC 31 rfl (D := D_law_lessons) rfl
  obtain ⟨fd30, F30, G30⟩ := fn_get E hC 30 rfl (D := D_law_free) rfl
  show PSs _ (dd 35).body (tW [4, 5, 6, 7, 8, 9, 10, 11, 12] (m_law_safe_right C))
  unfold m_law_safe_right
  unfold s_law_safe_right_16
  unfold c_law_safe_right_3
  unfold s_law_safe_right_15
  unfold c_law_safe_right_2
  unfold s_law_safe_right_14
  unfold c_law_safe_right_1
  unfold s_law_safe_right_13
  unfold s_law_safe_right_12
  unfold s_law_safe_right_11
  unfold s_law_safe_right_10
  unfold s_law_safe_right_9
  unfold s_law_safe_right_8
  unfold s_law_safe_right_7
  unfold s_law_safe_right_6
  unfold s_law_safe_right_5
  unfold s_law_safe_right_4
  unfold l_law_safe_right_1
  unfold t_law_safe_right_1
  unfold s_law_safe_right_3
  unfold s_law_safe_right_2
  unfold s_law_safe_right_1
  exact (ss_cons (s_asg (pe_fz (pe_t1 (cr_dictP (by exact g.calm) (by exact g.u)) (by rfl) (E.free 39) (by rfl) (pe_arg (pe_comp (by exact g.calm) (by exact g.nd) (pi_val (pe_def (ks := []) G31 (by exact g.room) (by exact g.gd) (by rfl) (E.glo 31) F31.kp (b_law_lessons_1 F31) (pm_cons (pe_arg (pe_name (i := 0) (by rfl) (.inr (.inl (by rfl))))) pm_nil) pk_nilM)) (own := [("lesson", 13)]) (blkOk_by (by rfl)) (fun s H C cl fp => (g_name (i := 13) (by exact g.nd) (by rfl) (.inl (by rfl)))) (fun s H C cl fp => pts_none) (fun s H C cl fp => (pe_tupD (pl_cons (pe_name (i := 13) (by rfl) (.inl (by rfl))) (pl_cons (pe_def (ks := []) G30 (by exact g.room) (by exact g.gd) (by rfl) (E.glo 30) F30.kp (b_law_free_5 F30) (pm_cons (pe_arg (pe_name (i := 0) (by rfl) (.inr (.inl (by rfl))))) (pm_cons (pe_arg (pe_name (i := 1) (by rfl) (.inr (.inl (by rfl))))) (pm_cons (pe_arg (pe_name (i := 2) (by rfl) (.inr (.inl (by rfl))))) (pm_cons (pe_arg (pe_sub (by exact g.u1) (pa_name (i := 13) (by rfl) (.inl (by rfl))) (pe_arg (pe_cInt (j := 0))))) (pm_cons (pe_arg (pe_sub (by exact g.u1) (pa_name (i := 13) (by rfl) (.inl (by rfl))) (pe_arg (pe_cInt (j := 0))))) pm_nil))))) pk_nilM) pl_nil)))) (by decide))))) (g_name (i := 4) (by exact g.nd) (by rfl) (.inr (by rfl))) (by decide))
    (ss_cons (s_asg (pe_ite (pt_cmpB .ne (by exact g.u) (pa_name (i := 4) (by rfl) (.inr (.inl (by rfl)))) (pe_arg pe_d0)) (pe_b1 (cr_minL (by exact g.calm) (by exact g.u)) (by rfl) (E.free 45) (by rfl) (pe_arg (pe_comp (by exact g.calm) (by exact g.nd) (pi_dk (pe_name (i := 4) (by rfl) (.inr (.inl (by rfl))))) (own := [("lesson", 13)]) (blkOk_by (by rfl)) (fun s H C cl fp => (g_name (i := 13) (by exact g.nd) (by rfl) (.inl (by rfl)))) (fun s H C cl fp => pts_none) (fun s H C cl fp => (pe_b1 cr_len (by rfl) (E.free 42) (by rfl) (pe_arg (pe_sub (by exact g.u1) (pa_name (i := 4) (by rfl) (.inr (.inl (by rfl)))) (pa_name (i := 13) (by rfl) (.inl (by rfl))))))) (by decide)))) pe_cNon) (g_name (i := 5) (by exact g.nd) (by rfl) (.inr (by rfl))) (by decide))
    (ss_cons (s_asg (pe_fz (pe_b1 (cr_sort (by exact g.u)) (by rfl) (E.free 49) (by rfl) (pe_arg (pe_comp (by exact g.calm) (by exact g.nd) (pi_dk (pe_name (i := 4) (by rfl) (.inr (.inl (by rfl))))) (own := [("lesson", 13)]) (blkOk_by (by rfl)) (fun s H C cl fp => (g_name (i := 13) (by exact g.nd) (by rfl) (.inl (by rfl)))) (fun s H C cl fp => (pts_if (pt_cmpB .eq (by exact g.u) (pe_arg (pe_b1 cr_len (by rfl) (E.free 42) (by rfl) (pe_arg (pe_sub (by exact g.u1) (pa_name (i := 4) (by rfl) (.inr (.inl (by rfl)))) (pa_name (i := 13) (by rfl) (.inl (by rfl))))))) (pa_name (i := 5) (by rfl) (.inr (.inl (by rfl))))))) (fun s H C cl fp => (pe_fz (pe_slc (pa_name (i := 13) (by rfl) (.inl (by rfl))) po_no (po_yes (pe_arg (pe_cInt (j := 0))))))) (by decide))))) (g_name (i := 6) (by exact g.nd) (by rfl) (.inl (by rfl))) (by decide))
    (ss_cons (s_par (i := 7) (j := 8) (by exact g.calm) (by exact g.nd) (by rfl) (by rfl) (by decide) (by decide) (by decide) (by rfl) (by rfl) (pl_cons (pe_lstD (pl_cons (pe_def (ks := []) G15 (by exact g.room) (by exact g.gd) (by rfl) (E.glo 15) F15.kp (b_safe_number_3 F15) (pm_cons (pe_arg (pe_name (i := 0) (by rfl) (.inr (.inl (by rfl))))) (pm_cons (pe_arg (pe_name (i := 1) (by rfl) (.inr (.inl (by rfl))))) (pm_cons (pe_arg (pe_name (i := 2) (by rfl) (.inr (.inl (by rfl))))) pm_nil))) pk_nilM) (pl_cons (pe_def (ks := []) G16 (by exact g.room) (by exact g.gd) (by rfl) (E.glo 16) F16.kp (b_weakest_lessons_3 F16) (pm_cons (pe_arg (pe_name (i := 0) (by rfl) (.inr (.inl (by rfl))))) (pm_cons (pe_arg (pe_name (i := 1) (by rfl) (.inr (.inl (by rfl))))) (pm_cons (pe_arg (pe_name (i := 2) (by rfl) (.inr (.inl (by rfl))))) pm_nil))) pk_nilM) pl_nil))) (pl_cons (pe_def (ks := []) G17 (by exact g.room) (by exact g.gd) (by rfl) (E.glo 17) F17.kp (b_ill_beyond_3 F17) (pm_cons (pe_arg (pe_name (i := 0) (by rfl) (.inr (.inl (by rfl))))) (pm_cons (pe_arg (pe_name (i := 1) (by rfl) (.inr (.inl (by rfl))))) (pm_cons (pe_arg (pe_name (i := 2) (by rfl) (.inr (.inl (by rfl))))) pm_nil))) pk_nilM) pl_nil)) (by rfl))
    (ss_cons (s_if (pt_notB (pt_bool (pe_pure (pe_def (ks := []) G24 (by exact g.room) (by exact g.gd) (by rfl) (E.glo 24) F24.kp (b_law_exact_2 F24) (pm_cons (pe_arg (pe_fz (pe_lstD (pl_cons (pe_name (i := 5) (by rfl) (.inr (.inl (by rfl)))) (pl_cons (pe_name (i := 6) (by rfl) (.inl (by rfl))) pl_nil))))) (pm_cons (pe_arg (pe_name (i := 7) (by rfl) (.inl (by rfl)))) pm_nil)) pk_nilM)))) (ss_one (s_ret pe_cBl)) ss_nil)
    (ss_cons (s_asg (pe_fz (pe_lstD (pl_cons (pe_defK (ks := ["shut", "able", "plan"]) G15 (by exact g.room) (by exact g.gd) (by rfl) (E.glo 15) F15.kp (b_safe_number_0_shut_able_plan F15) (pk_consM (pe_arg (pe_name (i := 2) (by rfl) (.inr (.inl (by rfl))))) (pk_consM (pe_arg (pe_name (i := 1) (by rfl) (.inr (.inl (by rfl))))) (pk_consM (pe_arg (pe_name (i := 0) (by rfl) (.inr (.inl (by rfl))))) pk_nilM)))) (pl_cons (pe_fz (pe_defK (ks := ["shut", "able", "plan"]) G16 (by exact g.room) (by exact g.gd) (by rfl) (E.glo 16) F16.kp (b_weakest_lessons_0_shut_able_plan F16) (pk_consM (pe_arg (pe_name (i := 2) (by rfl) (.inr (.inl (by rfl))))) (pk_consM (pe_arg (pe_name (i := 1) (by rfl) (.inr (.inl (by rfl))))) (pk_consM (pe_arg (pe_name (i := 0) (by rfl) (.inr (.inl (by rfl))))) pk_nilM))))) pl_nil)))) (g_name (i := 9) (by exact g.nd) (by rfl) (.inl (by rfl))) (by decide))
    (ss_cons (s_if (pt_w (pw_orB (pt_notB (pt_bool (pe_def (ks := []) G24 (by exact g.room) (by exact g.gd) (by rfl) (E.glo 24) F24.kp (b_law_exact_2 F24) (pm_cons (pe_arg (pe_fz (pe_lstD (pl_cons (pe_name (i := 5) (by rfl) (.inr (.inl (by rfl)))) (pl_cons (pe_name (i := 6) (by rfl) (.inl (by rfl))) pl_nil))))) (pm_cons (pe_arg (pe_name (i := 9) (by rfl) (.inl (by rfl)))) pm_nil)) pk_nilM))) (pw_or1B (pt_cmpB .ne (by exact g.u) (pe_arg (pe_cmp' .is (by exact g.u) (pa_name (i := 8) (by rfl) (.inl (by rfl))) (pe_arg pe_cNon))) (pe_arg (pe_cmp' .is (by exact g.u) (pa_name (i := 5) (by rfl) (.inr (.inl (by rfl)))) (pe_arg pe_cNon))))))) (ss_one (s_ret pe_cBl)) ss_nil)
    (ss_cons (s_asg (pe_fz (pe_t1 (cr_dictP (by exact g.calm) (by exact g.u)) (by rfl) (E.free 39) (by rfl) (pe_arg (pe_revD (pe_arg (pe_itl (by exact g.calm) (pe_name (i := 1) (by rfl) (.inr (.inl (by rfl)))) (by rfl) (E.free 43) (by rfl))))))) (g_name (i := 10) (by exact g.nd) (by rfl) (.inl (by rfl))) (by decide))
    (ss_cons (s_asg (pe_fz (pe_t1 (cr_dictP (by exact g.calm) (by exact g.u)) (by rfl) (E.free 39) (by rfl) (pe_arg (pe_revD (pe_arg (pe_itl (by exact g.calm) (pe_name (i := 2) (by rfl) (.inr (.inl (by rfl)))) (by rfl) (E.free 43) (by rfl))))))) (g_name (i := 11) (by exact g.nd) (by rfl) (.inl (by rfl))) (by decide))
    (ss_cons (s_if (pt_notB (pt_bool (pe_def (ks := []) G24 (by exact g.room) (by exact g.gd) (by rfl) (E.glo 24) F24.kp (b_law_exact_2 F24) (pm_cons (pe_arg (pe_name (i := 8) (by rfl) (.inl (by rfl)))) (pm_cons (pe_arg (pe_defK (ks := ["able", "plan", "shut"]) G17 (by exact g.room) (by exact g.gd) (by rfl) (E.glo 17) F17.kp (b_ill_beyond_0_able_plan_shut F17) (pk_consM (pe_arg (pe_name (i := 10) (by rfl) (.inl (by rfl)))) (pk_consM (pe_arg (pe_fz (pe_t1 (cr_dictP (by exact g.calm) (by exact g.u)) (by rfl) (E.free 39) (by rfl) (pe_arg (pe_revD (pe_arg (pe_itl (by exact g.calm) (pe_name (i := 0) (by rfl) (.inr (.inl (by rfl)))) (by rfl) (E.free 43) (by rfl)))))))) (pk_consM (pe_arg (pe_name (i := 11) (by rfl) (.inl (by rfl)))) pk_nilM))))) pm_nil)) pk_nilM))) (ss_one (s_ret pe_cBl)) ss_nil)
    (ss_cons (s_expr (pe_mmV .append (pe_sub (by exact g.u1) (pe_arg (pm_name (i := 7) (by rfl) (.inl (by rfl)))) (pe_arg (pe_cInt (j := 0)))) PySem.F.slot_list_append PySem.F.type_list_append (pl_cons pe_cStr pl_nil)))
    (ss_cons (s_if (pt_cmpB .is (by exact g.u) (pa_name (i := 5) (by rfl) (.inr (.inl (by rfl)))) (pe_arg pe_cNon)) (ss_one (s_ret (pe_def (ks := []) G24 (by exact g.room) (by exact g.gd) (by rfl) (E.glo 24) F24.kp (b_law_exact_2 F24) (pm_cons (pe_arg (pe_name (i := 6) (by rfl) (.inl (by rfl)))) (pm_cons (pe_arg (pe_fz (pe_def (ks := []) G16 (by exact g.room) (by exact g.gd) (by rfl) (E.glo 16) F16.kp (b_weakest_lessons_3 F16) (pm_cons (pe_arg (pe_name (i := 0) (by rfl) (.inr (.inl (by rfl))))) (pm_cons (pe_arg (pe_name (i := 1) (by rfl) (.inr (.inl (by rfl))))) (pm_cons (pe_arg (pe_name (i := 2) (by rfl) (.inr (.inl (by rfl))))) pm_nil))) pk_nilM))) pm_nil)) pk_nilM))) ss_nil)
    (ss_cons (s_for (by exact g.xe) (by exact g.calm) (pi_val (pe_def (ks := []) G34 (by exact g.room) (by exact g.gd) (by rfl) (E.glo 34) F34.kp (b_law_lists_2 F34) (pm_cons (pe_arg (pe_name (i := 3) (by rfl) (.inl (by rfl)))) (pm_cons (pe_arg (pe_name (i := 5) (by rfl) (.inr (.inl (by rfl))))) pm_nil)) pk_nilM)) (g_name (i := 12) (by exact g.nd) (by rfl) (.inl (by rfl))) (ss_one (s_if (pt_notB (pt_bool (pe_def (ks := []) G33 (by exact g.room) (by exact g.gd) (by rfl) (E.glo 33) F33.kp (b_law_can_all_1 F33) (pm_cons (pe_arg (pe_def (ks := []) G32 (by exact g.room) (by exact g.gd) (by rfl) (E.glo 32) F32.kp (b_law_calls_4 F32) (pm_cons (pe_arg (pe_name (i := 0) (by rfl) (.inr (.inl (by rfl))))) (pm_cons (pe_arg (pe_name (i := 1) (by rfl) (.inr (.inl (by rfl))))) (pm_cons (pe_arg (pe_name (i := 2) (by rfl) (.inr (.inl (by rfl))))) (pm_cons (pe_arg (pe_fz (pe_b1 (cr_sort (by exact g.u)) (by rfl) (E.free 49) (by rfl) (pa_name (i := 12) (by rfl) (.inl (by rfl)))))) pm_nil)))) pk_nilM)) pm_nil) pk_nilM))) (ss_one (s_ret pe_cBl)) ss_nil)) (by decide))
    (ss_cons (s_if (pt_w (pw_orB (pt_cmpB .ne (by exact g.u) (pa_name (i := 8) (by rfl) (.inl (by rfl))) (pe_arg (pe_srtset (by exact g.calm) (by exact g.u) (by rfl) (E.free 49) (by rfl) (by rfl) (E.free 48) (by rfl) (pa_name (i := 8) (by rfl) (.inl (by rfl)))))) (pw_or1B (pt_cmpB .ne (by exact g.u) (pe_arg (pe_b1 cr_len (by rfl) (E.free 42) (by rfl) (pa_name (i := 8) (by rfl) (.inl (by rfl))))) (pe_arg (pe_bin .add (pa_name (i := 5) (by rfl) (.inr (.inl (by rfl)))) (pe_arg (pe_cInt (j := 0))))))))) (ss_one (s_ret pe_cBl)) ss_nil)
    (ss_cons (s_if (pt_bool (pe_def (ks := []) G33 (by exact g.room) (by exact g.gd) (by rfl) (E.glo 33) F33.kp (b_law_can_all_1 F33) (pm_cons (pe_arg (pe_def (ks := []) G32 (by exact g.room) (by exact g.gd) (by rfl) (E.glo 32) F32.kp (b_law_calls_4 F32) (pm_cons (pe_arg (pe_name (i := 0) (by rfl) (.inr (.inl (by rfl))))) (pm_cons (pe_arg (pe_name (i := 1) (by rfl) (.inr (.inl (by rfl))))) (pm_cons (pe_arg (pe_name (i := 2) (by rfl) (.inr (.inl (by rfl))))) (pm_cons (pe_arg (pe_name (i := 8) (by rfl) (.inl (by rfl)))) pm_nil)))) pk_nilM)) pm_nil) pk_nilM)) (ss_one (s_ret pe_cBl)) ss_nil)
    (ss_one (s_ret (pe_def (ks := []) G24 (by exact g.room) (by exact g.gd) (by rfl) (E.glo 24) F24.kp (b_law_exact_2 F24) (pm_cons (pe_arg (pe_name (i := 6) (by rfl) (.inl (by rfl)))) (pm_cons (pe_arg (pe_fz (pe_def (ks := []) G16 (by exact g.room) (by exact g.gd) (by rfl) (E.glo 16) F16.kp (b_weakest_lessons_3 F16) (pm_cons (pe_arg (pe_name (i := 0) (by rfl) (.inr (.inl (by rfl))))) (pm_cons (pe_arg (pe_name (i := 1) (by rfl) (.inr (.inl (by rfl))))) (pm_cons (pe_arg (pe_name (i := 2) (by rfl) (.inr (.inl (by rfl))))) pm_nil))) pk_nilM))) pm_nil)) pk_nilM))))))))))))))))))
theorem st_law {P : Program} {w : World} : Stp P w fa fn tab 36 (dd 36) D_law := by
  refine ⟨⟨rfl, rfl, rfl, by decide, rfl, by decide +kernel, by decide +kernel⟩, ?_⟩
  intro K mg base k C E hC f cdv A outer s H hr hg
  have g := Gd.nox (P := P) (w := w) (K := K) (mg := mg) (base := base) (outer := outer) (H := H) hr hg (N := ["script", "purse", "spin", "teachers", "many", "shift", "plan", "able", "shut", "kept", "late", "ill", "due", "told", "call"]) (by decide) E.sms
  obtain ⟨fd24, F24, G24⟩ := fn_get E hC 24 rfl (D := D_law_exact) rfl
  obtain ⟨fd17, F17, G17⟩ := fn_get E hC 17 rfl (D := D_ill_beyond) rfl
  obtain ⟨fd16, F16, G16⟩ := fn_get E hC 16 rfl (D := D_weakest_lessons) rfl
  obtain ⟨fd15, F15, G15⟩ := fn_get E hC 15 rfl (D := D_safe_number) rfl
  obtain ⟨fd21, F21, G21⟩ := fn_get E hC 21 rfl (D := D_law_purses) rfl
  obtain ⟨fd35, F35, G35⟩ := fn_get E hC 35 rfl (D := D_law_safe_right) rfl
  obtain ⟨fd14, F14, G14⟩ := fn_get E hC 14 rfl (D := D_calls_when) rfl
  obtain ⟨fd32, F32, G32⟩ := fn_get E hC 32 rfl (D := D_law_calls) rfl
  obtain ⟨fd23, F23, G23⟩ := fn_get E hC 23 rfl (D := D_law_shuffled) rfl
  obtain ⟨fd20, F20, G20⟩ := fn_get E hC 20 rfl (D := D_law_draw) rfl
  obtain ⟨fd27, F27, G27⟩ := fn_get E hC 27 rfl (D := D_law_able) rfl
  obtain ⟨fd28, F28, G28⟩ := fn_get E hC 28 rfl (D := D_law_shut) rfl
  obtain ⟨fd26, F26, G26⟩ := fn_get E hC 26 rfl (D := D_law_late_hours) rfl
  obtain ⟨fd22, F22, G22⟩ := fn_get E hC 22 rfl (D := D_law_one_of) rfl
  obtain ⟨fd25, F25, G25⟩ := fn_get E hC 25 rfl (D := D_law_plan) rfl
  show PSs _ (dd 36).body (tW [1, 2, 3, 4, 5, 6, 7, 8, 9, 10, 11, 12, 13, 14] (m_law C))
  unfold m_law
  unfold l_law_4
  unfold t_law_4
  unfold l_law_3
  unfold t_law_3
  unfold s_law_9
  unfold s_law_8
  unfold s_law_7
  unfold s_law_6
  unfold s_law_5
  unfold s_law_4
  unfold s_law_3
  unfold s_law_2
  unfold l_law_2
  unfold t_law_2
  unfold l_law_1
  unfold t_law_1
  unfold s_law_1
  exact (ss_cons (s_for (by exact g.xe) (by exact g.calm) (pi_val (pe_def (ks := []) G21 (by exact g.room) (by exact g.gd) (by rfl) (E.glo 21) F21.kp (b_law_purses_2 F21) (pm_cons (pa_name (i := 0) (by rfl) (.inl (by rfl))) (pm_cons (pe_arg (pe_cInt (j := 0))) pm_nil)) pk_nilM)) (g_name (i := 1) (by exact g.nd) (by rfl) (.inl (by rfl))) (ss_one (s_for (by exact g.xe) (by exact g.calm) (pi_rng1 (by rfl) (E.free 46) (pe_arg (pe_cInt (j := 0)))) (g_name (i := 2) (by exact g.nd) (by rfl) (.inl (by rfl))) (ss_cons (s_asg (pe_def (ks := []) G22 (by exact g.room) (by exact g.gd) (by rfl) (E.glo 22) F22.kp (b_law_one_of_2 F22) (pm_cons (pa_name (i := 1) (by rfl) (.inl (by rfl))) (pm_cons (pe_arg (pe_fz (pe_lstD (pl_cons (pe_fz (pe_lstD (pl_cons pe_cStr (pl_cons pe_cStr (pl_cons pe_cStr (pl_cons pe_cStr (pl_cons pe_cStr pl_nil))))))) (pl_cons (pe_fz (pe_lstD (pl_cons pe_cStr (pl_cons pe_cStr (pl_cons pe_cStr (pl_cons pe_cStr (pl_cons pe_cStr pl_nil))))))) pl_nil))))) pm_nil)) pk_nilM) (g_name (i := 3) (by exact g.nd) (by rfl) (.inl (by rfl))) (by decide))
    (ss_cons (s_asg (pe_bin .add (pe_arg (pe_cInt (j := 0))) (pe_arg (pe_def (ks := []) G20 (by exact g.room) (by exact g.gd) (by rfl) (E.glo 20) F20.kp (b_law_draw_2 F20) (pm_cons (pa_name (i := 1) (by rfl) (.inl (by rfl))) (pm_cons (pe_arg (pe_cInt (j := 0))) pm_nil)) pk_nilM))) (g_name (i := 4) (by exact g.nd) (by rfl) (.inl (by rfl))) (by decide))
    (ss_cons (s_asg (pe_def (ks := []) G22 (by exact g.room) (by exact g.gd) (by rfl) (E.glo 22) F22.kp (b_law_one_of_2 F22) (pm_cons (pa_name (i := 1) (by rfl) (.inl (by rfl))) (pm_cons (pe_arg (pe_fz (pe_lstD (pl_cons (pe_cInt (j := 0)) (pl_cons (pe_cInt (j := 0)) (pl_cons (pe_cInt (j := 0)) pl_nil)))))) pm_nil)) pk_nilM) (g_name (i := 5) (by exact g.nd) (by rfl) (.inl (by rfl))) (by decide))
    (ss_cons (s_asg (pe_def (ks := []) G25 (by exact g.room) (by exact g.gd) (by rfl) (E.glo 25) F25.kp (b_law_plan_5 F25) (pm_cons (pa_name (i := 1) (by rfl) (.inl (by rfl))) (pm_cons (pe_arg (pe_fz (pe_lstD (pl_cons pe_cStr (pl_cons pe_cStr (pl_cons pe_cStr (pl_cons pe_cStr pl_nil))))))) (pm_cons (pe_arg (pe_name (i := 3) (by rfl) (.inl (by rfl)))) (pm_cons (pe_arg (pe_name (i := 4) (by rfl) (.inl (by rfl)))) (pm_cons (pe_arg (pe_def (ks := []) G22 (by exact g.room) (by exact g.gd) (by rfl) (E.glo 22) F22.kp (b_law_one_of_2 F22) (pm_cons (pa_name (i := 1) (by rfl) (.inl (by rfl))) (pm_cons (pe_arg (pe_fz (pe_lstD (pl_cons (pe_cInt (j := 0)) (pl_cons (pe_cInt (j := 0)) (pl_cons (pe_cInt (j := 0)) (pl_cons (pe_cInt (j := 0)) pl_nil))))))) pm_nil)) pk_nilM)) pm_nil))))) pk_nilM) (g_name (i := 6) (by exact g.nd) (by rfl) (.inl (by rfl))) (by decide))
    (ss_cons (s_asg (pe_def (ks := []) G26 (by exact g.room) (by exact g.gd) (by rfl) (E.glo 26) F26.kp (b_law_late_hours_2 F26) (pm_cons (pe_arg (pe_name (i := 6) (by rfl) (.inl (by rfl)))) (pm_cons (pe_arg (pe_name (i := 5) (by rfl) (.inl (by rfl)))) pm_nil)) pk_nilM) (g_name (i := 6) (by exact g.nd) (by rfl) (.inl (by rfl))) (by decide))
    (ss_cons (s_par (i := 7) (j := 8) (by exact g.calm) (by exact g.nd) (by rfl) (by rfl) (by decide) (by decide) (by decide) (by rfl) (by rfl) (pl_cons (pe_def (ks := []) G27 (by exact g.room) (by exact g.gd) (by rfl) (E.glo 27) F27.kp (b_law_able_3 F27) (pm_cons (pa_name (i := 1) (by rfl) (.inl (by rfl))) (pm_cons (pe_arg (pe_name (i := 6) (by rfl) (.inl (by rfl)))) (pm_cons (pe_arg (pe_fz (pe_bin .add (pa_name (i := 3) (by rfl) (.inl (by rfl))) (pe_arg (pe_lstD (pl_cons pe_cStr pl_nil)))))) pm_nil))) pk_nilM) (pl_cons (pe_def (ks := []) G28 (by exact g.room) (by exact g.gd) (by rfl) (E.glo 28) F28.kp (b_law_shut_3 F28) (pm_cons (pa_name (i := 1) (by rfl) (.inl (by rfl))) (pm_cons (pe_arg (pe_fz (pe_bin .add (pa_name (i := 3) (by rfl) (.inl (by rfl))) (pe_arg (pe_lstD (pl_cons pe_cStr pl_nil)))))) (pm_cons (pe_arg (pe_fz (pe_bin .add (pa_name (i := 4) (by rfl) (.inl (by rfl))) (pa_name (i := 5) (by rfl) (.inl (by rfl)))))) pm_nil))) pk_nilM) pl_nil)) (by rfl))
    (ss_cons (s_asg (pe_b1 (cr_repr (by exact g.gd) (by exact g.u) (by exact g.sm)) (by rfl) (E.free 47) (by rfl) (pe_arg (pe_lstD (pl_cons (pe_name (i := 6) (by rfl) (.inl (by rfl))) (pl_cons (pe_name (i := 7) (by rfl) (.inl (by rfl))) (pl_cons (pe_name (i := 8) (by rfl) (.inl (by rfl))) pl_nil)))))) (g_name (i := 9) (by exact g.nd) (by rfl) (.inl (by rfl))) (by decide))
    (ss_cons (s_for (by exact g.xe) (by exact g.calm) (pi_rng1 (by rfl) (E.free 46) (pe_arg (pe_cInt (j := 0)))) (g_name (i := 10) (by exact g.nd) (by rfl) (.inl (by rfl))) (ss_cons (s_asg (pe_fz (pe_b1 (cr_sort (by exact g.u)) (by rfl) (E.free 49) (by rfl) (pe_arg (pe_slc (pe_arg (pe_def (ks := []) G23 (by exact g.room) (by exact g.gd) (by rfl) (E.glo 23) F23.kp (b_law_shuffled_2 F23) (pm_cons (pa_name (i := 1) (by rfl) (.inl (by rfl))) (pm_cons (pe_arg (pe_fz (pe_bin .add (pa_name (i := 3) (by rfl) (.inl (by rfl))) (pe_arg (pe_lstD (pl_cons pe_cStr pl_nil)))))) pm_nil)) pk_nilM)) po_no (po_yes (pe_arg (pe_def (ks := []) G20 (by exact g.room) (by exact g.gd) (by rfl) (E.glo 20) F20.kp (b_law_draw_2 F20) (pm_cons (pa_name (i := 1) (by rfl) (.inl (by rfl))) (pm_cons (pe_arg (pe_cInt (j := 0))) pm_nil)) pk_nilM))))))) (g_name (i := 11) (by exact g.nd) (by rfl) (.inl (by rfl))) (by decide))
    (ss_cons (s_par (i := 12) (j := 13) (by exact g.calm) (by exact g.nd) (by rfl) (by rfl) (by decide) (by decide) (by decide) (by rfl) (by rfl) (pl_cons (pe_def (ks := []) G32 (by exact g.room) (by exact g.gd) (by rfl) (E.glo 32) F32.kp (b_law_calls_4 F32) (pm_cons (pe_arg (pe_name (i := 6) (by rfl) (.inl (by rfl)))) (pm_cons (pe_arg (pe_name (i := 7) (by rfl) (.inl (by rfl)))) (pm_cons (pe_arg (pe_name (i := 8) (by rfl) (.inl (by rfl)))) (pm_cons (pe_arg (pe_name (i := 11) (by rfl) (.inl (by rfl)))) pm_nil)))) pk_nilM) (pl_cons (pe_def (ks := []) G14 (by exact g.room) (by exact g.gd) (by rfl) (E.glo 14) F14.kp (b_calls_when_4 F14) (pm_cons (pe_arg (pe_name (i := 6) (by rfl) (.inl (by rfl)))) (pm_cons (pe_arg (pe_name (i := 7) (by rfl) (.inl (by rfl)))) (pm_cons (pe_arg (pe_name (i := 8) (by rfl) (.inl (by rfl)))) (pm_cons (pe_arg (pe_name (i := 11) (by rfl) (.inl (by rfl)))) pm_nil)))) pk_nilM) pl_nil)) (by rfl))
    (ss_cons (s_if (pt_notB (pt_bool (pe_pure (pe_def (ks := []) G24 (by exact g.room) (by exact g.gd) (by rfl) (E.glo 24) F24.kp (b_law_exact_2 F24) (pm_cons (pe_arg (pe_fz (pe_lstD (pl_cons (pe_name (i := 12) (by rfl) (.inl (by rfl))) (pl_cons (pe_name (i := 12) (by rfl) (.inl (by rfl))) pl_nil))))) (pm_cons (pe_arg (pe_fz (pe_lstD (pl_cons (pe_name (i := 13) (by rfl) (.inl (by rfl))) (pl_cons (pe_fz (pe_defK (ks := ["ill", "shut", "able", "plan"]) G14 (by exact g.room) (by exact g.gd) (by rfl) (E.glo 14) F14.kp (b_calls_when_0_ill_shut_able_plan F14) (pk_consM (pe_arg (pe_name (i := 11) (by rfl) (.inl (by rfl)))) (pk_consM (pe_arg (pe_name (i := 8) (by rfl) (.inl (by rfl)))) (pk_consM (pe_arg (pe_name (i := 7) (by rfl) (.inl (by rfl)))) (pk_consM (pe_arg (pe_name (i := 6) (by rfl) (.inl (by rfl)))) pk_nilM)))))) pl_nil))))) pm_nil)) pk_nilM)))) (ss_one (s_ret pe_cBl)) ss_nil)
    (ss_cons (s_for (by exact g.xe) (by exact g.calm) (pi_val (pm_name (i := 13) (by rfl) (.inl (by rfl)))) (g_name (i := 14) (by exact g.nd) (by rfl) (.inl (by rfl))) (ss_one (s_expr (pe_mmV .append (pe_sub (by exact g.u1) (pe_arg (pm_name (i := 14) (by rfl) (.inl (by rfl)))) (pe_arg (pe_cInt (j := 0)))) PySem.F.slot_list_append PySem.F.type_list_append (pl_cons pe_cStr pl_nil)))) (by decide))
    (ss_one (s_if (pt_notB (pt_bool (pe_def (ks := []) G24 (by exact g.room) (by exact g.gd) (by rfl) (E.glo 24) F24.kp (b_law_exact_2 F24) (pm_cons (pe_arg (pe_name (i := 12) (by rfl) (.inl (by rfl)))) (pm_cons (pe_arg (pe_fz (pe_def (ks := []) G14 (by exact g.room) (by exact g.gd) (by rfl) (E.glo 14) F14.kp (b_calls_when_4 F14) (pm_cons (pe_arg (pe_name (i := 6) (by rfl) (.inl (by rfl)))) (pm_cons (pe_arg (pe_name (i := 7) (by rfl) (.inl (by rfl)))) (pm_cons (pe_arg (pe_name (i := 8) (by rfl) (.inl (by rfl)))) (pm_cons (pe_arg (pe_name (i := 11) (by rfl) (.inl (by rfl)))) pm_nil)))) pk_nilM))) pm_nil)) pk_nilM))) (ss_one (s_ret pe_cBl)) ss_nil)))))) (by decide))
    (ss_one (s_if (pt_w (pw_orB (pt_notB (pt_bool (pe_def (ks := []) G35 (by exact g.room) (by exact g.gd) (by rfl) (E.glo 35) F35.kp (b_law_safe_right_4 F35) (pm_cons (pe_arg (pe_name (i := 6) (by rfl) (.inl (by rfl)))) (pm_cons (pe_arg (pe_name (i := 7) (by rfl) (.inl (by rfl)))) (pm_cons (pe_arg (pe_name (i := 8) (by rfl) (.inl (by rfl)))) (pm_cons (pe_arg (pe_fz (pe_bin .add (pa_name (i := 3) (by rfl) (.inl (by rfl))) (pe_arg (pe_lstD (pl_cons pe_cStr pl_nil)))))) pm_nil)))) pk_nilM))) (pw_or1B (pt_cmpB .ne (by exact g.u) (pe_arg (pe_b1 (cr_repr (by exact g.gd) (by exact g.u) (by exact g.sm)) (by rfl) (E.free 47) (by rfl) (pe_arg (pe_lstD (pl_cons (pe_name (i := 6) (by rfl) (.inl (by rfl))) (pl_cons (pe_name (i := 7) (by rfl) (.inl (by rfl))) (pl_cons (pe_name (i := 8) (by rfl) (.inl (by rfl))) pl_nil))))))) (pa_name (i := 9) (by rfl) (.inl (by rfl))))))) (ss_one (s_ret pe_cBl)) ss_nil)))))))))) (by decide))) (by decide))
    (ss_cons (s_asg (pe_fz (pe_dsp (by exact g.u1) (pps_cons (pe_tupD (pl_cons pe_cStr (pl_cons pe_cStr pl_nil))) (pe_fz (pe_lstD (pl_cons (pe_cInt (j := 0)) (pl_cons (pe_cInt (j := 0)) pl_nil)))) (pps_cons (pe_tupD (pl_cons pe_cStr (pl_cons pe_cStr pl_nil))) (pe_fz (pe_lstD (pl_cons (pe_cInt (j := 0)) pl_nil))) (pps_cons (pe_tupD (pl_cons pe_cStr (pl_cons pe_cStr pl_nil))) (pe_fz (pe_lstD (pl_cons (pe_cInt (j := 0)) pl_nil))) (pps_cons (pe_tupD (pl_cons pe_cStr (pl_cons pe_cStr pl_nil))) (pe_fz (pe_lstD (pl_cons (pe_cInt (j := 0)) (pl_cons (pe_cInt (j := 0)) pl_nil)))) pps_nil)))))) (g_name (i := 6) (by exact g.nd) (by rfl) (.inl (by rfl))) (by decide))
    (ss_cons (s_asg (pe_fz (pe_dsp (by exact g.u1) (pps_cons pe_cStr (pe_fz (pe_lstD (pl_cons pe_cStr (pl_cons pe_cStr (pl_cons pe_cStr (pl_cons pe_cStr pl_nil)))))) (pps_cons pe_cStr (pe_fz (pe_lstD (pl_cons pe_cStr (pl_cons pe_cStr pl_nil)))) pps_nil)))) (g_name (i := 7) (by exact g.nd) (by rfl) (.inl (by rfl))) (by decide))
    (ss_cons (s_asg (pe_lstD (pl_cons (pe_def (ks := []) G15 (by exact g.room) (by exact g.gd) (by rfl) (E.glo 15) F15.kp (b_safe_number_3 F15) (pm_cons (pe_arg (pe_name (i := 6) (by rfl) (.inl (by rfl)))) (pm_cons (pe_arg (pe_name (i := 7) (by rfl) (.inl (by rfl)))) (pm_cons (pe_arg (pe_fz pe_d0)) pm_nil))) pk_nilM) (pl_cons (pe_def (ks := []) G16 (by exact g.room) (by exact g.gd) (by rfl) (E.glo 16) F16.kp (b_weakest_lessons_3 F16) (pm_cons (pe_arg (pe_name (i := 6) (by rfl) (.inl (by rfl)))) (pm_cons (pe_arg (pe_name (i := 7) (by rfl) (.inl (by rfl)))) (pm_cons (pe_arg (pe_fz pe_d0)) pm_nil))) pk_nilM) (pl_cons (pe_def (ks := []) G17 (by exact g.room) (by exact g.gd) (by rfl) (E.glo 17) F17.kp (b_ill_beyond_3 F17) (pm_cons (pe_arg (pe_fz pe_d0)) (pm_cons (pe_arg (pe_fz pe_d0)) (pm_cons (pe_arg (pe_fz pe_d0)) pm_nil))) pk_nilM) pl_nil)))) (g_name (i := 13) (by exact g.nd) (by rfl) (.inl (by rfl))) (by decide))
    (ss_one (s_ret (pe_pure (pe_def (ks := []) G24 (by exact g.room) (by exact g.gd) (by rfl) (E.glo 24) F24.kp (b_law_exact_2 F24) (pm_cons (pe_arg (pe_fz (pe_lstD (pl_cons (pe_cInt (j := 0)) (pl_cons (pe_fz (pe_lstD (pl_cons (pe_tupD (pl_cons (pe_cInt (j := 0)) (pl_cons pe_cStr pl_nil))) (pl_cons (pe_tupD (pl_cons (pe_cInt (j := 0)) (pl_cons pe_cStr pl_nil))) pl_nil)))) (pl_cons pe_cNon pl_nil)))))) (pm_cons (pe_arg (pe_name (i := 13) (by rfl) (.inl (by rfl)))) pm_nil)) pk_nilM))))))))
end K70
end
section
namespace K70
open PySem PySem.Spec PyProof.Rows L2
def loose : List Str := (["WeekError", "InvalidPlan", "InvalidAble", "is_whole", "is_count", "is_word", "is_tuple_of", "do_ascend", "are_hours", "is_pair_of_words", "lessons_of", "is_clashless", "is_sound_there", "InvalidShut", "InvalidIll", "are_words", "check_staff", "is_shut_there", "free_able", "calls_when", "safe_number", "weakest_lessons", "ill_beyond", "_law_purse", "_law_mixed", "_law_draw", "_law_purses", "_law_one_of", "_law_shuffled", "_law_exact"] : List Str) ++ (["_law_plan", "_law_late_hours", "_law_able", "_law_shut", "_law_busy", "_law_free", "_law_lessons", "_law_calls", "_law_can_all", "_law_lists", "_law_safe_right"] : List Str)
abbrev R : PySem.W.OpenRow := PySem.W.OpenLaw.row PySem.Challenge.rw_schoolweek_k70_whole_calls_and_safety
def hk : PySem.W.Hook := SW.hkN fa fn
def ob (s : PySem.W.SharedT) : He.AlD × Bool := SW.lkN fa fn (HandSHeadRun.getT s)
theorem ob_eq (s : PySem.W.SharedT) : ob s = hk.obs s.abs := SW.obN_eq fa fn s
theorem run (w : World) : HandSHeadRun.RunEq R (PySem.W.view R.prog [47]) hk ob 20000 loose w := by
  intro os
  kernel_rfl
end K70
open PySem PySem.W PySem.Calls PyProof.Rows
theorem K70.holds (F : ∀ (w : World) (mg : Str → Option Value) (fa : Addr) (h : Heap) (K : PySem.W.Frag), K.In h → He.SaysD K70.fa K70.fn K → (K.lookup sysModules).isSome = true → h.Ns mainGlobals mg → mg ("law" : PySem.Str) = some (.ref fa) →
      ∃ (fd : FuncData) (sp : SW.SpG), (∀ (s : Shared) (u : Value), BindsTo s fd ⟨[u], []⟩ [("script", u)]) ∧ (∀ (a : Addr) (ob : Obj) (ns : List Int), ns.length ≤ 63 → sp [.ref a] (SW.scrH a ob ns) fun v _ => v = .bl true) ∧
        ∀ base : Heap, K.In base → base.Ns mainGlobals mg → SW.FnG PySem.Challenge.pw_schoolweek_k70_whole_calls_and_safety w K mg base 200 fa fd ["script"] sp) : PySem.Challenge.rw_schoolweek_k70_whole_calls_and_safety.Holds := by
  w_on; o_law
  refine HandSHeadRun.head_any (r := OpenLaw.row PySem.Challenge.rw_schoolweek_k70_whole_calls_and_safety) (q := view (OpenLaw.row PySem.Challenge.rw_schoolweek_k70_whole_calls_and_safety).prog [47]) (H := K70.hk) (ob := K70.ob) (M := 20000) (loose := K70.loose) (d := HandSHeadRun.topDef (OpenLaw.row PySem.Challenge.rw_schoolweek_k70_whole_calls_and_safety).prog 47) (kwd := []) K70.ob_eq
    (by kernel_rfl) (fun s => by kernel_rfl) K70.run (by kernel_rfl) (by kernel_rfl) (by kernel_rfl) (by rfl) (by first | assumption | decide +kernel) (by decide +kernel) ⟨rfl, rfl, rfl, rfl, rfl, by decide +kernel⟩ ?hw ?hc
  case hw => w_witness2
  case hc =>
    refine SW.walk_end (l := PySem.Challenge.rw_schoolweek_k70_whole_calls_and_safety) (k := 200) rfl (by kernel_rfl) ⟨rfl, by decide, by decide⟩ (fun _ _ z => z) fun w mg fa h K h1 h2 h3 h4 h5 => F w mg fa h K h1 h2 h3 h4 ?_
    have e : (HandSHeadRun.topDef (OpenLaw.row PySem.Challenge.rw_schoolweek_k70_whole_calls_and_safety).prog 47).name = ("law" : PySem.Str) := by kernel_rfl
    rw [← e]
    exact h5
end
section
namespace K70
open PySem PySem.Spec PyProof.Rows L2 SW
theorem all_stp {P : Program} {w : World} : ∀ (i : Nat) (d : He.DefD) (D : Df), fn[i]? = some d → tab[i]? = some D → Stp P w fa fn tab i d D
  | 0, d, D, h1, h2 => by
    obtain rfl : dd 0 = d := Option.some.inj h1
    obtain rfl : D_is_whole = D := Option.some.inj h2
    exact st_is_whole
  | 1, d, D, h1, h2 => by
    obtain rfl : dd 1 = d := Option.some.inj h1
    obtain rfl : D_is_count = D := Option.some.inj h2
    exact st_is_count
  | 2, d, D, h1, h2 => by
    obtain rfl : dd 2 = d := Option.some.inj h1
    obtain rfl : D_is_word = D := Option.some.inj h2
    exact st_is_word
  | 3, d, D, h1, h2 => by
    obtain rfl : dd 3 = d := Option.some.inj h1
    obtain rfl : D_is_tuple_of = D := Option.some.inj h2
    exact st_is_tuple_of
  | 4, d, D, h1, h2 => by
    obtain rfl : dd 4 = d := Option.some.inj h1
    obtain rfl : D_do_ascend = D := Option.some.inj h2
    exact st_do_ascend
  | 5, d, D, h1, h2 => by
    obtain rfl : dd 5 = d := Option.some.inj h1
    obtain rfl : D_are_hours = D := Option.some.inj h2
    exact st_are_hours
  | 6, d, D, h1, h2 => by
    obtain rfl : dd 6 = d := Option.some.inj h1
    obtain rfl : D_is_pair_of_words = D := Option.some.inj h2
    exact st_is_pair_of_words
  | 7, d, D, h1, h2 => by
    obtain rfl : dd 7 = d := Option.some.inj h1
    obtain rfl : D_lessons_of = D := Option.some.inj h2
    exact st_lessons_of
  | 8, d, D, h1, h2 => by
    obtain rfl : dd 8 = d := Option.some.inj h1
    obtain rfl : D_is_clashless = D := Option.some.inj h2
    exact st_is_clashless
  | 9, d, D, h1, h2 => by
    obtain rfl : dd 9 = d := Option.some.inj h1
    obtain rfl : D_is_sound_there = D := Option.some.inj h2
    exact st_is_sound_there
  | 10, d, D, h1, h2 => by
    obtain rfl : dd 10 = d := Option.some.inj h1
    obtain rfl : D_are_words = D := Option.some.inj h2
    exact st_are_words
  | 11, d, D, h1, h2 => by
    obtain rfl : dd 11 = d := Option.some.inj h1
    obtain rfl : D_check_staff = D := Option.some.inj h2
    exact st_check_staff
  | 12, d, D, h1, h2 => by
    obtain rfl : dd 12 = d := Option.some.inj h1
    obtain rfl : D_is_shut_there = D := Option.some.inj h2
    exact st_is_shut_there
  | 13, d, D, h1, h2 => by
    obtain rfl : dd 13 = d := Option.some.inj h1
    obtain rfl : D_free_able = D := Option.some.inj h2
    exact st_free_able
  | 14, d, D, h1, h2 => by
    obtain rfl : dd 14 = d := Option.some.inj h1
    obtain rfl : D_calls_when = D := Option.some.inj h2
    exact st_calls_when
  | 15, d, D, h1, h2 => by
    obtain rfl : dd 15 = d := Option.some.inj h1
    obtain rfl : D_safe_number = D := Option.some.inj h2
    exact st_safe_number
  | 16, d, D, h1, h2 => by
    obtain rfl : dd 16 = d := Option.some.inj h1
    obtain rfl : D_weakest_lessons = D := Option.some.inj h2
    exact st_weakest_lessons
  | 17, d, D, h1, h2 => by
    obtain rfl : dd 17 = d := Option.some.inj h1
    obtain rfl : D_ill_beyond = D := Option.some.inj h2
    exact st_ill_beyond
  | 18, d, D, h1, h2 => by
    obtain rfl : dd 18 = d := Option.some.inj h1
    obtain rfl : D_law_purse = D := Option.some.inj h2
    exact st_law_purse
  | 19, d, D, h1, h2 => by
    obtain rfl : dd 19 = d := Option.some.inj h1
    obtain rfl : D_law_mixed = D := Option.some.inj h2
    exact st_law_mixed
  | 20, d, D, h1, h2 => by
    obtain rfl : dd 20 = d := Option.some.inj h1
    obtain rfl : D_law_draw = D := Option.some.inj h2
    exact st_law_draw
  | 21, d, D, h1, h2 => by
    obtain rfl : dd 21 = d := Option.some.inj h1
    obtain rfl : D_law_purses = D := Option.some.inj h2
    exact st_law_purses
  | 22, d, D, h1, h2 => by
    obtain rfl : dd 22 = d := Option.some.inj h1
    obtain rfl : D_law_one_of = D := Option.some.inj h2
    exact st_law_one_of
  | 23, d, D, h1, h2 => by
    obtain rfl : dd 23 = d := Option.some.inj h1
    obtain rfl : D_law_shuffled = D := Option.some.inj h2
    exact st_law_shuffled
  | 24, d, D, h1, h2 => by
    obtain rfl : dd 24 = d := Option.some.inj h1
    obtain rfl : D_law_exact = D := Option.some.inj h2
    exact st_law_exact
  | 25, d, D, h1, h2 => by
    obtain rfl : dd 25 = d := Option.some.inj h1
    obtain rfl : D_law_plan = D := Option.some.inj h2
    exact st_law_plan
  | 26, d, D, h1, h2 => by
    obtain rfl : dd 26 = d := Option.some.inj h1
    obtain rfl : D_law_late_hours = D := Option.some.inj h2
    exact st_law_late_hours
  | 27, d, D, h1, h2 => by
    obtain rfl : dd 27 = d := Option.some.inj h1
    obtain rfl : D_law_able = D := Option.some.inj h2
    exact st_law_able
  | 28, d, D, h1, h2 => by
    obtain rfl : dd 28 = d := Option.some.inj h1
    obtain rfl : D_law_shut = D := Option.some.inj h2
    exact st_law_shut
  | 29, d, D, h1, h2 => by
    obtain rfl : dd 29 = d := Option.some.inj h1
    obtain rfl : D_law_busy = D := Option.some.inj h2
    exact st_law_busy
  | 30, d, D, h1, h2 => by
    obtain rfl : dd 30 = d := Option.some.inj h1
    obtain rfl : D_law_free = D := Option.some.inj h2
    exact st_law_free
  | 31, d, D, h1, h2 => by
    obtain rfl : dd 31 = d := Option.some.inj h1
    obtain rfl : D_law_lessons = D := Option.some.inj h2
    exact st_law_lessons
  | 32, d, D, h1, h2 => by
    obtain rfl : dd 32 = d := Option.some.inj h1
    obtain rfl : D_law_calls = D := Option.some.inj h2
    exact st_law_calls
  | 33, d, D, h1, h2 => by
    obtain rfl : dd 33 = d := Option.some.inj h1
    obtain rfl : D_law_can_all = D := Option.some.inj h2
    exact st_law_can_all
  | 34, d, D, h1, h2 => by
    obtain rfl : dd 34 = d := Option.some.inj h1
    obtain rfl : D_law_lists = D := Option.some.inj h2
    exact st_law_lists
  | 35, d, D, h1, h2 => by
    obtain rfl : dd 35 = d := Option.some.inj h1
    obtain rfl : D_law_safe_right = D := Option.some.inj h2
    exact st_law_safe_right
  | 36, d, D, h1, h2 => by
    obtain rfl : dd 36 = d := Option.some.inj h1
    obtain rfl : D_law = D := Option.some.inj h2
    exact st_law
  | i + 37, d, D, h1, h2 => by cases h1
/-- what is left: the plain equation -/
theorem of_eq (h : ∀ ns : List Int, ns.length ≤ 63 → ∃ t, callN tab 200 36 [.scr ns] = some (tB true, [t])) : PySem.Challenge.rw_schoolweek_k70_whole_calls_and_safety.Holds :=
  K70.holds fun w mg f hp K inb c sm nsx hm => by
    obtain ⟨fd, Fd⟩ := c.def_ 36 rfl
    refine ⟨fd, spC (callN tab 200) 36 1, fun s u => bind_law (x := "law") (qual := "law") (params := defArgs (top 47)) (body := defBody (top 47)) (scope := defScope (top 47)) Fd (fun kV doc pm an cdv ct u => rfl) s u, fun a ob ns hl => ?_, fun base kin bns => ?_⟩
    · obtain ⟨t, e⟩ := h ns hl
      exact sp_law e
    · have ef : mg "law" = some (.ref (He.ga K "law")) := He.glo_ok inb nsx (c.fact 36 rfl)
      have e2 : f = He.ga K "law" := by
        rw [hm] at ef
        cases ef
        rfl
      subst e2
      exact cs_all ⟨c, kin, bns, sm⟩ all_stp 200 36 (dd 36) D_law rfl rfl fd Fd
end K70
end
section
namespace K70
open PySem PySem.Spec PyProof.Rows L2 SW
theorem call_is_whole (n : Nat) (a0 : T) : callN tab (n + 1) 0 [a0] = (m_is_whole (callN tab n) [a0]).bind (outOf 1 []) := rfl
theorem call_is_count (n : Nat) (a0 a1 : T) : callN tab (n + 1) 1 [a0, a1] = (m_is_count (callN tab n) [a0, a1]).bind (outOf 2 []) := rfl
theorem call_is_word (n : Nat) (a0 : T) : callN tab (n + 1) 2 [a0] = (m_is_word (callN tab n) [a0, .gone]).bind (outOf 1 []) := rfl
theorem call_is_tuple_of (n : Nat) (a0 a1 : T) : callN tab (n + 1) 3 [a0, a1] = (m_is_tuple_of (callN tab n) [a0, a1]).bind (outOf 2 []) := rfl
theorem call_do_ascend (n : Nat) (a0 : T) : callN tab (n + 1) 4 [a0] = (m_do_ascend (callN tab n) [a0, .gone, .gone]).bind (outOf 1 []) := rfl
theorem call_are_hours (n : Nat) (a0 : T) : callN tab (n + 1) 5 [a0] = (m_are_hours (callN tab n) [a0, .gone]).bind (outOf 1 []) := rfl
theorem call_is_pair_of_words (n : Nat) (a0 : T) : callN tab (n + 1) 6 [a0] = (m_is_pair_of_words (callN tab n) [a0]).bind (outOf 1 []) := rfl
theorem call_lessons_of (n : Nat) (a0 : T) : callN tab (n + 1) 7 [a0] = (m_lessons_of (callN tab n) [a0, .gone, .gone, .gone]).bind (outOf 1 []) := rfl
theorem call_is_clashless (n : Nat) (a0 : T) : callN tab (n + 1) 8 [a0] = (m_is_clashless (callN tab n) [a0, .gone, .gone, .gone, .gone, .gone, .gone]).bind (outOf 1 [1, 2, 3]) := rfl
theorem call_is_sound_there (n : Nat) (a0 : T) : callN tab (n + 1) 9 [a0] = (m_is_sound_there (callN tab n) [a0, .gone, .gone]).bind (outOf 1 []) := rfl
theorem call_are_words (n : Nat) (a0 : T) : callN tab (n + 1) 10 [a0] = (m_are_words (callN tab n) [a0, .gone]).bind (outOf 1 []) := rfl
theorem call_check_staff (n : Nat) (a0 a1 a2 : T) : callN tab (n + 1) 11 [a0, a1, a2] = (m_check_staff (callN tab n) [a0, a1, a2, .gone, .gone, .gone]).bind (outOf 3 [3]) := rfl
theorem call_is_shut_there (n : Nat) (a0 : T) : callN tab (n + 1) 12 [a0] = (m_is_shut_there (callN tab n) [a0, .gone]).bind (outOf 1 []) := rfl
theorem call_free_able (n : Nat) (a0 a1 a2 : T) : callN tab (n + 1) 13 [a0, a1, a2] = (m_free_able (callN tab n) [a0, a1, a2, .gone, .gone, .gone, .gone, .gone, .gone, .gone, .gone]).bind (outOf 3 [3, 4, 5, 6, 7, 8, 9]) := rfl
theorem call_calls_when (n : Nat) (a0 a1 a2 a3 : T) : callN tab (n + 1) 14 [a0, a1, a2, a3] = (m_calls_when (callN tab n) [a0, a1, a2, a3, .gone, .gone, .gone, .gone, .gone, .gone]).bind (outOf 4 [4, 5, 6, 7, 8]) := rfl
theorem call_safe_number (n : Nat) (a0 a1 a2 : T) : callN tab (n + 1) 15 [a0, a1, a2] = (m_safe_number (callN tab n) [a0, a1, a2, .gone]).bind (outOf 3 []) := rfl
theorem call_weakest_lessons (n : Nat) (a0 a1 a2 : T) : callN tab (n + 1) 16 [a0, a1, a2] = (m_weakest_lessons (callN tab n) [a0, a1, a2, .gone, .gone, .gone]).bind (outOf 3 [3]) := rfl
theorem call_ill_beyond (n : Nat) (a0 a1 a2 : T) : callN tab (n + 1) 17 [a0, a1, a2] = (m_ill_beyond (callN tab n) [a0, a1, a2, .gone, .gone, .gone]).bind (outOf 3 [3, 4, 5]) := rfl
theorem call_law_purse (n : Nat) (a0 a1 : T) : callN tab (n + 1) 18 [a0, a1] = (m_law_purse (callN tab n) [a0, a1, .gone]).bind (outOf 2 [2]) := rfl
theorem call_law_mixed (n : Nat) (a0 a1 a2 : T) : callN tab (n + 1) 19 [a0, a1, a2] = (m_law_mixed (callN tab n) [a0, a1, a2, .gone]).bind (outOf 3 [3]) := rfl
theorem call_law_draw (n : Nat) (a0 a1 : T) : callN tab (n + 1) 20 [a0, a1] = (m_law_draw (callN tab n) [a0, a1, .gone, .gone, .gone]).bind (outOf 2 [2, 3, 4]) := rfl
theorem call_law_purses (n : Nat) (a0 a1 : T) : callN tab (n + 1) 21 [a0, a1] = (m_law_purses (callN tab n) [a0, a1, .gone]).bind (outOf 2 []) := rfl
theorem call_law_one_of (n : Nat) (a0 a1 : T) : callN tab (n + 1) 22 [a0, a1] = (m_law_one_of (callN tab n) [a0, a1]).bind (outOf 2 []) := rfl
theorem call_law_shuffled (n : Nat) (a0 a1 : T) : callN tab (n + 1) 23 [a0, a1] = (m_law_shuffled (callN tab n) [a0, a1, .gone, .gone]).bind (outOf 2 [2, 3]) := rfl
theorem call_law_exact (n : Nat) (a0 a1 : T) : callN tab (n + 1) 24 [a0, a1] = (m_law_exact (callN tab n) [a0, a1, .gone, .gone, .gone, .gone]).bind (outOf 2 [2, 3]) := rfl
theorem call_law_plan (n : Nat) (a0 a1 a2 a3 a4 : T) : callN tab (n + 1) 25 [a0, a1, a2, a3, a4] = (m_law_plan (callN tab n) [a0, a1, a2, a3, a4, .gone, .gone, .gone, .gone, .gone]).bind (outOf 5 [5, 6, 7, 8, 9]) := rfl
theorem call_law_late_hours (n : Nat) (a0 a1 : T) : callN tab (n + 1) 26 [a0, a1] = (m_law_late_hours (callN tab n) [a0, a1, .gone, .gone]).bind (outOf 2 []) := rfl
theorem call_law_able (n : Nat) (a0 a1 a2 : T) : callN tab (n + 1) 27 [a0, a1, a2] = (m_law_able (callN tab n) [a0, a1, a2, .gone, .gone, .gone]).bind (outOf 3 [3, 4]) := rfl
theorem call_law_shut (n : Nat) (a0 a1 a2 : T) : callN tab (n + 1) 28 [a0, a1, a2] = (m_law_shut (callN tab n) [a0, a1, a2, .gone, .gone, .gone]).bind (outOf 3 [3, 4]) := rfl
theorem call_law_busy (n : Nat) (a0 a1 a2 : T) : callN tab (n + 1) 29 [a0, a1, a2] = (m_law_busy (callN tab n) [a0, a1, a2, .gone]).bind (outOf 3 []) := rfl
theorem call_law_free (n : Nat) (a0 a1 a2 a3 a4 : T) : callN tab (n + 1) 30 [a0, a1, a2, a3, a4] = (m_law_free (callN tab n) [a0, a1, a2, a3, a4, .gone, .gone]).bind (outOf 5 [5]) := rfl
theorem call_law_lessons (n : Nat) (a0 : T) : callN tab (n + 1) 31 [a0] = (m_law_lessons (callN tab n) [a0, .gone, .gone, .gone]).bind (outOf 1 [1, 2]) := rfl
theorem call_law_calls (n : Nat) (a0 a1 a2 a3 : T) : callN tab (n + 1) 32 [a0, a1, a2, a3] = (m_law_calls (callN tab n) [a0, a1, a2, a3, .gone, .gone, .gone, .gone, .gone]).bind (outOf 4 [4, 5, 6, 7]) := rfl
theorem call_law_can_all (n : Nat) (a0 : T) : callN tab (n + 1) 33 [a0] = (m_law_can_all (callN tab n) [a0, .gone, .gone, .gone, .gone, .gone, .gone, .gone]).bind (outOf 1 [1, 2, 3, 4, 5]) := rfl
theorem call_law_lists (n : Nat) (a0 a1 : T) : callN tab (n + 1) 34 [a0, a1] = (m_law_lists (callN tab n) [a0, a1, .gone, .gone, .gone]).bind (outOf 2 [2, 3]) := rfl
theorem call_law_safe_right (n : Nat) (a0 a1 a2 a3 : T) : callN tab (n + 1) 35 [a0, a1, a2, a3] = (m_law_safe_right (callN tab n) [a0, a1, a2, a3, .gone, .gone, .gone, .gone, .gone, .gone, .gone, .gone, .gone, .gone]).bind (outOf 4 [4, 5, 6, 7, 8, 9, 10, 11, 12]) := rfl
theorem call_law (n : Nat) (a0 : T) : callN tab (n + 1) 36 [a0] = (m_law (callN tab n) [a0, .gone, .gone, .gone, .gone, .gone, .gone, .gone, .gone, .gone, .gone, .gone, .gone, .gone, .gone]).bind (outOf 1 [1, 2, 3, 4, 5, 6, 7, 8, 9, 10, 11, 12, 13, 14]) := rfl
end K70
end
section
namespace K70
open PySem PySem.Spec PyProof.Rows L2 SW
open PySem.W (dataLt alike keyToks)

/-- the words that the law draws from -/
def WS : List Str := ["a", "v", "w", "x", "y", "az", "b", "ba", "zz", "zoe", "zed", "ab", "c", "ann", "bob", "cid", "dan"]
theorem ev_whole (n : Nat) (k : Int) : callN tab (n + 1) 0 [.fz (.int k)] = some (.fz (.bool true), [.fz (.int k)]) := by
  rw [call_is_whole]
  unfold m_is_whole
  simp
theorem ev_count (n : Nat) (k : Int) : callN tab (n + 2) 1 [.fz (.int k), .fz (.int 0)] = some (.fz (.bool (decide (0 ≤ k))), [.fz (.int k), .fz (.int 0)]) := by
  rw [call_is_count]
  unfold m_is_count
  simp [ev_whole]
  rw [Bool.eq_iff_iff]
  simp
theorem ev_word (n : Nat) : ∀ w ∈ WS, callN tab (n + 1) 2 [.fz (.str w)] = some (.fz (.bool true), [.fz (.str w)]) := by
  intro w h
  simp only [WS, List.mem_cons, List.not_mem_nil, or_false] at h
  rcases h with rfl | rfl | rfl | rfl | rfl | rfl | rfl | rfl | rfl | rfl | rfl | rfl | rfl | rfl | rfl | rfl | rfl <;> rfl
theorem ev_tuple (n : Nat) (d : PyData) (h : isTy d .tuple = true) (k : Int) (l : lenG (false, .fz d) = some (.fz (.int k))) : callN tab (n + 1) 3 [.fz d, .fz (.int k)] = some (.fz (.bool true), [.fz d, .fz (.int k)]) := by
  rw [call_is_tuple_of]
  unfold m_is_tuple_of
  simp [h, l]
theorem asc_zip {α : Type} {e : α → PyData} : ∀ {xs : List α}, Asc e xs → ∀ p ∈ xs.zip (xs.tail), dataLt (e p.1) (e p.2) = true
  | [], _, p, m => by simp at m
  | [x], _, p, m => by simp at m
  | x :: y :: xs, h, p, m => by
    have h := List.pairwise_cons.mp h
    rcases List.mem_cons.mp (show p ∈ (x, y) :: (y :: xs).zip ((y :: xs).tail) from m) with rfl | m
    · exact h.1 y List.mem_cons_self
    · exact asc_zip h.2 p m
theorem ev_ascend {α : Type} {e : α → PyData} (n : Nat) (xs : List α) (al : ∀ a b, ltD (e a) (e b) = some (dataLt (e a) (e b))) (l : xs.length ≤ 1000) (h : Asc e xs) :
    callN tab (n + 1) 4 [.fz (.list (xs.map e))] = some (.fz (.bool true), [.fz (.list (xs.map e))]) := by
  have hc : c_do_ascend_1 (callN tab n) [.fz (.list (xs.map e)), .gone, .gone] = some (.lst ((xs.zip (xs.tail)).map fun p => .fz (.bool (dataLt (e p.1) (e p.2)))), [.fz (.list (xs.map e)), .gone, .gone]) := by
    unfold c_do_ascend_1
    rw [lc_all (fun p : α × α => .fz (.tuple [e p.1, e p.2])) (fun p => .fz (.bool (dataLt (e p.1) (e p.2)))) (xs.zip (xs.tail)) (ts := zipT (xs.map fun x => .fz (e x)) ((xs.tail).map fun x => .fz (e x))) (τ1 := [.fz (.list (xs.map e)), .gone, .gone])]
    · simp
    · simp
      rw [tail_mapT, tail_mapT]
      rfl
    · exact zipT_e
    · exact sizeL_le (by simp; omega)
    · intro p m acc la
      simp [lcTurn, al, la]
  rw [call_do_ascend]
  unfold m_do_ascend
  simp [hc]
  exact fun a b m => asc_zip h (a, b) m
theorem asc_int {a b : Int} : ltD (.int a) (.int b) = some (dataLt (.int a) (.int b)) := by rw [ltD_int, PySem.W.dataLt_int]
theorem ev_hours (n : Nat) (hs : List Int) (l : hs.length ≤ 1000) (h : Asc .int hs) (h0 : ∀ h ∈ hs, 0 ≤ h) : callN tab (n + 3) 5 [.fz (.list (hs.map .int))] = some (.fz (.bool true), [.fz (.list (hs.map .int))]) := by
  have hc : c_are_hours_1 (callN tab (n + 2)) [.fz (.list (hs.map .int)), .gone] = some (.lst (hs.map fun k => .fz (.bool (decide (0 ≤ k)))), [.fz (.list (hs.map .int)), .gone]) := by
    unfold c_are_hours_1
    rw [lc_all (fun k : Int => .fz (.int k)) (fun k => .fz (.bool (decide (0 ≤ k)))) hs (ts := hs.map fun x => .fz (.int x)) (τ1 := [.fz (.list (hs.map .int)), .gone])]
    · simp
    · simp
    · rfl
    · exact sizeL_le (by omega)
    · intro p m acc la
      simp [lcTurn, ev_count, la]
  rw [call_are_hours]
  unfold m_are_hours
  simp [hc, ev_ascend (n + 1) hs (fun _ _ => asc_int) l h]
  rw [if_pos h0]
  rfl
theorem ev_words (n : Nat) (ws : List Str) (l : ws.length ≤ 1000) (h : Asc .str ws) (h0 : ∀ w ∈ ws, w ∈ WS) : callN tab (n + 2) 10 [.fz (.list (ws.map .str))] = some (.fz (.bool true), [.fz (.list (ws.map .str))]) := by
  have hc : c_are_words_1 (callN tab (n + 1)) [.fz (.list (ws.map .str)), .gone] = some (.lst (ws.map fun k => .fz (.bool true)), [.fz (.list (ws.map .str)), .gone]) := by
    unfold c_are_words_1
    rw [lc_all (fun k : Str => .fz (.str k)) (fun k => .fz (.bool true)) ws (ts := ws.map fun x => .fz (.str x)) (τ1 := [.fz (.list (ws.map .str)), .gone])]
    · simp
    · simp
    · rfl
    · exact sizeL_le (by omega)
    · intro p m acc la
      simp [lcTurn, ev_word n p (h0 p m), la]
  rw [call_are_words]
  unfold m_are_words
  simp [hc, ev_ascend n ws (fun _ _ => ltD_str _ _) l h]
theorem ev_pair (n : Nat) (p : Str × Str) (h1 : p.1 ∈ WS) (h2 : p.2 ∈ WS) : callN tab (n + 2) 6 [.fz (eSS p)] = some (.fz (.bool true), [.fz (eSS p)]) := by
  have e1 := ev_tuple n (eSS p) rfl 2 rfl
  unfold eSS at *
  rw [call_is_pair_of_words]
  unfold m_is_pair_of_words
  simp [e1, ev_word n _ h1, ev_word n _ h2]
end K70
end
section
namespace K70
open PySem PySem.Spec PyProof.Rows L2 SW
open PySem.W (dataLt alike keyToks)

abbrev Plan := List ((Str × Str) × List Int)
abbrev Able := List (Str × List Str)
abbrev Shut := List (Str × List Int)
abbrev Les := Int × Str × Str
def dHs (hs : List Int) : PyData := .list (hs.map .int)
def dWs (ws : List Str) : PyData := .list (ws.map .str)
def dP (p : Plan) : PyData := .dict (p.map fun q => (eSS q.1, dHs q.2))
def dA (a : Able) : PyData := .dict (a.map fun q => (.str q.1, dWs q.2))
def dS (s : Shut) : PyData := .dict (s.map fun q => (.str q.1, dHs q.2))
def less0 (p : Plan) : List Les := p.flatMap fun q => q.2.map fun h => (h, q.1.1, q.1.2)
def less (p : Plan) : List Les := srtE eISS (less0 p)
theorem ok_ISS (xs : List Les) : srtOk (xs.map eISS) = true := srtOk_by (fun a b => by simp [eISS, alike, PySem.W.alikeAll]) (.inl fun a => rfl) (fun a => by simp [eISS, PyData.depth, PyData.depthAll]) xs
theorem inj_ISS : Inj eISS := fun a b h => by
  have h : ([.inl 1, .inl a.1, .inl 1, .inr a.2.1.cps.toList, .inl 1, .inr a.2.2.cps.toList, .inl 0] : List (Int ⊕ List Nat)) = [.inl 1, .inl b.1, .inl 1, .inr b.2.1.cps.toList, .inl 1, .inr b.2.2.cps.toList, .inl 0] := by simpa [keyToks, PySem.W.keyToksAll, eISS] using h
  simp only [List.cons.injEq, Sum.inl.injEq, Sum.inr.injEq, and_true, true_and] at h
  obtain ⟨h1, h2, h3⟩ := h
  exact Prod.ext h1 (Prod.ext (str_toks h2) (str_toks h3))
theorem ev_lessons (n : Nat) (p : Plan) (l : (less0 p).length ≤ 1000) : callN tab (n + 1) 7 [.fz (dP p)] = some (.fz (.list ((less p).map eISS)), [.fz (dP p)]) := by
  have hc : c_lessons_of_1 (callN tab n) [.fz (dP p), .gone, .gone, .gone] = some (.lst ((less0 p).map fun x => .fz (eISS x)), [.fz (dP p), .gone, .gone, .gone]) := by
    unfold c_lessons_of_1
    rw [lc2_ev (fun q : (Str × Str) × List Int => .fz (.tuple [eSS q.1, dHs q.2])) (fun q => q.2) (fun h => .fz (.int h)) (fun q h => .fz (eISS (h, q.1.1, q.1.2))) p (ts := p.map fun q => .fz (.tuple [eSS q.1, dHs q.2])) (τ1 := [.fz (dP p), .gone, .gone, .gone])]
    · simp [less0, List.map_flatMap, Function.comp_def]
    · simp [dP, Function.comp_def]
    · rfl
    · have : (p.flatMap fun q => q.2).length = (less0 p).length := by simp [less0, List.length_flatMap]
      exact sizeL_le (by rw [this]; omega)
    · intro q m
      refine ⟨[.fz (dP p), .fz (eSS q.1), .fz (dHs q.2), .gone], [.fz (dP p), .fz (eSS q.1), .fz (dHs q.2), .gone], q.2.map fun h => .fz (.int h), [.fz (dP p), .fz (eSS q.1), .fz (dHs q.2), .gone], ?_, ?_, ?_, rfl, ?_, ?_⟩
      · simp
      · simp
      · simp [dHs, Function.comp_def]
      · simp
      · intro h mh acc la
        simp [lcTurn, eSS, eISS, la, sizeL_le]
  rw [call_lessons_of]
  unfold m_lessons_of
  simp only [sRet_e, vFz_e, v1_e, asArg_e, hc, Option.map_some, Option.bind_some, ag_tm]
  rw [srtG_e (e := eISS) (xs := less0 p) (by simp) (sizeL_le (by omega)) (ok_ISS _)]
  simp [less, Function.comp_def]
theorem less_mem {p : Plan} {x : Les} : x ∈ less p ↔ ∃ hs, ((x.2.1, x.2.2), hs) ∈ p ∧ x.1 ∈ hs := by
  unfold less
  rw [srtE_mem]
  unfold less0
  simp only [List.mem_flatMap, List.mem_map]
  constructor
  · rintro ⟨⟨⟨g, t⟩, hs⟩, m, h, mh, rfl⟩
    exact ⟨hs, m, mh⟩
  · rintro ⟨hs, m, mh⟩
    exact ⟨_, m, x.1, mh, rfl⟩
/-- what a sound plan is -/
structure OkP (p : Plan) : Prop where
  len : (less0 p).length ≤ 1000
  lenP : p.length ≤ 1000
  keys : (p.map (·.1)).Nodup
  w1 : ∀ q ∈ p, q.1.1 ∈ WS ∧ q.1.2 ∈ WS
  hs : ∀ q ∈ p, q.2 ≠ [] ∧ Asc .int q.2 ∧ (∀ h ∈ q.2, 0 ≤ h) ∧ q.2.length ≤ 1000
  gs : ((less p).map fun x => (x.1, x.2.1)).Nodup
  ts : ((less p).map fun x => (x.1, x.2.2)).Nodup
theorem OkP.lenL {p : Plan} (k : OkP p) : (less p).length ≤ 1000 := by
  unfold less
  rw [srtE_len]
  exact k.len
/-- a dict of truths over lessons, by keys apart -/
theorem dcl {κ : Type} [DecidableEq κ] (f : κ → PyData) (key : Les → κ) (hf : KeyE f) (ok : ∀ k (m : List (κ × Bool)), kOk (f k) (m.map fun q => (f q.1, T.fz (.bool q.2))) = true) (p : Plan) (nd : ((less p).map key).Nodup) :
    ((less p).foldl (fun m x => put (key x) true m) ([] : List (κ × Bool))) = (less p).map fun x => (key x, true) := by
  have := fold_new (key := key) (val := fun _ => true) (less p) [] (by simpa using nd)
  simpa using this
theorem ev_clash (n : Nat) (p : Plan) (k : OkP p) : callN tab (n + 2) 8 [.fz (dP p)] = some (.fz (.bool true), [.fz (dP p)]) := by
  have lenL := k.lenL
  have h2 : c_is_clashless_2 (callN tab (n + 1)) [.fz (dP p), .fz (.list ((less p).map eISS)), .gone, .gone, .gone, .gone, .gone] = some (.dct ((less p).map fun x => (eIS (x.1, x.2.1), .fz (.bool true))), [.fz (dP p), .fz (.list ((less p).map eISS)), .gone, .gone, .gone, .gone, .gone]) := by
    unfold c_is_clashless_2
    rw [dc_ev (fun x : Les => .fz (eISS x)) eIS (fun b : Bool => .fz (.bool b)) (fun x => (x.1, x.2.1)) (fun _ => true) keyE_IS (fun k m => kOk_T (g := fun b : Bool => T.fz (.bool b)) isKT_IS) (less p) (ts := (less p).map fun x => .fz (eISS x)) (τ1 := [.fz (dP p), .fz (.list ((less p).map eISS)), .gone, .gone, .gone, .gone, .gone])]
    · rw [dcl eIS _ keyE_IS (fun k m => kOk_T (g := fun b : Bool => T.fz (.bool b)) isKT_IS) p k.gs]
      simp [Function.comp_def]
    · simp [Function.comp_def]
    · rfl
    · exact sizeL_le (by omega)
    · intro x m acc
      simp [dcTurn, eISS, eIS, sizeL_le]
  have h1 : c_is_clashless_1 (callN tab (n + 1)) [.fz (dP p), .fz (.list ((less p).map eISS)), .fz (.dict ((less p).map fun x => (eIS (x.1, x.2.1), .bool true))), .gone, .gone, .gone, .gone] = some (.dct ((less p).map fun x => (eIS (x.1, x.2.2), .fz (.bool true))), [.fz (dP p), .fz (.list ((less p).map eISS)), .fz (.dict ((less p).map fun x => (eIS (x.1, x.2.1), .bool true))), .gone, .gone, .gone, .gone]) := by
    unfold c_is_clashless_1
    rw [dc_ev (fun x : Les => .fz (eISS x)) eIS (fun b : Bool => .fz (.bool b)) (fun x => (x.1, x.2.2)) (fun _ => true) keyE_IS (fun k m => kOk_T (g := fun b : Bool => T.fz (.bool b)) isKT_IS) (less p) (ts := (less p).map fun x => .fz (eISS x)) (τ1 := [.fz (dP p), .fz (.list ((less p).map eISS)), .fz (.dict ((less p).map fun x => (eIS (x.1, x.2.1), .bool true))), .gone, .gone, .gone, .gone])]
    · rw [dcl eIS _ keyE_IS (fun k m => kOk_T (g := fun b : Bool => T.fz (.bool b)) isKT_IS) p k.ts]
      simp [Function.comp_def]
    · simp [Function.comp_def]
    · rfl
    · exact sizeL_le (by omega)
    · intro x m acc
      simp [dcTurn, eISS, eIS, sizeL_le]
  rw [call_is_clashless]
  unfold m_is_clashless
  simp [ev_lessons n p k.len, h2, h1]
end K70
end
section
namespace K70
open PySem PySem.Spec PyProof.Rows L2 SW
open PySem.W (dataLt alike keyToks)

structure OkS (s : Shut) : Prop where
  len : s.length ≤ 1000
  keys : (s.map (·.1)).Nodup
  ws : ∀ q ∈ s, q.1 ∈ WS
  hs : ∀ q ∈ s, Asc .int q.2 ∧ (∀ h ∈ q.2, 0 ≤ h) ∧ q.2.length ≤ 1000
structure OkA (p : Plan) (a : Able) : Prop where
  len : a.length ≤ 1000
  keys : (a.map (·.1)).Nodup
  gs : ∀ g, g ∈ a.map (·.1) ↔ ∃ q ∈ p, q.1.1 = g
  ws : ∀ q ∈ a, Asc .str q.2 ∧ (∀ w ∈ q.2, w ∈ WS) ∧ q.2.length ≤ 1000
theorem eqD_list_nil (x : PyData) (xs : List PyData) (h : okD (.list (x :: xs)) = true) : eqD (.list (x :: xs)) (.list []) = some false := by
  show (if okD (.list (x :: xs)) && okD (.list []) then some (PyData.eqv (.list (x :: xs)) (.list [])) else none) = _
  rw [h]
  simp [okD, PyData.plain, PyData.depth, PyData.plainAll, PyData.depthAll, PyData.eqv, PyData.eqvAll]
theorem okD_hs (hs : List Int) : okD (dHs hs) = true := by
  have h1 := plainAll_map (e := PyData.int) (fun a => by simp [PyData.plain]) hs
  have h2 := depthAll_map (e := PyData.int) (n := 0) (fun a => by simp [PyData.depth]) hs
  simp [okD, dHs, PyData.plain, PyData.depth, h1]
  omega
theorem ev_sound (n : Nat) (p : Plan) (k : OkP p) : callN tab (n + 4) 9 [.fz (dP p)] = some (.fz (.bool true), [.fz (dP p)]) := by
  have h2 : c_is_sound_there_2 (callN tab (n + 3)) [.fz (dP p), .gone, .gone] = some (.lst (p.map fun q => .fz (.bool true)), [.fz (dP p), .gone, .gone]) := by
    unfold c_is_sound_there_2
    rw [lc_all (fun q : (Str × Str) × List Int => .fz (eSS q.1)) (fun q => .fz (.bool true)) p (ts := p.map fun q => .fz (eSS q.1)) (τ1 := [.fz (dP p), .gone, .gone])]
    · simp
    · simp [dP, Function.comp_def]
    · rfl
    · exact sizeL_le (by have := k.lenP; omega)
    · intro q m acc la
      have e := ev_pair (n + 1) q.1 (k.w1 q m).1 (k.w1 q m).2
      simp [lcTurn, e, la]
  have h1 : c_is_sound_there_1 (callN tab (n + 3)) [.fz (dP p), .gone, .gone] = some (.lst (p.map fun q => .fz (.bool true)), [.fz (dP p), .gone, .gone]) := by
    unfold c_is_sound_there_1
    rw [lc_all (fun q : (Str × Str) × List Int => .fz (dHs q.2)) (fun q => .fz (.bool true)) p (ts := p.map fun q => .fz (dHs q.2)) (τ1 := [.fz (dP p), .gone, .gone])]
    · simp
    · simp [dP, Function.comp_def]
    · rfl
    · exact sizeL_le (by have := k.lenP; omega)
    · intro q m acc la
      obtain ⟨a1, a2, a3, a4⟩ := k.hs q m
      have e := ev_hours n q.2 a4 a2 a3
      have e2 : eqD (dHs q.2) (.list []) = some false := by
        cases hq : q.2 with
        | nil => exact absurd hq a1
        | cons x xs => exact eqD_list_nil _ _ (okD_hs (x :: xs))
      unfold dHs at e2 ⊢
      simp [lcTurn, e, la, sizeL_le, e2]
  rw [call_is_sound_there]
  unfold m_is_sound_there
  have tP : isTy (dP p) .dict = true := rfl
  simp [h2, h1, ev_clash (n + 1) p k, tP]
theorem lk_of_mem {κ β : Type} [DecidableEq κ] {qs : List (κ × β)} {q : κ × β} (nd : (qs.map (·.1)).Nodup) (m : q ∈ qs) : lk q.1 qs = some q.2 := lk_mem nd m
theorem ev_shut (n : Nat) (s : Shut) (k : OkS s) : callN tab (n + 4) 12 [.fz (dS s)] = some (.fz (.bool true), [.fz (dS s)]) := by
  have h1 : c_is_shut_there_1 (callN tab (n + 3)) [.fz (dS s), .gone] = some (.lst (s.map fun q => .fz (.bool true)), [.fz (dS s), .gone]) := by
    unfold c_is_shut_there_1
    rw [lc_all (fun q : Str × List Int => .fz (.str q.1)) (fun q => .fz (.bool true)) s (ts := s.map fun q => .fz (.str q.1)) (τ1 := [.fz (dS s), .gone])]
    · simp
    · simp [dS, Function.comp_def]
    · rfl
    · exact sizeL_le (by have := k.len; omega)
    · intro q m acc la
      obtain ⟨a2, a3, a4⟩ := k.hs q m
      have e := ev_hours n q.2 a4 a2 a3
      have ew := ev_word (n + 2) q.1 (k.ws q m)
      have f : kFind (.str q.1) (s.map fun q => (PyData.str q.1, dHs q.2)) = some (dHs q.2) := by
        rw [kFind_e keyE_str (g := dHs), lk_of_mem k.keys m]
        rfl
      have ok : kOk (.str q.1) (s.map fun q => (PyData.str q.1, dHs q.2)) = true := kOk_K (g := dHs) isK_S
      simp [lcTurn, dS, ew, la, f, ok]
      unfold dHs
      simp [e]
  rw [call_is_shut_there]
  unfold m_is_shut_there
  simp [h1]
  simp [dS]
def grs (p : Plan) : List (Str × Bool) := p.foldl (fun m q => put q.1.1 true m) []
theorem grs_nd (p : Plan) : ((grs p).map (·.1)).Nodup := fold_nodup (key := fun q : (Str × Str) × List Int => q.1.1) (val := fun _ => true) p [] (by simp)
theorem grs_mem (p : Plan) (g : Str) : g ∈ (grs p).map (·.1) ↔ ∃ q ∈ p, q.1.1 = g := by
  have := fold_mem (key := fun q : (Str × Str) × List Int => q.1.1) (val := fun _ => true) (k := g) p []
  simpa [grs] using this
theorem grs_len {p : Plan} {a : Able} (k : OkA p a) : (grs p).length = a.length := by
  have h : ((grs p).map (·.1)).Perm (a.map (·.1)) := (List.perm_ext_iff_of_nodup (grs_nd p) k.keys).mpr fun g => (grs_mem p g).trans (k.gs g).symm
  have := h.length_eq
  simpa using this
theorem ev_staff (n : Nat) (p : Plan) (a : Able) (s : Shut) (kp : OkP p) (ka : OkA p a) (ks : OkS s) : callN tab (n + 5) 11 [.fz (dP p), .fz (dA a), .fz (dS s)] = some (.fz .none, [.fz (dP p), .fz (dA a), .fz (dS s)]) := by
  have h3 : c_check_staff_3 (callN tab (n + 4)) [.fz (dP p), .fz (dA a), .fz (dS s), .gone, .gone, .gone] = some (.dct ((grs p).map fun q => (.str q.1, .fz (.bool q.2))), [.fz (dP p), .fz (dA a), .fz (dS s), .gone, .gone, .gone]) := by
    unfold c_check_staff_3
    rw [dc_ev (fun q : (Str × Str) × List Int => .fz (eSS q.1)) PyData.str (fun b : Bool => .fz (.bool b)) (fun q => q.1.1) (fun _ => true) keyE_str (fun k m => kOk_K (g := fun b : Bool => T.fz (.bool b)) isK_S) p (ts := p.map fun q => .fz (eSS q.1)) (τ1 := [.fz (dP p), .fz (dA a), .fz (dS s), .gone, .gone, .gone])]
    · simp [grs]
    · simp [dP, Function.comp_def]
    · rfl
    · exact sizeL_le (by have := kp.lenP; omega)
    · intro x m acc
      simp [dcTurn, eSS, sizeL_le]
  have lg := grs_len ka
  let G : PyData := .dict ((grs p).map fun q => (.str q.1, .bool q.2))
  have hg : ∀ q ∈ grs p, ∃ ws, lk q.1 a = some ws ∧ (q.1, ws) ∈ a := fun q m => by
    have h1 : q.1 ∈ a.map (·.1) := (ka.gs q.1).mpr ((grs_mem p q.1).mp (List.mem_map_of_mem (f := (·.1)) m))
    obtain ⟨r, mr, er⟩ := List.mem_map.mp h1
    refine ⟨r.2, ?_, er ▸ mr⟩
    rw [← er]
    exact lk_of_mem ka.keys mr
  have h2 : c_check_staff_2 (callN tab (n + 4)) [.fz (dP p), .fz (dA a), .fz (dS s), .fz G, .gone, .gone] = some (.lst ((grs p).map fun q => .fz (.bool true)), [.fz (dP p), .fz (dA a), .fz (dS s), .fz G, .gone, .gone]) := by
    unfold c_check_staff_2
    rw [lc_all (fun q : Str × Bool => .fz (.str q.1)) (fun q => .fz (.bool true)) (grs p) (ts := (grs p).map fun q => .fz (.str q.1)) (τ1 := [.fz (dP p), .fz (dA a), .fz (dS s), .fz G, .gone, .gone])]
    · simp
    · simp [G, Function.comp_def]
    · rfl
    · exact sizeL_le (by have := ka.len; omega)
    · intro q m acc la
      obtain ⟨ws, e, _⟩ := hg q m
      have f : inD (.str q.1) (dA a) = some true := by
        show (if kOk (.str q.1) (a.map fun q => (PyData.str q.1, dWs q.2)) then some (kFind (.str q.1) (a.map fun q => (PyData.str q.1, dWs q.2))).isSome else none) = _
        rw [if_pos (kOk_K (g := dWs) isK_S), kFind_e keyE_str (g := dWs), e]
        rfl
      simp [lcTurn, la, f]
  have h1 : c_check_staff_1 (callN tab (n + 4)) [.fz (dP p), .fz (dA a), .fz (dS s), .fz G, .gone, .gone] = some (.lst ((grs p).map fun q => .fz (.bool true)), [.fz (dP p), .fz (dA a), .fz (dS s), .fz G, .gone, .gone]) := by
    unfold c_check_staff_1
    rw [lc_all (fun q : Str × Bool => .fz (.str q.1)) (fun q => .fz (.bool true)) (grs p) (ts := (grs p).map fun q => .fz (.str q.1)) (τ1 := [.fz (dP p), .fz (dA a), .fz (dS s), .fz G, .gone, .gone])]
    · simp
    · simp [G, Function.comp_def]
    · rfl
    · exact sizeL_le (by have := ka.len; omega)
    · intro q m acc la
      obtain ⟨ws, e, mw⟩ := hg q m
      obtain ⟨a1, a2, a3⟩ := ka.ws _ mw
      have ev := ev_words (n + 2) ws a3 a1 a2
      have f : kFind (.str q.1) (a.map fun q => (PyData.str q.1, dWs q.2)) = some (dWs ws) := by
        rw [kFind_e keyE_str (g := dWs), e]
        rfl
      have ok : kOk (.str q.1) (a.map fun q => (PyData.str q.1, dWs q.2)) = true := kOk_K (g := dWs) isK_S
      simp [lcTurn, dA, la, f, ok]
      unfold dWs
      simp [ev]
  rw [call_check_staff]
  unfold m_check_staff
  have tA : isTy (dA a) .dict = true := rfl
  have lA : lenG (false, .fz (dA a)) = some (.fz (.int a.length)) := by
    show some (T.fz (.int ((a.map _).length : Nat))) = _
    rw [List.length_map]
  simp [ev_sound n p kp, h3, tA, lA, lg]
  simp [G] at h2 h1
  simp [h2, h1, ev_shut n s ks]
end K70
end
section
namespace K70
open PySem PySem.Spec PyProof.Rows L2 SW
open PySem.W (dataLt alike keyToks)

/-- who is able in the lesson's group, free and not shut then -/
def fr (p : Plan) (a : Able) (s : Shut) (x : Les) : List Str := ((lk x.2.1 a).getD []).filter fun w => !decide ((x.1, w) ∈ (less p).map fun y => (y.1, y.2.2)) && !decide (x.1 ∈ (lk w s).getD [])
def dF (p : Plan) (a : Able) (s : Shut) : PyData := .dict ((less p).map fun x => (eISS x, dWs (fr p a s x)))
theorem fr_len {p : Plan} {a : Able} {s : Shut} {x : Les} (ka : OkA p a) : (fr p a s x).length ≤ 1000 := by
  refine Nat.le_trans (List.length_filter_le _ _) ?_
  cases h : lk x.2.1 a with
  | none => simp
  | some ws => exact (ka.ws _ (lk_some h)).2.2
theorem less_nd {p : Plan} (k : OkP p) : (less p).Nodup := List.Pairwise.imp (fun {x y} h e => h (by rw [e])) (List.pairwise_map.mp k.ts)
theorem lk_less {p : Plan} {a : Able} (ka : OkA p a) {x : Les} (m : x ∈ less p) : ∃ ws, lk x.2.1 a = some ws ∧ (x.2.1, ws) ∈ a := by
  obtain ⟨hs, m1, _⟩ := less_mem.mp m
  have h1 : x.2.1 ∈ a.map (·.1) := (ka.gs x.2.1).mpr ⟨_, m1, rfl⟩
  obtain ⟨r, mr, er⟩ := List.mem_map.mp h1
  refine ⟨r.2, ?_, er ▸ mr⟩
  rw [← er]
  exact lk_of_mem ka.keys mr
theorem getD2_shut (s : Shut) (w : Str) : getD2 (.fz (dS s)) (.str w) (true, .lst []) = some (match lk w s with
    | some hs => .fz (dHs hs)
    | none => .lst []) := by
  show (if kOk (.str w) (s.map fun q => (PyData.str q.1, dHs q.2)) then (match kFind (.str w) (s.map fun q => (PyData.str q.1, dHs q.2)) with
    | some v => some (T.fz v)
    | none => if true || T.isFz (.lst []) then some (T.lst []) else none) else none) = _
  rw [if_pos (kOk_K (g := dHs) isK_S), kFind_e keyE_str (g := dHs)]
  cases lk w s <;> rfl
theorem inD_nil (i : Int) : inD (.int i) (.list []) = some false := inD_ints i []
theorem ev_free (n : Nat) (p : Plan) (a : Able) (s : Shut) (kp : OkP p) (ka : OkA p a) : callN tab (n + 2) 13 [.fz (dP p), .fz (dA a), .fz (dS s)] = some (.fz (dF p a s), [.fz (dP p), .fz (dA a), .fz (dS s)]) := by
  let L : PyData := .list ((less p).map eISS)
  let B : PyData := .dict ((less p).map fun x => (eIS (x.1, x.2.2), .bool true))
  have lenL := kp.lenL
  have h2 : c_free_able_2 (callN tab (n + 1)) [.fz (dP p), .fz (dA a), .fz (dS s), .fz L, .dct [], .gone, .gone, .gone, .gone, .gone, .gone] = some (.dct ((less p).map fun x => (eIS (x.1, x.2.2), .fz (.bool true))), [.fz (dP p), .fz (dA a), .fz (dS s), .fz L, .dct [], .gone, .gone, .gone, .gone, .gone, .gone]) := by
    unfold c_free_able_2
    rw [dc_ev (fun x : Les => .fz (eISS x)) eIS (fun b : Bool => .fz (.bool b)) (fun x => (x.1, x.2.2)) (fun _ => true) keyE_IS (fun k m => kOk_T (g := fun b : Bool => T.fz (.bool b)) isKT_IS) (less p) (ts := (less p).map fun x => .fz (eISS x)) (τ1 := [.fz (dP p), .fz (dA a), .fz (dS s), .fz L, .dct [], .gone, .gone, .gone, .gone, .gone, .gone])]
    · rw [dcl eIS _ keyE_IS (fun k m => kOk_T (g := fun b : Bool => T.fz (.bool b)) isKT_IS) p kp.ts]
      simp [Function.comp_def]
    · simp [L, Function.comp_def]
    · rfl
    · exact sizeL_le (by omega)
    · intro x m acc
      simp [dcTurn, eISS, eIS, sizeL_le]
  have hc : ∀ (x : Les) (D Z : T), x ∈ less p → c_free_able_1 (callN tab (n + 1)) [.fz (dP p), .fz (dA a), .fz (dS s), .fz L, D, .fz B, .fz (.int x.1), .fz (.str x.2.1), .fz (.str x.2.2), Z, .gone] = some (.lst ((fr p a s x).map fun w => .fz (.str w)), [.fz (dP p), .fz (dA a), .fz (dS s), .fz L, D, .fz B, .fz (.int x.1), .fz (.str x.2.1), .fz (.str x.2.2), Z, .gone]) := by
    intro x D Z m
    obtain ⟨ws, e, mw⟩ := lk_less ka m
    unfold c_free_able_1
    rw [lc_ev (fun w : Str => .fz (.str w)) (fun w => .fz (.str w)) (fun w => !decide ((x.1, w) ∈ (less p).map fun y => (y.1, y.2.2)) && !decide (x.1 ∈ (lk w s).getD [])) ws (ts := ws.map fun w => .fz (.str w)) (τ1 := [.fz (dP p), .fz (dA a), .fz (dS s), .fz L, D, .fz B, .fz (.int x.1), .fz (.str x.2.1), .fz (.str x.2.2), Z, .gone])]
    · simp [fr, e]
    · have f : kFind (.str x.2.1) (a.map fun q => (PyData.str q.1, dWs q.2)) = some (dWs ws) := by
        rw [kFind_e keyE_str (g := dWs), e]
        rfl
      have ok : kOk (.str x.2.1) (a.map fun q => (PyData.str q.1, dWs q.2)) = true := kOk_K (g := dWs) isK_S
      simp [dA, f, ok]
      simp [dWs, Function.comp_def]
    · rfl
    · exact sizeL_le (by have h3 : ws.length ≤ 1000 := (ka.ws _ mw).2.2; omega)
    · intro w mw acc la
      have f : inD (eIS (x.1, w)) B = some (decide ((x.1, w) ∈ (less p).map fun y => (y.1, y.2.2))) := by
        show (if kOk (eIS (x.1, w)) ((less p).map fun x => (eIS (x.1, x.2.2), PyData.bool true)) then some (kFind (eIS (x.1, w)) ((less p).map fun x => (eIS (x.1, x.2.2), PyData.bool true))).isSome else none) = _
        have e1 : ((less p).map fun x => (eIS (x.1, x.2.2), PyData.bool true)) = ((less p).map fun x => ((x.1, x.2.2), true)).map fun q => (eIS q.1, PyData.bool q.2) := by simp [Function.comp_def]
        rw [e1, if_pos (kOk_T (g := PyData.bool) isKT_IS), kFind_e keyE_IS (g := PyData.bool), Option.isSome_map, lk_isSome]
        simp [Function.comp_def]
      have g := getD2_shut s w
      unfold eIS at f
      have td : isDT (.fz (dS s)) = true := rfl
      cases hs : lk w s with
      | none =>
        rw [hs] at g
        by_cases c1 : (x.1, w) ∈ (less p).map fun y => (y.1, y.2.2)
        · simp only [c1] at f ⊢
          simp [lcTurn, f, sizeL_le]
        · simp only [c1] at f ⊢
          simp [lcTurn, f, g, td, la, sizeL_le, inD_nil]
      | some hh =>
        rw [hs] at g
        unfold dHs at g
        by_cases c1 : (x.1, w) ∈ (less p).map fun y => (y.1, y.2.2)
        · simp only [c1] at f ⊢
          simp [lcTurn, f, sizeL_le]
        · simp only [c1] at f ⊢
          by_cases c2 : x.1 ∈ hh
          · simp [lcTurn, f, g, td, la, sizeL_le, c2]
          · simp [lcTurn, f, g, td, la, sizeL_le, c2]
  have hl : ∃ τ', l_free_able_1 (callN tab (n + 1)) [.fz (dP p), .fz (dA a), .fz (dS s), .fz L, .dct [], .fz B, .gone, .gone, .gone, .gone, .gone] = some (.nx τ') ∧ ∃ y1 y2 y3 y4, τ' = [.fz (dP p), .fz (dA a), .fz (dS s), .fz L, .dct ((less p).map fun x => (eISS x, .fz (dWs (fr p a s x)))), .fz B, y1, y2, y3, y4, .gone] := by
    unfold l_free_able_1
    refine for_ev (fun x : Les => .fz (eISS x)) (less p) (fun pre τ => ∃ y1 y2 y3 y4, τ = [.fz (dP p), .fz (dA a), .fz (dS s), .fz L, .dct (pre.map fun x => (eISS x, .fz (dWs (fr p a s x)))), .fz B, y1, y2, y3, y4, .gone]) (τ1 := [.fz (dP p), .fz (dA a), .fz (dS s), .fz L, .dct [], .fz B, .gone, .gone, .gone, .gone, .gone]) (ts := (less p).map fun x => .fz (eISS x)) ?_ rfl ⟨.gone, .gone, .gone, .gone, rfl⟩ ?_
    · simp [L, Function.comp_def]
    · rintro pre x post e τ ⟨y1, y2, y3, y4, rfl⟩
      have m : x ∈ less p := by rw [← e]; simp
      have nd := less_nd kp
      rw [← e] at nd
      have nx : x ∉ pre := fun z => (List.nodup_append.mp nd).2.2 x z x List.mem_cons_self rfl
      have lp : pre.length < sizeL := sizeL_lt (by
        have := congrArg List.length e
        simp at this
        omega)
      have e1 : (pre.map fun x => (eISS x, T.fz (dWs (fr p a s x)))) = (pre.map fun x => (x, dWs (fr p a s x))).map fun q => (eISS q.1, T.fz q.2) := by simp [Function.comp_def]
      have put1 : kPut (eISS x) (.fz (dWs (fr p a s x))) (pre.map fun x => (eISS x, T.fz (dWs (fr p a s x)))) = (pre ++ [x]).map fun x => (eISS x, T.fz (dWs (fr p a s x))) := by
        rw [e1, kPut_e keyE_ISS (g := T.fz), put_new (by simpa [Function.comp_def] using nx)]
        simp [Function.comp_def]
      have ok : kOk (eISS x) (pre.map fun x => (eISS x, T.fz (dWs (fr p a s x)))) = true := by
        rw [e1]
        exact kOk_T (g := T.fz) isKT_ISS
      refine ⟨[.fz (dP p), .fz (dA a), .fz (dS s), .fz L, .dct ((pre ++ [x]).map fun x => (eISS x, .fz (dWs (fr p a s x)))), .fz B, .fz (.int x.1), .fz (.str x.2.1), .fz (.str x.2.2), .fz (dWs (fr p a s x)), .gone], ?_, _, _, _, _, rfl⟩
      have h := hc x (.dct (pre.map fun x => (eISS x, .fz (dWs (fr p a s x))))) y4 m
      unfold t_free_able_1
      unfold dWs at put1 ok h ⊢
      unfold eISS at put1 ok h ⊢
      simp [h, put1, ok, lp, sizeL_le]
  obtain ⟨τ', e1, y1, y2, y3, y4, rfl⟩ := hl
  rw [call_free_able]
  unfold m_free_able
  have lenP : (less0 p).length ≤ 1000 := kp.len
  simp only [L, B] at h2 e1
  simp [ev_lessons n p lenP, h2, e1, dF, Function.comp_def]
end K70
end
section
namespace K70
open PySem PySem.Spec PyProof.Rows L2 SW
open PySem.W (dataLt alike keyToks)

abbrev Cl := Int × Str × List Str
def eC (c : Cl) : PyData := .tuple [.int c.1, .str c.2.1, dWs c.2.2]
def tC (c : Cl) : T := .tup [.fz (.int c.1), .fz (.str c.2.1), .lst (c.2.2.map fun w => .fz (.str w))]
theorem tC_d (c : Cl) : (tC c).toD = some (eC c) := by simp [tC, eC, dWs, toDs_c]
theorem ok_C (xs : List Cl) : srtOk (xs.map eC) = true := srtOk_by (fun a b => by simp [eC, dWs, alike, PySem.W.alikeAll, alikeAll_strs]) (.inl fun a => rfl) (fun a => by
  have h := depthAll_map (e := PyData.str) (n := 0) (fun a => by simp [PyData.depth]) a.2.2
  simp [eC, dWs, PyData.depth, PyData.depthAll]
  omega) xs
/-- the call of a lesson -/
def clO (p : Plan) (a : Able) (s : Shut) (ill : List Str) (x : Les) : Cl := (x.1, x.2.1, (fr p a s x).filter fun w => !decide (w ∈ ill))
def clls (p : Plan) (a : Able) (s : Shut) (ill : List Str) (xs : List Les) : List Cl := (xs.filter fun x => decide (x.2.2 ∈ ill)).map (clO p a s ill)
def calls (p : Plan) (a : Able) (s : Shut) (ill : List Str) : List Cl := srtE eC (clls p a s ill (less p))
structure OkI (ill : List Str) : Prop where
  asc : Asc .str ill
  ws : ∀ w ∈ ill, w ∈ WS
  len : ill.length ≤ 1000
theorem clls_len {p : Plan} {a : Able} {s : Shut} {ill : List Str} {xs : List Les} : (clls p a s ill xs).length ≤ xs.length := by
  unfold clls
  rw [List.length_map]
  exact List.length_filter_le _ _
theorem ev_when (n : Nat) (p : Plan) (a : Able) (s : Shut) (ill : List Str) (kp : OkP p) (ka : OkA p a) (ks : OkS s) (ki : OkI ill) :
    callN tab (n + 6) 14 [.fz (dP p), .fz (dA a), .fz (dS s), .fz (dWs ill)] = some (.lst ((calls p a s ill).map tC), [.fz (dP p), .fz (dA a), .fz (dS s), .fz (dWs ill)]) := by
  have lenL := kp.lenL
  have hc : ∀ (x : Les) (D : T), c_calls_when_1 (callN tab (n + 5)) [.fz (dP p), .fz (dA a), .fz (dS s), .fz (dWs ill), D, .fz (.int x.1), .fz (.str x.2.1), .fz (.str x.2.2), .fz (dWs (fr p a s x)), .gone] =
      some (.lst (((fr p a s x).filter fun w => !decide (w ∈ ill)).map fun w => .fz (.str w)), [.fz (dP p), .fz (dA a), .fz (dS s), .fz (dWs ill), D, .fz (.int x.1), .fz (.str x.2.1), .fz (.str x.2.2), .fz (dWs (fr p a s x)), .gone]) := by
    intro x D
    unfold c_calls_when_1
    rw [lc_ev (fun w : Str => .fz (.str w)) (fun w => .fz (.str w)) (fun w => !decide (w ∈ ill)) (fr p a s x) (ts := (fr p a s x).map fun w => .fz (.str w)) (τ1 := [.fz (dP p), .fz (dA a), .fz (dS s), .fz (dWs ill), D, .fz (.int x.1), .fz (.str x.2.1), .fz (.str x.2.2), .fz (dWs (fr p a s x)), .gone])]
    · simp
    · simp [dWs, Function.comp_def]
    · rfl
    · exact sizeL_le (by have := fr_len (p := p) (s := s) (x := x) ka; omega)
    · intro w mw acc la
      unfold dWs
      by_cases c : w ∈ ill
      · simp [lcTurn, c]
      · simp [lcTurn, c, la]
  have hl : ∃ τ', l_calls_when_1 (callN tab (n + 5)) [.fz (dP p), .fz (dA a), .fz (dS s), .fz (dWs ill), .lst [], .gone, .gone, .gone, .gone, .gone] = some (.nx τ') ∧
      ∃ y1 y2 y3 y4, τ' = [.fz (dP p), .fz (dA a), .fz (dS s), .fz (dWs ill), .lst ((clls p a s ill (less p)).map tC), y1, y2, y3, y4, .gone] := by
    unfold l_calls_when_1
    refine for_ev (fun x : Les => .fz (.tuple [eISS x, dWs (fr p a s x)])) (less p) (fun pre τ => ∃ y1 y2 y3 y4, τ = [.fz (dP p), .fz (dA a), .fz (dS s), .fz (dWs ill), .lst ((clls p a s ill pre).map tC), y1, y2, y3, y4, .gone])
      (τ1 := [.fz (dP p), .fz (dA a), .fz (dS s), .fz (dWs ill), .lst [], .gone, .gone, .gone, .gone, .gone]) (ts := (less p).map fun x => .fz (.tuple [eISS x, dWs (fr p a s x)])) ?_ rfl ⟨.gone, .gone, .gone, .gone, rfl⟩ ?_
    · have e := ev_free (n + 3) p a s kp ka
      simp [e, dF, Function.comp_def]
    · rintro pre x post e τ ⟨y1, y2, y3, y4, rfl⟩
      have lp : (clls p a s ill pre).length < sizeL := sizeL_lt (by
        have := congrArg List.length e
        simp at this
        have := clls_len (p := p) (a := a) (s := s) (ill := ill) (xs := pre)
        omega)
      have h := hc x (.lst ((clls p a s ill pre).map tC))
      refine ⟨[.fz (dP p), .fz (dA a), .fz (dS s), .fz (dWs ill), .lst ((clls p a s ill (pre ++ [x])).map tC), .fz (.int x.1), .fz (.str x.2.1), .fz (.str x.2.2), .fz (dWs (fr p a s x)), .gone], ?_, _, _, _, _, rfl⟩
      unfold t_calls_when_1
      have ei : inD (.str x.2.2) (dWs ill) = some (decide (x.2.2 ∈ ill)) := inD_strs _ _
      by_cases c : x.2.2 ∈ ill
      · have ec : clls p a s ill (pre ++ [x]) = clls p a s ill pre ++ [clO p a s ill x] := by simp [clls, c]
        rw [ec]
        simp [eISS, ei, c, h, lp, sizeL_le]
        simp [clO, tC]
      · have ec : clls p a s ill (pre ++ [x]) = clls p a s ill pre := by simp [clls, c]
        rw [ec]
        simp [eISS, ei, c]
  obtain ⟨τ', e1, y1, y2, y3, y4, rfl⟩ := hl
  rw [call_calls_when]
  unfold m_calls_when
  have es := ev_staff n p a s kp ka ks
  have ew := ev_words (n + 3) ill ki.len ki.asc ki.ws
  rw [← dWs] at ew
  have st := srtTG_e tC_d (xs := clls p a s ill (less p)) (sizeL_le (by have := clls_len (p := p) (a := a) (s := s) (ill := ill) (xs := less p); omega)) (ok_C _)
  simp [es, ew, e1, st, calls]
def lens (p : Plan) (a : Able) (s : Shut) : List Int := (less p).map fun x => ((fr p a s x).length : Int)
def due (p : Plan) (a : Able) (s : Shut) : Option Int := leastI (lens p a s)
theorem ev_safe (n : Nat) (p : Plan) (a : Able) (s : Shut) (kp : OkP p) (ka : OkA p a) (ks : OkS s) :
    callN tab (n + 6) 15 [.fz (dP p), .fz (dA a), .fz (dS s)] = some (.fz (optD (due p a s)), [.fz (dP p), .fz (dA a), .fz (dS s)]) := by
  have lenL := kp.lenL
  have hc : c_safe_number_1 (callN tab (n + 5)) [.fz (dP p), .fz (dA a), .fz (dS s), .gone] = some (.lst ((less p).map fun x => .fz (.int (fr p a s x).length)), [.fz (dP p), .fz (dA a), .fz (dS s), .gone]) := by
    unfold c_safe_number_1
    rw [lc_all (fun x : Les => .fz (dWs (fr p a s x))) (fun x => .fz (.int (fr p a s x).length)) (less p) (ts := (less p).map fun x => .fz (dWs (fr p a s x))) (τ1 := [.fz (dP p), .fz (dA a), .fz (dS s), .gone])]
    · simp
    · have e := ev_free (n + 3) p a s kp ka
      simp [e, dF, Function.comp_def]
    · rfl
    · exact sizeL_le (by omega)
    · intro x m acc la
      simp [lcTurn, dWs, la]
  rw [call_safe_number]
  unfold m_safe_number
  have es := ev_staff n p a s kp ka ks
  simp [es, hc, minDG_e]
  rfl
def weak0 (p : Plan) (a : Able) (s : Shut) : List (Int × Str) := ((less p).filter fun x => decide (due p a s = some ((fr p a s x).length : Int))).map fun x => (x.1, x.2.1)
def weak (p : Plan) (a : Able) (s : Shut) : List (Int × Str) := srtE eIS (weak0 p a s)
theorem ok_IS (xs : List (Int × Str)) : srtOk (xs.map eIS) = true := srtOk_by (fun a b => by simp [eIS, alike, PySem.W.alikeAll]) (.inl fun a => rfl) (fun a => by simp [eIS, PyData.depth, PyData.depthAll]) xs
theorem weak_len {p : Plan} {a : Able} {s : Shut} : (weak0 p a s).length ≤ (less p).length := by
  unfold weak0
  rw [List.length_map]
  exact List.length_filter_le _ _
theorem ev_weak (n : Nat) (p : Plan) (a : Able) (s : Shut) (kp : OkP p) (ka : OkA p a) (ks : OkS s) :
    callN tab (n + 7) 16 [.fz (dP p), .fz (dA a), .fz (dS s)] = some (.lst ((weak p a s).map fun x => .fz (eIS x)), [.fz (dP p), .fz (dA a), .fz (dS s)]) := by
  have lenL := kp.lenL
  have hc : c_weakest_lessons_1 (callN tab (n + 6)) [.fz (dP p), .fz (dA a), .fz (dS s), .fz (optD (due p a s)), .gone, .gone] = some (.lst ((weak0 p a s).map fun x => .fz (eIS x)), [.fz (dP p), .fz (dA a), .fz (dS s), .fz (optD (due p a s)), .gone, .gone]) := by
    unfold c_weakest_lessons_1
    rw [lc_ev (fun x : Les => .fz (.tuple [eISS x, dWs (fr p a s x)])) (fun x => .fz (eIS (x.1, x.2.1))) (fun x => decide (due p a s = some ((fr p a s x).length : Int))) (less p) (ts := (less p).map fun x => .fz (.tuple [eISS x, dWs (fr p a s x)])) (τ1 := [.fz (dP p), .fz (dA a), .fz (dS s), .fz (optD (due p a s)), .gone, .gone])]
    · simp [weak0, Function.comp_def]
    · have e := ev_free (n + 4) p a s kp ka
      simp [e, dF, Function.comp_def]
    · rfl
    · exact sizeL_le (by omega)
    · intro x m acc la
      by_cases c : due p a s = some ((fr p a s x).length : Int)
      · simp [lcTurn, dWs, la, c, eISS, eIS]
      · simp [lcTurn, dWs, la, c]
  rw [call_weakest_lessons]
  unfold m_weakest_lessons
  have es := ev_safe n p a s kp ka ks
  have st := srtG_e (e := eIS) (b := true) (xs := weak0 p a s) (t := .lst ((weak0 p a s).map fun x => .fz (eIS x))) (by simp) (sizeL_le (by have := weak_len (p := p) (a := a) (s := s); omega)) (ok_IS _)
  simp [es, hc, st, weak]
/-- one more than is safe -/
def byd (p : Plan) (a : Able) (s : Shut) : Option (List Str) := (less p).findSome? fun x => if due p a s = some ((fr p a s x).length : Int) then some (srtE .str (x.2.2 :: fr p a s x)) else none
theorem ok_S (xs : List Str) : srtOk (xs.map .str) = true := srtOk_by (fun a b => by simp [alike]) (.inr fun a => rfl) (fun a => by simp [PyData.depth]) xs
def bydD (o : Option (List Str)) : PyData := match o with
  | none => .none
  | some ws => dWs ws
theorem ev_byd (n : Nat) (p : Plan) (a : Able) (s : Shut) (kp : OkP p) (ka : OkA p a) (ks : OkS s) :
    callN tab (n + 7) 17 [.fz (dP p), .fz (dA a), .fz (dS s)] = some (.fz (bydD (byd p a s)), [.fz (dP p), .fz (dA a), .fz (dS s)]) := by
  have hl := for_rt (f := lItms (vCall (callN tab (n + 6)) 13 3 0 [0, 1, 2] [] (mCons (asArg (vVar 0)) (mCons (asArg (vVar 1)) (mCons (asArg (vVar 2)) mNil))) mNil)) (g := .cons (.nm 4) (.cons (.nm 5) .nil)) (b := t_ill_beyond_1 (callN tab (n + 6)))
    (τ := [.fz (dP p), .fz (dA a), .fz (dS s), .fz (optD (due p a s)), .gone, .gone]) (τ1 := [.fz (dP p), .fz (dA a), .fz (dS s), .fz (optD (due p a s)), .gone, .gone]) (ts := (less p).map fun x => .fz (.tuple [eISS x, dWs (fr p a s x)]))
    (fun x : Les => .fz (.tuple [eISS x, dWs (fr p a s x)])) (less p) (fun τ => ∃ y1 y2, τ = [.fz (dP p), .fz (dA a), .fz (dS s), .fz (optD (due p a s)), y1, y2])
    (fun x => if due p a s = some ((fr p a s x).length : Int) then some (.fz (dWs (srtE .str (x.2.2 :: fr p a s x)))) else none) ?_ rfl ⟨.gone, .gone, rfl⟩ ?_
  · obtain ⟨τ', ⟨y1, y2, rfl⟩, e⟩ := hl
    rw [call_ill_beyond]
    unfold m_ill_beyond l_ill_beyond_1
    have es := ev_safe n p a s kp ka ks
    have e2 : ∀ xs : List Les, xs.findSome? (fun x => if due p a s = some ((fr p a s x).length : Int) then some (T.fz (dWs (srtE .str (x.2.2 :: fr p a s x)))) else none) = (xs.findSome? fun x => if due p a s = some ((fr p a s x).length : Int) then some (srtE .str (x.2.2 :: fr p a s x)) else none).map fun ws => .fz (dWs ws) := fun xs => by
      induction xs with
      | nil => rfl
      | cons x xs ih =>
        by_cases c : due p a s = some ((fr p a s x).length : Int)
        · simp [c]
        · simp [c, ih]
    rw [e2] at e
    unfold byd
    cases hb : (less p).findSome? fun x => if due p a s = some ((fr p a s x).length : Int) then some (srtE .str (x.2.2 :: fr p a s x)) else none with
    | none =>
      rw [hb] at e
      simp [es, e, bydD]
    | some ws =>
      rw [hb] at e
      simp [es, e, bydD]
  · have e := ev_free (n + 4) p a s kp ka
    simp [e, dF, Function.comp_def]
  · rintro x m τ ⟨y1, y2, rfl⟩
    refine ⟨[.fz (dP p), .fz (dA a), .fz (dS s), .fz (optD (due p a s)), .fz (eISS x), .fz (dWs (fr p a s x))], ⟨_, _, rfl⟩, ?_⟩
    unfold t_ill_beyond_1
    have lf := fr_len (p := p) (s := s) (x := x) ka
    have l1 : 1 + (fr p a s x).length ≤ sizeL := sizeL_le (by omega)
    have st := srtG_e (e := PyData.str) (b := true) (xs := x.2.2 :: fr p a s x) (t := .lst (.fz (.str x.2.2) :: (fr p a s x).map (T.fz ∘ PyData.str))) (by simp) (sizeL_le (by simp; omega)) (ok_S _)
    by_cases c : due p a s = some ((fr p a s x).length : Int)
    · simp [dWs, c, eISS, l1, st, sizeL_le]
    · simp [dWs, c]
end K70
end
section
namespace K70
open PySem PySem.Spec PyProof.Rows L2 SW
open PySem.W (dataLt alike keyToks)

theorem eqD_nil (xs : List PyData) (h : okD (.list xs) = true) : eqD (.list xs) (.list []) = some xs.isEmpty := by
  show (if okD (.list xs) && okD (.list []) then some (PyData.eqv (.list xs) (.list [])) else none) = _
  rw [h]
  cases xs <;> simp [okD, PyData.plain, PyData.depth, PyData.plainAll, PyData.depthAll, PyData.eqv, PyData.eqvAll]
theorem okD_map {α : Type} {e : α → PyData} (xs : List α) (h1 : ∀ a, (e a).plain = true) (h2 : ∀ a, (e a).depth ≤ 90) : okD (.list (xs.map e)) = true := by
  have h1 := plainAll_map (e := e) h1 xs
  have h2 := depthAll_map (e := e) (n := 90) h2 xs
  simp [okD, PyData.plain, PyData.depth, h1]
  omega
theorem plain_SS (a : Str × Str) : (eSS a).plain = true := by simp [eSS, PyData.plain, PyData.plainAll]
theorem depth_SS (a : Str × Str) : (eSS a).depth ≤ 90 := by simp [eSS, PyData.depth, PyData.depthAll]
def busy (p : Plan) (t : Str) (h : Int) : Bool := !(p.filter fun q => decide (q.1.2 = t) && decide (h ∈ q.2)).isEmpty
theorem busy_iff (p : Plan) (t : Str) (h : Int) : busy p t h = decide ((h, t) ∈ (less p).map fun y => (y.1, y.2.2)) := by
  rw [Bool.eq_iff_iff]
  unfold busy
  simp only [Bool.not_eq_true', List.isEmpty_eq_false_iff_exists_mem, decide_eq_true_eq, List.mem_filter, Bool.and_eq_true, List.mem_map]
  constructor
  · rintro ⟨q, m, rfl, mh⟩
    exact ⟨(h, q.1.1, q.1.2), less_mem.mpr ⟨q.2, m, mh⟩, rfl⟩
  · rintro ⟨x, m, e⟩
    cases e
    obtain ⟨hs, m1, m2⟩ := less_mem.mp m
    exact ⟨_, m1, rfl, m2⟩
theorem ev_busy (n : Nat) (p : Plan) (kp : OkP p) (t : Str) (h : Int) : callN tab (n + 1) 29 [.fz (dP p), .fz (.str t), .fz (.int h)] = some (.fz (.bool (busy p t h)), [.fz (dP p), .fz (.str t), .fz (.int h)]) := by
  have hc : c_law_busy_1 (callN tab n) [.fz (dP p), .fz (.str t), .fz (.int h), .gone] = some (.lst ((p.filter fun q => decide (q.1.2 = t) && decide (h ∈ q.2)).map fun q => .fz (eSS q.1)), [.fz (dP p), .fz (.str t), .fz (.int h), .gone]) := by
    unfold c_law_busy_1
    rw [lc_ev (fun q : (Str × Str) × List Int => .fz (eSS q.1)) (fun q => .fz (eSS q.1)) (fun q => decide (q.1.2 = t) && decide (h ∈ q.2)) p (ts := p.map fun q => .fz (eSS q.1)) (τ1 := [.fz (dP p), .fz (.str t), .fz (.int h), .gone])]
    · simp
    · simp [dP, Function.comp_def]
    · rfl
    · exact sizeL_le (by have := kp.lenP; omega)
    · intro q m acc la
      have f : kFind (eSS q.1) (p.map fun q => (eSS q.1, dHs q.2)) = some (dHs q.2) := by
        rw [kFind_e keyE_SS (g := dHs), lk_of_mem kp.keys m]
        rfl
      have ok : kOk (eSS q.1) (p.map fun q => (eSS q.1, dHs q.2)) = true := kOk_T (g := dHs) isKT_SS
      have fi : inD (.int h) (dHs q.2) = some (decide (h ∈ q.2)) := inD_ints h q.2
      unfold eSS at f ok ⊢
      by_cases c1 : q.1.2 = t
      · by_cases c2 : h ∈ q.2
        · simp [lcTurn, dP, eSS, f, ok, fi, c1, c2, la]
          simp [c1] at f ok
          simp [f, ok, fi, c2, la]
        · simp [lcTurn, dP, eSS, f, ok, fi, c1, c2, la]
          simp [c1] at f ok
          simp [f, ok, fi, c2, la]
      · simp [lcTurn, dP, eSS, f, ok, fi, c1, la]
  rw [call_law_busy]
  unfold m_law_busy
  have e := eqD_nil ((p.filter fun q => decide (q.1.2 = t) && decide (h ∈ q.2)).map fun q => eSS q.1) (okD_map (e := fun q : (Str × Str) × List Int => eSS q.1) _ (fun q => plain_SS q.1) (fun q => depth_SS q.1))
  simp [hc, e, busy]
theorem ev_lfree (n : Nat) (p : Plan) (a : Able) (s : Shut) (kp : OkP p) (ka : OkA p a) (x : Les) (mx : x ∈ less p) :
    callN tab (n + 2) 30 [.fz (dP p), .fz (dA a), .fz (dS s), .fz (.str x.2.1), .fz (.int x.1)] = some (.fz (dWs (fr p a s x)), [.fz (dP p), .fz (dA a), .fz (dS s), .fz (.str x.2.1), .fz (.int x.1)]) := by
  obtain ⟨ws, e, mw⟩ := lk_less ka mx
  have lw : ws.length ≤ 1000 := (ka.ws _ mw).2.2
  have h2 : c_law_free_2 (callN tab (n + 1)) [.fz (dP p), .fz (dA a), .fz (dS s), .fz (.str x.2.1), .fz (.int x.1), .gone, .gone] = some (.lst ((ws.filter fun w => !busy p w x.1).map fun w => .fz (.str w)), [.fz (dP p), .fz (dA a), .fz (dS s), .fz (.str x.2.1), .fz (.int x.1), .gone, .gone]) := by
    unfold c_law_free_2
    rw [lc_ev (fun w : Str => .fz (.str w)) (fun w => .fz (.str w)) (fun w => !busy p w x.1) ws (ts := ws.map fun w => .fz (.str w)) (τ1 := [.fz (dP p), .fz (dA a), .fz (dS s), .fz (.str x.2.1), .fz (.int x.1), .gone, .gone])]
    · simp
    · have f : kFind (.str x.2.1) (a.map fun q => (PyData.str q.1, dWs q.2)) = some (dWs ws) := by
        rw [kFind_e keyE_str (g := dWs), e]
        rfl
      have ok : kOk (.str x.2.1) (a.map fun q => (PyData.str q.1, dWs q.2)) = true := kOk_K (g := dWs) isK_S
      simp [dA, f, ok]
      simp [dWs, Function.comp_def]
    · rfl
    · exact sizeL_le (by omega)
    · intro w mw acc la
      have eb := ev_busy n p kp w x.1
      cases c : busy p w x.1 with
      | true => simp [lcTurn, eb, c]
      | false => simp [lcTurn, eb, c, la]
  let F : List Str := ws.filter fun w => !busy p w x.1
  have lF : F.length ≤ 1000 := Nat.le_trans (List.length_filter_le _ _) lw
  have h1 : c_law_free_1 (callN tab (n + 1)) [.fz (dP p), .fz (dA a), .fz (dS s), .fz (.str x.2.1), .fz (.int x.1), .fz (dWs F), .gone] = some (.lst ((fr p a s x).map fun w => .fz (.str w)), [.fz (dP p), .fz (dA a), .fz (dS s), .fz (.str x.2.1), .fz (.int x.1), .fz (dWs F), .gone]) := by
    unfold c_law_free_1
    rw [lc_ev (fun w : Str => .fz (.str w)) (fun w => .fz (.str w)) (fun w => !decide (x.1 ∈ (lk w s).getD [])) F (ts := F.map fun w => .fz (.str w)) (τ1 := [.fz (dP p), .fz (dA a), .fz (dS s), .fz (.str x.2.1), .fz (.int x.1), .fz (dWs F), .gone])]
    · have ef : F.filter (fun w => !decide (x.1 ∈ (lk w s).getD [])) = fr p a s x := by
        unfold fr
        rw [e]
        show List.filter _ (List.filter _ ws) = List.filter _ ws
        rw [List.filter_filter]
        refine List.filter_congr fun w mw => ?_
        rw [busy_iff, Bool.and_comm]
      rw [ef]
      simp
    · simp [dWs, Function.comp_def]
    · rfl
    · exact sizeL_le (by omega)
    · intro w mw acc la
      have g := getD2_shut s w
      have td : isDT (.fz (dS s)) = true := rfl
      cases hs : lk w s with
      | none =>
        rw [hs] at g
        simp [lcTurn, g, td, la, inD_nil]
      | some hh =>
        rw [hs] at g
        unfold dHs at g
        by_cases c2 : x.1 ∈ hh
        · simp [lcTurn, g, td, la, c2]
        · simp [lcTurn, g, td, la, c2]
  rw [call_law_free]
  unfold m_law_free
  have eF : dWs F = .list (F.map .str) := rfl
  rw [eF] at h1
  simp [h2, F, dWs]
  simp [F] at h1
  simp [h1]
theorem ev_llessons (n : Nat) (p : Plan) (kp : OkP p) : callN tab (n + 1) 31 [.fz (dP p)] = some (.fz (.list ((less p).map eISS)), [.fz (dP p)]) := by
  have hl : ∃ τ', l_law_lessons_1 (callN tab n) [.fz (dP p), .fz (.list []), .gone, .gone] = some (.nx τ') ∧ ∃ y, τ' = [.fz (dP p), .fz (.list ((less0 p).map eISS)), y, .gone] := by
    unfold l_law_lessons_1
    refine for_ev (fun q : (Str × Str) × List Int => .fz (eSS q.1)) p (fun pre τ => ∃ y, τ = [.fz (dP p), .fz (.list ((less0 pre).map eISS)), y, .gone]) (τ1 := [.fz (dP p), .fz (.list []), .gone, .gone]) (ts := p.map fun q => .fz (eSS q.1)) ?_ rfl ⟨.gone, rfl⟩ ?_
    · simp [dP, Function.comp_def]
    · rintro pre q post e τ ⟨y, rfl⟩
      have mq : q ∈ p := by rw [← e]; simp
      have f : kFind (eSS q.1) (p.map fun q => (eSS q.1, dHs q.2)) = some (dHs q.2) := by
        rw [kFind_e keyE_SS (g := dHs), lk_of_mem kp.keys mq]
        rfl
      have ok : kOk (eSS q.1) (p.map fun q => (eSS q.1, dHs q.2)) = true := kOk_T (g := dHs) isKT_SS
      have hc : c_law_lessons_1 (callN tab n) [.fz (dP p), .fz (.list ((less0 pre).map eISS)), .fz (eSS q.1), .gone] = some (.lst (q.2.map fun h => .fz (eISS (h, q.1.1, q.1.2))), [.fz (dP p), .fz (.list ((less0 pre).map eISS)), .fz (eSS q.1), .gone]) := by
        unfold c_law_lessons_1
        rw [lc_all (fun h : Int => .fz (.int h)) (fun h => .fz (eISS (h, q.1.1, q.1.2))) q.2 (ts := q.2.map fun h => .fz (.int h)) (τ1 := [.fz (dP p), .fz (.list ((less0 pre).map eISS)), .fz (eSS q.1), .gone])]
        · simp
        · simp [dP, f, ok]
          simp [dHs, Function.comp_def]
        · rfl
        · exact sizeL_le (by have := (kp.hs q mq).2.2.2; omega)
        · intro h mh acc la
          simp [lcTurn, eSS, eISS, la, sizeL_le]
      have el : less0 (pre ++ [q]) = less0 pre ++ q.2.map fun h => (h, q.1.1, q.1.2) := by simp [less0]
      have lz : (less0 pre).length + q.2.length ≤ sizeL := sizeL_le (by
        have h1 := kp.len
        rw [← e] at h1
        simp [less0] at h1 ⊢
        omega)
      refine ⟨[.fz (dP p), .fz (.list ((less0 (pre ++ [q])).map eISS)), .fz (eSS q.1), .gone], ?_, _, rfl⟩
      unfold t_law_lessons_1
      rw [el]
      simp [hc, lz, toDs_append, Function.comp_def]
  obtain ⟨τ', e1, y, rfl⟩ := hl
  rw [call_law_lessons]
  unfold m_law_lessons
  have st := srtG_e (e := eISS) (b := false) (xs := less0 p) (t := .fz (.list ((less0 p).map eISS))) (by simp) (sizeL_le (by have := kp.len; omega)) (ok_ISS _)
  simp [e1, st, sizeL_le, less]
end K70
end
section
namespace K70
open PySem PySem.Spec PyProof.Rows L2 SW
open PySem.W (dataLt alike keyToks)

theorem ev_lcalls (n : Nat) (p : Plan) (a : Able) (s : Shut) (ill : List Str) (kp : OkP p) (ka : OkA p a) :
    callN tab (n + 3) 32 [.fz (dP p), .fz (dA a), .fz (dS s), .fz (dWs ill)] = some (.fz (.list ((calls p a s ill).map eC)), [.fz (dP p), .fz (dA a), .fz (dS s), .fz (dWs ill)]) := by
  have lenL := kp.lenL
  have hc : ∀ (x : Les) (D : T), x ∈ less p → c_law_calls_1 (callN tab (n + 2)) [.fz (dP p), .fz (dA a), .fz (dS s), .fz (dWs ill), D, .fz (.int x.1), .fz (.str x.2.1), .fz (.str x.2.2), .gone] =
      some (.lst (((fr p a s x).filter fun w => !decide (w ∈ ill)).map fun w => .fz (.str w)), [.fz (dP p), .fz (dA a), .fz (dS s), .fz (dWs ill), D, .fz (.int x.1), .fz (.str x.2.1), .fz (.str x.2.2), .gone]) := by
    intro x D mx
    unfold c_law_calls_1
    rw [lc_ev (fun w : Str => .fz (.str w)) (fun w => .fz (.str w)) (fun w => !decide (w ∈ ill)) (fr p a s x) (ts := (fr p a s x).map fun w => .fz (.str w)) (τ1 := [.fz (dP p), .fz (dA a), .fz (dS s), .fz (dWs ill), D, .fz (.int x.1), .fz (.str x.2.1), .fz (.str x.2.2), .gone])]
    · simp
    · have e := ev_lfree n p a s kp ka x mx
      simp [e]
      simp [dWs, Function.comp_def]
    · rfl
    · exact sizeL_le (by have := fr_len (p := p) (s := s) (x := x) ka; omega)
    · intro w mw acc la
      unfold dWs
      by_cases c : w ∈ ill
      · simp [lcTurn, c]
      · simp [lcTurn, c, la]
  have hl : ∃ τ', l_law_calls_1 (callN tab (n + 2)) [.fz (dP p), .fz (dA a), .fz (dS s), .fz (dWs ill), .lst [], .gone, .gone, .gone, .gone] = some (.nx τ') ∧
      ∃ y1 y2 y3, τ' = [.fz (dP p), .fz (dA a), .fz (dS s), .fz (dWs ill), .lst ((clls p a s ill (less p)).map fun c => .fz (eC c)), y1, y2, y3, .gone] := by
    unfold l_law_calls_1
    refine for_ev (fun x : Les => .fz (eISS x)) (less p) (fun pre τ => ∃ y1 y2 y3, τ = [.fz (dP p), .fz (dA a), .fz (dS s), .fz (dWs ill), .lst ((clls p a s ill pre).map fun c => .fz (eC c)), y1, y2, y3, .gone])
      (τ1 := [.fz (dP p), .fz (dA a), .fz (dS s), .fz (dWs ill), .lst [], .gone, .gone, .gone, .gone]) (ts := (less p).map fun x => .fz (eISS x)) ?_ rfl ⟨.gone, .gone, .gone, rfl⟩ ?_
    · have e := ev_llessons (n + 1) p kp
      simp [e, Function.comp_def]
    · rintro pre x post e τ ⟨y1, y2, y3, rfl⟩
      have mx : x ∈ less p := by rw [← e]; simp
      have lp : (clls p a s ill pre).length < sizeL := sizeL_lt (by
        have := congrArg List.length e
        simp at this
        have := clls_len (p := p) (a := a) (s := s) (ill := ill) (xs := pre)
        omega)
      have h := hc x (.lst ((clls p a s ill pre).map fun c => .fz (eC c))) mx
      refine ⟨[.fz (dP p), .fz (dA a), .fz (dS s), .fz (dWs ill), .lst ((clls p a s ill (pre ++ [x])).map fun c => .fz (eC c)), .fz (.int x.1), .fz (.str x.2.1), .fz (.str x.2.2), .gone], ?_, _, _, _, rfl⟩
      unfold t_law_calls_1
      have ei : inD (.str x.2.2) (dWs ill) = some (decide (x.2.2 ∈ ill)) := inD_strs _ _
      by_cases c : x.2.2 ∈ ill
      · have ec : clls p a s ill (pre ++ [x]) = clls p a s ill pre ++ [clO p a s ill x] := by simp [clls, c]
        rw [ec]
        simp [eISS, ei, c, h, lp, sizeL_le]
        simp [clO, eC, dWs]
      · have ec : clls p a s ill (pre ++ [x]) = clls p a s ill pre := by simp [clls, c]
        rw [ec]
        simp [eISS, ei, c]
  obtain ⟨τ', e1, y1, y2, y3, rfl⟩ := hl
  rw [call_law_calls]
  unfold m_law_calls
  have st := srtG_e (e := eC) (b := false) (xs := clls p a s ill (less p)) (t := .lst ((clls p a s ill (less p)).map fun c => .fz (eC c))) (by simp) (sizeL_le (by have := clls_len (p := p) (a := a) (s := s) (ill := ill) (xs := less p); omega)) (ok_C _)
  simp [e1, st, calls, sizeL_le]

/-! ### ways -/
def way1 (c : Cl) (w : List Str) : List (List Str) := (c.2.2.filter fun t => !decide (t ∈ w)).map fun t => w ++ [t]
def ways (cs : List Cl) (ws : List (List Str)) : List (List Str) := cs.foldl (fun ws c => ws.flatMap (way1 c)) ws
theorem way1_len (c : Cl) (w : List Str) (h : c.2.2.length ≤ 6) : (way1 c w).length ≤ 6 := by
  unfold way1
  rw [List.length_map]
  exact Nat.le_trans (List.length_filter_le _ _) h
theorem flat_len {α β : Type} (f : α → List β) (k : Nat) : ∀ xs : List α, (∀ x ∈ xs, (f x).length ≤ k) → (xs.flatMap f).length ≤ xs.length * k
  | [], _ => by simp
  | x :: xs, h => by
    rw [List.flatMap_cons, List.length_append, List.length_cons, Nat.succ_mul]
    have := h x List.mem_cons_self
    have := flat_len f k xs fun y m => h y (List.mem_cons_of_mem _ m)
    omega
theorem ways_len : ∀ (cs : List Cl) (ws : List (List Str)), (∀ c ∈ cs, c.2.2.length ≤ 6) → (ways cs ws).length ≤ ws.length * 6 ^ cs.length
  | [], ws, _ => by simp [ways]
  | c :: cs, ws, h => by
    have h1 := ways_len cs (ws.flatMap (way1 c)) fun y m => h y (List.mem_cons_of_mem _ m)
    have h2 := flat_len (way1 c) 6 ws fun w _ => way1_len c w (h c List.mem_cons_self)
    show (ways cs (ws.flatMap (way1 c))).length ≤ _
    rw [List.length_cons, Nat.pow_succ]
    calc _ ≤ _ := h1
      _ ≤ ws.length * 6 * 6 ^ cs.length := Nat.mul_le_mul_right _ h2
      _ = _ := by rw [Nat.mul_assoc, Nat.mul_comm 6]
def dWW (ws : List (List Str)) : PyData := .list (ws.map dWs)
theorem plain_Ws (ws : List Str) : (dWs ws).plain = true := by
  have := plainAll_map (e := PyData.str) (fun a => by simp [PyData.plain]) ws
  simp [dWs, PyData.plain, this]
theorem depth_Ws (ws : List Str) : (dWs ws).depth ≤ 90 := by
  have h := depthAll_map (e := PyData.str) (n := 0) (fun a => by simp [PyData.depth]) ws
  simp [dWs, PyData.depth]
  omega
theorem plain_C (c : Cl) : (eC c).plain = true := by simp [eC, PyData.plain, PyData.plainAll, plain_Ws]
theorem ev_c3 (n : Nat) (c : Cl) (w : List Str) (lc : c.2.2.length ≤ 1000) (lw : w.length ≤ 1000) (A B D E F : T) : c_law_can_all_3 (callN tab n) [A, B, D, .fz (eC c), E, .fz (dWs w), F, .gone] = some (.lst ((way1 c w).map fun u => .fz (dWs u)), [A, B, D, .fz (eC c), E, .fz (dWs w), F, .gone]) := by
  unfold c_law_can_all_3
  rw [lc_ev (fun t : Str => .fz (.str t)) (fun t => .fz (dWs (w ++ [t]))) (fun t => !decide (t ∈ w)) c.2.2 (ts := c.2.2.map fun t => .fz (.str t)) (τ1 := [A, B, D, .fz (eC c), E, .fz (dWs w), F, .gone])]
  · simp [way1, Function.comp_def]
  · simp [eC, dWs, Function.comp_def]
  · rfl
  · exact sizeL_le (by omega)
  · intro t mt acc la
    have l1 : w.length + 1 ≤ sizeL := sizeL_le (by omega)
    unfold dWs
    by_cases h : t ∈ w
    · simp [lcTurn, h]
    · simp [lcTurn, h, la, l1, sizeL_le, toDs_append]
theorem ev_l1 (n : Nat) (c : Cl) (ws : List (List Str)) (lc : c.2.2.length ≤ 6) (lw : ∀ w ∈ ws, w.length ≤ 1000) (lws : ws.length ≤ 8000) (A B F Z : T) :
    ∃ y, l_law_can_all_1 (callN tab n) [A, B, .fz (dWW ws), .fz (eC c), .fz (dWW []), Z, F, .gone] = some (.nx [A, B, .fz (dWW ws), .fz (eC c), .fz (dWW (ws.flatMap (way1 c))), y, F, .gone]) := by
  have := for_ev (f := lIts (vVar 2)) (g := .nm 5) (b := t_law_can_all_1 (callN tab n)) (τ := [A, B, .fz (dWW ws), .fz (eC c), .fz (dWW []), Z, F, .gone]) (fun w : List Str => .fz (dWs w)) ws (fun pre τ => ∃ y, τ = [A, B, .fz (dWW ws), .fz (eC c), .fz (dWW (pre.flatMap (way1 c))), y, F, .gone])
    (τ1 := [A, B, .fz (dWW ws), .fz (eC c), .fz (dWW []), Z, F, .gone]) (ts := ws.map fun w => .fz (dWs w)) (by simp [dWW, Function.comp_def]) rfl ⟨Z, rfl⟩ (by
      rintro pre w post e τ ⟨y, rfl⟩
      have mw : w ∈ ws := by rw [← e]; simp
      have h := ev_c3 n c w (by omega) (lw w mw) A B (.fz (dWW ws)) (.fz (dWW (pre.flatMap (way1 c)))) F
      have l2 : (pre.flatMap (way1 c)).length + (way1 c w).length ≤ sizeL := sizeL_le (by
        have h1 := flat_len (way1 c) 6 pre fun w _ => way1_len c w lc
        have h2 := way1_len c w lc
        have h3 := congrArg List.length e
        simp at h3
        omega)
      refine ⟨[A, B, .fz (dWW ws), .fz (eC c), .fz (dWW ((pre ++ [w]).flatMap (way1 c))), .fz (dWs w), F, .gone], ?_, _, rfl⟩
      unfold t_law_can_all_1
      rw [List.flatMap_append, List.flatMap_cons, List.flatMap_nil, List.append_nil]
      generalize pre.flatMap (way1 c) = G at h l2 ⊢
      unfold dWW at h ⊢
      simp [h, l2, toDs_append, Function.comp_def])
  obtain ⟨τ', e, y, rfl⟩ := this
  exact ⟨y, e⟩
/-- the words of a way: one for each call -/
theorem ways_rows : ∀ (cs : List Cl) (ws : List (List Str)) (k : Nat), (∀ w ∈ ws, w.length = k) → ∀ w ∈ ways cs ws, w.length = k + cs.length
  | [], ws, k, h, w, m => h w m
  | c :: cs, ws, k, h, w, m => by
    have := ways_rows cs (ws.flatMap (way1 c)) (k + 1) (fun u mu => by
      obtain ⟨v, mv, mu⟩ := List.mem_flatMap.mp mu
      obtain ⟨t, _, rfl⟩ := List.mem_map.mp mu
      simp [h v mv]) w m
    rw [this, List.length_cons]
    omega
theorem ways_snoc (cs : List Cl) (c : Cl) (ws : List (List Str)) : ways (cs ++ [c]) ws = (ways cs ws).flatMap (way1 c) := by
  unfold ways
  rw [List.foldl_append]
  rfl
end K70
end
section
namespace K70
open PySem PySem.Spec PyProof.Rows L2 SW
open PySem.W (dataLt alike keyToks)

def dCs (cs : List Cl) : PyData := .list (cs.map eC)
/-- calls that can be tried -/
structure OkC (cs : List Cl) : Prop where
  len : cs.length ≤ 1000
  six : ∀ c ∈ cs, c.2.2.length ≤ 6
  five : ∀ h, (cs.filter fun c => decide (c.1 = h)).length ≤ 5
def hourW (cs : List Cl) (h : Int) : List (List Str) := ways (cs.filter fun c => decide (c.1 = h)) [[]]
def hoursOf (cs : List Cl) : List Int := srtE .int (ded (cs.map (·.1)))
theorem ev_l2 (n : Nat) (cs : List Cl) (k : OkC cs) (h : Int) (y3 y4 y5 y6 : T) :
    ∃ z3 z4 z5, l_law_can_all_2 (callN tab n) [.fz (dCs cs), .fz (.int h), .fz (dWW [[]]), y3, y4, y5, .gone, .gone] = some (.nx [.fz (dCs cs), .fz (.int h), .fz (dWW (hourW cs h)), z3, z4, z5, .gone, .gone]) := by
  have hc : c_law_can_all_2 (callN tab n) [.fz (dCs cs), .fz (.int h), .fz (dWW [[]]), y3, y4, y5, .gone, .gone] = some (.lst ((cs.filter fun c => decide (c.1 = h)).map fun c => .fz (eC c)), [.fz (dCs cs), .fz (.int h), .fz (dWW [[]]), y3, y4, y5, .gone, .gone]) := by
    unfold c_law_can_all_2
    rw [lc_ev (fun c : Cl => .fz (eC c)) (fun c => .fz (eC c)) (fun c => decide (c.1 = h)) cs (ts := cs.map fun c => .fz (eC c)) (τ1 := [.fz (dCs cs), .fz (.int h), .fz (dWW [[]]), y3, y4, y5, .gone, .gone])]
    · simp
    · simp [dCs, Function.comp_def]
    · rfl
    · exact sizeL_le (by have := k.len; omega)
    · intro c mc acc la
      unfold eC
      by_cases e : c.1 = h
      · simp [lcTurn, la, e]
      · simp [lcTurn, e]
  let H : List Cl := cs.filter fun c => decide (c.1 = h)
  have h5 : H.length ≤ 5 := k.five h
  have h6 : ∀ c ∈ H, c.2.2.length ≤ 6 := fun c m => k.six c (List.mem_filter.mp m).1
  have := for_ev (f := lIts (vFz (c_law_can_all_2 (callN tab n)))) (g := .nm 3) (b := t_law_can_all_2 (callN tab n)) (τ := [.fz (dCs cs), .fz (.int h), .fz (dWW [[]]), y3, y4, y5, .gone, .gone]) (fun c : Cl => .fz (eC c)) H (fun pre τ => ∃ z3 z4 z5, τ = [.fz (dCs cs), .fz (.int h), .fz (dWW (ways pre [[]])), z3, z4, z5, .gone, .gone])
    (τ1 := [.fz (dCs cs), .fz (.int h), .fz (dWW [[]]), y3, y4, y5, .gone, .gone]) (ts := H.map fun c => .fz (eC c)) (by simp [hc, H, Function.comp_def]) rfl ⟨_, _, _, rfl⟩ (by
      rintro pre c post e τ ⟨z3, z4, z5, rfl⟩
      have mc : c ∈ H := by rw [← e]; simp
      have lp : pre.length ≤ 4 := by
        have := congrArg List.length e
        simp at this
        omega
      have hp : ∀ d ∈ pre, d.2.2.length ≤ 6 := fun d m => h6 d (by rw [← e]; exact List.mem_append_left _ m)
      have lw : (ways pre [[]]).length ≤ 8000 := by
        have h1 := ways_len pre [[]] hp
        have h2 : 6 ^ pre.length ≤ 6 ^ 4 := Nat.pow_le_pow_right (by omega) lp
        simp at h1
        omega
      have rw_ : ∀ w ∈ ways pre [[]], w.length ≤ 1000 := fun w m => by
        have := ways_rows pre [[]] 0 (fun w m => by rw [List.mem_singleton.mp m]; rfl) w m
        omega
      obtain ⟨y, h1⟩ := ev_l1 n c (ways pre [[]]) (h6 c mc) rw_ lw (.fz (dCs cs)) (.fz (.int h)) .gone z5
      refine ⟨[.fz (dCs cs), .fz (.int h), .fz (dWW (ways (pre ++ [c]) [[]])), .fz (eC c), .fz (dWW (ways (pre ++ [c]) [[]])), y, .gone, .gone], ?_, _, _, _, rfl⟩
      rw [ways_snoc]
      unfold t_law_can_all_2
      have e0 : dWW [] = .list [] := rfl
      rw [e0] at h1
      simp [h1, sizeL_le])
  obtain ⟨τ', e, z3, z4, z5, rfl⟩ := this
  exact ⟨z3, z4, z5, e⟩
theorem ev_can (n : Nat) (cs : List Cl) (k : OkC cs) : callN tab (n + 1) 33 [.fz (dCs cs)] = some (.fz (.bool ((hoursOf cs).all fun h => !(hourW cs h).isEmpty)), [.fz (dCs cs)]) := by
  have hc : c_law_can_all_1 (callN tab n) [.fz (dCs cs), .gone, .gone, .gone, .gone, .gone, .gone, .gone] = some (.lst (cs.map fun c => .fz (.int c.1)), [.fz (dCs cs), .gone, .gone, .gone, .gone, .gone, .gone, .gone]) := by
    unfold c_law_can_all_1
    rw [lc_all (fun c : Cl => .fz (eC c)) (fun c => .fz (.int c.1)) cs (ts := cs.map fun c => .fz (eC c)) (τ1 := [.fz (dCs cs), .gone, .gone, .gone, .gone, .gone, .gone, .gone])]
    · simp
    · simp [dCs, Function.comp_def]
    · rfl
    · exact sizeL_le (by have := k.len; omega)
    · intro c mc acc la
      simp [lcTurn, la, eC]
  have hs := ssG_ints (b := true) (t := .lst (cs.map fun c => .fz (.int c.1))) (xs := cs.map (·.1)) (by simp [Function.comp_def]) (scan_lt (by have := k.len; simp; omega))
  have := for_rt (f := lIts (vFz (v1 ssG (asArg (c_law_can_all_1 (callN tab n)))))) (g := .nm 1) (b := t_law_can_all_3 (callN tab n)) (τ := [.fz (dCs cs), .gone, .gone, .gone, .gone, .gone, .gone, .gone])
    (τ1 := [.fz (dCs cs), .gone, .gone, .gone, .gone, .gone, .gone, .gone]) (ts := (hoursOf cs).map fun h => .fz (.int h)) (fun h : Int => .fz (.int h)) (hoursOf cs) (fun τ => ∃ y1 y2 y3 y4 y5, τ = [.fz (dCs cs), y1, y2, y3, y4, y5, .gone, .gone])
    (fun h => if (hourW cs h).isEmpty then some (.fz (.bool false)) else none) (by simp [hc, hs, hoursOf, Function.comp_def]) rfl ⟨_, _, _, _, _, rfl⟩ (by
      rintro h mh τ ⟨y1, y2, y3, y4, y5, rfl⟩
      obtain ⟨z3, z4, z5, e⟩ := ev_l2 n cs k h y3 y4 y5 .gone
      refine ⟨[.fz (dCs cs), .fz (.int h), .fz (dWW (hourW cs h)), z3, z4, z5, .gone, .gone], ⟨_, _, _, _, _, rfl⟩, ?_⟩
      unfold t_law_can_all_3
      have e1 : eqD (dWW (hourW cs h)) (.list []) = some ((hourW cs h).map dWs).isEmpty := eqD_nil _ (okD_map (e := dWs) _ plain_Ws depth_Ws)
      have e0 : dWW [[]] = .list [.list []] := rfl
      rw [e0] at e
      cases hw : (hourW cs h).isEmpty with
      | true => simp [e, e1, hw, sizeL_le]
      | false => simp [e, e1, hw, sizeL_le])
  obtain ⟨τ', ⟨y1, y2, y3, y4, y5, rfl⟩, e⟩ := this
  rw [call_law_can_all]
  unfold m_law_can_all l_law_can_all_3
  have ef : ∀ hs : List Int, (hs.findSome? fun h => if (hourW cs h).isEmpty then some (T.fz (.bool false)) else none) = if hs.all (fun h => !(hourW cs h).isEmpty) then none else some (.fz (.bool false)) := fun hs => by
    induction hs with
    | nil => rfl
    | cons h hs ih =>
      rw [List.findSome?_cons, ih, List.all_cons]
      cases (hourW cs h).isEmpty <;> simp
  rw [ef] at e
  cases hw : (hoursOf cs).all fun h => !(hourW cs h).isEmpty with
  | true =>
    rw [hw] at e
    simp at e
    simp [e]
  | false =>
    rw [hw] at e
    simp at e
    simp [e]
end K70
end
section
namespace K70
open PySem PySem.Spec PyProof.Rows L2 SW
open PySem.W (dataLt alike keyToks)

/-- data that _law_exact walks through in k steps -/
def exOk : Nat → PyData → Bool
  | _, .none => true
  | _, .bool _ => true
  | _, .int _ => true
  | _, .str _ => true
  | 0, _ => false
  | k + 1, .list ds => decide (ds.length ≤ 1000) && ds.all (exOk k)
  | k + 1, .tuple ds => decide (ds.length ≤ 1000) && ds.all (exOk k)
  | _, .dict _ => false
theorem ev_ec (n : Nat) (m : PyData) (ds : List PyData) (y2 y3 : T) (hm : m = .list ds ∨ m = .tuple ds) (l : ds.length ≤ 1000) (h : ∀ d ∈ ds, callN tab n 24 [.fz d, .fz d] = some (.fz (.bool true), [.fz d, .fz d])) :
    c_law_exact_1 (callN tab n) [.fz m, .fz m, y2, y3, .gone, .gone] = some (.lst (ds.map fun d => .fz (.bool true)), [.fz m, .fz m, y2, y3, .gone, .gone]) := by
  unfold c_law_exact_1
  rw [lc_all (fun d : PyData => .fz (.tuple [d, d])) (fun d => .fz (.bool true)) ds (ts := ds.map fun d => .fz (.tuple [d, d])) (τ1 := [.fz m, .fz m, y2, y3, .gone, .gone])]
  · simp
  · have z : zipT (ds.map T.fz) (ds.map T.fz) = ds.map fun d => T.fz (.tuple [d, d]) := by
      unfold zipT
      rw [zip_twin]
      simp [Function.comp_def]
    rcases hm with rfl | rfl
    · simp [z]
    · simp [z]
  · rfl
  · exact sizeL_le (by omega)
  · intro d md acc la
    simp [lcTurn, la, h d md]
theorem ev_exact : ∀ (k : Nat) (d : PyData), exOk k d = true → ∀ n, callN tab (n + k + 1) 24 [.fz d, .fz d] = some (.fz (.bool true), [.fz d, .fz d])
  | k, .none, _, n => by
    rw [call_law_exact]
    unfold m_law_exact
    simp
  | k, .bool b, _, n => by
    rw [call_law_exact]
    unfold m_law_exact
    simp
  | k, .int i, _, n => by
    rw [call_law_exact]
    unfold m_law_exact
    simp
  | k, .str s, _, n => by
    rw [call_law_exact]
    unfold m_law_exact
    simp
  | 0, .list ds, h, n => by cases h
  | 0, .tuple ds, h, n => by cases h
  | 0, .dict ds, h, n => by cases h
  | k + 1, .dict ds, h, n => by cases h
  | k + 1, .list ds, h, n => by
    have h : (decide (ds.length ≤ 1000) && ds.all (exOk k)) = true := h
    simp only [Bool.and_eq_true, decide_eq_true_eq, List.all_eq_true] at h
    have e := ev_ec (n + k + 1) (.list ds) ds (.fz (.bool true)) (.fz (.bool true)) (.inl rfl) h.1 fun d m => ev_exact k d (h.2 d m) n
    show callN tab (n + (k + 1) + 1) 24 _ = _
    rw [call_law_exact]
    unfold m_law_exact
    have en : n + (k + 1) = n + k + 1 := rfl
    rw [en]
    simp [e]
  | k + 1, .tuple ds, h, n => by
    have h : (decide (ds.length ≤ 1000) && ds.all (exOk k)) = true := h
    simp only [Bool.and_eq_true, decide_eq_true_eq, List.all_eq_true] at h
    have e := ev_ec (n + k + 1) (.tuple ds) ds (.fz (.bool true)) (.fz (.bool true)) (.inr rfl) h.1 fun d m => ev_exact k d (h.2 d m) n
    show callN tab (n + (k + 1) + 1) 24 _ = _
    rw [call_law_exact]
    unfold m_law_exact
    have en : n + (k + 1) = n + k + 1 := rfl
    rw [en]
    simp [e]
def late (sh : Int) (p : Plan) : Plan := p.map fun q => (q.1, q.2.map (· + sh))
theorem ev_late (n : Nat) (p : Plan) (sh : Int) (nd : (p.map (·.1)).Nodup) (l : p.length ≤ 1000) (lh : ∀ q ∈ p, q.2.length ≤ 1000) : callN tab (n + 1) 26 [.fz (dP p), .fz (.int sh)] = some (.fz (dP (late sh p)), [.fz (dP p), .fz (.int sh)]) := by
  have h1 : ∀ q ∈ p, c_law_late_hours_1 (callN tab n) [.fz (dP p), .fz (.int sh), .fz (eSS q.1), .gone] = some (.lst (q.2.map fun h => .fz (.int (h + sh))), [.fz (dP p), .fz (.int sh), .fz (eSS q.1), .gone]) := fun q mq => by
    unfold c_law_late_hours_1
    rw [lc_all (fun h : Int => .fz (.int h)) (fun h => .fz (.int (h + sh))) q.2 (ts := q.2.map fun h => .fz (.int h)) (τ1 := [.fz (dP p), .fz (.int sh), .fz (eSS q.1), .gone])]
    · simp
    · have f : kFind (eSS q.1) (p.map fun q => (eSS q.1, dHs q.2)) = some (dHs q.2) := by
        rw [kFind_e keyE_SS (g := dHs), lk_of_mem nd mq]
        rfl
      have ok : kOk (eSS q.1) (p.map fun q => (eSS q.1, dHs q.2)) = true := kOk_T (g := dHs) isKT_SS
      simp [dP, f, ok]
      simp [dHs, Function.comp_def]
    · rfl
    · exact sizeL_le (by have := lh q mq; omega)
    · intro h mh acc la
      simp [lcTurn, la]
  have h2 : c_law_late_hours_2 (callN tab n) [.fz (dP p), .fz (.int sh), .gone, .gone] = some (.lst (p.map fun q => .fz (.tuple [eSS q.1, dHs (q.2.map (· + sh))])), [.fz (dP p), .fz (.int sh), .gone, .gone]) := by
    unfold c_law_late_hours_2
    rw [lc_all (fun q : (Str × Str) × List Int => .fz (eSS q.1)) (fun q => .fz (.tuple [eSS q.1, dHs (q.2.map (· + sh))])) p (ts := p.map fun q => .fz (eSS q.1)) (τ1 := [.fz (dP p), .fz (.int sh), .gone, .gone])]
    · simp
    · simp [dP, Function.comp_def]
    · rfl
    · exact sizeL_le (by omega)
    · intro q mq acc la
      simp [lcTurn, la, h1 q mq, sizeL_le, dHs, Function.comp_def]
  have nd2 : ((late sh p).map (·.1)).Nodup := by
    unfold late
    rw [List.map_map]
    exact nd
  have st := dictPG_e (f := eSS) (g := dHs) keyE_SS (fun k m => kOk_T (g := fun b => T.fz (dHs b)) isKT_SS) nd2 (sizeL_le (by unfold late; simp; omega)) (ts := p.map fun q => .fz (.tuple [eSS q.1, dHs (q.2.map (· + sh))])) (by unfold late; rw [List.map_map]; rfl)
  rw [call_law_late_hours]
  unfold m_law_late_hours
  simp [h2, st]
  rfl
end K70
end
section
namespace K70
open PySem PySem.Spec PyProof.Rows L2 SW
open PySem.W (dataLt alike keyToks)

def rows1 (most : Int) (f : List (List Str)) (x : Str) : List (List Str) := f ++ (f.filter fun r => decide ((r.length : Int) < most)).map (· ++ [x])
def rows (xs : List Str) (most : Int) : List (List Str) := xs.foldl (rows1 most) [[]]
theorem rows_snoc (xs : List Str) (x : Str) (most : Int) : rows (xs ++ [x]) most = rows1 most (rows xs most) x := by
  unfold rows
  rw [List.foldl_append]
  rfl
theorem rows_len (most : Int) : ∀ (xs : List Str), (rows xs most).length ≤ 2 ^ xs.length ∧ ∀ r ∈ rows xs most, r.length ≤ xs.length ∧ (0 ≤ most → (r.length : Int) ≤ most) ∧ r.Sublist xs := by
  have go : ∀ (xs : List Str) (f : List (List Str)) (k : Nat) (pre : List Str), f.length ≤ 2 ^ k → pre.length = k → (∀ r ∈ f, r.length ≤ k ∧ (0 ≤ most → (r.length : Int) ≤ most) ∧ r.Sublist pre) →
      (xs.foldl (rows1 most) f).length ≤ 2 ^ (k + xs.length) ∧ ∀ r ∈ xs.foldl (rows1 most) f, r.length ≤ k + xs.length ∧ (0 ≤ most → (r.length : Int) ≤ most) ∧ r.Sublist (pre ++ xs) := by
    intro xs
    induction xs with
    | nil =>
      intro f k pre h1 h2 h3
      simp only [List.foldl_nil, List.length_nil, Nat.add_zero, List.append_nil]
      exact ⟨h1, h3⟩
    | cons x xs ih =>
      intro f k pre h1 h2 h3
      have := ih (rows1 most f x) (k + 1) (pre ++ [x]) (by
        unfold rows1
        have := List.length_filter_le (fun r => decide ((r.length : Int) < most)) f
        simp only [List.length_append, List.length_map, Nat.pow_succ]
        omega) (by simp [h2]) (fun r m => by
        unfold rows1 at m
        rcases List.mem_append.mp m with m | m
        · obtain ⟨a, b, c⟩ := h3 r m
          exact ⟨by omega, b, c.trans (List.sublist_append_left _ _)⟩
        · obtain ⟨q, mq, rfl⟩ := List.mem_map.mp m
          obtain ⟨mq, lt⟩ := List.mem_filter.mp mq
          obtain ⟨a, b, c⟩ := h3 q mq
          have lt := of_decide_eq_true lt
          refine ⟨by simp; omega, fun _ => ?_, c.append (List.Sublist.refl _)⟩
          rw [List.length_append]
          show ((q.length + 1 : Nat) : Int) ≤ most
          omega)
      rw [List.foldl_cons, List.length_cons]
      have e1 : k + 1 + xs.length = k + (xs.length + 1) := by omega
      have e2 : pre ++ [x] ++ xs = pre ++ x :: xs := by simp
      rw [e1, e2] at this
      exact this
  intro xs
  have := go xs [[]] 0 [] (by simp) rfl (fun r m => by
    rw [List.mem_singleton.mp m]
    exact ⟨by simp, fun h => by simpa using h, List.Sublist.refl _⟩)
  simpa [rows] using this
theorem ev_rows (n : Nat) (xs : List Str) (l : xs.length ≤ 6) (most : Int) : callN tab (n + 1) 34 [.fz (dWs xs), .fz (.int most)] = some (.fz (dWW (rows xs most)), [.fz (dWs xs), .fz (.int most)]) := by
  have := for_ev (f := lIts (vVar 0)) (g := .nm 3) (b := t_law_lists_1 (callN tab n)) (τ := [.fz (dWs xs), .fz (.int most), .fz (dWW [[]]), .gone, .gone]) (fun x : Str => .fz (.str x)) xs (fun pre τ => ∃ y, τ = [.fz (dWs xs), .fz (.int most), .fz (dWW (rows pre most)), y, .gone])
    (τ1 := [.fz (dWs xs), .fz (.int most), .fz (dWW [[]]), .gone, .gone]) (ts := xs.map fun x => .fz (.str x)) (by simp [dWs, Function.comp_def]) rfl ⟨_, rfl⟩ (by
      rintro pre x post e τ ⟨y, rfl⟩
      have lp : pre.length ≤ 5 := by
        have := congrArg List.length e
        simp at this
        omega
      obtain ⟨h1, h2⟩ := rows_len most pre
      have h3 : 2 ^ pre.length ≤ 2 ^ 5 := Nat.pow_le_pow_right (by omega) lp
      have lr : (rows pre most).length ≤ 32 := Nat.le_trans h1 h3
      have hc : c_law_lists_1 (callN tab n) [.fz (dWs xs), .fz (.int most), .fz (dWW (rows pre most)), .fz (.str x), .gone] = some (.lst (((rows pre most).filter fun r => decide ((r.length : Int) < most)).map fun r => .fz (dWs (r ++ [x]))), [.fz (dWs xs), .fz (.int most), .fz (dWW (rows pre most)), .fz (.str x), .gone]) := by
        unfold c_law_lists_1
        rw [lc_ev (fun r : List Str => .fz (dWs r)) (fun r => .fz (dWs (r ++ [x]))) (fun r => decide ((r.length : Int) < most)) (rows pre most) (ts := (rows pre most).map fun r => .fz (dWs r)) (τ1 := [.fz (dWs xs), .fz (.int most), .fz (dWW (rows pre most)), .fz (.str x), .gone])]
        · simp
        · simp [dWW, Function.comp_def]
        · rfl
        · exact sizeL_le (by omega)
        · intro r mr acc la
          have l1 : r.length + 1 ≤ sizeL := sizeL_le (by have := (h2 r mr).1; omega)
          unfold dWs
          by_cases c : (r.length : Int) < most
          · simp [lcTurn, c, la, l1, sizeL_le, toDs_append]
          · simp [lcTurn, c]
      have l2 : (rows pre most).length + ((rows pre most).filter fun r => decide ((r.length : Int) < most)).length ≤ sizeL := sizeL_le (by
        have := List.length_filter_le (fun r => decide ((r.length : Int) < most)) (rows pre most)
        omega)
      refine ⟨[.fz (dWs xs), .fz (.int most), .fz (dWW (rows (pre ++ [x]) most)), .fz (.str x), .gone], ?_, _, rfl⟩
      rw [rows_snoc]
      unfold t_law_lists_1 rows1
      unfold dWW at hc ⊢
      simp [hc, l2, toDs_append, Function.comp_def])
  obtain ⟨τ', e, y, rfl⟩ := this
  rw [call_law_lists]
  unfold m_law_lists l_law_lists_1
  have e0 : dWW [[]] = .list [.list []] := rfl
  rw [e0] at e
  simp [e, sizeL_le]

/-! ### who stands in -/
theorem nodup_sub {α : Type} [DecidableEq α] : ∀ {l m : List α}, l.Nodup → (∀ a ∈ l, a ∈ m) → l.length ≤ m.length
  | [], m, _, _ => Nat.zero_le _
  | a :: l, m, nd, h => by
    have nd := List.nodup_cons.mp nd
    have ma := h a List.mem_cons_self
    have := nodup_sub (l := l) (m := m.erase a) nd.2 fun b mb => (List.mem_erase_of_ne (fun z => by subst z; exact nd.1 mb)).mpr (h b (List.mem_cons_of_mem _ mb))
    rw [List.length_erase_of_mem ma] at this
    have : 0 < m.length := List.length_pos_of_mem ma
    simp only [List.length_cons]
    omega
theorem nd_filter {α : Type} {l : List α} (h : l.Nodup) (p : α → Bool) : (l.filter p).Nodup := List.Sublist.nodup List.filter_sublist h
theorem flt_le {α : Type} {p q : α → Bool} (h : ∀ a, p a = true → q a = true) : ∀ l : List α, (l.filter p).length ≤ (l.filter q).length
  | [] => Nat.le_refl _
  | a :: l => by
    have := flt_le h l
    cases hp : p a with
    | true => simp [hp, h a hp]; exact this
    | false =>
      cases hq : q a <;> simp [hp, hq] <;> omega
theorem filter_two {α : Type} (p : α → Bool) : ∀ l : List α, l.length = (l.filter p).length + (l.filter fun a => !p a).length
  | [] => rfl
  | a :: l => by
    have := filter_two p l
    cases h : p a <;> simp [h] <;> omega
theorem ways_ne : ∀ (cs : List Cl) (ws : List (List Str)) (w : List Str), w ∈ ws → (∀ c ∈ cs, c.2.2.Nodup ∧ w.length + cs.length ≤ c.2.2.length) → ways cs ws ≠ []
  | [], ws, w, m, _ => fun e => by
    have e : ws = [] := e
    rw [e] at m
    cases m
  | c :: cs, ws, w, m, h => by
    obtain ⟨nd, l⟩ := h c List.mem_cons_self
    have : ∃ t ∈ c.2.2, t ∉ w := by
      refine Classical.byContradiction fun z => ?_
      have := nodup_sub (l := c.2.2) (m := w) nd fun t mt => Classical.byContradiction fun y => z ⟨t, mt, y⟩
      simp at l
      omega
    obtain ⟨t, mt, nt⟩ := this
    refine ways_ne cs (ws.flatMap (way1 c)) (w ++ [t]) (List.mem_flatMap.mpr ⟨w, m, ?_⟩) fun d md => ?_
    · exact List.mem_map.mpr ⟨t, List.mem_filter.mpr ⟨mt, by simp [nt]⟩, rfl⟩
    · obtain ⟨nd2, l2⟩ := h d (List.mem_cons_of_mem _ md)
      refine ⟨nd2, ?_⟩
      simp at l2 ⊢
      omega
theorem ways_nil : ∀ cs : List Cl, ways cs [] = []
  | [] => rfl
  | c :: cs => ways_nil cs
theorem ways_stuck : ∀ (cs : List Cl) (ws : List (List Str)) (c : Cl), c ∈ cs → c.2.2 = [] → ways cs ws = []
  | d :: cs, ws, c, m, h => by
    rcases List.mem_cons.mp m with rfl | m
    · show ways cs (ws.flatMap (way1 c)) = []
      have : ws.flatMap (way1 c) = [] := by
        unfold way1
        rw [h]
        simp
      rw [this, ways_nil]
    · exact ways_stuck cs _ c m h
/-- small plans -/
structure Sml (p : Plan) (a : Able) : Prop where
  six : ∀ q ∈ a, q.2.length ≤ 6
  five : ∀ h, ((less p).filter fun x => decide (x.1 = h)).length ≤ 5
theorem fr_nd {p : Plan} {a : Able} {s : Shut} {x : Les} (ka : OkA p a) : (fr p a s x).Nodup := by
  unfold fr
  refine nd_filter ?_ _
  cases h : lk x.2.1 a with
  | none => exact .nil
  | some ws => exact (ka.ws _ (lk_some h)).1.nodup
theorem fr_six {p : Plan} {a : Able} {s : Shut} {x : Les} (k : Sml p a) : (fr p a s x).length ≤ 6 := by
  unfold fr
  refine Nat.le_trans (List.length_filter_le _ _) ?_
  cases h : lk x.2.1 a with
  | none => simp
  | some ws => exact k.six _ (lk_some h)
theorem fr_ws {p : Plan} {a : Able} {s : Shut} {x : Les} (ka : OkA p a) : ∀ w ∈ fr p a s x, w ∈ WS := by
  intro w m
  unfold fr at m
  have m := (List.mem_filter.mp m).1
  cases h : lk x.2.1 a with
  | none =>
    rw [h] at m
    cases m
  | some ws =>
    rw [h] at m
    exact (ka.ws _ (lk_some h)).2.1 w m
theorem fr_free {p : Plan} {a : Able} {s : Shut} {x : Les} {w : Str} (m : w ∈ fr p a s x) : (x.1, w) ∉ (less p).map fun y => (y.1, y.2.2) := by
  unfold fr at m
  have := (List.mem_filter.mp m).2
  simp only [Bool.and_eq_true, Bool.not_eq_true', decide_eq_false_iff_not] at this
  exact this.1
/-- the hour's calls, as the lessons of the ill then -/
theorem hour_calls (p : Plan) (a : Able) (s : Shut) (ill : List Str) (h : Int) : ((calls p a s ill).filter fun c => decide (c.1 = h)).Perm ((((less p).filter fun x => decide (x.2.2 ∈ ill)).filter fun x => decide (x.1 = h)).map (clO p a s ill)) := by
  have := (srtE_perm (e := eC) (xs := clls p a s ill (less p))).filter fun c => decide (c.1 = h)
  refine this.trans ?_
  unfold clls
  rw [List.filter_map]
  exact List.Perm.refl _
theorem calls_ok (p : Plan) (a : Able) (s : Shut) (ill : List Str) (kp : OkP p) (k : Sml p a) : OkC (calls p a s ill) := by
  refine ⟨?_, ?_, ?_⟩
  · unfold calls
    rw [srtE_len]
    exact Nat.le_trans clls_len kp.lenL
  · intro c m
    unfold calls at m
    rw [srtE_mem] at m
    obtain ⟨x, mx, rfl⟩ := List.mem_map.mp m
    exact Nat.le_trans (List.length_filter_le _ _) (fr_six k)
  · intro h
    rw [(hour_calls p a s ill h).length_eq, List.length_map]
    refine Nat.le_trans ?_ (k.five h)
    rw [List.filter_filter]
    refine flt_le (fun x hx => ?_) _
    simp at hx ⊢
    exact hx.1
theorem all_can (p : Plan) (a : Able) (s : Shut) (ill : List Str) (kp : OkP p) (ka : OkA p a) (hd : ∀ m, due p a s = some m → (ill.length : Int) ≤ m) : ((hoursOf (calls p a s ill)).all fun h => !(hourW (calls p a s ill) h).isEmpty) = true := by
  rw [List.all_eq_true]
  intro h _
  have ne : hourW (calls p a s ill) h ≠ [] := by
    unfold hourW
    let M := ((less p).filter fun x => decide (x.2.2 ∈ ill)).filter fun x => decide (x.1 = h)
    have pm := hour_calls p a s ill h
    refine ways_ne _ [[]] [] List.mem_cons_self fun c mc => ?_
    obtain ⟨x, mx, rfl⟩ := List.mem_map.mp (pm.mem_iff.mp mc)
    obtain ⟨mx1, ex⟩ := List.mem_filter.mp mx
    have mx2 := (List.mem_filter.mp mx1).1
    have ex := of_decide_eq_true ex
    refine ⟨nd_filter (fr_nd ka) _, ?_⟩
    rw [pm.length_eq, List.length_map]
    show 0 + M.length ≤ ((fr p a s x).filter fun w => !decide (w ∈ ill)).length
    obtain ⟨m, em⟩ : ∃ m, due p a s = some m := by
      unfold due lens
      cases hl : less p with
      | nil => rw [hl] at mx2; cases mx2
      | cons y ys => exact ⟨_, rfl⟩
    have l1 := hd m em
    have l2 : m ≤ (fr p a s x).length := (leastI_spec em).1 _ (List.mem_map.mpr ⟨x, mx2, rfl⟩)
    have l3 := filter_two (fun w => decide (w ∈ ill)) (fr p a s x)
    have l4 : (((fr p a s x).filter fun w => decide (w ∈ ill)) ++ M.map (·.2.2)).length ≤ ill.length := by
      refine nodup_sub (List.nodup_append.mpr ⟨nd_filter (fr_nd ka) _, ?_, ?_⟩) ?_
      · have nd : (M.map fun x => (x.1, x.2.2)).Nodup := List.Sublist.nodup ((List.filter_sublist.trans List.filter_sublist).map _) kp.ts
        have : M.map (fun x => (x.1, x.2.2)) = (M.map (·.2.2)).map fun t => (h, t) := by
          rw [List.map_map]
          refine List.map_congr_left fun y my => ?_
          have := of_decide_eq_true (List.mem_filter.mp my).2
          simp [this]
        rw [this] at nd
        exact (List.pairwise_map.mp nd).imp fun {u v} z e => z (by rw [e])
      · intro w mw t mt e
        subst e
        obtain ⟨y, my, ey⟩ := List.mem_map.mp mt
        obtain ⟨my1, my2⟩ := List.mem_filter.mp my
        have my2 := of_decide_eq_true my2
        refine fr_free (List.mem_filter.mp mw).1 (List.mem_map.mpr ⟨y, (List.mem_filter.mp my1).1, ?_⟩)
        rw [my2, ey, ex]
      · intro w mw
        rcases List.mem_append.mp mw with mw | mw
        · exact of_decide_eq_true (List.mem_filter.mp mw).2
        · obtain ⟨y, my, rfl⟩ := List.mem_map.mp mw
          exact of_decide_eq_true (List.mem_filter.mp (List.mem_filter.mp my).1).2
    rw [List.length_append, List.length_map] at l4
    omega
  cases hh : hourW (calls p a s ill) h with
  | nil => exact absurd hh ne
  | cons _ _ => rfl
theorem not_can (p : Plan) (a : Able) (s : Shut) (ill : List Str) (x : Les) (mx : x ∈ less p) (ht : x.2.2 ∈ ill) (hf : ∀ w ∈ fr p a s x, w ∈ ill) : ((hoursOf (calls p a s ill)).all fun h => !(hourW (calls p a s ill) h).isEmpty) = false := by
  have mc : clO p a s ill x ∈ calls p a s ill := by
    unfold calls
    rw [srtE_mem]
    exact List.mem_map.mpr ⟨x, List.mem_filter.mpr ⟨mx, by simp [ht]⟩, rfl⟩
  rw [List.all_eq_false]
  refine ⟨x.1, ?_, ?_⟩
  · unfold hoursOf
    rw [srtE_mem, ded_mem]
    exact List.mem_map.mpr ⟨_, mc, rfl⟩
  · have : hourW (calls p a s ill) x.1 = [] := by
      unfold hourW
      refine ways_stuck _ _ (clO p a s ill x) (List.mem_filter.mpr ⟨mc, by simp [clO]⟩) ?_
      show List.filter _ _ = []
      rw [List.filter_eq_nil_iff]
      intro w mw
      simp [hf w mw]
    rw [this]
    simp
end K70
end
section
namespace K70
open PySem PySem.Spec PyProof.Rows L2 SW
open PySem.W (dataLt alike keyToks)

theorem ev_mixed0 (n : Nat) (b c d x y : Int) (m1 : mulOk b 69069 = true) (m2 : mulOk 104729 c = true) (m3 : mulOk (104729 * c) c = true) (m4 : mulOk 7919 d = true) (hx : b * 69069 + 104729 * c * c + 7919 * d + c = x)
    (m5 : mulOk (x % 2147483647) (x % 2147483647) = true) (hy : x % 2147483647 * (x % 2147483647) + 40503 = y) (m6 : mulOk (y % 2147483629) 48271 = true) :
    callN tab (n + 1) 19 [.fz (.int b), .fz (.int c), .fz (.int d)] = some (.fz (.int (y % 2147483629 * 48271 % 2147483587)), [.fz (.int b), .fz (.int c), .fz (.int d)]) := by
  rw [call_law_mixed]
  unfold m_law_mixed
  simp [m1, m2, m3, m4, hx, m5, hy, m6]
/-- the purse -/
def pu (a b c d : Int) : T := .lst [.fz (.int a), .fz (.int b), .fz (.int c), .fz (.int d)]
section
variable {a b c d v : Int} {q : Bool}
@[simp] theorem pu_live : live (pu a b c d) = true := rfl
@[simp] theorem pu_0 : subT q (pu a b c d) (.int 0) = some (.fz (.int a), pu a b c d) := rfl
@[simp] theorem pu_1 : subT q (pu a b c d) (.int 1) = some (.fz (.int b), pu a b c d) := rfl
@[simp] theorem pu_2 : subT q (pu a b c d) (.int 2) = some (.fz (.int c), pu a b c d) := rfl
@[simp] theorem pu_3 : subT q (pu a b c d) (.int 3) = some (.fz (.int d), pu a b c d) := rfl
@[simp] theorem pu_s0 : setG (pu a b c d) (.int 0) (.fz (.int v)) = some (pu v b c d) := rfl
@[simp] theorem pu_s2 : setG (pu a b c d) (.int 2) (.fz (.int v)) = some (pu a b v d) := rfl
end
/-- a purse that stands k draws more -/
def OkU (k : Nat) (t : T) : Prop := ∃ a b c d : Int, t = pu a b c d ∧ 0 ≤ a ∧ 0 ≤ b ∧ b < 2147483648 ∧ 0 ≤ c ∧ c + k ≤ 1000000 ∧ 0 ≤ d ∧ d ≤ 3
theorem OkU.mono {k j : Nat} {t : T} (h : OkU k t) (l : j ≤ k) : OkU j t := by
  obtain ⟨a, b, c, d, e, h1, h2, h3, h4, h5, h6, h7⟩ := h
  exact ⟨a, b, c, d, e, h1, h2, h3, h4, by omega, h6, h7⟩
theorem OkU.live {k : Nat} {t : T} (h : OkU k t) : SW.live t = true := by
  obtain ⟨a, b, c, d, rfl, _⟩ := h
  rfl
theorem mulOk_64 {i j : Int} (hi : i.natAbs < 18446744073709551616) (hj : j.natAbs < 18446744073709551616) : mulOk i j = true := by
  unfold mulOk
  have h1 : i.natAbs.log2 < 65 := by
    by_cases h : i.natAbs = 0
    · rw [h]; decide
    · exact (Nat.log2_lt h).mpr (Nat.lt_of_lt_of_le hi (by decide))
  have h2 : j.natAbs.log2 < 65 := by
    by_cases h : j.natAbs = 0
    · rw [h]; decide
    · exact (Nat.log2_lt h).mpr (Nat.lt_of_lt_of_le hj (by decide))
  simp
  omega
theorem mod_64 (x k : Int) (h0 : 0 < k) (h : k ≤ 2147483648) : 0 ≤ x % k ∧ (x % k).natAbs < 18446744073709551616 := by
  have q1 := Int.emod_nonneg x (b := k) (by omega)
  have q2 := Int.emod_lt_of_pos x h0
  exact ⟨q1, by omega⟩
theorem ev_mixed (n : Nat) (b c d : Int) (h1 : 0 ≤ b) (h2 : b < 2147483648) (h3 : 0 ≤ c) (h4 : c ≤ 1000000) (h5 : 0 ≤ d) (h6 : d ≤ 3) : ∃ r : Int, 0 ≤ r ∧ callN tab (n + 1) 19 [.fz (.int b), .fz (.int c), .fz (.int d)] = some (.fz (.int r), [.fz (.int b), .fz (.int c), .fz (.int d)]) := by
  obtain ⟨x, hx⟩ : ∃ x, b * 69069 + 104729 * c * c + 7919 * d + c = x := ⟨_, rfl⟩
  obtain ⟨y, hy⟩ : ∃ y, x % 2147483647 * (x % 2147483647) + 40503 = y := ⟨_, rfl⟩
  have q := mod_64 x 2147483647 (by omega) (by omega)
  have q2 := mod_64 y 2147483629 (by omega) (by omega)
  have q3 := mod_64 (y % 2147483629 * 48271) 2147483587 (by omega) (by omega)
  exact ⟨_, q3.1, ev_mixed0 n b c d x y (mulOk_64 (by omega) (by decide)) (mulOk_64 (by decide) (by omega)) (mulOk_64 (by omega) (by omega)) (mulOk_64 (by decide) (by omega)) hx (mulOk_64 q.2 q.2) hy (mulOk_64 q2.2 (by decide))⟩
theorem bit_small : ∀ m : Nat, m < 101 → ((Builtin.Int.intBits (m : Int) : Nat) : Int) / 28 = 0 := by decide +kernel
theorem bit_of (m : Int) (m0 : 0 < m) (m1 : m ≤ 100) : ((Builtin.Int.intBits m : Nat) : Int) / 28 = 0 := by
  obtain ⟨k, rfl⟩ : ∃ k : Nat, m = (k : Int) := ⟨m.toNat, by omega⟩
  exact bit_small k (by omega)
theorem lg28 : Nat.log2 28 < 9000 := by decide
theorem mz0 : mulOk 0 2147483587 = true := by decide +kernel
theorem rngL_1 : rngL 0 1 = [.int 0] := rfl
theorem dr1 (n : Nat) (a b c d m : Int) (ha : 0 < a) (m0 : 0 < m) (lg : m.natAbs.log2 < 9000) : callN tab (n + 2) 20 [pu a b c d, .fz (.int m)] = some (.fz (.int (a % m)), [pu (a / m) b c d, .fz (.int m)]) := by
  rw [call_law_draw]
  unfold m_law_draw
  simp [ha, m0, lg]
theorem dr2 (n : Nat) (a b c d m r : Int) (bits : ((Builtin.Int.intBits m : Nat) : Int) / 28 = 0) (lg : Nat.log2 28 < 9000) (mz : mulOk 0 2147483587 = true) (e : callN tab (n + 1) 19 [.fz (.int b), .fz (.int (c + 1)), .fz (.int d)] = some (.fz (.int r), [.fz (.int b), .fz (.int (c + 1)), .fz (.int d)])) :
    l_law_draw_1 (callN tab (n + 1)) [pu a b c d, .fz (.int m), .gone, .fz (.int 0), .gone] = some (.nx [pu a b (c + 1) d, .fz (.int m), .gone, .fz (.int r), .fz (.int 0)]) := by
  unfold l_law_draw_1
  unfold sFor
  simp [bitG, bits, rngOk, rngL_1, loopF, t_law_draw_1, mz, e, lg]
theorem dr3 (n : Nat) (a b c d m r : Int) (ha : ¬0 < a) (m0 : 0 < m) (hl : l_law_draw_1 (callN tab (n + 1)) [pu a b c d, .fz (.int m), .gone, .fz (.int 0), .gone] = some (.nx [pu a b (c + 1) d, .fz (.int m), .gone, .fz (.int r), .fz (.int 0)])) :
    callN tab (n + 2) 20 [pu a b c d, .fz (.int m)] = some (.fz (.int (r % m)), [pu a b (c + 1) d, .fz (.int m)]) := by
  rw [call_law_draw]
  unfold m_law_draw
  simp (implicitDefEqProofs := false) [ha, m0, hl]
theorem lg_m (m : Int) (m0 : 0 < m) (m1 : m ≤ 100) : m.natAbs.log2 < 9000 := by
  by_cases h : m.natAbs = 0
  · rw [h]; decide
  · exact Nat.lt_trans ((Nat.log2_lt (k := 10) h).mpr (by omega)) (by decide)
theorem ev_draw (n k : Nat) (t : T) (m : Int) (h : OkU (k + 1) t) (m0 : 0 < m) (m1 : m ≤ 100) : ∃ r t', 0 ≤ r ∧ r < m ∧ OkU k t' ∧ callN tab (n + 2) 20 [t, .fz (.int m)] = some (.fz (.int r), [t', .fz (.int m)]) := by
  obtain ⟨a, b, c, d, rfl, h1, h2, h3, h4, h5, h6, h7⟩ := h
  have hm : m ≠ 0 := by omega
  by_cases ha : 0 < a
  · exact ⟨a % m, pu (a / m) b c d, Int.emod_nonneg _ hm, Int.emod_lt_of_pos _ m0, ⟨_, _, _, _, rfl, Int.ediv_nonneg h1 (Int.le_of_lt m0), h2, h3, h4, by omega, h6, h7⟩, dr1 n a b c d m ha m0 (lg_m m m0 m1)⟩
  · have c1 : c + 1 ≤ 1000000 := by omega
    obtain ⟨r, r0, e⟩ := ev_mixed n b (c + 1) d h2 h3 (by omega) c1 h6 h7
    exact ⟨r % m, pu a b (c + 1) d, Int.emod_nonneg _ hm, Int.emod_lt_of_pos _ m0, ⟨_, _, _, _, rfl, h1, h2, h3, by omega, by omega, h6, h7⟩, dr3 n a b c d m r ha m0 (dr2 n a b c d m r (bit_of m m0 m1) lg28 mz0 e)⟩
theorem ev_one (n k : Nat) (t : T) (xs : List PyData) (h : OkU (k + 1) t) (l0 : 0 < xs.length) (l1 : xs.length ≤ 100) : ∃ x t', x ∈ xs ∧ OkU k t' ∧ callN tab (n + 3) 22 [t, .fz (.list xs)] = some (.fz x, [t', .fz (.list xs)]) := by
  obtain ⟨r, t', r0, r1, hu, e⟩ := ev_draw n k t xs.length h (by omega) (by omega)
  have hr : r.toNat < xs.length := by omega
  refine ⟨xs[r.toNat], t', List.getElem_mem hr, hu, ?_⟩
  have lv := h.live
  have es : subT false (.fz (.list xs)) (.int r) = some (.fz xs[r.toNat], .fz (.list xs)) := by
    show ((ixOf xs.length r).bind fun j => xs[j]?).map _ = _
    rw [show ixOf xs.length r = some r.toNat from by
      unfold ixOf ixN
      rw [if_pos r0, if_pos (by omega)]]
    simp [hr]
  rw [call_law_one_of]
  unfold m_law_one_of
  simp [lv, e, es]
/-- x at the place r among ys -/
def insAt {α : Type} (r : Nat) (x : α) (ys : List α) : List α := ys.take r ++ x :: ys.drop r
theorem insAt_perm {α : Type} (r : Nat) (x : α) (ys : List α) : (insAt r x ys).Perm (x :: ys) := by
  unfold insAt
  refine List.perm_middle.trans ?_
  rw [List.take_append_drop]
theorem ev_shuf (n k : Nat) (t : T) (xs : List Str) (h : OkU (k + xs.length) t) (l : xs.length ≤ 50) : ∃ ys t', ys.Perm xs ∧ OkU k t' ∧ callN tab (n + 3) 23 [t, .fz (dWs xs)] = some (.fz (dWs ys), [t', .fz (dWs xs)]) := by
  have := for_ev (f := lIts (vVar 1)) (g := .nm 3) (b := t_law_shuffled_1 (callN tab (n + 2))) (τ := [t, .fz (dWs xs), .lst [], .gone]) (fun x : Str => .fz (.str x)) xs
    (fun pre τ => ∃ ys t' y, ys.Perm pre ∧ OkU (k + xs.length - pre.length) t' ∧ τ = [t', .fz (dWs xs), .lst (ys.map fun y => .fz (.str y)), y])
    (τ1 := [t, .fz (dWs xs), .lst [], .gone]) (ts := xs.map fun x => .fz (.str x)) (by simp [dWs, Function.comp_def]) rfl ⟨[], t, .gone, List.Perm.refl _, h, rfl⟩ (by
      rintro pre x post e τ ⟨ys, t', y, pm, hu, rfl⟩
      have lx : pre.length + 1 + post.length = xs.length := by
        have := congrArg List.length e
        simp at this
        omega
      have ly := pm.length_eq
      obtain ⟨r, t2, r0, r1, hu2, ed⟩ := ev_draw n (k + xs.length - (pre.length + 1)) t' (ys.length + 1) (by
        have : k + xs.length - (pre.length + 1) + 1 = k + xs.length - pre.length := by omega
        rw [this]
        exact hu) (by omega) (by omega)
      refine ⟨[t2, .fz (dWs xs), .lst ((insAt r.toNat x ys).map fun y => .fz (.str y)), .fz (.str x)], ?_, insAt r.toNat x ys, t2, _, ?_, ?_, rfl⟩
      · have lv := hu.live
        have z1 : ys.length < sizeL := sizeL_lt (by omega)
        have z2 : r < 9223372036854775808 := by omega
        unfold t_law_shuffled_1
        have em : ∀ ts : List T, ts.length = ys.length → mmL .insert (.lst ts) [.fz (.int r), .fz (.str x)] = some (.lst (ts.take r.toNat ++ ([.fz (.str x)] ++ ts.drop r.toNat)), .fz .none) := fun ts lt => by
          show (if ts.length < sizeL ∧ 0 ≤ r ∧ r < 2 ^ 63 then _ else none) = _
          rw [if_pos ⟨by omega, r0, by omega⟩]
        simp [lv, ed, em, insAt]
      · refine (insAt_perm _ _ _).trans ?_
        exact (pm.cons x).trans (List.perm_append_singleton x pre).symm
      · simp
        exact hu2)
  obtain ⟨τ', e, ys, t', y, pm, hu, rfl⟩ := this
  refine ⟨ys, t', pm, hu.mono (by omega), ?_⟩
  rw [call_law_shuffled]
  unfold m_law_shuffled l_law_shuffled_1
  have ed : dWs ys = .list (ys.map .str) := rfl
  simp [e, sizeL_le, ed]
end K70
end
section
namespace K70
open PySem PySem.Spec PyProof.Rows L2 SW
open PySem.W (dataLt alike keyToks)

theorem sumG_e {xs : List Int} : sumG (true, .lst (xs.map fun i => .fz (.int i))) = some (.fz (.int xs.sum)) := by
  unfold sumG
  rw [itsF_lentf, Option.bind_some, intsD_map (fun i => i)]
  simp
theorem pw1 : powOk 10 18 = true := by decide +kernel
theorem pw2 : powOk 10 60 = true := by decide +kernel
theorem pw3 : powOk (10 ^ 60) 8 = true := by decide +kernel
theorem pw4 : (0 : Int) < (10 ^ 60) ^ 8 := by decide +kernel
theorem slcSG_e {b : Bool} {ns : List Int} {lo hi : Option Int} : slcSG (b, .scr ns) lo hi = some (.lst ((cutL ns lo hi).map fun i => .fz (.int i))) := rfl
theorem ev_purse (n : Nat) (ns : List Int) (k : Int) (k0 : 0 ≤ k) (k3 : k ≤ 3) : ∃ t, OkU 1000000 t ∧ callN tab (n + 1) 18 [.scr ns, .fz (.int k)] = some (t, [.scr ns, .fz (.int k)]) := by
  obtain ⟨s, hs⟩ : ∃ s, (cutL ns (some k) (some (k + 1))).sum = s := ⟨_, rfl⟩
  obtain ⟨x, hx⟩ : ∃ x : Int, (if (0 : Int) > s - 10 ^ 18 then 0 else s - 10 ^ 18) = x := ⟨_, rfl⟩
  have e1 : binT .pow (true, .fz (.int 10)) (true, .fz (.int 18)) = some (.fz (.int (10 ^ 18))) := by rw [powT_int, if_pos pw1]; rfl
  have e2 : binT .pow (true, .fz (.int 10)) (true, .fz (.int 60)) = some (.fz (.int (10 ^ 60))) := by rw [powT_int, if_pos pw2]; rfl
  have e3 : binT .pow (true, .fz (.int (10 ^ 60))) (true, .fz (.int 8)) = some (.fz (.int ((10 ^ 60) ^ 8))) := by rw [powT_int, if_pos pw3]; rfl
  have e4 : ∀ y : Int, binT .mod (true, .fz (.int y)) (true, .fz (.int ((10 ^ 60) ^ 8))) = some (.fz (.int (y % (10 ^ 60) ^ 8))) := fun y => by rw [modT_int, if_pos pw4]
  have q1 := Int.emod_nonneg x (b := (10 ^ 60) ^ 8) (Int.ne_of_gt pw4)
  have q2 := mod_64 s 2147483629 (by decide) (by decide)
  have q3 := Int.emod_lt_of_pos s (b := 2147483629) (by decide)
  refine ⟨pu (x % (10 ^ 60) ^ 8) (s % 2147483629) 0 k, ⟨_, _, _, _, rfl, q1, q2.1, Int.lt_trans q3 (by decide), by decide, by decide, k0, k3⟩, ?_⟩
  rw [call_law_purse]
  unfold m_law_purse
  generalize (10 : Int) ^ 18 = A at *
  generalize (10 : Int) ^ 60 = B at *
  generalize B ^ 8 = N at *
  have es : sumG (true, .lst ((cutL ns (some k) (some (k + 1))).map fun i => .fz (.int i))) = some (.fz (.int s)) := by rw [sumG_e, hs]
  have em : maxG (true, .fz (.int (s - A))) (true, .fz (.int 0)) = some (.fz (.int x)) := by rw [maxG_e, hx]
  simp (implicitDefEqProofs := false) [slcSG_e, es, e1, e2, e3, e4, em, pu, sizeL_le]
def cnt (k : Nat) : List Int := (List.range k).map fun i : Nat => (i : Int)
theorem cnt_len (k : Nat) : (cnt k).length = k := by simp [cnt]
theorem cnt_mem {k : Nat} {i : Int} (h : i ∈ cnt k) : 0 ≤ i ∧ i < k := by
  obtain ⟨m, hm, rfl⟩ := List.mem_map.mp h
  have := List.mem_range.mp hm
  omega
theorem rngL_cnt (k : Nat) : (rngL 0 k).map T.fz = (cnt k).map fun i => .fz (.int i) := by simp [rngL, cnt, Function.comp_def]
theorem rng_ok (k : Nat) (h : k ≤ 1000000) : rngOk (k : Int) = true := by
  unfold rngOk
  simp
  omega
theorem ev_purses (n : Nat) (ns : List Int) : ∃ ts, (∀ t ∈ ts, OkU 1000000 t) ∧ callN tab (n + 2) 21 [.scr ns, .fz (.int 3)] = some (.lst ts, [.scr ns, .fz (.int 3)]) := by
  obtain ⟨k, hk, hk3⟩ : ∃ k : Nat, (if (if ((ns.length : Int)) < 3 then (ns.length : Int) else 3) > 1 then (if ((ns.length : Int)) < 3 then (ns.length : Int) else 3) else 1) = (k : Int) ∧ k ≤ 3 := by
    refine ⟨(if (if ((ns.length : Int)) < 3 then (ns.length : Int) else 3) > 1 then (if ((ns.length : Int)) < 3 then (ns.length : Int) else 3) else 1).toNat, ?_, ?_⟩ <;> (repeat' split) <;> omega
  have hf : lRng1 (asArg (v2 maxG (asArg (vCst (.int 1))) (asArg (v2 minG (aRef 1) (asArg (v1 lenSG (aRef 0))))))) [.scr ns, .fz (.int 3), .gone] = some ((cnt k).map fun i => .fz (.int i), [.scr ns, .fz (.int 3), .gone]) := by
    have h1 := rng_ok k (by omega)
    simp (implicitDefEqProofs := false) [hk, h1, rngL_cnt]
  have := lcs_go (vs := [2]) (g := .nm 2) (b := bTrue) (z := vCall (callN tab (n + 1)) 18 2 0 [0, 1] [] (mCons (aRef 0) (mCons (asArg (vVar 2)) mNil)) mNil) (fun i : Int => .fz (.int i)) (OkU 1000000) (fun _ τ => τ = [.scr ns, .fz (.int 3), .gone]) (cnt k) [] [.scr ns, .fz (.int 3), .gone]
    (sizeL_le (by rw [cnt_len]; simp; omega)) rfl (fun t m => by cases m) (by
      rintro i mi j τ rfl acc la
      have := cnt_mem mi
      obtain ⟨t, ht, e⟩ := ev_purse n ns i (by omega) (by omega)
      exact ⟨t, _, ht, rfl, by simp (implicitDefEqProofs := false) [lcTurn, e, la]⟩)
  obtain ⟨out, τ', e, rfl, ho, _⟩ := this
  refine ⟨out, ho, ?_⟩
  rw [call_law_purses]
  unfold m_law_purses c_law_purses_1 vLc
  simp (implicitDefEqProofs := false) only [sRet_e]
  rw [hf]
  simp (implicitDefEqProofs := false) [e]
end K70
end
section
namespace K70
open PySem PySem.Spec PyProof.Rows L2 SW
open PySem.W (dataLt alike keyToks)

/-- a plan as it is drawn -/
structure RawP (gs ts : List Str) (B : Nat) (p : Plan) : Prop where
  keys : (p.map (·.1)).Nodup
  w1 : ∀ q ∈ p, q.1.1 ∈ gs ∧ q.1.2 ∈ ts
  hs : ∀ q ∈ p, q.2 ≠ [] ∧ Asc .int q.2 ∧ ∀ h ∈ q.2, 0 ≤ h
  gN : ((less0 p).map fun x => (x.1, x.2.1)).Nodup
  tN : ((less0 p).map fun x => (x.1, x.2.2)).Nodup
  len : (less0 p).length ≤ B
  lenP : p.length ≤ B
theorem less0_mem {p : Plan} {x : Les} : x ∈ less0 p ↔ ∃ hs, ((x.2.1, x.2.2), hs) ∈ p ∧ x.1 ∈ hs := by
  rw [← less_mem]
  unfold less
  rw [srtE_mem]
theorem put_less {p : Plan} {g t : Str} {h : Int} {hs : List Int} (e : hs.Perm (((lk (g, t) p).getD []) ++ [h])) : (less0 (put (g, t) hs p)).Perm ((h, g, t) :: less0 p) := by
  induction p with
  | nil =>
    show (less0 [((g, t), hs)]).Perm _
    have e : hs.Perm [h] := e
    rw [List.perm_singleton.mp e]
    exact List.Perm.refl _
  | cons q p ih =>
    unfold put
    unfold lk at e
    by_cases c : q.1 = (g, t)
    · rw [if_pos c] at e ⊢
      have e : hs.Perm (q.2 ++ [h]) := e
      show (hs.map (fun h => (h, q.1.1, q.1.2)) ++ less0 p).Perm ((h, g, t) :: (q.2.map (fun h => (h, q.1.1, q.1.2)) ++ less0 p))
      rw [c]
      have e2 := e.map fun h => (h, g, t)
      rw [List.map_append] at e2
      refine (e2.append_right _).trans ?_
      rw [List.append_assoc]
      exact List.perm_middle
    · rw [if_neg c] at e ⊢
      show (q.2.map (fun h => (h, q.1.1, q.1.2)) ++ less0 (put (g, t) hs p)).Perm ((h, g, t) :: (q.2.map (fun h => (h, q.1.1, q.1.2)) ++ less0 p))
      exact ((ih e).append_left _).trans List.perm_middle
theorem put_mem {κ β : Type} [DecidableEq κ] {k : κ} {v : β} {q : κ × β} : ∀ {p : List (κ × β)}, q ∈ put k v p → q ∈ p ∨ (q.1 = k ∧ q.2 = v)
  | [], m => by
    rw [List.mem_singleton.mp (show q ∈ [(k, v)] from m)]
    exact .inr ⟨rfl, rfl⟩
  | r :: p, m => by
    unfold put at m
    split at m
    · rename_i c
      rcases List.mem_cons.mp m with rfl | m
      · exact .inr ⟨c, rfl⟩
      · exact .inl (List.mem_cons_of_mem _ m)
    · rcases List.mem_cons.mp m with rfl | m
      · exact .inl List.mem_cons_self
      · rcases put_mem m with z | z
        · exact .inl (List.mem_cons_of_mem _ z)
        · exact .inr z
theorem put_nd {κ β : Type} [DecidableEq κ] {k : κ} {v : β} {p : List (κ × β)} (h : (p.map (·.1)).Nodup) : ((put k v p).map (·.1)).Nodup := by
  rw [put_keys]
  split
  · exact h
  · rename_i hn
    rw [List.nodup_append]
    exact ⟨h, by simp, fun a ha b hb z => hn (by rw [List.mem_singleton.mp hb] at z; exact z ▸ ha)⟩
theorem put_len {κ β : Type} [DecidableEq κ] {k : κ} {v : β} (p : List (κ × β)) : (put k v p).length ≤ p.length + 1 := by
  have := congrArg List.length (put_keys (k := k) (v := v) p)
  rw [List.length_map] at this
  split at this <;> simp at this <;> omega
/-- one lesson more -/
theorem RawP.more {gs ts : List Str} {B : Nat} {p : Plan} (k : RawP gs ts B p) {g t : Str} {h : Int} (mg : g ∈ gs) (mt : t ∈ ts) (h0 : 0 ≤ h) (n1 : (h, g) ∉ (less0 p).map fun x => (x.1, x.2.1)) (n2 : (h, t) ∉ (less0 p).map fun x => (x.1, x.2.2)) :
    RawP gs ts (B + 1) (put (g, t) (srtE .int (((lk (g, t) p).getD []) ++ [h])) p) := by
  have pm := put_less (p := p) (g := g) (t := t) (h := h) (srtE_perm (e := PyData.int))
  have old : ∀ hh, lk (g, t) p = some hh → ((g, t), hh) ∈ p := fun hh e => lk_some e
  refine ⟨put_nd k.keys, fun q m => ?_, fun q m => ?_, ?_, ?_, ?_, ?_⟩
  · rcases put_mem m with m | ⟨e, _⟩
    · exact k.w1 q m
    · rw [e]; exact ⟨mg, mt⟩
  · rcases put_mem m with m | ⟨_, e⟩
    · exact k.hs q m
    · rw [e]
      refine ⟨fun z => ?_, ?_, fun i mi => ?_⟩
      · have := congrArg List.length z
        rw [srtE_len] at this
        simp at this
      · refine srtE_asc inj_int ?_
        rw [List.nodup_append]
        refine ⟨?_, by simp, fun a ha b hb z => ?_⟩
        · cases e1 : lk (g, t) p with
          | none => exact .nil
          | some hh => exact (k.hs _ (old hh e1)).2.1.nodup
        · rw [List.mem_singleton.mp hb] at z
          subst z
          cases e1 : lk (g, t) p with
          | none => rw [e1] at ha; cases ha
          | some hh =>
            rw [e1] at ha
            exact n1 (List.mem_map.mpr ⟨(a, g, t), less0_mem.mpr ⟨hh, old hh e1, ha⟩, rfl⟩)
      · rw [srtE_mem] at mi
        rcases List.mem_append.mp mi with mi | mi
        · cases e1 : lk (g, t) p with
          | none => rw [e1] at mi; cases mi
          | some hh =>
            rw [e1] at mi
            exact (k.hs _ (old hh e1)).2.2 i mi
        · rw [List.mem_singleton.mp mi]
          exact h0
  · rw [(pm.map fun x => (x.1, x.2.1)).nodup_iff, List.map_cons, List.nodup_cons]
    exact ⟨n1, k.gN⟩
  · rw [(pm.map fun x => (x.1, x.2.2)).nodup_iff, List.map_cons, List.nodup_cons]
    exact ⟨n2, k.tN⟩
  · rw [pm.length_eq, List.length_cons]
    have := k.len
    omega
  · have := put_len (k := (g, t)) (v := srtE .int (((lk (g, t) p).getD []) ++ [h])) p
    have := k.lenP
    omega
theorem RawP.mono {gs ts : List Str} {B C : Nat} {p : Plan} (k : RawP gs ts B p) (h : B ≤ C) : RawP gs ts C p := ⟨k.keys, k.w1, k.hs, k.gN, k.tN, Nat.le_trans k.len h, Nat.le_trans k.lenP h⟩
def gW : Str := "group"
def tW : Str := "teacher"
/-- what is taken -/
def Tak (p : Plan) (m : List ((Str × Str × Int) × Bool)) : Prop := ∀ k, k ∈ m.map (·.1) ↔ ∃ x ∈ less0 p, k = (gW, x.2.1, x.1) ∨ k = (tW, x.2.2, x.1)
theorem gt_ne : gW ≠ tW := by decide +kernel
theorem Tak.g {p : Plan} {m : List ((Str × Str × Int) × Bool)} (k : Tak p m) (g : Str) (h : Int) : (gW, g, h) ∈ m.map (·.1) ↔ (h, g) ∈ (less0 p).map fun x => (x.1, x.2.1) := by
  rw [k]
  constructor
  · rintro ⟨x, mx, e | e⟩
    · cases e
      exact List.mem_map.mpr ⟨x, mx, rfl⟩
    · exact absurd (congrArg Prod.fst e) gt_ne
  · intro mm
    obtain ⟨x, mx, e⟩ := List.mem_map.mp mm
    cases e
    exact ⟨x, mx, .inl rfl⟩
theorem Tak.t {p : Plan} {m : List ((Str × Str × Int) × Bool)} (k : Tak p m) (t : Str) (h : Int) : (tW, t, h) ∈ m.map (·.1) ↔ (h, t) ∈ (less0 p).map fun x => (x.1, x.2.2) := by
  rw [k]
  constructor
  · rintro ⟨x, mx, e | e⟩
    · exact absurd (congrArg Prod.fst e).symm gt_ne
    · cases e
      exact List.mem_map.mpr ⟨x, mx, rfl⟩
  · intro mm
    obtain ⟨x, mx, e⟩ := List.mem_map.mp mm
    cases e
    exact ⟨x, mx, .inr rfl⟩
theorem Tak.more {p : Plan} {m : List ((Str × Str × Int) × Bool)} (k : Tak p m) {g t : Str} {h : Int} : Tak (put (g, t) (srtE .int (((lk (g, t) p).getD []) ++ [h])) p) (put (tW, t, h) true (put (gW, g, h) true m)) := by
  have pm := put_less (p := p) (g := g) (t := t) (h := h) (srtE_perm (e := PyData.int))
  have mp : ∀ {κ β : Type} [DecidableEq κ] (a b : κ) (v : β) (m : List (κ × β)), b ∈ (put a v m).map (·.1) ↔ b ∈ m.map (·.1) ∨ b = a := by
    intro κ β _ a b v m
    rw [put_keys]
    split
    · rename_i hm
      constructor
      · exact .inl
      · rintro (z | z)
        · exact z
        · rw [z]; exact hm
    · simp
  intro key
  rw [mp, mp, k]
  constructor
  · rintro ((⟨x, mx, e⟩ | e) | e)
    · exact ⟨x, pm.mem_iff.mpr (List.mem_cons_of_mem _ mx), e⟩
    · exact ⟨(h, g, t), pm.mem_iff.mpr List.mem_cons_self, .inl e⟩
    · exact ⟨(h, g, t), pm.mem_iff.mpr List.mem_cons_self, .inr e⟩
  · rintro ⟨x, mx, e⟩
    rcases List.mem_cons.mp (pm.mem_iff.mp mx) with rfl | mx
    · rcases e with e | e
      · exact .inl (.inr e)
      · exact .inr e
    · exact .inl (.inl ⟨x, mx, e⟩)
end K70
end
section
namespace K70
open PySem PySem.Spec PyProof.Rows L2 SW
open PySem.W (dataLt alike keyToks)

def tM (m : List ((Str × Str × Int) × Bool)) : T := .dct (m.map fun q => (eSSI q.1, .fz (.bool q.2)))
def tP (p : Plan) : T := .dct (p.map fun q => (eSS q.1, .fz (dHs q.2)))
theorem tM_live (m : List ((Str × Str × Int) × Bool)) : live (tM m) = true := rfl
theorem tP_live (p : Plan) : live (tP p) = true := rfl
theorem tP_d (p : Plan) : (tP p).toD = some (dP p) := by simp [tP, dP]
def dM (m : List ((Str × Str × Int) × Bool)) : PyData := .dict (m.map fun q => (eSSI q.1, .bool q.2))
theorem tM_d (m : List ((Str × Str × Int) × Bool)) : (tM m).toD = some (dM m) := by simp [tM, dM]
theorem dM_in (m : List ((Str × Str × Int) × Bool)) (A B : Str) (i : Int) : inD (.tuple [.str A, .str B, .int i]) (dM m) = some (decide ((A, B, i) ∈ m.map (·.1))) := by
  show (if kOk (eSSI (A, B, i)) (m.map fun q => (eSSI q.1, PyData.bool q.2)) then some (kFind (eSSI (A, B, i)) (m.map fun q => (eSSI q.1, PyData.bool q.2))).isSome else none) = _
  rw [if_pos (kOk_T (g := PyData.bool) isKT_SSI), kFind_e keyE_SSI (g := PyData.bool), Option.isSome_map, lk_isSome]
  exact congrArg some (decide_eq_decide.mpr Iff.rfl)
theorem tM_put (m : List ((Str × Str × Int) × Bool)) (A B : Str) (i : Int) (l : m.length ≤ 1000) : setG (tM m) (.tuple [.str A, .str B, .int i]) (.fz (.bool true)) = some (tM (put (A, B, i) true m)) := by
  show (if kOk (eSSI (A, B, i)) (m.map fun q => (eSSI q.1, T.fz (.bool q.2))) && decide ((m.map fun q => (eSSI q.1, T.fz (.bool q.2))).length < sizeL) then some (T.dct (kPut (eSSI (A, B, i)) (.fz (.bool true)) (m.map fun q => (eSSI q.1, T.fz (.bool q.2))))) else none) = _
  rw [kOk_T (g := fun b : Bool => T.fz (.bool b)) isKT_SSI, if_pos (by simp; exact sizeL_lt (by omega)), kPut_e keyE_SSI (g := fun b : Bool => T.fz (.bool b))]
  rfl
theorem tP_put (p : Plan) (g t : Str) (hs : List Int) (l : p.length ≤ 1000) : setG (tP p) (.tuple [.str g, .str t]) (.fz (.list (hs.map .int))) = some (tP (put (g, t) hs p)) := by
  show (if kOk (eSS (g, t)) (p.map fun q => (eSS q.1, T.fz (dHs q.2))) && decide ((p.map fun q => (eSS q.1, T.fz (dHs q.2))).length < sizeL) then some (T.dct (kPut (eSS (g, t)) (.fz (dHs hs)) (p.map fun q => (eSS q.1, T.fz (dHs q.2))))) else none) = _
  rw [kOk_T (g := fun b : List Int => T.fz (dHs b)) isKT_SS, if_pos (by simp; exact sizeL_lt (by omega)), kPut_e keyE_SS (g := fun b : List Int => T.fz (dHs b))]
  rfl
def oT (o : Option (List Int)) : T := match o with
  | some hs => .fz (dHs hs)
  | none => .lst []
theorem tP_get (p : Plan) (g t : Str) : getD2 (tP p) (.tuple [.str g, .str t]) (true, .lst []) = some (oT (lk (g, t) p)) := by
  show (if kOk (eSS (g, t)) (p.map fun q => (eSS q.1, T.fz (dHs q.2))) then (match kFind (eSS (g, t)) (p.map fun q => (eSS q.1, T.fz (dHs q.2))) with
    | some (.fz v) => some (T.fz v)
    | some _ => none
    | none => if true || T.isFz (.lst []) then some (T.lst []) else none) else none) = _
  rw [if_pos (kOk_T (g := fun b : List Int => T.fz (dHs b)) isKT_SS), kFind_e keyE_SS (g := fun b : List Int => T.fz (dHs b))]
  cases lk (g, t) p <;> rfl
theorem add_sort (o : Option (List Int)) (h : Int) (l : ∀ hs, o = some hs → hs.length ≤ 1000) :
    (binT .add (true, oT o) (true, .lst [.fz (.int h)])).bind (fun t => srtG (true, t)) = some (.lst ((srtE .int (o.getD [] ++ [h])).map fun i => .fz (.int i))) := by
  have ok := srtOk_ints
  cases o with
  | none =>
    have st := srtG_e (e := PyData.int) (b := true) (xs := [h]) (t := .lst [.fz (.int h)]) (by simp) (sizeL_le (by simp)) (ok _)
    simp [oT, sizeL_le, st]
  | some hs =>
    have lh := l hs rfl
    have l1 : hs.length + 1 ≤ sizeL := sizeL_le (by omega)
    have st := srtG_e (e := PyData.int) (b := true) (xs := hs ++ [h]) (t := .lst (hs.map (T.fz ∘ PyData.int) ++ [.fz (.int h)])) (by simp [toDs_append]) (sizeL_le (by simp; omega)) (ok _)
    simp only [oT, dHs, addT_fl, List.length_map, List.length_cons, List.length_nil, Nat.zero_add, l1, if_true, Option.bind_some, List.map_map, st]
    rfl
theorem tP_step (p : Plan) (g t : Str) (h : Int) (l : ∀ hs, lk (g, t) p = some hs → hs.length ≤ 1000) : ∃ Y X, getD2 (tP p) (.tuple [.str g, .str t]) (true, .lst []) = some Y ∧ binT .add (true, Y) (true, .lst [.fz (.int h)]) = some X ∧
    srtG (true, X) = some (.lst ((srtE .int (((lk (g, t) p).getD []) ++ [h])).map fun i => .fz (.int i))) := by
  obtain ⟨X, h1, h2⟩ := Option.bind_eq_some_iff.mp (add_sort (lk (g, t) p) h l)
  exact ⟨_, X, tP_get p g t, h1, h2⟩
theorem ev_oneS (n k : Nat) (t : T) (xs : List Str) (h : OkU (k + 1) t) (l0 : 0 < xs.length) (l1 : xs.length ≤ 100) : ∃ x t', x ∈ xs ∧ OkU k t' ∧ callN tab (n + 3) 22 [t, .fz (dWs xs)] = some (.fz (.str x), [t', .fz (dWs xs)]) := by
  obtain ⟨x, t', mx, hu, e⟩ := ev_one n k t (xs.map .str) h (by simpa using l0) (by simpa using l1)
  obtain ⟨w, mw, rfl⟩ := List.mem_map.mp mx
  exact ⟨w, t', mw, hu, e⟩
theorem ev_t1 (n k : Nat) (gs ts : List Str) (B : Nat) (m : Int) (sp : T) (i : Int) (t0 : T) (M : List ((Str × Str × Int) × Bool)) (p : Plan) (y7 y8 y9 : T) (hu : OkU (k + 3) t0) (g0 : 0 < gs.length) (g1 : gs.length ≤ 100) (t00 : 0 < ts.length) (t1 : ts.length ≤ 100) (m0 : 0 < m) (m1 : m ≤ 100)
    (rp : RawP gs ts B p) (tk : Tak p M) (lB : B ≤ 400) (lM : M.length ≤ 2 * B) :
    ∃ t' M' p' a b c, OkU k t' ∧ RawP gs ts (B + 1) p' ∧ Tak p' M' ∧ M'.length ≤ 2 * (B + 1) ∧ (∀ q ∈ p', ∀ h ∈ q.2, (∃ q0 ∈ p, h ∈ q0.2) ∨ h < m) ∧
      t_law_plan_1 (callN tab (n + 3)) [t0, .fz (dWs gs), .fz (dWs ts), .fz (.int m), sp, tM M, tP p, .fz (.int i), y8, y9] = some (.nx [t', .fz (dWs gs), .fz (dWs ts), .fz (.int m), sp, tM M', tP p', a, b, c]) := by
  obtain ⟨r, u1, r0, r1, hu1, e1⟩ := ev_draw (n + 1) (k + 2) t0 m hu m0 m1
  obtain ⟨g, u2, mg, hu2, e2⟩ := ev_oneS n (k + 1) u1 gs hu1 g0 g1
  obtain ⟨t, u3, mt, hu3, e3⟩ := ev_oneS n k u2 ts hu2 t00 t1
  have lv0 := hu.live
  have lv1 := hu1.live
  have lv2 := hu2.live
  have hA := dM_in M gW g r
  have hB := dM_in M tW t r
  have dM1 := tM_d M
  have hl : ∀ hs, lk (g, t) p = some hs → hs.length ≤ 1000 := fun hs e => by
    have m1 := lk_some e
    have h1 := rp.len
    have h2 : hs.length ≤ (less0 p).length := by
      have : (hs.map fun h => ((h, g, t) : Les)).length ≤ (less0 p).length := nodup_sub (List.Pairwise.map _ (fun a b (z : a ≠ b) e => z (congrArg Prod.fst e)) (rp.hs _ m1).2.1.nodup) (fun x mx => by
        obtain ⟨h, mh, rfl⟩ := List.mem_map.mp mx
        exact less0_mem.mpr ⟨hs, m1, mh⟩)
      simpa using this
    omega
  by_cases cA : (gW, g, r) ∈ M.map (·.1)
  · refine ⟨u3, M, p, .fz (.int i), .fz (.int r), .fz (.tuple [.str g, .str t]), hu3, rp.mono (by omega), tk, by omega, fun q mq h mh => .inl ⟨q, mq, mh⟩, ?_⟩
    rw [decide_eq_true cA] at hA
    unfold t_law_plan_1
    unfold gW at hA
    simp (implicitDefEqProofs := false) [lv0, lv1, lv2, e1, e2, e3, sizeL_le, tM_live, dM1, hA]
  · by_cases cB : (tW, t, r) ∈ M.map (·.1)
    · refine ⟨u3, M, p, .fz (.int i), .fz (.int r), .fz (.tuple [.str g, .str t]), hu3, rp.mono (by omega), tk, by omega, fun q mq h mh => .inl ⟨q, mq, mh⟩, ?_⟩
      rw [decide_eq_false cA] at hA
      rw [decide_eq_true cB] at hB
      unfold t_law_plan_1
      unfold gW at hA
      unfold tW at hB
      simp (implicitDefEqProofs := false) [lv0, lv1, lv2, e1, e2, e3, sizeL_le, tM_live, dM1, hA, hB]
    · have n1 := fun z => cA ((tk.g g r).mpr z)
      have n2 := fun z => cB ((tk.t t r).mpr z)
      refine ⟨u3, put (tW, t, r) true (put (gW, g, r) true M), put (g, t) (srtE .int (((lk (g, t) p).getD []) ++ [r])) p, .fz (.int i), .fz (.int r), .fz (.tuple [.str g, .str t]), hu3, rp.more mg mt r0 n1 n2, tk.more, ?_, ?_, ?_⟩
      · have := put_len (k := (gW, g, r)) (v := true) M
        have := put_len (k := (tW, t, r)) (v := true) (put (gW, g, r) true M)
        omega
      · intro q mq h mh
        rcases put_mem mq with mq | ⟨_, e⟩
        · exact .inl ⟨q, mq, mh⟩
        · rw [e, srtE_mem] at mh
          rcases List.mem_append.mp mh with mh | mh
          · cases eo : lk (g, t) p with
            | none => rw [eo] at mh; cases mh
            | some hs =>
              rw [eo] at mh
              exact .inl ⟨_, lk_some eo, mh⟩
          · rw [List.mem_singleton.mp mh]
            exact .inr r1
      · rw [decide_eq_false cA] at hA
        rw [decide_eq_false cB] at hB
        have lM2 := put_len (k := (gW, g, r)) (v := true) M
        have s1 := tM_put M gW g r (by omega)
        have s2 := tM_put (put (gW, g, r) true M) tW t r (by omega)
        obtain ⟨Y, X, s3, hX, hX2⟩ := tP_step p g t r hl
        have s5 := tP_put p g t (srtE .int (((lk (g, t) p).getD []) ++ [r])) (by have := rp.lenP; omega)
        have lp := tP_live p
        have dp : isDT (tP p) = true := rfl
        unfold t_law_plan_1
        generalize put (gW, g, r) true M = M1 at s1 s2 ⊢
        generalize put (tW, t, r) true M1 = M2 at s2 ⊢
        generalize srtE .int (((lk (g, t) p).getD []) ++ [r]) = H at hX2 s5 ⊢
        unfold gW at hA s1
        unfold tW at hB s2
        simp (implicitDefEqProofs := false) [lv0, lv1, lv2, e1, e2, e3, sizeL_le, tM_live, dM1, hA, hB, s1, s2, lp, dp, s3, hX, hX2, s5]
end K70
end
section
namespace K70
open PySem PySem.Spec PyProof.Rows L2 SW
open PySem.W (dataLt alike keyToks)

theorem ev_plan (n k : Nat) (gs ts : List Str) (m : Int) (S : Nat) (t : T) (hu : OkU (k + 3 * S) t) (hS : S ≤ 400) (g0 : 0 < gs.length) (g1 : gs.length ≤ 100) (t00 : 0 < ts.length) (t1 : ts.length ≤ 100) (m0 : 0 < m) (m1 : m ≤ 100) :
    ∃ p t', RawP gs ts S p ∧ OkU k t' ∧ (∀ q ∈ p, ∀ h ∈ q.2, h < m) ∧ callN tab (n + 4) 25 [t, .fz (dWs gs), .fz (dWs ts), .fz (.int m), .fz (.int S)] = some (.fz (dP p), [t', .fz (dWs gs), .fz (dWs ts), .fz (.int m), .fz (.int S)]) := by
  have := for_ev (f := lRng1 (aRef 4)) (g := .nm 7) (b := t_law_plan_1 (callN tab (n + 3))) (τ := [t, .fz (dWs gs), .fz (dWs ts), .fz (.int m), .fz (.int S), .dct [], .dct [], .gone, .gone, .gone]) (fun i : Int => .fz (.int i)) (cnt S)
    (fun pre τ => ∃ t' M p y7 y8 y9, OkU (k + 3 * (S - pre.length)) t' ∧ RawP gs ts pre.length p ∧ Tak p M ∧ M.length ≤ 2 * pre.length ∧ (∀ q ∈ p, ∀ h ∈ q.2, h < m) ∧ τ = [t', .fz (dWs gs), .fz (dWs ts), .fz (.int m), .fz (.int S), tM M, tP p, y7, y8, y9])
    (τ1 := [t, .fz (dWs gs), .fz (dWs ts), .fz (.int m), .fz (.int S), .dct [], .dct [], .gone, .gone, .gone]) (ts := (cnt S).map fun i => .fz (.int i)) (by
      have h1 := rng_ok S (by omega)
      simp (implicitDefEqProofs := false) [h1, rngL_cnt]) rfl
    ⟨t, [], [], .gone, .gone, .gone, by simpa using hu, ⟨.nil, fun _ m => (by cases m), fun _ m => (by cases m), .nil, .nil, Nat.le_refl _, Nat.le_refl _⟩, fun k => (by simp [less0]), Nat.zero_le _, fun _ m => (by cases m), rfl⟩ (by
      rintro pre x post e τ ⟨t', M, p, y7, y8, y9, hu, rp, tk, lM, hm, rfl⟩
      have lx : pre.length + 1 + post.length = S := by
        have := congrArg List.length e
        rw [cnt_len] at this
        simp at this
        omega
      obtain ⟨t2, M2, p2, a, b, c, hu2, rp2, tk2, lM2, hm2, e2⟩ := ev_t1 n (k + 3 * (S - (pre.length + 1))) gs ts pre.length m (.fz (.int S)) x t' M p y7 y8 y9 (by
        have : k + 3 * (S - (pre.length + 1)) + 3 = k + 3 * (S - pre.length) := by omega
        rw [this]
        exact hu) g0 g1 t00 t1 m0 m1 rp tk (by omega) lM
      refine ⟨_, e2, t2, M2, p2, a, b, c, by simpa using hu2, by simpa using rp2, tk2, by simpa using lM2, fun q mq h mh => ?_, rfl⟩
      rcases hm2 q mq h mh with ⟨q0, m0, mh0⟩ | z
      · exact hm q0 m0 h mh0
      · exact z)
  obtain ⟨τ', e, t', M, p, y7, y8, y9, hu', rp, tk, lM, hm, rfl⟩ := this
  rw [cnt_len] at hu' rp
  refine ⟨p, t', rp, by simpa using hu', hm, ?_⟩
  have dp := tP_d p
  rw [call_law_plan]
  unfold m_law_plan l_law_plan_1
  simp (implicitDefEqProofs := false) [e, dp]
/-- the plan, later -/
theorem late_less0 (sh : Int) (p : Plan) : less0 (late sh p) = (less0 p).map fun x => (x.1 + sh, x.2.1, x.2.2) := by
  unfold late less0
  induction p with
  | nil => rfl
  | cons q p ih =>
    simp only [List.map_cons, List.flatMap_cons, List.map_append, ih, List.map_map]
    rfl
theorem RawP.late {gs ts : List Str} {B : Nat} {p : Plan} (k : RawP gs ts B p) {sh : Int} (h : 0 ≤ sh) : RawP gs ts B (late sh p) := by
  refine ⟨?_, ?_, ?_, ?_, ?_, ?_, ?_⟩
  · unfold K70.late
    rw [List.map_map]
    exact k.keys
  · intro q m
    obtain ⟨r, mr, rfl⟩ := List.mem_map.mp m
    exact k.w1 r mr
  · intro q m
    obtain ⟨r, mr, rfl⟩ := List.mem_map.mp m
    obtain ⟨a1, a2, a3⟩ := k.hs r mr
    refine ⟨by simpa using a1, ?_, fun i mi => ?_⟩
    · unfold Asc at a2 ⊢
      rw [List.pairwise_map]
      refine a2.imp fun {a b} h => ?_
      rw [PySem.W.dataLt_int] at h ⊢
      simp at h ⊢
      omega
    · obtain ⟨j, mj, rfl⟩ := List.mem_map.mp mi
      have := a3 j mj
      omega
  · rw [late_less0, List.map_map]
    have := k.gN
    rw [show ((less0 p).map ((fun x : Les => (x.1, x.2.1)) ∘ fun x => (x.1 + sh, x.2.1, x.2.2))) = ((less0 p).map fun x => (x.1, x.2.1)).map fun y => (y.1 + sh, y.2) by simp [Function.comp_def]]
    refine List.Pairwise.map _ (fun a b z e => z ?_) this
    have e1 := congrArg Prod.fst e
    have e2 := congrArg Prod.snd e
    exact Prod.ext (by simp at e1; omega) e2
  · rw [late_less0, List.map_map]
    have := k.tN
    rw [show ((less0 p).map ((fun x : Les => (x.1, x.2.2)) ∘ fun x => (x.1 + sh, x.2.1, x.2.2))) = ((less0 p).map fun x => (x.1, x.2.2)).map fun y => (y.1 + sh, y.2) by simp [Function.comp_def]]
    refine List.Pairwise.map _ (fun a b z e => z ?_) this
    have e1 := congrArg Prod.fst e
    have e2 := congrArg Prod.snd e
    exact Prod.ext (by simp at e1; omega) e2
  · rw [late_less0, List.length_map]
    exact k.len
  · unfold K70.late
    rw [List.length_map]
    exact k.lenP
theorem RawP.hlen {gs ts : List Str} {B : Nat} {p : Plan} (k : RawP gs ts B p) {q : (Str × Str) × List Int} (m : q ∈ p) : q.2.length ≤ B := by
  have : (q.2.map fun h => ((h, q.1.1, q.1.2) : Les)).length ≤ (less0 p).length := nodup_sub (List.Pairwise.map _ (fun a b (z : a ≠ b) e => z (congrArg Prod.fst e)) (k.hs _ m).2.1.nodup) (fun x mx => by
    obtain ⟨h, mh, rfl⟩ := List.mem_map.mp mx
    exact less0_mem.mpr ⟨q.2, m, mh⟩)
  have := k.len
  simp at *
  omega
theorem RawP.ok {gs ts : List Str} {B : Nat} {p : Plan} (k : RawP gs ts B p) (hB : B ≤ 1000) (hg : ∀ g ∈ gs, g ∈ WS) (ht : ∀ t ∈ ts, t ∈ WS) : OkP p := by
  refine ⟨Nat.le_trans k.len hB, Nat.le_trans k.lenP hB, k.keys, fun q m => ⟨hg _ (k.w1 q m).1, ht _ (k.w1 q m).2⟩, fun q m => ?_, ?_, ?_⟩
  · obtain ⟨a1, a2, a3⟩ := k.hs q m
    exact ⟨a1, a2, a3, Nat.le_trans (k.hlen m) hB⟩
  · exact ((srtE_perm (e := eISS) (xs := less0 p)).map fun x => (x.1, x.2.1)).nodup_iff.mpr k.gN
  · exact ((srtE_perm (e := eISS) (xs := less0 p)).map fun x => (x.1, x.2.2)).nodup_iff.mpr k.tN
theorem RawP.five {gs ts : List Str} {B : Nat} {p : Plan} (k : RawP gs ts B p) (ht : ts.length ≤ 5) (h : Int) : ((less p).filter fun x => decide (x.1 = h)).length ≤ 5 := by
  have pm := (srtE_perm (e := eISS) (xs := less0 p)).filter fun x => decide (x.1 = h)
  rw [show less p = srtE eISS (less0 p) from rfl, pm.length_eq]
  let F := (less0 p).filter fun x => decide (x.1 = h)
  have nd : (F.map fun x => (x.1, x.2.2)).Nodup := List.Sublist.nodup (List.filter_sublist.map _) k.tN
  have e : F.map (fun x => (x.1, x.2.2)) = (F.map (·.2.2)).map fun t => (h, t) := by
    rw [List.map_map]
    refine List.map_congr_left fun y my => ?_
    have := of_decide_eq_true (List.mem_filter.mp my).2
    simp [this]
  rw [e] at nd
  have nd2 : (F.map (·.2.2)).Nodup := (List.pairwise_map.mp nd).imp fun {u v} z e => z (by rw [e])
  have := nodup_sub (l := F.map (·.2.2)) (m := ts) nd2 fun t mt => by
    obtain ⟨y, my, rfl⟩ := List.mem_map.mp mt
    obtain ⟨hs, m1, _⟩ := less0_mem.mp (List.mem_filter.mp my).1
    exact (k.w1 _ m1).2
  rw [List.length_map] at this
  exact Nat.le_trans this ht
end K70
end
section
namespace K70
open PySem PySem.Spec PyProof.Rows L2 SW
open PySem.W (dataLt alike keyToks)

def tA (a : Able) : T := .dct (a.map fun q => (.str q.1, .fz (dWs q.2)))
def tSh (s : Shut) : T := .dct (s.map fun q => (.str q.1, .fz (dHs q.2)))
theorem tA_d (a : Able) : (tA a).toD = some (dA a) := by simp [tA, dA]
theorem tSh_d (s : Shut) : (tSh s).toD = some (dS s) := by simp [tSh, dS]
theorem tA_put (a : Able) (g : Str) (ws : List Str) (l : a.length ≤ 1000) (n : g ∉ a.map (·.1)) : setG (tA a) (.str g) (.fz (.list (ws.map .str))) = some (tA (a ++ [(g, ws)])) := by
  show (if kOk (.str g) (a.map fun q => (PyData.str q.1, T.fz (dWs q.2))) && decide ((a.map fun q => (PyData.str q.1, T.fz (dWs q.2))).length < sizeL) then some (T.dct (kPut (.str g) (.fz (dWs ws)) (a.map fun q => (PyData.str q.1, T.fz (dWs q.2))))) else none) = _
  rw [kOk_K (g := fun b : List Str => T.fz (dWs b)) isK_S, if_pos (by simp; exact sizeL_lt (by omega)), kPut_e keyE_str (g := fun b : List Str => T.fz (dWs b)), put_new n]
  rfl
theorem tSh_put (s : Shut) (g : Str) (ws : List Int) (l : s.length ≤ 1000) (n : g ∉ s.map (·.1)) : setG (tSh s) (.str g) (.fz (.list (ws.map .int))) = some (tSh (s ++ [(g, ws)])) := by
  show (if kOk (.str g) (s.map fun q => (PyData.str q.1, T.fz (dHs q.2))) && decide ((s.map fun q => (PyData.str q.1, T.fz (dHs q.2))).length < sizeL) then some (T.dct (kPut (.str g) (.fz (dHs ws)) (s.map fun q => (PyData.str q.1, T.fz (dHs q.2))))) else none) = _
  rw [kOk_K (g := fun b : List Int => T.fz (dHs b)) isK_S, if_pos (by simp; exact sizeL_lt (by omega)), kPut_e keyE_str (g := fun b : List Int => T.fz (dHs b)), put_new n]
  rfl
theorem cutL_toI {α : Type} (xs : List α) (r : Int) (h : 0 ≤ r) : cutL xs none (some r) = xs.take r.toNat := by
  have := cutL_to xs r.toNat
  rw [show ((r.toNat : Nat) : Int) = r by omega] at this
  exact this
/-- a sorted part of a shuffled row -/
theorem pick_ok {xs ys : List Str} (pm : ys.Perm xs) (nd : xs.Nodup) (j : Nat) : Asc .str (srtE .str (ys.take j)) ∧ (∀ w ∈ srtE .str (ys.take j), w ∈ xs) ∧ (srtE .str (ys.take j)).length ≤ xs.length ∧ (srtE .str (ys.take j)).length ≤ j := by
  refine ⟨srtE_asc inj_str ((List.take_sublist j ys).nodup (pm.nodup_iff.mpr nd)), fun w m => ?_, ?_, ?_⟩
  · rw [srtE_mem] at m
    exact pm.mem_iff.mp ((List.take_sublist j ys).subset m)
  · rw [srtE_len, List.length_take, pm.length_eq]
    omega
  · rw [srtE_len, List.length_take]
    omega
theorem srt_take (ys : List Str) (j : Nat) (l : ys.length ≤ 1000) : srtG (true, .lst ((ys.map (T.fz ∘ PyData.str)).take j)) = some (.lst ((srtE .str (ys.take j)).map fun w => .fz (.str w))) := by
  refine srtG_e (e := PyData.str) (xs := ys.take j) ?_ (sizeL_le (by simp; omega)) (ok_S _)
  rw [← List.map_take]
  exact itsF_lentf
theorem ev_able (n k : Nat) (gs ts0 : List Str) (B : Nat) (p : Plan) (ts : List Str) (t : T) (rp : RawP gs ts0 B p) (lB : B ≤ 100) (nd : ts.Nodup) (lt : ts.length ≤ 50) (hu : OkU (k + 100 * (ts.length + 1)) t) :
    ∃ a t', OkU k t' ∧ (a.map (·.1)).Nodup ∧ (∀ g, g ∈ a.map (·.1) ↔ ∃ q ∈ p, q.1.1 = g) ∧ (∀ q ∈ a, Asc .str q.2 ∧ (∀ w ∈ q.2, w ∈ ts) ∧ q.2.length ≤ ts.length) ∧ a.length ≤ 100 ∧
      callN tab (n + 4) 27 [t, .fz (dP p), .fz (dWs ts)] = some (.fz (dA a), [t', .fz (dP p), .fz (dWs ts)]) := by
  have hc : ∀ t : T, c_law_able_1 (callN tab (n + 3)) [t, .fz (dP p), .fz (dWs ts), .dct [], .gone, .gone] = some (.lst (p.map fun q => .fz (.str q.1.1)), [t, .fz (dP p), .fz (dWs ts), .dct [], .gone, .gone]) := fun t => by
    unfold c_law_able_1
    rw [lc_all (fun q : (Str × Str) × List Int => .fz (eSS q.1)) (fun q => .fz (.str q.1.1)) p (ts := p.map fun q => .fz (eSS q.1)) (τ1 := [t, .fz (dP p), .fz (dWs ts), .dct [], .gone, .gone])]
    · simp
    · simp [dP, Function.comp_def]
    · rfl
    · exact sizeL_le (by have := rp.lenP; omega)
    · intro q mq acc la
      simp [lcTurn, la, eSS]
  let G : List Str := srtE .str (ded (p.map fun q => q.1.1))
  have hs := ssG_strs (b := true) (t := .lst (p.map fun q => .fz (.str q.1.1))) (xs := p.map fun q => q.1.1) (by simp [Function.comp_def]) (scan_lt (by have := rp.lenP; simp; omega))
  have Gnd : G.Nodup := (srtE_perm (e := PyData.str)).nodup_iff.mpr ded_nd
  have Gl : G.length ≤ 100 := by
    show (srtE .str _).length ≤ _
    rw [srtE_len]
    refine Nat.le_trans ded_len ?_
    rw [List.length_map]
    exact Nat.le_trans rp.lenP lB
  have := for_ev (f := lIts (vFz (v1 ssG (asArg (c_law_able_1 (callN tab (n + 3))))))) (g := .nm 4) (b := t_law_able_1 (callN tab (n + 3))) (τ := [t, .fz (dP p), .fz (dWs ts), .dct [], .gone, .gone]) (fun g : Str => .fz (.str g)) G
    (fun pre τ => ∃ t' a y, OkU (k + (100 - pre.length) * (ts.length + 1)) t' ∧ a.map (·.1) = pre ∧ (∀ q ∈ a, Asc .str q.2 ∧ (∀ w ∈ q.2, w ∈ ts) ∧ q.2.length ≤ ts.length) ∧ τ = [t', .fz (dP p), .fz (dWs ts), tA a, y, .gone])
    (τ1 := [t, .fz (dP p), .fz (dWs ts), .dct [], .gone, .gone]) (ts := G.map fun g => .fz (.str g)) (by simp [hc, hs, G, Function.comp_def]) rfl
    ⟨t, [], .gone, by simpa using hu, rfl, fun _ m => (by cases m), rfl⟩ (by
      rintro pre g post e τ ⟨t', a, y, hu, ea, ha, rfl⟩
      have lx : pre.length + 1 + post.length = G.length := by
        have := congrArg List.length e
        simp at this
        omega
      have eu : (100 - pre.length) * (ts.length + 1) = (100 - (pre.length + 1)) * (ts.length + 1) + 1 + ts.length := by
        rw [show 100 - pre.length = (100 - (pre.length + 1)) + 1 by omega, Nat.succ_mul]
        omega
      obtain ⟨ys, u1, pm, hu1, e1⟩ := ev_shuf n (k + (100 - (pre.length + 1)) * (ts.length + 1) + 1) t' ts (by
        rw [eu] at hu
        exact hu.mono (by omega)) lt
      obtain ⟨r, u2, r0, r1, hu2, e2⟩ := ev_draw (n + 1) (k + (100 - (pre.length + 1)) * (ts.length + 1)) u1 (ts.length + 1) hu1 (by omega) (by omega)
      have pk := pick_ok pm nd r.toNat
      have st := srt_take ys r.toNat (by have := pm.length_eq; omega)
      have ng : g ∉ a.map (·.1) := by
        rw [ea]
        rw [← e] at Gnd
        exact fun z => (List.nodup_append.mp Gnd).2.2 g z g List.mem_cons_self rfl
      have la : a.length = pre.length := by rw [← ea, List.length_map]
      have sp := tA_put a g (srtE .str (ys.take r.toNat)) (by omega) ng
      refine ⟨[u2, .fz (dP p), .fz (dWs ts), tA (a ++ [(g, srtE .str (ys.take r.toNat))]), .fz (.str g), .gone], ?_, u2, _, _, by simpa using hu2, by simp [ea], fun q mq => ?_, rfl⟩
      · have l0 := hu.live
        have l1 := hu1.live
        have cu := fun xs : List T => cutL_toI xs r r0
        have ltA : live (tA a) = true := rfl
        have ed : dWs ys = .list (ys.map .str) := rfl
        have el : lenG (false, .fz (dWs ts)) = some (.fz (.int ts.length)) := by
          show some (T.fz (.int ((ts.map PyData.str).length : Nat))) = _
          rw [List.length_map]
        unfold t_law_able_1
        generalize srtE .str (ys.take r.toNat) = Z at st sp ⊢
        simp (implicitDefEqProofs := false) [ltA, l0, l1, e1, e2, ed, el, cu, st, sp]
      · rcases List.mem_append.mp mq with mq | mq
        · exact ha q mq
        · rw [List.mem_singleton.mp mq]
          exact ⟨pk.1, pk.2.1, pk.2.2.1⟩)
  obtain ⟨τ', e, t', a, y, hu', ea, ha, rfl⟩ := this
  have la : a.length ≤ 100 := by
    have := congrArg List.length ea
    rw [List.length_map] at this
    omega
  refine ⟨a, t', hu'.mono (by omega), by rw [ea]; exact Gnd, fun g => ?_, ha, la, ?_⟩
  · rw [ea]
    show g ∈ srtE .str _ ↔ _
    rw [srtE_mem, ded_mem, List.mem_map]
  · have ld := tA_d a
    rw [call_law_able]
    unfold m_law_able l_law_able_1
    simp (implicitDefEqProofs := false) [e, ld]
theorem ev_shutD (n k : Nat) (ts : List Str) (m : Int) (t : T) (nd : ts.Nodup) (lt : ts.length ≤ 50) (m0 : 0 < m) (m1 : m ≤ 100) (hu : OkU (k + 5 * ts.length) t) :
    ∃ s t', OkU k t' ∧ (s.map (·.1)).Nodup ∧ (∀ q ∈ s, q.1 ∈ ts) ∧ (∀ q ∈ s, Asc .int q.2 ∧ (∀ h ∈ q.2, 0 ≤ h ∧ h < m) ∧ q.2.length ≤ 4) ∧ s.length ≤ 50 ∧
      callN tab (n + 4) 28 [t, .fz (dWs ts), .fz (.int m)] = some (.fz (dS s), [t', .fz (dWs ts), .fz (.int m)]) := by
  have := for_ev (f := lIts (vVar 1)) (g := .nm 4) (b := t_law_shut_1 (callN tab (n + 3))) (τ := [t, .fz (dWs ts), .fz (.int m), .dct [], .gone, .gone]) (fun g : Str => .fz (.str g)) ts
    (fun pre τ => ∃ t' s y, OkU (k + 5 * (ts.length - pre.length)) t' ∧ (s.map (·.1)).Sublist pre ∧ (∀ q ∈ s, Asc .int q.2 ∧ (∀ h ∈ q.2, 0 ≤ h ∧ h < m) ∧ q.2.length ≤ 4) ∧ τ = [t', .fz (dWs ts), .fz (.int m), tSh s, y, .gone])
    (τ1 := [t, .fz (dWs ts), .fz (.int m), .dct [], .gone, .gone]) (ts := ts.map fun g => .fz (.str g)) (by simp [dWs, Function.comp_def]) rfl
    ⟨t, [], .gone, by simpa using hu, List.Sublist.refl _, fun _ m => (by cases m), rfl⟩ (by
      rintro pre g post e τ ⟨t', s, y, hu, es, hs, rfl⟩
      have lx : pre.length + 1 + post.length = ts.length := by
        have := congrArg List.length e
        simp at this
        omega
      obtain ⟨r, u1, r0, r1, hu1, e1⟩ := ev_draw (n + 1) (k + 5 * (ts.length - (pre.length + 1)) + 4) t' 3 (by
        have : k + 5 * (ts.length - (pre.length + 1)) + 4 + 1 = k + 5 * (ts.length - pre.length) := by omega
        rw [this]
        exact hu) (by decide) (by decide)
      have l0 := hu.live
      have l1 := hu1.live
      by_cases rz : r = 0
      · subst rz
        obtain ⟨j, u2, j0, j1, hu2, e2⟩ := ev_draw (n + 1) (k + 5 * (ts.length - (pre.length + 1)) + 3) u1 4 hu1 (by decide) (by decide)
        have l2 := hu2.live
        have hr : lRng1 (asArg (vCall (callN tab (n + 3)) 20 2 0 [0, 1] [] (mCons (aRef 0) (mCons (asArg (vCst (.int 4))) mNil)) mNil)) [u1, .fz (dWs ts), .fz (.int m), tSh s, .fz (.str g), .gone] = some ((cnt j.toNat).map fun i => .fz (.int i), [u2, .fz (dWs ts), .fz (.int m), tSh s, .fz (.str g), .gone]) := by
          have ro := rng_ok j.toNat (by omega)
          rw [show ((j.toNat : Nat) : Int) = j by omega] at ro
          simp (implicitDefEqProofs := false) [l1, e2, ro, rngL_cnt]
        have := lcs_go (vs := [5]) (g := .nm 5) (b := bTrue) (z := vCall (callN tab (n + 3)) 20 2 0 [0, 1] [] (mCons (aRef 0) (mCons (asArg (vVar 2)) mNil)) mNil) (fun i : Int => .fz (.int i)) (fun t => ∃ h : Int, (0 ≤ h ∧ h < m) ∧ t = .fz (.int h))
          (fun j τ => ∃ u, OkU (k + 5 * (ts.length - (pre.length + 1)) + j) u ∧ τ = [u, .fz (dWs ts), .fz (.int m), tSh s, .fz (.str g), .gone]) (cnt j.toNat) [] [u2, .fz (dWs ts), .fz (.int m), tSh s, .fz (.str g), .gone]
          (sizeL_le (by rw [cnt_len]; simp; omega)) ⟨u2, hu2.mono (by rw [cnt_len]; omega), rfl⟩ (fun t m => by cases m) (by
            rintro i mi j τ ⟨u, hu, rfl⟩ acc la
            obtain ⟨h, u', h0, h1, hu', e3⟩ := ev_draw (n + 1) (k + 5 * (ts.length - (pre.length + 1)) + j) u m hu m0 m1
            have lu := hu.live
            exact ⟨.fz (.int h), _, ⟨h, ⟨h0, h1⟩, rfl⟩, ⟨u', hu', rfl⟩, by simp (implicitDefEqProofs := false) [lcTurn, lu, e3, la]⟩)
        obtain ⟨out, τ3, e3, ⟨u3, hu3, rfl⟩, ho, lo⟩ := this
        obtain ⟨xs, hxs, hx0⟩ : ∃ xs : List Int, out = xs.map (fun i => T.fz (.int i)) ∧ ∀ i ∈ xs, 0 ≤ i ∧ i < m := by
          clear e3 lo
          induction out with
          | nil => exact ⟨[], rfl, fun _ m => by cases m⟩
          | cons t out ih =>
            obtain ⟨xs, e1, e2⟩ := ih fun t m => ho t (List.mem_cons_of_mem _ m)
            obtain ⟨h, h0, rfl⟩ := ho t List.mem_cons_self
            exact ⟨h :: xs, by rw [e1]; rfl, fun i mi => by
              rcases List.mem_cons.mp mi with rfl | mi
              · exact h0
              · exact e2 i mi⟩
        subst hxs
        have lxs : xs.length ≤ 3 := by
          rw [List.length_map, cnt_len] at lo
          simp at lo
          omega
        have hss := ssG_ints (b := true) (t := .lst (xs.map fun i => .fz (.int i))) (xs := xs) (by simp) (scan_lt (by omega))
        have hcomp : c_law_shut_1 (callN tab (n + 3)) [u1, .fz (dWs ts), .fz (.int m), tSh s, .fz (.str g), .gone] = some (.lst (xs.map fun i => .fz (.int i)), [u3, .fz (dWs ts), .fz (.int m), tSh s, .fz (.str g), .gone]) := by
          unfold c_law_shut_1 vLc
          rw [hr, Option.bind_some]
          have ef : fresh [u2, .fz (dWs ts), .fz (.int m), tSh s, .fz (.str g), .gone] [5] = [u2, .fz (dWs ts), .fz (.int m), tSh s, .fz (.str g), .gone] := rfl
          show (eachT _ _ ([], fresh _ [5])).map _ = _
          rw [ef, e3]
          rfl
        have ng : g ∉ s.map (·.1) := fun z => by
          have z2 := es.subset z
          rw [← e] at nd
          exact (List.nodup_append.mp nd).2.2 g z2 g List.mem_cons_self rfl
        have ls : s.length ≤ pre.length := by
          have := es.length_le
          rwa [List.length_map] at this
        have sp := tSh_put s g (srtE .int (ded xs)) (by omega) ng
        refine ⟨[u3, .fz (dWs ts), .fz (.int m), tSh (s ++ [(g, srtE .int (ded xs))]), .fz (.str g), .gone], ?_, u3, _, _, hu3.mono (by simp), by
          rw [List.map_append]
          exact es.append (List.Sublist.refl _), fun q mq => ?_, rfl⟩
        · have ltS : live (tSh s) = true := rfl
          unfold t_law_shut_1
          generalize srtE .int (ded xs) = Z at hss sp ⊢
          simp (implicitDefEqProofs := false) [l0, e1, hcomp, hss, ltS, sp]
        · rcases List.mem_append.mp mq with mq | mq
          · exact hs q mq
          · rw [List.mem_singleton.mp mq]
            refine ⟨srtE_asc inj_int ded_nd, fun i mi => ?_, ?_⟩
            · exact hx0 i (ded_mem.mp (srtE_mem.mp mi))
            · show (srtE .int (ded xs)).length ≤ 4
              rw [srtE_len]
              exact Nat.le_trans ded_len (by omega)
      · refine ⟨[u1, .fz (dWs ts), .fz (.int m), tSh s, .fz (.str g), .gone], ?_, u1, s, _, hu1.mono (by simp), es.trans (List.sublist_append_left _ _), hs, rfl⟩
        unfold t_law_shut_1
        simp (implicitDefEqProofs := false) [l0, e1, rz])
  obtain ⟨τ', e, t', s, y, hu', es, hs, rfl⟩ := this
  have ls : s.length ≤ 50 := by
    have := es.length_le
    rw [List.length_map] at this
    omega
  refine ⟨s, t', hu'.mono (by omega), es.nodup nd, fun q mq => es.subset (List.mem_map_of_mem (f := (·.1)) mq), hs, ls, ?_⟩
  have ld := tSh_d s
  rw [call_law_shut]
  unfold m_law_shut l_law_shut_1
  simp (implicitDefEqProofs := false) [e, ld]
end K70
end
section
namespace K70
open PySem PySem.Spec PyProof.Rows L2 SW
open PySem.W (dataLt alike keyToks)

/-! ### dicts turned around -/
theorem lk_perm {κ β : Type} [DecidableEq κ] {xs ys : List (κ × β)} (pm : xs.Perm ys) (nd : (xs.map (·.1)).Nodup) (k : κ) : lk k xs = lk k ys := by
  have nd2 := (pm.map (·.1)).nodup_iff.mp nd
  cases h : lk k xs with
  | some v => exact (lk_mem nd2 (pm.mem_iff.mp (lk_some h))).symm
  | none =>
    cases h2 : lk k ys with
    | none => rfl
    | some v =>
      rw [lk_mem nd (pm.mem_iff.mpr (lk_some h2))] at h
      cases h
theorem rev_nd {κ β : Type} {xs : List (κ × β)} (nd : (xs.map (·.1)).Nodup) : (xs.reverse.map (·.1)).Nodup := by
  have pm := (List.reverse_perm xs).map fun q : κ × β => q.1
  exact pm.nodup_iff.mpr nd
theorem less0_perm {p q : Plan} (pm : p.Perm q) : (less0 p).Perm (less0 q) := List.Perm.flatMap_right _ pm
theorem less_rev (p : Plan) : less p.reverse = less p := srtE_same inj_ISS (less0_perm (List.reverse_perm p))
theorem fr_rev {p : Plan} {a : Able} {s : Shut} (ka : OkA p a) (ks : OkS s) (x : Les) : fr p.reverse a.reverse s.reverse x = fr p a s x := by
  unfold fr
  rw [less_rev, lk_perm (List.reverse_perm a) (rev_nd ka.keys)]
  refine List.filter_congr fun w _ => ?_
  rw [lk_perm (List.reverse_perm s) (rev_nd ks.keys)]
theorem OkP.rev {p : Plan} (k : OkP p) : OkP p.reverse := by
  refine ⟨by rw [(less0_perm (List.reverse_perm p)).length_eq]; exact k.len, by simpa using k.lenP, rev_nd k.keys, fun q m => k.w1 q (by simpa using m), fun q m => k.hs q (by simpa using m), ?_, ?_⟩
  · rw [less_rev]; exact k.gs
  · rw [less_rev]; exact k.ts
theorem OkA.rev {p : Plan} {a : Able} (k : OkA p a) : OkA p.reverse a.reverse := by
  refine ⟨by simpa using k.len, rev_nd k.keys, fun g => ?_, fun q m => k.ws q (by simpa using m)⟩
  rw [((List.reverse_perm a).map fun q : Str × List Str => q.1).mem_iff, k.gs]
  simp
theorem OkS.rev {s : Shut} (k : OkS s) : OkS s.reverse :=
  ⟨by simpa using k.len, rev_nd k.keys, fun q m => k.ws q (by simpa using m), fun q m => k.hs q (by simpa using m)⟩
theorem byd_rev {p : Plan} {a : Able} {s : Shut} (ka : OkA p a) (ks : OkS s) : byd p.reverse a.reverse s.reverse = byd p a s := by
  have e := fun x => fr_rev (p := p) ka ks x
  unfold byd due lens
  simp only [less_rev, e]
theorem byd_due {p : Plan} {a : Able} {s : Shut} : (byd p a s = none ↔ due p a s = none) := by
  constructor
  · intro h
    cases hd : due p a s with
    | none => rfl
    | some m =>
      obtain ⟨_, h2⟩ := leastI_spec hd
      obtain ⟨x, mx, ex⟩ := List.mem_map.mp h2
      unfold byd at h
      rw [List.findSome?_eq_none_iff] at h
      have := h x mx
      rw [hd, ex] at this
      simp at this
  · intro h
    unfold byd
    rw [List.findSome?_eq_none_iff]
    intro x mx
    rw [h]
    simp
theorem byd_some {p : Plan} {a : Able} {s : Shut} {ws : List Str} (h : byd p a s = some ws) : ∃ x ∈ less p, due p a s = some ((fr p a s x).length : Int) ∧ ws = srtE .str (x.2.2 :: fr p a s x) := by
  obtain ⟨x, mx, e⟩ := List.exists_of_findSome?_eq_some h
  split at e
  · rename_i hd
    cases e
    exact ⟨x, mx, hd, rfl⟩
  · cases e
/-! ### exactness of what is told -/
theorem ex_strs (ws : List Str) (l : ws.length ≤ 1000) (k : Nat) : exOk (k + 1) (dWs ws) = true := by
  show (decide ((ws.map PyData.str).length ≤ 1000) && (ws.map PyData.str).all (exOk k)) = true
  rw [Bool.and_eq_true]
  refine ⟨by simpa using l, ?_⟩
  rw [List.all_eq_true]
  intro d m
  obtain ⟨w, _, rfl⟩ := List.mem_map.mp m
  cases k <;> rfl
theorem ex_list {α : Type} {e : α → PyData} {k : Nat} (xs : List α) (l : xs.length ≤ 1000) (h : ∀ x ∈ xs, exOk k (e x) = true) : exOk (k + 1) (.list (xs.map e)) = true := by
  show (decide ((xs.map e).length ≤ 1000) && (xs.map e).all (exOk k)) = true
  rw [Bool.and_eq_true]
  refine ⟨by simpa using l, ?_⟩
  rw [List.all_eq_true]
  intro d m
  obtain ⟨w, mw, rfl⟩ := List.mem_map.mp m
  exact h w mw
theorem ex_weak (xs : List (Int × Str)) (l : xs.length ≤ 1000) : exOk 2 (.list (xs.map eIS)) = true := ex_list xs l fun x _ => rfl
theorem ex_opt (k : Nat) (o : Option Int) : exOk k (optD o) = true := by
  cases o <;> cases k <;> rfl
theorem ex_C (c : Cl) (l : c.2.2.length ≤ 1000) : exOk 2 (eC c) = true := by
  have := ex_strs c.2.2 l 0
  show (decide ([PyData.int c.1, .str c.2.1, dWs c.2.2].length ≤ 1000) && [PyData.int c.1, .str c.2.1, dWs c.2.2].all (exOk 1)) = true
  simp [exOk, this]
/-- roots seen as frozen -/
@[simp] theorem vw_fz (d : PyData) : (T.fz d).vw = .fz d := by simp [T.vw, T.calm]
@[simp] theorem vw_gone : T.gone.vw = .gone := rfl
theorem calms_all {ts : List T} (h : ∀ t ∈ ts, t.calm = true) : calms ts = true := by
  induction ts with
  | nil => rfl
  | cons t ts ih =>
    unfold calms
    rw [h t List.mem_cons_self, ih fun u m => h u (List.mem_cons_of_mem _ m)]
    rfl
theorem vw_of {t : T} {d : PyData} (c : t.calm = true) (e : t.toD = some d) : t.vw = .fz d := by
  unfold T.vw
  rw [if_pos c, e]
@[simp] theorem vPure_e {f : VF} {τ : Ta} : vPure f τ = (f (τ.map T.vw)).bind fun p => if atomT p.1 then some (p.1, τ) else none := rfl
@[simp] theorem atom_b {b : Bool} : atomT (.fz (.bool b)) = true := rfl
end K70
end
section
namespace K70
open PySem PySem.Spec PyProof.Rows L2 SW
open PySem.W (dataLt alike keyToks)

def dK (p : Plan) (a : Able) (s : Shut) : PyData := .list ((weak p a s).map eIS)
section
variable (n : Nat) (p : Plan) (a : Able) (s : Shut) (kp : OkP p) (ka : OkA p a) (ks : OkS s)
include kp ka
theorem st16 (Z : T) : s_law_safe_right_16 (callN tab (n + 7)) [.fz (dP p), .fz (dA a), .fz (dS s), Z, .gone, .gone, .gone, .gone, .gone, .gone, .gone, .gone, .gone, .gone] = some (.nx [.fz (dP p), .fz (dA a), .fz (dS s), Z, .fz (dF p a s), .gone, .gone, .gone, .gone, .gone, .gone, .gone, .gone, .gone]) := by
  have lenL := kp.lenL
  have hc : c_law_safe_right_3 (callN tab (n + 7)) [.fz (dP p), .fz (dA a), .fz (dS s), Z, .gone, .gone, .gone, .gone, .gone, .gone, .gone, .gone, .gone, .gone] = some (.lst ((less p).map fun x => .fz (.tuple [eISS x, dWs (fr p a s x)])), [.fz (dP p), .fz (dA a), .fz (dS s), Z, .gone, .gone, .gone, .gone, .gone, .gone, .gone, .gone, .gone, .gone]) := by
    unfold c_law_safe_right_3
    rw [lc_all (fun x : Les => .fz (eISS x)) (fun x => .fz (.tuple [eISS x, dWs (fr p a s x)])) (less p) (ts := (less p).map fun x => .fz (eISS x)) (τ1 := [.fz (dP p), .fz (dA a), .fz (dS s), Z, .gone, .gone, .gone, .gone, .gone, .gone, .gone, .gone, .gone, .gone])]
    · simp
    · have e := ev_llessons (n + 6) p kp
      simp [e, Function.comp_def]
    · rfl
    · exact sizeL_le (by omega)
    · intro x mx acc la
      have e := ev_lfree (n + 5) p a s kp ka x mx
      unfold eISS
      simp [lcTurn, e, la, sizeL_le]
  have nd : (((less p).map fun x => (x, fr p a s x)).map (·.1)).Nodup := by
    rw [List.map_map]
    show ((less p).map fun x => x).Nodup
    rw [List.map_id']
    exact less_nd kp
  have dp := dictPG_e (f := eISS) (g := dWs) keyE_ISS (fun k m => kOk_T (g := fun b => T.fz (dWs b)) isKT_ISS) nd (sizeL_le (by simp; omega)) (ts := (less p).map fun x => .fz (.tuple [eISS x, dWs (fr p a s x)])) (by rw [List.map_map]; rfl)
  unfold s_law_safe_right_16
  simp [hc, dp, dF, Function.comp_def]
theorem dF_find {x : Les} (mx : x ∈ less p) : kFind (eISS x) ((less p).map fun x => (eISS x, dWs (fr p a s x))) = some (dWs (fr p a s x)) ∧ kOk (eISS x) ((less p).map fun x => (eISS x, dWs (fr p a s x))) = true := by
  have e : ((less p).map fun x => (eISS x, dWs (fr p a s x))) = ((less p).map fun x => (x, dWs (fr p a s x))).map fun q => (eISS q.1, q.2) := by simp [Function.comp_def]
  have nd : (((less p).map fun x => (x, dWs (fr p a s x))).map (·.1)).Nodup := by
    rw [List.map_map]
    show ((less p).map fun x => x).Nodup
    rw [List.map_id']
    exact less_nd kp
  rw [e]
  constructor
  · rw [kFind_e keyE_ISS (g := fun d => d), lk_mem nd (List.mem_map.mpr ⟨x, mx, rfl⟩)]
    rfl
  · exact kOk_T (g := fun d => d) isKT_ISS
theorem dF_nil : eqD (dF p a s) (.dict []) = some (less p).isEmpty := by
  show (if (((less p).map fun x => (eISS x, dWs (fr p a s x))).isEmpty || ([] : List (PyData × PyData)).isEmpty) && oneKind ((less p).map fun x => (eISS x, dWs (fr p a s x))) && oneKind ([] : List (PyData × PyData)) then some (((less p).map fun x => (eISS x, dWs (fr p a s x))).isEmpty && ([] : List (PyData × PyData)).isEmpty) else none) = _
  have : oneKind ((less p).map fun x => (eISS x, dWs (fr p a s x))) = true := by
    unfold oneKind
    simp [isKT_ISS]
  rw [this]
  cases less p <;> rfl
theorem st15 (Z : T) : s_law_safe_right_15 (callN tab (n + 7)) [.fz (dP p), .fz (dA a), .fz (dS s), Z, .fz (dF p a s), .gone, .gone, .gone, .gone, .gone, .gone, .gone, .gone, .gone] = some (.nx [.fz (dP p), .fz (dA a), .fz (dS s), Z, .fz (dF p a s), .fz (optD (due p a s)), .gone, .gone, .gone, .gone, .gone, .gone, .gone, .gone]) := by
  have lenL := kp.lenL
  have hc : c_law_safe_right_2 (callN tab (n + 7)) [.fz (dP p), .fz (dA a), .fz (dS s), Z, .fz (dF p a s), .gone, .gone, .gone, .gone, .gone, .gone, .gone, .gone, .gone] = some (.lst ((less p).map fun x => .fz (.int (fr p a s x).length)), [.fz (dP p), .fz (dA a), .fz (dS s), Z, .fz (dF p a s), .gone, .gone, .gone, .gone, .gone, .gone, .gone, .gone, .gone]) := by
    unfold c_law_safe_right_2
    rw [lc_all (fun x : Les => .fz (eISS x)) (fun x => .fz (.int (fr p a s x).length)) (less p) (ts := (less p).map fun x => .fz (eISS x)) (τ1 := [.fz (dP p), .fz (dA a), .fz (dS s), Z, .fz (dF p a s), .gone, .gone, .gone, .gone, .gone, .gone, .gone, .gone, .gone])]
    · simp
    · simp [dF, Function.comp_def]
    · rfl
    · exact sizeL_le (by omega)
    · intro x mx acc la
      obtain ⟨f, ok⟩ := dF_find p a s kp ka mx
      simp [lcTurn, dF, f, ok, la]
      simp [dWs, la]
  have dn := dF_nil p a s kp ka
  unfold s_law_safe_right_15
  cases hl : less p with
  | nil =>
    rw [hl] at dn
    have d0 : due p a s = none := by unfold due lens; rw [hl]; rfl
    simp [dn, d0, optD]
  | cons x xs =>
    rw [hl] at dn hc
    have em := minLG_e (f := fun x : Les => ((fr p a s x).length : Int)) (x := x) (xs := xs)
    have d1 : due p a s = leastI ((x :: xs).map fun x => ((fr p a s x).length : Int)) := by unfold due lens; rw [hl]
    rw [← d1] at em
    simp (implicitDefEqProofs := false) only [sAsg_e, vIte_e, asTst_e, asArg_e, v2_e, aRef_e, gT_s, gT_z, live_fz, if_true, Option.bind_some, Option.map_some, vD0_e, ag_sl, ag_tm, cmpT_e, toD_fz, toD_dct, toKs_nil, cmpD_ne, dn, truT_b, v1_e, hc, em, putG_nm]
    simp
theorem st14 (Z : T) : s_law_safe_right_14 (callN tab (n + 7)) [.fz (dP p), .fz (dA a), .fz (dS s), Z, .fz (dF p a s), .fz (optD (due p a s)), .gone, .gone, .gone, .gone, .gone, .gone, .gone, .gone] = some (.nx [.fz (dP p), .fz (dA a), .fz (dS s), Z, .fz (dF p a s), .fz (optD (due p a s)), .fz (dK p a s), .gone, .gone, .gone, .gone, .gone, .gone, .gone]) := by
  have lenL := kp.lenL
  have hc : c_law_safe_right_1 (callN tab (n + 7)) [.fz (dP p), .fz (dA a), .fz (dS s), Z, .fz (dF p a s), .fz (optD (due p a s)), .gone, .gone, .gone, .gone, .gone, .gone, .gone, .gone] = some (.lst ((weak0 p a s).map fun x => .fz (eIS x)), [.fz (dP p), .fz (dA a), .fz (dS s), Z, .fz (dF p a s), .fz (optD (due p a s)), .gone, .gone, .gone, .gone, .gone, .gone, .gone, .gone]) := by
    unfold c_law_safe_right_1
    rw [lc_ev (fun x : Les => .fz (eISS x)) (fun x => .fz (eIS (x.1, x.2.1))) (fun x => decide (due p a s = some ((fr p a s x).length : Int))) (less p) (ts := (less p).map fun x => .fz (eISS x)) (τ1 := [.fz (dP p), .fz (dA a), .fz (dS s), Z, .fz (dF p a s), .fz (optD (due p a s)), .gone, .gone, .gone, .gone, .gone, .gone, .gone, .gone])]
    · simp [weak0, Function.comp_def]
    · simp [dF, Function.comp_def]
    · rfl
    · exact sizeL_le (by omega)
    · intro x mx acc la
      obtain ⟨f, ok⟩ := dF_find p a s kp ka mx
      have lf : lenG (true, .fz (dWs (fr p a s x))) = some (.fz (.int (fr p a s x).length)) := by
        show some (T.fz (.int (((fr p a s x).map PyData.str).length : Nat))) = _
        rw [List.length_map]
      unfold eISS eIS
      unfold eISS at f ok
      by_cases c : due p a s = some ((fr p a s x).length : Int)
      · simp [lcTurn, dF, eISS, f, ok, la, lf, c]
      · simp [lcTurn, dF, eISS, f, ok, la, lf, c]
  have st := srtG_e (e := eIS) (b := true) (xs := weak0 p a s) (t := .lst ((weak0 p a s).map fun x => .fz (eIS x))) (by simp) (sizeL_le (by have := weak_len (p := p) (a := a) (s := s); omega)) (ok_IS _)
  unfold s_law_safe_right_14
  simp [hc, st, weak, dK]
include ks
theorem st13 (Z : T) : s_law_safe_right_13 (callN tab (n + 7)) [.fz (dP p), .fz (dA a), .fz (dS s), Z, .fz (dF p a s), .fz (optD (due p a s)), .fz (dK p a s), .gone, .gone, .gone, .gone, .gone, .gone, .gone] =
    some (.nx [.fz (dP p), .fz (dA a), .fz (dS s), Z, .fz (dF p a s), .fz (optD (due p a s)), .fz (dK p a s), .lst [.fz (optD (due p a s)), .lst ((weak p a s).map fun x => .fz (eIS x))], .fz (bydD (byd p a s)), .gone, .gone, .gone, .gone, .gone]) := by
  have e1 := ev_safe (n + 1) p a s kp ka ks
  have e2 := ev_weak n p a s kp ka ks
  have e3 := ev_byd n p a s kp ka ks
  unfold s_law_safe_right_13
  simp [e1, e2, e3, sizeL_le]
theorem weak_le : (weak p a s).length ≤ 1000 := by
  unfold weak
  rw [srtE_len]
  exact Nat.le_trans weak_len kp.lenL
theorem ex_two : callN tab (n + 7) 24 [.fz (.list [optD (due p a s), dK p a s]), .fz (.list [optD (due p a s), dK p a s])] = some (.fz (.bool true), [.fz (.list [optD (due p a s), dK p a s]), .fz (.list [optD (due p a s), dK p a s])]) := by
  refine ev_exact 3 _ ?_ (n + 3)
  have h1 := ex_weak (weak p a s) (weak_le p a s kp ka ks)
  have h2 := ex_opt 2 (due p a s)
  show (decide ([optD (due p a s), dK p a s].length ≤ 1000) && [optD (due p a s), dK p a s].all (exOk 2)) = true
  simp [h2, dK, h1]
theorem st12 (Z : T) (hZ : Z.vw = Z) : s_law_safe_right_12 (callN tab (n + 7)) [.fz (dP p), .fz (dA a), .fz (dS s), Z, .fz (dF p a s), .fz (optD (due p a s)), .fz (dK p a s), .lst [.fz (optD (due p a s)), .lst ((weak p a s).map fun x => .fz (eIS x))], .fz (bydD (byd p a s)), .gone, .gone, .gone, .gone, .gone] =
    some (.nx [.fz (dP p), .fz (dA a), .fz (dS s), Z, .fz (dF p a s), .fz (optD (due p a s)), .fz (dK p a s), .lst [.fz (optD (due p a s)), .lst ((weak p a s).map fun x => .fz (eIS x))], .fz (bydD (byd p a s)), .gone, .gone, .gone, .gone, .gone]) := by
  have e := ex_two n p a s kp ka ks
  have cl : calms ((weak p a s).map fun x => T.fz (eIS x)) = true := calms_all fun t m => by
    obtain ⟨x, _, rfl⟩ := List.mem_map.mp m
    rfl
  have tv : (T.lst [.fz (optD (due p a s)), .lst ((weak p a s).map fun x => .fz (eIS x))]).vw = .fz (.list [optD (due p a s), dK p a s]) := by
    refine vw_of ?_ ?_
    · show (true && (calms ((weak p a s).map fun x => T.fz (eIS x)) && true)) = true
      rw [cl]; rfl
    · simp [toDs_c, dK]
  unfold s_law_safe_right_12
  simp [hZ, tv, e, sizeL_le]
theorem st11 (Z T1 : T) : s_law_safe_right_11 (callN tab (n + 7)) [.fz (dP p), .fz (dA a), .fz (dS s), Z, .fz (dF p a s), .fz (optD (due p a s)), .fz (dK p a s), T1, .fz (bydD (byd p a s)), .gone, .gone, .gone, .gone, .gone] =
    some (.nx [.fz (dP p), .fz (dA a), .fz (dS s), Z, .fz (dF p a s), .fz (optD (due p a s)), .fz (dK p a s), T1, .fz (bydD (byd p a s)), .fz (.list [optD (due p a s), dK p a s]), .gone, .gone, .gone, .gone]) := by
  have e1 := ev_safe (n + 1) p a s kp ka ks
  have e2 := ev_weak n p a s kp ka ks
  unfold s_law_safe_right_11
  simp [e1, e2, dK, sizeL_le, List.idxOf, List.findIdx, List.findIdx.go, Function.comp_def]
theorem none_iff : isNone (bydD (byd p a s)) = isNone (optD (due p a s)) := by
  have := byd_due (p := p) (a := a) (s := s)
  cases h1 : byd p a s with
  | none =>
    rw [this.mp h1]
    rfl
  | some ws =>
    cases h2 : due p a s with
    | none =>
      rw [this.mpr h2] at h1
      cases h1
    | some m => rfl
theorem st10 (Z T1 : T) : s_law_safe_right_10 (callN tab (n + 7)) [.fz (dP p), .fz (dA a), .fz (dS s), Z, .fz (dF p a s), .fz (optD (due p a s)), .fz (dK p a s), T1, .fz (bydD (byd p a s)), .fz (.list [optD (due p a s), dK p a s]), .gone, .gone, .gone, .gone] =
    some (.nx [.fz (dP p), .fz (dA a), .fz (dS s), Z, .fz (dF p a s), .fz (optD (due p a s)), .fz (dK p a s), T1, .fz (bydD (byd p a s)), .fz (.list [optD (due p a s), dK p a s]), .gone, .gone, .gone, .gone]) := by
  have e := ex_two n p a s kp ka ks
  have ni := none_iff p a s kp ka ks
  unfold s_law_safe_right_10
  simp [e, ni, sizeL_le]
end
end K70
end
section
namespace K70
open PySem PySem.Spec PyProof.Rows L2 SW
open PySem.W (dataLt alike keyToks)

theorem rev_dA {a : Able} (nd : (a.map (·.1)).Nodup) (l : a.length ≤ 1000) : dictPG (true, .lst (itT (a.map fun q => (PyData.str q.1, dWs q.2))).reverse) = some (tA a.reverse) :=
  dictPG_e (f := PyData.str) (g := dWs) keyE_str (fun k m => kOk_K (g := fun b => T.fz (dWs b)) isK_S) (rev_nd nd) (sizeL_le (by simp; omega)) (by unfold itT; rw [List.map_map, ← List.map_reverse]; rfl)
theorem rev_dS {a : Shut} (nd : (a.map (·.1)).Nodup) (l : a.length ≤ 1000) : dictPG (true, .lst (itT (a.map fun q => (PyData.str q.1, dHs q.2))).reverse) = some (tSh a.reverse) :=
  dictPG_e (f := PyData.str) (g := dHs) keyE_str (fun k m => kOk_K (g := fun b => T.fz (dHs b)) isK_S) (rev_nd nd) (sizeL_le (by simp; omega)) (by unfold itT; rw [List.map_map, ← List.map_reverse]; rfl)
theorem rev_dP {a : Plan} (nd : (a.map (·.1)).Nodup) (l : a.length ≤ 1000) : dictPG (true, .lst (itT (a.map fun q => (eSS q.1, dHs q.2))).reverse) = some (tP a.reverse) :=
  dictPG_e (f := eSS) (g := dHs) keyE_SS (fun k m => kOk_T (g := fun b => T.fz (dHs b)) isKT_SS) (rev_nd nd) (sizeL_le (by simp; omega)) (by unfold itT; rw [List.map_map, ← List.map_reverse]; rfl)
theorem eqvAll_strs : ∀ ws : List Str, PyData.eqvAll (ws.map .str) (ws.map .str) = true
  | [] => by simp [PyData.eqvAll]
  | w :: ws => by simp [PyData.eqvAll, PyData.eqv, eqvAll_strs ws]
theorem eqD_strs (ws : List Str) : eqD (dWs ws) (dWs ws) = some true := by
  have ok : okD (dWs ws) = true := okD_map (e := PyData.str) ws (fun a => by simp [PyData.plain]) (fun a => by simp [PyData.depth])
  show (if okD (dWs ws) && okD (dWs ws) then some (PyData.eqv (dWs ws) (dWs ws)) else none) = _
  rw [ok]
  simp [dWs, PyData.eqv, eqvAll_strs]
section
variable (n : Nat) (p : Plan) (a : Able) (s : Shut) (kp : OkP p) (ka : OkA p a) (ks : OkS s) (sm : Sml p a)
include kp ka ks
theorem st9 (Z T1 X : T) : s_law_safe_right_9 (callN tab (n + 7)) [.fz (dP p), .fz (dA a), .fz (dS s), Z, .fz (dF p a s), .fz (optD (due p a s)), .fz (dK p a s), T1, .fz (bydD (byd p a s)), X, .gone, .gone, .gone, .gone] =
    some (.nx [.fz (dP p), .fz (dA a), .fz (dS s), Z, .fz (dF p a s), .fz (optD (due p a s)), .fz (dK p a s), T1, .fz (bydD (byd p a s)), X, .fz (dA a.reverse), .gone, .gone, .gone]) := by
  have e := rev_dA ka.keys ka.len
  have l : a.length ≤ sizeL := sizeL_le (by have := ka.len; omega)
  have d : dKvs (.fz (dA a)) = some (a.map fun q => (PyData.str q.1, dWs q.2)) := dKvs_fz
  have et := tA_d a.reverse
  unfold s_law_safe_right_9
  simp [d, l, e, et]
theorem st8 (Z T1 X : T) : s_law_safe_right_8 (callN tab (n + 7)) [.fz (dP p), .fz (dA a), .fz (dS s), Z, .fz (dF p a s), .fz (optD (due p a s)), .fz (dK p a s), T1, .fz (bydD (byd p a s)), X, .fz (dA a.reverse), .gone, .gone, .gone] =
    some (.nx [.fz (dP p), .fz (dA a), .fz (dS s), Z, .fz (dF p a s), .fz (optD (due p a s)), .fz (dK p a s), T1, .fz (bydD (byd p a s)), X, .fz (dA a.reverse), .fz (dS s.reverse), .gone, .gone]) := by
  have e := rev_dS ks.keys ks.len
  have l : s.length ≤ sizeL := sizeL_le (by have := ks.len; omega)
  have d : dKvs (.fz (dS s)) = some (s.map fun q => (PyData.str q.1, dHs q.2)) := dKvs_fz
  have et := tSh_d s.reverse
  unfold s_law_safe_right_8
  simp [d, l, e, et]
include sm
theorem ex_byd : callN tab (n + 7) 24 [.fz (bydD (byd p a s)), .fz (bydD (byd p a s))] = some (.fz (.bool true), [.fz (bydD (byd p a s)), .fz (bydD (byd p a s))]) := by
  refine ev_exact 1 _ ?_ (n + 5)
  cases h : byd p a s with
  | none => rfl
  | some ws =>
    obtain ⟨x, mx, _, rfl⟩ := byd_some h
    refine ex_strs _ ?_ 0
    rw [srtE_len, List.length_cons]
    have := fr_six (s := s) (x := x) sm
    omega
theorem st7 (Z T1 X : T) : s_law_safe_right_7 (callN tab (n + 7)) [.fz (dP p), .fz (dA a), .fz (dS s), Z, .fz (dF p a s), .fz (optD (due p a s)), .fz (dK p a s), T1, .fz (bydD (byd p a s)), X, .fz (dA a.reverse), .fz (dS s.reverse), .gone, .gone] =
    some (.nx [.fz (dP p), .fz (dA a), .fz (dS s), Z, .fz (dF p a s), .fz (optD (due p a s)), .fz (dK p a s), T1, .fz (bydD (byd p a s)), X, .fz (dA a.reverse), .fz (dS s.reverse), .gone, .gone]) := by
  have e := rev_dP kp.keys kp.lenP
  have l : p.length ≤ sizeL := sizeL_le (by have := kp.lenP; omega)
  have d : dKvs (.fz (dP p)) = some (p.map fun q => (eSS q.1, dHs q.2)) := dKvs_fz
  have eb := ev_byd n p.reverse a.reverse s.reverse kp.rev ka.rev ks.rev
  rw [byd_rev ka ks] at eb
  have ex := ex_byd n p a s kp ka ks sm
  have et := tP_d p.reverse
  unfold s_law_safe_right_7
  simp [d, l, e, et, eb, ex, List.idxOf, List.findIdx, List.findIdx.go]
theorem st6 (Z X Y V : T) : s_law_safe_right_6 (callN tab (n + 7)) [.fz (dP p), .fz (dA a), .fz (dS s), Z, .fz (dF p a s), .fz (optD (due p a s)), .fz (dK p a s), .lst [.fz (optD (due p a s)), .lst ((weak p a s).map fun x => .fz (eIS x))], .fz (bydD (byd p a s)), X, Y, V, .gone, .gone] =
    some (.nx [.fz (dP p), .fz (dA a), .fz (dS s), Z, .fz (dF p a s), .fz (optD (due p a s)), .fz (dK p a s), .gone, .fz (bydD (byd p a s)), X, Y, V, .gone, .gone]) := by
  have l : (weak p a s).length < sizeL := sizeL_lt (by have := weak_le p a s kp ka ks; omega)
  have h : ∀ (x : T) (ts : List T), subT true (.lst [x, .lst ts]) (.int 1) = some (.lst ts, .gone) := fun x ts => rfl
  unfold s_law_safe_right_6
  simp [h, l]
theorem ex_weak2 : callN tab (n + 7) 24 [.fz (dK p a s), .fz (dK p a s)] = some (.fz (.bool true), [.fz (dK p a s), .fz (dK p a s)]) :=
  ev_exact 2 _ (ex_weak (weak p a s) (weak_le p a s kp ka ks)) (n + 4)
theorem st5a (Z X Y V : T) (h : due p a s = none) : s_law_safe_right_5 (callN tab (n + 7)) [.fz (dP p), .fz (dA a), .fz (dS s), Z, .fz (dF p a s), .fz (optD (due p a s)), .fz (dK p a s), .gone, .fz (bydD (byd p a s)), X, Y, V, .gone, .gone] =
    some (.rt (.fz (.bool true)) [.fz (dP p), .fz (dA a), .fz (dS s), Z, .fz (dF p a s), .fz (optD (due p a s)), .fz (dK p a s), .gone, .fz (bydD (byd p a s)), X, Y, V, .gone, .gone]) := by
  have e2 := ev_weak n p a s kp ka ks
  have ex := ex_weak2 n p a s kp ka ks sm
  have ed : PyData.list ((weak p a s).map eIS) = dK p a s := rfl
  unfold s_law_safe_right_5
  rw [h]
  simp [optD, e2, ed, ex, Function.comp_def]
theorem st5b (Z X Y V : T) (m : Int) (h : due p a s = some m) : s_law_safe_right_5 (callN tab (n + 7)) [.fz (dP p), .fz (dA a), .fz (dS s), Z, .fz (dF p a s), .fz (.int m), .fz (dK p a s), .gone, .fz (bydD (byd p a s)), X, Y, V, .gone, .gone] =
    some (.nx [.fz (dP p), .fz (dA a), .fz (dS s), Z, .fz (dF p a s), .fz (.int m), .fz (dK p a s), .gone, .fz (bydD (byd p a s)), X, Y, V, .gone, .gone]) := by
  unfold s_law_safe_right_5
  simp
theorem st4 (ts : List Str) (lt : ts.length ≤ 6) (nd : ts.Nodup) (hw : ∀ w ∈ ts, w ∈ WS) (X Y V : T) (m : Int) (h : due p a s = some m) : ∃ y, s_law_safe_right_4 (callN tab (n + 7)) [.fz (dP p), .fz (dA a), .fz (dS s), .fz (dWs ts), .fz (dF p a s), .fz (.int m), .fz (dK p a s), .gone, .fz (bydD (byd p a s)), X, Y, V, .gone, .gone] =
    some (.nx [.fz (dP p), .fz (dA a), .fz (dS s), .fz (dWs ts), .fz (dF p a s), .fz (.int m), .fz (dK p a s), .gone, .fz (bydD (byd p a s)), X, Y, V, y, .gone]) := by
  have m0 : 0 ≤ m := by
    obtain ⟨_, h2⟩ := leastI_spec h
    obtain ⟨x, mx, rfl⟩ := List.mem_map.mp h2
    omega
  have er := ev_rows (n + 6) ts lt m
  obtain ⟨rl, rh⟩ := rows_len m ts
  have := for_ev (f := lIts (vCall (callN tab (n + 7)) 34 2 0 [0, 1] [] (mCons (asArg (vVar 3)) (mCons (asArg (vVar 5)) mNil)) mNil)) (g := .nm 12) (b := t_law_safe_right_1 (callN tab (n + 7)))
    (τ := [.fz (dP p), .fz (dA a), .fz (dS s), .fz (dWs ts), .fz (dF p a s), .fz (.int m), .fz (dK p a s), .gone, .fz (bydD (byd p a s)), X, Y, V, .gone, .gone]) (fun r : List Str => .fz (dWs r)) (rows ts m)
    (fun pre τ => ∃ y, τ = [.fz (dP p), .fz (dA a), .fz (dS s), .fz (dWs ts), .fz (dF p a s), .fz (.int m), .fz (dK p a s), .gone, .fz (bydD (byd p a s)), X, Y, V, y, .gone])
    (τ1 := [.fz (dP p), .fz (dA a), .fz (dS s), .fz (dWs ts), .fz (dF p a s), .fz (.int m), .fz (dK p a s), .gone, .fz (bydD (byd p a s)), X, Y, V, .gone, .gone]) (ts := (rows ts m).map fun r => .fz (dWs r)) (by
      simp [er]
      simp [dWW, Function.comp_def]) rfl ⟨_, rfl⟩ (by
      rintro pre r post e τ ⟨y, rfl⟩
      have mr : r ∈ rows ts m := by rw [← e]; simp
      obtain ⟨r1, r2, r3⟩ := rh r mr
      have st := srtG_e (e := PyData.str) (b := false) (xs := r) (t := .fz (dWs r)) (by unfold dWs; simp) (sizeL_le (by omega)) (ok_S _)
      have ec := ev_lcalls (n + 4) p a s (srtE .str r) kp ka
      have ek := ev_can (n + 6) (calls p a s (srtE .str r)) (calls_ok p a s (srtE .str r) kp sm)
      rw [all_can p a s (srtE .str r) kp ka (fun m' h' => by
        rw [h] at h'
        cases h'
        rw [srtE_len]
        exact r2 m0)] at ek
      have ed : dCs (calls p a s (srtE .str r)) = .list ((calls p a s (srtE .str r)).map eC) := rfl
      have ew : dWs (srtE .str r) = .list ((srtE .str r).map .str) := rfl
      rw [ed] at ek
      rw [ew] at ec
      refine ⟨[.fz (dP p), .fz (dA a), .fz (dS s), .fz (dWs ts), .fz (dF p a s), .fz (.int m), .fz (dK p a s), .gone, .fz (bydD (byd p a s)), X, Y, V, .fz (dWs r), .gone], ?_, _, rfl⟩
      unfold t_law_safe_right_1
      simp [st, ec, ek])
  obtain ⟨τ', e, y, rfl⟩ := this
  exact ⟨y, e⟩
theorem st321 (Z X Y V W : T) (m : Int) (h : due p a s = some m) :
    s_law_safe_right_3 (callN tab (n + 7)) [.fz (dP p), .fz (dA a), .fz (dS s), Z, .fz (dF p a s), .fz (.int m), .fz (dK p a s), .gone, .fz (bydD (byd p a s)), X, Y, V, W, .gone] =
      some (.nx [.fz (dP p), .fz (dA a), .fz (dS s), Z, .fz (dF p a s), .fz (.int m), .fz (dK p a s), .gone, .fz (bydD (byd p a s)), X, Y, V, W, .gone]) ∧
    s_law_safe_right_2 (callN tab (n + 7)) [.fz (dP p), .fz (dA a), .fz (dS s), Z, .fz (dF p a s), .fz (.int m), .fz (dK p a s), .gone, .fz (bydD (byd p a s)), X, Y, V, W, .gone] =
      some (.nx [.fz (dP p), .fz (dA a), .fz (dS s), Z, .fz (dF p a s), .fz (.int m), .fz (dK p a s), .gone, .fz (bydD (byd p a s)), X, Y, V, W, .gone]) ∧
    s_law_safe_right_1 (callN tab (n + 7)) [.fz (dP p), .fz (dA a), .fz (dS s), Z, .fz (dF p a s), .fz (.int m), .fz (dK p a s), .gone, .fz (bydD (byd p a s)), X, Y, V, W, .gone] =
      some (.rt (.fz (.bool true)) [.fz (dP p), .fz (dA a), .fz (dS s), Z, .fz (dF p a s), .fz (.int m), .fz (dK p a s), .gone, .fz (bydD (byd p a s)), X, Y, V, W, .gone]) := by
  have hb : ∃ ws, byd p a s = some ws := by
    cases hb : byd p a s with
    | none =>
      rw [byd_due.mp hb] at h
      cases h
    | some ws => exact ⟨ws, rfl⟩
  obtain ⟨ws, hb⟩ := hb
  obtain ⟨x, mx, hd, rfl⟩ := byd_some hb
  have em : m = (fr p a s x).length := by
    rw [hd] at h
    cases h
    rfl
  have nt : x.2.2 ∉ fr p a s x := fun z => fr_free z (List.mem_map.mpr ⟨x, mx, rfl⟩)
  have ndw : (x.2.2 :: fr p a s x).Nodup := List.nodup_cons.mpr ⟨nt, fr_nd ka⟩
  have f6 := fr_six (s := s) (x := x) sm
  let ws := srtE .str (x.2.2 :: fr p a s x)
  have lw : ws.length = (fr p a s x).length + 1 := by
    show (srtE .str _).length = _
    rw [srtE_len, List.length_cons]
  have asc : Asc .str ws := srtE_asc inj_str ndw
  have hss := ssG_strs (b := false) (t := .fz (dWs ws)) (xs := ws) (by unfold dWs; simp) (scan_lt (by omega))
  have ed : srtE .str (ded ws) = ws := by
    rw [srtE_same inj_str (ys := ws) ((List.perm_ext_iff_of_nodup ded_nd asc.nodup).mpr fun w => ded_mem), srtE_id inj_str asc]
  rw [ed] at hss
  have eq := eqD_strs ws
  have ll : lenG (false, .fz (dWs ws)) = some (.fz (.int ((fr p a s x).length + 1))) := by
    show some (T.fz (.int ((ws.map PyData.str).length : Nat))) = _
    rw [List.length_map, lw]
    rfl
  rw [hb]
  show s_law_safe_right_3 (callN tab (n + 7)) [.fz (dP p), .fz (dA a), .fz (dS s), Z, .fz (dF p a s), .fz (.int m), .fz (dK p a s), .gone, .fz (dWs ws), X, Y, V, W, .gone] = some (.nx [.fz (dP p), .fz (dA a), .fz (dS s), Z, .fz (dF p a s), .fz (.int m), .fz (dK p a s), .gone, .fz (dWs ws), X, Y, V, W, .gone]) ∧
    s_law_safe_right_2 (callN tab (n + 7)) [.fz (dP p), .fz (dA a), .fz (dS s), Z, .fz (dF p a s), .fz (.int m), .fz (dK p a s), .gone, .fz (dWs ws), X, Y, V, W, .gone] = some (.nx [.fz (dP p), .fz (dA a), .fz (dS s), Z, .fz (dF p a s), .fz (.int m), .fz (dK p a s), .gone, .fz (dWs ws), X, Y, V, W, .gone]) ∧
    s_law_safe_right_1 (callN tab (n + 7)) [.fz (dP p), .fz (dA a), .fz (dS s), Z, .fz (dF p a s), .fz (.int m), .fz (dK p a s), .gone, .fz (dWs ws), X, Y, V, W, .gone] = some (.rt (.fz (.bool true)) [.fz (dP p), .fz (dA a), .fz (dS s), Z, .fz (dF p a s), .fz (.int m), .fz (dK p a s), .gone, .fz (dWs ws), X, Y, V, W, .gone])
  have mt : x.2.2 ∈ ws := srtE_mem.mpr List.mem_cons_self
  have mf : ∀ w ∈ fr p a s x, w ∈ ws := fun w mw => srtE_mem.mpr (List.mem_cons_of_mem _ mw)
  refine ⟨?_, ?_, ?_⟩
  · unfold s_law_safe_right_3
    have et : (T.lst (ws.map fun x => .fz (.str x))).toD = some (dWs ws) := by simp [dWs]
    generalize (T.lst (ws.map fun x => T.fz (.str x))) = R at hss et
    simp [hss, et, eq, ll, em]
  · have ec := ev_lcalls (n + 4) p a s ws kp ka
    have ek := ev_can (n + 6) (calls p a s ws) (calls_ok p a s ws kp sm)
    rw [not_can p a s ws x mx mt mf] at ek
    have ed : dCs (calls p a s ws) = .list ((calls p a s ws).map eC) := rfl
    rw [ed] at ek
    unfold s_law_safe_right_2
    simp [ec, ek]
  · have e2 := ev_weak n p a s kp ka ks
    have ex := ex_weak2 n p a s kp ka ks sm
    have ed : PyData.list ((weak p a s).map eIS) = dK p a s := rfl
    unfold s_law_safe_right_1
    simp [e2, ed, ex, Function.comp_def]
/-- the whole of _law_safe_right -/
theorem ev_right (ts : List Str) (lt : ts.length ≤ 6) (nd : ts.Nodup) (hw : ∀ w ∈ ts, w ∈ WS) : callN tab (n + 8) 35 [.fz (dP p), .fz (dA a), .fz (dS s), .fz (dWs ts)] = some (.fz (.bool true), [.fz (dP p), .fz (dA a), .fz (dS s), .fz (dWs ts)]) := by
  rw [call_law_safe_right]
  unfold m_law_safe_right
  rw [sSeq_e, st16 n p a s kp ka, Option.bind_some]
  dsimp only
  rw [sSeq_e, st15 n p a s kp ka, Option.bind_some]
  dsimp only
  rw [sSeq_e, st14 n p a s kp ka, Option.bind_some]
  dsimp only
  rw [sSeq_e, st13 n p a s kp ka ks, Option.bind_some]
  dsimp only
  rw [sSeq_e, st12 n p a s kp ka ks _ (vw_fz _), Option.bind_some]
  dsimp only
  rw [sSeq_e, st11 n p a s kp ka ks, Option.bind_some]
  dsimp only
  rw [sSeq_e, st10 n p a s kp ka ks, Option.bind_some]
  dsimp only
  rw [sSeq_e, st9 n p a s kp ka ks, Option.bind_some]
  dsimp only
  rw [sSeq_e, st8 n p a s kp ka ks, Option.bind_some]
  dsimp only
  rw [sSeq_e, st7 n p a s kp ka ks sm, Option.bind_some]
  dsimp only
  rw [sSeq_e, st6 n p a s kp ka ks sm, Option.bind_some]
  dsimp only
  cases h : due p a s with
  | none =>
    have e := fun Z X Y V => st5a n p a s kp ka ks sm Z X Y V h
    rw [h] at e
    rw [sSeq_e, e, Option.bind_some]
    simp
  | some m =>
    have e5 := fun Z X Y V => st5b n p a s kp ka ks sm Z X Y V m h
    show ((sSeq _ _) [.fz (dP p), .fz (dA a), .fz (dS s), .fz (dWs ts), .fz (dF p a s), .fz (.int m), .fz (dK p a s), .gone, .fz (bydD (byd p a s)), _, _, _, .gone, .gone]).bind _ = _
    rw [sSeq_e, e5, Option.bind_some]
    dsimp only
    obtain ⟨y, e4⟩ := st4 n p a s kp ka ks sm ts lt nd hw (.fz (.list [optD (some m), dK p a s])) (.fz (dA a.reverse)) (.fz (dS s.reverse)) m h
    rw [sSeq_e, e4, Option.bind_some]
    dsimp only
    obtain ⟨e3, e2, e1⟩ := st321 n p a s kp ka ks sm (.fz (dWs ts)) (.fz (.list [optD (some m), dK p a s])) (.fz (dA a.reverse)) (.fz (dS s.reverse)) y m h
    rw [sSeq_e, e3, Option.bind_some]
    dsimp only
    rw [sSeq_e, e2, Option.bind_some]
    dsimp only
    rw [e1]
    simp
end
end K70
end
section
namespace K70
open PySem PySem.Spec PyProof.Rows L2 SW
open PySem.W (dataLt alike keyToks)

theorem shw_ws0 : (WS.all fun w => decide ((PyData.str w).shown.length ≤ 8)) = true := by decide +kernel
theorem shw_w {w : Str} (m : w ∈ WS) : Shw 8 (.str w) := ⟨by simp [PyData.showable], of_decide_eq_true (List.all_eq_true.mp shw_ws0 w m)⟩
theorem shw_hs {hs : List Int} (l : hs.length ≤ 100) (h : ∀ i ∈ hs, 0 ≤ i ∧ i < 100) : Shw 700 (dHs hs) := (Shw.list (e := PyData.int) (n := 4) fun i m => .int (h i m).1 (h i m).2).mono (by omega)
theorem shw_wl {ws : List Str} (l : ws.length ≤ 100) (h : ∀ w ∈ ws, w ∈ WS) : Shw 1100 (dWs ws) := (Shw.list (e := PyData.str) (n := 8) fun w m => shw_w (h w m)).mono (by omega)
theorem shw_P {p : Plan} (l : p.length ≤ 100) (h : ∀ q ∈ p, (q.1.1 ∈ WS ∧ q.1.2 ∈ WS) ∧ q.2.length ≤ 100 ∧ ∀ i ∈ q.2, 0 ≤ i ∧ i < 100) : Shw 200000 (dP p) :=
  (Shw.dict (e := fun q : (Str × Str) × List Int => eSS q.1) (g := fun q => dHs q.2) (n := 23) (m := 700) fun q m => ⟨(shw_w (h q m).1.1).tup2 (shw_w (h q m).1.2), shw_hs (h q m).2.1 (h q m).2.2⟩).mono (by
    have : p.length * (23 + 700 + 4) ≤ 100 * (23 + 700 + 4) := Nat.mul_le_mul_right _ l
    omega)
theorem shw_A {a : Able} (l : a.length ≤ 100) (h : ∀ q ∈ a, q.1 ∈ WS ∧ q.2.length ≤ 100 ∧ ∀ w ∈ q.2, w ∈ WS) : Shw 200000 (dA a) :=
  (Shw.dict (e := fun q : Str × List Str => .str q.1) (g := fun q => dWs q.2) (n := 8) (m := 1100) fun q m => ⟨shw_w (h q m).1, shw_wl (h q m).2.1 (h q m).2.2⟩).mono (by
    have : a.length * (8 + 1100 + 4) ≤ 100 * (8 + 1100 + 4) := Nat.mul_le_mul_right _ l
    omega)
theorem shw_S {s : Shut} (l : s.length ≤ 100) (h : ∀ q ∈ s, q.1 ∈ WS ∧ q.2.length ≤ 100 ∧ ∀ i ∈ q.2, 0 ≤ i ∧ i < 100) : Shw 200000 (dS s) :=
  (Shw.dict (e := fun q : Str × List Int => .str q.1) (g := fun q => dHs q.2) (n := 8) (m := 700) fun q m => ⟨shw_w (h q m).1, shw_hs (h q m).2.1 (h q m).2.2⟩).mono (by
    have : s.length * (8 + 700 + 4) ≤ 100 * (8 + 700 + 4) := Nat.mul_le_mul_right _ l
    omega)
theorem dep_P (p : Plan) : (dP p).depth ≤ 10 := by
  have := depthKv_map (e := fun q : (Str × Str) × List Int => eSS q.1) (g := fun q => dHs q.2) (n := 5) (fun q => by simp [eSS, PyData.depth, PyData.depthAll]) (fun q => by
    have := depthAll_map (e := PyData.int) (n := 0) (fun a => by simp [PyData.depth]) q.2
    simp [dHs, PyData.depth]
    omega) p
  simp [dP, PyData.depth]
  omega
theorem dep_A (p : Able) : (dA p).depth ≤ 10 := by
  have := depthKv_map (e := fun q : Str × List Str => .str q.1) (g := fun q => dWs q.2) (n := 5) (fun q => by simp [PyData.depth]) (fun q => by
    have := depthAll_map (e := PyData.str) (n := 0) (fun a => by simp [PyData.depth]) q.2
    simp [dWs, PyData.depth]
    omega) p
  simp [dA, PyData.depth]
  omega
theorem dep_S (p : Shut) : (dS p).depth ≤ 10 := by
  have := depthKv_map (e := fun q : Str × List Int => .str q.1) (g := fun q => dHs q.2) (n := 5) (fun q => by simp [PyData.depth]) (fun q => by
    have := depthAll_map (e := PyData.int) (n := 0) (fun a => by simp [PyData.depth]) q.2
    simp [dHs, PyData.depth]
    omega) p
  simp [dS, PyData.depth]
  omega
theorem repr_pas {p : Plan} {a : Able} {s : Shut} (h1 : Shw 200000 (dP p)) (h2 : Shw 200000 (dA a)) (h3 : Shw 200000 (dS s)) : ∃ x, reprG (true, .lst [.fz (dP p), .fz (dA a), .fz (dS s)]) = some (.fz (.str x)) := by
  have d1 := dep_P p
  have d2 := dep_A a
  have d3 := dep_S s
  have sh : Shw 700000 (.list ([dP p, dA a, dS s].map fun d => d)) := (Shw.list (e := fun d : PyData => d) (n := 200000) fun d m => by
    simp only [List.mem_cons, List.not_mem_nil, or_false] at m
    rcases m with rfl | rfl | rfl
    · exact h1
    · exact h2
    · exact h3).mono (by simp)
  exact ⟨_, reprG_e (d := .list ([dP p, dA a, dS s].map fun d => d)) (by simp) rfl sh (by omega) (by
    simp [PyData.depth, PyData.depthAll]
    omega)⟩

/-! ### one list of ill -/
theorem addZ (T : List Str) (z : Str) (l : T.length ≤ 100) : ∃ X, binT .add (false, .fz (dWs T)) (true, .lst [.fz (.str z)]) = some X ∧ X.toD = some (dWs (T ++ [z])) := by
  have l1 : T.length + 1 ≤ sizeL := sizeL_le (by omega)
  refine ⟨.lst ((T.map .str).map .fz ++ [.fz (.str z)]), ?_, ?_⟩
  · unfold dWs
    rw [addT_fl, if_pos (by simpa using l1)]
  · simp [toDs_append, dWs]
structure OkT (T : List Str) : Prop where
  len : T.length = 5
  zoe : (T ++ [("zoe" : Str)]).Nodup ∧ ∀ w ∈ T ++ [("zoe" : Str)], w ∈ WS
  zed : (T ++ [("zed" : Str)]).Nodup ∧ ∀ w ∈ T ++ [("zed" : Str)], w ∈ WS
def T1 : List Str := ["a", "v", "w", "x", "y"]
def T2 : List Str := ["a", "az", "b", "ba", "zz"]
theorem okT1 : OkT T1 := ⟨rfl, by decide +kernel, by decide +kernel⟩
theorem okT2 : OkT T2 := ⟨rfl, by decide +kernel, by decide +kernel⟩
theorem ex_Cs (cs : List Cl) (k : OkC cs) : exOk 3 (.list (cs.map eC)) = true := ex_list cs k.len fun c m => ex_C c (by have := k.six c m; omega)
theorem ev_told (n : Nat) (cs : List Cl) (six : ∀ c ∈ cs, c.2.2.length ≤ 6) (S0 S1 S2 S3 S4 S5 S6 S7 S8 S9 S10 S11 S12 y : T) : ∃ y', l_law_1 (callN tab n) [S0, S1, S2, S3, S4, S5, S6, S7, S8, S9, S10, S11, S12, .lst (cs.map tC), y] = some (.nx [S0, S1, S2, S3, S4, S5, S6, S7, S8, S9, S10, S11, S12, .gone, y']) := by
  have := for_ev (f := lIts (vMov 13)) (g := .nm 14) (b := t_law_1 (callN tab n)) (τ := [S0, S1, S2, S3, S4, S5, S6, S7, S8, S9, S10, S11, S12, .lst (cs.map tC), y]) tC cs (fun pre τ => ∃ y, τ = [S0, S1, S2, S3, S4, S5, S6, S7, S8, S9, S10, S11, S12, .gone, y])
    (τ1 := [S0, S1, S2, S3, S4, S5, S6, S7, S8, S9, S10, S11, S12, .gone, y]) (ts := cs.map tC) (by simp) rfl ⟨_, rfl⟩ (by
      rintro pre c post e τ ⟨y, rfl⟩
      have mc : c ∈ cs := by rw [← e]; simp
      have l : c.2.2.length < sizeL := sizeL_lt (by have := six c mc; omega)
      have h : ∀ (a b : T) (ts : List T), subT true (.tup [a, b, .lst ts]) (.int 2) = some (.lst ts, .gone) := fun a b ts => rfl
      refine ⟨[S0, S1, S2, S3, S4, S5, S6, S7, S8, S9, S10, S11, S12, .gone, .gone], ?_, _, rfl⟩
      unfold t_law_1 tC
      simp [h, l])
  obtain ⟨τ', e, y', rfl⟩ := this
  exact ⟨y', e⟩
theorem ev_t2 (n k : Nat) (T : List Str) (hT : OkT T) (p : Plan) (a : Able) (s : Shut) (kp : OkP p) (ka : OkA p a) (ks : OkS s) (sm : Sml p a) (t0 : SW.T) (hu : OkU (k + 7) t0) (S0 S2 S4 S5 S9 S10 y11 y12 y13 y14 : SW.T) :
    ∃ t' z11 z12 z13 z14, OkU k t' ∧ t_law_2 (callN tab (n + 8)) [S0, t0, S2, .fz (dWs T), S4, S5, .fz (dP p), .fz (dA a), .fz (dS s), S9, S10, y11, y12, y13, y14] = some (.nx [S0, t', S2, .fz (dWs T), S4, S5, .fz (dP p), .fz (dA a), .fz (dS s), S9, S10, z11, z12, z13, z14]) := by
  obtain ⟨X, eX, dX⟩ := addZ T "zed" (by rw [hT.len]; omega)
  have lz : (T ++ [("zed" : Str)]).length = 6 := by rw [List.length_append, hT.len]; rfl
  obtain ⟨ys, u1, pm, hu1, e1⟩ := ev_shuf (n + 5) (k + 1) t0 (T ++ [("zed" : Str)]) (by rw [lz]; exact hu) (by omega)
  obtain ⟨r, u2, r0, r1, hu2, e2⟩ := ev_draw (n + 6) k u1 4 hu1 (by decide) (by decide)
  have pk := pick_ok pm hT.zed.1 r.toNat
  have st := srt_take ys r.toNat (by have := pm.length_eq; omega)
  have cu := fun xs : List SW.T => cutL_toI xs r r0
  let ill := srtE PyData.str (ys.take r.toNat)
  have ki : OkI ill := ⟨pk.1, fun w m => hT.zed.2 w (pk.2.1 w m), by
    have := pk.2.2.1
    show (srtE PyData.str (ys.take r.toNat)).length ≤ 1000
    omega⟩
  have c1 := ev_lcalls (n + 5) p a s ill kp ka
  have c2 := ev_when (n + 2) p a s ill kp ka ks ki
  have kc := calls_ok p a s ill kp sm
  let cs := calls p a s ill
  let D : PyData := .list (cs.map eC)
  have ex1 : callN tab (n + 8) 24 [.fz (.list [D, D]), .fz (.list [D, D])] = some (.fz (.bool true), [.fz (.list [D, D]), .fz (.list [D, D])]) := by
    refine ev_exact 4 _ ?_ (n + 3)
    have := ex_Cs cs kc
    show (decide ([D, D].length ≤ 1000) && [D, D].all (exOk 3)) = true
    simp [D, this]
  have ex2 : callN tab (n + 8) 24 [.fz D, .fz D] = some (.fz (.bool true), [.fz D, .fz D]) := ev_exact 3 D (ex_Cs cs kc) (n + 4)
  have tD : (SW.T.lst (cs.map tC)).toD = some D := by
    rw [toD_lst, toDs_by tC_d]
    rfl
  have tV : (SW.T.lst (cs.map tC)).vw = .fz D := by
    refine vw_of ?_ tD
    show calms (cs.map tC) = true
    refine calms_all fun t m => ?_
    obtain ⟨c, _, rfl⟩ := List.mem_map.mp m
    show (true && (true && (calms (c.2.2.map fun w => SW.T.fz (.str w)) && true))) = true
    rw [calms_all fun t m => ?_]
    · rfl
    · obtain ⟨w, _, rfl⟩ := List.mem_map.mp m
      rfl
  obtain ⟨y', et⟩ := ev_told (n + 8) cs kc.six S0 u2 S2 (.fz (dWs T)) S4 S5 (.fz (dP p)) (.fz (dA a)) (.fz (dS s)) S9 S10 (.fz (dWs ill)) (.fz D) y14
  refine ⟨u2, .fz (dWs ill), .fz D, .gone, y', hu2, ?_⟩
  have l0 := hu.live
  have l1 := hu1.live
  have ed : dWs ys = .list (ys.map .str) := rfl
  have s1 : (sAsg (.nm 11) (vFz (v1 srtG (asArg (vSlc (asArg (vCall (callN tab (n + 8)) 23 2 0 [0, 1] [] (mCons (aRef 1) (mCons (asArg (vFz (v2 (binT .add) (aRef 3) (asArg (vLst (lCons (vCst (.str "zed")) lNil)))))) mNil)) mNil)) oNone (oSome (asArg (vCall (callN tab (n + 8)) 20 2 0 [0, 1] [] (mCons (aRef 1) (mCons (asArg (vCst (.int 4))) mNil)) mNil)))))))) [S0, t0, S2, .fz (dWs T), S4, S5, .fz (dP p), .fz (dA a), .fz (dS s), S9, S10, y11, y12, y13, y14] =
      some (.nx [S0, u2, S2, .fz (dWs T), S4, S5, .fz (dP p), .fz (dA a), .fz (dS s), S9, S10, .fz (dWs ill), y12, y13, y14]) := by
    have ei : PyData.list (ill.map .str) = dWs ill := rfl
    simp (implicitDefEqProofs := false) [l0, l1, eX, dX, e1, e2, ed, cu, st, sizeL_le]
    exact ei
  have s2 : (sPar 12 13 (lCons (vCall (callN tab (n + 8)) 32 4 0 [0, 1, 2, 3] [] (mCons (asArg (vVar 6)) (mCons (asArg (vVar 7)) (mCons (asArg (vVar 8)) (mCons (asArg (vVar 11)) mNil)))) mNil) (lCons (vCall (callN tab (n + 8)) 14 4 0 [0, 1, 2, 3] [] (mCons (asArg (vVar 6)) (mCons (asArg (vVar 7)) (mCons (asArg (vVar 8)) (mCons (asArg (vVar 11)) mNil)))) mNil) lNil)))
      [S0, u2, S2, .fz (dWs T), S4, S5, .fz (dP p), .fz (dA a), .fz (dS s), S9, S10, .fz (dWs ill), y12, y13, y14] = some (.nx [S0, u2, S2, .fz (dWs T), S4, S5, .fz (dP p), .fz (dA a), .fz (dS s), S9, S10, .fz (dWs ill), .fz D, .lst (cs.map tC), y14]) := by
    have eD : PyData.list ((calls p a s ill).map eC) = D := rfl
    rw [eD] at c1
    simp (implicitDefEqProofs := false) [c1, c2, cs]
  have s3 : (sIf (bNot (asTst (asArg (vPure (vCall (callN tab (n + 8)) 24 2 0 [0, 1] [] (mCons (asArg (vFz (vLst (lCons (vVar 12) (lCons (vVar 12) lNil))))) (mCons (asArg (vFz (vLst (lCons (vVar 13) (lCons (vFz (vCall (callN tab (n + 8)) 14 0 4 [3, 2, 1, 0] [] mNil (mCons (asArg (vVar 11)) (mCons (asArg (vVar 8)) (mCons (asArg (vVar 7)) (mCons (asArg (vVar 6)) mNil)))))) lNil))))) mNil)) mNil))))) (sRet (vCst (.bool false))) sNil)
      [S0, u2, S2, .fz (dWs T), S4, S5, .fz (dP p), .fz (dA a), .fz (dS s), S9, S10, .fz (dWs ill), .fz D, .lst (cs.map tC), y14] = some (.nx [S0, u2, S2, .fz (dWs T), S4, S5, .fz (dP p), .fz (dA a), .fz (dS s), S9, S10, .fz (dWs ill), .fz D, .lst (cs.map tC), y14]) := by
    have c2' : callN tab (n + 8) 14 [.fz (dP p), .fz (dA a), .fz (dS s), .fz (dWs ill)] = some (.lst (cs.map tC), [.fz (dP p), .fz (dA a), .fz (dS s), .fz (dWs ill)]) := c2
    generalize SW.T.lst (cs.map tC) = L at tD tV c2'
    simp (implicitDefEqProofs := false) [tV, tD, c2', ex1, sizeL_le, List.idxOf, List.findIdx, List.findIdx.go]
  have s5 : (sIf (bNot (asTst (asArg (vCall (callN tab (n + 8)) 24 2 0 [0, 1] [] (mCons (asArg (vVar 12)) (mCons (asArg (vFz (vCall (callN tab (n + 8)) 14 4 0 [0, 1, 2, 3] [] (mCons (asArg (vVar 6)) (mCons (asArg (vVar 7)) (mCons (asArg (vVar 8)) (mCons (asArg (vVar 11)) mNil)))) mNil))) mNil)) mNil)))) (sRet (vCst (.bool false))) sNil)
      [S0, u2, S2, .fz (dWs T), S4, S5, .fz (dP p), .fz (dA a), .fz (dS s), S9, S10, .fz (dWs ill), .fz D, .gone, y'] = some (.nx [S0, u2, S2, .fz (dWs T), S4, S5, .fz (dP p), .fz (dA a), .fz (dS s), S9, S10, .fz (dWs ill), .fz D, .gone, y']) := by
    have c2' : callN tab (n + 8) 14 [.fz (dP p), .fz (dA a), .fz (dS s), .fz (dWs ill)] = some (.lst (cs.map tC), [.fz (dP p), .fz (dA a), .fz (dS s), .fz (dWs ill)]) := c2
    generalize SW.T.lst (cs.map tC) = L at tD tV c2'
    simp (implicitDefEqProofs := false) [tD, c2', ex2]
  unfold t_law_2
  rw [sSeq_e, s1, Option.bind_some]
  dsimp only
  rw [sSeq_e, s2, Option.bind_some]
  dsimp only
  rw [sSeq_e, s3, Option.bind_some]
  dsimp only
  rw [sSeq_e, et, Option.bind_some]
  dsimp only
  rw [s5]
end K70
end
section
namespace K70
open PySem PySem.Spec PyProof.Rows L2 SW
open PySem.W (dataLt alike keyToks)

def GS : List Str := ["a", "ab", "b", "c"]
theorem GS_ws : ∀ g ∈ GS, g ∈ WS := by decide +kernel
/-- a turn of the inner loop -/
theorem ev_t3 (n k : Nat) (S0 : SW.T) (t0 : SW.T) (hu : OkU (k + 1000) t0) (i : SW.T) (y3 y4 y5 y6 y7 y8 y9 y10 y11 y12 y13 y14 : SW.T) :
    ∃ t' z3 z4 z5 z6 z7 z8 z9 z10 z11 z12 z13 z14, OkU k t' ∧ t_law_3 (callN tab (n + 8)) [S0, t0, i, y3, y4, y5, y6, y7, y8, y9, y10, y11, y12, y13, y14] = some (.nx [S0, t', i, z3, z4, z5, z6, z7, z8, z9, z10, z11, z12, z13, z14]) := by
  -- the teachers
  obtain ⟨x, u1, mx, hu1, e1⟩ := ev_one (n + 5) (k + 999) t0 [dWs T1, dWs T2] hu (by decide) (by decide)
  obtain ⟨T, hT, rfl⟩ : ∃ T, OkT T ∧ x = dWs T := by
    simp only [List.mem_cons, List.not_mem_nil, or_false] at mx
    rcases mx with rfl | rfl
    · exact ⟨T1, okT1, rfl⟩
    · exact ⟨T2, okT2, rfl⟩
  have l0 := hu.live
  have s9 : s_law_9 (callN tab (n + 8)) [S0, t0, i, y3, y4, y5, y6, y7, y8, y9, y10, y11, y12, y13, y14] = some (.nx [S0, u1, i, .fz (dWs T), y4, y5, y6, y7, y8, y9, y10, y11, y12, y13, y14]) := by
    have eL : PyData.list [dWs T1, dWs T2] = .list [.list [.str "a", .str "v", .str "w", .str "x", .str "y"], .list [.str "a", .str "az", .str "b", .str "ba", .str "zz"]] := rfl
    rw [eL] at e1
    unfold s_law_9
    simp (implicitDefEqProofs := false) [l0, e1, sizeL_le]
  -- the hours
  obtain ⟨r, u2, r0, r1, hu2, e2⟩ := ev_draw (n + 6) (k + 998) u1 6 hu1 (by decide) (by decide)
  have l1 := hu1.live
  have s8 : s_law_8 (callN tab (n + 8)) [S0, u1, i, .fz (dWs T), y4, y5, y6, y7, y8, y9, y10, y11, y12, y13, y14] = some (.nx [S0, u2, i, .fz (dWs T), .fz (.int (1 + r)), y5, y6, y7, y8, y9, y10, y11, y12, y13, y14]) := by
    unfold s_law_8
    simp (implicitDefEqProofs := false) [l1, e2]
  -- the shift
  obtain ⟨x3, u3, mx3, hu3, e3⟩ := ev_one (n + 5) (k + 997) u2 [.int 0, .int 0, .int 6] hu2 (by decide) (by decide)
  obtain ⟨sh, hs0, hs1, rfl⟩ : ∃ sh : Int, 0 ≤ sh ∧ sh ≤ 6 ∧ x3 = .int sh := by
    simp only [List.mem_cons, List.not_mem_nil, or_false] at mx3
    rcases mx3 with rfl | rfl | rfl
    · exact ⟨0, by decide, by decide, rfl⟩
    · exact ⟨0, by decide, by decide, rfl⟩
    · exact ⟨6, by decide, by decide, rfl⟩
  have l2 := hu2.live
  have s7 : s_law_7 (callN tab (n + 8)) [S0, u2, i, .fz (dWs T), .fz (.int (1 + r)), y5, y6, y7, y8, y9, y10, y11, y12, y13, y14] = some (.nx [S0, u3, i, .fz (dWs T), .fz (.int (1 + r)), .fz (.int sh), y6, y7, y8, y9, y10, y11, y12, y13, y14]) := by
    unfold s_law_7
    simp (implicitDefEqProofs := false) [l2, e3, sizeL_le]
  -- the plan
  obtain ⟨x4, u4, mx4, hu4, e4⟩ := ev_one (n + 5) (k + 996) u3 [.int 0, .int 3, .int 9, .int 20] hu3 (by decide) (by decide)
  obtain ⟨S, hS, rfl⟩ : ∃ S : Nat, S ≤ 20 ∧ x4 = .int (S : Int) := by
    simp only [List.mem_cons, List.not_mem_nil, or_false] at mx4
    rcases mx4 with rfl | rfl | rfl | rfl
    · exact ⟨0, by decide, rfl⟩
    · exact ⟨3, by decide, rfl⟩
    · exact ⟨9, by decide, rfl⟩
    · exact ⟨20, by decide, rfl⟩
  obtain ⟨p0, u5, rp0, hu5, hm0, e5⟩ := ev_plan (n + 4) (k + 900) GS T (1 + r) S u4 (hu4.mono (by omega)) (by omega) (by decide) (by decide) (by rw [hT.len]; decide) (by rw [hT.len]; decide) (by omega) (by omega)
  have l3 := hu3.live
  have l4 := hu4.live
  have s6 : s_law_6 (callN tab (n + 8)) [S0, u3, i, .fz (dWs T), .fz (.int (1 + r)), .fz (.int sh), y6, y7, y8, y9, y10, y11, y12, y13, y14] = some (.nx [S0, u5, i, .fz (dWs T), .fz (.int (1 + r)), .fz (.int sh), .fz (dP p0), y7, y8, y9, y10, y11, y12, y13, y14]) := by
    have eG : dWs GS = .list [.str "a", .str "ab", .str "b", .str "c"] := rfl
    rw [eG] at e5
    unfold s_law_6
    simp (implicitDefEqProofs := false) [l3, l4, e4, e5, sizeL_le]
  have rp := rp0.late hs0
  have e6 := ev_late (n + 7) p0 sh rp0.keys (Nat.le_trans rp0.lenP (by omega)) (fun q m => Nat.le_trans (rp0.hlen m) (by omega))
  obtain ⟨p, hpe⟩ : ∃ p, p = late sh p0 := ⟨_, rfl⟩
  rw [← hpe] at rp e6
  have s5 : s_law_5 (callN tab (n + 8)) [S0, u5, i, .fz (dWs T), .fz (.int (1 + r)), .fz (.int sh), .fz (dP p0), y7, y8, y9, y10, y11, y12, y13, y14] = some (.nx [S0, u5, i, .fz (dWs T), .fz (.int (1 + r)), .fz (.int sh), .fz (dP p), y7, y8, y9, y10, y11, y12, y13, y14]) := by
    unfold s_law_5
    simp (implicitDefEqProofs := false) [e6]
  -- who is able, when who cannot
  have lz : (T ++ [("zoe" : Str)]).length = 6 := by rw [List.length_append, hT.len]; rfl
  obtain ⟨X, eX, dX⟩ := addZ T "zoe" (by rw [hT.len]; omega)
  obtain ⟨a, u6, hu6, a1, a2, a3, a4, e7⟩ := ev_able (n + 4) (k + 100) GS T S p (T ++ [("zoe" : Str)]) u5 rp (by omega) hT.zoe.1 (by rw [lz]; omega) (hu5.mono (by rw [lz]; omega))
  obtain ⟨s, u7, hu7, b1, b2, b3, b4, e8⟩ := ev_shutD (n + 4) (k + 50) (T ++ [("zoe" : Str)]) (1 + r + sh) u6 hT.zoe.1 (by rw [lz]; omega) (by omega) (by omega) (hu6.mono (by rw [lz]; omega))
  have l5 := hu5.live
  have l6 := hu6.live
  have s4 : s_law_4 (callN tab (n + 8)) [S0, u5, i, .fz (dWs T), .fz (.int (1 + r)), .fz (.int sh), .fz (dP p), y7, y8, y9, y10, y11, y12, y13, y14] = some (.nx [S0, u7, i, .fz (dWs T), .fz (.int (1 + r)), .fz (.int sh), .fz (dP p), .fz (dA a), .fz (dS s), y9, y10, y11, y12, y13, y14]) := by
    unfold s_law_4
    simp (implicitDefEqProofs := false) [l5, l6, eX, dX, e7, e8, sizeL_le]
  have kp : OkP p := rp.ok (by omega) GS_ws (fun t m => hT.zoe.2 t (List.mem_append_left _ m))
  have ka : OkA p a := ⟨by omega, a1, a2, fun q m => by
    obtain ⟨c1, c2, c3⟩ := a3 q m
    exact ⟨c1, fun w mw => hT.zoe.2 w (c2 w mw), by omega⟩⟩
  have ks : OkS s := ⟨by omega, b1, fun q m => hT.zoe.2 _ (b2 q m), fun q m => by
    obtain ⟨c1, c2, c3⟩ := b3 q m
    exact ⟨c1, fun h mh => (c2 h mh).1, by omega⟩⟩
  have sm : Sml p a := ⟨fun q m => by
    have := (a3 q m).2.2
    omega, fun h => rp.five (by rw [hT.len]; decide) h⟩
  have hp : ∀ q ∈ p, (q.1.1 ∈ WS ∧ q.1.2 ∈ WS) ∧ q.2.length ≤ 100 ∧ ∀ i ∈ q.2, 0 ≤ i ∧ i < 100 := fun q m => by
    refine ⟨kp.w1 q m, Nat.le_trans (rp.hlen m) (by omega), fun h mh => ⟨(kp.hs q m).2.2.1 h mh, ?_⟩⟩
    rw [hpe] at m
    obtain ⟨q0, m0, rfl⟩ := List.mem_map.mp m
    obtain ⟨h0, mh0, rfl⟩ := List.mem_map.mp mh
    have := hm0 q0 m0 h0 mh0
    omega
  obtain ⟨K, eK⟩ := repr_pas (shw_P (Nat.le_trans rp.lenP (by omega)) hp) (shw_A a4 fun q m => by
    obtain ⟨c1, c2, c3⟩ := a3 q m
    obtain ⟨q1, m1, e1⟩ := (a2 q.1).mp (List.mem_map_of_mem (f := (·.1)) m)
    exact ⟨by rw [← e1]; exact (hp q1 m1).1.1, by omega, fun w mw => hT.zoe.2 w (c2 w mw)⟩) (shw_S (s := s) (by omega) fun q m => by
    obtain ⟨c1, c2, c3⟩ := b3 q m
    refine ⟨hT.zoe.2 _ (b2 q m), by omega, fun h mh => ?_⟩
    have := c2 h mh
    omega)
  have s3 : s_law_3 (callN tab (n + 8)) [S0, u7, i, .fz (dWs T), .fz (.int (1 + r)), .fz (.int sh), .fz (dP p), .fz (dA a), .fz (dS s), y9, y10, y11, y12, y13, y14] = some (.nx [S0, u7, i, .fz (dWs T), .fz (.int (1 + r)), .fz (.int sh), .fz (dP p), .fz (dA a), .fz (dS s), .fz (.str K), y10, y11, y12, y13, y14]) := by
    unfold s_law_3
    simp (implicitDefEqProofs := false) [eK, sizeL_le]
  have s2 : ∃ t' z10 z11 z12 z13 z14, OkU k t' ∧ s_law_2 (callN tab (n + 8)) [S0, u7, i, .fz (dWs T), .fz (.int (1 + r)), .fz (.int sh), .fz (dP p), .fz (dA a), .fz (dS s), .fz (.str K), y10, y11, y12, y13, y14] = some (.nx [S0, t', i, .fz (dWs T), .fz (.int (1 + r)), .fz (.int sh), .fz (dP p), .fz (dA a), .fz (dS s), .fz (.str K), z10, z11, z12, z13, z14]) := by
    have := for_ev (f := lRng1 (asArg (vCst (.int 3)))) (g := .nm 10) (b := t_law_2 (callN tab (n + 8))) (τ := [S0, u7, i, .fz (dWs T), .fz (.int (1 + r)), .fz (.int sh), .fz (dP p), .fz (dA a), .fz (dS s), .fz (.str K), y10, y11, y12, y13, y14]) (fun j : Int => .fz (.int j)) (cnt 3)
      (fun pre τ => ∃ t' z10 z11 z12 z13 z14, OkU (k + 7 * (3 - pre.length)) t' ∧ τ = [S0, t', i, .fz (dWs T), .fz (.int (1 + r)), .fz (.int sh), .fz (dP p), .fz (dA a), .fz (dS s), .fz (.str K), z10, z11, z12, z13, z14])
      (τ1 := [S0, u7, i, .fz (dWs T), .fz (.int (1 + r)), .fz (.int sh), .fz (dP p), .fz (dA a), .fz (dS s), .fz (.str K), y10, y11, y12, y13, y14]) (ts := (cnt 3).map fun j => .fz (.int j)) (by
        have h1 := rng_ok 3 (by omega)
        have h2 := rngL_cnt 3
        have h3 : ((3 : Nat) : Int) = 3 := rfl
        rw [h3] at h1
        simp (implicitDefEqProofs := false) [h1, h2]) rfl ⟨u7, _, _, _, _, _, hu7.mono (by simp), rfl⟩ (by
        rintro pre x post e τ ⟨t', z10, z11, z12, z13, z14, hu', rfl⟩
        have lx : pre.length + 1 + post.length = 3 := by
          have := congrArg List.length e
          rw [cnt_len] at this
          simp at this
          omega
        obtain ⟨t2, w11, w12, w13, w14, hu2, e2⟩ := ev_t2 n (k + 7 * (3 - (pre.length + 1))) T hT p a s kp ka ks sm t' (hu'.mono (by omega)) S0 i (.fz (.int (1 + r))) (.fz (.int sh)) (.fz (.str K)) (.fz (.int x)) z11 z12 z13 z14
        exact ⟨_, e2, t2, _, _, _, _, _, by simpa using hu2, rfl⟩)
    obtain ⟨τ', e, t', z10, z11, z12, z13, z14, hu', rfl⟩ := this
    exact ⟨t', z10, z11, z12, z13, z14, hu'.mono (by omega), e⟩
  obtain ⟨t', z10, z11, z12, z13, z14, hu', s2⟩ := s2
  have er := ev_right n p a s kp ka ks sm (T ++ [("zoe" : Str)]) (by omega) hT.zoe.1 hT.zoe.2
  have s1 : s_law_1 (callN tab (n + 8)) [S0, t', i, .fz (dWs T), .fz (.int (1 + r)), .fz (.int sh), .fz (dP p), .fz (dA a), .fz (dS s), .fz (.str K), z10, z11, z12, z13, z14] = some (.nx [S0, t', i, .fz (dWs T), .fz (.int (1 + r)), .fz (.int sh), .fz (dP p), .fz (dA a), .fz (dS s), .fz (.str K), z10, z11, z12, z13, z14]) := by
    unfold s_law_1
    simp (implicitDefEqProofs := false) [eX, dX, er, eK, sizeL_le]
  refine ⟨t', .fz (dWs T), .fz (.int (1 + r)), .fz (.int sh), .fz (dP p), .fz (dA a), .fz (dS s), .fz (.str K), z10, z11, z12, z13, z14, hu', ?_⟩
  unfold t_law_3
  rw [sSeq_e, s9, Option.bind_some]
  dsimp only
  rw [sSeq_e, s8, Option.bind_some]
  dsimp only
  rw [sSeq_e, s7, Option.bind_some]
  dsimp only
  rw [sSeq_e, s6, Option.bind_some]
  dsimp only
  rw [sSeq_e, s5, Option.bind_some]
  dsimp only
  rw [sSeq_e, s4, Option.bind_some]
  dsimp only
  rw [sSeq_e, s3, Option.bind_some]
  dsimp only
  rw [sSeq_e, s2, Option.bind_some]
  dsimp only
  rw [s1]
/-- one seed: two turns -/
theorem ev_l3 (n : Nat) (S0 t0 : SW.T) (hu : OkU 1000000 t0) (y2 y3 y4 y5 y6 y7 y8 y9 y10 y11 y12 y13 y14 : SW.T) :
    ∃ t' z2 z3 z4 z5 z6 z7 z8 z9 z10 z11 z12 z13 z14, t_law_4 (callN tab (n + 8)) [S0, t0, y2, y3, y4, y5, y6, y7, y8, y9, y10, y11, y12, y13, y14] = some (.nx [S0, t', z2, z3, z4, z5, z6, z7, z8, z9, z10, z11, z12, z13, z14]) := by
  have := for_ev (f := lRng1 (asArg (vCst (.int 2)))) (g := .nm 2) (b := t_law_3 (callN tab (n + 8))) (τ := [S0, t0, y2, y3, y4, y5, y6, y7, y8, y9, y10, y11, y12, y13, y14]) (fun j : Int => .fz (.int j)) (cnt 2)
    (fun pre τ => ∃ t' z2 z3 z4 z5 z6 z7 z8 z9 z10 z11 z12 z13 z14, OkU (1000 * (2 - pre.length)) t' ∧ τ = [S0, t', z2, z3, z4, z5, z6, z7, z8, z9, z10, z11, z12, z13, z14])
    (τ1 := [S0, t0, y2, y3, y4, y5, y6, y7, y8, y9, y10, y11, y12, y13, y14]) (ts := (cnt 2).map fun j => .fz (.int j)) (by
      have h1 := rng_ok 2 (by omega)
      have h2 := rngL_cnt 2
      have h3 : ((2 : Nat) : Int) = 2 := rfl
      rw [h3] at h1
      simp (implicitDefEqProofs := false) [h1, h2]) rfl ⟨t0, _, _, _, _, _, _, _, _, _, _, _, _, _, hu.mono (by simp), rfl⟩ (by
      rintro pre x post e τ ⟨t', z2, z3, z4, z5, z6, z7, z8, z9, z10, z11, z12, z13, z14, hu', rfl⟩
      have lx : pre.length + 1 + post.length = 2 := by
        have := congrArg List.length e
        rw [cnt_len] at this
        simp at this
        omega
      obtain ⟨t2, w3, w4, w5, w6, w7, w8, w9, w10, w11, w12, w13, w14, hu2, e2⟩ := ev_t3 n (1000 * (2 - (pre.length + 1))) S0 t' (hu'.mono (by omega)) (.fz (.int x)) z3 z4 z5 z6 z7 z8 z9 z10 z11 z12 z13 z14
      exact ⟨_, e2, t2, _, _, _, _, _, _, _, _, _, _, _, _, _, by simpa using hu2, rfl⟩)
  obtain ⟨τ', e, t', z2, z3, z4, z5, z6, z7, z8, z9, z10, z11, z12, z13, z14, hu', rfl⟩ := this
  exact ⟨t', _, _, _, _, _, _, _, _, _, _, _, _, _, e⟩
end K70
end
section
namespace K70
open PySem PySem.Spec PyProof.Rows L2 SW
open PySem.W (dataLt alike keyToks)

def p0 : Plan := [(("a", "ann"), [0, 2]), (("a", "bob"), [1]), (("b", "bob"), [0]), (("b", "cid"), [1, 2])]
def a0 : Able := [("a", ["ann", "bob", "cid", "dan"]), ("b", ["ann", "dan"])]
def L0 : List Les := [(0, "a", "ann"), (0, "b", "bob"), (1, "a", "bob"), (1, "b", "cid"), (2, "a", "ann"), (2, "b", "cid")]
instance {α : Type} {e : α → PyData} (xs : List α) : Decidable (Asc e xs) := inferInstanceAs (Decidable (xs.Pairwise _))
theorem less_p0 : less p0 = L0 := (srtE_same inj_ISS (show (less0 p0).Perm L0 by decide +kernel)).trans (srtE_id inj_ISS (by decide +kernel))
theorem ok_p0 : OkP p0 := by
  refine ⟨by decide +kernel, by decide +kernel, by decide +kernel, by decide +kernel, by decide +kernel, ?_, ?_⟩
  · rw [less_p0]; decide +kernel
  · rw [less_p0]; decide +kernel
theorem ok_a0 : OkA p0 a0 := by
  refine ⟨by decide +kernel, by decide +kernel, fun g => ?_, by decide +kernel⟩
  simp [a0, p0]
  exact ⟨fun h => h.imp Eq.symm Eq.symm, fun h => h.imp Eq.symm Eq.symm⟩
theorem ok_s0 : OkS [] := ⟨by decide, .nil, fun _ m => (by cases m), fun _ m => (by cases m)⟩
theorem due_p0 : due p0 a0 [] = some 1 := by
  unfold due lens fr
  rw [less_p0]
  decide +kernel
def W0 : List (Int × Str) := [(0, "b"), (2, "b")]
theorem weak_p0 : weak p0 a0 [] = W0 := by
  have e : weak0 p0 a0 [] = W0 := by
    unfold weak0
    rw [due_p0]
    unfold fr
    rw [less_p0]
    decide +kernel
  unfold weak
  rw [e]
  exact srtE_id (by
    intro a b h
    have h : ([.inl 1, .inl a.1, .inl 1, .inr a.2.cps.toList, .inl 0] : List (Int ⊕ List Nat)) = [.inl 1, .inl b.1, .inl 1, .inr b.2.cps.toList, .inl 0] := by simpa [keyToks, PySem.W.keyToksAll, eIS] using h
    simp only [List.cons.injEq, Sum.inl.injEq, Sum.inr.injEq, and_true, true_and] at h
    exact Prod.ext h.1 (str_toks h.2)) (by decide +kernel)
theorem ok_pn : OkP [] := ⟨by decide, by decide, .nil, fun _ m => (by cases m), fun _ m => (by cases m), by decide +kernel, by decide +kernel⟩
theorem ok_an : OkA [] [] := ⟨by decide, .nil, fun g => (by simp), fun _ m => (by cases m)⟩
theorem byd_n : byd [] [] [] = none := by
  unfold byd
  have : less [] = [] := by
    unfold less less0 srtE
    simp
  rw [this]
  rfl
theorem dsp1 : dictPs [(.tuple [.str "a", .str "ann"], T.fz (.list [.int 0, .int 2])), (.tuple [.str "a", .str "bob"], T.fz (.list [.int 1])), (.tuple [.str "b", .str "bob"], T.fz (.list [.int 0])), (.tuple [.str "b", .str "cid"], T.fz (.list [.int 1, .int 2]))] [] = some (p0.map fun q => (eSS q.1, .fz (dHs q.2))) := rfl
theorem dsp2 : dictPs [(.str "a", T.fz (.list [.str "ann", .str "bob", .str "cid", .str "dan"])), (.str "b", T.fz (.list [.str "ann", .str "dan"]))] [] = some (a0.map fun q => (.str q.1, .fz (dWs q.2))) := rfl
theorem ev_law (n : Nat) (ns : List Int) : ∃ t, callN tab (n + 9) 36 [.scr ns] = some (tB true, [t]) := by
  obtain ⟨ts, hts, e0⟩ := ev_purses (n + 6) ns
  have hl := for_ev (f := lIts (vCall (callN tab (n + 8)) 21 2 0 [0, 1] [] (mCons (aRef 0) (mCons (asArg (vCst (.int 3))) mNil)) mNil)) (g := .nm 1) (b := t_law_4 (callN tab (n + 8))) (τ := [.scr ns, .gone, .gone, .gone, .gone, .gone, .gone, .gone, .gone, .gone, .gone, .gone, .gone, .gone, .gone]) (fun t : SW.T => t) ts
    (fun pre τ => ∃ z1 z2 z3 z4 z5 z6 z7 z8 z9 z10 z11 z12 z13 z14, τ = [.scr ns, z1, z2, z3, z4, z5, z6, z7, z8, z9, z10, z11, z12, z13, z14])
    (τ1 := [.scr ns, .gone, .gone, .gone, .gone, .gone, .gone, .gone, .gone, .gone, .gone, .gone, .gone, .gone, .gone]) (ts := ts) (by simp [e0]) (by simp) ⟨_, _, _, _, _, _, _, _, _, _, _, _, _, _, rfl⟩ (by
      rintro pre t post e τ ⟨z1, z2, z3, z4, z5, z6, z7, z8, z9, z10, z11, z12, z13, z14, rfl⟩
      have mt : t ∈ ts := by rw [← e]; simp
      obtain ⟨t', w2, w3, w4, w5, w6, w7, w8, w9, w10, w11, w12, w13, w14, e2⟩ := ev_l3 n (.scr ns) t (hts t mt) z2 z3 z4 z5 z6 z7 z8 z9 z10 z11 z12 z13 z14
      exact ⟨_, e2, _, _, _, _, _, _, _, _, _, _, _, _, _, _, rfl⟩)
  obtain ⟨τ', hl, z1, z2, z3, z4, z5, z6, z7, z8, z9, z10, z11, z12, z13, z14, rfl⟩ := hl
  have e1 := ev_safe (n + 2) p0 a0 [] ok_p0 ok_a0 ok_s0
  have e2 := ev_weak (n + 1) p0 a0 [] ok_p0 ok_a0 ok_s0
  have e3 := ev_byd (n + 1) [] [] [] ok_pn ok_an ok_s0
  rw [due_p0] at e1
  rw [weak_p0] at e2
  rw [byd_n] at e3
  have d0 : dS [] = .dict [] := rfl
  have d1 : dP [] = .dict [] := rfl
  have d2 : dA [] = .dict [] := rfl
  rw [d0] at e1 e2 e3
  rw [d1, d2] at e3
  have ex : callN tab (n + 8) 24 [.fz (.list [.int 1, .list [.tuple [.int 0, .str "b"], .tuple [.int 2, .str "b"]], .none]), .fz (.list [.int 1, .list [.tuple [.int 0, .str "b"], .tuple [.int 2, .str "b"]], .none])] = some (.fz (.bool true), [.fz (.list [.int 1, .list [.tuple [.int 0, .str "b"], .tuple [.int 2, .str "b"]], .none]), .fz (.list [.int 1, .list [.tuple [.int 0, .str "b"], .tuple [.int 2, .str "b"]], .none])]) := ev_exact 3 _ (by decide +kernel) (n + 4)
  have tp := tP_d p0
  have ta := tA_d a0
  have f1 : SW.T.dct (p0.map fun q => (eSS q.1, .fz (dHs q.2))) = tP p0 := rfl
  have f2 : SW.T.dct (a0.map fun q => (.str q.1, .fz (dWs q.2))) = tA a0 := rfl
  have g1 := dsp1
  have g2 := dsp2
  refine ⟨.scr ns, ?_⟩
  rw [call_law]
  unfold m_law
  have hl2 : l_law_4 (callN tab (n + 8)) [.scr ns, .gone, .gone, .gone, .gone, .gone, .gone, .gone, .gone, .gone, .gone, .gone, .gone, .gone, .gone] = _ := hl
  rw [sSeq_e, hl2, Option.bind_some]
  dsimp only
  have tv : (SW.T.lst [.fz (.int 1), .lst [.fz (.tuple [.int 0, .str "b"]), .fz (.tuple [.int 2, .str "b"])], .fz .none]).vw = .fz (.list [.int 1, .list [.tuple [.int 0, .str "b"], .tuple [.int 2, .str "b"]], .none]) := by
    refine vw_of rfl ?_
    simp [toDs_c]
  simp (implicitDefEqProofs := false) only [vDsp, lPrs, sSeq_e, sAsg_e, vFz_e, vTup_e, lCons_e, lNil_e, vCst_e, vLst_e, Option.bind_some, Option.map_some, List.length_cons, List.length_nil, Nat.zero_add, sizeL_le (show 1 + 1 ≤ 1000000 by decide), sizeL_le (show 1 ≤ 1000000 by decide), sizeL_le (show 1 + 1 + 1 + 1 ≤ 1000000 by decide), if_true, mkT_2, toD_fz, toD_lst, toDs_fz1, toDs_nil, g1, g2, f1, f2, tp, ta]
  have w0 : (W0.map fun x => SW.T.fz (eIS x)) = [.fz (.tuple [.int 0, .str "b"]), .fz (.tuple [.int 2, .str "b"])] := rfl
  have o1 : optD (some 1) = .int 1 := rfl
  have o2 : bydD none = .none := rfl
  rw [w0] at e2
  rw [o1] at e1
  rw [o2] at e3
  simp (implicitDefEqProofs := false) [e1, e2, e3, tv, ex, sizeL_le]
/-- THE LAW -/
theorem law_holds : ∀ ns : List Int, ns.length ≤ 63 → ∃ t, callN tab 200 36 [.scr ns] = some (tB true, [t]) := fun ns _ => ev_law 191 ns
end K70
end
theorem PySem.Challenge.cw_schoolweek_k70_whole_calls_and_safety_holds : PySem.Challenge.rw_schoolweek_k70_whole_calls_and_safety.Holds := by
  exact K70.of_eq K70.law_holds
