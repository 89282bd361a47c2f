import PyProof.Rows.All
import HandS.ForMost
import HandS.TupSets
import HandS.SortInts
import HandS.DictComp
import HandS.Conv
import HandS.IsInst
import HandS.TupAny
import HandS.TupMul
import HandS.TupLe
import HandS.Deep
import HandS.Style
import HandS.Head2
import HandS.HeadEnd
import HandS.HeadHook2
import HandS.HeadWalk
import HandS.Defaults
import HandS.TupLen
import HandS.SortRule
import KE.KDictPairs
import HandS.Codes
import KE.GoesMore
import PyProof.EnumMake
import HandS.Zip
import HandS.Walk
import HandS.Comp
import HandS.Dict
import HandS.Ends
import KE.KStateDown
import HandS.More
import HandS.Words
import HandS.WordsExc
import HandS.Head0
import HandS.Head1
import HandS.HeadHook1
import HandS.HeadHook4
import PySem.Challenge.RW_liftnets_k08_whole_stops
set_option Elab.async false
set_option linter.all false
section
set_option Elab.async false
set_option linter.all false
set_option maxRecDepth 100000
namespace PF
open PySem PySem.Spec PyProof.Rows L2

/-! ### data -/
/-- frozen data -/
inductive D where
  | non | bl (b : Bool) | int (i : Int) | str (s : Str)
  | tup (xs : List D) | lst (xs : List D)
  | dK (kvs : List (Key × D)) | dT (kvs : List (List Key × D))
  | scr (ns : List Int)
  | pt (xs : List D)      -- a tuple whose object bears no dict
/-- owned trees with frozen leaves -/
inductive W where
  | fz (d : D)
  | lst (xs : List W)
  | dK (kvs : List (Key × W)) | dT (kvs : List (List Key × W))

mutual
def W.toD : W → D
  | .fz d => d
  | .lst xs => .lst (toDs xs)
  | .dK kvs => .dK (toDK kvs)
  | .dT kvs => .dT (toDT kvs)
def toDs : List W → List D
  | [] => []
  | w :: ws => w.toD :: toDs ws
def toDK : List (Key × W) → List (Key × D)
  | [] => []
  | (k, w) :: ws => (k, w.toD) :: toDK ws
def toDT : List (List Key × W) → List (List Key × D)
  | [] => []
  | (k, w) :: ws => (k, w.toD) :: toDT ws
end

section
variable (K : PySem.W.Frag) (B : Hp)
mutual
def RepD : D → V → Prop
  | .non, v => v = .non
  | .bl b, v => v = .bl b
  | .int i, v => v = .int i
  | .str s, v => v = .str s
  | .tup xs, v => ∃ a vs, v = .ref a ∧ B a = some (.tup vs) ∧ RepDs xs vs
  | .lst xs, v => ∃ a vs, v = .ref a ∧ B a = some (.lst vs) ∧ RepDs xs vs
  | .dK kvs, v => ∃ a kv, v = .ref a ∧ B a = some (.dK kv) ∧ RepDK kvs kv
  | .dT kvs, v => ∃ a kv, v = .ref a ∧ B a = some (.dT kv) ∧ RepDT kvs kv
  | .scr ns, v => ∃ a, v = .ref a ∧ SqL K B a (ns.map V.int)
  | .pt xs, v => ∃ a vs o, v = .ref a ∧ B a = some (.frz o (.tup vs)) ∧ o.dict = none ∧ RepDs xs vs
def RepDs : List D → List V → Prop
  | [], vs => vs = []
  | d :: ds, vs => ∃ v r, vs = v :: r ∧ RepD d v ∧ RepDs ds r
def RepDK : List (Key × D) → List (Key × V) → Prop
  | [], vs => vs = []
  | (k, d) :: ds, vs => ∃ v r, vs = (k, v) :: r ∧ RepD d v ∧ RepDK ds r
def RepDT : List (List Key × D) → List (List Key × V) → Prop
  | [], vs => vs = []
  | (k, d) :: ds, vs => ∃ v r, vs = (k, v) :: r ∧ RepD d v ∧ RepDT ds r
end
variable (H : Hp)
mutual
/-- v stands for w; fp: the addresses that w owns -/
def RepW : W → V → List Addr → Prop
  | .fz d, v, fp => fp = [] ∧ RepD K B d v
  | .lst xs, v, fp => ∃ a vs fs, v = .ref a ∧ fp = a :: fs ∧ H a = some (.lst vs) ∧ RepWs xs vs fs
  | .dK kvs, v, fp => ∃ a kv fs, v = .ref a ∧ fp = a :: fs ∧ H a = some (.dK kv) ∧ RepWK kvs kv fs
  | .dT kvs, v, fp => ∃ a kv fs, v = .ref a ∧ fp = a :: fs ∧ H a = some (.dT kv) ∧ RepWT kvs kv fs
def RepWs : List W → List V → List Addr → Prop
  | [], vs, fp => vs = [] ∧ fp = []
  | w :: ws, vs, fp => ∃ v r f g, vs = v :: r ∧ fp = f ++ g ∧ RepW w v f ∧ RepWs ws r g
def RepWK : List (Key × W) → List (Key × V) → List Addr → Prop
  | [], vs, fp => vs = [] ∧ fp = []
  | (k, w) :: ws, vs, fp => ∃ v r f g, vs = (k, v) :: r ∧ fp = f ++ g ∧ RepW w v f ∧ RepWK ws r g
def RepWT : List (List Key × W) → List (List Key × V) → List Addr → Prop
  | [], vs, fp => vs = [] ∧ fp = []
  | (k, w) :: ws, vs, fp => ∃ v r f g, vs = (k, v) :: r ∧ fp = f ++ g ∧ RepW w v f ∧ RepWT ws r g
end
end

section
variable {K : PySem.W.Frag} {B B' H H' : Hp}
theorem SqT.mono {a : Addr} {xs : List V} (s : Same B B') (h : SqT K B a xs) : SqT K B' a xs := by
  rcases h with h | h
  · rcases h with h | ⟨o, h⟩
    · exact .inl (.inl (s _ _ h))
    · exact .inl (.inr ⟨o, s _ _ h⟩)
  · exact .inr h
mutual
theorem RepD.mono (s : Same B B') : ∀ {d : D} {v : V}, RepD K B d v → RepD K B' d v
  | .non, _, h => h
  | .bl _, _, h => h
  | .int _, _, h => h
  | .str _, _, h => h
  | .tup xs, _, ⟨a, vs, e, t, r⟩ => ⟨a, vs, e, s _ _ t, RepDs.mono s r⟩
  | .lst xs, _, ⟨a, vs, e, t, r⟩ => ⟨a, vs, e, s _ _ t, RepDs.mono s r⟩
  | .dK xs, _, ⟨a, vs, e, t, r⟩ => ⟨a, vs, e, s _ _ t, RepDK.mono s r⟩
  | .dT xs, _, ⟨a, vs, e, t, r⟩ => ⟨a, vs, e, s _ _ t, RepDT.mono s r⟩
  | .scr ns, _, ⟨a, e, t⟩ => ⟨a, e, s.seq t⟩
  | .pt xs, _, ⟨a, vs, o, e, t, n, r⟩ => ⟨a, vs, o, e, s _ _ t, n, RepDs.mono s r⟩
theorem RepDs.mono (s : Same B B') : ∀ {ds : List D} {vs : List V}, RepDs K B ds vs → RepDs K B' ds vs
  | [], _, h => h
  | _ :: _, _, ⟨v, r, e, h, t⟩ => ⟨v, r, e, RepD.mono s h, RepDs.mono s t⟩
theorem RepDK.mono (s : Same B B') : ∀ {ds : List (Key × D)} {vs : List (Key × V)}, RepDK K B ds vs → RepDK K B' ds vs
  | [], _, h => h
  | (_, _) :: _, _, ⟨v, r, e, h, t⟩ => ⟨v, r, e, RepD.mono s h, RepDK.mono s t⟩
theorem RepDT.mono (s : Same B B') : ∀ {ds : List (List Key × D)} {vs : List (List Key × V)}, RepDT K B ds vs → RepDT K B' ds vs
  | [], _, h => h
  | (_, _) :: _, _, ⟨v, r, e, h, t⟩ => ⟨v, r, e, RepD.mono s h, RepDT.mono s t⟩
end
mutual
/-- B grows, H may change but at the owned addresses -/
theorem RepW.move (s : Same B B') : ∀ {w : W} {v : V} {fp : List Addr}, (∀ a ∈ fp, H' a = H a) → RepW K B H w v fp → RepW K B' H' w v fp
  | .fz _, _, _, _, ⟨e, h⟩ => ⟨e, RepD.mono s h⟩
  | .lst _, _, _, k, ⟨a, vs, fs, e1, e2, h, r⟩ => ⟨a, vs, fs, e1, e2, by rw [k a (by simp [e2])]; exact h, RepWs.move s (fun b hb => k b (by simp [e2, hb])) r⟩
  | .dK _, _, _, k, ⟨a, vs, fs, e1, e2, h, r⟩ => ⟨a, vs, fs, e1, e2, by rw [k a (by simp [e2])]; exact h, RepWK.move s (fun b hb => k b (by simp [e2, hb])) r⟩
  | .dT _, _, _, k, ⟨a, vs, fs, e1, e2, h, r⟩ => ⟨a, vs, fs, e1, e2, by rw [k a (by simp [e2])]; exact h, RepWT.move s (fun b hb => k b (by simp [e2, hb])) r⟩
theorem RepWs.move (s : Same B B') : ∀ {ws : List W} {vs : List V} {fp : List Addr}, (∀ a ∈ fp, H' a = H a) → RepWs K B H ws vs fp → RepWs K B' H' ws vs fp
  | [], _, _, _, h => h
  | _ :: _, _, _, k, ⟨v, r, f, g, e1, e2, h, t⟩ => ⟨v, r, f, g, e1, e2, RepW.move s (fun b hb => k b (by simp [e2, hb])) h, RepWs.move s (fun b hb => k b (by simp [e2, hb])) t⟩
theorem RepWK.move (s : Same B B') : ∀ {ws : List (Key × W)} {vs : List (Key × V)} {fp : List Addr}, (∀ a ∈ fp, H' a = H a) → RepWK K B H ws vs fp → RepWK K B' H' ws vs fp
  | [], _, _, _, h => h
  | (_, _) :: _, _, _, k, ⟨v, r, f, g, e1, e2, h, t⟩ => ⟨v, r, f, g, e1, e2, RepW.move s (fun b hb => k b (by simp [e2, hb])) h, RepWK.move s (fun b hb => k b (by simp [e2, hb])) t⟩
theorem RepWT.move (s : Same B B') : ∀ {ws : List (List Key × W)} {vs : List (List Key × V)} {fp : List Addr}, (∀ a ∈ fp, H' a = H a) → RepWT K B H ws vs fp → RepWT K B' H' ws vs fp
  | [], _, _, _, h => h
  | (_, _) :: _, _, _, k, ⟨v, r, f, g, e1, e2, h, t⟩ => ⟨v, r, f, g, e1, e2, RepW.move s (fun b hb => k b (by simp [e2, hb])) h, RepWT.move s (fun b hb => k b (by simp [e2, hb])) t⟩
end
mutual
/-- what is owned stands in the heap -/
theorem RepW.alive : ∀ {w : W} {v : V} {fp : List Addr}, RepW K B H w v fp → ∀ a ∈ fp, H a ≠ none
  | .fz _, _, _, ⟨e, _⟩, a, ha => by simp [e] at ha
  | .lst _, _, _, ⟨b, vs, fs, e1, e2, h, r⟩, a, ha => by
    rw [e2] at ha
    rcases List.mem_cons.mp ha with rfl | ha
    · rw [h]; simp
    · exact RepWs.alive r a ha
  | .dK _, _, _, ⟨b, vs, fs, e1, e2, h, r⟩, a, ha => by
    rw [e2] at ha
    rcases List.mem_cons.mp ha with rfl | ha
    · rw [h]; simp
    · exact RepWK.alive r a ha
  | .dT _, _, _, ⟨b, vs, fs, e1, e2, h, r⟩, a, ha => by
    rw [e2] at ha
    rcases List.mem_cons.mp ha with rfl | ha
    · rw [h]; simp
    · exact RepWT.alive r a ha
theorem RepWs.alive : ∀ {ws : List W} {vs : List V} {fp : List Addr}, RepWs K B H ws vs fp → ∀ a ∈ fp, H a ≠ none
  | [], _, _, h, a, ha => by rw [h.2] at ha; cases ha
  | _ :: _, _, _, ⟨v, r, f, g, e1, e2, h, t⟩, a, ha => by
    rw [e2] at ha
    rcases List.mem_append.mp ha with ha | ha
    · exact RepW.alive h a ha
    · exact RepWs.alive t a ha
theorem RepWK.alive : ∀ {ws : List (Key × W)} {vs : List (Key × V)} {fp : List Addr}, RepWK K B H ws vs fp → ∀ a ∈ fp, H a ≠ none
  | [], _, _, h, a, ha => by rw [h.2] at ha; cases ha
  | (_, _) :: _, _, _, ⟨v, r, f, g, e1, e2, h, t⟩, a, ha => by
    rw [e2] at ha
    rcases List.mem_append.mp ha with ha | ha
    · exact RepW.alive h a ha
    · exact RepWK.alive t a ha
theorem RepWT.alive : ∀ {ws : List (List Key × W)} {vs : List (List Key × V)} {fp : List Addr}, RepWT K B H ws vs fp → ∀ a ∈ fp, H a ≠ none
  | [], _, _, h, a, ha => by rw [h.2] at ha; cases ha
  | (_, _) :: _, _, _, ⟨v, r, f, g, e1, e2, h, t⟩, a, ha => by
    rw [e2] at ha
    rcases List.mem_append.mp ha with ha | ha
    · exact RepW.alive h a ha
    · exact RepWT.alive t a ha
end
mutual
/-- seen as data: where B and the owned objects stand in B' -/
theorem RepW.frozen (s : Same B B') : ∀ {w : W} {v : V} {fp : List Addr}, (∀ a ∈ fp, B' a = H a) → RepW K B H w v fp → RepD K B' w.toD v
  | .fz d, _, _, _, ⟨_, h⟩ => by
    unfold W.toD
    exact RepD.mono s h
  | .lst xs, _, _, k, ⟨a, vs, fs, e1, e2, h, r⟩ => by
    unfold W.toD
    exact ⟨a, vs, e1, by rw [k a (by simp [e2])]; exact h, RepWs.frozen s (fun b hb => k b (by simp [e2, hb])) r⟩
  | .dK xs, _, _, k, ⟨a, vs, fs, e1, e2, h, r⟩ => by
    unfold W.toD
    exact ⟨a, vs, e1, by rw [k a (by simp [e2])]; exact h, RepWK.frozen s (fun b hb => k b (by simp [e2, hb])) r⟩
  | .dT xs, _, _, k, ⟨a, vs, fs, e1, e2, h, r⟩ => by
    unfold W.toD
    exact ⟨a, vs, e1, by rw [k a (by simp [e2])]; exact h, RepWT.frozen s (fun b hb => k b (by simp [e2, hb])) r⟩
theorem RepWs.frozen (s : Same B B') : ∀ {ws : List W} {vs : List V} {fp : List Addr}, (∀ a ∈ fp, B' a = H a) → RepWs K B H ws vs fp → RepDs K B' (toDs ws) vs
  | [], _, _, _, h => by
    unfold toDs
    exact h.1
  | _ :: _, _, _, k, ⟨v, r, f, g, e1, e2, h, t⟩ => by
    unfold toDs
    exact ⟨v, r, e1, RepW.frozen s (fun b hb => k b (by simp [e2, hb])) h, RepWs.frozen s (fun b hb => k b (by simp [e2, hb])) t⟩
theorem RepWK.frozen (s : Same B B') : ∀ {ws : List (Key × W)} {vs : List (Key × V)} {fp : List Addr}, (∀ a ∈ fp, B' a = H a) → RepWK K B H ws vs fp → RepDK K B' (toDK ws) vs
  | [], _, _, _, h => by
    unfold toDK
    exact h.1
  | (_, _) :: _, _, _, k, ⟨v, r, f, g, e1, e2, h, t⟩ => by
    unfold toDK
    exact ⟨v, r, e1, RepW.frozen s (fun b hb => k b (by simp [e2, hb])) h, RepWK.frozen s (fun b hb => k b (by simp [e2, hb])) t⟩
theorem RepWT.frozen (s : Same B B') : ∀ {ws : List (List Key × W)} {vs : List (List Key × V)} {fp : List Addr}, (∀ a ∈ fp, B' a = H a) → RepWT K B H ws vs fp → RepDT K B' (toDT ws) vs
  | [], _, _, _, h => by
    unfold toDT
    exact h.1
  | (_, _) :: _, _, _, k, ⟨v, r, f, g, e1, e2, h, t⟩ => by
    unfold toDT
    exact ⟨v, r, e1, RepW.frozen s (fun b hb => k b (by simp [e2, hb])) h, RepWT.frozen s (fun b hb => k b (by simp [e2, hb])) t⟩
end
end
end PF
end

section
set_option Elab.async false
set_option linter.all false
set_option maxRecDepth 100000
namespace PF
open PySem PySem.Spec PyProof.Rows L2

abbrev Ent := W × V
section
variable (K : PySem.W.Frag) (B H : Hp)
def RepEs : List Ent → List Addr → Prop
  | [], fp => fp = []
  | (w, v) :: es, fp => ∃ f g, fp = f ++ g ∧ RepW K B H w v f ∧ RepEs es g
end
/-- B grew by addresses that Kp doesn't hold -/
structure Ext (Kp B B' : Hp) : Prop where
  same : Same B B'
  new : ∀ a, B' a ≠ none → B a ≠ none ∨ Kp a = none
structure Rp (K : PySem.W.Frag) (Kp B H : Hp) (es : List Ent) : Prop where
  sb : Same B H
  sk : Same Kp H
  ow : ∃ fp, RepEs K B H es fp ∧ fp.Nodup ∧ ∀ a ∈ fp, B a = none ∧ Kp a = none
section
variable {K : PySem.W.Frag} {Kp B B' B'' H H' : Hp} {es es' : List Ent}
theorem Ext.refl : Ext Kp B B := ⟨Same.refl _, fun _ h => .inl h⟩
theorem Ext.trans (a : Ext Kp B B') (b : Ext Kp B' B'') : Ext Kp B B'' := ⟨a.same.trans b.same, fun x h => (b.new x h).elim (fun q => a.new x q) .inr⟩
theorem RepEs.move (s : Same B B') : ∀ {es : List Ent} {fp : List Addr}, (∀ a ∈ fp, H' a = H a) → RepEs K B H es fp → RepEs K B' H' es fp
  | [], _, _, h => h
  | (_, _) :: _, _, k, ⟨f, g, e, h, t⟩ => ⟨f, g, e, RepW.move s (fun b hb => k b (by simp [e, hb])) h, RepEs.move s (fun b hb => k b (by simp [e, hb])) t⟩
theorem RepEs.alive : ∀ {es : List Ent} {fp : List Addr}, RepEs K B H es fp → ∀ a ∈ fp, H a ≠ none
  | [], _, h, a, ha => by
    have h : _ = [] := h
    rw [h] at ha; cases ha
  | (_, _) :: _, _, ⟨f, g, e, h, t⟩, a, ha => by
    rw [e] at ha
    rcases List.mem_append.mp ha with ha | ha
    · exact RepW.alive h a ha
    · exact RepEs.alive t a ha
theorem RepEs.append : ∀ {es es' : List Ent} {f g : List Addr}, RepEs K B H es f → RepEs K B H es' g → RepEs K B H (es ++ es') (f ++ g)
  | [], _, _, _, h, t => by
    have h : _ = [] := h
    rw [h]; exact t
  | (_, _) :: _, _, _, _, ⟨f, g, e, h, t⟩, u => ⟨f, _, by rw [e, List.append_assoc], h, RepEs.append t u⟩
theorem RepEs.split : ∀ {es es' : List Ent} {fp : List Addr}, RepEs K B H (es ++ es') fp → ∃ f g, fp = f ++ g ∧ RepEs K B H es f ∧ RepEs K B H es' g
  | [], _, fp, h => ⟨[], fp, rfl, rfl, h⟩
  | (_, _) :: _, _, _, ⟨f, g, e, h, t⟩ => by
    obtain ⟨f', g', e', h', t'⟩ := RepEs.split t
    exact ⟨f ++ f', g', by rw [e, e', List.append_assoc], ⟨f, f', rfl, h, h'⟩, t'⟩
theorem RepEs.perm {es es' : List Ent} (p : es.Perm es') : ∀ {fp : List Addr}, RepEs K B H es fp → ∃ fp', fp.Perm fp' ∧ RepEs K B H es' fp' := by
  induction p with
  | nil => exact fun {fp} h => ⟨fp, .refl _, h⟩
  | cons x p ih =>
    intro fp h
    obtain ⟨w, v⟩ := x
    obtain ⟨f, g, e, h, t⟩ := h
    obtain ⟨g', pg, t'⟩ := ih t
    exact ⟨f ++ g', by rw [e]; exact pg.append_left f, f, g', rfl, h, t'⟩
  | swap x y l =>
    intro fp h
    obtain ⟨w, v⟩ := x
    obtain ⟨w', v'⟩ := y
    obtain ⟨f, g, e, h, f', g', e', h', t⟩ := h
    refine ⟨f' ++ (f ++ g'), ?_, f', f ++ g', rfl, h', f, g', rfl, h, t⟩
    rw [e, e', ← List.append_assoc, ← List.append_assoc]
    exact (List.perm_append_comm).append_right g'
  | trans p q ih1 ih2 =>
    intro fp h
    obtain ⟨f1, p1, h1⟩ := ih1 h
    obtain ⟨f2, p2, h2⟩ := ih2 h1
    exact ⟨f2, p1.trans p2, h2⟩
theorem Rp.perm (r : Rp K Kp B H es) (p : es.Perm es') : Rp K Kp B H es' := by
  obtain ⟨fp, h, nd, d⟩ := r.ow
  obtain ⟨fp', q, h'⟩ := h.perm p
  exact ⟨r.sb, r.sk, fp', h', q.nodup nd, fun a ha => d a (q.mem_iff.mpr ha)⟩
theorem Rp.right {es1 : List Ent} (r : Rp K Kp B H (es1 ++ es)) : Rp K Kp B H es := by
  obtain ⟨fp, h, nd, d⟩ := r.ow
  obtain ⟨f, g, e, _, t⟩ := h.split
  exact ⟨r.sb, r.sk, g, t, (List.nodup_append.mp (e ▸ nd)).2.1, fun a ha => d a (by simp [e, ha])⟩
theorem Rp.tail {x : Ent} (r : Rp K Kp B H (x :: es)) : Rp K Kp B H es := Rp.right (es1 := [x]) r
theorem Rp.left {es1 : List Ent} (r : Rp K Kp B H (es1 ++ es)) : Rp K Kp B H es1 := (r.perm List.perm_append_comm).right
/-- a new object that nobody owns -/
theorem Rp.junk (r : Rp K Kp B H es) {p : Addr} {o : HO} (hp : H p = none) : Rp K Kp B (upd H p o) es := by
  obtain ⟨fp, h, nd, d⟩ := r.ow
  have s : Same H (upd H p o) := fun b x e => by rw [upd_ne (ne_of_none e hp)]; exact e
  refine ⟨r.sb.trans s, r.sk.trans s, fp, h.move (Same.refl _) (fun a ha => ?_), nd, d⟩
  refine upd_ne fun e => h.alive a ha ?_
  rw [e]; exact hp
theorem Rp.leaf (r : Rp K Kp B H es) {d : D} {v : V} (h : RepD K B d v) : Rp K Kp B H ((.fz d, v) :: es) := by
  obtain ⟨fp, h', nd, q⟩ := r.ow
  exact ⟨r.sb, r.sk, fp, ⟨[], fp, rfl, ⟨rfl, h⟩, h'⟩, nd, q⟩
theorem Rp.leafOf {d : D} {v : V} (r : Rp K Kp B H ((.fz d, v) :: es)) : RepD K B d v := by
  obtain ⟨fp, ⟨f, g, e, ⟨_, h⟩, t⟩, nd, q⟩ := r.ow
  exact h
theorem Rp.dup {d : D} {v : V} (r : Rp K Kp B H ((.fz d, v) :: es)) : Rp K Kp B H ((.fz d, v) :: (.fz d, v) :: es) := r.leaf r.leafOf
theorem Rp.mem (r : Rp K Kp B H es) {w : W} {v : V} (h : (w, v) ∈ es) : ∃ fp, RepW K B H w v fp ∧ ∀ a ∈ fp, B a = none ∧ Kp a = none := by
  obtain ⟨l1, l2, e⟩ := List.append_of_mem h
  subst e
  obtain ⟨fp, h, nd, d⟩ := r.right.ow
  obtain ⟨f, g, e, h, t⟩ := h
  exact ⟨f, h, fun a ha => d a (by simp [e, ha])⟩
/-- as it stands in the heap -/
theorem Rp.now (r : Rp K Kp B H es) {w : W} {v : V} (h : (w, v) ∈ es) : RepD K H w.toD v := by
  obtain ⟨fp, h, _⟩ := r.mem h
  exact h.frozen r.sb fun _ _ => rfl
theorem Rp.grow (r : Rp K Kp B H es) (x : Ext Kp B B') (s : Same B' H) (hn : ∀ fp, RepEs K B H es fp → ∀ a ∈ fp, B' a = none) : Rp K Kp B' H es := by
  obtain ⟨fp, h, nd, d⟩ := r.ow
  exact ⟨s, r.sk, fp, h.move x.same fun _ _ => rfl, nd, fun a ha => ⟨hn fp h a ha, (d a ha).2⟩⟩
open Classical in
/-- what is owned becomes frozen -/
theorem Rp.freeze {w : W} {v : V} (r : Rp K Kp B H ((w, v) :: es)) : ∃ B', Ext Kp B B' ∧ Rp K Kp B' H ((.fz w.toD, v) :: es) := by
  obtain ⟨fp, ⟨f, g, e, h, t⟩, nd, d⟩ := r.ow
  subst e
  obtain ⟨nf, ng, dj⟩ := List.nodup_append.mp nd
  have s : Same B (fun a => if a ∈ f then H a else B a) := fun a o q => by
    show (if a ∈ f then H a else B a) = some o
    split
    · exact r.sb a o q
    · exact q
  refine ⟨fun a => if a ∈ f then H a else B a, ⟨s, fun a q => ?_⟩, ⟨fun a o q => ?_, r.sk, g, ⟨[], g, rfl, ⟨rfl, ?_⟩, ?_⟩, ng, fun a ha => ?_⟩⟩
  · by_cases hf : a ∈ f
    · exact .inr (d a (by simp [hf])).2
    · refine .inl ?_
      have q : (if a ∈ f then H a else B a) ≠ none := q
      rw [if_neg hf] at q
      exact q
  · by_cases hf : a ∈ f
    · have q : (if a ∈ f then H a else B a) = some o := q
      rw [if_pos hf] at q
      exact q
    · have q : (if a ∈ f then H a else B a) = some o := q
      rw [if_neg hf] at q
      exact r.sb a o q
  · exact h.frozen s fun a ha => by
      show (if a ∈ f then H a else B a) = H a
      rw [if_pos ha]
  · exact t.move s fun _ _ => rfl
  · have hf : a ∉ f := fun hf => dj a hf a ha rfl
    refine ⟨?_, (d a (by simp [ha])).2⟩
    show (if a ∈ f then H a else B a) = none
    rw [if_neg hf]
    exact (d a (by simp [ha])).1

/-! ### nodes -/
/-- a node's object and its parts -/
inductive NodeR : W → HO → List Ent → Prop where
  | lst {ws : List W} {vs : List V} (h : ws.length = vs.length) : NodeR (.lst ws) (.lst vs) (ws.zip vs)
  | dK {ks : List Key} {ws : List W} {vs : List V} (h : ws.length = vs.length) (h' : ks.length = ws.length) : NodeR (.dK (ks.zip ws)) (.dK (ks.zip vs)) (ws.zip vs)
  | dT {ks : List (List Key)} {ws : List W} {vs : List V} (h : ws.length = vs.length) (h' : ks.length = ws.length) : NodeR (.dT (ks.zip ws)) (.dT (ks.zip vs)) (ws.zip vs)
theorem RepWs.ent : ∀ {ws : List W} {vs : List V} {fp : List Addr}, RepWs K B H ws vs fp → ws.length = vs.length ∧ RepEs K B H (ws.zip vs) fp
  | [], _, _, h => by
    obtain ⟨rfl, rfl⟩ := h
    exact ⟨rfl, rfl⟩
  | _ :: _, _, _, ⟨v, r, f, g, e1, e2, h, t⟩ => by
    subst e1
    obtain ⟨l, q⟩ := RepWs.ent t
    exact ⟨by simp [l], f, g, e2, h, q⟩
theorem RepWs.of : ∀ {ws : List W} {vs : List V} {fp : List Addr}, ws.length = vs.length → RepEs K B H (ws.zip vs) fp → RepWs K B H ws vs fp
  | [], [], _, _, h => ⟨rfl, h⟩
  | [], _ :: _, _, l, _ => by simp at l
  | _ :: _, [], _, l, _ => by simp at l
  | _ :: _, v :: r, _, l, ⟨f, g, e, h, t⟩ => ⟨v, r, f, g, rfl, e, h, RepWs.of (by simpa using l) t⟩
theorem RepWK.ent : ∀ {kw : List (Key × W)} {kv : List (Key × V)} {fp : List Addr}, RepWK K B H kw kv fp → ∃ (ks : List Key) (ws : List W) (vs : List V), kw = ks.zip ws ∧ kv = ks.zip vs ∧ ws.length = vs.length ∧ ks.length = ws.length ∧ RepEs K B H (ws.zip vs) fp
  | [], _, _, h => by
    obtain ⟨rfl, rfl⟩ := h
    exact ⟨[], [], [], rfl, rfl, rfl, rfl, rfl⟩
  | (k, w) :: _, _, _, ⟨v, r, f, g, e1, e2, h, t⟩ => by
    subst e1
    obtain ⟨ks, ws, vs, a1, a2, a3, a4, q⟩ := RepWK.ent t
    exact ⟨k :: ks, w :: ws, v :: vs, by rw [a1]; rfl, by rw [a2]; rfl, by simp [a3], by simp [a4], f, g, e2, h, q⟩
theorem RepWK.of : ∀ {ks : List Key} {ws : List W} {vs : List V} {fp : List Addr}, ws.length = vs.length → ks.length = ws.length → RepEs K B H (ws.zip vs) fp → RepWK K B H (ks.zip ws) (ks.zip vs) fp
  | [], [], [], _, _, _, h => ⟨rfl, h⟩
  | [], _ :: _, _, _, _, l, _ => by simp at l
  | _ :: _, [], _, _, _, l, _ => by simp at l
  | [], [], _ :: _, _, l, _, _ => by simp at l
  | _ :: _, _ :: _, [], _, l, _, _ => by simp at l
  | _ :: _, _ :: _, v :: r, _, l, l', ⟨f, g, e, h, t⟩ => ⟨v, _, f, g, rfl, e, h, RepWK.of (by simpa using l) (by simpa using l') t⟩
theorem RepWT.ent : ∀ {kw : List (List Key × W)} {kv : List (List Key × V)} {fp : List Addr}, RepWT K B H kw kv fp → ∃ (ks : List (List Key)) (ws : List W) (vs : List V), kw = ks.zip ws ∧ kv = ks.zip vs ∧ ws.length = vs.length ∧ ks.length = ws.length ∧ RepEs K B H (ws.zip vs) fp
  | [], _, _, h => by
    obtain ⟨rfl, rfl⟩ := h
    exact ⟨[], [], [], rfl, rfl, rfl, rfl, rfl⟩
  | (k, w) :: _, _, _, ⟨v, r, f, g, e1, e2, h, t⟩ => by
    subst e1
    obtain ⟨ks, ws, vs, a1, a2, a3, a4, q⟩ := RepWT.ent t
    exact ⟨k :: ks, w :: ws, v :: vs, by rw [a1]; rfl, by rw [a2]; rfl, by simp [a3], by simp [a4], f, g, e2, h, q⟩
theorem RepWT.of : ∀ {ks : List (List Key)} {ws : List W} {vs : List V} {fp : List Addr}, ws.length = vs.length → ks.length = ws.length → RepEs K B H (ws.zip vs) fp → RepWT K B H (ks.zip ws) (ks.zip vs) fp
  | [], [], [], _, _, _, h => ⟨rfl, h⟩
  | [], _ :: _, _, _, _, l, _ => by simp at l
  | _ :: _, [], _, _, _, l, _ => by simp at l
  | [], [], _ :: _, _, l, _, _ => by simp at l
  | _ :: _, _ :: _, [], _, l, _, _ => by simp at l
  | _ :: _, _ :: _, v :: r, _, l, l', ⟨f, g, e, h, t⟩ => ⟨v, _, f, g, rfl, e, h, RepWT.of (by simpa using l) (by simpa using l') t⟩
def W.isNode : W → Bool
  | .fz _ => false
  | _ => true
theorem RepW.node {w : W} {v : V} {fp : List Addr} (h : RepW K B H w v fp) (n : w.isNode = true) : ∃ a o es fs, v = .ref a ∧ fp = a :: fs ∧ H a = some o ∧ NodeR w o es ∧ RepEs K B H es fs := by
  cases w with
  | fz d => cases n
  | lst xs =>
    obtain ⟨a, vs, fs, e1, e2, h, r⟩ := h
    obtain ⟨l, q⟩ := r.ent
    exact ⟨a, _, _, fs, e1, e2, h, .lst l, q⟩
  | dK xs =>
    obtain ⟨a, vs, fs, e1, e2, h, r⟩ := h
    obtain ⟨ks, ws, us, a1, a2, a3, a4, q⟩ := r.ent
    subst a1; subst a2
    exact ⟨a, _, _, fs, e1, e2, h, .dK a3 a4, q⟩
  | dT xs =>
    obtain ⟨a, vs, fs, e1, e2, h, r⟩ := h
    obtain ⟨ks, ws, us, a1, a2, a3, a4, q⟩ := r.ent
    subst a1; subst a2
    exact ⟨a, _, _, fs, e1, e2, h, .dT a3 a4, q⟩
theorem NodeR.rep {w : W} {o : HO} {es : List Ent} (n : NodeR w o es) {a : Addr} {fs : List Addr} (h : H a = some o) (q : RepEs K B H es fs) : RepW K B H w (.ref a) (a :: fs) := by
  cases n with
  | lst l => exact ⟨a, _, fs, rfl, rfl, h, .of l q⟩
  | dK l l' => exact ⟨a, _, fs, rfl, rfl, h, .of l l' q⟩
  | dT l l' => exact ⟨a, _, fs, rfl, rfl, h, .of l l' q⟩
/-- a new object made of the first entries -/
theorem Rp.alloc {w : W} {o : HO} {p : Addr} (n : NodeR w o es') (r : Rp K Kp B H (es' ++ es)) (hp : H p = none) : Rp K Kp B (upd H p o) ((w, .ref p) :: es) := by
  obtain ⟨fp, h, nd, d⟩ := r.ow
  have np : ∀ a ∈ fp, a ≠ p := fun a ha e => h.alive a ha (by rw [e]; exact hp)
  have s : Same H (upd H p o) := fun b x e => by rw [upd_ne (ne_of_none e hp)]; exact e
  obtain ⟨f, g, e, h1, h2⟩ := h.split
  subst e
  refine ⟨r.sb.trans s, r.sk.trans s, (p :: f) ++ g, ⟨p :: f, g, rfl, n.rep upd_same (h1.move (Same.refl _) fun a ha => upd_ne (np a (by simp [ha]))), h2.move (Same.refl _) fun a ha => upd_ne (np a (by simp [ha]))⟩, ?_, fun a ha => ?_⟩
  · exact List.nodup_cons.mpr ⟨fun ha => np p ha rfl, nd⟩
  · rcases List.mem_cons.mp ha with rfl | ha
    · exact ⟨r.sb.free hp, r.sk.free hp⟩
    · exact d a ha

/-! ### places within a tree -/
inductive Step where
  | ix (n : Nat)
def lookK {α κ : Type} [DecidableEq κ] (k : κ) : List (κ × α) → Option α
  | [] => none
  | (k', x) :: r => if k' = k then some x else lookK k r
def putK {α κ : Type} [DecidableEq κ] (k : κ) (y : α) (kvs : List (κ × α)) : List (κ × α) :=
  if kvs.any fun kv => decide (kv.1 = k) then kvs.map fun kv => if kv.1 = k then (kv.1, y) else kv else kvs ++ [(k, y)]
def W.sub : W → Step → Option W
  | .lst xs, .ix n => xs[n]?
  | _, _ => none
def W.setS (w : W) (s : Step) (y : W) : W :=
  match w, s with
  | .lst xs, .ix n => .lst (xs.set n y)
  | w, _ => w
def W.at (w : W) : List Step → Option W
  | [] => some w
  | s :: r => match w.sub s with
    | some x => x.at r
    | none => none
def W.setAt (w : W) (y : W) : List Step → W
  | [] => y
  | s :: r => match w.sub s with
    | some x => w.setS s (x.setAt y r)
    | none => w
/-- part and rest -/
def Hole (K : PySem.W.Frag) (B H : Hp) (v0 : V) (fr : List Addr) (set : W → W) (v : V) : Prop :=
  ∀ (B' H' : Hp) (w' : W) (f' : List Addr), Same B B' → (∀ a ∈ fr, H' a = H a) → RepW K B' H' w' v f' → ∃ fp', fp'.Perm (f' ++ fr) ∧ RepW K B' H' (set w') v0 fp'
theorem RepWs.hole : ∀ {ws : List W} {vs : List V} {fp : List Addr} {n : Nat} {w : W}, RepWs K B H ws vs fp → ws[n]? = some w → ∃ v f fr, vs[n]? = some v ∧ fp.Perm (f ++ fr) ∧ RepW K B H w v f ∧
    ∀ (B' H' : Hp) (w' : W) (f' : List Addr), Same B B' → (∀ a ∈ fr, H' a = H a) → RepW K B' H' w' v f' → ∃ fp', fp'.Perm (f' ++ fr) ∧ RepWs K B' H' (ws.set n w') vs fp'
  | [], _, _, n, _, _, e => by simp at e
  | _ :: _, _, _, 0, w, ⟨v, r, f, g, e1, e2, h, t⟩, e => by
    simp only [List.getElem?_cons_zero, Option.some.injEq] at e
    subst e
    subst e1; subst e2
    refine ⟨v, f, g, rfl, .refl _, h, fun B' H' w' f' s k q => ⟨f' ++ g, .refl _, v, r, f', g, rfl, rfl, q, t.move s k⟩⟩
  | _ :: _, _, _, n + 1, w, ⟨v, r, f, g, e1, e2, h, t⟩, e => by
    subst e1; subst e2
    obtain ⟨v', f1, fr, a1, a2, a3, a4⟩ := RepWs.hole t (n := n) (w := w) (by simpa using e)
    refine ⟨v', f1, f ++ fr, by simpa using a1, ?_, a3, fun B' H' w' f' s k q => ?_⟩
    · refine (a2.append_left f).trans ?_
      rw [← List.append_assoc, ← List.append_assoc]
      exact List.perm_append_comm.append_right fr
    · obtain ⟨fp', p, z⟩ := a4 B' H' w' f' s (fun a ha => k a (by simp [ha])) q
      refine ⟨f ++ fp', ?_, v, r, f, fp', rfl, rfl, h.move s fun a ha => k a (by simp [ha]), z⟩
      refine (p.append_left f).trans ?_
      rw [← List.append_assoc, ← List.append_assoc]
      exact List.perm_append_comm.append_right fr
end
end PF
end

section
set_option Elab.async false
set_option linter.all false
set_option maxRecDepth 100000
namespace PF
open PySem PySem.Spec PyProof.Rows L2

def subV : HO → Step → Option V
  | .lst vs, .ix n => vs[n]?
  | _, _ => none
/-- the value at a path from v -/
def PthV (H : Hp) : V → List Step → V → Prop
  | v, [], x => v = x
  | v, s :: r, x => ∃ a o y, v = .ref a ∧ H a = some o ∧ subV o s = some y ∧ PthV H y r x
section
variable {K : PySem.W.Frag} {Kp B B' B'' H H' : Hp} {es es' : List Ent}
theorem PthV.mono (s : Same H H') : ∀ {st : List Step} {v x : V}, PthV H v st x → PthV H' v st x
  | [], _, _, h => h
  | _ :: _, _, _, ⟨a, o, y, e1, e2, e3, h⟩ => ⟨a, o, y, e1, s _ _ e2, e3, PthV.mono s h⟩
theorem PthV.inj : ∀ {st : List Step} {v x y : V}, PthV H v st x → PthV H v st y → x = y
  | [], _, _, _, h, h' => h.symm.trans h'
  | _ :: _, _, _, _, ⟨a, o, y, e1, e2, e3, h⟩, ⟨a', o', y', f1, f2, f3, h'⟩ => by
    rw [e1] at f1; cases f1
    rw [e2] at f2; cases f2
    rw [e3] at f3; cases f3
    exact PthV.inj h h'
theorem PthV.snoc : ∀ {st : List Step} {v x y : V} {a : Addr} {o : HO} {s : Step}, PthV H v st x → x = .ref a → H a = some o → subV o s = some y → PthV H v (st ++ [s]) y
  | [], _, _, y, a, o, s, h, e, h1, h2 => ⟨a, o, y, h.trans e, h1, h2, rfl⟩
  | _ :: _, _, _, _, _, _, _, ⟨a, o, y, e1, e2, e3, h⟩, e, h1, h2 => ⟨a, o, y, e1, e2, e3, PthV.snoc h e h1 h2⟩
theorem at_snoc : ∀ {st : List Step} {w x : W} {s : Step}, w.at st = some x → w.at (st ++ [s]) = x.sub s
  | [], w, x, s, h => by
    have h : some w = some x := h
    cases h
    show (match w.sub s with | some x => x.at [] | none => none) = w.sub s
    cases w.sub s <;> rfl
  | s' :: r, w, x, s, h => by
    have h : (match w.sub s' with | some x => x.at r | none => none) = some x := h
    show (match w.sub s' with | some x => x.at (r ++ [s]) | none => none) = x.sub s
    cases q : w.sub s' with
    | none => rw [q] at h; cases h
    | some z =>
      rw [q] at h
      exact at_snoc (st := r) h
/-- a part of a node -/
theorem RepW.hole1 {w0 w : W} {v0 : V} {fp : List Addr} {s : Step} (h : RepW K B H w0 v0 fp) (e : w0.sub s = some w) : ∃ a o v f fr, v0 = .ref a ∧ H a = some o ∧ subV o s = some v ∧ fp.Perm (f ++ fr) ∧ RepW K B H w v f ∧ Hole K B H v0 fr (fun y => w0.setS s y) v := by
  cases w0 with
  | fz d => cases s <;> cases e
  | lst xs =>
    cases s with
    | ix n =>
      obtain ⟨a, vs, fs, e1, e2, ha, r⟩ := h
      obtain ⟨v, f, fr, q1, q2, q3, q4⟩ := r.hole e
      refine ⟨a, _, v, f, a :: fr, e1, ha, q1, ?_, q3, fun B' H' w' f' s k q => ?_⟩
      · rw [e2]
        exact (q2.cons a).trans List.perm_middle.symm
      · obtain ⟨fp', p, z⟩ := q4 B' H' w' f' s (fun b hb => k b (by simp [hb])) q
        exact ⟨a :: fp', (p.cons a).trans List.perm_middle.symm, a, vs, fp', e1, rfl, by rw [k a (by simp)]; exact ha, z⟩
  | dK xs => cases s; cases e
  | dT xs => cases s; cases e
theorem RepW.hole : ∀ {st : List Step} {w0 w : W} {v0 : V} {fp : List Addr}, RepW K B H w0 v0 fp → w0.at st = some w → ∃ v f fr, PthV H v0 st v ∧ fp.Perm (f ++ fr) ∧ RepW K B H w v f ∧ Hole K B H v0 fr (fun y => w0.setAt y st) v
  | [], w0, w, v0, fp, h, e => by
    have e : some w0 = some w := e
    cases e
    exact ⟨v0, fp, [], rfl, by simp, h, fun B' H' w' f' s k q => ⟨f', by simp, q⟩⟩
  | s :: r, w0, w, v0, fp, h, e => by
    have e : (match w0.sub s with | some x => x.at r | none => none) = some w := e
    cases q : w0.sub s with
    | none => rw [q] at e; cases e
    | some z =>
      rw [q] at e
      have e : z.at r = some w := e
      obtain ⟨a, o, v1, f1, fr1, a1, a2, a3, a4, a5, a6⟩ := h.hole1 q
      obtain ⟨v, f, fr, b1, b2, b3, b4⟩ := RepW.hole a5 e
      refine ⟨v, f, fr ++ fr1, ⟨a, o, v1, a1, a2, a3, b1⟩, ?_, b3, fun B' H' w' f' s' k q' => ?_⟩
      · refine a4.trans ?_
        rw [← List.append_assoc]
        exact b2.append_right fr1
      · obtain ⟨fp', p, t⟩ := b4 B' H' w' f' s' (fun b hb => k b (by simp [hb])) q'
        obtain ⟨fp2, p2, t2⟩ := a6 B' H' _ fp' s' (fun b hb => k b (by simp [hb])) t
        refine ⟨fp2, p2.trans ?_, ?_⟩
        · rw [← List.append_assoc]
          exact p.append_right fr1
        · show RepW K B' H' (match w0.sub s with | some x => w0.setS s (x.setAt w' r) | none => w0) v0 fp2
          rw [q]
          exact t2
/-- the value at a path; what it shows -/
theorem Rp.path {w0 w : W} {v0 : V} {st : List Step} (r : Rp K Kp B H ((w0, v0) :: es)) (e : w0.at st = some w) : ∃ v f, PthV H v0 st v ∧ RepW K B H w v f ∧ ∀ a ∈ f, B a = none ∧ Kp a = none := by
  obtain ⟨fp, ⟨f, g, e1, h, t⟩, nd, d⟩ := r.ow
  obtain ⟨v, f1, fr, q1, q2, q3, _⟩ := h.hole e
  exact ⟨v, f1, q1, q3, fun a ha => d a (by rw [e1]; exact List.mem_append_left _ (q2.mem_iff.mpr (List.mem_append_left _ ha)))⟩
/-- THE WRITE: at a path in the first entry; es0: entries that go in -/
theorem Rp.write {w0 w : W} {v0 : V} {st : List Step} {es0 : List Ent} (r : Rp K Kp B H ((w0, v0) :: (es0 ++ es))) (e : w0.at st = some w) (n : w.isNode = true) : ∃ a o es1, PthV H v0 st (.ref a) ∧ H a = some o ∧ NodeR w o es1 ∧
    ∀ w' o' es2 junk, NodeR w' o' es2 → (es1 ++ es0).Perm (es2 ++ junk) → Rp K Kp B (upd H a o') ((w0.setAt w' st, v0) :: (junk ++ es)) := by
  obtain ⟨fp, ⟨f, g, e1, h, t⟩, nd, d⟩ := r.ow
  obtain ⟨v, f1, fr, q1, q2, q3, q4⟩ := h.hole e
  obtain ⟨a, o, es1, fs, e2, e3, ha, nr, hq⟩ := q3.node n
  subst e2; subst e3; subst e1
  obtain ⟨g0, g1, e4, t0, t1⟩ := t.split
  subst e4
  refine ⟨a, o, es1, q1, ha, nr, fun w' o' es2 junk n' p => ?_⟩
  obtain ⟨f2, p2, hq2⟩ := (hq.append t0).perm p
  obtain ⟨h2, hj, e5, t2, tj⟩ := hq2.split
  subst e5
  -- all addresses, ordered anew
  have P : (f ++ (g0 ++ g1)).Perm (a :: (h2 ++ (fr ++ (hj ++ g1)))) := by
    refine (q2.append_right (g0 ++ g1)).trans ?_
    show (a :: (fs ++ fr) ++ (g0 ++ g1)).Perm _
    refine List.Perm.cons a ?_
    have s1 : ((fs ++ fr) ++ (g0 ++ g1)).Perm ((fs ++ g0) ++ (fr ++ g1)) := by
      rw [List.append_assoc, List.append_assoc]
      refine List.Perm.append_left fs ?_
      rw [← List.append_assoc, ← List.append_assoc]
      exact List.perm_append_comm.append_right g1
    refine s1.trans ((p2.append_right (fr ++ g1)).trans ?_)
    rw [List.append_assoc]
    refine List.Perm.append_left h2 ?_
    rw [← List.append_assoc, ← List.append_assoc]
    exact List.perm_append_comm.append_right g1
  have ND := P.nodup nd
  obtain ⟨na, ND'⟩ := List.nodup_cons.mp ND
  have D' : ∀ b, b ∈ a :: (h2 ++ (fr ++ (hj ++ g1))) → B b = none ∧ Kp b = none := fun b hb => d b (P.mem_iff.mpr hb)
  have mv : ∀ b, b ∈ h2 ++ (fr ++ (hj ++ g1)) → upd H a o' b = H b := fun b hb => upd_ne fun z => na (z ▸ hb)
  obtain ⟨fp', pf, z⟩ := q4 B (upd H a o') w' (a :: h2) (Same.refl _) (fun b hb => mv b (by simp [hb])) (n'.rep upd_same (t2.move (Same.refl _) fun b hb => mv b (by simp [hb])))
  have PF : (fp' ++ (hj ++ g1)).Perm (a :: (h2 ++ (fr ++ (hj ++ g1)))) := by
    refine (pf.append_right (hj ++ g1)).trans ?_
    show (a :: (h2 ++ fr) ++ (hj ++ g1)).Perm _
    rw [List.cons_append, List.append_assoc]
  refine ⟨fun b x q => ?_, fun b x q => ?_, fp' ++ (hj ++ g1), ⟨fp', hj ++ g1, rfl, z, (tj.move (Same.refl _) fun b hb => mv b (by simp [hb])).append (t1.move (Same.refl _) fun b hb => mv b (by simp [hb]))⟩, PF.symm.nodup ND, fun b hb => D' b (PF.mem_iff.mp hb)⟩
  · have nb : b ≠ a := fun z => by
      have := (D' a (by simp)).1
      rw [← z, q] at this; cases this
    rw [upd_ne nb]
    exact r.sb b x q
  · have nb : b ≠ a := fun z => by
      have := (D' a (by simp)).2
      rw [← z, q] at this; cases this
    rw [upd_ne nb]
    exact r.sk b x q

/-! ### around a call -/
open Classical in
theorem Rp.call (r : Rp K Kp B H (es' ++ es)) : ∃ Kq, Rp K Kq B H es' ∧ (∀ a, Kq a = none → Kp a = none) ∧ ∀ B' H' res, Ext Kq B B' → Rp K Kq B' H' res → Ext Kp B B' ∧ Rp K Kp B' H' (res ++ es) := by
  obtain ⟨fp, h, nd, d⟩ := r.ow
  obtain ⟨f, g, e, h1, h2⟩ := h.split
  subst e
  obtain ⟨nf, ng, dj⟩ := List.nodup_append.mp nd
  have kq : ∀ a, a ∉ f → (fun a => if a ∈ f then none else H a) a = H a := fun a ha => by
    show (if a ∈ f then none else H a) = H a
    rw [if_neg ha]
  have up : ∀ a, (fun a => if a ∈ f then none else H a) a = none → Kp a = none := fun a ha => by
    by_cases hf : a ∈ f
    · exact (d a (by simp [hf])).2
    · rw [kq a hf] at ha
      exact r.sk.free ha
  refine ⟨fun a => if a ∈ f then none else H a, ⟨r.sb, fun b x q => ?_, f, h1, nf, fun a ha => ⟨(d a (by simp [ha])).1, ?_⟩⟩, up, fun B' H' res x R => ?_⟩
  · have q : (if b ∈ f then none else H b) = some x := q
    split at q
    · cases q
    · exact q
  · show (if a ∈ f then none else H a) = none
    rw [if_pos ha]
  · have xE : Ext Kp B B' := ⟨x.same, fun a ha => (x.new a ha).elim .inl fun z => .inr (up a z)⟩
    obtain ⟨fr, hr, nr, dr⟩ := R.ow
    have gone : ∀ a ∈ g, (fun a => if a ∈ f then none else H a) a = H a := fun a ha => kq a fun hf => dj a hf a ha rfl
    have gH : ∀ a ∈ g, H' a = H a := fun a ha => by
      cases q : H a with
      | none => exact absurd q (h2.alive a ha)
      | some o => exact R.sk a o ((gone a ha).trans q)
    have gK : ∀ a ∈ g, (fun a => if a ∈ f then none else H a) a ≠ none := fun a ha => by
      rw [gone a ha]
      exact h2.alive a ha
    refine ⟨xE, R.sb, fun b o q => ?_, fr ++ g, hr.append (h2.move x.same gH), ?_, fun a ha => ?_⟩
    · have nb : b ∉ f := fun hb => by
        have := (d b (by simp [hb])).2
        rw [q] at this; cases this
      exact R.sk b o ((kq b nb).trans (r.sk b o q))
    · refine List.nodup_append.mpr ⟨nr, ng, fun a ha b hb e => ?_⟩
      subst e
      exact gK a hb (dr a ha).2
    · rcases List.mem_append.mp ha with ha | ha
      · exact ⟨(dr a ha).1, up a (dr a ha).2⟩
      · refine ⟨?_, (d a (by simp [ha])).2⟩
        cases q : B' a with
        | none => rfl
        | some o =>
          rcases x.new a (by rw [q]; simp) with z | z
          · exact absurd (d a (by simp [ha])).1 z
          · exact absurd z (gK a ha)
end

/-! ### slots -/
abbrev Gam := List (Option W)
abbrev Sig := List (Option V)
def SlotOk : Gam → Sig → Prop
  | [], [] => True
  | none :: g, _ :: s => SlotOk g s
  | some _ :: g, some _ :: s => SlotOk g s
  | _, _ => False
def slotEs : Gam → Sig → List Ent
  | some w :: g, some v :: s => (w, v) :: slotEs g s
  | _ :: g, _ :: s => slotEs g s
  | _, _ => []
theorem SlotOk.len : ∀ {g : Gam} {s : Sig}, SlotOk g s → g.length = s.length
  | [], [], _ => rfl
  | none :: g, _ :: s, h => by simp [SlotOk.len (g := g) (s := s) h]
  | some _ :: g, some _ :: s, h => by simp [SlotOk.len (g := g) (s := s) h]
  | some _ :: _, none :: _, h => h.elim
  | [], _ :: _, h => h.elim
  | none :: _, [], h => False.elim h
  | some _ :: _, [], h => False.elim h
theorem SlotOk.get : ∀ {g : Gam} {s : Sig} {i : Nat} {w : W}, SlotOk g s → g[i]? = some (some w) → ∃ v, s[i]? = some (some v)
  | [], _, i, w, _, e => by simp at e
  | none :: g, x :: s, 0, w, h, e => by simp at e
  | none :: g, x :: s, i + 1, w, h, e => by
    simp only [List.getElem?_cons_succ] at e ⊢
    exact SlotOk.get (g := g) (s := s) h e
  | some _ :: g, some v :: s, 0, w, h, e => ⟨v, rfl⟩
  | some _ :: g, some _ :: s, i + 1, w, h, e => by
    simp only [List.getElem?_cons_succ] at e ⊢
    exact SlotOk.get (g := g) (s := s) h e
  | some _ :: _, none :: _, _, _, h, _ => h.elim
  | none :: _, [], _, _, h, _ => False.elim h
  | some _ :: _, [], _, _, h, _ => False.elim h
/-- a slot's entry first -/
theorem SlotOk.take : ∀ {g : Gam} {s : Sig} {i : Nat} {w : W} {v : V}, SlotOk g s → g[i]? = some (some w) → s[i]? = some (some v) → (slotEs g s).Perm ((w, v) :: slotEs (g.set i none) s)
  | [], _, i, w, v, _, e, _ => by simp at e
  | none :: g, x :: s, 0, w, v, h, e, _ => by simp at e
  | none :: g, x :: s, i + 1, w, v, h, e, e' => by
    simp only [List.getElem?_cons_succ] at e e'
    have ih := SlotOk.take (g := g) (s := s) h e e'
    show (slotEs g s).Perm ((w, v) :: slotEs (none :: g.set i none) (x :: s))
    exact ih
  | some w0 :: g, some v0 :: s, 0, w, v, h, e, e' => by
    simp only [List.getElem?_cons_zero, Option.some.injEq] at e e'
    subst e; subst e'
    exact .refl _
  | some w0 :: g, some v0 :: s, i + 1, w, v, h, e, e' => by
    simp only [List.getElem?_cons_succ] at e e'
    have ih := SlotOk.take (g := g) (s := s) h e e'
    show ((w0, v0) :: slotEs g s).Perm ((w, v) :: (w0, v0) :: slotEs (g.set i none) s)
    exact (ih.cons _).trans (.swap _ _ _)
  | some _ :: _, none :: _, _, _, _, h, _, _ => h.elim
  | none :: _, [], _, _, _, h, _, _ => False.elim h
  | some _ :: _, [], _, _, _, h, _, _ => False.elim h
theorem SlotOk.set : ∀ {g : Gam} {s : Sig} {i : Nat} {w : W} {v : V}, SlotOk g s → SlotOk (g.set i (some w)) (s.set i (some v))
  | [], [], _, _, _, h => h
  | none :: g, _ :: s, 0, _, _, h => h
  | none :: g, _ :: s, i + 1, _, _, h => SlotOk.set (g := g) (s := s) h
  | some _ :: g, some _ :: s, 0, _, _, h => h
  | some _ :: g, some _ :: s, i + 1, _, _, h => SlotOk.set (g := g) (s := s) h
  | some _ :: _, none :: _, _, _, _, h => h.elim
  | [], _ :: _, _, _, _, h => h.elim
  | none :: _, [], _, _, _, h => False.elim h
  | some _ :: _, [], _, _, _, h => False.elim h
theorem SlotOk.setW : ∀ {g : Gam} {s : Sig} {i : Nat} {w : W} {v : V}, SlotOk g s → s[i]? = some (some v) → SlotOk (g.set i (some w)) s
  | [], [], _, _, _, h, _ => h
  | none :: g, some _ :: s, 0, _, _, h, _ => h
  | none :: g, none :: s, 0, _, _, h, e => by simp at e
  | none :: g, _ :: s, i + 1, _, _, h, e => SlotOk.setW (g := g) (s := s) h (by simpa using e)
  | some _ :: g, some _ :: s, 0, _, _, h, _ => h
  | some _ :: g, some _ :: s, i + 1, _, _, h, e => SlotOk.setW (g := g) (s := s) h (by simpa using e)
  | some _ :: _, none :: _, _, _, _, h, _ => h.elim
  | [], _ :: _, _, _, _, h, _ => h.elim
  | none :: _, [], _, _, _, h, _ => False.elim h
  | some _ :: _, [], _, _, _, h, _ => False.elim h
theorem SlotOk.drop : ∀ {g : Gam} {s : Sig} {i : Nat}, SlotOk g s → SlotOk (g.set i none) s
  | [], [], _, h => h
  | none :: g, _ :: s, 0, h => h
  | none :: g, _ :: s, i + 1, h => SlotOk.drop (g := g) (s := s) h
  | some _ :: g, some _ :: s, 0, h => h
  | some _ :: g, some _ :: s, i + 1, h => SlotOk.drop (g := g) (s := s) h
  | some _ :: _, none :: _, _, h => h.elim
  | [], _ :: _, _, h => h.elim
  | none :: _, [], _, h => False.elim h
  | some _ :: _, [], _, h => False.elim h
/-- the other way: an entry goes into a slot -/
theorem SlotOk.put : ∀ {g : Gam} {s : Sig} {i : Nat} {w : W} {v : V}, SlotOk g s → i < g.length → ((w, v) :: slotEs (g.set i none) s).Perm (slotEs (g.set i (some w)) (s.set i (some v)))
  | [], _, i, w, v, _, e => by simp at e
  | none :: g, x :: s, 0, w, v, h, e => .refl _
  | none :: g, x :: s, i + 1, w, v, h, e => SlotOk.put (g := g) (s := s) h (by simpa using e)
  | some w0 :: g, some v0 :: s, 0, w, v, h, e => .refl _
  | some w0 :: g, some v0 :: s, i + 1, w, v, h, e => by
    have ih := SlotOk.put (g := g) (s := s) (i := i) (w := w) (v := v) h (by simpa using e)
    show ((w, v) :: (w0, v0) :: slotEs (g.set i none) s).Perm ((w0, v0) :: slotEs (g.set i (some w)) (s.set i (some v)))
    exact (List.Perm.swap _ _ _).trans (ih.cons _)
  | some _ :: _, none :: _, _, _, _, h, _ => h.elim
  | none :: _, [], _, _, _, h, _ => False.elim h
  | some _ :: _, [], _, _, _, h, _ => False.elim h
theorem slot_none {g : Gam} {s : Sig} {i : Nat} {x : Option V} (h : SlotOk g s) : slotEs (g.set i none) (s.set i x) = slotEs (g.set i none) s := by
  induction g generalizing s i with
  | nil => cases s <;> cases i <;> rfl
  | cons w g ih =>
    cases s with
    | nil => rfl
    | cons v s =>
      cases i with
      | zero =>
        show slotEs (none :: g) (x :: s) = slotEs (none :: g) (v :: s)
        rfl
      | succ i =>
        cases w with
        | none => exact ih h
        | some w =>
          cases v with
          | none => exact h.elim
          | some v =>
            show (w, v) :: slotEs (g.set i none) (s.set i x) = (w, v) :: slotEs (g.set i none) s
            rw [ih h]
end PF
end

section
set_option Elab.async false
set_option linter.all false
set_option maxRecDepth 100000
namespace PF
open PySem PySem.Spec PyProof.Rows L2

/-! ### what built-ins do with data -/
mutual
/-- no dict, no script within; texts that the model carries -/
def layD : D → Bool
  | .non | .bl _ | .int _ => true
  | .str x => PyData.strOk x
  | .tup xs | .lst xs | .pt xs => layDs xs
  | _ => false
def layDs : List D → Bool
  | [] => true
  | x :: xs => layD x && layDs xs
end
mutual
def depD : D → Nat
  | .tup xs | .lst xs | .pt xs => depDs xs + 1
  | _ => 0
def depDs : List D → Nat
  | [] => 0
  | x :: xs => max (depD x) (depDs xs)
end
mutual
def eqvD : D → D → Bool
  | .non, .non => true
  | .bl a, .bl b => a == b
  | .bl a, .int j => (if a then 1 else 0) == j
  | .int i, .bl b => i == (if b then 1 else 0)
  | .int i, .int j => i == j
  | .str x, .str y => x == y
  | .lst xs, .lst ys => eqvDs xs ys
  | .tup xs, .tup ys | .tup xs, .pt ys | .pt xs, .tup ys | .pt xs, .pt ys => eqvDs xs ys
  | _, _ => false
def eqvDs : List D → List D → Bool
  | [], [] => true
  | x :: xs, y :: ys => eqvD x y && eqvDs xs ys
  | _, _ => false
end
def okD (d : D) : Bool := layD d && decide (depD d ≤ 60)
def eqD (a b : D) : Option Bool := if okD a && okD b then some (eqvD a b) else none
def flatD : D → Bool
  | .non | .bl _ | .int _ => true
  | .str x => PyData.strOk x
  | _ => false
def intsOf : List D → Option (List Int)
  | [] => some []
  | .int i :: r => (intsOf r).map (i :: ·)
  | _ => none
def blsOf : List D → Option (List Bool)
  | [] => some []
  | .bl b :: r => (blsOf r).map (b :: ·)
  | _ => none
def keyOf : D → Option Key
  | .int i => some (.inl i)
  | .str x => some (.inr x)
  | _ => none
def keysOf : List D → Option (List Key)
  | [] => some []
  | d :: r => match keyOf d, keysOf r with
    | some k, some ks => some (k :: ks)
    | _, _ => none
/-- an entry of a dict -/
def getD? : D → D → Option (Option D)
  | .dK kvs, y => match keyOf y with
    | some k => some (lookK k kvs)
    | none => none
  | .dT kvs, .tup ys => match keysOf ys with
    | some k => some (lookK k kvs)
    | none => none
  | _, _ => none

inductive UOp where | neg | not
inductive BOp where | add | sub | mul | fdiv | mod | pow | addP
inductive COp where | eq | ne | lt | le | gt | ge | isIn | notIn | is_ | isNot
inductive Bf where | ptuple_ | len | abs | min2 | max2 | min1 | max1 | sum | sorted | all_ | any_ | int_ | list_ | tuple_ | dict_ | lrange

def unD : UOp → D → Option D
  | .neg, .int i => some (.int (-i))
  | .not, .bl b => some (.bl (!b))
  | _, _ => none
/-- a bound that is seen without counting down from it -/
def absLe (i : Int) (m : Nat) : Bool := Nat.ble i.natAbs m
theorem absLe_ok {i : Int} {m : Nat} (h : absLe i m = true) : -(m : Int) ≤ i ∧ i ≤ (m : Int) := by
  have := Nat.le_of_ble_eq_true h
  omega
theorem absLe_of {i : Int} {m : Nat} (h : i.natAbs ≤ m) : absLe i m = true := Nat.ble_eq_true_of_le h
def small64 (i : Int) : Bool := absLe i 18446744073709551615
def binD : BOp → D → D → Option D
  | .add, .int i, .int j => some (.int (i + j))
  | .add, .str x, .str y => if x.length + y.length ≤ sizeLine then some (.str (x ++ y)) else none
  | .add, .lst xs, .lst ys => if xs.length + ys.length ≤ sizeLine then some (.lst (xs ++ ys)) else none
  | .add, .tup xs, .tup ys => if xs.length + ys.length ≤ sizeLine then some (.tup (xs ++ ys)) else none
  | .addP, .pt xs, .pt ys => if xs.length + ys.length ≤ sizeLine then some (.pt (xs ++ ys)) else none
  | .sub, .int i, .int j => some (.int (i - j))
  | .mul, .int i, .int j => if small64 i || small64 j then some (.int (i * j)) else none
  | .mul, .lst xs, .int k => if absLe k 9000000000000000000 && decide (xs.length * k.toNat ≤ sizeLine) then some (.lst (List.replicate k.toNat xs).flatten) else none
  | .fdiv, .int i, .int j => if decide (j ≠ 0) && decide (j.natAbs < 1073741824) then some (.int (i.fdiv j)) else none
  | .mod, .int i, .int j => if j ≠ 0 then some (.int (i.fmod j)) else none
  | .pow, .int i, .int j => if decide (0 ≤ j) && absLe j 1000000 && decide (i.natAbs < 2 ^ 64) then some (.int (i ^ j.toNat)) else none
  | _, _, _ => none
def ltD (a b : D) : Option Bool :=
  match a, b with
  | .int i, .int j => some (decide (i < j))
  | .tup xs, .tup ys => match intsOf xs, intsOf ys with
    | some ns, some ms => some (HT.lexLt ns ms)
    | _, _ => none
  | _, _ => none
def inD (a b : D) : Option Bool :=
  match b with
  | .lst ys => if okD a && okD b then some (ys.any fun y => eqvD y a) else none
  | .tup ys => if flatD a && ys.all flatD then some (ys.any fun y => eqvD y a) else none
  | d => (getD? d a).map Option.isSome
def isD (a b : D) : Option Bool :=
  match a, b with
  | .non, .non => some true
  | _, .non => some false
  | .bl x, .bl y => some (decide (x = y))
  | _, _ => none
def cmpD : COp → D → D → Option Bool
  | .eq, a, b => eqD a b
  | .ne, a, b => (eqD a b).map not
  | .lt, a, b => ltD a b
  | .le, .int i, .int j => some (decide (i ≤ j))
  | .gt, .int i, .int j => some (decide (j < i))
  | .ge, .int i, .int j => some (decide (j ≤ i))
  | .isIn, a, b => inD a b
  | .notIn, a, b => (inD a b).map not
  | .is_, a, b => isD a b
  | .isNot, a, b => (isD a b).map not
  | _, _, _ => none
/-- an item: of a list, a tuple, the script, a dict -/
def ixD (a i : D) : Option D :=
  match a, i with
  | .lst xs, .int i => atI xs i
  | .tup xs, .int i | .pt xs, .int i => atI xs i
  | .scr ns, .int i => (atI ns i).map .int
  | .dK kvs, y => (getD? (.dK kvs) y).join
  | .dT kvs, y => (getD? (.dT kvs) y).join
  | _, _ => none
def cutD (xs : List D) (lo hi : Option Int) : List D := (xs.drop (HT.sIx xs.length 0 lo)).take (HT.sIx xs.length xs.length hi - HT.sIx xs.length 0 lo)
def slD (a : D) (lo hi : Option Int) : Option D :=
  match a with
  | .lst xs => some (.lst (cutD xs lo hi))
  | .tup xs => some (.tup (cutD xs lo hi))
  | .pt xs => some (.pt (cutD xs lo hi))
  | _ => none
def lenD : D → Option Nat
  | .lst xs | .tup xs | .pt xs => some xs.length
  | .dK kvs => some kvs.length
  | .dT kvs => some kvs.length
  | .scr ns => some ns.length
  | .str x => if x.length ≤ sizeLine then some x.length else none
  | _ => none
/-- insertion, for a total order the one sorted list -/
def insI (le : α → α → Bool) (x : α) : List α → List α
  | [] => [x]
  | y :: r => if le x y then x :: y :: r else y :: insI le x r
def isort (le : α → α → Bool) : List α → List α
  | [] => []
  | x :: r => insI le x (isort le r)
def leInts (a b : List Int) : Bool := !HT.lexLt b a
/-- tuples of ints -/
def tupsOf : List D → Option (List (List Int))
  | [] => some []
  | .tup xs :: r => match intsOf xs, tupsOf r with
    | some ns, some t => some (ns :: t)
    | _, _ => none
  | _ => none
def tupI (ns : List Int) : D := .tup (ns.map .int)
/-- sorted: ints; tuples of ints, none empty -/
def sortD (xs : List D) : Option (List D) :=
  match intsOf xs with
  | some ns => some ((isort (fun a b => decide (a ≤ b)) ns).map .int)
  | none => match tupsOf xs with
    | some ts => if ts.all fun t => !t.isEmpty then some ((isort leInts ts).map tupI) else none
    | none => none
def pairOf : D → Option (Key × D)
  | .tup [k, d] => (keyOf k).map fun k => (k, d)
  | _ => none
def pairsOf : List D → Option (List (Key × D))
  | [] => some []
  | d :: r => match pairOf d, pairsOf r with
    | some p, some ps => some (p :: ps)
    | _, _ => none
def mergeD (kvs : List (Key × D)) (ps : List (Key × D)) : List (Key × D) := ps.foldl (fun acc p => putK p.1 p.2 acc) kvs
def bfD : Bf → List D → Option D
  | .len, [a] => (lenD a).map fun (n : Nat) => .int (n : Int)
  | .abs, [.int i] => some (.int (if i < 0 then -i else i))
  | .max2, [.int i, .int j] => some (.int (if j > i then j else i))
  | .min2, [.int i, .int j] => some (.int (if j < i then j else i))
  | .max1, [.lst xs] => match intsOf xs with
    | some (n :: ns) => some (.int (ns.foldl max n))
    | _ => none
  | .min1, [.lst xs] => match intsOf xs with
    | some (n :: ns) => some (.int (ns.foldl min n))
    | _ => none
  | .sum, [.lst xs] => (intsOf xs).map fun ns => .int ns.sum
  | .sorted, [.lst xs] => (sortD xs).map .lst
  | .all_, [.lst xs] => (blsOf xs).map fun bs => .bl (bs.all id)
  | .any_, [.lst xs] => (blsOf xs).map fun bs => .bl (bs.any id)
  | .int_, [.int i] => some (.int i)
  | .int_, [.bl b] => some (.int (if b then 1 else 0))
  | .list_, [.lst xs] => some (.lst xs)
  | .list_, [.tup xs] => some (.lst xs)
  | .tuple_, [.lst xs] => some (.tup xs)
  | .ptuple_, [.lst xs] => some (.pt xs)
  | .tuple_, [.tup xs] => some (.tup xs)
  | .dict_, [.lst xs] => if xs.length ≤ 1000 then (pairsOf xs).map fun ps => .dK (mergeD [] ps) else none
  | .dict_, [.pt xs] => if xs.length ≤ 1000 then (pairsOf xs).map fun ps => .dK (mergeD [] ps) else none
  | .lrange, [.int n] => if decide (0 ≤ n) && absLe n 10000 then some (.lst ((List.range n.toNat).map fun i => .int (i : Nat))) else none
  | _, _ => none
inductive Ty where | int | bool | str | list | tuple | dict
def isiD : D → List Ty → Option Bool
  | .non, _ => some false
  | .bl _, ts => some (ts.any fun t => match t with | .int | .bool => true | _ => false)
  | .int _, ts => some (ts.any fun t => match t with | .int => true | _ => false)
  | .str _, ts => some (ts.any fun t => match t with | .str => true | _ => false)
  | .lst _, ts => some (ts.any fun t => match t with | .list => true | _ => false)
  | .tup _, ts | .pt _, ts => some (ts.any fun t => match t with | .tuple => true | _ => false)
  | .dK _, ts | .dT _, ts => some (ts.any fun t => match t with | .dict => true | _ => false)
  | .scr _, _ => none

/-! ### the little language -/
inductive Mode where | val | io deriving DecidableEq
inductive IT where
  | nm (i : Nat) | nil | cons (t r : IT)     -- a name; a tuple of targets by nil and cons
mutual
inductive IE where
  | var (i : Nat) | cst (d : D) | glo (x : Str) (i : Int)
  | un (o : UOp) (a : IE) | bin (o : BOp) (a b : IE) | cmp (o : COp) (a b : IE) | chn (o o' : COp) (a b c : IE)
  | and (a b : IE) | or (a b : IE) | ite (c a b : IE)
  | idx (a i : IE) | slc (a : IE) (lo hi : IL)       -- nil: left out
  | tup (pl : Bool) (es : IL) | lst (own : Bool) (es : IL) | dic (tk : Bool) | dsp (es : IL)      -- {}: keys that are tuples?; {k: v, ..}
  | call (f : Nat) (ms : List Mode) (es : IL) | bf (b : Bf) (es : IL) | isi (a : IE) (ts : List Ty) (one : Bool)
  | get (a k d : IE) | app (own : Bool) (a e : IE) | ext (a e : IE) | popL (a : IE) | popA (a i : IE)
  | comp (own : List Nat) (t : IT) (it : II) (cs : IL) (oe : Bool) (e : IE)
inductive IL where
  | nil | cons (e : IE) (r : IL)
inductive II where
  | val (e : IE) | rng1 (a : IE) | rng2 (a b : IE) | enu (e : IE) | zip (a b : IE)
end

/-- what a statement stores to -/
inductive ST where
  | nm (i : Nat) (own : Bool) | un (t : IT) | sub (a i : IE) (own : Bool)
mutual
inductive IS where
  | asg (t : ST) (e : IE) | asgs (ts : List ST) (es : IL) | aug (i : Nat) (o : BOp) (e : IE) | exp (e : IE) | del (a k : IE)
  | ret (own : Bool) (e : IE) | retN
  | ite (c : IE) (a b : IB) | whl (c : IE) (b : IB) | for_ (t : IT) (it : II) (b : IB)
  | brk | cnt | pass | never
inductive IB where
  | nil | cons (s : IS) (r : IB)
end

/-! ### its meaning -/
inductive Arg where
  | tmp (w : W) | pth (i : Nat) (st : List Step)
def Arg.simple : Arg → Bool
  | .tmp _ => true
  | .pth _ [] => true
  | _ => false
def W.isFz : W → Bool
  | .fz _ => true
  | _ => false
def W.flat : W → Bool
  | .fz _ => true
  | .lst ws => ws.all W.isFz
  | .dK kvs => kvs.all fun p => p.2.isFz
  | .dT kvs => kvs.all fun p => p.2.isFz
/-- a new container of leaves is owned -/
def own : D → W
  | .lst ds => .lst (ds.map .fz)
  | .dK kvs => .dK (kvs.map fun p => (p.1, .fz p.2))
  | .dT kvs => .dT (kvs.map fun p => (p.1, .fz p.2))
  | d => .fz d
def D.isAtom : D → Bool
  | .non | .bl _ | .int _ | .str _ => true
  | _ => false
def res (g : Gam) : Arg → Option W
  | .tmp w => some w
  | .pth i st => match g[i]? with
    | some (some w) => w.at st
    | _ => none
def frzA (g : Gam) : Arg → Option (D × Gam)
  | .tmp w => some (w.toD, g)
  | .pth i [] => match g[i]? with
    | some (some w) => some (w.toD, g.set i (some (.fz w.toD)))
    | _ => none
  | _ => none
def takeA (o : Bool) (g : Gam) (x : Arg) : Option (W × Gam) :=
  match o, x with
  | true, .tmp w => some (w, g)
  | _, x => (frzA g x).map fun p => (.fz p.1, p.2)
def takeL (o : Bool) : List Arg → Gam → Option (List W × Gam)
  | [], g => some ([], g)
  | x :: xs, g => do
    let (w, g1) ← takeA o g x
    let (ws, g2) ← takeL o xs g1
    some (w :: ws, g2)
def frzL : List Arg → Gam → Option (List D × Gam)
  | [], g => some ([], g)
  | x :: xs, g => do
    let (w, g1) ← frzA g x
    let (ws, g2) ← frzL xs g1
    some (w :: ws, g2)
/-- arguments of a call: frozen, or handed over for the time of the call -/
def takeC : List Mode → List Arg → Gam → Option (List W × Gam)
  | [], [], g => some ([], g)
  | .val :: ms, x :: xs, g => do
    let (d, g1) ← frzA g x
    let (ws, g2) ← takeC ms xs g1
    some (.fz d :: ws, g2)
  | .io :: ms, .tmp w :: xs, g => do
    let (ws, g2) ← takeC ms xs g
    some (w :: ws, g2)
  | .io :: ms, .pth i [] :: xs, g =>
    match g[i]? with
    | some (some w) => do
      let (ws, g2) ← takeC ms xs (g.set i none)
      some (w :: ws, g2)
    | _ => none
  | _, _, _ => none
def putC : List Mode → List Arg → List W → Gam → Option Gam
  | [], [], [], g => some g
  | .val :: ms, _ :: xs, ios, g => putC ms xs ios g
  | .io :: ms, .tmp _ :: xs, _ :: ios, g => putC ms xs ios g
  | .io :: ms, .pth i [] :: xs, w :: ios, g => putC ms xs ios (g.set i (some w))
  | _, _, _, _ => none
def fin (ws : List W) (d : D) : Option Arg := if d.isAtom || ws.all W.flat then some (.tmp (own d)) else none
def resL (g : Gam) : List Arg → Option (List W)
  | [] => some []
  | x :: xs => do
    let w ← res g x
    let ws ← resL g xs
    some (w :: ws)
def bindT : IT → D → Gam → Option Gam
  | .nm i, d, g => if i < g.length then some (g.set i (some (.fz d))) else none
  | .nil, .tup [], g => some g
  | .cons t r, .tup (d :: ds), g => do
    let g1 ← bindT t d g
    bindT r (.tup ds) g1
  | _, _, _ => none
def wipeG (g : Gam) : List Nat → Gam
  | [] => g
  | i :: r => (wipeG g r).set i none
/-- the slots of a block's own names as they were -/
def backG (g0 g : Gam) : List Nat → Gam
  | [] => g
  | i :: r => backG g0 (g.set i ((g0[i]?).join)) r
/-- a subscript's step -/
def stepOf (w : W) (i : D) : Option Step :=
  match w, i with
  | .lst ws, .int k => (ixN ws.length k).map .ix
  | _, _ => none
def idxA (g : Gam) (x : Arg) (i : D) : Option Arg :=
  match x with
  | .tmp w => if w.flat then (ixD w.toD i).map fun d => .tmp (.fz d) else none
  | .pth j st => match res g (.pth j st) with
    | some (.fz d) => (ixD d i).map fun d => .tmp (.fz d)
    | some (.lst ws) => match stepOf (.lst ws) i with
      | some s => match (W.lst ws).sub s with
        | some (.fz d) => some (.tmp (.fz d))
        | some _ => some (.pth j (st ++ [s]))
        | none => none
      | none => none
    | some w => if w.flat then (ixD w.toD i).map fun d => .tmp (.fz d) else none
    | none => none
/-- at a path, a node is changed -/
def modP (g : Gam) (x : Arg) (f : W → Option (W × α)) : Option (Gam × α) :=
  match x with
  | .pth i st => match g[i]? with
    | some (some w0) => match w0.at st with
      | some w => (f w).map fun p => (g.set i (some (w0.setAt p.1 st)), p.2)
      | none => none
    | _ => none
  | _ => none
def appW (y : W) : W → Option (W × Unit)
  | .lst ws => if ws.length < sizeLine then some (.lst (ws ++ [y]), ()) else none
  | _ => none
def extW (y : W) : W → Option (W × Unit)
  | .lst ws => match y with
    | .lst us => if us.all W.isFz && decide (ws.length + us.length ≤ sizeLine) then some (.lst (ws ++ us), ()) else none
    | .fz (.lst ds) => if ws.length + ds.length ≤ sizeLine then some (.lst (ws ++ ds.map .fz), ()) else none
    | _ => none
  | _ => none
def popW : W → Option (W × W)
  | .lst ws => match ws[ws.length - 1]? with
    | some y => some (.lst ws.dropLast, y)
    | none => none
  | _ => none
def popAW (i : D) : W → Option (W × W)
  | .lst ws => match i with
    | .int k => if absLe k 9000000000000000000 then match seqIndex? k ws.length with
      | some n => match ws[n]? with
        | some y => some (.lst (ws.eraseIdx n), y)
        | none => none
      | none => none
      else none
    | _ => none
  | _ => none
def setW (i : D) (y : W) : W → Option (W × Unit)
  | .lst ws => match i with
    | .int k => (ixN ws.length k).map fun n => (.lst (ws.set n y), ())
    | _ => none
  | .dK kvs => match keyOf i with
    | some k => if y.isFz && decide (kvs.length < sizeLine) then some (.dK (putK k y kvs), ()) else none
    | none => none
  | .dT kvs => match i with
    | .tup ys => match keysOf ys with
      | some k => if y.isFz && decide (kvs.length < sizeLine) then some (.dT (putK k y kvs), ()) else none
      | none => none
    | _ => none
  | _ => none
def delW (i : D) : W → Option (W × Unit)
  | .dK kvs => match keyOf i with
    | some k => if (lookK k kvs).isSome then some (.dK (kvs.filter fun p => decide (p.1 ≠ k)), ()) else none
    | none => none
  | _ => none
def isL : Option W → Bool
  | some (.lst _) => true
  | _ => false
def isDc : Option W → Bool
  | some (.dK _) | some (.dT _) | some (.fz (.dK _)) | some (.fz (.dT _)) => true
  | _ => false
def boolA (g : Gam) (x : Arg) : Option Bool :=
  match res g x with
  | some (.fz (.bl b)) => some b
  | _ => none
def itemsOf : D → Option (List D)
  | .lst ds | .tup ds | .pt ds => some ds
  | _ => none
def pairUp : List D → List D → List D
  | a :: r, b :: s => .tup [a, b] :: pairUp r s
  | _, _ => []
def numbered : Nat → List D → List D
  | _, [] => []
  | n, d :: r => .tup [.int n, d] :: numbered (n + 1) r

mutual
/-- nothing is written, nothing is frozen by it -/
def pureE : IE → Bool
  | .var _ | .cst _ | .glo _ _ => true
  | .un _ a => pureE a
  | .bin _ a b => pureE a && pureE b
  | .cmp _ a b => pureE a && pureE b
  | .idx a i => pureE a && pureE i
  | .bf _ es => pureL es
  | _ => false
def pureL : IL → Bool
  | .nil => true
  | .cons e r => pureE e && pureL r
end

/-- a comprehension's turns -/
def compL (bind : D → Gam → Option Gam) (test : Gam → Option (Bool × Gam)) (elt : Gam → Option (W × Gam)) (own : List Nat) : List D → List W → Gam → Option (List W × Gam)
  | [], acc, g => some (acc, g)
  | d :: ds, acc, g => do
    let g1 ← bind d g
    let (b, g2) ← test g1
    if b then do
      let (w, g3) ← elt g2
      compL bind test elt own ds (acc ++ [w]) (wipeG g3 own)
    else compL bind test elt own ds acc (wipeG g2 own)

section
variable (F : Nat → List W → Option (W × List W)) (fu : Nat)
mutual
def evE : IE → Gam → Option (Arg × Gam)
  | .var i, g => match g[i]? with
    | some (some _) => some (.pth i [], g)
    | _ => none
  | .cst d, g => some (.tmp (.fz d), g)
  | .glo _ i, g => some (.tmp (.fz (.int i)), g)
  | .un o a, g => do
    let (x, g1) ← evE a g
    let w ← res g1 x
    let d ← unD o w.toD
    some (.tmp (.fz d), g1)
  | .bin o a b, g => do
    let (x, g1) ← evE a g
    let (y, g2) ← evE b g1
    if x.simple || pureE b then do
      let wx ← res g2 x
      let wy ← res g2 y
      let d ← binD o wx.toD wy.toD
      let z ← fin [wx, wy] d
      some (z, g2)
    else none
  | .cmp o a b, g => do
    let (x, g1) ← evE a g
    let (y, g2) ← evE b g1
    if x.simple || pureE b then do
      let wx ← res g2 x
      let wy ← res g2 y
      let c ← cmpD o wx.toD wy.toD
      some (.tmp (.fz (.bl c)), g2)
    else none
  | .chn o o' a b c, g => do
    let (x, g1) ← evE a g
    let (y, g2) ← evE b g1
    if x.simple && y.simple then do
      let wx ← res g2 x
      let wy ← res g2 y
      let k ← cmpD o wx.toD wy.toD
      if k then do
        let (z, g3) ← evE c g2
        let wy ← res g3 y
        let wz ← res g3 z
        let k' ← cmpD o' wy.toD wz.toD
        some (.tmp (.fz (.bl k')), g3)
      else some (.tmp (.fz (.bl false)), g2)
    else none
  | .and a b, g => do
    let (x, g1) ← evE a g
    let c ← boolA g1 x
    if c then evE b g1 else some (.tmp (.fz (.bl false)), g1)
  | .or a b, g => do
    let (x, g1) ← evE a g
    let c ← boolA g1 x
    if c then some (.tmp (.fz (.bl true)), g1) else evE b g1
  | .ite c a b, g => do
    let (k, g1) ← evT c g
    if k then evE a g1 else evE b g1
  | .idx a i, g => do
    let (x, g1) ← evE a g
    let (y, g2) ← evE i g1
    if x.simple || pureE i then do
      let wi ← res g2 y
      let z ← idxA g2 x wi.toD
      some (z, g2)
    else none
  | .slc a lo hi, g => do
    let (x, g1) ← evE a g
    if x.simple then do
      let (l, g2) ← evO lo g1
      let (h, g3) ← evO hi g2
      let w ← res g3 x
      let d ← slD w.toD l h
      let z ← fin [w] d
      some (z, g3)
    else none
  | .tup pl es, g => do
    let (xs, g1) ← evL es g
    let (ds, g2) ← frzL xs g1
    if ds.length ≤ sizeLine then some (.tmp (.fz (if pl then .pt ds else .tup ds)), g2) else none
  | .lst o es, g => do
    let (xs, g1) ← evL es g
    let (ws, g2) ← takeL o xs g1
    if ws.length ≤ sizeLine then some (.tmp (.lst ws), g2) else none
  | .dic tk, g => some (.tmp (if tk then .dT [] else .dK []), g)
  | .dsp es, g => none
  | .call f ms es, g => do
    let (xs, g1) ← evL es g
    let (ws, g2) ← takeC ms xs g1
    let (r, ios) ← F f ws
    let g3 ← putC ms xs ios g2
    some (.tmp r, g3)
  | .bf b es, g => do
    let (xs, g1) ← evL es g
    let ws ← resL g1 xs
    let d ← bfD b (ws.map W.toD)
    let z ← fin ws d
    some (z, g1)
  | .isi a ts _, g => do
    let (x, g1) ← evE a g
    let w ← res g1 x
    let b ← isiD w.toD ts
    some (.tmp (.fz (.bl b)), g1)
  | .get a k e, g => do
    let (x, g1) ← evE a g
    let (y, g2) ← evE k g1
    let (z, g3) ← evE e g2
    if x.simple && y.simple && isDc (res g1 x) then do
      let w ← res g3 x
      let wk ← res g3 y
      let o ← getD? w.toD wk.toD
      if w.flat then
        match o with
        | some d => some (.tmp (.fz d), g3)
        | none => do
          let (d, g4) ← frzA g3 z
          some (.tmp (.fz d), g4)
      else none
    else none
  | .app o a e, g => do
    let (x, g1) ← evE a g
    let (y, g2) ← evE e g1
    if (x.simple || pureE e) && isL (res g1 x) then do
      let (w, g3) ← takeA o g2 y
      let (g4, _) ← modP g3 x (appW w)
      some (.tmp (.fz .non), g4)
    else none
  | .ext a e, g => do
    let (x, g1) ← evE a g
    let (y, g2) ← evE e g1
    if (x.simple || pureE e) && isL (res g1 x) then do
      let w ← res g2 y
      let (g3, _) ← modP g2 x (extW w)
      some (.tmp (.fz .non), g3)
    else none
  | .popL a, g => do
    let (x, g1) ← evE a g
    let (g2, w) ← modP g1 x popW
    some (.tmp w, g2)
  | .popA a i, g => do
    let (x, g1) ← evE a g
    let (y, g2) ← evE i g1
    if (x.simple || pureE i) && isL (res g1 x) then do
      let wi ← res g2 y
      let (g3, w) ← modP g2 x (popAW wi.toD)
      some (.tmp w, g3)
    else none
  | .comp ow t it cs oe e, g => do
    let (ds, g1) ← evI it g
    if ds.length ≤ sizeLine then do
      let (ws, g2) ← compL (fun d g => bindT t d g) (fun g => evC cs g) (fun g => do
        let (x, g') ← evE e g
        takeA oe g' x) ow ds [] (wipeG g1 ow)
      some (.tmp (.lst ws), backG g1 g2 ow)
    else none
/-- as a test -/
def evT : IE → Gam → Option (Bool × Gam)
  | .un .not a, g => do
    let (c, g1) ← evT a g
    some (!c, g1)
  | .and a b, g => do
    let (c, g1) ← evT a g
    if c then evT b g1 else some (false, g1)
  | .or a b, g => do
    let (c, g1) ← evT a g
    if c then some (true, g1) else evT b g1
  | .cmp o a b, g => do
    let (x, g1) ← evE a g
    let (y, g2) ← evE b g1
    if x.simple || pureE b then do
      let wx ← res g2 x
      let wy ← res g2 y
      let c ← cmpD o wx.toD wy.toD
      some (c, g2)
    else none
  | .chn o o' a b c, g => do
    let (x, g1) ← evE a g
    let (y, g2) ← evE b g1
    if x.simple && y.simple then do
      let wx ← res g2 x
      let wy ← res g2 y
      let k ← cmpD o wx.toD wy.toD
      if k then do
        let (z, g3) ← evE c g2
        let wy ← res g3 y
        let wz ← res g3 z
        let k' ← cmpD o' wy.toD wz.toD
        some (k', g3)
      else some (false, g2)
    else none
  | .call f ms es, g => do
    let (xs, g1) ← evL es g
    let (ws, g2) ← takeC ms xs g1
    let (r, ios) ← F f ws
    let g3 ← putC ms xs ios g2
    match r with
    | .fz (.bl b) => some (b, g3)
    | _ => none
  | .bf b es, g => do
    let (xs, g1) ← evL es g
    let ws ← resL g1 xs
    let d ← bfD b (ws.map W.toD)
    match d with
    | .bl b => some (b, g1)
    | _ => none
  | .isi a ts _, g => do
    let (x, g1) ← evE a g
    let w ← res g1 x
    let b ← isiD w.toD ts
    some (b, g1)
  | .var i, g => match g[i]? with
    | some (some (.fz (.bl b))) => some (b, g)
    | _ => none
  | _, _ => none
/-- the tests of a comprehension: none or one -/
def evC : IL → Gam → Option (Bool × Gam)
  | .nil, g => some (true, g)
  | .cons c .nil, g => evT c g
  | _, _ => none
/-- an end of a slice -/
def evO : IL → Gam → Option (Option Int × Gam)
  | .nil, g => some (none, g)
  | .cons e .nil, g => do
    let (x, g1) ← evE e g
    match res g1 x with
    | some (.fz (.int i)) => some (some i, g1)
    | _ => none
  | _, _ => none
def evL : IL → Gam → Option (List Arg × Gam)
  | .nil, g => some ([], g)
  | .cons e r, g => do
    let (x, g1) ← evE e g
    let (xs, g2) ← evL r g1
    if x.simple || pureL r then some (x :: xs, g2) else none
def evI : II → Gam → Option (List D × Gam)
  | .val e, g => do
    let (x, g1) ← evE e g
    let (d, g2) ← frzA g1 x
    let ds ← itemsOf d
    some (ds, g2)
  | .rng1 a, g => do
    let (x, g1) ← evE a g
    match res g1 x with
    | some (.fz (.int n)) => if absLe n 4000000000000000000 then some ((List.range n.toNat).map fun i => .int (i : Nat), g1) else none
    | _ => none
  | .rng2 a b, g => do
    let (x, g1) ← evE a g
    let (y, g2) ← evE b g1
    if x.simple then
      match res g2 x, res g2 y with
      | some (.fz (.int i)), some (.fz (.int j)) => if absLe i 4000000000000000000 && absLe j 4000000000000000000 then some ((List.range (j - i).toNat).map fun k => .int (i + (k : Nat)), g2) else none
      | _, _ => none
    else none
  | .enu e, g => do
    let (x, g1) ← evE e g
    let (d, g2) ← frzA g1 x
    let ds ← itemsOf d
    some (numbered 0 ds, g2)
  | .zip a b, g => do
    let (x, g1) ← evE a g
    let (y, g2) ← evE b g1
    if x.simple then do
      let (d, g3) ← frzA g2 x
      let (e, g4) ← frzA g3 y
      match d, e with
      | .lst ds, .lst es => some (pairUp ds es, g4)
      | .tup ds, .tup es | .tup ds, .pt es | .pt ds, .tup es | .pt ds, .pt es => some (pairUp ds es, g4)
      | _, _ => none
    else none
end

inductive Oc where
  | nx (g : Gam) | ret (w : W) (g : Gam) | brk (g : Gam) | cnt (g : Gam)
/-- one store -/
def stoW : ST → W → Gam → Option Gam
  | .nm i _, w, g => if i < g.length then some (g.set i (some w)) else none
  | .un t, w, g => match w with
    | .fz d => bindT t d g
    | _ => none
  | .sub a i _, w, g => do
    let (x, g1) ← evE F a g
    let (y, g2) ← evE F i g1
    if x.simple || pureE i then do
      let wi ← res g2 y
      let (g3, _) ← modP g2 x (setW wi.toD w)
      some g3
    else none
def ST.own : ST → Bool
  | .nm _ o => o
  | .un _ => false
  | .sub _ _ o => o
def takeS : List ST → List Arg → Gam → Option (List W × Gam)
  | [], [], g => some ([], g)
  | t :: ts, x :: xs, g => do
    let (w, g1) ← takeA t.own g x
    let (ws, g2) ← takeS ts xs g1
    some (w :: ws, g2)
  | _, _, _ => none
def stoL : List ST → List W → Gam → Option Gam
  | [], [], g => some g
  | t :: ts, w :: ws, g => do
    let g1 ← stoW F t w g
    stoL ts ws g1
  | _, _, _ => none
def forL (bind : D → Gam → Option Gam) (body : Gam → Option Oc) : List D → Gam → Option Oc
  | [], g => some (.nx g)
  | d :: ds, g => do
    let g1 ← bind d g
    match body g1 with
    | some (.nx g2) => forL bind body ds g2
    | some (.cnt g2) => forL bind body ds g2
    | some (.brk g2) => some (.nx g2)
    | some (.ret w g2) => some (.ret w g2)
    | none => none
def whileL (test : Gam → Option (Bool × Gam)) (body : Gam → Option Oc) : Nat → Gam → Option Oc
  | 0, _ => none
  | n + 1, g => do
    let (b, g1) ← test g
    if b then
      match body g1 with
      | some (.nx g2) => whileL test body n g2
      | some (.cnt g2) => whileL test body n g2
      | some (.brk g2) => some (.nx g2)
      | some (.ret w g2) => some (.ret w g2)
      | none => none
    else some (.nx g1)
mutual
def runS : IS → Gam → Option Oc
  | .asg t e, g => do
    let (x, g1) ← evE F e g
    let (w, g2) ← takeA t.own g1 x
    let g3 ← stoW F t w g2
    some (.nx g3)
  | .asgs ts es, g => do
    let (xs, g1) ← evL F es g
    let (ws, g2) ← takeS ts xs g1
    let g3 ← stoL F ts ws g2
    some (.nx g3)
  | .aug i o e, g => match g[i]? with
    | some (some _) => do
      let (y, g1) ← evE F e g
      match g1[i]?, res g1 y with
      | some (some (.fz (.int a))), some (.fz (.int b)) => match o with
        | .add => some (.nx (g1.set i (some (.fz (.int (a + b))))))
        | .sub => some (.nx (g1.set i (some (.fz (.int (a - b))))))
        | _ => none
      | _, _ => none
    | _ => none
  | .exp e, g => do
    let (_, g1) ← evE F e g
    some (.nx g1)
  | .del a k, g => do
    let (x, g1) ← evE F a g
    let (y, g2) ← evE F k g1
    if x.simple then do
      let wk ← res g2 y
      let (g3, _) ← modP g2 x (delW wk.toD)
      some (.nx g3)
    else none
  | .ret o e, g => do
    let (x, g1) ← evE F e g
    match o, x with
    | true, .pth i [] => match g1[i]? with
      | some (some w) => some (.ret w (g1.set i none))
      | _ => none
    | o, x => do
      let (w, g2) ← takeA o g1 x
      some (.ret w g2)
  | .retN, g => some (.ret (.fz .non) g)
  | .ite c a b, g => do
    let (k, g1) ← evT F c g
    if k then runB a g1 else runB b g1
  | .whl c b, g => whileL (fun g => evT F c g) (fun g => runB b g) fu g
  | .for_ t it b, g => do
    let (ds, g1) ← evI F it g
    forL (fun d g => bindT t d g) (fun g => runB b g) ds g1
  | .brk, g => some (.brk g)
  | .cnt, g => some (.cnt g)
  | .pass, g => some (.nx g)
  | .never, _ => none
def runB : IB → Gam → Option Oc
  | .nil, g => some (.nx g)
  | .cons s r, g => do
    match ← runS s g with
    | .nx g1 => runB r g1
    | o => some o
end
end
/-- a def: parameters (handed over and back?), slots, body -/
structure Fn where
  ps : List Mode
  n : Nat
  body : IB
def iosOf : List Mode → Gam → Option (List W)
  | [], _ => some []
  | .val :: ms, _ :: g => iosOf ms g
  | .io :: ms, some w :: g => (iosOf ms g).map (w :: ·)
  | _, _ => none
def runF (F : Nat → List W → Option (W × List W)) (fu : Nat) (f : Fn) (ws : List W) : Option (W × List W) :=
  if ws.length = f.ps.length then
    match runB F fu f.body (ws.map some ++ List.replicate (f.n - ws.length) none) with
    | some (.ret w g) => (iosOf f.ps g).map fun ios => (w, ios)
    | some (.nx g) => (iosOf f.ps g).map fun ios => (.fz .non, ios)
    | _ => none
  else none
def callF (P : Nat → Option Fn) (fu : Nat) : Nat → Nat → List W → Option (W × List W)
  | 0, _, _ => none
  | n + 1, f, ws => match P f with
    | some fn => runF (callF P fu n) fu fn ws
    | none => none
end PF
end

section
set_option Elab.async false
set_option linter.all false
set_option maxRecDepth 100000
namespace PF
open PySem PySem.Spec PyProof.Rows L2

/-! ### data by values: the parts in B, the thing itself in H -/
section
variable (K : PySem.W.Frag) (B H : Hp)
def RepT : D → V → Prop
  | .lst xs, v => ∃ a vs, v = .ref a ∧ H a = some (.lst vs) ∧ RepDs K B xs vs
  | .tup xs, v => (∃ a vs, v = .ref a ∧ H a = some (.tup vs) ∧ RepDs K B xs vs) ∧ RepD K B (.tup xs) v
  | .dK xs, v => ∃ a vs, v = .ref a ∧ H a = some (.dK vs) ∧ RepDK K B xs vs
  | .dT xs, v => ∃ a vs, v = .ref a ∧ H a = some (.dT vs) ∧ RepDT K B xs vs
  | .scr ns, v => ∃ a, v = .ref a ∧ SqL K H a (ns.map V.int)
  | .pt xs, v => (∃ a vs o, v = .ref a ∧ H a = some (.frz o (.tup vs)) ∧ o.dict = none ∧ RepDs K B xs vs) ∧ RepD K B (.pt xs) v
  | d, v => RepD K B d v
def TopO : D → HO → Prop
  | .lst xs, .lst vs => RepDs K B xs vs
  | .tup xs, .tup vs => RepDs K B xs vs
  | .dK xs, .dK vs => RepDK K B xs vs
  | .dT xs, .dT vs => RepDT K B xs vs
  | .pt xs, .frz o (.tup vs) => o.dict = none ∧ RepDs K B xs vs
  | _, _ => False
end
def D.old : D → Bool
  | .lst _ | .dK _ | .dT _ | .scr _ => false
  | _ => true
/-- the result d is reached: as it stands, or as a new object -/
structure Fin (K : PySem.W.Frag) (B H : Hp) (d : D) (Q : VK) : Prop where
  at_ : ∀ v, d.old = true → RepD K B d v → Q v H
  new : ∀ p o, H p = none → TopO K B d o → Q (.ref p) (upd H p o)
section
variable {K : PySem.W.Frag} {B H : Hp}
theorem RepD.top (s : Same B H) {d : D} {v : V} (h : RepD K B d v) : RepT K B H d v := by
  cases d with
  | lst xs =>
    obtain ⟨a, vs, e, t, r⟩ := h
    exact ⟨a, vs, e, s _ _ t, r⟩
  | tup xs =>
    obtain ⟨a, vs, e, t, r⟩ := id h
    exact ⟨⟨a, vs, e, s _ _ t, r⟩, h⟩
  | dK xs =>
    obtain ⟨a, vs, e, t, r⟩ := h
    exact ⟨a, vs, e, s _ _ t, r⟩
  | dT xs =>
    obtain ⟨a, vs, e, t, r⟩ := h
    exact ⟨a, vs, e, s _ _ t, r⟩
  | scr ns =>
    obtain ⟨a, e, t⟩ := h
    exact ⟨a, e, s.seq t⟩
  | pt xs =>
    obtain ⟨a, vs, o, e, t, n, r⟩ := id h
    exact ⟨⟨a, vs, o, e, s _ _ t, n, r⟩, h⟩
  | _ => exact h
theorem RepT.now (s : Same B H) {d : D} {v : V} (h : RepT K B H d v) : RepD K H d v := by
  cases d with
  | lst xs =>
    obtain ⟨a, vs, e, t, r⟩ := h
    exact ⟨a, vs, e, t, RepDs.mono s r⟩
  | tup xs => exact RepD.mono s h.2
  | dK xs =>
    obtain ⟨a, vs, e, t, r⟩ := h
    exact ⟨a, vs, e, t, RepDK.mono s r⟩
  | dT xs =>
    obtain ⟨a, vs, e, t, r⟩ := h
    exact ⟨a, vs, e, t, RepDT.mono s r⟩
  | scr ns => exact h
  | pt xs => exact RepD.mono s h.2
  | _ => exact RepD.mono s h
theorem RepDs.len : ∀ {ds : List D} {vs : List V}, RepDs K B ds vs → ds.length = vs.length
  | [], _, h => by
    have h : _ = [] := h
    subst h
    rfl
  | _ :: _, _, ⟨v, r, e, _, t⟩ => by rw [e, List.length_cons, List.length_cons, RepDs.len t]
theorem RepDs.get : ∀ {ds : List D} {vs : List V} {i : Nat} {d : D}, RepDs K B ds vs → ds[i]? = some d → ∃ v, vs[i]? = some v ∧ RepD K B d v
  | [], _, i, _, _, e => by simp at e
  | _ :: _, _, 0, d, ⟨v, r, e, h, _⟩, e' => by
    simp only [List.getElem?_cons_zero, Option.some.injEq] at e'
    subst e'; subst e
    exact ⟨v, rfl, h⟩
  | _ :: _, _, i + 1, d, ⟨v, r, e, _, t⟩, e' => by
    subst e
    obtain ⟨v', a, b⟩ := RepDs.get t (i := i) (d := d) (by simpa using e')
    exact ⟨v', by simpa using a, b⟩
theorem RepDs.append : ∀ {ds es : List D} {vs us : List V}, RepDs K B ds vs → RepDs K B es us → RepDs K B (ds ++ es) (vs ++ us)
  | [], _, _, _, h, t => by
    have h : _ = [] := h
    subst h
    exact t
  | _ :: _, _, _, _, ⟨v, r, e, h, t⟩, u => by
    subst e
    exact ⟨v, r ++ _, rfl, h, RepDs.append t u⟩
theorem RepDs.take : ∀ {ds : List D} {vs : List V} (n : Nat), RepDs K B ds vs → RepDs K B (ds.take n) (vs.take n)
  | _, _, 0, _ => rfl
  | [], _, _ + 1, h => by
    have h : _ = [] := h
    subst h
    exact rfl
  | _ :: _, _, n + 1, ⟨v, r, e, h, t⟩ => by
    subst e
    exact ⟨v, _, rfl, h, RepDs.take n t⟩
theorem RepDs.drop : ∀ {ds : List D} {vs : List V} (n : Nat), RepDs K B ds vs → RepDs K B (ds.drop n) (vs.drop n)
  | _, _, 0, h => h
  | [], _, _ + 1, h => by
    have h : _ = [] := h
    subst h
    exact rfl
  | _ :: _, _, n + 1, ⟨v, r, e, h, t⟩ => by
    subst e
    exact RepDs.drop n t
theorem RepDs.flat {ds : List D} {vs : List V} (h : RepDs K B ds vs) : ∀ k : Nat, RepDs K B (List.replicate k ds).flatten (List.replicate k vs).flatten
  | 0 => rfl
  | k + 1 => by
    rw [List.replicate_succ, List.replicate_succ, List.flatten_cons, List.flatten_cons]
    exact h.append (RepDs.flat h k)
theorem RepDs.ints : ∀ {ds : List D} {vs : List V} {ns : List Int}, RepDs K B ds vs → intsOf ds = some ns → vs = ns.map V.int
  | [], _, ns, h, e => by
    have h : _ = [] := h
    have e : some [] = some ns := e
    cases e
    exact h
  | d :: ds, _, ns, ⟨v, r, e', h, t⟩, e => by
    cases d with
    | int i =>
      have e : (intsOf ds).map (i :: ·) = some ns := e
      obtain ⟨ms, e1, e2⟩ := Option.map_eq_some_iff.mp e
      subst e'
      have h : v = .int i := h
      rw [← e2, h, RepDs.ints t e1]
      rfl
    | _ => cases e
theorem RepDs.bls : ∀ {ds : List D} {vs : List V} {ns : List Bool}, RepDs K B ds vs → blsOf ds = some ns → vs = ns.map V.bl
  | [], _, ns, h, e => by
    have h : _ = [] := h
    have e : some [] = some ns := e
    cases e
    exact h
  | d :: ds, _, ns, ⟨v, r, e', h, t⟩, e => by
    cases d with
    | bl i =>
      have e : (blsOf ds).map (i :: ·) = some ns := e
      obtain ⟨ms, e1, e2⟩ := Option.map_eq_some_iff.mp e
      subst e'
      have h : v = .bl i := h
      rw [← e2, h, RepDs.bls t e1]
      rfl
    | _ => cases e
theorem RepD.key {d : D} {k : Key} {v : V} (h : RepD K B d v) (e : keyOf d = some k) : v = kV k := by
  cases d with
  | int i =>
    cases e
    exact h
  | str x =>
    cases e
    exact h
  | _ => cases e
theorem RepDs.keys : ∀ {ds : List D} {vs : List V} {ks : List Key}, RepDs K B ds vs → keysOf ds = some ks → vs = ks.map kV
  | [], _, ks, h, e => by
    have h : _ = [] := h
    have e : some [] = some ks := e
    cases e
    exact h
  | d :: ds, _, ks, ⟨v, r, e', h, t⟩, e => by
    have e : (match keyOf d, keysOf ds with | some k, some ks => some (k :: ks) | _, _ => none) = some ks := e
    cases q : keyOf d with
    | none => rw [q] at e; cases e
    | some k =>
      cases q' : keysOf ds with
      | none => rw [q, q'] at e; cases e
      | some l =>
        rw [q, q'] at e
        cases e
        subst e'
        rw [h.key q, RepDs.keys t q']
        rfl
theorem ints_rep : ∀ (ns : List Int), RepDs K B (ns.map .int) (ns.map V.int)
  | [] => rfl
  | n :: ns => ⟨_, _, rfl, rfl, ints_rep ns⟩
theorem lookK_valV {κ : Type} [DecidableEq κ] (k : κ) : ∀ kv : List (κ × V), lookK k kv = valV kv k
  | [] => rfl
  | (k', x) :: r => by
    unfold lookK
    by_cases e : k' = k
    · rw [if_pos e, valV_pos (p := (k', x)) e]
    · rw [if_neg e, valV_neg (p := (k', x)) e, lookK_valV k r]
def LookR (K : PySem.W.Frag) (B : Hp) : Option D → Option V → Prop
  | some d, some v => RepD K B d v
  | none, none => True
  | _, _ => False
theorem RepDK.look {k : Key} : ∀ {ds : List (Key × D)} {vs : List (Key × V)}, RepDK K B ds vs → LookR K B (lookK k ds) (valV vs k)
  | [], _, h => by
    have h : _ = [] := h
    subst h
    exact True.intro
  | (k', d) :: ds, _, ⟨v, r, e, h, t⟩ => by
    subst e
    have ih := RepDK.look (k := k) t
    rw [← lookK_valV] at ih ⊢
    unfold lookK
    by_cases e : k' = k
    · rw [if_pos e, if_pos e]
      exact h
    · rw [if_neg e, if_neg e]
      exact ih
theorem RepDT.look {k : List Key} : ∀ {ds : List (List Key × D)} {vs : List (List Key × V)}, RepDT K B ds vs → LookR K B (lookK k ds) (valV vs k)
  | [], _, h => by
    have h : _ = [] := h
    subst h
    exact True.intro
  | (k', d) :: ds, _, ⟨v, r, e, h, t⟩ => by
    subst e
    have ih := RepDT.look (k := k) t
    rw [← lookK_valV] at ih ⊢
    unfold lookK
    by_cases e : k' = k
    · rw [if_pos e, if_pos e]
      exact h
    · rw [if_neg e, if_neg e]
      exact ih
/-- an entry that is asked for -/
theorem RepT.get {a y : D} {o : Option D} {x z : V} (h : RepT K B H a x) (hy : RepT K B H y z) (e : getD? a y = some o) : ∃ p ov, x = .ref p ∧ DGet H p z ov ∧ LookR K B o ov := by
  cases a with
  | dK kvs =>
    have e : (match keyOf y with | some k => some (lookK k kvs) | none => none) = some o := e
    cases q : keyOf y with
    | none => rw [q] at e; cases e
    | some k =>
      rw [q] at e
      cases e
      obtain ⟨p, kv, e1, e2, r⟩ := h
      have hz : z = kV k := by
        cases y with
        | int i =>
          cases q
          exact hy
        | str x =>
          cases q
          exact hy
        | _ => cases q
      subst hz
      exact ⟨p, _, e1, .k e2, r.look⟩
  | dT kvs =>
    cases y with
    | tup ys =>
      have e : (match keysOf ys with | some k => some (lookK k kvs) | none => none) = some o := e
      cases q : keysOf ys with
      | none => rw [q] at e; cases e
      | some k =>
        rw [q] at e
        cases e
        obtain ⟨p, kv, e1, e2, r⟩ := h
        obtain ⟨⟨b, us, e3, e4, r'⟩, _⟩ := hy
        rw [r'.keys q] at e4
        rw [e3]
        exact ⟨p, _, e1, .t e2 e4, r.look⟩
    | _ => cases e
  | _ => cases e
/-! seen by the library's own data -/
mutual
def toPy : D → PyData
  | .non => .none
  | .bl b => .bool b
  | .int i => .int i
  | .str x => .str x
  | .tup xs => .tuple (toPys xs)
  | .lst xs => .list (toPys xs)
  | .pt xs => .tuple (toPys xs)
  | _ => .dict []
def toPys : List D → List PyData
  | [] => []
  | x :: xs => toPy x :: toPys xs
end
mutual
theorem RepD.dp : ∀ {d : D} {v : V}, layD d = true → RepD K B d v → Dp K B v (toPy d)
  | .non, v, _, h => by
    have h : v = _ := h
    subst h
    exact .non
  | .bl b, v, _, h => by
    have h : v = _ := h
    subst h
    exact .bl b
  | .int b, v, _, h => by
    have h : v = _ := h
    subst h
    exact .int b
  | .str b, v, _, h => by
    have h : v = _ := h
    subst h
    exact .str b
  | .tup xs, _, l, ⟨a, vs, e, t, r⟩ => by
    subst e
    unfold toPy
    exact .tup (.of t) (RepDs.dp (by simpa [layD] using l) r)
  | .lst xs, _, l, ⟨a, vs, e, t, r⟩ => by
    subst e
    unfold toPy
    exact .lst (.of t) (RepDs.dp (by simpa [layD] using l) r)
  | .dK _, _, l, _ => by simp [layD] at l
  | .dT _, _, l, _ => by simp [layD] at l
  | .scr _, _, l, _ => by simp [layD] at l
  | .pt xs, _, l, ⟨a, vs, o, e, t, n, r⟩ => by
    subst e
    unfold toPy
    exact .tup (.inl (.inr ⟨o, t⟩)) (RepDs.dp (by simpa [layD] using l) r)
theorem RepDs.dp : ∀ {d : List D} {v : List V}, layDs d = true → RepDs K B d v → DpAll K B v (toPys d)
  | [], v, _, h => by
    have h : v = [] := h
    subst h
    unfold toPys
    exact .nil
  | x :: xs, _, l, ⟨v, r, e, h, t⟩ => by
    subst e
    unfold toPys
    simp only [layDs, Bool.and_eq_true] at l
    exact .cons (RepD.dp l.1 h) (RepDs.dp l.2 t)
end
mutual
theorem lay_py : ∀ {d : D}, layD d = true → (toPy d).canLay0 = true ∧ (toPy d).depth = depD d
  | .non, _ => ⟨rfl, rfl⟩
  | .bl b, _ => ⟨rfl, rfl⟩
  | .int b, _ => ⟨rfl, rfl⟩
  | .str b, h => ⟨by simpa [toPy, layD, PyData.canLay0] using h, rfl⟩
  | .tup xs, l => by
    obtain ⟨h1, h2⟩ := lays_py (d := xs) (by simpa [layD] using l)
    simp only [toPy, PyData.canLay0, PyData.depth, depD]
    exact ⟨h1, by rw [h2]⟩
  | .lst xs, l => by
    obtain ⟨h1, h2⟩ := lays_py (d := xs) (by simpa [layD] using l)
    simp only [toPy, PyData.canLay0, PyData.depth, depD]
    exact ⟨h1, by rw [h2]⟩
  | .dK _, l => by simp [layD] at l
  | .dT _, l => by simp [layD] at l
  | .scr _, l => by simp [layD] at l
  | .pt xs, l => by
    obtain ⟨h1, h2⟩ := lays_py (d := xs) (by simpa [layD] using l)
    simp only [toPy, PyData.canLay0, PyData.depth, depD]
    exact ⟨h1, by rw [h2]⟩
theorem lays_py : ∀ {d : List D}, layDs d = true → PyData.canLayAll0 (toPys d) = true ∧ PyData.depthAll (toPys d) = depDs d
  | [], _ => ⟨rfl, rfl⟩
  | x :: xs, l => by
    simp only [layDs, Bool.and_eq_true] at l
    obtain ⟨h1, h2⟩ := lay_py l.1
    obtain ⟨h3, h4⟩ := lays_py l.2
    simp [toPys, PyData.canLayAll0, PyData.depthAll, depDs, h1, h2, h3, h4]
end
theorem ok_shaped {d : D} (h : okD d = true) : SeqAt.shaped (toPy d) = true := by
  unfold okD at h
  simp only [Bool.and_eq_true, decide_eq_true_eq] at h
  obtain ⟨h1, h2⟩ := lay_py h.1
  unfold SeqAt.shaped
  rw [h1, h2]
  simp only [Bool.true_and, decide_eq_true_eq]
  omega
mutual
theorem eqv_py : ∀ {a b : D}, layD a = true → layD b = true → PyData.eqv (toPy a) (toPy b) = eqvD a b
  | .tup xs, .tup ys, l, m => by
    simp only [toPy, PyData.eqv, eqvD]
    exact eqvs_py (by simpa [layD] using l) (by simpa [layD] using m)
  | .tup xs, .pt ys, l, m => by
    simp only [toPy, PyData.eqv, eqvD]
    exact eqvs_py (by simpa [layD] using l) (by simpa [layD] using m)
  | .pt xs, .tup ys, l, m => by
    simp only [toPy, PyData.eqv, eqvD]
    exact eqvs_py (by simpa [layD] using l) (by simpa [layD] using m)
  | .pt xs, .pt ys, l, m => by
    simp only [toPy, PyData.eqv, eqvD]
    exact eqvs_py (by simpa [layD] using l) (by simpa [layD] using m)
  | .lst xs, .lst ys, l, m => by
    simp only [toPy, PyData.eqv, eqvD]
    exact eqvs_py (by simpa [layD] using l) (by simpa [layD] using m)
  | .dK _, _, l, _ => by simp [layD] at l
  | .dT _, _, l, _ => by simp [layD] at l
  | .scr _, _, l, _ => by simp [layD] at l
  | .non, b, _, m => by cases b <;> simp_all [toPy, PyData.eqv, eqvD, layD]
  | .bl _, b, _, m => by cases b <;> simp_all [toPy, PyData.eqv, eqvD, layD]
  | .int _, b, _, m => by cases b <;> simp_all [toPy, PyData.eqv, eqvD, layD]
  | .str _, b, _, m => by cases b <;> simp_all [toPy, PyData.eqv, eqvD, layD]
  | .tup xs, .non, l, m => by simp_all [toPy, PyData.eqv, eqvD, layD]
  | .tup xs, .bl _, l, m => by simp_all [toPy, PyData.eqv, eqvD, layD]
  | .tup xs, .int _, l, m => by simp_all [toPy, PyData.eqv, eqvD, layD]
  | .tup xs, .str _, l, m => by simp_all [toPy, PyData.eqv, eqvD, layD]
  | .tup xs, .dK _, l, m => by simp_all [toPy, PyData.eqv, eqvD, layD]
  | .tup xs, .dT _, l, m => by simp_all [toPy, PyData.eqv, eqvD, layD]
  | .tup xs, .scr _, l, m => by simp_all [toPy, PyData.eqv, eqvD, layD]
  | .tup xs, .lst _, l, m => by simp_all [toPy, PyData.eqv, eqvD, layD]
  | .pt xs, .non, l, m => by simp_all [toPy, PyData.eqv, eqvD, layD]
  | .pt xs, .bl _, l, m => by simp_all [toPy, PyData.eqv, eqvD, layD]
  | .pt xs, .int _, l, m => by simp_all [toPy, PyData.eqv, eqvD, layD]
  | .pt xs, .str _, l, m => by simp_all [toPy, PyData.eqv, eqvD, layD]
  | .pt xs, .dK _, l, m => by simp_all [toPy, PyData.eqv, eqvD, layD]
  | .pt xs, .dT _, l, m => by simp_all [toPy, PyData.eqv, eqvD, layD]
  | .pt xs, .scr _, l, m => by simp_all [toPy, PyData.eqv, eqvD, layD]
  | .pt xs, .lst _, l, m => by simp_all [toPy, PyData.eqv, eqvD, layD]
  | .lst xs, .non, l, m => by simp_all [toPy, PyData.eqv, eqvD, layD]
  | .lst xs, .bl _, l, m => by simp_all [toPy, PyData.eqv, eqvD, layD]
  | .lst xs, .int _, l, m => by simp_all [toPy, PyData.eqv, eqvD, layD]
  | .lst xs, .str _, l, m => by simp_all [toPy, PyData.eqv, eqvD, layD]
  | .lst xs, .dK _, l, m => by simp_all [toPy, PyData.eqv, eqvD, layD]
  | .lst xs, .dT _, l, m => by simp_all [toPy, PyData.eqv, eqvD, layD]
  | .lst xs, .scr _, l, m => by simp_all [toPy, PyData.eqv, eqvD, layD]
  | .lst xs, .tup _, l, m => by simp_all [toPy, PyData.eqv, eqvD, layD]
  | .lst xs, .pt _, l, m => by simp_all [toPy, PyData.eqv, eqvD, layD]
theorem eqvs_py : ∀ {a b : List D}, layDs a = true → layDs b = true → PyData.eqvAll (toPys a) (toPys b) = eqvDs a b
  | [], [], _, _ => rfl
  | [], _ :: _, _, _ => rfl
  | _ :: _, [], _, _ => rfl
  | x :: xs, y :: ys, l, m => by
    simp only [layDs, Bool.and_eq_true] at l m
    simp only [toPys, PyData.eqvAll, eqvDs]
    rw [eqv_py l.1 m.1, eqvs_py l.2 m.2]
end
theorem ok_lay {d : D} (h : okD d = true) : layD d = true := by
  unfold okD at h
  exact (Bool.and_eq_true_iff.mp h).1
end
end PF
end

section
set_option Elab.async false
set_option linter.all false
set_option maxRecDepth 100000
set_option maxHeartbeats 1000000

/-! ### sorting tuples of ints -/
namespace PFS
open PySem PyProof.Rows SrtO
theorem lex_irr : ∀ ns : List Int, HT.lexLt ns ns = false
  | [] => rfl
  | n :: ns => by
    rw [HT.lexLt_cons, if_pos rfl]
    exact lex_irr ns
theorem lex_asym : ∀ ns ms : List Int, HT.lexLt ns ms = true → HT.lexLt ms ns = false
  | [], [], h => by rw [HT.lexLt_nil_nil] at h; cases h
  | [], m :: ms, _ => HT.lexLt_cons_nil m ms
  | n :: ns, [], h => by rw [HT.lexLt_cons_nil] at h; cases h
  | n :: ns, m :: ms, h => by
    rw [HT.lexLt_cons] at h ⊢
    by_cases e : n = m
    · rw [if_pos e] at h
      rw [if_pos e.symm]
      exact lex_asym ns ms h
    · rw [if_neg e] at h
      rw [if_neg (Ne.symm e)]
      have := of_decide_eq_true h
      exact decide_eq_false (by omega)
theorem lex_le_tr : ∀ a b c : List Int, HT.lexLt b a = false → HT.lexLt c b = false → HT.lexLt c a = false
  | [], _, [], _, _ => rfl
  | [], [], c :: cs, _, h => by rw [HT.lexLt_cons_nil]
  | [], b :: bs, c :: cs, _, _ => by rw [HT.lexLt_cons_nil]
  | a :: as, [], _, h, _ => by rw [HT.lexLt_nil_cons] at h; cases h
  | a :: as, b :: bs, [], _, h => by rw [HT.lexLt_nil_cons] at h; cases h
  | a :: as, b :: bs, c :: cs, h1, h2 => by
    rw [HT.lexLt_cons] at h1 h2 ⊢
    by_cases e1 : b = a
    · rw [if_pos e1] at h1
      by_cases e2 : c = b
      · rw [if_pos e2] at h2
        rw [if_pos (e2.trans e1)]
        exact lex_le_tr as bs cs h1 h2
      · rw [if_neg e2] at h2
        have := of_decide_eq_false h2
        rw [if_neg (by omega)]
        exact decide_eq_false (by omega)
    · rw [if_neg e1] at h1
      have := of_decide_eq_false h1
      by_cases e2 : c = b
      · rw [if_neg (by omega)]
        exact decide_eq_false (by omega)
      · rw [if_neg e2] at h2
        have := of_decide_eq_false h2
        rw [if_neg (by omega)]
        exact decide_eq_false (by omega)
theorem lex_eq : ∀ a b : List Int, HT.lexLt a b = false → HT.lexLt b a = false → a = b
  | [], [], _, _ => rfl
  | [], b :: bs, h, _ => by rw [HT.lexLt_nil_cons] at h; cases h
  | a :: as, [], _, h => by rw [HT.lexLt_nil_cons] at h; cases h
  | a :: as, b :: bs, h1, h2 => by
    rw [HT.lexLt_cons] at h1 h2
    by_cases e : a = b
    · rw [if_pos e] at h1
      rw [if_pos e.symm] at h2
      rw [e, lex_eq as bs h1 h2]
    · rw [if_neg e] at h1
      rw [if_neg (Ne.symm e)] at h2
      have := of_decide_eq_false h1
      have := of_decide_eq_false h2
      omega
theorem swo_k {α : Type} (k : α → List Int) : Swo fun v u => HT.lexLt (k v) (k u) :=
  ⟨fun x y h => lex_asym _ _ h, fun x y z h1 h2 => lex_le_tr _ _ _ h1 h2⟩
def IsTI (h : Heap) (v : Value) (ns : List Int) : Prop := ∃ a o its n, v = .ref a ∧ h.get? a = some o ∧ o.cls = .type "tuple" ∧ o.data = .seq its n ∧ IntsAre its.toList ns
theorem IsTI.keeps {h h' : Heap} {v : Value} {ns : List Int} (p : IsTI h v ns) (k : ∀ b o, h.get? b = some o → o.cls = .type "tuple" → h'.get? b = some o) : IsTI h' v ns := by
  obtain ⟨a, o, its, n, e, ho, hc, hd⟩ := p
  exact ⟨a, o, its, n, e, k _ _ ho hc, hc, hd⟩
section
variable {prog : Program} {w : World} {A : Around} {E : Value → Shared → Prop} {s : Shared}
theorem lex_kat {b : Bool} : ∀ (xs ys : List Value) (ns ms : List Int) (i : Nat), IntsAre xs ns → IntsAre ys ms →
    PySem.W.KatLex prog w A b (decide (xs.length < ys.length)) (fun r s' => s' = s ∧ r = HT.lexLt ns ms) (xs.zip ys) i s
  | _, _, _, _, _, .nil, .nil => PySem.W.kat_nil ⟨rfl, rfl⟩
  | _, _, _, _, _, .nil, .cons m t r => PySem.W.kat_nil ⟨rfl, by simp [HT.lexLt_nil_cons]⟩
  | _, _, _, _, _, .cons n t r, .nil => PySem.W.kat_nil ⟨rfl, by simp [HT.lexLt_cons_nil]⟩
  | _, _, _, _, i, .cons (vs := xs) (ns := ns) n t r, .cons (vs := ys) (ns := ms) m u r' => by
    show PySem.W.KatLex prog w A b _ _ ((.int n t, .int m u) :: xs.zip ys) i s
    refine PySem.W.kat_cons (SeqAt.EqAt.int_int n t m u prog w _ _ ?_)
    refine PySem.W.kat_go (fun e1 => ?_) (fun e1 => ?_)
    · have ex : n = m := by simpa using e1
      refine PySem.W.kat_yes ?_
      have ih := lex_kat (b := b) xs ys ns ms (i + 1) r r'
      rw [HT.lexLt_cons, if_pos ex]
      simpa using ih
    · have ex : ¬ n = m := by simpa using e1
      refine PySem.W.kat_no ?_
      rw [HT.lexLt_cons, if_neg ex]
      cases hb : (b && i == 0) with
      | true => exact oneLt_int ⟨rfl, rfl⟩
      | false => exact PySem.W.kat_one _ _ (PyProof.Rows.lt_int ⟨rfl, rfl⟩)
theorem tup_cmp {vs : List Value} {k : Value → List Int} (hp : ∀ v ∈ vs, IsTI s.heap v (k v)) : Cmp prog w A s (tuples' true) (fun p => p.1 ∈ vs) (lt2 fun v u => HT.lexLt (k v) (k u)) := by
  intro p q hm hm'
  show wpAny (model prog w) A (keyLt' (tuples' true) p.1 q.1) (fun r s' => s' = s ∧ r = HT.lexLt (k p.1) (k q.1)) (fun _ _ => False) s
  obtain ⟨a, o, its, n, e, ho, hc, hd, hi⟩ := hp _ hm
  obtain ⟨a', o', its', n', e', ho', hc', hd', hi'⟩ := hp _ hm'
  rw [e, e'] at *
  refine PySem.W.kat_lt ho hd ho' hd' ?_
  have h := lex_kat (prog := prog) (w := w) (A := A) (s := s) (b := true) its.toList its'.toList _ _ 0 hi hi'
  simpa using h
/-- the first items -/
theorem firsts {h : Heap} : ∀ {vs : List Value} {k : Value → List Int}, (∀ v ∈ vs, IsTI h v (k v) ∧ k v ≠ []) → ∃ fs, PySem.W.KatTups h vs fs ∧ fs.length = vs.length ∧ ∀ f ∈ fs, ∃ x t, f = Value.int x t
  | [], _, _ => ⟨[], trivial, rfl, fun _ h => nomatch h⟩
  | v :: vs, k, hp => by
    obtain ⟨fs, h1, h2, h3⟩ := firsts (vs := vs) (k := k) fun u hu => hp u (List.mem_cons_of_mem _ hu)
    obtain ⟨⟨a, o, its, n, e, ho, hc, hd, hi⟩, ne⟩ := hp v List.mem_cons_self
    obtain ⟨x, t, r, er⟩ : ∃ x t r, its.toList = Value.int x t :: r := by
      cases q : k v with
      | nil => exact absurd q ne
      | cons m ms =>
        rw [q] at hi
        cases hi' : its.toList with
        | nil => rw [hi'] at hi; cases hi
        | cons z zs =>
          rw [hi'] at hi
          cases hi with
          | cons _ t r => exact ⟨_, _, _, rfl⟩
    refine ⟨.int x t :: fs, ?_, by simp [h2], fun f hf => ?_⟩
    · rw [e]
      refine PySem.W.KatTups.cons ho hc hd ?_ h1
      rw [← Array.getElem?_toList, er]
      rfl
    · rcases List.mem_cons.mp hf with rfl | hf
      · exact ⟨x, t, rfl⟩
      · exact h3 f hf
theorem tups_sortable {a : Addr} {vs : List Value} {k : Value → List Int} (h0 : 0 < vs.length) (hp : ∀ v ∈ vs, IsTI s.heap v (k v) ∧ k v ≠ []) (ha : ∀ o, s.heap.get? a = some o → o.cls ≠ .type "tuple") : SortableO prog w A s a vs fun v u => HT.lexLt (k v) (k u) := by
  intro h' keep
  have hp' : ∀ v ∈ vs, IsTI h' v (k v) ∧ k v ≠ [] := fun v hm => ⟨(hp v hm).1.keeps fun b o e c => keep b o (fun z => by subst z; exact ha o e c) e, (hp v hm).2⟩
  obtain ⟨fs, h1, h2, h3⟩ := firsts hp'
  refine ⟨tuples' true, fun Q E hq => ?_, tup_cmp fun v hm => (hp' v hm).1⟩
  refine PySem.W.kat_kind (T := .type "int") h1 (by omega) (fun f hm => ?_) (by rfl) ?_
  · obtain ⟨x, t, rfl⟩ := h3 f hm
    exact PySem.W.Looks.now
  · have e : (Value.type "int" != Value.type "tuple") = true := by first | decide +kernel | rfl | decide
    rw [e]
    exact hq
theorem sorted_tups {l : Addr} {vs : List Value} {k : Value → List Int} {Q : Value → Shared → Prop} (hl : s.heap.IsList l vs.toArray) (hz : vs.length ≤ sizeLine) (hp : ∀ v ∈ vs, IsTI s.heap v (k v) ∧ k v ≠ [])
    (h : ∀ (h' : Heap) (d : Addr) (out : List Value), Srtd (fun v u => HT.lexLt (k v) (k u)) out → Stb (fun v u => HT.lexLt (k v) (k u)) out vs → (∀ b o, s.heap.get? b = some o → h'.get? b = some o) → s.heap.objs.size ≤ d → (∃ n, h'.get? d = some (seqObj "list" out.toArray n)) → Q (.ref d) { s with heap := h' }) :
    wpAny (model prog w) A (call (.builtin "sorted") [.ref l]) Q E s := by
  refine sorted_ord (swo_k k) hl hz (fun h2 h₁ a ha kk => ?_) fun out hs hb => ?_
  · refine tups_sortable (s := { s with heap := h₁ }) (by omega) (fun v hm => ⟨(hp v hm).1.keeps fun b o e _ => (kk b o e).2, (hp v hm).2⟩) fun o e => ?_
    have e' : some o = some (seqObj "list" vs.toArray 0) := e.symm.trans ha
    cases e'
    intro c
    exact absurd (Value.type.inj c) (by decide)
  · exact h _ _ out hs hb (fun b o e => sortedAll_old e) (Nat.le_succ _) (sortedAll_at s.heap vs out.toArray)
end
end PFS
namespace PF
open PySem PySem.Spec PyProof.Rows L2
/-- sorted(xs), tuples of ints (k says which), none empty -/
def rSortK (K : PySem.W.Frag) : List V → Hp → VK → Prop := fun vs H Q => ∃ (a : Addr) (xs : List V) (k : V → List Int), vs = [V.ref a] ∧ SqL K H a xs ∧ (∀ x ∈ xs, (∃ t, x = V.ref t ∧ H t = some (.tup ((k x).map V.int))) ∧ k x ≠ []) ∧
  ∀ ys p, SrtO.Srtd (fun x y => HT.lexLt (k x) (k y)) ys → ys.Perm xs → H p = none → Q (.ref p) (upd H p (.lst ys))
section
variable {X : Cx}
theorem cr_sortK : CallR X (.builtin "sorted") (rSortK X.K) := by
  intro pins s σ H vs us Q I r h
  obtain ⟨a, xs, k, rfl, hs, hx, q⟩ := h
  obtain ⟨its, rv, hl, hz⟩ := I.list hs
  obtain ⟨u, rfl, ru⟩ := vals1 r
  obtain rfl : u = Value.ref a := ru
  obtain ⟨e1, e2⟩ := refs_back rv fun x m => by
    obtain ⟨⟨t, e, _⟩, _⟩ := hx x m
    exact ⟨t, e⟩
  refine PFS.sorted_tups (k := fun u => k (backV u)) hl.isList (by rw [← rv.length]; exact hz) (fun v hv => ?_) fun h' d out h1 h2 kp hd hn => ?_
  · obtain ⟨t, rfl⟩ := e2 v hv
    have hm : V.ref t ∈ xs := by rw [e1]; exact List.mem_map.mpr ⟨_, hv, rfl⟩
    obtain ⟨⟨t', e, ht⟩, ne⟩ := hx _ hm
    cases e
    refine ⟨?_, ne⟩
    obtain ⟨_, its2, r2, o, ho, hc, n, hd⟩ := I.hok _ _ ht
    refine ⟨t, o, its2.toArray, n, rfl, ho, hc, hd, ?_⟩
    show IntsAre its2 (k (V.ref t))
    exact intsAre_of r2
  · have h3 : ∀ u ∈ out, ∃ a, u = Value.ref a := fun u hu => e2 u (h2.perm.mem_iff.mp hu)
    obtain ⟨n, hn⟩ := hn
    have hb : (out.map backV).Perm xs := by
      rw [e1]
      exact h2.perm.map backV
    refine ⟨.ref d, upd H d (.lst (out.map backV)), I.laid (t' := s.toks) kp hd ⟨?_, out, n, vals_back h3, hn⟩, rfl, q _ d (SrtO.srtd_map (lt := fun x y => HT.lexLt (k x) (k y)) (f := backV) h1) hb (I.hok.fresh hd)⟩
    rw [hb.length_eq]
    exact hz
end
/-! the one sorted list -/
section
variable {α : Type} {le : α → α → Bool}
theorem ins_perm (x : α) : ∀ l : List α, (insI le x l).Perm (x :: l)
  | [] => .refl _
  | y :: r => by
    unfold insI
    split
    · exact .refl _
    · exact ((ins_perm x r).cons y).trans (.swap _ _ _)
theorem isort_perm : ∀ l : List α, (isort le l).Perm l
  | [] => .refl _
  | x :: r => (ins_perm x _).trans ((isort_perm r).cons x)
theorem ins_sorted (tot : ∀ a b, le a b = false → le b a = true) (tr : ∀ a b c, le a b = true → le b c = true → le a c = true) (x : α) : ∀ l : List α, l.Pairwise (fun a b => le a b = true) → (insI le x l).Pairwise (fun a b => le a b = true)
  | [], _ => List.pairwise_singleton _ _
  | y :: r, h => by
    obtain ⟨h1, h2⟩ := List.pairwise_cons.mp h
    unfold insI
    cases e : le x y with
    | true =>
      rw [if_pos rfl]
      refine List.pairwise_cons.mpr ⟨fun z hz => ?_, h⟩
      rcases List.mem_cons.mp hz with rfl | hz
      · exact e
      · exact tr _ _ _ e (h1 z hz)
    | false =>
      rw [if_neg (by simp)]
      refine List.pairwise_cons.mpr ⟨fun z hz => ?_, ins_sorted tot tr x r h2⟩
      rcases List.mem_cons.mp ((ins_perm x r).mem_iff.mp hz) with rfl | hz
      · exact tot _ _ e
      · exact h1 z hz
theorem isort_sorted (tot : ∀ a b, le a b = false → le b a = true) (tr : ∀ a b c, le a b = true → le b c = true → le a c = true) : ∀ l : List α, (isort le l).Pairwise (fun a b => le a b = true)
  | [] => List.Pairwise.nil
  | x :: r => ins_sorted tot tr x _ (isort_sorted tot tr r)
theorem sorted_uniq (anti : ∀ a b, le a b = true → le b a = true → a = b) : ∀ {l m : List α}, l.Pairwise (fun a b => le a b = true) → m.Pairwise (fun a b => le a b = true) → l.Perm m → l = m
  | [], m, _, _, p => (List.Perm.eq_nil p.symm).symm
  | x :: l, [], _, _, p => absurd p.length_eq (by simp)
  | x :: l, y :: m, h1, h2, p => by
    obtain ⟨a1, a2⟩ := List.pairwise_cons.mp h1
    obtain ⟨b1, b2⟩ := List.pairwise_cons.mp h2
    have e : x = y := by
      rcases List.mem_cons.mp (p.mem_iff.mp List.mem_cons_self) with e | hx
      · exact e
      · rcases List.mem_cons.mp (p.mem_iff.mpr List.mem_cons_self) with e | hy
        · exact e.symm
        · exact anti _ _ (a1 y hy) (b1 x hx)
    subst e
    rw [sorted_uniq anti a2 b2 p.cons_inv]
end
theorem leI_sorted (ns : List Int) : (isort (fun a b => decide (a ≤ b)) ns).Pairwise (· ≤ ·) :=
  (isort_sorted (le := fun a b => decide (a ≤ b)) (fun a b h => decide_eq_true (by have := of_decide_eq_false h; omega)) (fun a b c h1 h2 => decide_eq_true (by have := of_decide_eq_true h1; have := of_decide_eq_true h2; omega)) ns).imp fun {a b} h => of_decide_eq_true h
theorem isort_ints {ns ms : List Int} (p : ms.Perm ns) (h : ms.Pairwise (· ≤ ·)) : ms = isort (fun a b => decide (a ≤ b)) ns :=
  sorted_uniq (le := fun a b => decide (a ≤ b)) (fun a b h1 h2 => by have := of_decide_eq_true h1; have := of_decide_eq_true h2; omega) (h.imp fun {a b} h => decide_eq_true h) ((leI_sorted ns).imp fun {a b} h => decide_eq_true h) (p.trans (isort_perm ns).symm)
theorem leL_tot (a b : List Int) (h : leInts a b = false) : leInts b a = true := by
  unfold leInts at *
  simp only [Bool.not_eq_false', Bool.not_eq_true'] at *
  exact PFS.lex_asym _ _ h
theorem leL_tr (a b c : List Int) (h1 : leInts a b = true) (h2 : leInts b c = true) : leInts a c = true := by
  unfold leInts at *
  simp only [Bool.not_eq_true'] at *
  exact PFS.lex_le_tr a b c h1 h2
theorem leL_anti (a b : List Int) (h1 : leInts a b = true) (h2 : leInts b a = true) : a = b := by
  unfold leInts at *
  simp only [Bool.not_eq_true'] at *
  exact PFS.lex_eq a b h2 h1
end PF
end

section
set_option Elab.async false
set_option linter.all false
set_option maxRecDepth 100000
set_option maxHeartbeats 1000000
namespace PF
open PySem PySem.Spec PyProof.Rows L2

def rB (K : PySem.W.Frag) (f : D → D → Option D) : R2 := fun x y H Q => ∃ B d1 d2 d, Same B H ∧ RepT K B H d1 x ∧ RepT K B H d2 y ∧ f d1 d2 = some d ∧ Fin K B H d Q
def rC (K : PySem.W.Frag) (f : D → D → Option Bool) : R2 := fun x y H Q => ∃ B d1 d2 b, Same B H ∧ RepT K B H d1 x ∧ RepT K B H d2 y ∧ f d1 d2 = some b ∧ Q (.bl b) H
def rA (K : PySem.W.Frag) (f : List D → Option D) : List V → Hp → VK → Prop := fun vs H Q => ∃ B ds d, Same B H ∧ Paired (RepT K B H) ds vs ∧ f ds = some d ∧ Fin K B H d Q
section
variable {X : Cx} {K : PySem.W.Frag} {B H : Hp} {Q : VK}
theorem Fin.int {i : Int} (f : Fin K B H (.int i) Q) : Q (.int i) H := f.at_ _ rfl rfl
theorem Fin.bl {i : Bool} (f : Fin K B H (.bl i) Q) : Q (.bl i) H := f.at_ _ rfl rfl
theorem Fin.str {i : Str} (f : Fin K B H (.str i) Q) : Q (.str i) H := f.at_ _ rfl rfl
theorem Fin.lst {ds : List D} {vs : List V} (f : Fin K B H (.lst ds) Q) (r : RepDs K B ds vs) : ∀ p, H p = none → Q (.ref p) (upd H p (.lst vs)) := fun p hp => f.new p _ hp r
theorem Fin.tup {ds : List D} {vs : List V} (f : Fin K B H (.tup ds) Q) (r : RepDs K B ds vs) : ∀ p, H p = none → Q (.ref p) (upd H p (.tup vs)) := fun p hp => f.new p _ hp r
theorem opr_neg : UnR X (unaryOp .USub) (fun x H Q => ∃ d1 d, RepD X.K H d1 x ∧ unD .neg d1 = some d ∧ Fin X.K H H d Q) := by
  intro pins s σ H x v Q I rx h
  obtain ⟨d1, d, h1, e, f⟩ := h
  cases d1 <;> simp only [unD, reduceCtorEq, Option.some.injEq] at e
  subst e
  exact un_neg pins s σ H x v Q I rx ⟨_, h1, f.int⟩
theorem opr_add : OpR X (binaryOp .Add) (rB X.K (binD .add)) := by
  intro pins s σ H x y v u Q I rx ry h
  obtain ⟨B, d1, d2, d, sb, h1, h2, e, f⟩ := h
  cases d1 <;> cases d2 <;> simp only [binD, reduceCtorEq, Option.some.injEq] at e
  · subst e
    exact op_add pins s σ H x y v u Q I rx ry ⟨_, _, h1, h2, f.int⟩
  · split at e
    · cases e
      rename_i hl
      exact op_add_str pins s σ H x y v u Q I rx ry ⟨_, _, h1, h2, hl, f.str⟩
    · cases e
  · split at e
    · cases e
      rename_i hl
      obtain ⟨⟨a, vs, e1, t1, r1⟩, w1⟩ := h1
      obtain ⟨⟨b, us, e2, t2, r2⟩, w2⟩ := h2
      rw [r1.len, r2.len] at hl
      refine op_catA pins s σ H x y v u Q I rx ry ⟨a, b, vs, us, e1, e2, .of t1, .of t2, hl, fun z => ?_, fun _ z => ?_, fun _ _ => f.tup (r1.append r2)⟩
      · subst z
        have := r1.len
        have z : _ = [] := List.eq_nil_of_length_eq_zero this
        subst z
        exact f.at_ _ rfl (e2 ▸ w2)
      · subst z
        have := r2.len
        have z : _ = [] := List.eq_nil_of_length_eq_zero this
        subst z
        rw [List.append_nil] at f
        exact f.at_ _ rfl (e1 ▸ w1)
    · cases e
  · split at e
    · cases e
      rename_i hl
      obtain ⟨a, vs, e1, t1, r1⟩ := h1
      obtain ⟨b, us, e2, t2, r2⟩ := h2
      rw [r1.len, r2.len] at hl
      exact op_cat pins s σ H x y v u Q I rx ry ⟨a, b, vs, us, e1, e2, t1, t2, hl, f.lst (r1.append r2)⟩
    · cases e
theorem opr_sub : OpR X (binaryOp .Sub) (rB X.K (binD .sub)) := by
  intro pins s σ H x y v u Q I rx ry h
  obtain ⟨B, d1, d2, d, sb, h1, h2, e, f⟩ := h
  cases d1 <;> cases d2 <;> simp only [binD, reduceCtorEq, Option.some.injEq] at e
  subst e
  exact op_sub pins s σ H x y v u Q I rx ry ⟨_, _, h1, h2, f.int⟩
theorem small64_ok {i : Int} (h : small64 i = true) : -(2 ^ 64) < i ∧ i < 2 ^ 64 := by
  have := absLe_ok h
  omega
theorem opr_mul : OpR X (binaryOp .Mult) (rB X.K (binD .mul)) := by
  intro pins s σ H x y v u Q I rx ry h
  obtain ⟨B, d1, d2, d, sb, h1, h2, e, f⟩ := h
  cases d1 <;> cases d2 <;> simp only [binD, reduceCtorEq, Option.some.injEq] at e
  · split at e
    · cases e
      rename_i hl
      rw [Bool.or_eq_true] at hl
      exact op_mul pins s σ H x y v u Q I rx ry ⟨_, _, h1, h2, hl.imp small64_ok small64_ok, f.int⟩
    · cases e
  · split at e
    · cases e
      rename_i hl
      simp only [Bool.and_eq_true, decide_eq_true_eq] at hl
      obtain ⟨a, vs, e1, t1, r1⟩ := h1
      exact op_rep pins s σ H x y v u Q I rx ry ⟨a, _, vs, e1, h2, t1, by have := absLe_ok hl.1; omega, by have := absLe_ok hl.1; omega, by rw [← r1.len]; exact hl.2, f.lst (r1.flat _)⟩
    · cases e
theorem opr_fdiv : OpR X (binaryOp .FloorDiv) (rB X.K (binD .fdiv)) := by
  intro pins s σ H x y v u Q I rx ry h
  obtain ⟨B, d1, d2, d, sb, h1, h2, e, f⟩ := h
  cases d1 <;> cases d2 <;> simp only [binD, reduceCtorEq, Option.some.injEq] at e
  split at e
  · cases e
    rename_i hl
    simp only [Bool.and_eq_true, decide_eq_true_eq] at hl
    exact op_fdivN pins s σ H x y v u Q I rx ry ⟨_, _, h1, h2, hl, f.int⟩
  · cases e
theorem opr_mod : OpR X (binaryOp .Mod) (rB X.K (binD .mod)) := by
  intro pins s σ H x y v u Q I rx ry h
  obtain ⟨B, d1, d2, d, sb, h1, h2, e, f⟩ := h
  cases d1 <;> cases d2 <;> simp only [binD, reduceCtorEq, Option.some.injEq] at e
  split at e
  · cases e
    rename_i hl
    exact op_modN pins s σ H x y v u Q I rx ry ⟨_, _, h1, h2, hl, f.int⟩
  · cases e
theorem opr_pow : OpR X (binaryOp .Pow) (rB X.K (binD .pow)) := by
  intro pins s σ H x y v u Q I rx ry h
  obtain ⟨B, d1, d2, d, sb, h1, h2, e, f⟩ := h
  cases d1 <;> cases d2 <;> simp only [binD, reduceCtorEq, Option.some.injEq] at e
  split at e
  · cases e
    rename_i hl
    simp only [Bool.and_eq_true, decide_eq_true_eq] at hl
    exact op_pow pins s σ H x y v u Q I rx ry ⟨_, _, h1, h2, ⟨hl.1.1, by have := absLe_ok hl.1.2; omega, hl.2⟩, f.int⟩
  · cases e
theorem plain_laid {pins : List (Addr × Obj)} {σ : Sig} {H : Hp} {s : Shared} {xs : List V} {us : List Value} (I : Inv X pins σ H s) (r : Vals xs us) (hz : xs.length ≤ sizeLine) :
    Inv X pins σ (upd H s.heap.objs.size (.frz { cls := .type "tuple", data := .seq us.toArray } (.tup xs))) { s with heap := s.heap.push { cls := .type "tuple", data := .seq us.toArray } } :=
  I.laid (t' := s.toks) (fun b ob q => Heap.get?_push_of_some _ q) (Nat.le_refl _) ⟨Heap.get?_push_size _ rfl, hz, _, r, IsTup.new _ _⟩
theorem Fin.pt {ds : List D} {vs : List V} {o : Obj} (f : Fin K B H (.pt ds) Q) (n : o.dict = none) (r : RepDs K B ds vs) : ∀ p, H p = none → Q (.ref p) (upd H p (.frz o (.tup vs))) := fun p hp => f.new p _ hp ⟨n, r⟩
theorem opr_addP : OpR X (binaryOp .Add) (rB X.K (binD .addP)) := by
  intro pins s σ H x y v u Q I rx ry h
  obtain ⟨B, d1, d2, d, sb, h1, h2, e, f⟩ := h
  cases d1 <;> cases d2 <;> simp only [binD, reduceCtorEq, Option.some.injEq] at e
  split at e
  · cases e
    rename_i hl
    obtain ⟨⟨a, vs, o1, e1, t1, n1, r1⟩, w1⟩ := h1
    obtain ⟨⟨b, us, o2, e2, t2, n2, r2⟩, w2⟩ := h2
    rw [r1.len, r2.len] at hl
    subst e1 e2
    cases rx
    cases ry
    obtain ⟨its, q1, p1, _⟩ := I.tuple (a := a) (xs := vs) (.inl (.inr ⟨o1, t1⟩))
    obtain ⟨its2, q2, p2, _⟩ := I.tuple (a := b) (xs := us) (.inl (.inr ⟨o2, t2⟩))
    by_cases hv : its = []
    · subst hv
      have z : vs = [] := q1.nil_iff.mp rfl
      subst z
      have z := List.eq_nil_of_length_eq_zero r1.len
      subst z
      exact cat_tup0 p1 p2 ⟨.ref b, H, I, rfl, f.at_ _ rfl w2⟩
    · refine HT.cat_tup p1 p2 hv (fun z => ?_) (fun z => ?_) (by rw [← q1.length, ← q2.length]; exact hl)
      · subst z
        have z : us = [] := q2.nil_iff.mp rfl
        subst z
        have z := List.eq_nil_of_length_eq_zero r2.len
        subst z
        rw [List.append_nil] at f
        exact ⟨.ref a, H, I, rfl, f.at_ _ rfl w1⟩
      · exact ⟨.ref s.heap.objs.size, _, plain_laid I (q1.append q2) (by rw [List.length_append]; exact hl), rfl, f.pt rfl (r1.append r2) _ (I.hok.fresh (Nat.le_refl _))⟩
  · cases e
def BOp.py : BOp → Operator
  | .add => .Add | .sub => .Sub | .mul => .Mult | .fdiv => .FloorDiv | .mod => .Mod | .pow => .Pow | .addP => .Add
theorem opr_bin (o : BOp) : OpR X (binaryOp o.py) (rB X.K (binD o)) := by
  cases o
  · exact opr_add
  · exact opr_sub
  · exact opr_mul
  · exact opr_fdiv
  · exact opr_mod
  · exact opr_pow
  · exact opr_addP
/-! comparisons -/
theorem eqD_some {a b : D} {c : Bool} (e : eqD a b = some c) : okD a = true ∧ okD b = true ∧ c = eqvD a b := by
  unfold eqD at e
  split at e
  · rename_i h
    rw [Bool.and_eq_true] at h
    cases e
    exact ⟨h.1, h.2, rfl⟩
  · cases e
theorem opr_eq (hu : X.A.units + 65 < cLine) : OpR X (compareOp .Eq) (rC X.K (cmpD .eq)) := by
  intro pins s σ H x y v u Q I rx ry h
  obtain ⟨B, d1, d2, d, sb, h1, h2, e, f⟩ := h
  obtain ⟨o1, o2, rfl⟩ := eqD_some (show eqD d1 d2 = some d from e)
  refine op_eqD (by omega) pins s σ H x y v u Q I rx ry ⟨toPy d1, toPy d2, (h1.now sb).dp (ok_lay o1), (h2.now sb).dp (ok_lay o2), ok_shaped o1, ok_shaped o2, ?_⟩
  rw [eqv_py (ok_lay o1) (ok_lay o2)]
  exact f
theorem opr_ne (hu : X.A.units + 65 < cLine) : OpR X (compareOp .NotEq) (rC X.K (cmpD .ne)) := by
  intro pins s σ H x y v u Q I rx ry h
  obtain ⟨B, d1, d2, d, sb, h1, h2, e, f⟩ := h
  obtain ⟨c, e1, e2⟩ := Option.map_eq_some_iff.mp (show (eqD d1 d2).map not = some d from e)
  obtain ⟨o1, o2, rfl⟩ := eqD_some e1
  refine op_neD (by omega) pins s σ H x y v u Q I rx ry ⟨toPy d1, toPy d2, (h1.now sb).dp (ok_lay o1), (h2.now sb).dp (ok_lay o2), ok_shaped o1, ok_shaped o2, ?_⟩
  rw [eqv_py (ok_lay o1) (ok_lay o2), e2]
  exact f
theorem opr_lt (hu : X.A.units + 65 < cLine) : OpR X (compareOp .Lt) (rC X.K (cmpD .lt)) := by
  intro pins s σ H x y v u Q I rx ry h
  obtain ⟨B, d1, d2, d, sb, h1, h2, e, f⟩ := h
  replace e : ltD d1 d2 = some d := e
  cases d1 <;> cases d2 <;> simp only [ltD, reduceCtorEq, Option.some.injEq] at e
  · subst e
    exact op_lt pins s σ H x y v u Q I rx ry ⟨_, _, h1, h2, f⟩
  · rename_i xs ys
    cases q1 : intsOf xs with
    | none => rw [q1] at e; cases e
    | some ns =>
      cases q2 : intsOf ys with
      | none => rw [q1, q2] at e; cases e
      | some ms =>
        rw [q1, q2] at e
        cases e
        obtain ⟨⟨a, vs, e1, t1, r1⟩, _⟩ := h1
        obtain ⟨⟨b, us, e2, t2, r2⟩, _⟩ := h2
        rw [r1.ints q1] at t1
        rw [r2.ints q2] at t2
        exact op_ltT (by omega) pins s σ H x y v u Q I rx ry ⟨a, b, ns, ms, e1, e2, .of t1, .of t2, f⟩
theorem opr_le : OpR X (compareOp .LtE) (rC X.K (cmpD .le)) := by
  intro pins s σ H x y v u Q I rx ry h
  obtain ⟨B, d1, d2, d, sb, h1, h2, e, f⟩ := h
  cases d1 <;> cases d2 <;> simp only [cmpD, reduceCtorEq, Option.some.injEq] at e
  subst e
  exact op_le pins s σ H x y v u Q I rx ry ⟨_, _, h1, h2, f⟩
theorem opr_gt : OpR X (compareOp .Gt) (rC X.K (cmpD .gt)) := by
  intro pins s σ H x y v u Q I rx ry h
  obtain ⟨B, d1, d2, d, sb, h1, h2, e, f⟩ := h
  cases d1 <;> cases d2 <;> simp only [cmpD, reduceCtorEq, Option.some.injEq] at e
  subst e
  exact op_gt pins s σ H x y v u Q I rx ry ⟨_, _, h1, h2, f⟩
theorem opr_ge : OpR X (compareOp .GtE) (rC X.K (cmpD .ge)) := by
  intro pins s σ H x y v u Q I rx ry h
  obtain ⟨B, d1, d2, d, sb, h1, h2, e, f⟩ := h
  cases d1 <;> cases d2 <;> simp only [cmpD, reduceCtorEq, Option.some.injEq] at e
  subst e
  exact op_ge pins s σ H x y v u Q I rx ry ⟨_, _, h1, h2, f⟩
theorem flat_V {d : D} {v : V} (h : flatD d = true) (r : RepD K B d v) : flatV v = true := by
  cases d <;> simp only [flatD, Bool.false_eq_true] at h
  all_goals
    have r : v = _ := r
    subst r
    rfl
theorem flats_V : ∀ {ds : List D} {vs : List V}, ds.all flatD = true → RepDs K B ds vs → vs.all flatV = true
  | [], _, _, h => by
    have h : _ = [] := h
    subst h
    rfl
  | d :: ds, _, a, ⟨v, r, e, h, t⟩ => by
    subst e
    rw [List.all_cons, Bool.and_eq_true] at a ⊢
    exact ⟨flat_V a.1 h, flats_V a.2 t⟩
theorem eqv_V {a b : D} {x y : V} (fa : flatD a = true) (fb : flatD b = true) (ra : RepD K B a x) (rb : RepD K B b y) : eqV x y = eqvD a b := by
  cases a <;> simp only [flatD, Bool.false_eq_true] at fa <;> cases b <;> simp only [flatD, Bool.false_eq_true] at fb
  all_goals
    have ra : x = _ := ra
    have rb : y = _ := rb
    subst ra
    subst rb
    simp [eqV, eqvD]
theorem in_V {a : D} {x : V} (fa : flatD a = true) (ra : RepD K H a x) : ∀ {ds : List D} {vs : List V}, ds.all flatD = true → RepDs K B ds vs → inV x vs = ds.any fun y => eqvD y a
  | [], _, _, h => by
    have h : _ = [] := h
    subst h
    rfl
  | d :: ds, _, al, ⟨v, r, e, h, t⟩ => by
    subst e
    rw [List.all_cons, Bool.and_eq_true] at al
    have ih := in_V fa ra al.2 t
    unfold inV at ih ⊢
    rw [List.any_cons, List.any_cons, ih]
    have : eqV v x = eqvD d a := by
      have ra' : RepD K B a x := by
        cases a <;> simp only [flatD, Bool.false_eq_true] at fa <;> exact ra
      exact eqv_V al.1 fa h ra'
    rw [this]
theorem anys_py {a : D} (la : layD a = true) : ∀ {ds : List D}, layDs ds = true → ((toPys ds).any fun z => PyData.eqv z (toPy a)) = ds.any fun y => eqvD y a
  | [], _ => rfl
  | d :: ds, l => by
    simp only [layDs, Bool.and_eq_true] at l
    rw [toPys, List.any_cons, List.any_cons, eqv_py l.1 la, anys_py la l.2]
theorem in_any (hu : X.A.units + 65 < cLine) {neg : Bool} : OpR X (compareOp (if neg then .NotIn else .In)) (rC X.K (fun a b => (inD a b).map fun c => if neg then !c else c)) := by
  intro pins s σ H x y v u Q I rx ry h
  obtain ⟨B, d1, d2, d, sb, h1, h2, e, f⟩ := h
  obtain ⟨c, e1, e2⟩ := Option.map_eq_some_iff.mp e
  cases d2 with
  | lst ys =>
    have e1 : (if okD d1 && okD (.lst ys) then some (ys.any fun y => eqvD y d1) else none) = some c := e1
    split at e1
    · rename_i ok
      rw [Bool.and_eq_true] at ok
      cases e1
      have r1 := (h1.now sb).dp (ok_lay ok.1)
      have r2 := (h2.now sb).dp (ok_lay ok.2)
      have ly : layDs ys = true := by simpa [layD] using ok_lay ok.2
      have q : ((toPys ys).any fun z => PyData.eqv z (toPy d1)) = ys.any fun y => eqvD y d1 := anys_py (ok_lay ok.1) ly
      have s2 := ok_shaped ok.2
      unfold toPy at r2 s2
      cases neg with
      | false =>
        refine op_inD hu pins s σ H x y v u Q I rx ry ⟨_, _, r1, r2, ok_shaped ok.1, s2, ?_⟩
        rw [q]
        exact (show (ys.any fun y => eqvD y d1) = d from e2) ▸ f
      | true =>
        refine op_notInD hu pins s σ H x y v u Q I rx ry ⟨_, _, r1, r2, ok_shaped ok.1, s2, ?_⟩
        rw [q]
        exact (show (!ys.any fun y => eqvD y d1) = d from e2) ▸ f
    · cases e1
  | tup ys =>
    have e1 : (if flatD d1 && ys.all flatD then some (ys.any fun y => eqvD y d1) else none) = some c := e1
    split at e1
    · rename_i ok
      rw [Bool.and_eq_true] at ok
      cases e1
      obtain ⟨⟨a, vs, ea, ta, ra⟩, _⟩ := h2
      have q := in_V ok.1 (h1.now sb) ok.2 ra
      have fl := flat_V ok.1 (h1.now sb)
      cases neg with
      | false =>
        refine op_in_seq pins s σ H x y v u Q I rx ry ⟨a, vs, ea, .inr (.of ta), fl, flats_V ok.2 ra, ?_⟩
        rw [q]
        exact (show (ys.any fun y => eqvD y d1) = d from e2) ▸ f
      | true =>
        refine op_notIn_seq pins s σ H x y v u Q I rx ry ⟨a, vs, ea, .inr (.of ta), fl, flats_V ok.2 ra, ?_⟩
        rw [q]
        exact (show (!ys.any fun y => eqvD y d1) = d from e2) ▸ f
    · cases e1
  | dK kvs =>
    obtain ⟨o, o1, o2⟩ := Option.map_eq_some_iff.mp (show (getD? (.dK kvs) d1).map Option.isSome = some c from e1)
    obtain ⟨p, ov, q1, q2, q3⟩ := RepT.get h2 h1 o1
    subst q1
    obtain rfl : u = Value.ref p := ry
    have hb : ov.isSome = c := by
      rw [← o2]
      cases o <;> cases ov <;> first | rfl | exact q3.elim
    cases neg with
    | false => exact d_in (by omega) I q2 rx fun s' I' => ⟨.bl _, H, I', rfl, by rw [hb]; exact (show c = d from e2) ▸ f⟩
    | true => exact d_notIn (by omega) I q2 rx fun s' I' => ⟨.bl _, H, I', rfl, by rw [hb]; exact (show (!c) = d from e2) ▸ f⟩
  | dT kvs =>
    obtain ⟨o, o1, o2⟩ := Option.map_eq_some_iff.mp (show (getD? (.dT kvs) d1).map Option.isSome = some c from e1)
    obtain ⟨p, ov, q1, q2, q3⟩ := RepT.get h2 h1 o1
    subst q1
    obtain rfl : u = Value.ref p := ry
    have hb : ov.isSome = c := by
      rw [← o2]
      cases o <;> cases ov <;> first | rfl | exact q3.elim
    cases neg with
    | false => exact d_in (by omega) I q2 rx fun s' I' => ⟨.bl _, H, I', rfl, by rw [hb]; exact (show c = d from e2) ▸ f⟩
    | true => exact d_notIn (by omega) I q2 rx fun s' I' => ⟨.bl _, H, I', rfl, by rw [hb]; exact (show (!c) = d from e2) ▸ f⟩
  | _ => cases e1
theorem is_any {neg : Bool} : OpR X (compareOp (if neg then .IsNot else .Is)) (rC X.K (fun a b => (isD a b).map fun c => if neg then !c else c)) := by
  intro pins s σ H x y v u Q I rx ry h
  obtain ⟨B, d1, d2, d, sb, h1, h2, e, f⟩ := h
  obtain ⟨c, e1, e2⟩ := Option.map_eq_some_iff.mp e
  have non : y = .non → c = decide (x = .non) → EP X pins σ Q (.bool d) s := fun _ _ => by
    exact ⟨.bl d, H, I, rfl, f⟩
  cases d2 with
  | non =>
    have h2 : y = .non := h2
    have hc : c = decide (x = .non) := by
      cases d1 with
      | non =>
        cases e1
        have h1 : x = .non := h1
        rw [h1]
        rfl
      | bl b =>
        cases e1
        have h1 : x = .bl b := h1
        rw [h1]; rfl
      | int b =>
        cases e1
        have h1 : x = .int b := h1
        rw [h1]; rfl
      | str b =>
        cases e1
        have h1 : x = .str b := h1
        rw [h1]; rfl
      | tup b =>
        cases e1
        obtain ⟨⟨a, _, h1, _⟩, _⟩ := h1
        rw [h1]; rfl
      | lst b =>
        cases e1
        obtain ⟨a, _, h1, _⟩ := h1
        rw [h1]; rfl
      | dK b =>
        cases e1
        obtain ⟨a, _, h1, _⟩ := h1
        rw [h1]; rfl
      | dT b =>
        cases e1
        obtain ⟨a, _, h1, _⟩ := h1
        rw [h1]; rfl
      | scr b =>
        cases e1
        obtain ⟨a, h1, _⟩ := h1
        rw [h1]; rfl
      | pt b =>
        cases e1
        obtain ⟨⟨a, _, _, h1, _⟩, _⟩ := h1
        rw [h1]; rfl
    cases neg with
    | false => exact op_isN pins s σ H x y v u Q I rx ry ⟨h2, by rw [← hc]; exact (show c = d from e2) ▸ f⟩
    | true => exact op_notN pins s σ H x y v u Q I rx ry ⟨h2, by rw [← hc]; exact (show (!c) = d from e2) ▸ f⟩
  | bl b =>
    cases d1 with
    | bl a =>
      cases e1
      cases neg with
      | false => exact op_isBl pins s σ H x y v u Q I rx ry ⟨a, b, h1, h2, (show decide (a = b) = d from e2) ▸ f⟩
      | true => exact op_notBl pins s σ H x y v u Q I rx ry ⟨a, b, h1, h2, (show (!decide (a = b)) = d from e2) ▸ f⟩
    | _ => cases e1
  | _ => cases d1 <;> cases e1
def COp.py : COp → CmpOp
  | .eq => .Eq | .ne => .NotEq | .lt => .Lt | .le => .LtE | .gt => .Gt | .ge => .GtE | .isIn => .In | .notIn => .NotIn | .is_ => .Is | .isNot => .IsNot
theorem opr_same {f : Value → Value → Sem Value} {r r' : R2} (h : OpR X f r) (e : ∀ x y H Q, r' x y H Q → r x y H Q) : OpR X f r' := fun pins s σ H x y v u Q I rx ry q => h pins s σ H x y v u Q I rx ry (e _ _ _ _ q)
theorem opr_cmp (hu : X.A.units + 65 < cLine) (o : COp) : OpR X (compareOp o.py) (rC X.K (cmpD o)) := by
  cases o
  · exact opr_eq hu
  · exact opr_ne hu
  · exact opr_lt hu
  · exact opr_le
  · exact opr_gt
  · exact opr_ge
  · refine opr_same (in_any hu (neg := false)) fun x y H Q ⟨B, d1, d2, d, sb, h1, h2, e, f⟩ => ⟨B, d1, d2, d, sb, h1, h2, ?_, f⟩
    show (inD d1 d2).map (fun c => if false = true then !c else c) = some d
    rw [show inD d1 d2 = some d from e]; rfl
  · refine opr_same (in_any hu (neg := true)) fun x y H Q ⟨B, d1, d2, d, sb, h1, h2, e, f⟩ => ⟨B, d1, d2, d, sb, h1, h2, ?_, f⟩
    exact e
  · refine opr_same (is_any (neg := false)) fun x y H Q ⟨B, d1, d2, d, sb, h1, h2, e, f⟩ => ⟨B, d1, d2, d, sb, h1, h2, ?_, f⟩
    show (isD d1 d2).map (fun c => if false = true then !c else c) = some d
    rw [show isD d1 d2 = some d from e]; rfl
  · refine opr_same (is_any (neg := true)) fun x y H Q ⟨B, d1, d2, d, sb, h1, h2, e, f⟩ => ⟨B, d1, d2, d, sb, h1, h2, ?_, f⟩
    exact e
end
end PF
end

section
set_option Elab.async false
set_option linter.all false
set_option maxRecDepth 100000
set_option maxHeartbeats 1000000
namespace PF
open PySem PySem.Spec PyProof.Rows L2
section
variable {X : Cx} {K : PySem.W.Frag} {B H : Hp} {Q : VK}
theorem paired1 {α β : Type} {R : α → β → Prop} {a : α} {ys : List β} (h : Paired R [a] ys) : ∃ b, ys = [b] ∧ R a b := by
  cases h with
  | cons r t =>
    cases t
    exact ⟨_, rfl, r⟩
theorem paired2 {α β : Type} {R : α → β → Prop} {a a' : α} {ys : List β} (h : Paired R [a, a'] ys) : ∃ b b', ys = [b, b'] ∧ R a b ∧ R a' b' := by
  cases h with
  | cons r t =>
    cases t with
    | cons r' t =>
      cases t
      exact ⟨_, _, rfl, r, r'⟩
/-- a subscript -/
def rIxD (K : PySem.W.Frag) : R2 := fun x y H Q => ∃ B d1 d2 d, Same B H ∧ RepT K B H d1 x ∧ RepT K B H d2 y ∧ ixD d1 d2 = some d ∧ ∀ v, RepD K B d v → Q v H
theorem atI_rep {ds : List D} {vs : List V} {i : Int} {d : D} (r : RepDs K B ds vs) (e : atI ds i = some d) : ∃ v, atI vs i = some v ∧ RepD K B d v := by
  unfold atI at e ⊢
  rw [← r.len]
  cases q : ixN ds.length i with
  | none => rw [q] at e; cases e
  | some j =>
    rw [q] at e
    obtain ⟨v, e1, e2⟩ := r.get (i := j) e
    exact ⟨v, e1, e2⟩
theorem atI_map {α β : Type} (f : α → β) (xs : List α) (i : Int) : atI (xs.map f) i = (atI xs i).map f := by
  unfold atI
  rw [List.length_map]
  cases ixN xs.length i with
  | none => rfl
  | some j => simp
theorem ixr (hu : X.A.units + 65 < cLine) : IxR X (rIxD X.K) := by
  intro value slice pins s σ H x y v u Q I rx ry h hs
  obtain ⟨B, d1, d2, d, sb, h1, h2, e, f⟩ := h
  have dict : ∀ {d1 : D}, (∃ kvs, d1 = .dK kvs) ∨ (∃ kvs, d1 = .dT kvs) → RepT X.K B H d1 x → (getD? d1 d2).join = some d → wpAny (model X.prog X.w) X.A (subscriptTail value slice v u) (EP X pins σ Q) X.xe s := fun {d1} hd h1 e => by
    cases q : getD? d1 d2 with
    | none => rw [q] at e; cases e
    | some o =>
      rw [q] at e
      have e : o = some d := e
      subst e
      obtain ⟨p, ov, q1, q2, q3⟩ := RepT.get h1 h2 q
      subst q1
      obtain rfl : v = Value.ref p := rx
      cases ov with
      | none => exact q3.elim
      | some w => exact tail_any (ops := [.ref p, u]) (dict_typeIs I q2) PySem.F.slot_dict_getitem.lookup (d_getItem (by omega) I q2 ry fun w' s3 I3 rw' => ⟨w, H, I3, rw', f w q3⟩) hs
  cases d1 with
  | lst xs =>
    cases d2 with
    | int i =>
      obtain ⟨a, vs, e1, t1, r1⟩ := h1
      obtain ⟨w, e2, e3⟩ := atI_rep r1 (show atI xs i = some d from e)
      exact ix_list value slice pins s σ H x y v u Q I rx ry ⟨a, vs, i, w, e1, h2, .of t1, e2, f w e3⟩ hs
    | _ => cases e
  | tup xs =>
    cases d2 with
    | int i =>
      obtain ⟨⟨a, vs, e1, t1, r1⟩, _⟩ := h1
      obtain ⟨w, e2, e3⟩ := atI_rep r1 (show atI xs i = some d from e)
      exact ix_tup value slice pins s σ H x y v u Q I rx ry ⟨a, vs, i, w, e1, h2, .of t1, e2, f w e3⟩ hs
    | _ => cases e
  | pt xs =>
    cases d2 with
    | int i =>
      obtain ⟨⟨a, vs, o, e1, t1, n1, r1⟩, _⟩ := h1
      obtain ⟨w, e2, e3⟩ := atI_rep r1 (show atI xs i = some d from e)
      exact ix_tup value slice pins s σ H x y v u Q I rx ry ⟨a, vs, i, w, e1, h2, .inl (.inr ⟨o, t1⟩), e2, f w e3⟩ hs
    | _ => cases e
  | scr ns =>
    cases d2 with
    | int i =>
      obtain ⟨a, e1, t1⟩ := h1
      obtain ⟨n, e2, e3⟩ := Option.map_eq_some_iff.mp (show (atI ns i).map D.int = some d from e)
      subst e3
      refine ix_list value slice pins s σ H x y v u Q I rx ry ⟨a, _, i, .int n, e1, h2, t1, ?_, f _ rfl⟩ hs
      rw [atI_map, e2]
      rfl
    | _ => cases e
  | dK kvs => exact dict (.inl ⟨kvs, rfl⟩) h1 (by cases d2 <;> exact e)
  | dT kvs => exact dict (.inr ⟨kvs, rfl⟩) h1 (by cases d2 <;> exact e)
  | _ => cases e
/-- a slice -/
def rSlD (K : PySem.W.Frag) : V → Option Int → Option Int → Hp → VK → Prop := fun x lo hi H Q => ∃ B d1 d, Same B H ∧ RepT K B H d1 x ∧ slD d1 lo hi = some d ∧ Fin K B H d Q
theorem cut_rep {ds : List D} {vs : List V} (r : RepDs K B ds vs) (lo hi : Option Int) : RepDs K B (cutD ds lo hi) (cutV vs lo hi) := by
  unfold cutD cutV
  rw [r.len]
  exact (r.drop _).take _
theorem cut_len (xs : List V) (lo hi : Option Int) : (cutV xs lo hi).length ≤ xs.length := cutV_length xs lo hi
theorem slr : SlR X (rSlD X.K) := by
  intro pins s σ H x v vl vu lo hi sl Q I rx hs pl pu h
  obtain ⟨B, d1, d, sb, h1, e, f⟩ := h
  cases d1 with
  | lst xs =>
    cases e
    obtain ⟨a, vs, e1, t1, r1⟩ := h1
    exact sl_list pins s σ H x v vl vu lo hi sl Q I rx hs pl pu ⟨a, vs, e1, .of t1, f.lst (cut_rep r1 lo hi)⟩
  | tup xs =>
    cases e
    obtain ⟨⟨a, vs, e1, t1, r1⟩, w⟩ := h1
    refine sl_tupA pins s σ H x v vl vu lo hi sl Q I rx hs pl pu ⟨a, vs, e1, .of t1, fun z => ?_, fun _ => f.tup (cut_rep r1 lo hi)⟩
    have ec : cutD xs lo hi = xs := by
      unfold cutD
      rw [r1.len, z.1, z.2, List.drop_zero, Nat.sub_zero, ← r1.len, List.take_length]
    rw [ec] at f
    exact f.at_ _ rfl (e1 ▸ w)
  | pt xs =>
    cases e
    obtain ⟨⟨a, vs, o, e1, t1, n1, r1⟩, w⟩ := h1
    subst e1
    cases rx
    obtain ⟨its, r, ht, hz⟩ := I.tuple (a := a) (xs := vs) (.inl (.inr ⟨o, t1⟩))
    have hlen : its.toArray.size = vs.length := by rw [List.size_toArray]; exact r.length.symm
    refine ⟨"tuple", _, PyProof.Rows.slot_tuple_getitem.lookup, ht.typeIs, ?_⟩
    by_cases hw : HT.sIx vs.length 0 lo = 0 ∧ HT.sIx vs.length vs.length hi = vs.length
    · have ec : cutD xs lo hi = xs := by
        unfold cutD
        rw [r1.len, hw.1, hw.2, List.drop_zero, Nat.sub_zero, ← r1.len, List.take_length]
      rw [ec] at f
      exact getItem_tuple_whole ht hs pl pu (by rw [hlen]; exact hw) ⟨.ref a, H, I, rfl, f.at_ _ rfl w⟩
    · refine HT.getItem_tuple_cut ht hs pl pu (by rw [hlen]; exact hw) ?_ (by rw [hlen]; exact hz)
      rw [hlen]
      exact ⟨.ref s.heap.objs.size, _, plain_laid I ((r.drop (HT.sIx vs.length 0 lo)).take (HT.sIx vs.length vs.length hi - HT.sIx vs.length 0 lo)) (Nat.le_trans (cutV_length vs lo hi) hz), rfl, f.pt rfl (cut_rep r1 lo hi) _ (I.hok.fresh (Nat.le_refl _))⟩
  | _ => cases e
/-! calls of built-ins -/
theorem RepDK.len : ∀ {a : List (Key × D)} {b : List (Key × V)}, RepDK K B a b → a.length = b.length
  | [], _, h => by
    have h : _ = [] := h
    subst h
    rfl
  | (_, _) :: _, _, ⟨v, r, e, _, t⟩ => by rw [e, List.length_cons, List.length_cons, RepDK.len t]
theorem RepDT.len : ∀ {a : List (List Key × D)} {b : List (List Key × V)}, RepDT K B a b → a.length = b.length
  | [], _, h => by
    have h : _ = [] := h
    subst h
    rfl
  | (_, _) :: _, _, ⟨v, r, e, _, t⟩ => by rw [e, List.length_cons, List.length_cons, RepDT.len t]
theorem cr_len : CallR X (.builtin "len") (rA X.K (bfD .len)) := by
  intro pins s σ H xs us Q I r h
  obtain ⟨B, ds, d, sb, hp, e, f⟩ := h
  match ds, e with
  | [a], e =>
    obtain ⟨n, e1, e2⟩ := Option.map_eq_some_iff.mp (show (lenD a).map (fun n : Nat => D.int n) = some d from e)
    subst e2
    obtain ⟨x, rfl, h1⟩ := paired1 hp
    have q : Q (.int n) H := f.int
    cases a with
    | lst ys =>
      cases e1
      obtain ⟨p, vs, e1, t1, r1⟩ := h1
      refine call_len pins s σ H [x] us Q I r ⟨x, vs.length, rfl, ?_, by rw [← r1.len]; exact q⟩
      subst e1
      exact .inl ⟨vs, .of t1, rfl⟩
    | tup ys =>
      cases e1
      obtain ⟨⟨p, vs, e1, t1, r1⟩, _⟩ := h1
      refine call_len pins s σ H [x] us Q I r ⟨x, vs.length, rfl, ?_, by rw [← r1.len]; exact q⟩
      subst e1
      exact .inr ⟨vs, .of t1, rfl⟩
    | pt ys =>
      cases e1
      obtain ⟨⟨p, vs, o, e1, t1, n1, r1⟩, _⟩ := h1
      refine call_len pins s σ H [x] us Q I r ⟨x, vs.length, rfl, ?_, by rw [← r1.len]; exact q⟩
      subst e1
      exact .inr ⟨vs, .inl (.inr ⟨o, t1⟩), rfl⟩
    | scr ns =>
      cases e1
      obtain ⟨p, e1, t1⟩ := h1
      refine call_len pins s σ H [x] us Q I r ⟨x, ns.length, rfl, ?_, q⟩
      subst e1
      exact .inl ⟨_, t1, by simp⟩
    | str z =>
      have h1 : x = .str z := h1
      have e1 : (if z.length ≤ sizeLine then some z.length else none) = some n := e1
      split at e1
      · rename_i hl
        cases e1
        exact call_len_str pins s σ H [x] us Q I r ⟨z, by rw [h1], hl, q⟩
      · cases e1
    | dK kvs =>
      cases e1
      obtain ⟨p, vs, e1, t1, r1⟩ := h1
      subst e1
      obtain ⟨u, rfl, ru⟩ := vals1 r
      obtain rfl : u = Value.ref p := ru
      exact d_len I (.inl t1) fun t s' I' => ⟨.int vs.length, H, I', ⟨t, rfl⟩, by rw [← r1.len]; exact q⟩
    | dT kvs =>
      cases e1
      obtain ⟨p, vs, e1, t1, r1⟩ := h1
      subst e1
      exact call_len_dT pins s σ H _ us Q I r ⟨p, vs, rfl, t1, by rw [← r1.len]; exact q⟩
    | _ => cases e1
  | [], e => cases e
  | _ :: _ :: _, e => cases e
theorem cr_abs : CallR X (.builtin "abs") (rA X.K (bfD .abs)) := by
  intro pins s σ H xs us Q I r h
  obtain ⟨B, ds, d, sb, hp, e, f⟩ := h
  match ds, e with
  | [.int i], e =>
    cases e
    obtain ⟨x, rfl, h1⟩ := paired1 hp
    exact call_abs pins s σ H _ us Q I r ⟨i, by rw [show x = .int i from h1], f.int⟩
theorem cr_max2 (hc : X.calm = true) : CallR X (.builtin "max") (rA X.K (bfD .max2)) := by
  intro pins s σ H xs us Q I r h
  obtain ⟨B, ds, d, sb, hp, e, f⟩ := h
  match ds, e with
  | [.int i, .int j], e =>
    cases e
    obtain ⟨x, y, rfl, h1, h2⟩ := paired2 hp
    exact call_max2 hc pins s σ H _ us Q I r ⟨i, j, by rw [show x = .int i from h1, show y = .int j from h2], f.int⟩
theorem cr_min2 (hc : X.calm = true) : CallR X (.builtin "min") (rA X.K (bfD .min2)) := by
  intro pins s σ H xs us Q I r h
  obtain ⟨B, ds, d, sb, hp, e, f⟩ := h
  match ds, e with
  | [.int i, .int j], e =>
    cases e
    obtain ⟨x, y, rfl, h1, h2⟩ := paired2 hp
    exact call_min2 hc pins s σ H _ us Q I r ⟨i, j, by rw [show x = .int i from h1, show y = .int j from h2], f.int⟩
theorem foldl_max (ns : List Int) : ∀ (n m : Int), m ∈ n :: ns → (∀ y, y ∈ n :: ns → y ≤ m) → m = ns.foldl max n := by
  induction ns with
  | nil =>
    intro n m hm _
    simpa using hm
  | cons k ns ih =>
    intro n m hm ha
    rw [List.foldl_cons]
    refine ih (max n k) m ?_ fun y hy => ?_
    · rcases List.mem_cons.mp hm with e | hm
      · have := ha k (by simp)
        rw [e] at this ⊢
        rw [Int.max_eq_left this]
        exact List.mem_cons_self
      · rcases List.mem_cons.mp hm with e | hm
        · have := ha n (by simp)
          rw [e] at this ⊢
          rw [Int.max_eq_right this]
          exact List.mem_cons_self
        · exact List.mem_cons_of_mem _ hm
    · rcases List.mem_cons.mp hy with e | hy
      · rw [e]
        exact Int.max_le.mpr ⟨ha n (by simp), ha k (by simp)⟩
      · exact ha y (by simp [hy])
theorem foldl_min (ns : List Int) : ∀ (n m : Int), m ∈ n :: ns → (∀ y, y ∈ n :: ns → m ≤ y) → m = ns.foldl min n := by
  induction ns with
  | nil =>
    intro n m hm _
    simpa using hm
  | cons k ns ih =>
    intro n m hm ha
    rw [List.foldl_cons]
    refine ih (min n k) m ?_ fun y hy => ?_
    · rcases List.mem_cons.mp hm with e | hm
      · have := ha k (by simp)
        rw [e] at this ⊢
        rw [Int.min_eq_left this]
        exact List.mem_cons_self
      · rcases List.mem_cons.mp hm with e | hm
        · have := ha n (by simp)
          rw [e] at this ⊢
          rw [Int.min_eq_right this]
          exact List.mem_cons_self
        · exact List.mem_cons_of_mem _ hm
    · rcases List.mem_cons.mp hy with e | hy
      · rw [e]
        exact Int.le_min.mpr ⟨ha n (by simp), ha k (by simp)⟩
      · exact ha y (by simp [hy])
theorem cr_max1 (hc : X.calm = true) : CallR X (.builtin "max") (rA X.K (bfD .max1)) := by
  intro pins s σ H xs us Q I r h
  obtain ⟨B, ds, d, sb, hp, e, f⟩ := h
  match ds, e with
  | [.lst ys], e =>
    obtain ⟨x, rfl, h1⟩ := paired1 hp
    obtain ⟨p, vs, e1, t1, r1⟩ := h1
    cases q : intsOf ys with
    | none => simp [bfD, q] at e
    | some ms =>
      cases ms with
      | nil => simp [bfD, q] at e
      | cons n ns =>
        simp only [bfD, q, Option.some.injEq] at e
        subst e
        rw [r1.ints q] at t1
        exact L2.cr_max hc pins s σ H _ us Q I r ⟨p, n :: ns, by rw [e1], .of t1, by simp, fun m hm ha => by rw [foldl_max ns n m hm ha]; exact f.int⟩
theorem cr_min1 (hc : X.calm = true) : CallR X (.builtin "min") (rA X.K (bfD .min1)) := by
  intro pins s σ H xs us Q I r h
  obtain ⟨B, ds, d, sb, hp, e, f⟩ := h
  match ds, e with
  | [.lst ys], e =>
    obtain ⟨x, rfl, h1⟩ := paired1 hp
    obtain ⟨p, vs, e1, t1, r1⟩ := h1
    cases q : intsOf ys with
    | none => simp [bfD, q] at e
    | some ms =>
      cases ms with
      | nil => simp [bfD, q] at e
      | cons n ns =>
        simp only [bfD, q, Option.some.injEq] at e
        subst e
        rw [r1.ints q] at t1
        exact L2.cr_min hc pins s σ H _ us Q I r ⟨p, n :: ns, by rw [e1], .of t1, by simp, fun m hm ha => by rw [foldl_min ns n m hm ha]; exact f.int⟩
theorem cr_sum1 (hc : X.calm = true) : CallR X (.builtin "sum") (rA X.K (bfD .sum)) := by
  intro pins s σ H xs us Q I r h
  obtain ⟨B, ds, d, sb, hp, e, f⟩ := h
  match ds, e with
  | [.lst ys], e =>
    obtain ⟨x, rfl, h1⟩ := paired1 hp
    obtain ⟨p, vs, e1, t1, r1⟩ := h1
    obtain ⟨ns, q, e2⟩ := Option.map_eq_some_iff.mp (show (intsOf ys).map (fun ns => D.int ns.sum) = some d from e)
    subst e2
    rw [r1.ints q] at t1
    exact L2.cr_sum hc pins s σ H _ us Q I r ⟨p, ns, by rw [e1], .of t1, f.int⟩
theorem cr_all1 (hc : X.calm = true) : CallR X (.builtin "all") (rA X.K (bfD .all_)) := by
  intro pins s σ H xs us Q I r h
  obtain ⟨B, ds, d, sb, hp, e, f⟩ := h
  match ds, e with
  | [.lst ys], e =>
    obtain ⟨x, rfl, h1⟩ := paired1 hp
    obtain ⟨p, vs, e1, t1, r1⟩ := h1
    obtain ⟨ns, q, e2⟩ := Option.map_eq_some_iff.mp (show (blsOf ys).map (fun ns => D.bl (ns.all id)) = some d from e)
    subst e2
    rw [r1.bls q] at t1
    exact L2.cr_all hc pins s σ H _ us Q I r ⟨p, ns, by rw [e1], .of t1, f.bl⟩
theorem cr_any1 (hc : X.calm = true) : CallR X (.builtin "any") (rA X.K (bfD .any_)) := by
  intro pins s σ H xs us Q I r h
  obtain ⟨B, ds, d, sb, hp, e, f⟩ := h
  match ds, e with
  | [.lst ys], e =>
    obtain ⟨x, rfl, h1⟩ := paired1 hp
    obtain ⟨p, vs, e1, t1, r1⟩ := h1
    obtain ⟨ns, q, e2⟩ := Option.map_eq_some_iff.mp (show (blsOf ys).map (fun ns => D.bl (ns.any id)) = some d from e)
    subst e2
    rw [r1.bls q] at t1
    exact L2.cr_any hc pins s σ H _ us Q I r ⟨p, ns, by rw [e1], .of t1, f.bl⟩
theorem cr_int : CallR X (.type "int") (rA X.K (bfD .int_)) := by
  intro pins s σ H xs us Q I r h
  obtain ⟨B, ds, d, sb, hp, e, f⟩ := h
  match ds, e with
  | [.int i], e =>
    cases e
    obtain ⟨x, rfl, h1⟩ := paired1 hp
    exact call_int1 pins s σ H _ us Q I r (.inl ⟨i, by rw [show x = .int i from h1], f.int⟩)
  | [.bl i], e =>
    cases e
    obtain ⟨x, rfl, h1⟩ := paired1 hp
    exact call_int1 pins s σ H _ us Q I r (.inr ⟨i, by rw [show x = .bl i from h1], f.int⟩)
theorem cr_list : CallR X (.type "list") (rA X.K (bfD .list_)) := by
  intro pins s σ H xs us Q I r h
  obtain ⟨B, ds, d, sb, hp, e, f⟩ := h
  match ds, e with
  | [.lst ys], e =>
    cases e
    obtain ⟨x, rfl, h1⟩ := paired1 hp
    obtain ⟨p, vs, e1, t1, r1⟩ := h1
    exact call_list_of pins s σ H _ us Q I r ⟨p, vs, by rw [e1], .inl (.of t1), f.lst r1⟩
  | [.tup ys], e =>
    cases e
    obtain ⟨x, rfl, h1⟩ := paired1 hp
    obtain ⟨⟨p, vs, e1, t1, r1⟩, _⟩ := h1
    exact call_list_of pins s σ H _ us Q I r ⟨p, vs, by rw [e1], .inr (.of t1), f.lst r1⟩
theorem cr_tuple : CallR X (.type "tuple") (rA X.K (bfD .tuple_)) := by
  intro pins s σ H xs us Q I r h
  obtain ⟨B, ds, d, sb, hp, e, f⟩ := h
  match ds, e with
  | [.lst ys], e =>
    cases e
    obtain ⟨x, rfl, h1⟩ := paired1 hp
    obtain ⟨p, vs, e1, t1, r1⟩ := h1
    exact call_tuple_of pins s σ H _ us Q I r ⟨p, vs, by rw [e1], .inl ⟨.of t1, f.tup r1⟩⟩
  | [.tup ys], e =>
    cases e
    obtain ⟨x, rfl, h1⟩ := paired1 hp
    obtain ⟨⟨p, vs, e1, t1, r1⟩, w⟩ := h1
    exact call_tuple_of pins s σ H _ us Q I r ⟨p, vs, by rw [e1], .inr ⟨.of t1, f.at_ _ rfl (e1 ▸ w)⟩⟩
theorem cr_ptuple : CallR X (.type "tuple") (rA X.K (bfD .ptuple_)) := by
  intro pins s σ H xs us Q I r h
  obtain ⟨B, ds, d, sb, hp, e, f⟩ := h
  match ds, e with
  | [.lst ys], e =>
    cases e
    obtain ⟨x, rfl, h1⟩ := paired1 hp
    obtain ⟨p, vs, e1, t1, r1⟩ := h1
    obtain ⟨u, rfl, rx⟩ := vals1 r
    subst e1
    cases rx
    obtain ⟨its, r', pl, hz⟩ := I.list (a := p) (xs := vs) (.of t1)
    have hlen := r'.length
    refine call_tuple_list pl.isList (fun h' kp => ?_) (by simp only [List.size_toArray] <;> omega)
    have I1 : Inv X pins σ H { s with heap := h' } := I.kept (t' := s.toks) kp
    exact ⟨.ref h'.objs.size, _, plain_laid I1 r' hz, rfl, f.pt rfl r1 _ (I1.hok.fresh (Nat.le_refl _))⟩
/-! sorted -/
theorem tups_rep : ∀ {ds : List D} {vs : List V} {ts : List (List Int)}, RepDs K B ds vs → tupsOf ds = some ts → ∃ as : List Addr, vs = as.map V.ref ∧ Paired (fun a t => B a = some (.tup (t.map V.int))) as ts
  | [], _, ts, h, e => by
    have h : _ = [] := h
    have e : some [] = some ts := e
    cases e
    exact ⟨[], h, .nil⟩
  | d :: ds, _, ts, ⟨v, r, e', h, t⟩, e => by
    cases d with
    | tup xs =>
      have e : (match intsOf xs, tupsOf ds with | some ns, some t => some (ns :: t) | _, _ => none) = some ts := e
      cases q1 : intsOf xs with
      | none => rw [q1] at e; cases e
      | some ns =>
        cases q2 : tupsOf ds with
        | none => rw [q1, q2] at e; cases e
        | some l =>
          rw [q1, q2] at e
          cases e
          obtain ⟨as, a1, a2⟩ := tups_rep t q2
          obtain ⟨a, us, b1, b2, b3⟩ := h
          rw [b3.ints q1] at b2
          exact ⟨a :: as, by rw [e', b1, a1]; rfl, .cons b2 a2⟩
    | _ => cases e
theorem tups_of : ∀ {as : List Addr} {ts : List (List Int)}, Paired (fun a t => B a = some (.tup (t.map V.int))) as ts → RepDs K B (ts.map tupI) (as.map V.ref)
  | _, _, .nil => rfl
  | _, _, .cons h t => ⟨_, _, rfl, ⟨_, _, rfl, h, ints_rep _⟩, tups_of t⟩
theorem key_at {k : V → List Int} (hk : ∀ (a : Addr) (t : List Int), B a = some (.tup (t.map V.int)) → k (.ref a) = t) : ∀ {as : List Addr} {ts : List (List Int)}, Paired (fun a t => B a = some (.tup (t.map V.int))) as ts →
    (∀ x ∈ as.map V.ref, (∃ t, x = V.ref t ∧ B t = some (.tup ((k x).map V.int))) ∧ k x ∈ ts) ∧ (as.map V.ref).map k = ts
  | _, _, .nil => ⟨fun x hx => (by cases hx), rfl⟩
  | _, _, .cons h t => by
    obtain ⟨q1, q2⟩ := key_at hk t
    refine ⟨fun x hx => ?_, by rw [List.map_cons, List.map_cons, hk _ _ h, q2]⟩
    rcases List.mem_cons.mp hx with rfl | hx
    · rw [hk _ _ h]
      exact ⟨⟨_, rfl, h⟩, List.mem_cons_self⟩
    · exact ⟨(q1 x hx).1, List.mem_cons_of_mem _ (q1 x hx).2⟩
theorem key_rep {k : V → List Int} : ∀ {ws : List V}, (∀ x ∈ ws, ∃ t, x = V.ref t ∧ B t = some (.tup ((k x).map V.int))) → RepDs K B ((ws.map k).map tupI) ws
  | [], _ => rfl
  | x :: ws, mem => by
    obtain ⟨t, b1, b2⟩ := mem x List.mem_cons_self
    exact ⟨x, ws, rfl, ⟨t, _, b1, b2, ints_rep _⟩, key_rep fun y hy => mem y (List.mem_cons_of_mem _ hy)⟩
open Classical in
theorem cr_sorted1 : CallR X (.builtin "sorted") (rA X.K (bfD .sorted)) := by
  intro pins s σ H xs us Q I r h
  obtain ⟨B, ds, d, sb, hp, e, f⟩ := h
  match ds, e with
  | [.lst ys], e =>
    obtain ⟨x, rfl, h1⟩ := paired1 hp
    obtain ⟨p, vs, e1, t1, r1⟩ := h1
    obtain ⟨zs, q, e2⟩ := Option.map_eq_some_iff.mp (show (sortD ys).map D.lst = some d from e)
    subst e2
    unfold sortD at q
    cases qi : intsOf ys with
    | some ns =>
      rw [qi] at q
      cases q
      rw [r1.ints qi] at t1
      refine cr_sortedI pins s σ H _ us Q I r ⟨p, ns, by rw [e1], .of t1, fun ns' l p' s' hl => ?_⟩
      rw [isort_ints p' s']
      exact f.lst (ints_rep _) l hl
    | none =>
      rw [qi] at q
      have q : (match tupsOf ys with | some ts => if ts.all fun t => !t.isEmpty then some ((isort leInts ts).map tupI) else none | none => none) = some zs := q
      cases qt : tupsOf ys with
      | none => rw [qt] at q; cases q
      | some ts =>
        rw [qt] at q
        have q : (if ts.all fun t => !t.isEmpty then some ((isort leInts ts).map tupI) else none) = some zs := q
        split at q
        · rename_i ha
          cases q
          obtain ⟨as, a1, a2⟩ := tups_rep r1 qt
          -- the ints of a tuple, read off the heap
          have kx : ∃ k : V → List Int, ∀ (a : Addr) (t : List Int), B a = some (.tup (t.map V.int)) → k (.ref a) = t := by
            refine ⟨fun v => match v with | .ref a => if h : ∃ t : List Int, B a = some (.tup (t.map V.int)) then h.choose else [] | _ => [], fun a t h => ?_⟩
            have hx : ∃ t : List Int, B a = some (.tup (t.map V.int)) := ⟨t, h⟩
            show (if h : ∃ t : List Int, B a = some (.tup (t.map V.int)) then h.choose else []) = t
            rw [dif_pos hx]
            have e : some (HO.tup (t.map V.int)) = some (HO.tup (hx.choose.map V.int)) := h.symm.trans hx.choose_spec
            have e : t.map V.int = hx.choose.map V.int := HO.tup.inj (Option.some.inj e)
            have inj : ∀ a b : List Int, a.map V.int = b.map V.int → a = b := fun a => by
              induction a with
              | nil =>
                intro b h
                cases b with
                | nil => rfl
                | cons y b => simp at h
              | cons z a ih =>
                intro b h
                cases b with
                | nil => simp at h
                | cons y b =>
                  simp only [List.map_cons, List.cons.injEq, V.int.injEq] at h
                  rw [h.1, ih b h.2]
            exact (inj _ _ e).symm
          obtain ⟨k, hk⟩ := kx
          obtain ⟨at_, km⟩ := key_at (B := B) hk a2
          rw [← a1] at at_ km
          refine cr_sortK pins s σ H _ us Q I r ⟨p, vs, k, by rw [e1], .of t1, fun x hx => ?_, fun ws l s' p' hl => ?_⟩
          · obtain ⟨⟨t, b1, b2⟩, b3⟩ := at_ x hx
            refine ⟨⟨t, b1, sb _ _ b2⟩, fun z => ?_⟩
            have := List.all_eq_true.mp ha _ b3
            rw [z] at this
            cases this
          · have srt : (ws.map k).Pairwise (fun a b => leInts a b = true) := by
              refine List.pairwise_map.mpr (s'.imp fun {a b} h => ?_)
              unfold leInts
              rw [show HT.lexLt (k b) (k a) = false from h]
              rfl
            have pm : (ws.map k).Perm ts := by
              rw [← km]
              exact p'.map k
            have e3 : ws.map k = isort leInts ts := sorted_uniq leL_anti srt (isort_sorted leL_tot leL_tr ts) (pm.trans (isort_perm ts).symm)
            have rep : RepDs X.K B ((ws.map k).map tupI) ws := key_rep fun x hx => (at_ x (p'.mem_iff.mp hx)).1
            rw [e3] at rep
            exact f.lst rep l hl
        · cases q
/-! dict(pairs) -/
theorem pair_rep {d : D} {v : V} {k : Key} {x : D} (h : RepD K B d v) (e : pairOf d = some (k, x)) : ∃ (p : Addr) (w : V), v = .ref p ∧ B p = some (.tup [kV k, w]) ∧ RepD K B x w := by
  match d, e with
  | .tup [a, b], e =>
    obtain ⟨k', e1, e2⟩ := Option.map_eq_some_iff.mp (show (keyOf a).map (fun k => (k, b)) = some (k, x) from e)
    cases e2
    obtain ⟨p, vs, f1, f2, f3⟩ := h
    obtain ⟨v1, r1, g1, g2, g3⟩ := f3
    obtain ⟨v2, r2, g4, g5, g6⟩ := g3
    have g6 : r2 = [] := g6
    subst g6 g4 g1
    rw [g2.key e1] at f2
    exact ⟨p, v2, f1, f2, g5⟩
theorem pairs_rep : ∀ {ds : List D} {vs : List V} {ps : List (Key × D)}, RepDs K B ds vs → pairsOf ds = some ps → ∃ (as : List Addr) (kv : List (Key × V)), vs = as.map V.ref ∧ Paired (fun p q => B p = some (.tup [kV q.1, q.2])) as kv ∧ RepDK K B ps kv
  | [], _, ts, h, e => by
    have h : _ = [] := h
    have e : some [] = some ts := e
    cases e
    exact ⟨[], [], h, .nil, rfl⟩
  | d :: ds, _, ts, ⟨v, r, e', h, t⟩, e => by
    have e : (match pairOf d, pairsOf ds with | some p, some ps => some (p :: ps) | _, _ => none) = some ts := e
    cases q1 : pairOf d with
    | none => rw [q1] at e; cases e
    | some p =>
      cases q2 : pairsOf ds with
      | none => rw [q1, q2] at e; cases e
      | some l =>
        rw [q1, q2] at e
        cases e
        obtain ⟨k, x⟩ := p
        obtain ⟨as, kv, a1, a2, a3⟩ := pairs_rep t q2
        obtain ⟨p, w, b1, b2, b3⟩ := pair_rep h q1
        exact ⟨p :: as, (k, w) :: kv, by rw [e', b1, a1]; rfl, .cons b2 a2, ⟨w, kv, rfl, b3, a3⟩⟩
theorem putK_eq {κ : Type} [DecidableEq κ] (kv : List (κ × V)) (k : κ) (y : V) : L2.putK kv k y = PF.putK k y kv := rfl
theorem any_DK (k : Key) : ∀ {a : List (Key × D)} {b : List (Key × V)}, RepDK K B a b → (a.any fun kv => decide (kv.1 = k)) = b.any fun kv => decide (kv.1 = k)
  | [], _, h => by
    have h : _ = [] := h
    subst h
    rfl
  | (_, _) :: _, _, ⟨v, r, e, _, t⟩ => by
    subst e
    rw [List.any_cons, List.any_cons, any_DK k t]
theorem map_DK (k : Key) {d : D} {v : V} (hd : RepD K B d v) : ∀ {a : List (Key × D)} {b : List (Key × V)}, RepDK K B a b → RepDK K B (a.map fun kv => if kv.1 = k then (kv.1, d) else kv) (b.map fun kv => if kv.1 = k then (kv.1, v) else kv)
  | [], _, h => by
    have h : _ = [] := h
    subst h
    exact rfl
  | (k', x) :: _, _, ⟨w, r, e, h, t⟩ => by
    subst e
    rw [List.map_cons, List.map_cons]
    by_cases q : k' = k
    · rw [if_pos q, if_pos q]
      exact ⟨v, _, rfl, hd, map_DK k hd t⟩
    · rw [if_neg q, if_neg q]
      exact ⟨w, _, rfl, h, map_DK k hd t⟩
theorem app_DK {k : Key} {d : D} {v : V} (hd : RepD K B d v) : ∀ {a : List (Key × D)} {b : List (Key × V)}, RepDK K B a b → RepDK K B (a ++ [(k, d)]) (b ++ [(k, v)])
  | [], _, h => by
    have h : _ = [] := h
    subst h
    exact ⟨v, [], rfl, hd, rfl⟩
  | (_, _) :: _, _, ⟨w, r, e, h, t⟩ => by
    subst e
    exact ⟨w, _, rfl, h, app_DK hd t⟩
theorem put_DK {k : Key} {d : D} {v : V} (hd : RepD K B d v) {a : List (Key × D)} {b : List (Key × V)} (h : RepDK K B a b) : RepDK K B (PF.putK k d a) (PF.putK k v b) := by
  unfold PF.putK
  rw [any_DK k h]
  split
  · exact map_DK k hd h
  · exact app_DK hd h
theorem merge_rep : ∀ {ps : List (Key × D)} {kv : List (Key × V)} {a : List (Key × D)} {b : List (Key × V)}, RepDK K B ps kv → RepDK K B a b → RepDK K B (mergeD a ps) (mergeK b kv)
  | [], _, _, _, h, t => by
    have h : _ = [] := h
    subst h
    exact t
  | (k, d) :: ps, _, a, b, ⟨v, r, e, h, t⟩, u => by
    subst e
    show RepDK K B (mergeD (PF.putK k d a) ps) (mergeK (L2.putK b k v) r)
    exact merge_rep t (put_DK h u)
theorem pair_vals {h : Heap} : ∀ {prs : List (Key × Value)} {as : List Addr}, prs.length = as.length → (∀ (j : Nat) (q : Key × Value), prs[j]? = some q → ∃ (b : Addr) (u : Value), as[j]? = some b ∧ IsTup h b #[u, q.2] ∧ keyIs q.1 u = true) →
    ∃ qs : List (Value × Value), qs.length = as.length ∧ ∀ (j : Nat) (k v : Value), qs[j]? = some (k, v) → (∃ b, as[j]? = some b ∧ IsTup h b #[k, v]) ∧ ∃ q : Key × Value, prs[j]? = some q ∧ q.2 = v ∧ keyIs q.1 k = true
  | [], as, hl, _ => ⟨[], by simpa using hl, fun j k v e => by simp at e⟩
  | q :: prs, [], hl, _ => by simp at hl
  | q :: prs, a :: as, hl, hp => by
    obtain ⟨qs, h1, h2⟩ := pair_vals (prs := prs) (as := as) (by simpa using hl) fun j q e => by
      obtain ⟨b, u, e1, e2, e3⟩ := hp (j + 1) q (by simpa using e)
      exact ⟨b, u, by simpa using e1, e2, e3⟩
    obtain ⟨b, u, e1, e2, e3⟩ := hp 0 q rfl
    refine ⟨(u, q.2) :: qs, by simp [h1], fun j k v e => ?_⟩
    cases j with
    | zero =>
      simp only [List.getElem?_cons_zero, Option.some.injEq, Prod.mk.injEq] at e
      obtain ⟨rfl, rfl⟩ := e
      exact ⟨⟨b, e1, e2⟩, q, rfl, rfl, e3⟩
    | succ j =>
      obtain ⟨⟨b, f1, f2⟩, q', g1, g2, g3⟩ := h2 j k v (by simpa using e)
      exact ⟨⟨b, by simpa using f1, f2⟩, q', by simpa using g1, g2, g3⟩
theorem cr_dict (hc : X.calm = true) : CallR X (.type "dict") (rA X.K (bfD .dict_)) := by
  intro pins s σ H xs us Q I r h
  obtain ⟨B, ds, d, sb, hp, e, f⟩ := h
  match ds, e with
  | [.lst ys], e =>
    obtain ⟨x, rfl, h1⟩ := paired1 hp
    obtain ⟨p, vs, e1, t1, r1⟩ := h1
    have e : (if ys.length ≤ 1000 then (pairsOf ys).map fun ps => D.dK (mergeD [] ps) else none) = some d := e
    split at e
    · obtain ⟨ps, q, e2⟩ := Option.map_eq_some_iff.mp e
      subst e2
      obtain ⟨as, kv, a1, a2, a3⟩ := pairs_rep r1 q
      refine call_dictP hc pins s σ H _ us Q I r ⟨p, as, kv, by rw [e1], .of (by rw [← a1]; exact t1), Paired.mapP a2 fun a b h => .of (sb _ _ h), fun l hl => f.new l _ hl ?_⟩
      exact merge_rep a3 rfl
    · cases e
  | [.pt ys], e =>
    obtain ⟨x, rfl, h1⟩ := paired1 hp
    obtain ⟨⟨p, vs, o, e1, t1, n1, r1⟩, _⟩ := h1
    have e : (if ys.length ≤ 1000 then (pairsOf ys).map fun ps => D.dK (mergeD [] ps) else none) = some d := e
    split at e
    · rename_i hl
      obtain ⟨ps, q, e2⟩ := Option.map_eq_some_iff.mp e
      subst e2
      obtain ⟨as, kv, a1, a2, a3⟩ := pairs_rep r1 q
      obtain ⟨u, rfl, rx⟩ := vals1 r
      subst e1
      cases rx
      obtain ⟨ho, hz, its, rv, ht⟩ := I.hok _ _ t1
      obtain ⟨o', ho', hcl, n, hdat⟩ := ht
      rw [ho] at ho'
      cases ho'
      have a2' : Paired (fun p kv => SqT X.K H p [kV kv.1, kv.2]) as kv := Paired.mapP a2 fun a b h => .of (sb _ _ h)
      obtain ⟨prs, rel, hlen, hpr⟩ := pairs_of I a2'
      have ei : its = as.map Value.ref := refs_at (by rw [← a1]; exact rv)
      have hm : (s.heap.objs.size == sysModules) = false := beq_eq_false_iff_ne.mpr (Nat.ne_of_gt I.big)
      -- the pairs as values
      obtain ⟨qs, hq1, hq2⟩ := pair_vals hlen hpr
      have al : as.length ≤ sizeLine := by
        have := rv.length
        rw [a1, List.length_map] at this
        have h2 := r1.len
        rw [a1, List.length_map] at h2
        rw [sizeLine_eq]
        omega
      refine PySem.call_dict_pairs (knd := mixKind X.prog X.w) (kvs := prs) (PairArg.tuple p its.toArray (fun j => as.getD j 0) qs) (I.ok.hd hc) ⟨⟨o, n, ho, hcl, n1, hdat⟩, ?_, fun j k v e => ?_⟩ ⟨by rw [hlen, hq1], fun j k v e => ?_⟩ (by rw [hq1]; exact al) fun h' tk hd' k => ?_
      · rw [ei]
        simp [hq1]
      · obtain ⟨⟨b, f1, f2⟩, _⟩ := hq2 j k v e
        obtain ⟨o2, g1, g2, n2, g3⟩ := f2
        have gb : as.getD j 0 = b := by simp [List.getD, f1]
        show its.toArray[j]? = some (Value.ref (as.getD j 0)) ∧ PairAt s.heap (as.getD j 0) k v
        rw [gb, ei]
        refine ⟨by simp [f1], .inl ⟨o2, g1, g2, n2, g3⟩⟩
      · obtain ⟨_, q', g1, g2, g3⟩ := hq2 j k v e
        exact ⟨q'.1, by rw [g1, ← g2], g3⟩
      · have hlen2 : (mergeK [] kv).length ≤ sizeLine := by
          refine Nat.le_trans (length_mergeK kv []) ?_
          rw [List.length_nil, Nat.zero_add, rel.length, hlen]
          exact al
        refine ⟨.ref s.heap.objs.size, upd H s.heap.objs.size (.dK (mergeK [] kv)), I.laid (t' := tk) (fun b o e => k b o (by simp) e) (Nat.le_refl _) (show ObjOk X.prog X.w _ _ _ (.dK (mergeK [] kv)) from ⟨hlen2, hm, merged [] prs, KV.merge rel .nil, hd'⟩), rfl, f.new _ _ (I.hok.fresh (Nat.le_refl _)) ?_⟩
        exact merge_rep a3 rfl
    · cases e
/-! isinstance -/
def Ty.py : Ty → String
  | .int => "int" | .bool => "bool" | .str => "str" | .list => "list" | .tuple => "tuple" | .dict => "dict"
def tyOfD : D → Option Value
  | .non => some (.type "NoneType")
  | .bl _ => some (.type "bool")
  | .int _ => some (.type "int")
  | .str _ => some (.type "str")
  | .lst _ => some (.type "list")
  | .tup _ | .pt _ => some (.type "tuple")
  | .dK _ | .dT _ => some (.type "dict")
  | .scr _ => none
theorem RepT.ty {d : D} {x : V} {t : Value} (h : RepT K B H d x) (e : tyOfD d = some t) : TyX K H x t := by
  cases d with
  | non =>
    cases e
    have h : x = .non := h
    subst h
    exact .base .non
  | bl b =>
    cases e
    have h : x = .bl b := h
    subst h
    exact .base (.bl b)
  | int b =>
    cases e
    have h : x = .int b := h
    subst h
    exact .base (.int b)
  | str b =>
    cases e
    have h : x = .str b := h
    subst h
    exact .base (.str b)
  | lst xs =>
    cases e
    obtain ⟨a, vs, e1, t1, r1⟩ := h
    subst e1
    exact .base (.lst t1)
  | tup xs =>
    cases e
    obtain ⟨⟨a, vs, e1, t1, r1⟩, _⟩ := h
    subst e1
    exact .base (.tup t1)
  | pt xs =>
    cases e
    obtain ⟨⟨a, vs, o, e1, t1, n1, r1⟩, _⟩ := h
    subst e1
    exact .fTuple t1
  | dK xs =>
    cases e
    obtain ⟨a, vs, e1, t1, r1⟩ := h
    subst e1
    exact .base (.dK t1)
  | dT xs =>
    cases e
    obtain ⟨a, vs, e1, t1, r1⟩ := h
    subst e1
    exact .base (.dT t1)
  | scr _ => cases e
theorem kit_all (K : PySem.W.Frag) : ∀ (d : D) (t : Ty) (v : Value), tyOfD d = some v → PySem.W.kitOne K v (.type t.py) = isiD d [t] := by
  intro d t v e
  cases d <;> cases e <;> cases t <;> first | rfl | decide +kernel | exact kit_ty (by decide +kernel)
end
end PF
end

section
set_option Elab.async false
set_option linter.all false
set_option maxRecDepth 100000
set_option maxHeartbeats 1000000
namespace PF
open PySem PySem.Spec PyProof.Rows L2

/-! ### the state while a def runs -/
def Stt (K : PySem.W.Frag) (Kp B H : Hp) (g : Gam) (σ : Sig) (τ : List Ent) : Prop := SlotOk g σ ∧ Rp K Kp B H (slotEs g σ ++ τ)
def PthOk (H : Hp) (σ : Sig) (i : Nat) (st : List Step) (v : V) : Prop := ∃ v0, σ[i]? = some (some v0) ∧ PthV H v0 st v
def tmps : List Arg → List V → List Ent
  | .tmp w :: xs, v :: vs => (w, v) :: tmps xs vs
  | .pth _ _ :: xs, _ :: vs => tmps xs vs
  | _, _ => []
def PthAll (H : Hp) (σ : Sig) : List Arg → List V → Prop
  | [], [] => True
  | .tmp _ :: xs, _ :: vs => PthAll H σ xs vs
  | .pth i st :: xs, v :: vs => PthOk H σ i st v ∧ PthAll H σ xs vs
  | _, _ => False
structure Got (K : PySem.W.Frag) (Kp B H : Hp) (g : Gam) (σ : Sig) (τ : List Ent) (xs : List Arg) (vs : List V) : Prop where
  pth : PthAll H σ xs vs
  st : Stt K Kp B H g σ (tmps xs vs ++ τ)
def Post (Kp B H : Hp) (pu : Bool) (H' B' : Hp) : Prop := Ext Kp B B' ∧ (pu = true → Same H H')
def tE (K : PySem.W.Frag) (pu : Bool) (f : Gam → Option (Arg × Gam)) : TE := fun σ H Q => ∃ Kp B g τ x g', Stt K Kp B H g σ τ ∧ f g = some (x, g') ∧ ∀ v H' B', Post Kp B H pu H' B' → Got K Kp B' H' g' σ τ [x] [v] → Q v H'
def tAL (K : PySem.W.Frag) (pu : Bool) (f : Gam → Option (List Arg × Gam)) : TA := fun σ H Q => ∃ Kp B g τ xs g', Stt K Kp B H g σ τ ∧ f g = some (xs, g') ∧ ∀ vs H' B', Post Kp B H pu H' B' → Got K Kp B' H' g' σ τ xs vs → Q vs H'
def tTT (K : PySem.W.Frag) (f : Gam → Option (Bool × Gam)) : TT := fun σ H Q => ∃ Kp B g τ b g', Stt K Kp B H g σ τ ∧ f g = some (b, g') ∧ ∀ H' B', Ext Kp B B' → Stt K Kp B' H' g' σ τ → Q b H'
def tOO (K : PySem.W.Frag) (f : Gam → Option (Option Int × Gam)) : TO := fun σ H Q => ∃ Kp B g τ b g', Stt K Kp B H g σ τ ∧ f g = some (b, g') ∧ ∀ H' B', Ext Kp B B' → Stt K Kp B' H' g' σ τ → Q b H'
theorem PE_imp {X : Cx} {e : Expr} {t t' : TE} (h : PE X e t) (i : ∀ σ H Q, t' σ H Q → t σ H Q) : PE X e t' := ⟨fun pins s σ H Q I q => h.run pins s σ H Q I (i _ _ _ q)⟩
theorem PT_imp {X : Cx} {e : Expr} {t t' : TT} (h : PT X e t) (i : ∀ σ H Q, t' σ H Q → t σ H Q) : PT X e t' := ⟨fun pins s σ H Q I q => h.run pins s σ H Q I (i _ _ _ q)⟩
theorem PW_imp {X : Cx} {e : Expr} {t t' : TT} (h : PW X e t) (i : ∀ σ H Q, t' σ H Q → t σ H Q) : PW X e t' := ⟨fun wh pins s σ H Q I q => h.run wh pins s σ H Q I (i _ _ _ q)⟩
theorem PA_imp {X : Cx} {e : List Expr} {t t' : TA} (h : PA X e t) (i : ∀ σ H Q, t' σ H Q → t σ H Q) : PA X e t' := ⟨fun pos pins s σ H Q I q => h.run pos pins s σ H Q I (i _ _ _ q)⟩
theorem PO_imp {X : Cx} {e : Option Expr} {t t' : TO} (h : PO X e t) (i : ∀ σ H Q, t' σ H Q → t σ H Q) : PO X e t' := ⟨fun pins s σ H Q I q => h.run pins s σ H Q I (i _ _ _ q)⟩
theorem PS_imp {X : Cx} {e : Stmt} {t t' : TS} (h : PS X e t) (i : ∀ D σ H, t' D σ H → t D σ H) : PS X e t' := ⟨fun pins s σ H D I q => h.run pins s σ H D I (i _ _ _ q)⟩
theorem PSs_imp {X : Cx} {e : List Stmt} {t t' : TS} (h : PSs X e t) (i : ∀ D σ H, t' D σ H → t D σ H) : PSs X e t' := ⟨fun pins s σ H D I q => h.run pins s σ H D I (i _ _ _ q)⟩
theorem PG_imp {X : Cx} {e : Expr} {t t' : TG} (h : PG X e t) (i : ∀ v σ H Q, t' v σ H Q → t v σ H Q) : PG X e t' := ⟨fun pins s σ H v u Q I r q => h.run pins s σ H v u Q I r (i _ _ _ _ q)⟩
theorem PI_imp {X : Cx} {tg e : Expr} {t t' : TI} (h : PI X tg e t) (i : ∀ σ H R, t' σ H R → t σ H R) : PI X tg e t' := ⟨fun pins s σ H R I q => h.run pins s σ H R I (i _ _ _ q)⟩
section
variable {K : PySem.W.Frag} {Kp B B' H H' : Hp} {g g' : Gam} {σ : Sig} {τ : List Ent} {x y : Arg} {xs ys : List Arg} {v u : V} {vs us : List V}
theorem Post.refl {pu : Bool} : Post Kp B H pu H B := ⟨.refl, fun _ => Same.refl _⟩
theorem PthOk.simple {i : Nat} (h : PthOk H σ i [] v) : PthOk H' σ i [] v := h
theorem PthAll.one (s : x.simple = true ∨ Same H H') (h : PthAll H σ [x] [v]) : PthAll H' σ [x] [v] := by
  cases x with
  | tmp w => exact True.intro
  | pth i st =>
    obtain ⟨⟨v0, e, p⟩, _⟩ := h
    refine ⟨?_, True.intro⟩
    rcases s with s | s
    · cases st with
      | nil => exact ⟨v0, e, p⟩
      | cons a b => cases s
    · exact ⟨v0, e, p.mono s⟩
theorem tmps_cons : tmps (x :: xs) (v :: vs) = tmps [x] [v] ++ tmps xs vs := by
  cases x <;> rfl
theorem PthAll.cons (h1 : PthAll H σ [x] [v]) (h2 : PthAll H σ xs vs) : PthAll H σ (x :: xs) (v :: vs) := by
  cases x with
  | tmp w => exact h2
  | pth i st => exact ⟨h1.1, h2⟩
theorem Stt.perm {τ' : List Ent} (S : Stt K Kp B H g σ τ) (p : τ.Perm τ') : Stt K Kp B H g σ τ' := ⟨S.1, S.2.perm (List.Perm.append_left _ p)⟩
theorem Stt.drop {τ' : List Ent} (S : Stt K Kp B H g σ (τ' ++ τ)) : Stt K Kp B H g σ τ := ⟨S.1, Rp.right (es1 := τ') (S.2.perm (by
  rw [← List.append_assoc, ← List.append_assoc]
  exact List.perm_append_comm.append_right τ))⟩
/-- one after another -/
theorem Got.cons {H1 B1 : Hp} {g1 : Gam} (G1 : Got K Kp B1 H1 g1 σ τ [x] [v]) (s : x.simple = true ∨ Same H1 H) (G2 : Got K Kp B H g σ (tmps [x] [v] ++ τ) xs vs) : Got K Kp B H g σ τ (x :: xs) (v :: vs) := by
  refine ⟨(PthAll.one s G1.pth).cons G2.pth, ?_⟩
  rw [tmps_cons]
  refine G2.st.perm ?_
  rw [← List.append_assoc]
  exact List.perm_append_comm.append_right τ
theorem slot_mem : ∀ {g : Gam} {σ : Sig} {i : Nat} {w : W} {v : V}, SlotOk g σ → g[i]? = some (some w) → σ[i]? = some (some v) → (w, v) ∈ slotEs g σ := fun h e1 e2 => (h.take e1 e2).mem_iff.mpr List.mem_cons_self
/-- the value of an argument stands for what it resolves to -/
theorem Got.rep1 {w : W} (G : Got K Kp B H g σ τ (x :: xs) (v :: vs)) (e : res g x = some w) : ∃ fp, RepW K B H w v fp ∧ ∀ a ∈ fp, B a = none ∧ Kp a = none := by
  cases x with
  | tmp w' =>
    cases e
    exact G.st.2.mem (List.mem_append_right _ (List.mem_append_left _ List.mem_cons_self))
  | pth i st =>
    obtain ⟨v0, e0, p⟩ := G.pth.1
    have e : (match g[i]? with | some (some w) => w.at st | _ => none) = some w := e
    cases q : g[i]? with
    | none => rw [q] at e; cases e
    | some o =>
      cases o with
      | none => rw [q] at e; cases e
      | some w0 =>
        rw [q] at e
        have r := G.st.2.perm (List.Perm.append_right (tmps (.pth i st :: xs) (v :: vs) ++ τ) (G.st.1.take q e0))
        obtain ⟨v', f, p', h', d⟩ := Rp.path (es := slotEs (g.set i none) σ ++ (tmps (.pth i st :: xs) (v :: vs) ++ τ)) r e
        rw [p'.inj p] at h'
        exact ⟨f, h', d⟩
theorem Got.tail (G : Got K Kp B H g σ τ (x :: xs) (v :: vs)) : Got K Kp B H g σ (tmps [x] [v] ++ τ) xs vs := by
  refine ⟨?_, ?_⟩
  · have := G.pth
    cases x with
    | tmp w => exact this
    | pth i st => exact this.2
  · have := G.st
    rw [tmps_cons] at this
    refine this.perm ?_
    rw [← List.append_assoc]
    exact List.perm_append_comm.append_right τ
theorem Got.reps : ∀ {xs : List Arg} {vs : List V} {ws : List W} {τ : List Ent}, Got K Kp B H g σ τ xs vs → resL g xs = some ws → Paired (fun w v => ∃ fp, RepW K B H w v fp ∧ ∀ a ∈ fp, B a = none ∧ Kp a = none) ws vs
  | [], [], ws, _, _, e => by
    cases e
    exact .nil
  | [], _ :: _, _, _, G, _ => G.pth.elim
  | x :: _, [], _, _, G, _ => by cases x <;> exact (G.pth : False).elim
  | x :: xs, v :: vs, ws, τ, G, e => by
    unfold resL at e
    cases q1 : res g x with
    | none => rw [q1] at e; cases e
    | some w =>
      cases q2 : resL g xs with
      | none => rw [q1, q2] at e; cases e
      | some r =>
        rw [q1, q2] at e
        cases e
        exact .cons (G.rep1 q1) (Got.reps G.tail q2)
theorem RepW.at_H {w : W} {fp : List Addr} (s : Same B H) (h : RepW K B H w v fp) : RepT K H H w.toD v := (h.frozen s fun _ _ => rfl).top (Same.refl _)
theorem fz_reps : ∀ {ws : List W} {vs : List V} {fp : List Addr}, ws.all W.isFz = true → RepWs K B H ws vs fp → RepDs K B (toDs ws) vs
  | [], _, _, _, h => h.1
  | w :: ws, _, _, a, ⟨v, r, f, g, e1, e2, h, t⟩ => by
    rw [List.all_cons, Bool.and_eq_true] at a
    cases w with
    | fz d => exact ⟨v, r, e1, h.2, fz_reps a.2 t⟩
    | _ => cases a.1
theorem fz_repsK : ∀ {ws : List (Key × W)} {vs : List (Key × V)} {fp : List Addr}, (ws.all fun p => p.2.isFz) = true → RepWK K B H ws vs fp → RepDK K B (toDK ws) vs
  | [], _, _, _, h => h.1
  | (k, w) :: ws, _, _, a, ⟨v, r, f, g, e1, e2, h, t⟩ => by
    rw [List.all_cons, Bool.and_eq_true] at a
    cases w with
    | fz d => exact ⟨v, r, e1, h.2, fz_repsK a.2 t⟩
    | _ => cases a.1
theorem fz_repsT : ∀ {ws : List (List Key × W)} {vs : List (List Key × V)} {fp : List Addr}, (ws.all fun p => p.2.isFz) = true → RepWT K B H ws vs fp → RepDT K B (toDT ws) vs
  | [], _, _, _, h => h.1
  | (k, w) :: ws, _, _, a, ⟨v, r, f, g, e1, e2, h, t⟩ => by
    rw [List.all_cons, Bool.and_eq_true] at a
    cases w with
    | fz d => exact ⟨v, r, e1, h.2, fz_repsT a.2 t⟩
    | _ => cases a.1
/-- a flat thing: its parts are frozen -/
theorem RepW.flat {w : W} {fp : List Addr} (s : Same B H) (a : w.flat = true) (h : RepW K B H w v fp) : RepT K B H w.toD v := by
  cases w with
  | fz d => exact h.2.top s
  | lst ws =>
    obtain ⟨p, us, fs, e1, e2, e3, r⟩ := h
    exact ⟨p, us, e1, e3, fz_reps a r⟩
  | dK ws =>
    obtain ⟨p, us, fs, e1, e2, e3, r⟩ := h
    exact ⟨p, us, e1, e3, fz_repsK a r⟩
  | dT ws =>
    obtain ⟨p, us, fs, e1, e2, e3, r⟩ := h
    exact ⟨p, us, e1, e3, fz_repsT a r⟩
/-! new things -/
theorem Rp.leaves : ∀ {ds : List D} {vs : List V} {es : List Ent}, RepDs K B ds vs → Rp K Kp B H es → Rp K Kp B H ((ds.map W.fz).zip vs ++ es)
  | [], _, _, h, r => by
    have h : _ = [] := h
    subst h
    exact r
  | d :: ds, _, es, ⟨v, t, e, h, q⟩, r => by
    subst e
    exact Rp.leaf (Rp.leaves q r) h
theorem same_upd {p : Addr} {o : HO} (h : H p = none) : Same H (upd H p o) := fun b x e => by rw [upd_ne (ne_of_none e h)]; exact e
/-- a new frozen object -/
theorem Rp.newB {es : List Ent} (r : Rp K Kp B H es) {p : Addr} {o : HO} (hp : H p = none) : Ext Kp B (upd B p o) ∧ Rp K Kp (upd B p o) (upd H p o) es := by
  have bp : B p = none := r.sb.free hp
  obtain ⟨fp, h, nd, d⟩ := r.ow
  have np : ∀ a ∈ fp, a ≠ p := fun a ha e => h.alive a ha (by rw [e]; exact hp)
  refine ⟨⟨same_upd bp, fun a ha => ?_⟩, fun b x e => ?_, r.sk.trans (same_upd hp), fp, h.move (same_upd bp) fun a ha => upd_ne (np a ha), nd, fun a ha => ⟨?_, (d a ha).2⟩⟩
  · by_cases e : a = p
    · subst e
      exact .inr (r.sk.free hp)
    · rw [upd_ne e] at ha
      exact .inl ha
  · by_cases q : b = p
    · subst q
      rw [upd_same] at e ⊢
      exact e
    · rw [upd_ne q] at e ⊢
      exact r.sb b x e
  · rw [upd_ne (np a ha)]
    exact (d a ha).1
theorem zipK_len {κ : Type} {ps : List (κ × D)} {kv : List (κ × V)} (e : ps.map (·.1) = kv.map (·.1)) : ps.length = kv.length := by
  have := congrArg List.length e
  simpa using this
theorem RepDK.ent : ∀ {ps : List (Key × D)} {kv : List (Key × V)}, RepDK K B ps kv → ∃ (ks : List Key) (ds : List D) (vs : List V), ps = ks.zip ds ∧ kv = ks.zip vs ∧ ds.length = vs.length ∧ ks.length = ds.length ∧ RepDs K B ds vs
  | [], _, h => by
    have h : _ = [] := h
    subst h
    exact ⟨[], [], [], rfl, rfl, rfl, rfl, rfl⟩
  | (k, d) :: _, _, ⟨v, r, e, h, t⟩ => by
    obtain ⟨ks, ds, vs, a1, a2, a3, a4, a5⟩ := RepDK.ent t
    subst e a1 a2
    exact ⟨k :: ks, d :: ds, v :: vs, rfl, rfl, by simp [a3], by simp [a4], v, vs, rfl, h, a5⟩
theorem RepDT.ent : ∀ {ps : List (List Key × D)} {kv : List (List Key × V)}, RepDT K B ps kv → ∃ (ks : List (List Key)) (ds : List D) (vs : List V), ps = ks.zip ds ∧ kv = ks.zip vs ∧ ds.length = vs.length ∧ ks.length = ds.length ∧ RepDs K B ds vs
  | [], _, h => by
    have h : _ = [] := h
    subst h
    exact ⟨[], [], [], rfl, rfl, rfl, rfl, rfl⟩
  | (k, d) :: _, _, ⟨v, r, e, h, t⟩ => by
    obtain ⟨ks, ds, vs, a1, a2, a3, a4, a5⟩ := RepDT.ent t
    subst e a1 a2
    exact ⟨k :: ks, d :: ds, v :: vs, rfl, rfl, by simp [a3], by simp [a4], v, vs, rfl, h, a5⟩
theorem zip_fz {κ : Type} : ∀ (ks : List κ) (ds : List D), ((ks.zip ds).map fun p => (p.1, W.fz p.2)) = ks.zip (ds.map W.fz)
  | [], _ => rfl
  | _ :: _, [] => rfl
  | k :: ks, d :: ds => by
    rw [List.map_cons, List.zip_cons_cons, List.zip_cons_cons, List.map_cons, zip_fz ks ds]
/-- a result d is got -/
theorem Stt.fin {Q : VK} {d : D} (S : Stt K Kp B H g σ τ) (k : ∀ v H' B', Ext Kp B B' → Same H H' → Got K Kp B' H' g σ τ [.tmp (own d)] [v] → Q v H') : Fin K B H d Q := by
  have mv : ∀ {es : List Ent} {a : Ent}, Rp K Kp B H (a :: (slotEs g σ ++ τ)) → Rp K Kp B H (slotEs g σ ++ (a :: τ)) := fun r => r.perm List.perm_middle.symm
  refine ⟨fun v o h => ?_, fun p o hp h => ?_⟩
  · have e : own d = .fz d := by cases d <;> first | rfl | cases o
    refine k v H B .refl (Same.refl _) ⟨True.intro, S.1, ?_⟩
    rw [e]
    exact (S.2.leaf h).perm List.perm_middle.symm
  · cases d with
    | lst ds =>
      cases o with
      | lst us =>
        have h : RepDs K B ds us := h
        have r := Rp.alloc (.lst (ws := ds.map W.fz) (vs := us) (by rw [List.length_map, h.len])) (Rp.leaves h S.2) hp
        exact k (.ref p) _ B .refl (same_upd hp) ⟨True.intro, S.1, r.perm List.perm_middle.symm⟩
      | _ => exact h.elim
    | dK ds =>
      cases o with
      | dK us =>
        obtain ⟨ks, es, vs, a1, a2, a3, a4, a5⟩ := RepDK.ent (show RepDK K B ds us from h)
        subst a1 a2
        have r := Rp.alloc (.dK (ks := ks) (ws := es.map W.fz) (vs := vs) (by rw [List.length_map, a3]) (by rw [List.length_map, a4])) (Rp.leaves a5 S.2) hp
        refine k (.ref p) _ B .refl (same_upd hp) ⟨True.intro, S.1, ?_⟩
        show Rp K Kp B _ (slotEs g σ ++ ((W.dK ((ks.zip es).map fun p => (p.1, W.fz p.2)), V.ref p) :: τ))
        rw [zip_fz]
        exact r.perm List.perm_middle.symm
      | _ => exact h.elim
    | dT ds =>
      cases o with
      | dT us =>
        obtain ⟨ks, es, vs, a1, a2, a3, a4, a5⟩ := RepDT.ent (show RepDT K B ds us from h)
        subst a1 a2
        have r := Rp.alloc (.dT (ks := ks) (ws := es.map W.fz) (vs := vs) (by rw [List.length_map, a3]) (by rw [List.length_map, a4])) (Rp.leaves a5 S.2) hp
        refine k (.ref p) _ B .refl (same_upd hp) ⟨True.intro, S.1, ?_⟩
        show Rp K Kp B _ (slotEs g σ ++ ((W.dT ((ks.zip es).map fun p => (p.1, W.fz p.2)), V.ref p) :: τ))
        rw [zip_fz]
        exact r.perm List.perm_middle.symm
      | _ => exact h.elim
    | tup ds =>
      cases o with
      | tup us =>
        obtain ⟨x, r⟩ := S.2.newB (o := .tup us) hp
        exact k (.ref p) _ _ x (same_upd hp) ⟨True.intro, S.1, (r.leaf (d := .tup ds) (v := .ref p) ⟨p, us, rfl, upd_same, RepDs.mono x.same h⟩).perm List.perm_middle.symm⟩
      | _ => exact h.elim
    | pt ds =>
      cases o with
      | frz ob u =>
        cases u with
        | tup us =>
          obtain ⟨x, r⟩ := S.2.newB (o := .frz ob (.tup us)) hp
          exact k (.ref p) _ _ x (same_upd hp) ⟨True.intro, S.1, (r.leaf (d := .pt ds) (v := .ref p) ⟨p, us, ob, rfl, upd_same, h.1, RepDs.mono x.same h.2⟩).perm List.perm_middle.symm⟩
        | _ => exact h.elim
      | _ => exact h.elim
    | _ => exact h.elim
theorem Fin.atom {Q : VK} {d : D} (a : d.isAtom = true) (f : Fin K B H d Q) : Fin K B' H d Q := by
  cases d <;> first
    | exact ⟨fun v o h => f.at_ v o h, fun p o hp h => f.new p o hp h⟩
    | cases a
end
end PF
end

section
set_option Elab.async false
set_option linter.all false
set_option maxRecDepth 100000
set_option maxHeartbeats 1000000
namespace PF
open PySem PySem.Spec PyProof.Rows L2

section
variable {K : PySem.W.Frag} {Kp B B' H H' : Hp} {g g' : Gam} {σ : Sig} {τ : List Ent} {x y : Arg} {xs ys : List Arg} {v u : V} {vs us : List V}
theorem set_self {α : Type} : ∀ {l : List α} {i : Nat} {a : α}, l[i]? = some a → l.set i a = l := by
  intro l i a h
  apply List.ext_getElem?
  intro j
  by_cases e : i = j
  · subst e
    have hi := (List.getElem?_eq_some_iff.mp h).1
    rw [List.getElem?_set_self hi, h]
  · rw [List.getElem?_set_ne e]
/-- a slot's thing is exchanged, its value stays -/
theorem slot_swap {i : Nat} {w w' : W} {v : V} (so : SlotOk g σ) (e1 : g[i]? = some (some w)) (e2 : σ[i]? = some (some v)) : ((w', v) :: slotEs (g.set i none) σ).Perm (slotEs (g.set i (some w')) σ) := by
  have hi : i < g.length := (List.getElem?_eq_some_iff.mp e1).1
  have p := so.put (i := i) (w := w') (v := v) hi
  rw [set_self e2] at p
  exact p

theorem Got.frz {d : D} (G : Got K Kp B H g σ τ (x :: xs) (v :: vs)) (e : frzA g x = some (d, g')) : ∃ B', Ext Kp B B' ∧ Got K Kp B' H g' σ ((.fz d, v) :: τ) xs vs := by
  cases x with
  | tmp w =>
    cases e
    have r := G.st.2
    have r : Rp K Kp B H ((w, v) :: (slotEs g σ ++ (tmps xs vs ++ τ))) := r.perm List.perm_middle
    obtain ⟨B', x, r'⟩ := r.freeze
    refine ⟨B', x, G.pth, G.st.1, r'.perm ?_⟩
    exact List.perm_middle.symm.trans (List.Perm.append_left _ List.perm_middle.symm)
  | pth i st =>
    cases st with
    | cons a b => cases e
    | nil =>
      have e : (match g[i]? with | some (some w) => some (w.toD, g.set i (some (.fz w.toD))) | _ => none) = some (d, g') := e
      cases q : g[i]? with
      | none => rw [q] at e; cases e
      | some o =>
        cases o with
        | none => rw [q] at e; cases e
        | some w =>
          rw [q] at e
          cases e
          obtain ⟨v0, e0, ev⟩ := G.pth.1
          have ev : v0 = v := ev
          subst ev
          have r := G.st.2
          have r : Rp K Kp B H ((w, v0) :: (slotEs (g.set i none) σ ++ (tmps xs vs ++ τ))) := r.perm ((G.st.1.take q e0).append_right _)
          obtain ⟨B', x, r'⟩ := r.freeze
          refine ⟨B', x, G.pth.2, G.st.1.setW e0, r'.dup.perm ?_⟩
          have p1 := (slot_swap (w' := .fz w.toD) G.st.1 q e0).append_right (tmps xs vs ++ τ)
          refine (List.Perm.cons _ p1).trans ?_
          exact List.perm_middle.symm.trans (List.Perm.append_left _ List.perm_middle.symm)
theorem Got.take {o : Bool} {w : W} (G : Got K Kp B H g σ τ (x :: xs) (v :: vs)) (e : takeA o g x = some (w, g')) : ∃ B', Ext Kp B B' ∧ Got K Kp B' H g' σ ((w, v) :: τ) xs vs := by
  have fr : (frzA g x).map (fun p => (W.fz p.1, p.2)) = some (w, g') → ∃ B', Ext Kp B B' ∧ Got K Kp B' H g' σ ((w, v) :: τ) xs vs := fun e => by
    obtain ⟨⟨d, g2⟩, e1, e2⟩ := Option.map_eq_some_iff.mp e
    cases e2
    exact G.frz e1
  cases o with
  | false => exact fr e
  | true =>
    cases x with
    | tmp w' =>
      cases e
      refine ⟨B, .refl, G.pth, G.st.1, G.st.2.perm ?_⟩
      refine List.Perm.append_left _ ?_
      exact List.perm_middle.symm
    | pth i st => exact fr e
theorem got_takeS : ∀ {xs : List Arg} {vs : List V} {o : Bool} {ws : List W} {B : Hp} {g g' : Gam} {τ : List Ent}, Got K Kp B H g σ τ xs vs → takeL o xs g = some (ws, g') → ∃ B', Ext Kp B B' ∧ Stt K Kp B' H g' σ (ws.zip vs ++ τ) ∧ ws.length = vs.length
  | [], [], _, ws, B, g, g', τ, G, e => by
    cases e
    exact ⟨B, .refl, G.st, rfl⟩
  | [], _ :: _, _, _, _, _, _, _, G, _ => G.pth.elim
  | x :: _, [], _, _, _, _, _, _, G, _ => by cases x <;> exact (G.pth : False).elim
  | x :: xs, v :: vs, o, ws, B, g, g', τ, G, e => by
    unfold takeL at e
    cases q1 : takeA o g x with
    | none => rw [q1] at e; cases e
    | some p =>
      obtain ⟨w, g1⟩ := p
      rw [q1] at e
      have e : ((takeL o xs g1).bind fun p => some (w :: p.1, p.2)) = some (ws, g') := e
      obtain ⟨⟨r, g2⟩, e1, e2⟩ := Option.bind_eq_some_iff.mp e
      cases e2
      obtain ⟨B1, x1, G1⟩ := G.take q1
      obtain ⟨B2, x2, S2, l⟩ := got_takeS G1 e1
      exact ⟨B2, x1.trans x2, S2.perm List.perm_middle, by simp [l]⟩
theorem got_frzS : ∀ {xs : List Arg} {vs : List V} {ds : List D} {B : Hp} {g g' : Gam} {τ : List Ent}, Got K Kp B H g σ τ xs vs → frzL xs g = some (ds, g') → ∃ B', Ext Kp B B' ∧ Stt K Kp B' H g' σ τ ∧ RepDs K B' ds vs
  | [], [], ds, B, g, g', τ, G, e => by
    cases e
    exact ⟨B, .refl, G.st, rfl⟩
  | [], _ :: _, _, _, _, _, _, G, _ => G.pth.elim
  | x :: _, [], _, _, _, _, _, G, _ => by cases x <;> exact (G.pth : False).elim
  | x :: xs, v :: vs, ds, B, g, g', τ, G, e => by
    unfold frzL at e
    cases q1 : frzA g x with
    | none => rw [q1] at e; cases e
    | some p =>
      obtain ⟨w, g1⟩ := p
      rw [q1] at e
      have e : ((frzL xs g1).bind fun p => some (w :: p.1, p.2)) = some (ds, g') := e
      obtain ⟨⟨r, g2⟩, e1, e2⟩ := Option.bind_eq_some_iff.mp e
      cases e2
      obtain ⟨B1, x1, G1⟩ := G.frz q1
      obtain ⟨B2, x2, S2, l⟩ := got_frzS G1 e1
      have r : Rp K Kp B2 H ((.fz w, v) :: (slotEs g2 σ ++ τ)) := S2.2.perm List.perm_middle
      exact ⟨B2, x1.trans x2, ⟨S2.1, r.tail⟩, v, vs, rfl, r.leafOf, l⟩
/-! a call -/
def ioEs : List Mode → List W → List V → List Ent
  | .val :: ms, ios, _ :: vs => ioEs ms ios vs
  | .io :: ms, w :: ios, v :: vs => (w, v) :: ioEs ms ios vs
  | _, _, _ => []
theorem got_toCall : ∀ {ms : List Mode} {xs : List Arg} {vs : List V} {ws : List W} {B : Hp} {g g' : Gam} {τ : List Ent}, Got K Kp B H g σ τ xs vs → takeC ms xs g = some (ws, g') →
    ∃ B', Ext Kp B B' ∧ SlotOk g' σ ∧ Rp K Kp B' H (ws.zip vs ++ (slotEs g' σ ++ τ)) ∧ ws.length = vs.length ∧ ms.length = vs.length
  | [], [], [], ws, B, g, g', τ, G, e => by
    cases e
    exact ⟨B, .refl, G.st.1, G.st.2, rfl, rfl⟩
  | [], [], _ :: _, _, _, _, _, _, G, _ => G.pth.elim
  | [], _ :: _, _, _, _, _, _, _, _, e => by cases e
  | .val :: _, [], _, _, _, _, _, _, _, e => by cases e
  | .io :: _, [], _, _, _, _, _, _, _, e => by cases e
  | _ :: _, x :: _, [], _, _, _, _, _, G, _ => by cases x <;> exact (G.pth : False).elim
  | .val :: ms, x :: xs, v :: vs, ws, B, g, g', τ, G, e => by
    have e : ((frzA g x).bind fun p => (takeC ms xs p.2).bind fun q => some (W.fz p.1 :: q.1, q.2)) = some (ws, g') := by
      cases x <;> exact e
    obtain ⟨⟨d, g1⟩, e1, e⟩ := Option.bind_eq_some_iff.mp e
    obtain ⟨⟨r, g2⟩, e2, e3⟩ := Option.bind_eq_some_iff.mp e
    cases e3
    obtain ⟨B1, x1, G1⟩ := G.frz e1
    obtain ⟨B2, x2, so, R, l1, l2⟩ := got_toCall G1 e2
    refine ⟨B2, x1.trans x2, so, R.perm ?_, by simp [l1], by simp [l2]⟩
    have : (r.zip vs ++ (slotEs g2 σ ++ ((W.fz d, v) :: τ))).Perm ((W.fz d, v) :: (r.zip vs ++ (slotEs g2 σ ++ τ))) := by
      rw [← List.append_assoc, ← List.append_assoc]
      exact List.perm_middle
    exact this
  | .io :: ms, .tmp w :: xs, v :: vs, ws, B, g, g', τ, G, e => by
    have e : ((takeC ms xs g).bind fun q => some (w :: q.1, q.2)) = some (ws, g') := e
    obtain ⟨⟨r, g2⟩, e2, e3⟩ := Option.bind_eq_some_iff.mp e
    cases e3
    obtain ⟨B2, x2, so, R, l1, l2⟩ := got_toCall (τ := (w, v) :: τ) (vs := vs) ⟨G.pth, G.st.1, G.st.2.perm (List.Perm.append_left _ List.perm_middle.symm)⟩ e2
    refine ⟨B2, x2, so, R.perm ?_, by simp [l1], by simp [l2]⟩
    have : (r.zip vs ++ (slotEs g2 σ ++ ((w, v) :: τ))).Perm ((w, v) :: (r.zip vs ++ (slotEs g2 σ ++ τ))) := by
      rw [← List.append_assoc, ← List.append_assoc]
      exact List.perm_middle
    exact this
  | .io :: ms, .pth i (a :: b) :: xs, v :: vs, ws, B, g, g', τ, G, e => by cases e
  | .io :: ms, .pth i [] :: xs, v :: vs, ws, B, g, g', τ, G, e => by
    have e : (match g[i]? with | some (some w) => ((takeC ms xs (g.set i none)).bind fun q => some (w :: q.1, q.2)) | _ => none) = some (ws, g') := e
    cases q : g[i]? with
    | none => rw [q] at e; cases e
    | some o =>
      cases o with
      | none => rw [q] at e; cases e
      | some w =>
        rw [q] at e
        obtain ⟨⟨r, g2⟩, e2, e3⟩ := Option.bind_eq_some_iff.mp e
        cases e3
        obtain ⟨v0, e0, ev⟩ := G.pth.1
        have ev : v0 = v := ev
        subst ev
        have R0 : Rp K Kp B H ((w, v0) :: (slotEs (g.set i none) σ ++ (tmps xs vs ++ τ))) := G.st.2.perm ((G.st.1.take q e0).append_right _)
        obtain ⟨B2, x2, so, R, l1, l2⟩ := got_toCall (τ := (w, v0) :: τ) (vs := vs) ⟨G.pth.2, G.st.1.drop, R0.perm (List.perm_middle.symm.trans (List.Perm.append_left _ List.perm_middle.symm))⟩ e2
        refine ⟨B2, x2, so, R.perm ?_, by simp [l1], by simp [l2]⟩
        have : (r.zip vs ++ (slotEs g2 σ ++ ((w, v0) :: τ))).Perm ((w, v0) :: (r.zip vs ++ (slotEs g2 σ ++ τ))) := by
          rw [← List.append_assoc, ← List.append_assoc]
          exact List.perm_middle
        exact this
theorem back_call : ∀ {ms : List Mode} {xs : List Arg} {vs : List V} {ios : List W} {B : Hp} {g g' : Gam} {τ : List Ent}, PthAll H σ xs vs → SlotOk g σ → Rp K Kp B H' (ioEs ms ios vs ++ (slotEs g σ ++ τ)) → putC ms xs ios g = some g' → Stt K Kp B H' g' σ τ
  | [], [], vs, [], B, g, g', τ, P, so, R, e => by
    cases e
    cases vs with
    | nil => exact ⟨so, R⟩
    | cons _ _ => exact P.elim
  | [], [], _, _ :: _, _, _, _, _, _, _, _, e => by cases e
  | [], _ :: _, _, _, _, _, _, _, _, _, _, e => by cases e
  | .val :: _, [], _, _, _, _, _, _, _, _, _, e => by cases e
  | .io :: _, [], _, _, _, _, _, _, _, _, _, e => by cases e
  | _ :: _, x :: _, [], _, _, _, _, _, P, _, _, _ => by cases x <;> exact (P : False).elim
  | .val :: ms, x :: xs, v :: vs, ios, B, g, g', τ, P, so, R, e => by
    refine back_call (ms := ms) (xs := xs) (vs := vs) (ios := ios) ?_ so R (by cases x <;> exact e)
    cases x with
    | tmp w => exact P
    | pth i st => exact P.2
  | .io :: ms, .tmp w :: xs, v :: vs, [], B, g, g', τ, P, so, R, e => by cases e
  | .io :: ms, .tmp w :: xs, v :: vs, z :: ios, B, g, g', τ, P, so, R, e => back_call (ms := ms) (xs := xs) (vs := vs) (ios := ios) P so R.tail e
  | .io :: ms, .pth i (a :: b) :: xs, v :: vs, [], B, g, g', τ, P, so, R, e => by cases e
  | .io :: ms, .pth i [] :: xs, v :: vs, [], B, g, g', τ, P, so, R, e => by cases e
  | .io :: ms, .pth i (a :: b) :: xs, v :: vs, z :: ios, B, g, g', τ, P, so, R, e => by cases e
  | .io :: ms, .pth i [] :: xs, v :: vs, z :: ios, B, g, g', τ, P, so, R, e => by
    obtain ⟨⟨v0, e0, ev⟩, P2⟩ := P
    have ev : v0 = v := ev
    subst ev
    have e : putC ms xs ios (g.set i (some z)) = some g' := e
    by_cases hi : i < g.length
    · refine back_call (ms := ms) (xs := xs) (vs := vs) (ios := ios) P2 (so.setW e0) ?_ e
      have p := so.put (i := i) (w := z) (v := v0) hi
      rw [set_self e0] at p
      have R : Rp K Kp B H' ((z, v0) :: (ioEs ms ios vs ++ (slotEs g σ ++ τ))) := R
      by_cases hn : ∃ w0, g[i]? = some (some w0)
      · obtain ⟨w0, e1⟩ := hn
        have R2 : Rp K Kp B H' ((w0, v0) :: ((z, v0) :: (ioEs ms ios vs ++ (slotEs (g.set i none) σ ++ τ)))) := R.perm (by
          refine (List.Perm.cons _ (List.Perm.append_left _ ((so.take e1 e0).append_right τ))).trans ?_
          refine (List.Perm.cons _ List.perm_middle).trans ?_
          exact List.Perm.swap _ _ _)
        refine R2.tail.perm ?_
        refine List.perm_middle.symm.trans (List.Perm.append_left _ ?_)
        exact p.append_right τ
      · have en : g[i]? = some none := by
          cases q : g[i]? with
          | none => exact absurd (List.getElem?_eq_none_iff.mp q) (by omega)
          | some o =>
            cases o with
            | none => rfl
            | some w0 => exact absurd ⟨w0, q⟩ hn
        rw [set_self en] at p
        refine R.perm (List.perm_middle.symm.trans (List.Perm.append_left _ ?_))
        exact p.append_right τ
    · have es : g.set i (some z) = g := List.set_eq_of_length_le (by omega)
      rw [es] at e
      exact back_call (ms := ms) (xs := xs) (vs := vs) (ios := ios) P2 so R.tail e
end
end PF
end

section
set_option Elab.async false
set_option linter.all false
set_option maxRecDepth 100000
set_option maxHeartbeats 1000000
namespace PF
open PySem PySem.Spec PyProof.Rows L2

/-! ### the text and the little language -/
structure Sc where
  N : List Str
  sc : Scope
  io : List Nat
  fns : List (Str × Nat × List Mode)
  nums : List (Str × Int)
  free : List Str
  sto : List Str
def notStar : Expr → Bool
  | .Starred .. => false
  | _ => true
def notComp : Expr → Bool
  | .ListComp .. | .SetComp .. | .DictComp .. => false
  | _ => true
def notSlice : Expr → Bool
  | .Slice .. => false
  | _ => true
def notSet : Expr → Bool
  | .Set .. => false
  | _ => true
def plainBase : Expr → Bool
  | .Call .. => false
  | _ => true
def tupTarget : Expr → Bool
  | .Tuple .. => true
  | _ => false
def visS (S : Sc) (x : Str) (i : Nat) : Bool :=
  decide (S.N[i]? = some x) && (match S.sc.names.lookup x with | some .local | some .cell | some .free => true | _ => false) && !(x == ("__debug__" : Str)) && !(x == ("__classdict__" : Str))
def glS (S : Sc) (x : Str) : Bool := decide (S.sc.names.lookup x = some .globalImplicit) && !(x == ("__debug__" : Str))
def bltS (S : Sc) (x : Str) : Bool := glS S x && decide (x ∈ S.free) && decide (x ≠ ("__name__" : Str))
def Bf.name : Bf → Str
  | .ptuple_ | .tuple_ => "tuple" | .len => "len" | .abs => "abs" | .min2 | .min1 => "min" | .max2 | .max1 => "max" | .sum => "sum" | .sorted => "sorted" | .all_ => "all" | .any_ => "any" | .int_ => "int" | .list_ | .lrange => "list" | .dict_ => "dict"
def mT (S : Sc) : IT → Expr → Bool
  | .nm i, .Name x _ => decide (S.N[i]? = some x) && decide (x ∈ S.sto) && decide (i ∉ S.io)
  | .nil, .Tuple [] _ _ => true
  | .cons t r, .Tuple (e :: es) k p => notStar e && mT S t e && mT S r (.Tuple es k p)
  | _, _ => false
def mTy (S : Sc) : List Ty → List Expr → Bool
  | [], [] => true
  | t :: ts, .Name x _ :: es => bltS S x && decide (x = Str.ofString t.py) && mTy S ts es
  | _, _ => false
mutual
def mE (S : Sc) : IE → Expr → Bool
  | .var i, .Name x _ => visS S x i
  | .cst .non, .Constant .none _ _ => true
  | .cst (.bl b), .Constant (.bool c) _ _ => b == c
  | .cst (.int i), .Constant (.int j) _ _ => decide (i = j)
  | .cst (.str x), .Constant (.str y) _ _ => decide (x = y)
  | .glo x i, .Name y _ => decide (x = y) && glS S y && decide ((y, i) ∈ S.nums)
  | .un .neg a, .UnaryOp .USub e _ => mE S a e
  | .un .not a, .UnaryOp .Not e _ => mE S a e
  | .bin o a b, .BinOp l op r _ => decide (op = o.py) && mE S a l && mE S b r
  | .cmp o a b, .Compare l [op] [r] _ => decide (op = o.py) && notSet r && mE S a l && mE S b r
  | .chn o o' a b c, .Compare l [op, op'] [r, r'] _ => decide (op = o.py) && decide (op' = o'.py) && notSet r' && mE S a l && mE S b r && mE S c r'
  | .and a b, .BoolOp .And [x, y] _ => mE S a x && mE S b y
  | .and a b, .BoolOp .And (x :: y :: z :: r) p => mE S a x && mE S b (.BoolOp .And (y :: z :: r) p)
  | .or a b, .BoolOp .Or [x, y] _ => mE S a x && mE S b y
  | .or a b, .BoolOp .Or (x :: y :: z :: r) p => mE S a x && mE S b (.BoolOp .Or (y :: z :: r) p)
  | .ite c a b, .IfExp t x y _ => mE S c t && mE S a x && mE S b y
  | .idx a i, .Subscript x y _ => notSlice y && mE S a x && mE S i y
  | .slc a lo hi, .Subscript x (.Slice l u none _) _ => mE S a x && mO S lo l && mO S hi u
  | .tup _ es, .Tuple xs _ _ => mL S es xs
  | .lst _ es, .List xs _ => mL S es xs
  | .dic _, .Dict [] [] _ => true
  | .call f ms es, .Call (.Name x _) (y :: ys) [] _ => glS S x && decide ((x, f, ms) ∈ S.fns) && mL S es (y :: ys)
  | .bf .lrange (.cons e .nil), .Call (.Name x _) [.Call (.Name y _) [z] [] _] [] _ => decide (x = ("list" : Str)) && bltS S x && decide (y = ("range" : Str)) && bltS S y && notStar z && mE S e z
  | .bf .lrange _, _ => false
  | .bf b es, .Call (.Name x _) (y :: ys) [] _ => decide (x = b.name) && bltS S x && mL S es (y :: ys)
  | .isi a [t] true, .Call (.Name x _) [y, .Name z _] [] _ => decide (x = ("isinstance" : Str)) && bltS S x && notStar y && mE S a y && mTy S [t] [.Name z ⟨0, 0, 0, 0⟩]
  | .isi a ts false, .Call (.Name x _) [y, .Tuple zs _ _] [] _ => decide (x = ("isinstance" : Str)) && bltS S x && notStar y && mE S a y && decide (ts.length ≤ 100) && mTy S ts zs
  | .get a k d, .Call (.Attribute x m ap) [y, z] [] cp => decide (m = ("get" : Str)) && plainBase x && (ap.endLine == cp.line) && notStar y && notStar z && mE S a x && mE S k y && mE S d z
  | .app _ a e, .Call (.Attribute x m ap) [y] [] cp => decide (m = ("append" : Str)) && plainBase x && (ap.endLine == cp.line) && notStar y && mE S a x && mE S e y
  | .ext a e, .Call (.Attribute x m ap) [y] [] cp => decide (m = ("extend" : Str)) && plainBase x && (ap.endLine == cp.line) && notStar y && mE S a x && mE S e y
  | .popL a, .Call (.Attribute x m ap) [] [] cp => decide (m = ("pop" : Str)) && plainBase x && (ap.endLine == cp.line) && mE S a x
  | .popA a i, .Call (.Attribute x m ap) [y] [] cp => decide (m = ("pop" : Str)) && plainBase x && (ap.endLine == cp.line) && notStar y && mE S a x && mE S i y
  | .comp ow t it cs _ e, .ListComp elt [⟨tg, iter, ifs, 0⟩] scope _ =>
    let own := ow.map fun i => (S.N.getD i ⟨#[]⟩, i)
    let S' : Sc := { S with sc := relS scope S.sc, sto := (own.map (·.1)).filter fun x => (match scope.names.lookup x with | some .local | some .cell => true | _ => false) && (match (relS scope S.sc).names.lookup x with | some .local | some .cell => true | _ => false), io := [] }
    blkC S.N S.sc scope own && decide ow.Nodup && notSet iter && mI S it tg iter && mT S' t tg && mC S' cs ifs && mE S' e elt
  | _, _ => false
def mL (S : Sc) : IL → List Expr → Bool
  | .nil, [] => true
  | .cons a r, e :: es => notStar e && mE S a e && mL S r es
  | _, _ => false
def mO (S : Sc) : IL → Option Expr → Bool
  | .nil, none => true
  | .cons a .nil, some e => mE S a e
  | _, _ => false
def mC (S : Sc) : IL → List Expr → Bool
  | .nil, [] => true
  | .cons a .nil, [e] => mE S a e
  | _, _ => false
def mI (S : Sc) : II → Expr → Expr → Bool
  | .val a, _, e => mE S a e
  | .rng1 a, _, .Call (.Name x _) [y] [] _ => decide (x = ("range" : Str)) && bltS S x && notStar y && mE S a y
  | .rng2 a b, _, .Call (.Name x _) [y, z] [] _ => decide (x = ("range" : Str)) && bltS S x && notStar y && notStar z && mE S a y && mE S b z
  | .enu a, tg, .Call (.Name x _) [y] [] _ => tupTarget tg && decide (x = ("enumerate" : Str)) && bltS S x && notStar y && mE S a y
  | .zip a b, tg, .Call (.Name x _) [y, z] [] _ => tupTarget tg && decide (x = ("zip" : Str)) && bltS S x && notStar y && notStar z && mE S a y && mE S b z
  | _, _, _ => false
end

/-! ### what the context must give -/
def spC (K : PySem.W.Frag) (F : Nat → List W → Option (W × List W)) (f : Nat) (ms : List Mode) : Sp := fun vs H Q _ => ∃ Kp B ws r ios, ws.length = vs.length ∧ ms.length = vs.length ∧ Rp K Kp B H (ws.zip vs) ∧ F f ws = some (r, ios) ∧
  ∀ v H' B', Ext Kp B B' → Rp K Kp B' H' ((r, v) :: ioEs ms ios vs) → Q v H'
structure FnIs (X : Cx) (F : Nat → List W → Option (W × List W)) (x : Str) (f : Nat) (ms : List Mode) : Prop where
  ok : ∃ k fa fd ps, FnOk X.prog X.w X.K X.mg X.base CX0 k fa fd ps (spC X.K F f ms) ∧ Room k X.A ∧ X.mg x = some (.ref fa) ∧ PySem.W.keepIn X.K (.ref fa) = true ∧ Binds X.K fd ps []
structure Good (X : Cx) (S : Sc) (F : Nat → List W → Option (W × List W)) : Prop where
  N : X.N = S.N
  nd : S.N.Nodup
  sc : X.env.scope = S.sc
  calm : X.calm = true
  units : X.A.units + 65 < cLine
  xe : X.xe = fun _ _ => False
  nums : ∀ x i, (x, i) ∈ S.nums → ∃ t, X.mg x = some (.int i t)
  free : ∀ x, x ∈ S.free → X.mg x = none
  fns : ∀ x f ms, (x, f, ms) ∈ S.fns → FnIs X F x f ms
  sto : ∀ x, x ∈ S.sto → Loc X.env.scope x ∧ (X.fn x = true ∨ X.env.scope.names.lookup x = some .local)
section
variable {X : Cx} {S : Sc} {F : Nat → List W → Option (W × List W)} {x : Str}
theorem Good.vis {i : Nat} (G : Good X S F) (h : visS S x i = true) : X.N[i]? = some x ∧ Vis X.env.scope x ∧ (x == ("__debug__" : Str)) = false ∧ (x == ("__classdict__" : Str)) = false := by
  unfold visS at h
  simp only [Bool.and_eq_true, decide_eq_true_eq, Bool.not_eq_true'] at h
  obtain ⟨⟨⟨h1, h2⟩, h3⟩, h4⟩ := h
  refine ⟨by rw [G.N]; exact h1, ?_, h3, h4⟩
  rw [G.sc]
  unfold Vis
  split at h2 <;> first | (rename_i e; rw [e]; simp) | cases h2
theorem Good.gl (G : Good X S F) (h : glS S x = true) : Gl X x ∧ (x == ("__debug__" : Str)) = false := by
  unfold glS at h
  simp only [Bool.and_eq_true, decide_eq_true_eq, Bool.not_eq_true'] at h
  refine ⟨?_, h.2⟩
  show X.env.scope.names.lookup x = some .globalImplicit
  rw [G.sc]
  exact h.1
theorem Good.blt (G : Good X S F) (h : bltS S x = true) : Gl X x ∧ (x == ("__debug__" : Str)) = false ∧ X.mg x = none ∧ x ≠ ("__name__" : Str) := by
  unfold bltS at h
  simp only [Bool.and_eq_true, decide_eq_true_eq] at h
  obtain ⟨⟨h1, h2⟩, h3⟩ := h
  obtain ⟨a, b⟩ := G.gl h1
  exact ⟨a, b, G.free _ h2, h3⟩
theorem star_of {e : Expr} {es : List Expr} {env : PySem.Env} (h : notStar e = true) : starEach (e :: es) env = (false, eval e env) :: starEach es env := by
  cases e <;> first | rfl | cases h
theorem mL_star {il : IL} : ∀ {es : List Expr}, mL S il es = true → ∀ e ∈ es, notStar e = true := by
  intro es h e he
  induction es generalizing il with
  | nil => cases he
  | cons a es ih =>
    cases il with
    | nil => cases h
    | cons b r =>
      have h : (notStar a && mE S b a && mL S r es) = true := h
      simp only [Bool.and_eq_true] at h
      rcases List.mem_cons.mp he with rfl | he
      · exact h.1.1
      · exact ih h.2 he
theorem plain_of {env : PySem.Env} {pos : Pos} : ∀ {es : List Expr}, (∀ e ∈ es, notStar e = true) → (backTo pos (starEach es env)).any (·.1) = false
  | [], _ => rfl
  | e :: es, h => by
    rw [star_of (h e List.mem_cons_self)]
    show (false || (backTo pos (starEach es env)).any (·.1)) = false
    rw [plain_of fun a ha => h a (List.mem_cons_of_mem _ ha)]
    rfl
theorem base_of {o : Expr} {m : Str} {env : PySem.Env} {wh : Sem Value} (h : plainBase o = true) : attributeBase o m env wh = wh := by
  cases o <;> first | rfl | cases h
theorem slice_of {b : Expr} (h : notSlice b = true) : PlainIx b := by
  intro o i
  cases b <;> first | rfl | cases h
theorem mark_of {b : Expr} {op : CmpOp} (h : notSet b = true) : behindInMarks op b = false := by
  cases b <;> first | rfl | cases h
theorem fold_of {b : Expr} {env : PySem.Env} (h : notSet b = true) (x : Value) : foldedSetIterable b env x = pure x := by
  cases b <;> first | rfl | cases h
theorem few1 {e : Expr} {env : PySem.Env} {cp : Pos} (h : notStar e = true) : ((backTo cp (starEach [e] env)).all (fun x => !x.1) && (backToKw cp (keywordEach [] env)).all (fun x => x.1.isSome)
    && decide (([e] : List Expr).length + ([] : List Keyword).length + (if ([] : List Keyword).isEmpty then 0 else 1) < 30)) = true := by
  rw [star_of h]
  rfl
theorem few2 {e f : Expr} {env : PySem.Env} {cp : Pos} (h : notStar e = true) (h' : notStar f = true) : ((backTo cp (starEach [e, f] env)).all (fun x => !x.1) && (backToKw cp (keywordEach [] env)).all (fun x => x.1.isSome)
    && decide (([e, f] : List Expr).length + ([] : List Keyword).length + (if ([] : List Keyword).isEmpty then 0 else 1) < 30)) = true := by
  rw [star_of h, star_of h']
  rfl
end
end PF
end

section
set_option Elab.async false
set_option linter.all false
set_option maxRecDepth 100000
set_option maxHeartbeats 1000000
namespace PF
open PySem PySem.Spec PyProof.Rows L2

section
variable {K : PySem.W.Frag} {Kp B B' H H' : Hp} {g g' g1 g2 : Gam} {σ : Sig} {τ : List Ent} {x y : Arg} {xs ys : List Arg} {v u : V} {vs us : List V}
theorem Post.trans {pa pb : Bool} {H1 B1 H2 B2 : Hp} (p1 : Post Kp B H pa H1 B1) (p2 : Post Kp B1 H1 pb H2 B2) : Post Kp B H (pa && pb) H2 B2 :=
  ⟨p1.1.trans p2.1, fun h => by
    rw [Bool.and_eq_true] at h
    exact (p1.2 h.1).trans (p2.2 h.2)⟩
theorem Post.weak {pa pb : Bool} {H1 B1 : Hp} (p1 : Post Kp B H pa H1 B1) (h : pb = true → pa = true) : Post Kp B H pb H1 B1 := ⟨p1.1, fun q => p1.2 (h q)⟩
theorem or_dec {a : Arg} {pb : Bool} {H1 H2 B1 B2 : Hp} (s : (a.simple || pb) = true) (p : Post Kp B1 H1 pb H2 B2) : a.simple = true ∨ Same H1 H2 := by
  rw [Bool.or_eq_true] at s
  exact s.imp_right p.2
theorem two_ok {pa pb : Bool} {fa fb : Gam → Option (Arg × Gam)} {R : V → V → Hp → Prop} (S : Stt K Kp B H g σ τ) (e1 : fa g = some (x, g1)) (e2 : fb g1 = some (y, g2)) (st : (x.simple || pb) = true)
    (k : ∀ v1 v2 H2 B2, Post Kp B H (pa && pb) H2 B2 → Got K Kp B2 H2 g2 σ τ [x, y] [v1, v2] → R v1 v2 H2) : tE K pa fa σ H (fun v1 H1 => tE K pb fb σ H1 (fun v2 H2 => R v1 v2 H2)) :=
  ⟨Kp, B, g, τ, x, g1, S, e1, fun v1 H1 B1 p1 G1 => ⟨Kp, B1, g1, _, y, g2, G1.st, e2, fun v2 H2 B2 p2 G2 => k v1 v2 H2 B2 (p1.trans p2) (G1.cons (or_dec st p2) G2)⟩⟩
theorem paired_map {α β γ : Type} {R : β → γ → Prop} {f : α → β} : ∀ {l : List α} {m : List γ}, Paired (fun a c => R (f a) c) l m → Paired R (l.map f) m
  | _, _, .nil => .nil
  | _, _, .cons h t => .cons h (paired_map t)
/-- from arguments to a result -/
theorem Got.fin {ws : List W} {d : D} {z : Arg} {Q : VK} (G : Got K Kp B H g σ τ xs vs) (e : resL g xs = some ws) (f : PF.fin ws d = some z) (k : ∀ v H' B', Ext Kp B B' → Same H H' → Got K Kp B' H' g σ τ [z] [v] → Q v H') :
    ∃ Bx, Same Bx H ∧ Paired (RepT K Bx H) (ws.map W.toD) vs ∧ Fin K Bx H d Q := by
  have R := G.reps e
  unfold PF.fin at f
  split at f
  · rename_i c
    cases f
    have F := G.st.drop.fin k
    rw [Bool.or_eq_true] at c
    by_cases a : d.isAtom = true
    · refine ⟨H, Same.refl _, paired_map (Paired.mapP R fun w v ⟨fp, h, _⟩ => h.at_H G.st.2.sb), F.atom a⟩
    · have al : ws.all W.flat = true := c.resolve_left a
      refine ⟨B, G.st.2.sb, paired_map ?_, F⟩
      have go : ∀ {ws : List W} {vs : List V}, ws.all W.flat = true → Paired (fun w v => ∃ fp, RepW K B H w v fp ∧ ∀ a ∈ fp, B a = none ∧ Kp a = none) ws vs → Paired (fun w v => RepT K B H w.toD v) ws vs := by
        intro ws vs al R
        induction R with
        | nil => exact .nil
        | cons h t ih =>
          rw [List.all_cons, Bool.and_eq_true] at al
          obtain ⟨fp, h, _⟩ := h
          exact .cons (h.flat G.st.2.sb al.1) (ih al.2)
      exact go al R
  · cases f
/-- a scalar, seen as it stands -/
theorem Got.now {w : W} (G : Got K Kp B H g σ τ (x :: xs) (v :: vs)) (e : res g x = some w) : RepT K H H w.toD v := by
  obtain ⟨fp, h, _⟩ := G.rep1 e
  exact h.at_H G.st.2.sb
/-- a leaf is got -/
theorem Stt.leaf {d : D} (S : Stt K Kp B H g σ τ) (h : RepD K B d v) : Got K Kp B H g σ τ [.tmp (.fz d)] [v] := ⟨True.intro, S.1, (S.2.leaf h).perm List.perm_middle.symm⟩
end

theorem unD_neg {d r : D} (e : unD .neg d = some r) : ∃ i, d = .int i ∧ r = .int (-i) := by
  cases d <;> first | (cases e; exact ⟨_, rfl, rfl⟩) | cases e
theorem unD_not {d r : D} (e : unD .not d = some r) : ∃ i, d = .bl i ∧ r = .bl (!i) := by
  cases d <;> first | (cases e; exact ⟨_, rfl, rfl⟩) | cases e
def SE (X : Cx) (F : Nat → List W → Option (W × List W)) (ie : IE) (e : Expr) : Prop := PE X e (tE X.K (pureE ie) (evE F ie))
def STt (X : Cx) (F : Nat → List W → Option (W × List W)) (ie : IE) (e : Expr) : Prop := PT X e (tTT X.K (evT F ie))
section
variable {X : Cx} {S : Sc} {F : Nat → List W → Option (W × List W)} {a b c i : IE} {ea eb ec : Expr} {pos : Pos} {il : IL} {es : List Expr}
theorem se_var {n : Nat} {x : Str} (G : Good X S F) (h : visS S x n = true) : SE X F (.var n) (.Name x pos) := by
  obtain ⟨h1, h2, h3, h4⟩ := G.vis h
  refine PE_imp (pe_var h1 h2 h3 h4) fun σ H Q ⟨Kp, B, g, τ, z, g', S, e, k⟩ => ?_
  have e : (match g[n]? with | some (some _) => some (Arg.pth n [], g) | _ => none) = some (z, g') := e
  cases q : g[n]? with
  | none => rw [q] at e; cases e
  | some o =>
    cases o with
    | none => rw [q] at e; cases e
    | some w =>
      rw [q] at e
      cases e
      obtain ⟨v, hv⟩ := S.1.get q
      exact ⟨v, hv, k v H B .refl ⟨⟨⟨v, hv, rfl⟩, True.intro⟩, S⟩⟩
theorem se_cst {d : D} {e : Expr} {v : V} (h : PE X e (tC v)) (r : ∀ B, RepD X.K B d v) : SE X F (.cst d) e :=
  PE_imp h fun σ H Q ⟨Kp, B, g, τ, z, g', S, e, k⟩ => by
    cases e
    exact k v H B .refl (S.leaf (r B))
theorem se_glo {x : Str} {n : Int} (G : Good X S F) (h1 : glS S x = true) (h2 : (x, n) ∈ S.nums) : SE X F (.glo x n) (.Name x pos) := by
  obtain ⟨t, hm⟩ := G.nums _ _ h2
  refine PE_imp (pe_glob (v := .int n) (G.gl h1).1 hm ⟨t, rfl⟩ (G.gl h1).2) fun σ H Q ⟨Kp, B, g, τ, z, g', S, e, k⟩ => ?_
  cases e
  exact k (.int n) H B .refl (S.leaf (d := .int n) rfl)
theorem se_neg (ha : SE X F a ea) : SE X F (.un .neg a) (.UnaryOp .USub ea pos) := by
  refine PE_imp (pe_un opr_neg ha) fun σ H Q ⟨Kp, B, g, τ, z, g', S, e, k⟩ => ?_
  simp only [evE, Option.bind_eq_bind, Option.bind_eq_some_iff, Prod.exists] at e
  obtain ⟨x, g1, e1, w, e2, d, e3, e4⟩ := e
  cases e4
  refine ⟨Kp, B, g, τ, x, g', S, e1, fun v H1 B1 p1 G1 => ?_⟩
  obtain ⟨n, hd, e4⟩ := unD_neg e3
  subst e4
  have h := G1.now e2
  rw [hd] at h
  refine ⟨.int n, .int (-n), h, rfl, Fin.atom rfl (Stt.fin (d := .int (-n)) (G1.st.drop (τ := τ)) fun v' H' B' x' s' G' => k v' H' B' ⟨p1.1.trans x', fun pu => (p1.2 pu).trans s'⟩ G')⟩
theorem se_not (ha : SE X F a ea) : SE X F (.un .not a) (.UnaryOp .Not ea pos) := by
  refine PE_imp (pe_not ha) fun σ H Q ⟨Kp, B, g, τ, z, g', S, e, k⟩ => ?_
  simp only [evE, Option.bind_eq_bind, Option.bind_eq_some_iff, Prod.exists] at e
  obtain ⟨x, g1, e1, w, e2, d, e3, e4⟩ := e
  cases e4
  refine ⟨Kp, B, g, τ, x, g', S, e1, fun v H1 B1 p1 G1 => ?_⟩
  obtain ⟨n, hd, e4⟩ := unD_not e3
  subst e4
  have h := G1.now e2
  rw [hd] at h
  exact ⟨n, h, k (.bl (!n)) H1 B1 p1 (G1.st.drop.leaf (d := .bl (!n)) rfl)⟩
theorem se_bin {o : BOp} (ha : SE X F a ea) (hb : SE X F b eb) : SE X F (.bin o a b) (.BinOp ea o.py eb pos) := by
  refine PE_imp (pe_op (opr_bin o) ha hb) fun σ H Q ⟨Kp, B, g, τ, z, g', S, e, k⟩ => ?_
  simp only [evE, Option.bind_eq_bind, Option.bind_eq_some_iff, Prod.exists, Option.ite_none_right_eq_some] at e
  obtain ⟨x, g1, e1, y, g2, e2, st, wx, e3, wy, e4, d, e5, z', e6, e7⟩ := e
  cases e7
  refine two_ok S e1 e2 st fun v1 v2 H2 B2 p2 G2 => ?_
  obtain ⟨Bx, sb, R, fn⟩ := G2.fin (ws := [wx, wy]) (by simp [resL, e3, e4]) e6 (fun v H' B' x' s' G' => k v H' B' ⟨p2.1.trans x', fun pu => (p2.2 pu).trans s'⟩ G')
  obtain ⟨_, _, e8, r1, r2⟩ := paired2 R
  cases e8
  exact ⟨Bx, _, _, d, sb, r1, r2, e5, fn⟩
theorem cmp_core {o : COp} {σ : Sig} {H : Hp} {Kp B : Hp} {g g1 g2 : Gam} {τ : List Ent} {x y : Arg} {wx wy : W} {c : Bool} {Q : VK} (S : Stt X.K Kp B H g σ τ) (e1 : evE F a g = some (x, g1)) (e2 : evE F b g1 = some (y, g2)) (st : (x.simple || pureE b) = true)
    (e3 : res g2 x = some wx) (e4 : res g2 y = some wy) (e5 : cmpD o wx.toD wy.toD = some c)
    (k : ∀ H' B', Post Kp B H (pureE a && pureE b) H' B' → Stt X.K Kp B' H' g2 σ τ → Q (.bl c) H') : tOp (rC X.K (cmpD o)) (tE X.K (pureE a) (evE F a)) (tE X.K (pureE b) (evE F b)) σ H Q := by
  refine two_ok S e1 e2 st fun v1 v2 H2 B2 p2 G2 => ?_
  exact ⟨H2, _, _, c, Same.refl _, G2.now e3, (G2.tail).now e4, e5, k H2 B2 p2 G2.st.drop⟩
theorem se_cmp {o : COp} (G : Good X S F) (ha : SE X F a ea) (hb : SE X F b eb) (hs : notSet eb = true) : SE X F (.cmp o a b) (.Compare ea [o.py] [eb] pos) := by
  refine PE_imp (pe_cmpR (opr_cmp G.units o) ha hb (mark_of hs)) fun σ H Q ⟨Kp, B, g, τ, z, g', S, e, k⟩ => ?_
  simp only [evE, Option.bind_eq_bind, Option.bind_eq_some_iff, Prod.exists, Option.ite_none_right_eq_some] at e
  obtain ⟨x, g1, e1, y, g2, e2, st, wx, e3, wy, e4, c, e5, e6⟩ := e
  cases e6
  exact cmp_core S e1 e2 st e3 e4 e5 fun H' B' p' S' => k (.bl c) H' B' p' (S'.leaf (d := .bl c) rfl)
theorem st_cmp {o : COp} (G : Good X S F) (ha : SE X F a ea) (hb : SE X F b eb) (hs : notSet eb = true) : STt X F (.cmp o a b) (.Compare ea [o.py] [eb] pos) := by
  refine PT_imp (pt_cmpR (opr_cmp G.units o) ha hb (mark_of hs)) fun σ H Q ⟨Kp, B, g, τ, z, g', S, e, k⟩ => ?_
  simp only [evT, Option.bind_eq_bind, Option.bind_eq_some_iff, Prod.exists, Option.ite_none_right_eq_some] at e
  obtain ⟨x, g1, e1, y, g2, e2, st, wx, e3, wy, e4, c, e5, e6⟩ := e
  cases e6
  exact cmp_core (Q := fun x H' => ∃ k, x = .bl k ∧ Q k H') S e1 e2 st e3 e4 e5 fun H' B' p' S' => ⟨_, rfl, k H' B' p'.1 S'⟩
theorem chn_core {o o' : COp} {σ : Sig} {H : Hp} {Kp B : Hp} {g g1 g2 : Gam} {τ : List Ent} {x y : Arg} {wx wy : W} {q : Bool} {Q : VK} (S : Stt X.K Kp B H g σ τ) (e1 : evE F a g = some (x, g1)) (e2 : evE F b g1 = some (y, g2)) (st : (x.simple && y.simple) = true)
    (e3 : res g2 x = some wx) (e4 : res g2 y = some wy) (e5 : cmpD o wx.toD wy.toD = some q)
    (kf : q = false → ∀ H' B', Ext Kp B B' → Stt X.K Kp B' H' g2 σ τ → Q (.bl false) H')
    (kt : q = true → ∃ z g3 wy' wz q', evE F c g2 = some (z, g3) ∧ res g3 y = some wy' ∧ res g3 z = some wz ∧ cmpD o' wy'.toD wz.toD = some q' ∧ ∀ H' B', Ext Kp B B' → Stt X.K Kp B' H' g3 σ τ → Q (.bl q') H') :
    tChain (rC X.K (cmpD o)) (rC X.K (cmpD o')) (tE X.K (pureE a) (evE F a)) (tE X.K (pureE b) (evE F b)) (tE X.K (pureE c) (evE F c)) σ H Q := by
  rw [Bool.and_eq_true] at st
  refine two_ok S e1 e2 (by rw [st.1]; rfl) fun v1 v2 H2 B2 p2 G2 => ?_
  refine ⟨H2, _, _, q, Same.refl _, G2.now e3, (G2.tail).now e4, e5, q, rfl, ?_⟩
  cases q with
  | false =>
    rw [if_neg (by simp)]
    exact kf rfl H2 B2 p2.1 G2.st.drop
  | true =>
    rw [if_pos rfl]
    obtain ⟨z, g3, wy', wz, q', f1, f2, f3, f4, k⟩ := kt rfl
    have Gy := G2.tail
    refine ⟨Kp, B2, g2, _, z, g3, Gy.st, f1, fun v3 H3 B3 p3 G3 => ?_⟩
    have G := Got.cons (x := y) (v := v2) ⟨Gy.pth, Gy.st⟩ (.inl st.2) G3
    exact ⟨H3, _, _, q', Same.refl _, G.now f2, (G.tail).now f3, f4, k H3 B3 (p2.1.trans p3.1) (Stt.drop (τ' := tmps [x] [v1]) G.st.drop)⟩
end
end PF
end

section
set_option Elab.async false
set_option linter.all false
set_option maxRecDepth 100000
set_option maxHeartbeats 1000000
namespace PF
open PySem PySem.Spec PyProof.Rows L2

def SW (X : Cx) (F : Nat → List W → Option (W × List W)) (ie : IE) (e : Expr) : Prop := PW X e (tTT X.K (evT F ie))
theorem marks2 {op op' : CmpOp} {b c : Expr} (h : notSet c = true) : lastMarks [op, op'] [b, c] = false := mark_of (op := op') h
section
variable {K : PySem.W.Frag} {Kp B B' H H' : Hp} {g g' g1 g2 : Gam} {σ : Sig} {τ : List Ent} {x y : Arg} {xs ys : List Arg} {v u : V} {vs us : List V}
theorem Post.io (x : Ext Kp B B') : Post Kp B H false H' B' := ⟨x, fun h => by cases h⟩
theorem Got.atom {d : D} (G : Got K Kp B H g σ τ (x :: xs) (v :: vs)) (e : res g x = some (.fz d)) : RepT K H H d v := G.now e
theorem boolA_v {c : Bool} (G : Got K Kp B H g σ τ (x :: xs) (v :: vs)) (e : boolA g x = some c) : v = .bl c := by
  unfold boolA at e
  split at e
  · rename_i q
    cases e
    exact G.now q
  · cases e
end
section
variable {X : Cx} {S : Sc} {F : Nat → List W → Option (W × List W)} {a b c i : IE} {ea eb ec : Expr} {pos : Pos} {il : IL} {es : List Expr}
theorem se_chn {o o' : COp} (G : Good X S F) (ha : SE X F a ea) (hb : SE X F b eb) (hc : SE X F c ec) (hs : notSet ec = true) : SE X F (.chn o o' a b c) (.Compare ea [o.py, o'.py] [eb, ec] pos) := by
  refine PE_imp (pe_chain (opr_cmp G.units o) (opr_cmp G.units o') ha hb hc (marks2 hs)) fun σ H Q ⟨Kp, B, g, τ, z, g', S, e, k⟩ => ?_
  simp only [evE, Option.bind_eq_bind, Option.bind_eq_some_iff, Prod.exists, Option.ite_none_right_eq_some] at e
  obtain ⟨x, g1, e1, y, g2, e2, st, wx, e3, wy, e4, q, e5, e6⟩ := e
  refine chn_core S e1 e2 st e3 e4 e5 (fun h H' B' x' S' => ?_) fun h => ?_
  · subst h
    cases e6
    exact k (.bl false) H' B' (.io x') (S'.leaf (d := .bl false) rfl)
  · subst h
    rw [if_pos rfl] at e6
    simp only [Option.bind_eq_some_iff, Prod.exists] at e6
    obtain ⟨z, g3, f1, wy', f2, wz, f3, q', f4, f5⟩ := e6
    cases f5
    exact ⟨z, g', wy', wz, q', f1, f2, f3, f4, fun H' B' x' S' => k (.bl q') H' B' (.io x') (S'.leaf (d := .bl q') rfl)⟩
theorem st_chn {o o' : COp} (G : Good X S F) (ha : SE X F a ea) (hb : SE X F b eb) (hc : SE X F c ec) (hs : notSet ec = true) : STt X F (.chn o o' a b c) (.Compare ea [o.py, o'.py] [eb, ec] pos) := by
  refine PT_imp (pt_chain (opr_cmp G.units o) (opr_cmp G.units o') ha hb hc (marks2 hs)) fun σ H Q ⟨Kp, B, g, τ, z, g', S, e, k⟩ => ?_
  simp only [evT, Option.bind_eq_bind, Option.bind_eq_some_iff, Prod.exists, Option.ite_none_right_eq_some] at e
  obtain ⟨x, g1, e1, y, g2, e2, st, wx, e3, wy, e4, q, e5, e6⟩ := e
  refine chn_core (Q := fun x H' => ∃ k, x = .bl k ∧ Q k H') S e1 e2 st e3 e4 e5 (fun h H' B' x' S' => ?_) fun h => ?_
  · subst h
    cases e6
    exact ⟨_, rfl, k H' B' x' S'⟩
  · subst h
    rw [if_pos rfl] at e6
    simp only [Option.bind_eq_some_iff, Prod.exists] at e6
    obtain ⟨z', g3, f1, wy', f2, wz, f3, q', f4, f5⟩ := e6
    cases f5
    exact ⟨z', g', wy', wz, _, f1, f2, f3, f4, fun H' B' x' S' => ⟨_, rfl, k H' B' x' S'⟩⟩
theorem se_and {x : Expr} {y : Expr} {r : List Expr} (ha : SE X F a x) (hb : SE X F b (.BoolOp .And (y :: r) pos)) : SE X F (.and a b) (.BoolOp .And (x :: y :: r) pos) := by
  refine PE_imp (pe_and ha hb) fun σ H Q ⟨Kp, B, g, τ, z, g', S, e, k⟩ => ?_
  simp only [evE, Option.bind_eq_bind, Option.bind_eq_some_iff, Prod.exists] at e
  obtain ⟨x, g1, e1, q, e2, e3⟩ := e
  refine ⟨Kp, B, g, τ, x, g1, S, e1, fun v H1 B1 p1 G1 => ⟨q, boolA_v G1 e2, ?_⟩⟩
  cases q with
  | true =>
    rw [if_pos rfl] at e3 ⊢
    exact ⟨Kp, B1, g1, τ, z, g', G1.st.drop, e3, fun v2 H2 B2 p2 G2 => k v2 H2 B2 (.io (p1.1.trans p2.1)) G2⟩
  | false =>
    cases e3
    exact k (.bl false) H1 B1 (.io p1.1) ((G1.st.drop (τ := τ)).leaf (d := .bl false) rfl)
theorem se_or {x : Expr} {y : Expr} {r : List Expr} (ha : SE X F a x) (hb : SE X F b (.BoolOp .Or (y :: r) pos)) : SE X F (.or a b) (.BoolOp .Or (x :: y :: r) pos) := by
  refine PE_imp (pe_or ha hb) fun σ H Q ⟨Kp, B, g, τ, z, g', S, e, k⟩ => ?_
  simp only [evE, Option.bind_eq_bind, Option.bind_eq_some_iff, Prod.exists] at e
  obtain ⟨x, g1, e1, q, e2, e3⟩ := e
  refine ⟨Kp, B, g, τ, x, g1, S, e1, fun v H1 B1 p1 G1 => ⟨q, boolA_v G1 e2, ?_⟩⟩
  cases q with
  | false =>
    exact ⟨Kp, B1, g1, τ, z, g', G1.st.drop, e3, fun v2 H2 B2 p2 G2 => k v2 H2 B2 (.io (p1.1.trans p2.1)) G2⟩
  | true =>
    cases e3
    exact k (.bl true) H1 B1 (.io p1.1) ((G1.st.drop (τ := τ)).leaf (d := .bl true) rfl)
theorem sw_and {x : Expr} {y : Expr} {r : List Expr} (ha : STt X F a x) (hb : SW X F b (.BoolOp .And (y :: r) pos)) : SW X F (.and a b) (.BoolOp .And (x :: y :: r) pos) := by
  refine PW_imp (pw_and ha hb) fun σ H Q ⟨Kp, B, g, τ, z, g', S, e, k⟩ => ?_
  simp only [evT, Option.bind_eq_bind, Option.bind_eq_some_iff, Prod.exists] at e
  obtain ⟨q, g1, e1, e3⟩ := e
  refine ⟨Kp, B, g, τ, q, g1, S, e1, fun H1 B1 p1 G1 => ?_⟩
  cases q with
  | true =>
    exact ⟨Kp, B1, g1, τ, z, g', G1, e3, fun H2 B2 p2 G2 => k H2 B2 (p1.trans p2) G2⟩
  | false =>
    cases e3
    exact k H1 B1 p1 G1
theorem sw_or {x : Expr} {y : Expr} {r : List Expr} (ha : STt X F a x) (hb : SW X F b (.BoolOp .Or (y :: r) pos)) : SW X F (.or a b) (.BoolOp .Or (x :: y :: r) pos) := by
  refine PW_imp (pw_or ha hb) fun σ H Q ⟨Kp, B, g, τ, z, g', S, e, k⟩ => ?_
  simp only [evT, Option.bind_eq_bind, Option.bind_eq_some_iff, Prod.exists] at e
  obtain ⟨q, g1, e1, e3⟩ := e
  refine ⟨Kp, B, g, τ, q, g1, S, e1, fun H1 B1 p1 G1 => ?_⟩
  cases q with
  | false =>
    exact ⟨Kp, B1, g1, τ, z, g', G1, e3, fun H2 B2 p2 G2 => k H2 B2 (p1.trans p2) G2⟩
  | true =>
    cases e3
    exact k H1 B1 p1 G1
theorem st_not (ha : STt X F a ea) : STt X F (.un .not a) (.UnaryOp .Not ea pos) := by
  refine PT_imp (pt_not ha) fun σ H Q ⟨Kp, B, g, τ, z, g', S, e, k⟩ => ?_
  simp only [evT, Option.bind_eq_bind, Option.bind_eq_some_iff, Prod.exists] at e
  obtain ⟨q, g1, e1, e3⟩ := e
  cases e3
  exact ⟨Kp, B, g, τ, q, g', S, e1, fun H1 B1 p1 G1 => k H1 B1 p1 G1⟩
/-- a value as a test -/
theorem st_se (h : SE X F a ea) (hv : ∀ g q g', evT F a g = some (q, g') → ∃ x, evE F a g = some (x, g') ∧ res g' x = some (.fz (.bl q))) (he : ∀ whole, isTrue ea X.env whole = (do let v ← whole; standAt ea.pos; holding [v] (truthy v))) : STt X F a ea := by
  refine PT_imp (pt_val h he) fun σ H Q ⟨Kp, B, g, τ, q, g', S, e, k⟩ => ?_
  obtain ⟨x, e1, e2⟩ := hv g q g' e
  exact ⟨Kp, B, g, τ, x, g', S, e1, fun v H1 B1 p1 G1 => ⟨q, G1.now e2, k H1 B1 p1.1 (Stt.drop (τ' := tmps [x] [v]) G1.st)⟩⟩
theorem se_ite (hc : STt X F c ec) (ha : SE X F a ea) (hb : SE X F b eb) : SE X F (.ite c a b) (.IfExp ec ea eb pos) := by
  refine PE_imp (pe_ifExp hc ha hb) fun σ H Q ⟨Kp, B, g, τ, z, g', S, e, k⟩ => ?_
  simp only [evE, Option.bind_eq_bind, Option.bind_eq_some_iff, Prod.exists] at e
  obtain ⟨q, g1, e1, e3⟩ := e
  refine ⟨Kp, B, g, τ, q, g1, S, e1, fun H1 B1 p1 G1 => ?_⟩
  cases q with
  | true => exact ⟨Kp, B1, g1, τ, z, g', G1, e3, fun v H2 B2 p2 G2 => k v H2 B2 (.io (p1.trans p2.1)) G2⟩
  | false => exact ⟨Kp, B1, g1, τ, z, g', G1, e3, fun v H2 B2 p2 G2 => k v H2 B2 (.io (p1.trans p2.1)) G2⟩
end
section
variable {K : PySem.W.Frag} {Kp B B' H H' : Hp} {g g' g1 g2 : Gam} {σ : Sig} {τ : List Ent} {x y : Arg} {xs ys : List Arg} {v u : V} {vs us : List V}
theorem Got.leafAt {d : D} (G : Got K Kp B H g σ τ (x :: xs) (v :: vs)) (e : res g x = some (.fz d)) : RepD K B d v := by
  obtain ⟨fp, h, _⟩ := G.rep1 e
  exact h.2
theorem ixD_fz {a d : D} {w : W} (e : ixD a w.toD = some d) : ∃ d', w = .fz d' := by
  cases w with
  | fz d => exact ⟨d, rfl⟩
  | _ => cases a <;> cases e
theorem RepWs.at {ws : List W} {us : List V} {fp : List Addr} {k : Int} {n : Nat} {w : W} (h : RepWs K B H ws us fp) (e : ixN ws.length k = some n) (e2 : ws[n]? = some w) : ∃ v f, atI us k = some v ∧ us[n]? = some v ∧ RepW K B H w v f := by
  have l := h.ent.1
  obtain ⟨v, f, fr, q1, q2, q3, _⟩ := h.hole e2
  refine ⟨v, f, ?_, q1, q3⟩
  unfold atI
  rw [← l, e]
  exact q1
end
section
variable {X : Cx} {S : Sc} {F : Nat → List W → Option (W × List W)} {a b c i : IE} {ea eb ec : Expr} {pos : Pos} {il : IL} {es : List Expr}
theorem se_idx (G : Good X S F) (ha : SE X F a ea) (hb : SE X F b eb) (hs : notSlice eb = true) : SE X F (.idx a b) (.Subscript ea eb pos) := by
  refine PE_imp (pe_ix ((ixr G.units).or ix_list) ha hb (slice_of hs)) fun σ H Q ⟨Kp, B, g, τ, z, g', S, e, k⟩ => ?_
  simp only [evE, Option.bind_eq_bind, Option.bind_eq_some_iff, Prod.exists, Option.ite_none_right_eq_some] at e
  obtain ⟨x, g1, e1, y, g2, e2, st, wi, e3, z', e4, e5⟩ := e
  cases e5
  refine two_ok S e1 e2 st fun v1 v2 H2 B2 p2 G2 => ?_
  have dr : Stt X.K Kp B2 H2 g' σ τ := G2.st.drop
  have viaD : ∀ (a d : D), RepT X.K B2 H2 a v1 → ixD a wi.toD = some d → z = .tmp (.fz d) → rIxD X.K v1 v2 H2 Q ∨ rIxL X.K v1 v2 H2 Q := fun a d r e ez => by
    subst ez
    obtain ⟨di, ei⟩ := ixD_fz e
    subst ei
    exact .inl ⟨B2, a, di, d, dr.2.sb, r, (G2.tail.leafAt e3).top dr.2.sb, e, fun v h => k v H2 B2 p2 (dr.leaf h)⟩
  cases x with
  | tmp w =>
    have e4 : (if w.flat then (ixD w.toD wi.toD).map fun d => Arg.tmp (.fz d) else none) = some z := e4
    rw [Option.ite_none_right_eq_some, Option.map_eq_some_iff] at e4
    obtain ⟨fl, d, e5, e6⟩ := e4
    obtain ⟨fp, h, _⟩ := G2.rep1 (w := w) rfl
    exact viaD _ d (h.flat dr.2.sb fl) e5 e6.symm
  | pth j sp =>
    unfold idxA at e4
    split at e4
    · rename_i q
      cases q
    · rename_i j' sp' q
      cases q
      split at e4
      · rename_i d0 er
        rw [Option.map_eq_some_iff] at e4
        obtain ⟨d, e5, e6⟩ := e4
        exact viaD _ d ((G2.leafAt er).top dr.2.sb) e5 e6.symm
      · rename_i ws er
        obtain ⟨fp, ⟨p, us, fs, a1, a2, a3, a4⟩, _⟩ := G2.rep1 er
        split at e4
        · rename_i s es'
          cases hwi : wi.toD with
          | int n0 =>
            rw [hwi] at es'
            have es' : (ixN ws.length n0).map Step.ix = some s := es'
            rw [Option.map_eq_some_iff] at es'
            obtain ⟨n, en, es''⟩ := es'
            subst es''
            have hv2 : v2 = .int n0 := by
              have := G2.tail.now e3
              rw [hwi] at this
              exact this
            cases hw : ws[n]? with
            | none =>
              have : (W.lst ws).sub (.ix n) = none := hw
              rw [this] at e4
              cases e4
            | some w1 =>
              have hs1 : (W.lst ws).sub (.ix n) = some w1 := hw
              obtain ⟨v, f, b1, b2, b3⟩ := a4.at en hw
              have fin : Got X.K Kp B2 H2 g' σ τ [z] [v] → rIxD X.K v1 v2 H2 Q ∨ rIxL X.K v1 v2 H2 Q := fun g => .inr ⟨p, us, n0, v, a1, hv2, .inl (.inl a3), b1, k v H2 B2 p2 g⟩
              have pt : ∀ w1' : W, Arg.pth j (sp ++ [.ix n]) = z → Got X.K Kp B2 H2 g' σ τ [z] [v] := fun _ ez => by
                subst ez
                obtain ⟨v0, q1, q2⟩ := G2.pth.1
                exact ⟨⟨⟨v0, q1, q2.snoc a1 a3 b2⟩, True.intro⟩, dr⟩
              rw [hs1] at e4
              cases w1 with
              | fz d =>
                cases e4
                exact fin (dr.leaf b3.2)
              | lst _ => exact fin (pt (.lst []) (by injection e4))
              | dK _ => exact fin (pt (.lst []) (by injection e4))
              | dT _ => exact fin (pt (.lst []) (by injection e4))
          | _ => rw [hwi] at es'; cases es'
        · cases e4
      · rename_i w n1 n2 er
        rw [Option.ite_none_right_eq_some, Option.map_eq_some_iff] at e4
        obtain ⟨fl, d, e5, e6⟩ := e4
        obtain ⟨fp, h, _⟩ := G2.rep1 er
        exact viaD _ d (h.flat dr.2.sb fl) e5 e6.symm
      · cases e4
def SO (X : Cx) (F : Nat → List W → Option (W × List W)) (il : IL) (e : Option Expr) : Prop := PO X e (tOO X.K (evO F il))
theorem so_none : SO X F .nil none := by
  refine PO_imp po_none fun σ H Q ⟨Kp, B, g, τ, z, g', S, e, k⟩ => ?_
  cases e
  exact k H B .refl S
theorem so_some (ha : SE X F a ea) : SO X F (.cons a .nil) (some ea) := by
  refine PO_imp (po_some ha) fun σ H Q ⟨Kp, B, g, τ, z, g', S, e, k⟩ => ?_
  simp only [evO, Option.bind_eq_bind, Option.bind_eq_some_iff, Prod.exists] at e
  obtain ⟨x, g1, e1, e2⟩ := e
  split at e2
  · rename_i n er
    cases e2
    exact ⟨Kp, B, g, τ, x, g', S, e1, fun v H1 B1 p1 G1 => ⟨n, G1.now er, k H1 B1 p1.1 (Stt.drop (τ' := tmps [x] [v]) G1.st)⟩⟩
  · cases e2
theorem se_slc {lo hi : IL} {l h : Option Expr} {p2 : Pos} (ha : SE X F a ea) (hl : SO X F lo l) (hh : SO X F hi h) : SE X F (.slc a lo hi) (.Subscript ea (.Slice l h none p2) pos) := by
  refine PE_imp (pe_slice slr ha hl hh) fun σ H Q ⟨Kp, B, g, τ, z, g', S, e, k⟩ => ?_
  simp only [evE, Option.bind_eq_bind, Option.bind_eq_some_iff, Prod.exists, Option.ite_none_right_eq_some] at e
  obtain ⟨x, g1, e1, st, lo', g2, e2, hi', g3, e3, w, e4, d, e5, z', e6, e7⟩ := e
  cases e7
  refine ⟨Kp, B, g, τ, x, g1, S, e1, fun v H1 B1 p1 G1 => ⟨Kp, B1, g1, _, lo', g2, G1.st, e2, fun H2 B2 x2 S2 => ⟨Kp, B2, g2, _, hi', g', S2, e3, fun H3 B3 x3 S3 => ?_⟩⟩⟩
  have G3 : Got X.K Kp B3 H3 g' σ τ [x] [v] := ⟨PthAll.one (.inl st) G1.pth, S3⟩
  obtain ⟨Bx, sb, R, fn⟩ := G3.fin (ws := [w]) (by simp [resL, e4]) e6 (fun v H' B' x' s' G' => k v H' B' (.io (((p1.1.trans x2).trans x3).trans x')) G')
  obtain ⟨_, e8, r1⟩ := paired1 R
  cases e8
  exact ⟨Bx, _, d, sb, r1, e5, fn⟩
end
end PF
end

section
set_option Elab.async false
set_option linter.all false
set_option maxRecDepth 100000
set_option maxHeartbeats 1000000
namespace PF
open PySem PySem.Spec PyProof.Rows L2

def SA (X : Cx) (F : Nat → List W → Option (W × List W)) (il : IL) (es : List Expr) : Prop := PA X es (tAL X.K (pureL il) (evL F il))
section
variable {X : Cx} {S : Sc} {F : Nat → List W → Option (W × List W)} {a b c i : IE} {ea eb ec : Expr} {pos : Pos} {il : IL} {es : List Expr}
theorem sa_nil : SA X F .nil [] := by
  refine PA_imp pa_nil fun σ H Q ⟨Kp, B, g, τ, z, g', S, e, k⟩ => ?_
  cases e
  exact k [] H B .refl ⟨True.intro, S⟩
theorem sa_cons (hs : notStar ea = true) (ha : SE X F a ea) (hb : SA X F il es) : SA X F (.cons a il) (ea :: es) := by
  refine PA_imp (pa_cons ha hb (star_of hs)) fun σ H Q ⟨Kp, B, g, τ, z, g', S, e, k⟩ => ?_
  simp only [evL, Option.bind_eq_bind, Option.bind_eq_some_iff, Prod.exists, Option.ite_none_right_eq_some] at e
  obtain ⟨x, g1, e1, xs, g2, e2, st, e3⟩ := e
  cases e3
  exact ⟨Kp, B, g, τ, x, g1, S, e1, fun v H1 B1 p1 G1 => ⟨Kp, B1, g1, _, xs, g', G1.st, e2, fun vs H2 B2 p2 G2 => k (v :: vs) H2 B2 (p1.trans p2) (G1.cons (or_dec st p2) G2)⟩⟩
/-- a display of a tuple, laid as what it is -/
def tTupP (t : TA) : TE := fun σ H Q => t σ H fun xs H1 => xs.length ≤ sizeLine ∧ ∀ p o, H1 p = none → o.dict = none → Q (.ref p) (upd H1 p (.frz o (.tup xs)))
theorem pe_tupP {x1} {t : TA} (h : PA X es t) : PE X (.Tuple es x1 pos) (tTupP t) := by
  refine ⟨fun pins s σ H Q I hq => ?_⟩
  refine wpAny_Tuple_spliced (thn (h.run pos pins s σ H _ I hq) fun us s1 ⟨xs, H1, I1, r, z, q⟩ => ⟨by rw [← r.length]; exact z, ?_⟩)
  have hf : H1 s1.heap.objs.size = none := I1.hok.fresh (Nat.le_refl _)
  exact ⟨.ref s1.heap.objs.size, _, plain_laid I1 r z, rfl, q _ _ hf rfl⟩
theorem RepDs.length_le {K : PySem.W.Frag} {B : Hp} {ds : List D} {vs : List V} (h : RepDs K B ds vs) (z : ds.length ≤ sizeLine) : vs.length ≤ sizeLine := by
  rw [← h.len]
  exact z
theorem se_tup {pl : Bool} {kk : Nat} (h : SA X F il es) : SE X F (.tup pl il) (.Tuple es kk pos) := by
  cases pl with
  | false =>
    refine PE_imp (pe_tup h) fun σ H Q ⟨Kp, B, g, τ, z, g', S, e, k⟩ => ?_
    simp only [evE, Option.bind_eq_bind, Option.bind_eq_some_iff, Prod.exists, Option.ite_none_right_eq_some] at e
    obtain ⟨xs, g1, e1, ds, g2, e2, st, e3⟩ := e
    cases e3
    refine ⟨Kp, B, g, τ, xs, g1, S, e1, fun vs H1 B1 p1 G1 => ?_⟩
    obtain ⟨B2, x2, S2, R⟩ := got_frzS G1 e2
    refine ⟨R.length_le st, ?_⟩
    exact Fin.tup (B := B2) (K := X.K) (Stt.fin (d := .tup ds) S2 fun v' H' B' x' s' G' => k v' H' B' (.io ((p1.1.trans x2).trans x')) G') R
  | true =>
    refine PE_imp (pe_tupP h) fun σ H Q ⟨Kp, B, g, τ, z, g', S, e, k⟩ => ?_
    simp only [evE, Option.bind_eq_bind, Option.bind_eq_some_iff, Prod.exists, Option.ite_none_right_eq_some] at e
    obtain ⟨xs, g1, e1, ds, g2, e2, st, e3⟩ := e
    cases e3
    refine ⟨Kp, B, g, τ, xs, g1, S, e1, fun vs H1 B1 p1 G1 => ?_⟩
    obtain ⟨B2, x2, S2, R⟩ := got_frzS G1 e2
    refine ⟨R.length_le st, fun p o hp n => ?_⟩
    exact Fin.pt (B := B2) (K := X.K) (Stt.fin (d := .pt ds) S2 fun v' H' B' x' s' G' => k v' H' B' (.io ((p1.1.trans x2).trans x')) G') n R p hp
theorem se_lst {o : Bool} {kk : Nat} (h : SA X F il es) : SE X F (.lst o il) (.List es pos) := by
  refine PE_imp (pe_lst h) fun σ H Q ⟨Kp, B, g, τ, z, g', S, e, k⟩ => ?_
  simp only [evE, Option.bind_eq_bind, Option.bind_eq_some_iff, Prod.exists, Option.ite_none_right_eq_some] at e
  obtain ⟨xs, g1, e1, ws, g2, e2, st, e3⟩ := e
  cases e3
  refine ⟨Kp, B, g, τ, xs, g1, S, e1, fun vs H1 B1 p1 G1 => ?_⟩
  obtain ⟨B2, x2, S2, l⟩ := got_takeS G1 e2
  refine ⟨by rw [← l]; exact st, fun p hp => ?_⟩
  have R : Rp X.K Kp B2 H1 (ws.zip vs ++ (slotEs g' σ ++ τ)) := S2.2.perm (by
    rw [← List.append_assoc, ← List.append_assoc]
    exact List.perm_append_comm.append_right τ)
  exact k (.ref p) _ B2 (.io (p1.1.trans x2)) ⟨True.intro, S2.1, (Rp.alloc (.lst l) R hp).perm List.perm_middle.symm⟩
theorem se_dic {tk : Bool} : SE X F (.dic tk) (.Dict [] [] pos) := by
  cases tk with
  | false =>
    refine PE_imp pe_dnewK fun σ H Q ⟨Kp, B, g, τ, z, g', S, e, k⟩ => ?_
    cases e
    exact fun p hp => k (.ref p) _ B (.io .refl) ⟨True.intro, S.1, (Rp.alloc (es' := []) (.dK (ks := []) (ws := []) (vs := []) rfl rfl) S.2 hp).perm List.perm_middle.symm⟩
  | true =>
    refine PE_imp pe_dnewT fun σ H Q ⟨Kp, B, g, τ, z, g', S, e, k⟩ => ?_
    cases e
    exact fun p hp => k (.ref p) _ B (.io .refl) ⟨True.intro, S.1, (Rp.alloc (es' := []) (.dT (ks := []) (ws := []) (vs := []) rfl rfl) S.2 hp).perm List.perm_middle.symm⟩
theorem se_call {f : Nat} {ms : List Mode} {x : Str} {p : Pos} {e : Expr} (G : Good X S F) (hg : glS S x = true) (hf : (x, f, ms) ∈ S.fns) (hs : ∀ z ∈ e :: es, notStar z = true) (h : SA X F il (e :: es)) : SE X F (.call f ms il) (.Call (.Name x p) (e :: es) [] pos) := by
  obtain ⟨k0, fa, fd, ps, fo, rm, hm, hk, hb⟩ := (G.fns _ _ _ hf).ok
  refine PE_imp (pe_call (E := fun _ _ _ => True) fo rm (G.gl hg).1 hm hk hb .nil pass0 h (G.gl hg).2 (star_of (hs e List.mem_cons_self)) (plain_of fun a ha => hs a (List.mem_cons_of_mem _ ha))) fun σ H Q ⟨Kp, B, g, τ, z, g', S, e, k⟩ => ?_
  simp only [evE, Option.bind_eq_bind, Option.bind_eq_some_iff, Prod.exists, Option.ite_none_right_eq_some] at e
  obtain ⟨xs, g1, e1, ws, g2, e2, r, ios, e3, g3, e4, e5⟩ := e
  cases e5
  refine ⟨Kp, B, g, τ, xs, g1, S, e1, fun vs H1 B1 p1 G1 => ?_⟩
  obtain ⟨B2, x2, so, R, l1, l2⟩ := got_toCall G1 e2
  obtain ⟨Kq, Rq, up, back⟩ := R.call
  rw [List.append_nil]
  refine ⟨Kq, B2, ws, r, ios, l1, l2, Rq, e3, fun v H' B' x' R' => ?_⟩
  obtain ⟨x3, R3⟩ := back B' H' _ x' R'
  have R4 : Rp X.K Kp B' H' (ioEs ms ios vs ++ (slotEs g2 σ ++ ((r, v) :: τ))) := R3.perm (by
    show ((r, v) :: (ioEs ms ios vs ++ (slotEs g2 σ ++ τ))).Perm _
    rw [← List.append_assoc, ← List.append_assoc]
    exact List.perm_middle.symm)
  have P : PthAll H' σ xs vs := by
    have : ∀ (xs : List Arg) (vs : List V) (ms : List Mode) (ws : List W) (g g2 : Gam), PthAll H1 σ xs vs → takeC ms xs g = some (ws, g2) → PthAll H' σ xs vs := by
      intro xs
      induction xs with
      | nil => intro vs _ _ _ _ P _; cases vs <;> exact P
      | cons x xs ih =>
        intro vs ms ws g g2 P e
        cases vs with
        | nil => cases x <;> exact (P : False).elim
        | cons v vs =>
          have nx : ∃ ms' ws' h h2, takeC ms' xs h = some (ws', h2) ∧ x.simple = true := by
            cases ms with
            | nil => cases e
            | cons m ms =>
              cases m with
              | val =>
                have e : ((frzA g x).bind fun p => (takeC ms xs p.2).bind fun q => some (W.fz p.1 :: q.1, q.2)) = some (ws, g2) := by
                  cases x <;> exact e
                obtain ⟨⟨d, h⟩, q1, e⟩ := Option.bind_eq_some_iff.mp e
                obtain ⟨⟨r, h2⟩, q2, _⟩ := Option.bind_eq_some_iff.mp e
                refine ⟨_, _, _, _, q2, ?_⟩
                cases x with
                | tmp w => rfl
                | pth i st =>
                  cases st with
                  | nil => rfl
                  | cons _ _ => cases q1
              | io =>
                cases x with
                | tmp w =>
                  have e : ((takeC ms xs g).bind fun q => some (w :: q.1, q.2)) = some (ws, g2) := e
                  obtain ⟨⟨r, h2⟩, q2, _⟩ := Option.bind_eq_some_iff.mp e
                  exact ⟨_, _, _, _, q2, rfl⟩
                | pth i st =>
                  cases st with
                  | cons _ _ => cases e
                  | nil =>
                    have e : (match g[i]? with | some (some w) => ((takeC ms xs (g.set i none)).bind fun q => some (w :: q.1, q.2)) | _ => none) = some (ws, g2) := e
                    split at e
                    · obtain ⟨⟨r, h2⟩, q2, _⟩ := Option.bind_eq_some_iff.mp e
                      exact ⟨_, _, _, _, q2, rfl⟩
                    · cases e
          obtain ⟨ms', ws', h, h2, q, sm⟩ := nx
          cases x with
          | tmp w => exact ih vs ms' ws' h h2 P q
          | pth i st =>
            cases st with
            | nil => exact ⟨P.1, ih vs ms' ws' h h2 P.2 q⟩
            | cons _ _ => cases sm
    exact this xs vs ms ws g1 g2 G1.pth e2
  have St4 := back_call P so R4 e4
  exact k v H' B' (.io ((p1.1.trans x2).trans x3)) ⟨True.intro, St4⟩
end
end PF
end

section
set_option Elab.async false
set_option linter.all false
set_option maxRecDepth 100000
set_option maxHeartbeats 1000000
namespace PF
open PySem PySem.Spec PyProof.Rows L2

def Bf.val : Bf → Value
  | .ptuple_ | .tuple_ => .type "tuple" | .len => .builtin "len" | .abs => .builtin "abs" | .min2 | .min1 => .builtin "min" | .max2 | .max1 => .builtin "max" | .sum => .builtin "sum" | .sorted => .builtin "sorted"
  | .all_ => .builtin "all" | .any_ => .builtin "any" | .int_ => .type "int" | .list_ | .lrange => .type "list" | .dict_ => .type "dict"
theorem boot_bf : ∀ b : Bf, bootBuiltins b.name = some b.val := by
  intro b
  cases b <;> decide +kernel
theorem name_bf : ∀ b : Bf, b.name ≠ ("__name__" : Str) := by
  intro b
  cases b <;> decide +kernel
theorem dbg_bf : ∀ b : Bf, (b.name == ("__debug__" : Str)) = false := by
  intro b
  cases b <;> decide +kernel
def notRg : Bf → Bool
  | .lrange => false
  | _ => true
theorem cr_bf {X : Cx} (hc : X.calm = true) : ∀ b : Bf, notRg b = true → CallR X b.val (rA X.K (bfD b)) := by
  intro b h
  cases b with
  | lrange => cases h
  | ptuple_ => exact cr_ptuple
  | tuple_ => exact cr_tuple
  | len => exact cr_len
  | abs => exact cr_abs
  | min2 => exact cr_min2 hc
  | max2 => exact cr_max2 hc
  | min1 => exact cr_min1 hc
  | max1 => exact cr_max1 hc
  | sum => exact cr_sum1 hc
  | sorted => exact cr_sorted1
  | all_ => exact cr_all1 hc
  | any_ => exact cr_any1 hc
  | int_ => exact cr_int
  | list_ => exact cr_list
  | dict_ => exact cr_dict hc
/-- f(e, ..), f a built-in function or type -/
theorem pe_callV {X : Cx} {f : Value} {x : Str} {p pos : Pos} {e : Expr} {es : List Expr} {t : TA} {r : List V → Hp → VK → Prop} (hf : (∃ id, f = .builtin id) ∨ ∃ T, f = .type T) (hc : CallR X f r) (hg : Gl X x) (hm : X.mg x = none) (hv : bootBuiltins x = some f) (ha : PA X (e :: es) t) (hn : x ≠ "__name__") (hdb : (x == ("__debug__" : Str)) = false)
    (he : starEach (e :: es) X.env = (false, eval e X.env) :: starEach es X.env) (hpl : (backTo pos (starEach es X.env)).any (·.1) = false) : PE X (.Call (.Name x p) (e :: es) [] pos) (tCB r t) := by
  rcases hf with ⟨id, rfl⟩ | ⟨T, rfl⟩
  · exact pe_callB hc hg hm hv ha hn hdb he hpl
  · exact pe_callTy hc hg hm hv ha hn hdb he hpl
theorem kind_bf : ∀ b : Bf, (∃ id, b.val = .builtin id) ∨ ∃ T, b.val = .type T := by
  intro b
  cases b <;> first | exact .inl ⟨_, rfl⟩ | exact .inr ⟨_, rfl⟩
section
variable {X : Cx} {S : Sc} {F : Nat → List W → Option (W × List W)} {a b c i : IE} {ea eb ec : Expr} {pos : Pos} {il : IL} {es : List Expr}
theorem se_bf {f : Bf} {p : Pos} {e : Expr} (G : Good X S F) (hr : notRg f = true) (hg : bltS S f.name = true) (hs : ∀ z ∈ e :: es, notStar z = true) (h : SA X F il (e :: es)) : SE X F (.bf f il) (.Call (.Name f.name p) (e :: es) [] pos) := by
  obtain ⟨g1, g2, g3, g4⟩ := G.blt hg
  refine PE_imp (pe_callV (kind_bf f) (cr_bf G.calm f hr) g1 g3 (boot_bf f) h g4 g2 (star_of (hs e List.mem_cons_self)) (plain_of fun a ha => hs a (List.mem_cons_of_mem _ ha))) fun σ H Q ⟨Kp, B, g, τ, z, g', S, e, k⟩ => ?_
  simp only [evE, Option.bind_eq_bind, Option.bind_eq_some_iff, Prod.exists, Option.ite_none_right_eq_some] at e
  obtain ⟨xs, g1, e1, ws, e2, d, e3, z', e4, e5⟩ := e
  cases e5
  refine ⟨Kp, B, g, τ, xs, g', S, e1, fun vs H1 B1 p1 G1 => ?_⟩
  obtain ⟨Bx, sb, R, fn⟩ := G1.fin e2 e4 fun v H' B' x' s' G' => k v H' B' ⟨p1.1.trans x', fun pu => (p1.2 pu).trans s'⟩ G'
  exact ⟨Bx, _, d, sb, R, e3, fn⟩
theorem bf_t {f : Bf} {g g' : Gam} {q : Bool} (e : evT F (.bf f il) g = some (q, g')) : ∃ x, evE F (.bf f il) g = some (x, g') ∧ res g' x = some (.fz (.bl q)) := by
  simp only [evT, Option.bind_eq_bind, Option.bind_eq_some_iff, Prod.exists, Option.ite_none_right_eq_some] at e
  obtain ⟨xs, g1, e1, ws, e2, d, e3, e4⟩ := e
  split at e4
  · cases e4
    refine ⟨.tmp (.fz (.bl q)), ?_, rfl⟩
    simp only [evE, Option.bind_eq_bind, Option.bind_eq_some_iff, Prod.exists]
    exact ⟨xs, g', e1, ws, e2, _, e3, .tmp (.fz (.bl q)), rfl, rfl⟩
  · cases e4
theorem call_t {f : Nat} {ms : List Mode} {g g' : Gam} {q : Bool} (e : evT F (.call f ms il) g = some (q, g')) : ∃ x, evE F (.call f ms il) g = some (x, g') ∧ res g' x = some (.fz (.bl q)) := by
  simp only [evT, Option.bind_eq_bind, Option.bind_eq_some_iff, Prod.exists, Option.ite_none_right_eq_some] at e
  obtain ⟨xs, g1, e1, ws, g2, e2, r, ios, e3, g3, e4, e5⟩ := e
  split at e5
  · cases e5
    refine ⟨.tmp (.fz (.bl q)), ?_, rfl⟩
    simp only [evE, Option.bind_eq_bind, Option.bind_eq_some_iff, Prod.exists]
    exact ⟨xs, g1, e1, ws, g2, e2, _, ios, e3, g', e4, rfl⟩
  · cases e5
theorem isi_t {ts : List Ty} {o : Bool} {g g' : Gam} {q : Bool} (e : evT F (.isi a ts o) g = some (q, g')) : ∃ x, evE F (.isi a ts o) g = some (x, g') ∧ res g' x = some (.fz (.bl q)) := by
  simp only [evT, Option.bind_eq_bind, Option.bind_eq_some_iff, Prod.exists, Option.ite_none_right_eq_some] at e
  obtain ⟨xs, g1, e1, ws, e2, d, e3, e4⟩ := e
  cases e4
  refine ⟨.tmp (.fz (.bl q)), ?_, rfl⟩
  simp only [evE, Option.bind_eq_bind, Option.bind_eq_some_iff, Prod.exists]
  exact ⟨xs, g', e1, ws, e2, _, e3, rfl⟩
theorem var_t {n : Nat} {g g' : Gam} {q : Bool} (e : evT F (.var n) g = some (q, g')) : ∃ x, evE F (.var n) g = some (x, g') ∧ res g' x = some (.fz (.bl q)) := by
  have e : (match g[n]? with | some (some (.fz (.bl b))) => some (b, g) | _ => none) = some (q, g') := e
  split at e
  · rename_i q1
    cases e
    refine ⟨.pth n [], ?_, ?_⟩
    · show (match g[n]? with | some (some _) => some (Arg.pth n [], g) | _ => none) = _
      rw [q1]
    · show (match g[n]? with | some (some w) => w.at [] | _ => none) = _
      rw [q1]
      rfl
  · cases e
theorem se_lrange {p p2 pos2 : Pos} {e : Expr} (G : Good X S F) (hg : bltS S ("list" : Str) = true) (hg2 : bltS S ("range" : Str) = true) (hs : notStar e = true) (h : SE X F a e) :
    SE X F (.bf .lrange (.cons a .nil)) (.Call (.Name ("list" : Str) p) [.Call (.Name ("range" : Str) p2) [e] [] pos2] [] pos) := by
  obtain ⟨g1, g2, g3, g4⟩ := G.blt hg
  obtain ⟨f1, f2, f3, f4⟩ := G.blt hg2
  refine PE_imp (pe_listRg G.calm g1 g3 (prg_1 f1 f3 h (star_of hs)) rfl) fun σ H Q ⟨Kp, B, g, τ, z, g', S, e, k⟩ => ?_
  simp only [evE, evL, Option.bind_eq_bind, Option.bind_eq_some_iff, Prod.exists, Option.ite_none_right_eq_some] at e
  obtain ⟨xs, g1, ⟨x, g0, e1, ys, g2', e6, st, e7⟩, ws, e2, d, e3, z', e4, e5⟩ := e
  cases e6
  cases e7
  cases e5
  refine ⟨Kp, B, g, τ, x, g', S, e1, fun v H1 B1 p1 G1 => ?_⟩
  have hf := G1.fin e2 e4 fun v H' B' x' s' G' => k v H' B' ⟨p1.1.trans x', fun pu => (p1.2 (by
    have : (pureE a && true) = true := pu
    rw [Bool.and_true] at this
    exact this)).trans s'⟩ G'
  obtain ⟨Bx, sb, R, fn⟩ := hf
  obtain ⟨d0, hd0⟩ : ∃ d0, ws.map W.toD = [d0] := by
    have l := R.length
    cases q : ws.map W.toD with
    | nil => rw [q] at l; cases l
    | cons d0 r =>
      cases r with
      | nil => exact ⟨d0, rfl⟩
      | cons _ _ => rw [q] at l; cases l
  rw [hd0] at e3 R
  cases d0 with
  | int n =>
    have e3 : (if decide (0 ≤ n) && absLe n 10000 then some (D.lst ((List.range n.toNat).map fun i => .int (i : Nat))) else none) = some d := e3
    rw [Option.ite_none_right_eq_some] at e3
    obtain ⟨b, e3⟩ := e3
    rw [Bool.and_eq_true, decide_eq_true_eq] at b
    have b2 := absLe_ok b.2
    cases e3
    obtain ⟨_, e8, r1⟩ := paired1 R
    cases e8
    refine ⟨n, r1, ⟨by omega, by omega, by omega, by omega, by omega⟩, fun q hq => ?_⟩
    have rr : RepDs X.K Bx ((List.range n.toNat).map fun i => D.int (i : Nat)) (rgV 0 n) := by
      have := ints_rep (K := X.K) (B := Bx) ((List.range n.toNat).map fun i : Nat => (i : Int))
      rw [List.map_map, List.map_map] at this
      have e9 : rgV 0 n = List.map (V.int ∘ fun i : Nat => (i : Int)) (List.range n.toNat) := by
        unfold rgV
        rw [show (n - 0).toNat = n.toNat by rw [Int.sub_zero]]
        refine List.map_congr_left fun j _ => ?_
        show V.int (0 + (j : Int)) = V.int (j : Int)
        rw [Int.zero_add]
      rw [e9]
      exact this
    exact fn.lst rr q hq
  | _ => cases e3
end
end PF
end

section
set_option Elab.async false
set_option linter.all false
set_option maxRecDepth 100000
set_option maxHeartbeats 1000000
namespace PF
open PySem PySem.Spec PyProof.Rows L2

section
variable {K : PySem.W.Frag} {Kp B B' H H' : Hp} {g g' g1 g2 : Gam} {σ : Sig} {τ es0 : List Ent} {x y : Arg} {xs ys : List Arg} {v u : V} {vs us : List V}
theorem perm3 (a b c : List Ent) : (a ++ (b ++ c)).Perm (b ++ (a ++ c)) := by
  rw [← List.append_assoc, ← List.append_assoc]
  exact List.perm_append_comm.append_right c
/-- a node is changed -/
theorem Stt.mod {α : Type} {f : W → Option (W × α)} {r : α} (S : Stt K Kp B H g σ (es0 ++ τ)) (P : PthAll H σ [x] [v]) (e : modP g x f = some (g', r)) (nd : ∀ w p, f w = some p → w.isNode = true) :
    ∃ a o es1 w w', v = .ref a ∧ H a = some o ∧ NodeR w o es1 ∧ f w = some (w', r) ∧ ∀ o' es2 junk, NodeR w' o' es2 → (es1 ++ es0).Perm (es2 ++ junk) → Stt K Kp B (upd H a o') g' σ (junk ++ τ) := by
  cases x with
  | tmp w => cases e
  | pth i st =>
    have e : (match g[i]? with | some (some w0) => (match w0.at st with | some w => (f w).map fun p => (g.set i (some (w0.setAt p.1 st)), p.2) | none => none) | _ => none) = some (g', r) := e
    split at e
    · rename_i w0 q0
      split at e
      · rename_i w qw
        obtain ⟨⟨w', r'⟩, e1, e2⟩ := Option.map_eq_some_iff.mp e
        cases e2
        obtain ⟨v0, hv, pv⟩ := P.1
        have R : Rp K Kp B H ((w0, v0) :: (es0 ++ (slotEs (g.set i none) σ ++ τ))) := S.2.perm (by
          exact ((S.1.take q0 hv).append_right _).trans (List.Perm.cons _ (perm3 _ _ _)))
        obtain ⟨a, o, es1, p1, ha, nr, k⟩ := R.write qw (nd _ _ e1)
        refine ⟨a, o, es1, w, w', pv.inj p1, ha, nr, e1, fun o' es2 junk n' p => ⟨S.1.setW hv, ?_⟩⟩
        have z := k w' o' es2 junk n' p
        refine z.perm ?_
        have s1 := (slot_swap (w' := w0.setAt w' st) S.1 q0 hv).append_right (junk ++ τ)
        exact List.Perm.trans (List.Perm.cons _ (perm3 _ _ _)) s1
      · cases e
    · cases e
theorem isL_ty {p : Arg} (G : Got K Kp B H g σ τ [x] [v]) (e : isL (res g x) = true) : tyV K "list" v H := by
  cases q : res g x with
  | none => rw [q] at e; cases e
  | some w =>
    cases w with
    | lst ws =>
      obtain ⟨fp, ⟨p, us, fs, e1, e2, e3, r⟩, _⟩ := G.rep1 q
      subst e1
      exact .inl ⟨rfl, us, .inl (.inl e3)⟩
    | _ => rw [q] at e; cases e
theorem appW_some {y w w' : W} {r : Unit} (e : appW y w = some (w', r)) : ∃ ws, w = .lst ws ∧ ws.length < sizeLine ∧ w' = .lst (ws ++ [y]) := by
  cases w with
  | lst ws =>
    have e : (if ws.length < sizeLine then some (W.lst (ws ++ [y]), ()) else none) = some (w', r) := e
    rw [Option.ite_none_right_eq_some] at e
    cases e.2
    exact ⟨ws, rfl, e.1, rfl⟩
  | _ => cases e
theorem nodeL {ws : List W} {o : HO} {es : List Ent} (n : NodeR (.lst ws) o es) : ∃ vs, o = .lst vs ∧ ws.length = vs.length ∧ es = ws.zip vs := by
  cases n with
  | lst l => exact ⟨_, rfl, l, rfl⟩
theorem zip_last {ws : List W} {vs : List V} (w : W) (v : V) (l : ws.length = vs.length) : (ws ++ [w]).zip (vs ++ [v]) = ws.zip vs ++ [(w, v)] := by
  rw [List.zip_append l]
  rfl
theorem popW_some {y w w' : W} (e : popW w = some (w', y)) : ∃ ws, w = .lst ws ∧ ws[ws.length - 1]? = some y ∧ w' = .lst ws.dropLast := by
  cases w with
  | lst ws =>
    have e : (match ws[ws.length - 1]? with | some y => some (W.lst ws.dropLast, y) | none => none) = some (w', y) := e
    split at e
    · rename_i z q
      cases e
      exact ⟨ws, rfl, q, rfl⟩
    · cases e
  | _ => cases e
theorem popAW_some {i : D} {y w w' : W} (e : popAW i w = some (w', y)) : ∃ ws k n, i = .int k ∧ w = .lst ws ∧ -(2 ^ 63) ≤ k ∧ k < 2 ^ 63 ∧ seqIndex? k ws.length = some n ∧ ws[n]? = some y ∧ w' = .lst (ws.eraseIdx n) := by
  cases w with
  | lst ws =>
    cases i with
    | int k =>
      have e : (if absLe k 9000000000000000000 then (match seqIndex? k ws.length with | some n => (match ws[n]? with | some y => some (W.lst (ws.eraseIdx n), y) | none => none) | none => none) else none) = some (w', y) := e
      rw [Option.ite_none_right_eq_some] at e
      obtain ⟨b, e⟩ := e
      have b := absLe_ok b
      split at e
      · rename_i n qn
        split at e
        · rename_i z q
          cases e
          exact ⟨ws, k, n, rfl, rfl, by omega, by omega, qn, q, rfl⟩
        · cases e
      · cases e
    | _ => cases e
  | _ => cases e
theorem zip_get {ws : List W} {vs : List V} {n : Nat} {w : W} (l : ws.length = vs.length) (e : ws[n]? = some w) : ∃ v, vs[n]? = some v ∧ (ws.zip vs).Perm ((ws.eraseIdx n).zip (vs.eraseIdx n) ++ [(w, v)]) := by
  induction ws generalizing vs n with
  | nil => simp at e
  | cons a ws ih =>
    cases vs with
    | nil => cases l
    | cons b vs =>
      cases n with
      | zero =>
        simp only [List.getElem?_cons_zero, Option.some.injEq] at e
        subst e
        exact ⟨b, rfl, (List.perm_append_singleton _ _).symm⟩
      | succ n =>
        obtain ⟨v, e1, p⟩ := ih (by simpa using l) (by simpa using e)
        exact ⟨v, by simpa using e1, p.cons _⟩
theorem eraseLast {α : Type} : ∀ (l : List α), l.eraseIdx (l.length - 1) = l.dropLast
  | [] => rfl
  | [_] => rfl
  | a :: b :: r => by
    have := eraseLast (b :: r)
    show a :: (b :: r).eraseIdx ((b :: r).length - 1) = a :: (b :: r).dropLast
    rw [this]
theorem fz_toDs : ∀ {us : List W}, us.all W.isFz = true → (toDs us).map W.fz = us
  | [], _ => rfl
  | w :: us, h => by
    rw [List.all_cons, Bool.and_eq_true] at h
    cases w with
    | fz d =>
      show W.fz d :: (toDs us).map W.fz = _
      rw [fz_toDs h.2]
    | _ => cases h.1
theorem extW_some {y w w' : W} {r : Unit} (e : extW y w = some (w', r)) : ∃ ws ds, w = .lst ws ∧ (y = .fz (.lst ds) ∨ (∃ us, y = .lst us ∧ us.all W.isFz = true ∧ toDs us = ds)) ∧ ws.length + ds.length ≤ sizeLine ∧ w' = .lst (ws ++ ds.map .fz) := by
  cases w with
  | lst ws =>
    cases y with
    | lst us =>
      have e : (if us.all W.isFz && decide (ws.length + us.length ≤ sizeLine) then some (W.lst (ws ++ us), ()) else none) = some (w', r) := e
      rw [Option.ite_none_right_eq_some, Bool.and_eq_true, decide_eq_true_eq] at e
      obtain ⟨⟨a, b⟩, e⟩ := e
      cases e
      have q := fz_toDs a
      refine ⟨ws, toDs us, rfl, .inr ⟨us, rfl, a, rfl⟩, ?_, by rw [q]⟩
      have := congrArg List.length q
      rw [List.length_map] at this
      omega
    | fz d =>
      cases d with
      | lst ds =>
        have e : (if ws.length + ds.length ≤ sizeLine then some (W.lst (ws ++ ds.map .fz), ()) else none) = some (w', r) := e
        rw [Option.ite_none_right_eq_some] at e
        cases e.2
        exact ⟨ws, ds, rfl, .inl rfl, e.1, rfl⟩
      | _ => cases e
    | _ => cases e
  | _ => cases e
end
section
variable {X : Cx} {S : Sc} {F : Nat → List W → Option (W × List W)} {a b c i : IE} {ea eb ec : Expr} {pos : Pos} {il : IL} {es : List Expr}
theorem Gam.stt {K : PySem.W.Frag} {Kp B H : Hp} {g : Gam} {σ : Sig} {τ : List Ent} (S : Stt K Kp B H g σ τ) : Got K Kp B H g σ τ [] [] := ⟨True.intro, S⟩
theorem se_app {o : Bool} {ap : Pos} (hp : plainBase ea = true) (hl : (ap.endLine == pos.line) = true) (hs : notStar eb = true) (ha : SE X F a ea) (hb : SE X F b eb) : SE X F (.app o a b) (.Call (.Attribute ea ("append" : Str) ap) [eb] [] pos) := by
  refine PE_imp (pe_bm PySem.F.plainAttrs_list PySem.F.slot_list_append PySem.F.type_list_append mt_append ha (pa_cons hb pa_nil (star_of hs)) (base_of hp) (few1 hs) hl (star_of hs) rfl) fun σ H Q ⟨Kp, B, g, τ, z, g', S, e, k⟩ => ?_
  simp only [evE, Option.bind_eq_bind, Option.bind_eq_some_iff, Prod.exists, Option.ite_none_right_eq_some] at e
  obtain ⟨x, g1, e1, y, g2, e2, st, w, g3, e3, g4, r, e4, e5⟩ := e
  cases e5
  rw [Bool.and_eq_true] at st
  refine ⟨Kp, B, g, τ, x, g1, S, e1, fun v H1 B1 p1 G1 => ⟨isL_ty (p := x) G1 st.2, Kp, B1, g1, _, y, g2, G1.st, e2, fun u H2 B2 p2 G2 => ?_⟩⟩
  have P := PthAll.one (or_dec st.1 p2) G1.pth
  obtain ⟨B3, x3, G3⟩ := G2.take e3
  have S3 : Stt X.K Kp B3 H2 g3 σ ([(w, u)] ++ (tmps [x] [v] ++ τ)) := G3.st
  obtain ⟨a1, o1, es1, w1, w1', ev, ho, nr, ef, kk⟩ := S3.mod P e4 (fun w p h => by
    obtain ⟨ws, e, _⟩ := appW_some (r := p.2) (w' := p.1) h
    subst e
    rfl)
  obtain ⟨ws, e6, lt, e7⟩ := appW_some ef
  subst e6 e7
  obtain ⟨vs, e8, l, e9⟩ := nodeL nr
  subst e8 e9
  refine ⟨a1, vs, u, ev, rfl, ho, by rw [← l]; exact lt, ?_⟩
  have S4 := kk (.lst (vs ++ [u])) _ [] (.lst (ws := ws ++ [w]) (vs := vs ++ [u]) (by simp [l])) (by rw [zip_last w u l, List.append_nil])
  exact k .non _ B3 (.io ((p1.1.trans p2.1).trans x3)) ((Stt.drop (τ' := tmps [x] [v]) S4).leaf (d := .non) rfl)
theorem se_ext {ap : Pos} (hp : plainBase ea = true) (hl : (ap.endLine == pos.line) = true) (hs : notStar eb = true) (ha : SE X F a ea) (hb : SE X F b eb) : SE X F (.ext a b) (.Call (.Attribute ea ("extend" : Str) ap) [eb] [] pos) := by
  refine PE_imp (pe_bm PySem.F.plainAttrs_list PySem.F.slot_list_extend PySem.F.type_list_extend mt_extend ha (pa_cons hb pa_nil (star_of hs)) (base_of hp) (few1 hs) hl (star_of hs) rfl) fun σ H Q ⟨Kp, B, g, τ, z, g', S, e, k⟩ => ?_
  simp only [evE, Option.bind_eq_bind, Option.bind_eq_some_iff, Prod.exists, Option.ite_none_right_eq_some] at e
  obtain ⟨x, g1, e1, y, g2, e2, st, w, e3, g4, r, e4, e5⟩ := e
  cases e5
  rw [Bool.and_eq_true] at st
  refine ⟨Kp, B, g, τ, x, g1, S, e1, fun v H1 B1 p1 G1 => ⟨isL_ty (p := x) G1 st.2, Kp, B1, g1, _, y, g2, G1.st, e2, fun u H2 B2 p2 G2 => ?_⟩⟩
  have P := PthAll.one (or_dec st.1 p2) G1.pth
  -- what is handed over
  have yv : ∀ ds, (w = .fz (.lst ds) ∨ (∃ us, w = .lst us ∧ us.all W.isFz = true ∧ toDs us = ds)) → ∃ b zs, u = .ref b ∧ H2 b = some (.lst zs) ∧ RepDs X.K B2 ds zs := fun ds h => by
    rcases h with h | ⟨us, h, al, e⟩
    · subst h
      obtain ⟨b, zs, q1, q2, q3⟩ := G2.leafAt e3
      exact ⟨b, zs, q1, G2.st.2.sb _ _ q2, q3⟩
    · subst h e
      obtain ⟨fp, ⟨b, zs, fs, q1, q2, q3, q4⟩, _⟩ := G2.rep1 e3
      exact ⟨b, zs, q1, q3, fz_reps al q4⟩
  have S2 : Stt X.K Kp B2 H2 g2 σ (tmps [x] [v] ++ τ) := G2.st.drop
  have go : ∀ ds zs, RepDs X.K B2 ds zs → Stt X.K Kp B2 H2 g2 σ ((ds.map W.fz).zip zs ++ (tmps [x] [v] ++ τ)) := fun ds zs h => ⟨S2.1, (Rp.leaves h S2.2).perm (perm3 _ _ _)⟩
  -- the receiver
  have hx : ∃ w1 w1', extW w w1 = some (w1', r) := by
    have e : modP g2 x (extW w) = some (g', r) := e4
    cases x with
    | tmp _ => cases e
    | pth i sp =>
      have e : (match g2[i]? with | some (some w0) => (match w0.at sp with | some w1 => (extW w w1).map fun p => (g2.set i (some (w0.setAt p.1 sp)), p.2) | none => none) | _ => none) = some (g', r) := e
      split at e
      · split at e
        · rename_i w1 _
          obtain ⟨⟨w1', r'⟩, q, q2⟩ := Option.map_eq_some_iff.mp e
          cases q2
          exact ⟨w1, w1', q⟩
        · cases e
      · cases e
  obtain ⟨w1, w1', hx⟩ := hx
  obtain ⟨ws0, ds, _, hy, _, _⟩ := extW_some hx
  obtain ⟨b, zs, q1, q2, q3⟩ := yv ds hy
  obtain ⟨a1, o1, es1, w2, w2', ev, ho, nr, ef, kk⟩ := (go ds zs q3).mod P e4 (fun w p h => by
    obtain ⟨ws, _, e, _⟩ := extW_some (r := p.2) (w' := p.1) h
    subst e
    rfl)
  obtain ⟨ws, ds', e6, hy', lt, e7⟩ := extW_some ef
  have ed : ds' = ds := by
    rcases hy with h | ⟨us, h, _, e⟩
    · rcases hy' with h' | ⟨us', h', _, e'⟩
      · rw [h] at h'; cases h'; rfl
      · rw [h] at h'; cases h'
    · rcases hy' with h' | ⟨us', h', _, e'⟩
      · rw [h] at h'; cases h'
      · rw [h] at h'; cases h'; exact e'.symm.trans e
  subst ed
  subst e6 e7
  obtain ⟨vs, e8, l, e9⟩ := nodeL nr
  subst e8 e9
  have lz := q3.len
  refine ⟨a1, b, vs, zs, ev, by rw [q1], ho, q2, by omega, ?_⟩
  have S4 := kk (.lst (vs ++ zs)) _ [] (.lst (ws := ws ++ ds'.map W.fz) (vs := vs ++ zs) (by simp [l, lz])) (by rw [List.zip_append l, List.append_nil])
  exact k .non _ B2 (.io (p1.1.trans p2.1)) ((Stt.drop (τ' := tmps [x] [v]) S4).leaf (d := .non) rfl)
theorem se_popL {ap : Pos} (hp : plainBase ea = true) (hl : (ap.endLine == pos.line) = true) (ha : SE X F a ea) : SE X F (.popL a) (.Call (.Attribute ea ("pop" : Str) ap) [] [] pos) := by
  refine PE_imp (pe_bm0 PySem.F.plainAttrs_list PySem.F.slot_list_pop PySem.F.type_list_pop mt_pop ha (base_of hp) hl) fun σ H Q ⟨Kp, B, g, τ, z, g', S, e, k⟩ => ?_
  simp only [evE, Option.bind_eq_bind, Option.bind_eq_some_iff, Prod.exists, Option.ite_none_right_eq_some] at e
  obtain ⟨x, g1, e1, g2, w, e2, e5⟩ := e
  cases e5
  refine ⟨Kp, B, g, τ, x, g1, S, e1, fun v H1 B1 p1 G1 => ?_⟩
  have S1 : Stt X.K Kp B1 H1 g1 σ ([] ++ (tmps [x] [v] ++ τ)) := G1.st
  obtain ⟨a1, o1, es1, w1, w1', ev, ho, nr, ef, kk⟩ := S1.mod G1.pth e2 (fun w p h => by
    obtain ⟨ws, e, _⟩ := popW_some (y := p.2) (w' := p.1) h
    subst e
    rfl)
  obtain ⟨ws, e6, lt, e7⟩ := popW_some ef
  subst e6 e7
  obtain ⟨vs, e8, l, e9⟩ := nodeL nr
  subst e8 e9
  subst ev
  obtain ⟨y, ey, py⟩ := zip_get l lt
  refine ⟨.inl ⟨rfl, vs, .inl (.inl ho)⟩, a1, vs, y, rfl, rfl, ho, by rw [← l]; exact ey, ?_⟩
  have ev2 : vs.eraseIdx (ws.length - 1) = vs.dropLast := by rw [l]; exact eraseLast vs
  rw [eraseLast ws, ev2] at py
  have S4 := kk (.lst vs.dropLast) _ [(w, y)] (.lst (ws := ws.dropLast) (vs := vs.dropLast) (by simp [l])) (by rw [List.append_nil]; exact py)
  refine k y _ B1 (.io p1.1) ⟨True.intro, ?_⟩
  have S5 : Stt X.K Kp B1 (upd H1 a1 (.lst vs.dropLast)) g' σ (tmps [x] [.ref a1] ++ ((w, y) :: τ)) := S4.perm (perm3 [_] _ _)
  exact S5.drop
theorem se_popA {ap : Pos} (hp : plainBase ea = true) (hl : (ap.endLine == pos.line) = true) (hs : notStar eb = true) (ha : SE X F a ea) (hb : SE X F b eb) : SE X F (.popA a b) (.Call (.Attribute ea ("pop" : Str) ap) [eb] [] pos) := by
  refine PE_imp (pe_bm PySem.F.plainAttrs_list PySem.F.slot_list_pop PySem.F.type_list_pop mt_popAt ha (pa_cons hb pa_nil (star_of hs)) (base_of hp) (few1 hs) hl (star_of hs) rfl) fun σ H Q ⟨Kp, B, g, τ, z, g', S, e, k⟩ => ?_
  simp only [evE, Option.bind_eq_bind, Option.bind_eq_some_iff, Prod.exists, Option.ite_none_right_eq_some] at e
  obtain ⟨x, g1, e1, y, g2, e2, st, wi, e3, g4, r, e4, e5⟩ := e
  cases e5
  rw [Bool.and_eq_true] at st
  refine ⟨Kp, B, g, τ, x, g1, S, e1, fun v H1 B1 p1 G1 => ⟨isL_ty (p := x) G1 st.2, Kp, B1, g1, _, y, g2, G1.st, e2, fun u H2 B2 p2 G2 => ?_⟩⟩
  have P := PthAll.one (or_dec st.1 p2) G1.pth
  have S2 : Stt X.K Kp B2 H2 g2 σ ([] ++ (tmps [x] [v] ++ τ)) := G2.st.drop
  obtain ⟨a1, o1, es1, w1, w1', ev, ho, nr, ef, kk⟩ := S2.mod P e4 (fun w p h => by
    obtain ⟨ws, _, _, _, e, _⟩ := popAW_some (y := p.2) (w' := p.1) h
    subst e
    rfl)
  obtain ⟨ws, kk0, n, e5, e6, b1, b2, sn, lt, e7⟩ := popAW_some ef
  subst e6 e7
  obtain ⟨vs, e8, l, e9⟩ := nodeL nr
  subst e8 e9
  subst ev
  have hu : u = .int kk0 := by
    have := G2.now e3
    rw [e5] at this
    exact this
  obtain ⟨y', ey, py⟩ := zip_get l lt
  refine ⟨a1, vs, kk0, n, y', rfl, by rw [hu], ho, b1, b2, by rw [← l]; exact sn, ey, ?_⟩
  have S4 := kk (.lst (vs.eraseIdx n)) _ [(r, y')] (.lst (ws := ws.eraseIdx n) (vs := vs.eraseIdx n) (by
    have hn := (List.getElem?_eq_some_iff.mp lt).1
    rw [List.length_eraseIdx_of_lt hn, List.length_eraseIdx_of_lt (by omega), l])) (by rw [List.append_nil]; exact py)
  refine k y' _ B2 (.io (p1.1.trans p2.1)) ⟨True.intro, ?_⟩
  have S5 : Stt X.K Kp B2 (upd H2 a1 (.lst (vs.eraseIdx n))) g' σ (tmps [x] [.ref a1] ++ ((r, y') :: τ)) := S4.perm (perm3 [_] _ _)
  exact S5.drop
end
end PF
end

section
set_option Elab.async false
set_option linter.all false
set_option maxRecDepth 100000
set_option maxHeartbeats 1000000
namespace PF
open PySem PySem.Spec PyProof.Rows L2

theorem clsvs : ∀ ts : List Ty, Paired ClsV (ts.map fun t => V.ty t.py) (ts.map fun t => Value.type t.py)
  | [] => .nil
  | _ :: ts => .cons (.ty _) (clsvs ts)
theorem ty_boot : ∀ t : Ty, bootBuiltins (Str.ofString t.py) = some (.type t.py) := by
  intro t
  cases t <;> decide +kernel
theorem ty_name : ∀ t : Ty, (Str.ofString t.py) ≠ ("__name__" : Str) := by
  intro t
  cases t <;> decide +kernel
theorem boot_isi : bootBuiltins ("isinstance" : Str) = some (.builtin "isinstance") := by decide +kernel
theorem kit_anys (K : PySem.W.Frag) (d : D) (v : Value) (e : tyOfD d = some v) : ∀ (ts : List Ty) (b : Bool), isiD d ts = some b → PySem.W.kitAny K v (ts.map fun t => .type t.py) = some b
  | [], b, h => by
    cases d <;> cases e <;> cases h <;> rfl
  | t :: ts, b, h => by
    have h1 := kit_all K d t v e
    have ih := kit_anys K d v e ts
    show (match PySem.W.kitOne K v (.type t.py) with | some true => some true | some false => PySem.W.kitAny K v (ts.map fun t => .type t.py) | none => none) = some b
    rw [h1]
    cases d <;> cases e <;> cases t <;> cases h <;> first | rfl | exact ih _ rfl
section
variable {K : PySem.W.Frag} {Kp B B' H H' : Hp} {g g' g1 g2 : Gam} {σ : Sig} {τ es0 : List Ent} {x y : Arg} {xs ys : List Arg} {v u : V} {vs us : List V}
theorem isi_ty {d : D} {ts : List Ty} {b : Bool} (e : isiD d ts = some b) : ∃ t, tyOfD d = some t := by
  cases d <;> first | exact ⟨_, rfl⟩ | cases e
theorem Got.junk {p : Addr} {o : HO} (G : Got K Kp B H g σ τ xs vs) (hp : H p = none) : Got K Kp B (upd H p o) g σ τ xs vs :=
  ⟨by
    have go : ∀ {xs : List Arg} {vs : List V}, PthAll H σ xs vs → PthAll (upd H p o) σ xs vs := by
      intro xs
      induction xs with
      | nil => intro vs h; cases vs <;> exact h
      | cons x xs ih =>
        intro vs h
        cases vs with
        | nil => cases x <;> exact (h : False).elim
        | cons v vs =>
          cases x with
          | tmp w => exact ih (vs := vs) h
          | pth i st =>
            obtain ⟨⟨v0, a, b⟩, h2⟩ := h
            exact ⟨⟨v0, a, b.mono (same_upd hp)⟩, ih h2⟩
    exact go G.pth, G.st.1, G.st.2.junk hp⟩
end
section
variable {X : Cx} {S : Sc} {F : Nat → List W → Option (W × List W)} {a b c i : IE} {ea eb ec : Expr} {pos : Pos} {il : IL} {es : List Expr}
theorem pa_tys (G : Good X S F) : ∀ {ts : List Ty} {es : List Expr}, mTy S ts es = true → PA X es (fun _ H Q => Q (ts.map fun t => V.ty t.py) H) ∧ ∀ z ∈ es, notStar z = true
  | [], [], _ => ⟨pa_nil, fun _ h => by cases h⟩
  | [], _ :: _, h => by cases h
  | _ :: _, [], h => by cases h
  | t :: ts, e :: es, h => by
    cases e with
    | Name x p =>
      have h : (bltS S x && decide (x = Str.ofString t.py) && mTy S ts es) = true := h
      simp only [Bool.and_eq_true, decide_eq_true_eq] at h
      obtain ⟨⟨h1, h2⟩, h3⟩ := h
      subst h2
      obtain ⟨g1, g2, g3, g4⟩ := G.blt h1
      obtain ⟨pr, ns⟩ := pa_tys G h3
      refine ⟨PA_imp (pa_cons (pe_bltn (v := .ty t.py) g1 g3 (ty_boot t) rfl g4 g2) pr (star_of rfl)) fun σ H Q q => q, fun z hz => ?_⟩
      rcases List.mem_cons.mp hz with rfl | hz
      · rfl
      · exact ns z hz
    | _ => cases h
theorem se_isi1 {t : Ty} {p p2 : Pos} {x : Str} (G : Good X S F) (hg : bltS S ("isinstance" : Str) = true) (hs : notStar ea = true) (ha : SE X F a ea) (ht : mTy S [t] [.Name x ⟨0, 0, 0, 0⟩] = true) :
    SE X F (.isi a [t] true) (.Call (.Name ("isinstance" : Str) p) [ea, .Name x p2] [] pos) := by
  obtain ⟨g1, g2, g3, g4⟩ := G.blt hg
  have ht : (bltS S x && decide (x = Str.ofString t.py) && true) = true := ht
  simp only [Bool.and_eq_true, decide_eq_true_eq] at ht
  obtain ⟨⟨h1, h2⟩, _⟩ := ht
  subst h2
  obtain ⟨f1, f2, f3, f4⟩ := G.blt h1
  refine PE_imp (pe_callB call_isi g1 g3 boot_isi (pa_cons ha (pa_cons (pe_bltn (v := .ty t.py) f1 f3 (ty_boot t) rfl f4 f2) pa_nil (star_of rfl)) (star_of hs)) g4 g2 (star_of hs) (plain_of fun z hz => ?_)) fun σ H Q ⟨Kp, B, g, τ, z, g', S, e, k⟩ => ?_
  · have : z = .Name (Str.ofString t.py) p2 := by simpa using hz
    subst this
    rfl
  · simp only [evE, Option.bind_eq_bind, Option.bind_eq_some_iff, Prod.exists] at e
    obtain ⟨x, g1, e1, w, e2, q, e3, e4⟩ := e
    cases e4
    refine ⟨Kp, B, g, τ, x, g', S, e1, fun v H1 B1 p1 G1 => ?_⟩
    obtain ⟨ty, hty⟩ := isi_ty e3
    refine ⟨v, .ty t.py, ty, _, q, rfl, .ty _, (G1.now e2).ty hty, ?_, k (.bl q) H1 B1 (.io p1.1) ((G1.st.drop (τ := τ)).leaf (d := .bl q) rfl)⟩
    rw [kit_all X.K _ t ty hty]
    exact e3
theorem se_isiT {ts : List Ty} {p pt : Pos} {kk : Nat} {zs : List Expr} (G : Good X S F) (hg : bltS S ("isinstance" : Str) = true) (hs : notStar ea = true) (ha : SE X F a ea) (ht : mTy S ts zs = true) (hz : ts.length ≤ 100) :
    SE X F (.isi a ts false) (.Call (.Name ("isinstance" : Str) p) [ea, .Tuple zs kk pt] [] pos) := by
  obtain ⟨g1, g2, g3, g4⟩ := G.blt hg
  obtain ⟨pz, _⟩ := pa_tys G ht
  refine PE_imp (pe_callB call_isiT g1 g3 boot_isi (pa_cons ha (pa_cons (pe_tup pz) pa_nil (star_of rfl)) (star_of hs)) g4 g2 (star_of hs) (plain_of fun z hz => ?_)) fun σ H Q ⟨Kp, B, g, τ, z, g', S, e, k⟩ => ?_
  · have : z = .Tuple zs kk pt := by simpa using hz
    subst this
    rfl
  · simp only [evE, Option.bind_eq_bind, Option.bind_eq_some_iff, Prod.exists] at e
    obtain ⟨x, g1, e1, w, e2, q, e3, e4⟩ := e
    cases e4
    refine ⟨Kp, B, g, τ, x, g', S, e1, fun v H1 B1 p1 G1 => ⟨?_, fun tp hp => ?_⟩⟩
    · rw [List.length_map, sizeLine_eq]
      omega
    · obtain ⟨ty, hty⟩ := isi_ty e3
      have G2 := G1.junk (o := .tup (ts.map fun t => V.ty t.py)) hp
      exact ⟨v, tp, _, ty, ts.map fun t => .type t.py, q, rfl, upd_same, clsvs ts, (G2.now e2).ty hty, kit_anys X.K _ ty hty ts q e3, k (.bl q) _ B1 (.io p1.1) ((G2.st.drop (τ := τ)).leaf (d := .bl q) rfl)⟩
theorem getD_fz {a : D} {w : W} {o : Option D} (e : getD? a w.toD = some o) : ∃ d', w = .fz d' := by
  cases w with
  | fz d => exact ⟨d, rfl⟩
  | _ => cases a <;> cases e
theorem isDc_D {K : PySem.W.Frag} {Kp B H : Hp} {g : Gam} {σ : Sig} {τ : List Ent} {x : Arg} {v : V} (G : Got K Kp B H g σ τ [x] [v]) (e : isDc (res g x) = true) : ∃ a, v = .ref a ∧ IsD H a := by
  cases q : res g x with
  | none => rw [q] at e; cases e
  | some w =>
    rw [q] at e
    obtain ⟨fp, h, _⟩ := G.rep1 q
    cases w with
    | lst ws => cases e
    | dK ws =>
      obtain ⟨p, us, fs, e1, e2, e3, r⟩ := h
      exact ⟨p, e1, .inl ⟨us, .inl e3⟩⟩
    | dT ws =>
      obtain ⟨p, us, fs, e1, e2, e3, r⟩ := h
      exact ⟨p, e1, .inr ⟨us, .inl e3⟩⟩
    | fz d =>
      cases d with
      | dK kv =>
        obtain ⟨p, us, e1, e2, r⟩ := h.2
        exact ⟨p, e1, .inl ⟨us, .inl (G.st.2.sb _ _ e2)⟩⟩
      | dT kv =>
        obtain ⟨p, us, e1, e2, r⟩ := h.2
        exact ⟨p, e1, .inr ⟨us, .inl (G.st.2.sb _ _ e2)⟩⟩
      | _ => cases e
theorem se_get {ap : Pos} (G : Good X S F) (hp : plainBase ea = true) (hl : (ap.endLine == pos.line) = true) (hs : notStar eb = true) (hs2 : notStar ec = true) (ha : SE X F a ea) (hb : SE X F b eb) (hc : SE X F c ec) :
    SE X F (.get a b c) (.Call (.Attribute ea ("get" : Str) ap) [eb, ec] [] pos) := by
  refine PE_imp (pe_dget2 (by have := G.units; omega) ha hb hc ⟨base_of hp, few2 hs hs2, hl, by rw [star_of hs, star_of hs2]; rfl⟩) fun σ H Q ⟨Kp, B, g, τ, z, g', S, e, k⟩ => ?_
  simp only [evE, Option.bind_eq_bind, Option.bind_eq_some_iff, Prod.exists, Option.ite_none_right_eq_some] at e
  obtain ⟨x, g1, e1, y, g2, e2, z0, g3, e3, st, w, e4, wk, e5, o, e6, fl, e7⟩ := e
  rw [Bool.and_eq_true, Bool.and_eq_true] at st
  obtain ⟨⟨sx, sy⟩, di⟩ := st
  refine ⟨Kp, B, g, τ, x, g1, S, e1, fun v H1 B1 p1 G1 => ?_⟩
  obtain ⟨a0, ev, hd⟩ := isDc_D G1 di
  refine ⟨a0, ev, hd, Kp, B1, g1, _, y, g2, G1.st, e2, fun u H2 B2 p2 G2 => ⟨Kp, B2, g2, _, z0, g3, G2.st, e3, fun zv H3 B3 p3 G3 => ?_⟩⟩
  have Gyz := Got.cons G2 (.inl sy) G3
  have Gx : Got X.K Kp B2 H2 g2 σ τ [x, y] [v, u] := G1.cons (.inl sx) G2
  have Gxyz : Got X.K Kp B3 H3 g3 σ τ [x, y, z0] [v, u, zv] := Got.cons (H1 := H1) (B1 := B1) (g1 := g1) G1 (.inl sx) Gyz
  obtain ⟨fp, hw, _⟩ := Gxyz.rep1 e4
  have rt := hw.flat Gxyz.st.2.sb fl
  obtain ⟨dk, ek⟩ := getD_fz e6
  subst ek
  have rk := (Gxyz.tail.leafAt e5).top Gxyz.st.2.sb
  obtain ⟨p, ov, q1, q2, q3⟩ := rt.get rk e6
  rw [ev] at q1
  cases q1
  refine ⟨ov, q2, ?_⟩
  cases o with
  | some d =>
    cases ov with
    | none => exact (q3 : False).elim
    | some vv =>
      cases e7
      exact k vv H3 B3 (.io ((p1.1.trans p2.1).trans p3.1)) ((Gxyz.st.drop (τ := τ)).leaf (show RepD X.K B3 d vv from q3))
  | none =>
    cases ov with
    | some _ => exact (q3 : False).elim
    | none =>
      simp only [Option.bind_eq_some_iff, Prod.exists] at e7
      obtain ⟨d, g4, e8, e9⟩ := e7
      cases e9
      obtain ⟨B4, x4, G4⟩ := (Gxyz.tail.tail).frz e8
      have S4 : Stt X.K Kp B4 H3 g' σ ((.fz d, zv) :: (tmps [y] [u] ++ (tmps [x] [v] ++ τ))) := G4.st
      refine k zv H3 B4 (.io (((p1.1.trans p2.1).trans p3.1).trans x4)) ⟨True.intro, ?_⟩
      have S5 : Stt X.K Kp B4 H3 g' σ ((tmps [y] [u] ++ tmps [x] [v]) ++ ((.fz d, zv) :: τ)) := S4.perm (by
        rw [← List.append_assoc]
        exact List.perm_middle.symm)
      exact S5.drop
end
end PF
end

section
set_option Elab.async false
set_option linter.all false
set_option maxRecDepth 100000
set_option maxHeartbeats 1000000
namespace PF
open PySem PySem.Spec PyProof.Rows L2
open PySem.AutoSeq1 (wpAny_loadPart')

/-! ### enumerate(tuple) -/
theorem meets_enumerate_newT (l : Addr) (items : Array Value) :
    Meets (Builtin.«enumerate.__new__» ⟨[.type "enumerate", .ref l], []⟩) (fun _ R s => s.heap.IsTuple l items ∧
      R (.ok (.ret (.ref (s.heap.push { cls := .type "tuple_iterator", data := .fields #[.ref l, .int 0 0] }).objs.size)))
        { s with heap := (s.heap.push { cls := .type "tuple_iterator", data := .fields #[.ref l, .int 0 0] }).push { cls := .type "enumerate", data := .fields #[.none, .bool false, .ref s.heap.objs.size, rawInt 0, .none, .none] } }) :=
  .of_wp fun prog w A R s h => by
    obtain ⟨hp, g, d, tk, os⟩ := s; obtain ⟨hl, h⟩ := h
    have hsub := sub_enumerate
    have q1 : ∀ {A' : Around} {E : Value → Shared → Prop} {Q : Value → Shared → Prop}, Q (.ref hp.objs.size) ⟨(hp.push { cls := .type "tuple_iterator", data := .fields #[.ref l, .int 0 0] }), g, d, tk, os⟩ → wpAny (model prog w) A' (pyIter (.ref l)) Q E ⟨hp, g, d, tk, os⟩ :=
      fun q => wpAny_pyIter_tuple (s := ⟨hp, g, d, tk, os⟩) hl q
    wp_walk using q1
    refine wpAny_stack_any fun st => wpAny_pure ?_
    split
    · rename_i c _ _ _ _ _
      cases (c == Value.type "enumerate")
      · wp_walk using q1
        exact ⟨_, rfl, h⟩
      · wp_walk using q1
        exact ⟨_, rfl, h⟩
    · wp_walk using q1
      exact ⟨_, rfl, h⟩
theorem call_enumerate_tup {prog : Program} {w : World} {A : Around} {E : Value → Shared → Prop} {s : Shared} {l : Addr} {items : Array Value} {Q : Value → Shared → Prop} (hL : s.heap.IsTuple l items)
    (h : ∀ h', IsEnum h' (s.heap.objs.size + 1) s.heap.objs.size 0 .none → h'.IsTupleIter s.heap.objs.size l 0 → h'.objs.size = s.heap.objs.size + 2 →
      (∀ b o, s.heap.get? b = some o → h'.get? b = some o) → Q (.ref (s.heap.objs.size + 1)) { s with heap := h' }) :
    wpAny (model prog w) A (call (.type "enumerate") [.ref l]) Q E s := by
  refine callType_new F.called_enumerate (by decide) (F.typeCall_enumerate_1 _) (F.newCall_enumerate_1 _) (fun obj => F.args_object_init_2 obj _) F.entry_enumerate_new
    (meets_enumerate_newT l items) ⟨hL, ?_⟩
  have hz : (s.heap.push { cls := .type "tuple_iterator", data := .fields #[.ref l, .int 0 0] }).objs.size = s.heap.objs.size + 1 := Heap.size_push ..
  show _ ∧ _
  rw [hz]
  have he : IsEnum ((s.heap.push { cls := .type "tuple_iterator", data := .fields #[.ref l, .int 0 0] }).push
      { cls := .type "enumerate", data := .fields #[.none, .bool false, .ref s.heap.objs.size, rawInt 0, .none, .none] }) (s.heap.objs.size + 1) s.heap.objs.size 0 .none := by
    have := Heap.get?_push_size (s.heap.push { cls := .type "tuple_iterator", data := .fields #[.ref l, .int 0 0] })
      (o := { cls := .type "enumerate", data := .fields #[.none, .bool false, .ref s.heap.objs.size, rawInt 0, .none, .none] }) rfl
    rw [hz] at this; exact this
  refine ⟨⟨_, he, rfl⟩, h _ he ⟨_, Heap.get?_push_of_some _ (Heap.get?_push_size _ rfl), rfl, rfl⟩ (by rw [Heap.size_push, hz]) fun b o x => Heap.get?_push_of_some _ (Heap.get?_push_of_some _ x)⟩
/-- the tuple at a, each item in a new pair -/
def IteT (K : PySem.W.Frag) (a : Addr) : It :=
  ⟨fun i H => ∃ (xs : List V) (x : V), SqT K H a xs ∧ xs[i]? = some x, fun i H v H' => ∃ T x, v = .ref T ∧ H T = none ∧ H' = upd H T (.tup [.int (i : Nat), x]) ∧ ∀ xs, SqT K H a xs → xs[i]? = some x, fun i H => ∃ xs : List V, SqT K H a xs ∧ xs.length = i⟩
theorem turn_enumT {P : Program} {w : World} {K : PySem.W.Frag} {elts : List Expr} {kk : Nat} {tpos : Pos} (a e it : Addr) (hae : a ≠ e) (hai : a ≠ it) :
    Turn P w K (.Tuple elts kk tpos) (IteT K a) [e, it] e (fun i h => (∃ old, IsEnum h e it ((i : Nat) : Int) old) ∧ h.IsTupleIter it a i ∧ e ≠ it) where
  mem := by simp
  obj := fun i h st b hb => by
    obtain ⟨⟨old, he⟩, ⟨o, ho, hc, hd⟩, _⟩ := st
    have e' : b = e ∨ b = it := by simpa using hb
    rcases e' with z | z
    · rw [z]; exact ⟨_, he, fun v q => nomatch q⟩
    · rw [z]; exact ⟨o, ho, fun v q => by rw [hd] at q; cases q⟩
  keep := fun i h h' st k => let ⟨⟨old, he⟩, hi, hne⟩ := st; ⟨⟨old, k e (by simp) _ he⟩, hi.at fun o q => k it (by simp) o q, hne⟩
  item := by
    intro X hP hw hK hc i pins s σ H E I hf st hg
    subst hP hw hK
    obtain ⟨⟨old, he⟩, hit, hne⟩ := st
    obtain ⟨xs, x, hq, hx⟩ := hg
    obtain ⟨its, rv, p, hz⟩ := I.tuple hq
    obtain ⟨u, hu, ru⟩ := rv.get hx
    have hel : e < s.heap.objs.size := Heap.lt_size he
    have hil : it < s.heap.objs.size := by obtain ⟨_, q, _⟩ := hit; exact Heap.lt_size q
    have hp : s.heap.IsTuple a its.toArray := p
    have hlt : i < its.toArray.size := by
      have := (List.getElem?_eq_some_iff.mp hu).1
      simpa using this
    refine wpAny_pyNext_enum_itemD (Draws.tuple (A := X.A.in1) (I.ok.hd hc) it a hai its.toArray) he ⟨hit, hp⟩ hlt hne (by
      intro z
      have : e = it ∨ e = a := by simpa using z
      exact this.elim hne (fun q => hae q.symm)) fun u' h' tk hu' ho hit' hT hsz hk => ?_
    have eu : u' = u := by
      have : its.toArray[i]? = some u := by simpa using hu
      rw [this] at hu'
      exact (Option.some.inj hu').symm
    subst eu
    refine ⟨_, rfl, wpAny_letOwnedTupleGo_enum (s := { s with heap := h', toks := tk + 1 }) ho fun h'' he' sb => ?_⟩
    have hT2 : h''.get? s.heap.objs.size = some { cls := .type "tuple", data := .seq #[.int i tk, u'] } := (sb.2 _ (Nat.ne_of_gt hel)).trans hT
    have new : ObjOk X.prog X.w (upd H s.heap.objs.size (.tup [.int (i : Nat), x])) h'' s.heap.objs.size (.tup [.int (i : Nat), x]) :=
      ⟨by show 2 ≤ sizeLine; decide, [.int i tk, u'], .cons ⟨_, rfl⟩ (.cons ru .nil), ⟨_, hT2, rfl, _, rfl⟩⟩
    have I1 : Inv X pins σ (upd H s.heap.objs.size (.tup [.int (i : Nat), x])) { s with heap := h'', toks := tk + 1 } :=
      I.turnedNew (ch := [e, it]) (fun b ob hb q => (sb.2 b (fun z => hb (by simp [z]))).trans (hk b ob (fun z => hb (by simp [z])) (fun z => hb (by simp [z])) q)) hf (Nat.le_refl _) new
    refine ⟨.ref s.heap.objs.size, _, I1, rfl, ⟨_, x, rfl, I.hok.fresh (Nat.le_refl _), rfl, fun ys hy => by rw [I.tuple_inj hy hq]; exact hx⟩, ⟨⟨u', ?_⟩, hit'.1.at fun o q => (sb.2 it (Ne.symm hne)).trans q, hne⟩, fun b hb => ?_⟩
    · have e1 : ((i + 1 : Nat) : Int) = (i : Int) + 1 := by omega
      rw [e1]; exact he'
    · have hb' : b < s.heap.objs.size := by
        have e' : b = e ∨ b = it := by simpa using hb
        rcases e' with z | z
        · rw [z]; exact hel
        · rw [z]; exact hil
      rw [upd_ne (Nat.ne_of_lt hb')]
      exact (hf b hb).1
  done := by
    intro X hP hw hK hc i pins s σ H E I hf st hg
    subst hP hw hK
    obtain ⟨⟨old, he⟩, hit, hne⟩ := st
    obtain ⟨xs, hq, hx⟩ := hg
    obtain ⟨its, rv, p, hz⟩ := I.tuple hq
    obtain ⟨f0, f1, f2, f3, f4, f5⟩ := hf it (by simp)
    have hl := rv.length
    have hp : s.heap.IsTuple a its.toArray := p
    have hi : its.toArray.size = i := by simp; omega
    subst hi
    exact wpAny_pyNext_enum_endD (Draws.tuple (A := X.A.in1) (I.ok.hd hc) it a hai its.toArray) he ⟨hit, hp⟩ fun h' eb => ⟨rfl, I.turned (t' := s.toks) (fun b o hb q => eb b o hb q) f0 f1 f3 f4 f5⟩
  self := fun A i s Q E st h => let ⟨⟨_, he⟩, _⟩ := st; wpAny_pyIter_enum he h
def iEnumA (K : PySem.W.Frag) (ta : TA) : TI := fun σ H R => ta σ H fun vs H1 => ∃ a xs, vs = [.ref a] ∧ ((SqL K H1 a xs ∧ R (Ite K a) H1) ∨ (SqT K H1 a xs ∧ R (IteT K a) H1))
theorem pi_enumA {X : Cx} {e : Expr} {ta : TA} {p pos tpos : Pos} {elts : List Expr} {kk : Nat} (hg : Gl X "enumerate") (hm : X.mg "enumerate" = none) (ha : PA X [e] ta) (hs : starEach [e] X.env = [(false, eval e X.env)]) :
    PI X (.Tuple elts kk tpos) (.Call (.Name "enumerate" p) [e] [] pos) (iEnumA X.K ta) := by
  refine ⟨fun pins s σ H R I h => ?_⟩
  refine Call_ (ld_blt I hg hm boot_enumerate (PyProof.Rows.callWith_type1 (thn (ha.run pos pins s σ H _ I h) fun us s1 ⟨vs, H1, I1, r1, q1⟩ => ?_) hs rfl))
  obtain ⟨a, xs, ex, q⟩ := q1
  subst ex
  cases r1 with
  | cons r rr =>
    cases rr
    cases r
    have fr : ∀ b ∈ [s1.heap.objs.size + 1, s1.heap.objs.size], FpOk X pins H1 b := fun b hb => by
      have e' : b = s1.heap.objs.size + 1 ∨ b = s1.heap.objs.size := by simpa using hb
      have hle : s1.heap.objs.size ≤ b := by
        rcases e' with z | z
        · rw [z]; exact Nat.le_add_right _ _
        · rw [z]; exact Nat.le_refl _
      exact I1.fpOk hle (I1.hok.fresh hle)
    rcases q with ⟨hq, q⟩ | ⟨hq, q⟩
    · obtain ⟨its, rv, p', hz⟩ := I1.list hq
      refine call_enumerate_list p'.isList fun h' he hit hsz hk => wpAny_pyIter_enum he ?_
      have I2 : Inv X pins σ H1 { s1 with heap := h' } := I1.kept (t' := s1.toks) hk
      exact ⟨s1.heap.objs.size + 1, [s1.heap.objs.size + 1, s1.heap.objs.size], _, _, H1, rfl, I2, turn_enum a (s1.heap.objs.size + 1) s1.heap.objs.size, ⟨⟨.none, he⟩, hit, Nat.succ_ne_self _⟩, fr, q⟩
    · obtain ⟨its, rv, p', hz⟩ := I1.tuple hq
      have la : a < s1.heap.objs.size := by obtain ⟨o, ho, _⟩ := id p'; exact Heap.lt_size ho
      refine call_enumerate_tup (show s1.heap.IsTuple a its.toArray from p') fun h' he hit hsz hk => wpAny_pyIter_enum he ?_
      have I2 : Inv X pins σ H1 { s1 with heap := h' } := I1.kept (t' := s1.toks) hk
      exact ⟨s1.heap.objs.size + 1, [s1.heap.objs.size + 1, s1.heap.objs.size], _, _, H1, rfl, I2, turn_enumT a (s1.heap.objs.size + 1) s1.heap.objs.size (Nat.ne_of_lt (Nat.lt_succ_of_lt la)) (Nat.ne_of_lt la), ⟨⟨.none, he⟩, hit, Nat.succ_ne_self _⟩, fr, q⟩
def iSeq (K : PySem.W.Frag) (tl : TE) : TI := fun σ H R => tl σ H fun x H1 => ∃ a, x = .ref a ∧ (((∃ xs, SqL K H1 a xs) ∧ R (Itl K a) H1) ∨ ((∃ xs, SqT K H1 a xs) ∧ R (Itt K a) H1))
theorem pi_seq {X : Cx} {tg l : Expr} {tl : TE} (hl : PE X l tl) : PI X tg l (iSeq X.K tl) := by
  refine ⟨fun pins s σ H R I h => ?_⟩
  refine thn (hl.run pins s σ H _ I h) fun v s1 ⟨x, H1, I1, r1, q1⟩ => ?_
  obtain ⟨a, e, q⟩ := q1
  subst e
  cases r1
  rcases q with ⟨⟨xs, hq⟩, q⟩ | ⟨⟨xs, hq⟩, q⟩
  · obtain ⟨its, rv, p, hz⟩ := I1.list hq
    refine wpAny_pyIter_list p.isList ?_
    refine ⟨s1.heap.objs.size, [s1.heap.objs.size], _, _, H1, rfl, I1.kept (t' := s1.toks) fun b o e => Heap.get?_push_of_some _ e, turn_list a _, ⟨_, Heap.get?_push_size _ rfl, rfl, rfl⟩, fun b hb => ?_, q⟩
    have e : b = s1.heap.objs.size := by simpa using hb
    subst e
    exact I1.fpOk (Nat.le_refl _) (I1.hok.fresh (Nat.le_refl _))
  · obtain ⟨its, rv, p, hz⟩ := I1.tuple hq
    refine wpAny_pyIter_tuple (show s1.heap.IsTuple a its.toArray from p) ?_
    refine ⟨s1.heap.objs.size, [s1.heap.objs.size], _, _, H1, rfl, I1.kept (t' := s1.toks) fun b o e => Heap.get?_push_of_some _ e, turn_tuple a _, ⟨_, Heap.get?_push_size _ rfl, rfl, rfl⟩, fun b hb => ?_, q⟩
    have e : b = s1.heap.objs.size := by simpa using hb
    subst e
    exact I1.fpOk (Nat.le_refl _) (I1.hok.fresh (Nat.le_refl _))
end PF
end

section
set_option Elab.async false
set_option linter.all false
set_option maxRecDepth 100000
set_option maxHeartbeats 1000000
namespace PF
open PySem PySem.Spec PyProof.Rows L2 RZ

/-- what a turn gives -/
def YD (K : PySem.W.Frag) (B : Hp) (ds : List D) : Nat → Hp → V → Hp → Prop := fun i H x H' => ∃ d, ds[i]? = some d ∧ ((H' = H ∧ RepD K B d x) ∨ ∃ p vs es, x = .ref p ∧ H p = none ∧ H' = upd H p (.tup vs) ∧ d = .tup es ∧ RepDs K B es vs)
def WalkD (K : PySem.W.Frag) (J : It) (B : Hp) (ds : List D) : Prop := Walk J ds.length (fun H => Same B H) (YD K B ds)
def tIt (K : PySem.W.Frag) (f : Gam → Option (List D × Gam)) : TI := fun σ H R => ∃ Kp B g τ ds g', Stt K Kp B H g σ τ ∧ f g = some (ds, g') ∧ ∀ J H' B', Ext Kp B B' → Stt K Kp B' H' g' σ τ → WalkD K J B' ds → R J H'
section
variable {K : PySem.W.Frag} {B H : Hp} {a b : Addr} {ds es : List D} {vs us : List V}
theorem RepDs.at {i : Nat} {v : V} (r : RepDs K B ds vs) (e : vs[i]? = some v) : ∃ d, ds[i]? = some d ∧ RepD K B d v := by
  have hi := (List.getElem?_eq_some_iff.mp e).1
  have hd : ds[i]? = some (ds[i]'(by rw [r.len]; exact hi)) := List.getElem?_eq_getElem _
  obtain ⟨v', e', h⟩ := r.get hd
  rw [e] at e'
  cases e'
  exact ⟨_, hd, h⟩
theorem wd_list (h : B a = some (.lst vs)) (r : RepDs K B ds vs) : WalkD K (Itl K a) B ds := by
  unfold WalkD
  rw [r.len]
  exact walk_list.mono (fun H s => .inl (.inl (s _ _ h))) fun i H x H' _ s y => by
    obtain ⟨d, e, q⟩ := r.at y.2
    exact ⟨d, e, .inl ⟨y.1, q⟩⟩
theorem wd_tup (h : ∀ H, Same B H → SqT K H a vs) (r : RepDs K B ds vs) : WalkD K (Itt K a) B ds := by
  unfold WalkD
  rw [r.len]
  exact walk_tup.mono (fun H s => h H s) fun i H x H' _ s y => by
    obtain ⟨d, e, q⟩ := r.at y.2
    exact ⟨d, e, .inl ⟨y.1, q⟩⟩
theorem numbered_len : ∀ (n : Nat) (ds : List D), (numbered n ds).length = ds.length
  | _, [] => rfl
  | n, d :: ds => by
    show (numbered (n + 1) ds).length + 1 = ds.length + 1
    rw [numbered_len (n + 1) ds]
theorem numbered_get : ∀ (n : Nat) (ds : List D) (i : Nat) (d : D), ds[i]? = some d → (numbered n ds)[i]? = some (.tup [.int ((n + i : Nat) : Int), d])
  | _, [], _, _, e => by simp at e
  | n, d :: ds, 0, d', e => by
    simp only [List.getElem?_cons_zero, Option.some.injEq] at e
    subst e
    rfl
  | n, d :: ds, i + 1, d', e => by
    have := numbered_get (n + 1) ds i d' (by simpa using e)
    show (numbered (n + 1) ds)[i]? = _
    rw [this, show n + 1 + i = n + (i + 1) by omega]
theorem pairUp_len : ∀ (a b : List D), (pairUp a b).length = min a.length b.length
  | [], _ => by simp [pairUp]
  | _ :: _, [] => by simp [pairUp]
  | _ :: a, _ :: b => by
    show (pairUp a b).length + 1 = min (a.length + 1) (b.length + 1)
    rw [pairUp_len a b]
    omega
theorem pairUp_get : ∀ (a b : List D) (i : Nat) (x y : D), a[i]? = some x → b[i]? = some y → (pairUp a b)[i]? = some (.tup [x, y])
  | [], _, _, _, _, e, _ => by simp at e
  | _ :: _, [], _, _, _, _, e => by simp at e
  | p :: a, q :: b, 0, x, y, e1, e2 => by
    simp only [List.getElem?_cons_zero, Option.some.injEq] at e1 e2
    subst e1 e2
    rfl
  | p :: a, q :: b, i + 1, x, y, e1, e2 => pairUp_get a b i x y (by simpa using e1) (by simpa using e2)
theorem wd_enumL (h : B a = some (.lst vs)) (r : RepDs K B ds vs) : WalkD K (Ite K a) B (numbered 0 ds) := by
  unfold WalkD
  rw [numbered_len, r.len]
  exact walk_enum.mono (fun H s => .inl (.inl (s _ _ h))) fun i H x H' _ s y => by
    obtain ⟨T, x0, y0, e1, e2, e3, e4, e5⟩ := y
    obtain ⟨d, e, q⟩ := r.at e5
    cases e4
    refine ⟨_, numbered_get 0 ds i d e, .inr ⟨T, _, _, e1, e2, e3, rfl, .int i, [y0], ?_, ?_, y0, [], rfl, q, rfl⟩⟩
    · rfl
    · show V.int (i : Nat) = V.int ((0 + i : Nat) : Int)
      rw [Nat.zero_add]
theorem walk_enumT {xs : List V} : Walk (IteT K a) xs.length (fun H => SqT K H a xs) (YPair (fun i => some (.int (i : Nat))) (fun i => xs[i]?)) := by
  refine ⟨fun i _ hi q => ⟨xs, xs[i], q, by simp [hi]⟩, fun _ q => ⟨xs, q, rfl⟩, fun i H v H' _ q y => ?_⟩
  obtain ⟨T, x, h1, h2, h3, h4⟩ := y
  exact ⟨T, .int (i : Nat), x, h1, h2, h3, rfl, h4 xs q⟩
theorem wd_enumT (h : ∀ H, Same B H → SqT K H a vs) (r : RepDs K B ds vs) : WalkD K (IteT K a) B (numbered 0 ds) := by
  unfold WalkD
  rw [numbered_len, r.len]
  exact walk_enumT.mono (fun H s => h H s) fun i H x H' _ s y => by
    obtain ⟨T, x0, y0, e1, e2, e3, e4, e5⟩ := y
    obtain ⟨d, e, q⟩ := r.at e5
    cases e4
    refine ⟨_, numbered_get 0 ds i d e, .inr ⟨T, _, _, e1, e2, e3, rfl, .int i, [y0], ?_, ?_, y0, [], rfl, q, rfl⟩⟩
    · rfl
    · show V.int (i : Nat) = V.int ((0 + i : Nat) : Int)
      rw [Nat.zero_add]
theorem pair_YD {xs ys : List V} {i : Nat} {H H' : Hp} {x : V} (r : RepDs K B ds xs) (q : RepDs K B es ys) (y : YPair (fun i => xs[i]?) (fun i => ys[i]?) i H x H') : YD K B (pairUp ds es) i H x H' := by
  obtain ⟨T, x0, y0, e1, e2, e3, e4, e5⟩ := y
  obtain ⟨d, f1, g1⟩ := r.at e4
  obtain ⟨d', f2, g2⟩ := q.at e5
  exact ⟨_, pairUp_get ds es i d d' f1 f2, .inr ⟨T, _, _, e1, e2, e3, rfl, x0, [y0], rfl, g1, y0, [], rfl, g2, rfl⟩⟩
theorem wd_zipL (h : B a = some (.lst vs)) (h' : B b = some (.lst us)) (r : RepDs K B ds vs) (q : RepDs K B es us) : WalkD K (Itz K a b) B (pairUp ds es) := by
  unfold WalkD
  rw [pairUp_len, r.len, q.len]
  exact (walk_zip rfl).mono (fun H s => ⟨.inl (.inl (s _ _ h)), .inl (.inl (s _ _ h'))⟩) fun i H x H' _ s y => pair_YD r q y
theorem wd_zipT (h : ∀ H, Same B H → SqT K H a vs) (h' : ∀ H, Same B H → SqT K H b us) (r : RepDs K B ds vs) (q : RepDs K B es us) : WalkD K (ItzT K a b) B (pairUp ds es) := by
  unfold WalkD
  rw [pairUp_len, r.len, q.len]
  refine Walk.mono (G := fun H => SqT K H a vs ∧ SqT K H b us) (Y := YPair (fun i => vs[i]?) (fun i => us[i]?)) ⟨fun i _ hi q => ?_, fun _ q => ⟨vs, us, q.1, q.2, by omega⟩, fun i H v H' _ q y => ?_⟩ (fun H s => ⟨h H s, h' H s⟩) fun i H x H' _ s y => pair_YD r q y
  · have h1 : i < vs.length := by omega
    have h2 : i < us.length := by omega
    exact ⟨vs, us, vs[i], us[i], q.1, q.2, by simp [h1], by simp [h2]⟩
  · obtain ⟨T, x, z, h1, h2, h3, h4, h5⟩ := y
    exact ⟨T, x, z, h1, h2, h3, h4 vs q.1, h5 us q.2⟩
theorem wd_range (lo : Int) (n : Nat) : WalkD K (Itr lo n) B ((List.range n).map fun k => .int (lo + (k : Nat))) := by
  unfold WalkD
  rw [List.length_map, List.length_range]
  exact walk_range.mono (fun _ _ => True.intro) fun i H x H' hi s y => ⟨.int (lo + (i : Nat)), by simp [hi], .inl ⟨y.1, y.2⟩⟩
/-- what a frozen tuple is -/
theorem tup_SqT {v : V} (h : RepD K B (.tup ds) v) : ∃ a vs, v = .ref a ∧ (∀ H, Same B H → SqT K H a vs) ∧ RepDs K B ds vs := by
  obtain ⟨a, vs, e1, e2, r⟩ := h
  exact ⟨a, vs, e1, fun H s => .inl (.inl (s _ _ e2)), r⟩
theorem pt_SqT {v : V} (h : RepD K B (.pt ds) v) : ∃ a vs, v = .ref a ∧ (∀ H, Same B H → SqT K H a vs) ∧ RepDs K B ds vs := by
  obtain ⟨a, vs, o, e1, e2, n, r⟩ := h
  exact ⟨a, vs, e1, fun H s => .inl (.inr ⟨o, s _ _ e2⟩), r⟩
end
section
variable {K : PySem.W.Frag} {Kp B B' H H' : Hp} {g g' g1 g2 : Gam} {σ : Sig} {τ es0 : List Ent} {x y : Arg} {xs ys : List Arg} {v u : V} {vs us : List V}
theorem Got.frzD {d : D} (G : Got K Kp B H g σ τ [x] [v]) (e : frzA g x = some (d, g')) : ∃ B', Ext Kp B B' ∧ Stt K Kp B' H g' σ τ ∧ RepD K B' d v := by
  obtain ⟨B', x, G'⟩ := G.frz e
  have R : Rp K Kp B' H ((.fz d, v) :: (slotEs g' σ ++ τ)) := G'.st.2.perm List.perm_middle
  exact ⟨B', x, ⟨G'.st.1, R.tail⟩, R.leafOf⟩
end
def SI (X : Cx) (F : Nat → List W → Option (W × List W)) (ii : II) (tg e : Expr) : Prop := PI X tg e (tIt X.K (evI F ii))
section
variable {X : Cx} {S : Sc} {F : Nat → List W → Option (W × List W)} {a b c i : IE} {ea eb ec : Expr} {pos p : Pos} {il : IL} {es : List Expr} {tg : Expr}
theorem si_val (ha : SE X F a ea) : SI X F (.val a) tg ea := by
  refine PI_imp (pi_seq ha) fun σ H R ⟨Kp, B, g, τ, ds, g', S, e, k⟩ => ?_
  simp only [evI, Option.bind_eq_bind, Option.bind_eq_some_iff, Prod.exists] at e
  obtain ⟨x, g1, e1, d, g2, e2, ds', e3, e4⟩ := e
  cases e4
  refine ⟨Kp, B, g, τ, x, g1, S, e1, fun v H1 B1 p1 G1 => ?_⟩
  obtain ⟨B2, x2, S2, r⟩ := G1.frzD e2
  have x12 := p1.1.trans x2
  cases d with
  | lst xs =>
    cases e3
    obtain ⟨q, vs, f1, f2, f3⟩ := r
    exact ⟨q, f1, .inl ⟨⟨vs, .inl (.inl (S2.2.sb _ _ f2))⟩, k _ _ B2 x12 S2 (wd_list f2 f3)⟩⟩
  | tup xs =>
    cases e3
    obtain ⟨q, vs, f1, f2, f3⟩ := tup_SqT r
    exact ⟨q, f1, .inr ⟨⟨vs, f2 _ S2.2.sb⟩, k _ _ B2 x12 S2 (wd_tup f2 f3)⟩⟩
  | pt xs =>
    cases e3
    obtain ⟨q, vs, f1, f2, f3⟩ := pt_SqT r
    exact ⟨q, f1, .inr ⟨⟨vs, f2 _ S2.2.sb⟩, k _ _ B2 x12 S2 (wd_tup f2 f3)⟩⟩
  | _ => cases e3
theorem evL1 {g g1 : Gam} {x : Arg} (e : evE F a g = some (x, g1)) : evL F (.cons a .nil) g = some ([x], g1) := by
  simp only [evL, Option.bind_eq_bind, Option.bind_eq_some_iff, Prod.exists, Option.ite_none_right_eq_some]
  exact ⟨x, g1, e, [], g1, rfl, by simp [pureL], rfl⟩
theorem evL2 {g g1 g2 : Gam} {x y : Arg} (e : evE F a g = some (x, g1)) (e2 : evE F b g1 = some (y, g2)) (st : (x.simple || pureE b) = true) : evL F (.cons a (.cons b .nil)) g = some ([x, y], g2) := by
  simp only [evL, Option.bind_eq_bind, Option.bind_eq_some_iff, Prod.exists, Option.ite_none_right_eq_some]
  exact ⟨x, g1, e, [y], g2, ⟨y, g2, e2, [], g2, rfl, by simp [pureL], rfl⟩, by simpa [pureL] using st, rfl⟩
theorem got1 {K : PySem.W.Frag} {Kp B H : Hp} {g : Gam} {σ : Sig} {τ : List Ent} {x : Arg} {vs : List V} (G : Got K Kp B H g σ τ [x] vs) : ∃ v, vs = [v] := by
  cases vs with
  | nil => cases x <;> exact (G.pth : False).elim
  | cons v r =>
    cases r with
    | nil => exact ⟨v, rfl⟩
    | cons _ _ =>
      exfalso
      have := G.pth
      cases x with
      | tmp w => exact this
      | pth i st => exact this.2
theorem got2 {K : PySem.W.Frag} {Kp B H : Hp} {g : Gam} {σ : Sig} {τ : List Ent} {x y : Arg} {vs : List V} (G : Got K Kp B H g σ τ [x, y] vs) : ∃ v u, vs = [v, u] := by
  cases vs with
  | nil => cases x <;> exact (G.pth : False).elim
  | cons v r =>
    obtain ⟨u, e⟩ := got1 G.tail
    subst e
    exact ⟨v, u, rfl⟩
theorem si_rng1 (G : Good X S F) (hg : bltS S ("range" : Str) = true) (hs : notStar ea = true) (ha : SE X F a ea) : SI X F (.rng1 a) tg (.Call (.Name ("range" : Str) p) [ea] [] pos) := by
  obtain ⟨g1, g2, g3, g4⟩ := G.blt hg
  refine PI_imp (pi_range1 g1 g3 (sa_cons hs ha sa_nil) (star_of hs)) fun σ H R ⟨Kp, B, g, τ, ds, g', S, e, k⟩ => ?_
  simp only [evI, Option.bind_eq_bind, Option.bind_eq_some_iff, Prod.exists] at e
  obtain ⟨x, g1, e1, e2⟩ := e
  split at e2
  · rename_i n er
    rw [Option.ite_none_right_eq_some] at e2
    obtain ⟨bb, e3⟩ := e2
    have bb := absLe_ok bb
    have b1 : -(2 ^ 62) ≤ n := by omega
    have b2 : n < 2 ^ 62 := by omega
    cases e3
    refine ⟨Kp, B, g, τ, [x], g', S, evL1 e1, fun vs H1 B1 p1 G1 => ?_⟩
    obtain ⟨v, ev⟩ := got1 G1
    subst ev
    have hv : v = .int n := G1.now er
    refine ⟨n, by rw [hv], b1, b2, k _ _ B1 p1.1 (G1.st.drop (τ := τ)) ?_⟩
    have := wd_range (K := X.K) (B := B1) 0 n.toNat
    simpa using this
  · cases e2
theorem si_rng2 (G : Good X S F) (hg : bltS S ("range" : Str) = true) (hs : notStar ea = true) (hs2 : notStar eb = true) (ha : SE X F a ea) (hb : SE X F b eb) : SI X F (.rng2 a b) tg (.Call (.Name ("range" : Str) p) [ea, eb] [] pos) := by
  obtain ⟨g1, g2, g3, g4⟩ := G.blt hg
  refine PI_imp (pi_range2 g1 g3 (sa_cons hs ha (sa_cons hs2 hb sa_nil)) (by rw [star_of hs, star_of hs2]; rfl) (star_of hs2)) fun σ H R ⟨Kp, B, g, τ, ds, g', S, e, k⟩ => ?_
  simp only [evI, Option.bind_eq_bind, Option.bind_eq_some_iff, Prod.exists, Option.ite_none_right_eq_some] at e
  obtain ⟨x, g1, e1, y, g2, e2, st, e3⟩ := e
  split at e3
  · rename_i n m er1 er2
    rw [Option.ite_none_right_eq_some] at e3
    rw [Bool.and_eq_true] at e3
    obtain ⟨⟨bb, bc⟩, e4⟩ := e3
    have bb := absLe_ok bb
    have bc := absLe_ok bc
    have b1 : -(2 ^ 62) ≤ n := by omega
    have b2 : n < 2 ^ 62 := by omega
    have b3 : -(2 ^ 62) ≤ m := by omega
    have b4 : m < 2 ^ 62 := by omega
    cases e4
    refine ⟨Kp, B, g, τ, [x, y], g', S, evL2 e1 e2 (by rw [st]; rfl), fun vs H1 B1 p1 G1 => ?_⟩
    obtain ⟨v, u, ev⟩ := got2 G1
    subst ev
    have hv : v = .int n := G1.now er1
    have hu : u = .int m := G1.tail.now er2
    exact ⟨n, m, by rw [hv, hu], ⟨b1, b2, b3, b4⟩, k _ _ B1 p1.1 (G1.st.drop (τ := τ)) (wd_range n (m - n).toNat)⟩
  · cases e3
theorem si_enu {elts : List Expr} {kk : Nat} {tpos : Pos} (G : Good X S F) (hg : bltS S ("enumerate" : Str) = true) (hs : notStar ea = true) (ha : SE X F a ea) : SI X F (.enu a) (.Tuple elts kk tpos) (.Call (.Name ("enumerate" : Str) p) [ea] [] pos) := by
  obtain ⟨g1, g2, g3, g4⟩ := G.blt hg
  refine PI_imp (pi_enumA g1 g3 (sa_cons hs ha sa_nil) (star_of hs)) fun σ H R ⟨Kp, B, g, τ, ds, g', S, e, k⟩ => ?_
  simp only [evI, Option.bind_eq_bind, Option.bind_eq_some_iff, Prod.exists] at e
  obtain ⟨x, g1, e1, d, g2, e2, ds', e3, e4⟩ := e
  cases e4
  refine ⟨Kp, B, g, τ, [x], g1, S, evL1 e1, fun vs H1 B1 p1 G1 => ?_⟩
  obtain ⟨v, ev⟩ := got1 G1
  subst ev
  obtain ⟨B2, x2, S2, r⟩ := G1.frzD e2
  have x12 := p1.1.trans x2
  cases d with
  | lst xs =>
    cases e3
    obtain ⟨q, vs, f1, f2, f3⟩ := r
    exact ⟨q, vs, by rw [f1], .inl ⟨.inl (.inl (S2.2.sb _ _ f2)), k _ _ B2 x12 S2 (wd_enumL f2 f3)⟩⟩
  | tup xs =>
    cases e3
    obtain ⟨q, vs, f1, f2, f3⟩ := tup_SqT r
    exact ⟨q, vs, by rw [f1], .inr ⟨f2 _ S2.2.sb, k _ _ B2 x12 S2 (wd_enumT f2 f3)⟩⟩
  | pt xs =>
    cases e3
    obtain ⟨q, vs, f1, f2, f3⟩ := pt_SqT r
    exact ⟨q, vs, by rw [f1], .inr ⟨f2 _ S2.2.sb, k _ _ B2 x12 S2 (wd_enumT f2 f3)⟩⟩
  | _ => cases e3
theorem si_zip {elts : List Expr} {kk : Nat} {tpos : Pos} (G : Good X S F) (hg : bltS S ("zip" : Str) = true) (hs : notStar ea = true) (hs2 : notStar eb = true) (ha : SE X F a ea) (hb : SE X F b eb) : SI X F (.zip a b) (.Tuple elts kk tpos) (.Call (.Name ("zip" : Str) p) [ea, eb] [] pos) := by
  obtain ⟨g1, g2, g3, g4⟩ := G.blt hg
  refine PI_imp (pi_zipA g1 g3 (sa_cons hs ha (sa_cons hs2 hb sa_nil)) (star_of hs) (plain_of fun z hz => by
    have : z = eb := by simpa using hz
    rw [this]; exact hs2)) fun σ H R ⟨Kp, B, g, τ, ds, g', S, e, k⟩ => ?_
  simp only [evI, Option.bind_eq_bind, Option.bind_eq_some_iff, Prod.exists, Option.ite_none_right_eq_some] at e
  obtain ⟨x, g1, e1, y, g2, e2, st, d, g3, e3, d', g4, e4, e5⟩ := e
  refine ⟨Kp, B, g, τ, [x, y], g2, S, evL2 e1 e2 (by rw [st]; rfl), fun vs H1 B1 p1 G1 => ?_⟩
  obtain ⟨v, u, ev⟩ := got2 G1
  subst ev
  obtain ⟨B2, x2, G2⟩ := G1.frz e3
  obtain ⟨B3, x3, S3, r'⟩ := G2.frzD e4
  have x13 := (p1.1.trans x2).trans x3
  have Rr : Rp X.K Kp B3 H1 ((.fz d, v) :: (slotEs g4 σ ++ τ)) := S3.2.perm List.perm_middle
  have r := Rr.leafOf
  have S4 : Stt X.K Kp B3 H1 g4 σ τ := ⟨S3.1, Rr.tail⟩
  have goT : ∀ {xs ys : List D}, (∃ a vs, v = .ref a ∧ (∀ H, Same B3 H → SqT X.K H a vs) ∧ RepDs X.K B3 xs vs) → (∃ a vs, u = .ref a ∧ (∀ H, Same B3 H → SqT X.K H a vs) ∧ RepDs X.K B3 ys vs) → some (pairUp xs ys, g4) = some (ds, g') →
      ∃ a b xs ys, [v, u] = [.ref a, .ref b] ∧ ((SqL X.K H1 a xs ∧ SqL X.K H1 b ys ∧ R (Itz X.K a b) H1) ∨ (SqT X.K H1 a xs ∧ SqT X.K H1 b ys ∧ R (ItzT X.K a b) H1)) := by
    intro xs ys ⟨a, us, q1, q2, q3⟩ ⟨b, ws, f1, f2, f3⟩ e
    cases e
    exact ⟨a, b, us, ws, by rw [q1, f1], .inr ⟨q2 _ S4.2.sb, f2 _ S4.2.sb, k _ _ B3 x13 S4 (wd_zipT q2 f2 q3 f3)⟩⟩
  cases d with
  | lst xs =>
    cases d' with
    | lst ys =>
      cases e5
      obtain ⟨a, us, q1, q2, q3⟩ := r
      obtain ⟨b, ws, f1, f2, f3⟩ := r'
      exact ⟨a, b, us, ws, by rw [q1, f1], .inl ⟨.inl (.inl (S4.2.sb _ _ q2)), .inl (.inl (S4.2.sb _ _ f2)), k _ _ B3 x13 S4 (wd_zipL q2 f2 q3 f3)⟩⟩
    | _ => cases e5
  | tup xs =>
    cases d' with
    | tup ys => exact goT (tup_SqT r) (tup_SqT r') e5
    | pt ys => exact goT (tup_SqT r) (pt_SqT r') e5
    | _ => cases e5
  | pt xs =>
    cases d' with
    | tup ys => exact goT (pt_SqT r) (tup_SqT r') e5
    | pt ys => exact goT (pt_SqT r) (pt_SqT r') e5
    | _ => cases e5
  | _ => cases e5
end
end PF
end

section
set_option Elab.async false
set_option linter.all false
set_option maxRecDepth 100000
set_option maxHeartbeats 1000000
namespace PF
open PySem PySem.Spec PyProof.Rows L2 RZ

/-! ### slots that a block wipes -/
theorem wipe_out {σ : Sig} {i : Nat} : ∀ {vs : List Nat}, i ∉ vs → (wipe σ vs)[i]? = σ[i]?
  | [], _ => rfl
  | v :: vs, h => by
    unfold wipe
    rw [List.getElem?_set_ne (fun e => h (by simp [e])), wipe_out fun q => h (by simp [q])]
theorem wipeG_out {g : Gam} {i : Nat} : ∀ {vs : List Nat}, i ∉ vs → (wipeG g vs)[i]? = g[i]?
  | [], _ => rfl
  | v :: vs, h => by
    unfold wipeG
    rw [List.getElem?_set_ne (fun e => h (by simp [e])), wipeG_out fun q => h (by simp [q])]
theorem wipe_in {σ : Sig} {i : Nat} : ∀ {vs : List Nat}, i ∈ vs → i < σ.length → (wipe σ vs)[i]? = some none
  | [], h, _ => by cases h
  | v :: vs, h, hi => by
    unfold wipe
    by_cases e : v = i
    · subst e
      rw [List.getElem?_set_self (by rw [wipe_length]; exact hi)]
    · rw [List.getElem?_set_ne e]
      exact wipe_in ((List.mem_cons.mp h).resolve_left (fun q => e q.symm)) hi
theorem wipe_eq {σ σ' : Sig} {vs : List Nat} (l : σ'.length = σ.length) (h : ∀ i, i ∉ vs → σ'[i]? = σ[i]?) : wipe σ' vs = wipe σ vs := by
  apply List.ext_getElem?
  intro i
  by_cases hv : i ∈ vs
  · by_cases hi : i < σ.length
    · rw [wipe_in hv hi, wipe_in hv (by rw [l]; exact hi)]
    · rw [List.getElem?_eq_none (by rw [wipe_length]; omega), List.getElem?_eq_none (by rw [wipe_length]; omega)]
  · rw [wipe_out hv, wipe_out hv, h i hv]
theorem wipe_wipe {σ σ' : Sig} {vs : List Nat} (l : σ'.length = σ.length) (h : ∀ i, i ∉ vs → σ'[i]? = (wipe σ vs)[i]?) : wipe σ' vs = wipe σ vs := wipe_eq l fun i hi => by rw [h i hi, wipe_out hi]
theorem slotok_any : ∀ {g : Gam} {s : Sig} {i : Nat} {x : Option V}, SlotOk g (s.set i x) → SlotOk (g.set i none) s
  | [], [], _, _, h => True.intro
  | [], _ :: _, 0, _, h => (h : False).elim
  | [], _ :: _, _ + 1, _, h => (h : False).elim
  | _ :: _, [], _, _, h => by
    rename_i a g i x
    cases a <;> exact (h : False).elim
  | a :: g, b :: s, 0, x, h => by
    show SlotOk g s
    cases a with
    | none => exact h
    | some w =>
      cases x with
      | none => exact (h : False).elim
      | some v => exact h
  | a :: g, b :: s, i + 1, x, h => by
    cases a with
    | none => exact slotok_any (g := g) (s := s) (i := i) (x := x) h
    | some w =>
      cases b with
      | none => exact (h : False).elim
      | some v => exact slotok_any (g := g) (s := s) (i := i) (x := x) h
theorem slotok_set_none {g : Gam} {s : Sig} {i : Nat} (h : SlotOk (g.set i none) s) (x : Option V) : SlotOk (g.set i none) (s.set i x) := by
  revert s i
  induction g with
  | nil =>
    intro s i h
    cases s with
    | nil => exact True.intro
    | cons b s => exact (h : False).elim
  | cons a g ih =>
    intro s i h
    cases s with
    | nil => cases i <;> cases a <;> exact (h : False).elim
    | cons b s =>
      cases i with
      | zero => exact h
      | succ i =>
        cases a with
        | none => exact ih (s := s) (i := i) h
        | some w =>
          cases b with
          | none => exact (h : False).elim
          | some v => exact ih (s := s) (i := i) h
theorem slotok_none {g : Gam} {s : Sig} {i : Nat} (h : SlotOk g (s.set i none)) (hi : i < s.length) : g.set i none = g := by
  revert s i
  induction g with
  | nil => intro s i h hi; rfl
  | cons a g ih =>
    intro s i h hi
    cases s with
    | nil => cases hi
    | cons b s =>
      cases i with
      | zero =>
        cases a with
        | none => rfl
        | some w => exact (h : False).elim
      | succ i =>
        show a :: g.set i none = a :: g
        have h' : SlotOk g (s.set i none) := by
          cases a with
          | none => exact h
          | some w =>
            cases b with
            | none => exact (h : False).elim
            | some v => exact h
        rw [ih h' (by simpa using hi)]
theorem wipe_slots {g : Gam} {σ : Sig} : ∀ {vs : List Nat}, vs.Nodup → SlotOk g σ → SlotOk (wipeG g vs) (wipe σ vs) ∧ ∃ ks : List Ent, (slotEs g σ).Perm (slotEs (wipeG g vs) (wipe σ vs) ++ ks) ∧
    ∀ g2, SlotOk g2 (wipe σ vs) → SlotOk (backG g g2 vs) σ ∧ (slotEs g2 (wipe σ vs) ++ ks).Perm (slotEs (backG g g2 vs) σ)
  | [], _, so => ⟨so, [], by rw [List.append_nil]; exact .refl _, fun g2 h => ⟨h, by rw [List.append_nil]; exact .refl _⟩⟩
  | v :: vs, nd, so => by
    obtain ⟨nv, nd'⟩ := List.nodup_cons.mp nd
    obtain ⟨so', ks, p, k⟩ := wipe_slots nd' so
    have l : (wipeG g vs).length = (wipe σ vs).length := so'.len
    show SlotOk ((wipeG g vs).set v none) ((wipe σ vs).set v none) ∧ ∃ ks : List Ent, (slotEs g σ).Perm (slotEs ((wipeG g vs).set v none) ((wipe σ vs).set v none) ++ ks) ∧
      ∀ g2, SlotOk g2 ((wipe σ vs).set v none) → SlotOk (backG g (g2.set v ((g[v]?).join)) vs) σ ∧ (slotEs g2 ((wipe σ vs).set v none) ++ ks).Perm (slotEs (backG g (g2.set v ((g[v]?).join)) vs) σ)
    have so2 : SlotOk ((wipeG g vs).set v none) ((wipe σ vs).set v none) := slotok_set_none so'.drop none
    rw [slot_none so']
    cases q : g[v]? with
    | none =>
      have hv : g.length ≤ v := List.getElem?_eq_none_iff.mp q
      have e1 : (wipe σ vs).set v none = wipe σ vs := List.set_eq_of_length_le (by rw [wipe_length, ← so.len]; exact hv)
      have e2 : (wipeG g vs).set v none = wipeG g vs := List.set_eq_of_length_le (by rw [l, wipe_length, ← so.len]; exact hv)
      refine ⟨so2, ks, ?_, fun g2 h => ?_⟩
      · rw [e2]; exact p
      · rw [e1] at h ⊢
        have e3 : g2.set v (Option.join (none : Option (Option W))) = g2 := List.set_eq_of_length_le (by rw [h.len, wipe_length, ← so.len]; exact hv)
        rw [e3]
        exact k g2 h
    | some o =>
      have hv : v < g.length := (List.getElem?_eq_some_iff.mp q).1
      have hvσ : v < (wipe σ vs).length := by rw [wipe_length, ← so.len]; exact hv
      have qw : (wipeG g vs)[v]? = some o := by rw [wipeG_out nv]; exact q
      cases o with
      | none =>
        have e2 : (wipeG g vs).set v none = wipeG g vs := set_self qw
        refine ⟨so2, ks, by rw [e2]; exact p, fun g2 h => ?_⟩
        have h2 : SlotOk (g2.set v none) (wipe σ vs) := slotok_any h
        obtain ⟨k1, k2⟩ := k _ h2
        refine ⟨k1, ?_⟩
        have e4 := slotok_none h hvσ
        have e5 : slotEs g2 ((wipe σ vs).set v none) = slotEs (g2.set v none) (wipe σ vs) := by
          have := slot_none (x := none) h2 (i := v)
          rw [List.set_set] at this
          rw [← this, e4]
        rw [e5]
        exact k2
      | some w =>
        obtain ⟨u, eu⟩ := so'.get qw
        refine ⟨so2, (w, u) :: ks, ?_, fun g2 h => ?_⟩
        · refine p.trans (((so'.take qw eu).append_right ks).trans ?_)
          exact List.perm_middle.symm
        · have e4 := slotok_none h hvσ
          have h2 : SlotOk (g2.set v (some w)) (wipe σ vs) := by
            have := SlotOk.set (i := v) (w := w) (v := u) h
            rw [List.set_set, set_self eu] at this
            exact this
          obtain ⟨k1, k2⟩ := k _ h2
          refine ⟨k1, List.Perm.trans ?_ k2⟩
          have hg : v < g2.length := by rw [h.len, List.length_set]; exact hvσ
          have pp := h.put (i := v) (w := w) (v := u) hg
          rw [List.set_set, set_self eu, e4] at pp
          exact List.perm_middle.trans (pp.append_right ks)
section
variable {K : PySem.W.Frag} {Kp B B' H H' : Hp} {g g' g1 g2 : Gam} {σ σ' : Sig} {τ es0 : List Ent} {x y : Arg} {xs ys : List Arg} {v u : V} {vs us : List V}
/-- a slot is cleared -/
theorem Stt.clear {i : Nat} (S : Stt K Kp B H g σ τ) : Stt K Kp B H (g.set i none) σ τ := by
  refine ⟨S.1.drop, ?_⟩
  cases q : g[i]? with
  | none =>
    rw [List.set_eq_of_length_le (List.getElem?_eq_none_iff.mp q)]
    exact S.2
  | some o =>
    cases o with
    | none =>
      rw [set_self q]
      exact S.2
    | some w =>
      obtain ⟨u, eu⟩ := S.1.get q
      have R : Rp K Kp B H ((w, u) :: (slotEs (g.set i none) σ ++ τ)) := S.2.perm ((S.1.take q eu).append_right τ)
      exact R.tail
/-- a value is stored -/
theorem Stt.store {i : Nat} {w : W} (S : Stt K Kp B H g σ ((w, v) :: τ)) (hi : i < g.length) : Stt K Kp B H (g.set i (some w)) (σ.set i (some v)) τ := by
  refine ⟨S.1.set, ?_⟩
  have R : Rp K Kp B H ((w, v) :: (slotEs (g.set i none) σ ++ τ)) := (S.clear (i := i)).2.perm List.perm_middle
  exact R.perm ((S.1.put hi).append_right τ)
end
/-- σ' differs from σ at most at is -/
def Chg (is : List Nat) (σ σ' : Sig) : Prop := σ'.length = σ.length ∧ ∀ i, i ∉ is → σ'[i]? = σ[i]?
def namesT : IT → List Nat
  | .nm i => [i]
  | .nil => []
  | .cons t r => namesT t ++ namesT r
def tG (K : PySem.W.Frag) (t : IT) : TG := fun v σ H Q => ∃ Kp B g τ d g', Stt K Kp B H g σ τ ∧ RepD K B d v ∧ bindT t d g = some g' ∧ ∀ σ', Stt K Kp B H g' σ' τ → Chg (namesT t) σ σ' → Q σ' H
def tGs (K : PySem.W.Frag) (t : IT) : TGs := fun vs σ H Q => ∃ Kp B g τ ds g', Stt K Kp B H g σ τ ∧ RepDs K B ds vs ∧ bindT t (.tup ds) g = some g' ∧ ∀ σ', Stt K Kp B H g' σ' τ → Chg (namesT t) σ σ' → Q σ' H
theorem PGs_imp {X : Cx} {e : List Expr} {t t' : TGs} (h : PGs X e t) (i : ∀ v σ H Q, t' v σ H Q → t v σ H Q) : PGs X e t' := ⟨fun pins s σ H v u Q I r q => h.run pins s σ H v u Q I r (i _ _ _ _ q)⟩
theorem asg_of {e : Expr} {es : List Expr} {env : PySem.Env} (h : notStar e = true) : assignEach (e :: es) env = (false, assign e env) :: assignEach es env := by
  cases e <;> first | rfl | cases h
theorem asg_len {env : PySem.Env} : ∀ {es : List Expr}, (∀ e ∈ es, notStar e = true) → (assignEach es env).length = es.length ∧ (assignEach es env).findIdx? (·.1) = none
  | [], _ => ⟨rfl, rfl⟩
  | e :: es, h => by
    obtain ⟨a, b⟩ := asg_len (env := env) fun z hz => h z (List.mem_cons_of_mem _ hz)
    rw [asg_of (h e List.mem_cons_self)]
    refine ⟨by rw [List.length_cons, a, List.length_cons], ?_⟩
    rw [List.findIdx?_cons]
    simp [b]
def isChain : IT → Bool
  | .nm _ => false
  | _ => true
section
variable {X : Cx} {S : Sc} {F : Nat → List W → Option (W × List W)}
theorem mT_stars : ∀ {t : IT} {es : List Expr} {k : Nat} {p : Pos}, mT S t (.Tuple es k p) = true → ∀ e ∈ es, notStar e = true
  | .nm _, _, _, _, h => by cases h
  | .nil, [], _, _, _ => fun _ h => by cases h
  | .nil, _ :: _, _, _, h => by cases h
  | .cons _ _, [], _, _, h => by cases h
  | .cons t r, e :: es, k, p, h => by
    have h : (notStar e && mT S t e && mT S r (.Tuple es k p)) = true := h
    simp only [Bool.and_eq_true] at h
    intro z hz
    rcases List.mem_cons.mp hz with rfl | hz
    · exact h.1.1
    · exact mT_stars h.2 z hz
theorem mT_names : ∀ {t : IT} {e : Expr}, mT S t e = true → ∀ i ∈ namesT t, ∃ x ∈ S.sto, S.N[i]? = some x ∧ i ∉ S.io
  | .nm i, e, h => by
    cases e with
    | Name x p =>
      have h : (decide (S.N[i]? = some x) && decide (x ∈ S.sto) && decide (i ∉ S.io)) = true := h
      simp only [Bool.and_eq_true, decide_eq_true_eq] at h
      intro j hj
      have : j = i := by simpa [namesT] using hj
      subst this
      exact ⟨x, h.1.2, h.1.1, h.2⟩
    | _ => cases h
  | .nil, _, _ => fun _ h => by cases h
  | .cons t r, e, h => by
    cases e with
    | Tuple es k p =>
      cases es with
      | nil => cases h
      | cons e es =>
        have h : (notStar e && mT S t e && mT S r (.Tuple es k p)) = true := h
        simp only [Bool.and_eq_true] at h
        intro j hj
        rcases List.mem_append.mp hj with hj | hj
        · exact mT_names h.1.2 j hj
        · exact mT_names h.2 j hj
    | _ => cases h
theorem Chg.refl {is : List Nat} {σ : Sig} : Chg is σ σ := ⟨rfl, fun _ _ => rfl⟩
theorem Chg.trans {a b : List Nat} {σ σ1 σ2 : Sig} (x : Chg a σ σ1) (y : Chg b σ1 σ2) : Chg (a ++ b) σ σ2 := ⟨y.1.trans x.1, fun i hi => (y.2 i fun q => hi (List.mem_append_right _ q)).trans (x.2 i fun q => hi (List.mem_append_left _ q))⟩
theorem bind_len : ∀ {t : IT} {es : List Expr} {kk : Nat} {p : Pos} {ds : List D} {g g' : Gam}, mT S t (.Tuple es kk p) = true → bindT t (.tup ds) g = some g' → ds.length = es.length
  | .nm _, _, _, _, _, _, _, h, _ => by cases h
  | .nil, [], _, _, [], _, _, _, _ => rfl
  | .nil, [], _, _, _ :: _, _, _, _, e => by cases e
  | .nil, _ :: _, _, _, _, _, _, h, _ => by cases h
  | .cons _ _, [], _, _, _, _, _, h, _ => by cases h
  | .cons _ _, _ :: _, _, _, [], _, _, _, e => by cases e
  | .cons t r, e :: es, kk, p, d :: ds, g, g', h, e0 => by
    have h : (notStar e && mT S t e && mT S r (.Tuple es kk p)) = true := h
    simp only [Bool.and_eq_true] at h
    have e0 : ((bindT t d g).bind fun g1 => bindT r (.tup ds) g1) = some g' := e0
    obtain ⟨g1, _, e2⟩ := Option.bind_eq_some_iff.mp e0
    rw [List.length_cons, List.length_cons, bind_len h.2 e2]
theorem tup_go {t : IT} {es : List Expr} {kk : Nat} {p : Pos} {v : V} {σ : Sig} {H Kp B : Hp} {g g' : Gam} {τ : List Ent} {d : D} {Q : L2.St → Hp → Prop} (h : mT S t (.Tuple es kk p) = true) (S0 : Stt X.K Kp B H g σ τ) (r : RepD X.K B d v) (e : bindT t d g = some g')
    (k : ∀ σ', Stt X.K Kp B H g' σ' τ → Chg (namesT t) σ σ' → Q σ' H) : gTup X.K es.length (tGs X.K t) v σ H Q := by
  have hd : ∃ ds, d = .tup ds := by
    cases t with
    | nm i => cases h
    | nil =>
      cases d with
      | tup ds => exact ⟨ds, rfl⟩
      | _ => cases e
    | cons a b =>
      cases d with
      | tup ds => exact ⟨ds, rfl⟩
      | _ => cases e
  obtain ⟨ds, hd⟩ := hd
  subst hd
  obtain ⟨a, vs, e1, e2, r'⟩ := tup_SqT r
  exact ⟨a, vs, e1, e2 _ S0.2.sb, by rw [← r'.len]; exact bind_len h e, Kp, B, g, τ, ds, g', S0, r', e, k⟩
mutual
theorem sg (G : Good X S F) : ∀ {t : IT} {e : Expr}, mT S t e = true → PG X e (tG X.K t)
  | .nm i, e, h => by
    cases e with
    | Name x p =>
      have h : (decide (S.N[i]? = some x) && decide (x ∈ S.sto) && decide (i ∉ S.io)) = true := h
      simp only [Bool.and_eq_true, decide_eq_true_eq] at h
      obtain ⟨lo, fn⟩ := G.sto x h.1.2
      refine PG_imp (pg_name (by rw [G.N]; exact G.nd) (by rw [G.N]; exact h.1.1) lo fn) fun v σ H Q ⟨Kp, B, g, τ, d, g', S0, r, e, k⟩ => ?_
      have e : (if i < g.length then some (g.set i (some (.fz d))) else none) = some g' := e
      rw [Option.ite_none_right_eq_some] at e
      obtain ⟨hi, e⟩ := e
      cases e
      have S1 : Stt X.K Kp B H g σ ((.fz d, v) :: τ) := ⟨S0.1, (S0.2.leaf r).perm List.perm_middle.symm⟩
      refine k _ (S1.store hi) ⟨List.length_set .., fun j hj => ?_⟩
      rw [List.getElem?_set_ne fun q => hj (by simp [namesT, q])]
    | _ => cases h
  | .nil, e, h => by
    cases e with
    | Tuple es k p =>
      refine PG_imp (pg_tup G.calm (sgs G (t := .nil) (es := es) h) (asg_len (mT_stars h)).1 (asg_len (mT_stars h)).2) fun v σ H Q ⟨Kp, B, g, τ, d, g', S0, r, e, k⟩ => ?_
      exact tup_go h S0 r e k
    | _ => cases h
  | .cons t r, e, h => by
    cases e with
    | Tuple es k p =>
      refine PG_imp (pg_tup G.calm (sgs G (t := .cons t r) (es := es) h) (asg_len (mT_stars h)).1 (asg_len (mT_stars h)).2) fun v σ H Q ⟨Kp, B, g, τ, d, g', S0, r, e, k⟩ => ?_
      exact tup_go h S0 r e k
    | _ => cases h
theorem sgs (G : Good X S F) : ∀ {t : IT} {es : List Expr} {k : Nat} {p : Pos}, mT S t (.Tuple es k p) = true → PGs X es (tGs X.K t)
  | .nm _, _, _, _, h => by cases h
  | .nil, [], _, _, _ => by
    refine PGs_imp pgs_nil fun vs σ H Q ⟨Kp, B, g, τ, ds, g', S0, r, e, k⟩ => ?_
    cases ds with
    | nil =>
      cases e
      exact ⟨r, k σ S0 Chg.refl⟩
    | cons _ _ => cases e
  | .nil, _ :: _, _, _, h => by cases h
  | .cons _ _, [], _, _, h => by cases h
  | .cons t r, e :: es, k, p, h => by
    have h : (notStar e && mT S t e && mT S r (.Tuple es k p)) = true := h
    simp only [Bool.and_eq_true] at h
    refine PGs_imp (pgs_cons (sg G h.1.2) (sgs G h.2) (by rw [asg_of h.1.1]; rfl)) fun vs σ H Q ⟨Kp, B, g, τ, ds, g', S0, rr, e, k⟩ => ?_
    cases ds with
    | nil => cases e
    | cons d ds =>
      have e : ((bindT t d g).bind fun g1 => bindT r (.tup ds) g1) = some g' := e
      obtain ⟨g1, e1, e2⟩ := Option.bind_eq_some_iff.mp e
      obtain ⟨v, us, ev, r1, r2⟩ := rr
      refine ⟨v, us, ev, Kp, B, g, τ, d, g1, S0, r1, e1, fun σ1 S1 c1 => ⟨Kp, B, g1, τ, ds, g', S1, r2, e2, fun σ2 S2 c2 => k σ2 S2 (c1.trans c2)⟩⟩
end
end
end PF
end

section
set_option Elab.async false
set_option linter.all false
set_option maxRecDepth 100000
set_option maxHeartbeats 1000000
namespace PF
open PySem PySem.Spec PyProof.Rows L2 RZ

section
variable {K : PySem.W.Frag} {Kp B B' H H' : Hp} {g g' g1 g2 : Gam} {σ σ' : Sig} {τ es0 : List Ent} {x y : Arg} {xs ys : List Arg} {v u : V} {vs us : List V}
theorem yd_step {B1 : Hp} {ds : List D} {i : Nat} {x : V} (s : Same B1 B) (S : Stt K Kp B H g σ τ) (y : YD K B1 ds i H x H') : ∃ B2 d, Ext Kp B B2 ∧ ds[i]? = some d ∧ RepD K B2 d x ∧ Stt K Kp B2 H' g σ τ := by
  obtain ⟨d, e, q⟩ := y
  rcases q with ⟨q1, q2⟩ | ⟨p, ws, es, q1, q2, q3, q4, q5⟩
  · subst q1
    exact ⟨B, d, .refl, e, q2.mono s, S⟩
  · subst q1 q3 q4
    obtain ⟨x2, r⟩ := S.2.newB (o := .tup ws) q2
    exact ⟨_, _, x2, e, ⟨p, ws, rfl, upd_same, q5.mono (s.trans x2.same)⟩, S.1, r⟩
theorem push_list {w : W} {acc : List W} {D : Addr} (S : Stt K Kp B H g σ ((w, v) :: (.lst acc, .ref D) :: τ)) : ∃ us, H D = some (.lst us) ∧ us.length = acc.length ∧ Stt K Kp B (upd H D (.lst (us ++ [v]))) g σ ((.lst (acc ++ [w]), .ref D) :: τ) := by
  have R : Rp K Kp B H ((.lst acc, .ref D) :: ([(w, v)] ++ (slotEs g σ ++ τ))) := S.2.perm (by
    show (slotEs g σ ++ ((w, v) :: (.lst acc, .ref D) :: τ)).Perm _
    refine (perm3 _ [(w, v)] _).trans ?_
    refine (List.Perm.append_left [(w, v)] (perm3 _ [(.lst acc, .ref D)] _)).trans ?_
    exact perm3 [(w, v)] [(.lst acc, .ref D)] _)
  obtain ⟨a, o, es1, p1, ha, nr, k⟩ := R.write (st := []) rfl rfl
  cases (show V.ref D = .ref a from p1)
  obtain ⟨us, e1, l, e2⟩ := nodeL nr
  subst e1 e2
  refine ⟨us, ha, l.symm, S.1, ?_⟩
  have z := k (.lst (acc ++ [w])) (.lst (us ++ [v])) _ [] (.lst (by simp [l])) (by rw [zip_last w v l, List.append_nil])
  exact z.perm (perm3 [(.lst (acc ++ [w]), .ref D)] (slotEs g σ) τ)
theorem Stt.wiped {vs : List Nat} (nd : vs.Nodup) (S : Stt K Kp B H g σ τ) : Stt K Kp B H (wipeG g vs) (wipe σ vs) τ := by
  obtain ⟨so, ks, p, _⟩ := wipe_slots nd S.1
  refine ⟨so, ?_⟩
  have R : Rp K Kp B H ((slotEs (wipeG g vs) (wipe σ vs) ++ ks) ++ τ) := S.2.perm (p.append_right τ)
  have R2 : Rp K Kp B H (ks ++ (slotEs (wipeG g vs) (wipe σ vs) ++ τ)) := R.perm (by
    rw [List.append_assoc]
    exact perm3 _ _ _)
  exact R2.right
end
def SC (X : Cx) (F : Nat → List W → Option (W × List W)) (cs : IL) (ifs : List Expr) : Prop := PTs X ifs (tTT X.K (evC F cs))
theorem PTs_imp {X : Cx} {e : List Expr} {t t' : TT} (h : PTs X e t) (i : ∀ σ H Q, t' σ H Q → t σ H Q) : PTs X e t' := ⟨fun pins s σ H Q I q => h.run pins s σ H Q I (i _ _ _ q)⟩
section
variable {X : Cx} {S : Sc} {F : Nat → List W → Option (W × List W)} {a b c i : IE} {ea eb ec : Expr} {pos p : Pos} {il : IL} {es : List Expr} {tg : Expr}
theorem sc_nil : SC X F .nil [] := by
  refine PTs_imp pts_nil fun σ H Q ⟨Kp, B, g, τ, q, g', S, e, k⟩ => ?_
  cases e
  exact k H B .refl S
theorem sc_one (h : STt X F a ea) : SC X F (.cons a .nil) [ea] := PTs_imp (pts_one h) fun σ H Q q => q
def blkS (S : Sc) (scope : Scope) (own : List (Str × Nat)) : Sc := { S with sc := relS scope S.sc, sto := (own.map (·.1)).filter fun x => (match scope.names.lookup x with | some .local | some .cell => true | _ => false) && (match (relS scope S.sc).names.lookup x with | some .local | some .cell => true | _ => false), io := [] }
theorem good_blk {s : Shared} {H : Hp} {scope : Scope} {C : Addr} {cl : List (Str × Addr)} {fp : List Addr} {own : List (Str × Nat)} (G : Good X S F) : Good (X.blk s H scope (compEnvC scope cl C X.env) fp) (blkS S scope own) F where
  N := G.N
  nd := G.nd
  sc := by
    show relabel scope X.env = relS scope S.sc
    rw [← G.sc]
    rfl
  calm := G.calm
  units := G.units
  xe := rfl
  nums := G.nums
  free := G.free
  fns := fun x f ms h => ⟨(G.fns x f ms h).ok⟩
  sto := fun x hx => by
    have e : (X.blk s H scope (compEnvC scope cl C X.env) fp).env.scope = relS scope S.sc := by
      show relabel scope X.env = relS scope S.sc
      rw [← G.sc]
      rfl
    rw [e]
    have hx := (List.mem_filter.mp hx).2
    rw [Bool.and_eq_true] at hx
    obtain ⟨h1, h2⟩ := hx
    unfold L2.Loc
    have l2 : (relS scope S.sc).names.lookup x = some .local ∨ (relS scope S.sc).names.lookup x = some .cell := by
      split at h2 <;> first | (rename_i q; exact .inl q) | (rename_i q; exact .inr q) | cases h2
    refine ⟨l2, ?_⟩
    have l1 : scope.names.lookup x = some .local ∨ scope.names.lookup x = some .cell := by
      split at h1 <;> first | (rename_i q; exact .inl q) | (rename_i q; exact .inr q) | cases h1
    rcases l1 with l1 | l1
    · exact .inr (lookup_relS_keep (by decide) l1)
    · refine .inl ?_
      show (scope.names.lookup x == some .cell) = true
      rw [l1]
      rfl
theorem fold_fn {iter : Expr} {env : PySem.Env} (h : notSet iter = true) : ∀ x, foldedSetIterable iter env x = pure x := fun x => fold_of h x
theorem comp_rd {K : PySem.W.Frag} {ow : List Nat} {t : IT} {it : II} {cs : IL} {oe : Bool} {e : IE} (nd : ow.Nodup) (hsub : ∀ i ∈ namesT t, i ∈ ow) {σ : L2.St} {H : Hp} {Q : VK} (hq : tE K false (evE F (.comp ow t it cs oe e)) σ H Q) :
    tLc (tIt K (evI F it)) (tG K t) (tTT K (evC F cs)) (tE K (pureE e) (evE F e)) ow σ H Q := by
  obtain ⟨Kp, B, g, τ, z, g', S0, ev, k⟩ := hq
  simp only [evE, Option.bind_eq_bind, Option.bind_eq_some_iff, Prod.exists, Option.ite_none_right_eq_some] at ev
  obtain ⟨ds, g1, e1, hl, ws, g2, e2, e3⟩ := ev
  cases e3
  refine ⟨Kp, B, g, τ, ds, g1, S0, e1, fun J H1 B1 x1 S1 wk D hD => ?_⟩
  obtain ⟨so, ks, pk, back⟩ := wipe_slots nd S1.1
  refine lc_it wk (fun i H' => ∃ B' gi acc, Ext Kp B1 B' ∧ acc.length ≤ i ∧ Stt K Kp B' H' gi (wipe σ ow) ((.lst acc, .ref D) :: (ks ++ τ)) ∧
    compL (fun d g => bindT t d g) (fun g => evC F cs g) (fun g => (evE F e g).bind fun p => takeA oe p.2 p.1) ow (ds.drop i) acc gi = some (ws, g2)) ?_ ?_ ?_ ?_
  · refine ⟨B1, wipeG g1 ow, [], .refl, Nat.le_refl _, ⟨so, ?_⟩, e2⟩
    have R : Rp K Kp B1 H1 ((slotEs (wipeG g1 ow) (wipe σ ow) ++ ks) ++ τ) := S1.2.perm (pk.append_right τ)
    rw [List.append_assoc] at R
    have R2 := Rp.alloc (es' := []) (NodeR.lst (ws := []) (vs := []) rfl) R hD
    exact R2.perm (perm3 [(.lst [], .ref D)] _ _)
  · rintro i H' hi ⟨B', gi, acc, x, _, S2, _⟩
    exact x.same.trans S2.2.sb
  · rintro i x H2 H3 hi ⟨B', gi, acc, x2, la, S2, ec⟩ y
    obtain ⟨B3, d, x3, ed, rd, S3⟩ := yd_step x2.same S2 y
    rw [(List.drop_eq_getElem_cons hi)] at ec
    have ed' : ds[i] = d := (List.getElem?_eq_some_iff.mp ed).2
    rw [ed'] at ec
    simp only [compL, Option.bind_eq_bind, Option.bind_eq_some_iff, Prod.exists] at ec
    obtain ⟨ga, eb, b, gb, et, er⟩ := ec
    refine ⟨Kp, B3, gi, _, d, ga, S3, rd, eb, fun σ2 S4 c2 => ?_⟩
    have wσ : wipe σ2 ow = wipe σ ow := wipe_wipe (by rw [c2.1, wipe_length]) fun j hj => c2.2 j fun q => hj (hsub j q)
    refine ⟨wσ, Kp, B3, ga, _, b, gb, S4, et, fun H5 B5 x5 S5 => ?_⟩
    cases b with
    | false =>
      rw [if_neg (by simp)] at er ⊢
      refine ⟨B5, wipeG gb ow, acc, (x2.trans x3).trans x5, Nat.le_succ_of_le la, ?_, er⟩
      rw [← wσ]
      exact S5.wiped nd
    | true =>
      rw [if_pos rfl] at er ⊢
      simp only [Option.bind_eq_some_iff, Prod.exists] at er
      obtain ⟨w, gc, ⟨x', gx, ex, ew⟩, er⟩ := er
      refine ⟨Kp, B5, gb, _, x', gx, S5, ex, fun v H6 B6 p6 G6 => ?_⟩
      obtain ⟨B7, x7, G7⟩ := G6.take ew
      have S7 : Stt K Kp B7 H6 gc σ2 ((w, v) :: (.lst acc, .ref D) :: (ks ++ τ)) := G7.st
      obtain ⟨us, hd, hlen, S8⟩ := push_list S7
      refine ⟨us, hd, by rw [hlen]; omega, B7, wipeG gc ow, acc ++ [w], (((x2.trans x3).trans x5).trans p6.1).trans x7, by rw [List.length_append]; simp; exact la, ?_, er⟩
      rw [← wσ]
      exact S8.wiped nd
  · rintro H' ⟨B', gi, acc, x, _, S2, ec⟩
    rw [List.drop_length] at ec
    cases ec
    obtain ⟨b1, b2⟩ := back _ S2.1
    refine k (.ref D) H' B' (.io (x1.trans x)) ⟨True.intro, b1, ?_⟩
    have R : Rp K Kp B' H' ((slotEs g2 (wipe σ ow) ++ ks) ++ ((.lst ws, .ref D) :: τ)) := S2.2.perm (by
      rw [List.append_assoc]
      exact List.Perm.append_left _ (perm3 [(.lst ws, .ref D)] ks τ))
    exact R.perm (b2.append_right _)
theorem comp_facts {ow : List Nat} {t : IT} {scope : Scope} (G : Good X S F) (hb : blkC S.N S.sc scope (ow.map fun i => (S.N.getD i ⟨#[]⟩, i)) = true) (hmT : mT (blkS S scope (ow.map fun i => (S.N.getD i ⟨#[]⟩, i))) t tg = true) :
    (ow.map fun i => ((S.N.getD i ⟨#[]⟩ : Str), i)).map (·.2) = ow ∧ BlkOk X.N X.env.scope scope (ow.map fun i => ((S.N.getD i ⟨#[]⟩ : Str), i)) ∧ ∀ i ∈ namesT t, i ∈ ow := by
  have hown : (ow.map fun i => ((S.N.getD i ⟨#[]⟩ : Str), i)).map (·.2) = ow := by
    rw [List.map_map]
    exact List.map_id _
  have bk : BlkOk X.N X.env.scope scope (ow.map fun i => ((S.N.getD i ⟨#[]⟩ : Str), i)) := by
    rw [G.N, G.sc]
    exact blkOk_by hb
  have hsub : ∀ i ∈ namesT t, i ∈ ow := fun i hi => by
    obtain ⟨x, hx, hN, _⟩ := mT_names hmT i hi
    have hx := (List.mem_filter.mp hx).1
    obtain ⟨q, hq, eq⟩ := List.mem_map.mp hx
    obtain ⟨j, hj, ej⟩ := List.mem_map.mp hq
    have e2 := bk.ix q hq
    rw [G.N] at e2
    have hN : S.N[i]? = some x := hN
    subst ej
    have e2 : S.N[j]? = some x := by rw [← eq]; exact e2
    rw [nodup_ix G.nd hN e2]
    exact hj
  exact ⟨hown, bk, hsub⟩
theorem se_comp {ow : List Nat} {t : IT} {it : II} {cs : IL} {oe : Bool} {e : IE} {elt iter : Expr} {ifs : List Expr} {scope : Scope} (G : Good X S F)
    (hb : blkC S.N S.sc scope (ow.map fun i => (S.N.getD i ⟨#[]⟩, i)) = true) (nd : ow.Nodup) (hns : notSet iter = true) (hi : SI X F it tg iter) (hmT : mT (blkS S scope (ow.map fun i => (S.N.getD i ⟨#[]⟩, i))) t tg = true)
    (hc : ∀ X', Good X' (blkS S scope (ow.map fun i => (S.N.getD i ⟨#[]⟩, i))) F → SC X' F cs ifs) (he : ∀ X', Good X' (blkS S scope (ow.map fun i => (S.N.getD i ⟨#[]⟩, i))) F → SE X' F e elt) :
    SE X F (.comp ow t it cs oe e) (.ListComp elt [⟨tg, iter, ifs, 0⟩] scope pos) := by
  obtain ⟨hown, bk, hsub⟩ := comp_facts G hb hmT
  have h := pe_lc (pos := pos) (g := tG X.K t) (tt := tTT X.K (evC F cs)) (te := tE X.K (pureE e) (evE F e)) G.calm (by rw [G.N]; exact G.nd) hi bk (fun s H C cl fp => sg (good_blk G) hmT) (fun s H C cl fp => hc _ (good_blk G)) (fun s H C cl fp => he _ (good_blk G)) (fold_fn hns)
  rw [hown] at h
  exact PE_imp h fun σ H Q q => comp_rd nd hsub q
/-- name = [..] on one line -/
theorem ps_comp {n : Nat} {y : Str} {py spos : Pos} {ow : List Nat} {t : IT} {it : II} {cs : IL} {oe : Bool} {e : IE} {elt iter : Expr} {ifs : List Expr} {scope : Scope} (G : Good X S F) (hy : X.N[n]? = some y) (hyl : X.env.scope.names.lookup y = some .local)
    (hsw : swapsWith (.ListComp elt [⟨tg, iter, ifs, 0⟩] scope pos) (some (.Name y py)) spos.line X.env = pure true)
    (hb : blkC S.N S.sc scope (ow.map fun i => (S.N.getD i ⟨#[]⟩, i)) = true) (nd : ow.Nodup) (hns : notSet iter = true) (hi : SI X F it tg iter) (hmT : mT (blkS S scope (ow.map fun i => (S.N.getD i ⟨#[]⟩, i))) t tg = true)
    (hc : ∀ X', Good X' (blkS S scope (ow.map fun i => (S.N.getD i ⟨#[]⟩, i))) F → SC X' F cs ifs) (he : ∀ X', Good X' (blkS S scope (ow.map fun i => (S.N.getD i ⟨#[]⟩, i))) F → SE X' F e elt) :
    PS X (.Assign [.Name y py] (.ListComp elt [⟨tg, iter, ifs, 0⟩] scope pos) spos) (tAsg (tE X.K (pureE (.comp ow t it cs oe e)) (evE F (.comp ow t it cs oe e))) (gName n)) := by
  obtain ⟨hown, bk, hsub⟩ := comp_facts G hb hmT
  have h := ps_setLc (pos := pos) (g := tG X.K t) (tt := tTT X.K (evC F cs)) (te := tE X.K (pureE e) (evE F e)) G.calm (by rw [G.N]; exact G.nd) hy hyl hsw hi bk (fun s H C cl fp => sg (good_blk G) hmT) (fun s H C cl fp => hc _ (good_blk G)) (fun s H C cl fp => he _ (good_blk G)) (fold_fn hns)
  rw [hown] at h
  exact PS_imp h fun D σ H q => comp_rd nd hsub q
end
end PF
end

section
set_option Elab.async false
set_option linter.all false
set_option maxRecDepth 100000
set_option maxHeartbeats 4000000
namespace PF
open PySem PySem.Spec PyProof.Rows L2 RZ

section
variable {X : Cx} {S : Sc} {F : Nat → List W → Option (W × List W)}
theorem st_none {a : IE} {e : Expr} (h : ∀ g, evT F a g = none) : STt X F a e := ⟨fun pins s σ H Q I ⟨Kp, B, g, τ, b, g', S0, q, k⟩ => by rw [h g] at q; cases q⟩
theorem mE_bf {b : Bf} {es : IL} {e : Expr} (hr : notRg b = true) (h : mE S (.bf b es) e = true) : ∃ p y ys pos, e = .Call (.Name b.name p) (y :: ys) [] pos ∧ bltS S b.name = true ∧ mL S es (y :: ys) = true := by
  cases e with
  | Call f args kws pos =>
    cases f with
    | Name x p =>
      cases args with
      | nil => cases b <;> first | cases h | cases hr
      | cons y ys =>
        cases kws with
        | cons _ _ => cases b <;> first | cases h | cases hr
        | nil =>
          have h : (decide (x = b.name) && bltS S x && mL S es (y :: ys)) = true := by cases b <;> first | exact h | cases hr
          simp only [Bool.and_eq_true, decide_eq_true_eq] at h
          obtain ⟨⟨h1, h2⟩, h3⟩ := h
          subst h1
          exact ⟨p, y, ys, pos, rfl, h2, h3⟩
    | _ => cases b <;> first | cases h | cases hr
  | _ => cases b <;> first | cases h | cases hr
theorem mE_lr {a : IE} {e : Expr} (h : mE S (.bf .lrange (.cons a .nil)) e = true) : ∃ p p2 z pos2 pos, e = .Call (.Name ("list" : Str) p) [.Call (.Name ("range" : Str) p2) [z] [] pos2] [] pos ∧ bltS S ("list" : Str) = true ∧ bltS S ("range" : Str) = true ∧ notStar z = true ∧ mE S a z = true := by
  cases e with
  | Call f args kws pos =>
    cases f with
    | Name x p =>
      cases args with
      | nil => cases h
      | cons y ys =>
        cases y with
        | Call f2 args2 kws2 pos2 =>
          cases f2 with
          | Name y p2 =>
            cases args2 with
            | nil => cases h
            | cons z zs =>
              cases zs with
              | cons _ _ => cases h
              | nil =>
                cases kws2 with
                | cons _ _ => cases h
                | nil =>
                  cases ys with
                  | cons _ _ => cases h
                  | nil =>
                    cases kws with
                    | cons _ _ => cases h
                    | nil =>
                      have h : (decide (x = ("list" : Str)) && bltS S x && decide (y = ("range" : Str)) && bltS S y && notStar z && mE S a z) = true := h
                      simp only [Bool.and_eq_true, decide_eq_true_eq] at h
                      obtain ⟨⟨⟨⟨⟨h1, h2⟩, h3⟩, h4⟩, h5⟩, h6⟩ := h
                      subst h1 h3
                      exact ⟨p, p2, z, pos2, pos, rfl, h2, h4, h5, h6⟩
          | _ => cases h
        | _ => cases h
    | _ => cases h
  | _ => cases h
theorem mL_cons {il : IL} {e : Expr} {es : List Expr} (h : mL S il (e :: es) = true) : ∃ a r, il = .cons a r ∧ notStar e = true ∧ mE S a e = true ∧ mL S r es = true := by
  cases il with
  | nil => cases h
  | cons a r =>
    have h : (notStar e && mE S a e && mL S r es) = true := h
    simp only [Bool.and_eq_true] at h
    exact ⟨a, r, rfl, h.1.1, h.1.2, h.2⟩
/-- a method call with arguments -/
theorem mE_get {a k d : IE} {e : Expr} (h : mE S (.get a k d) e = true) : ∃ x ap y z cp, e = .Call (.Attribute x ("get" : Str) ap) [y, z] [] cp ∧ plainBase x = true ∧ (ap.endLine == cp.line) = true ∧ notStar y = true ∧ notStar z = true ∧ mE S a x = true ∧ mE S k y = true ∧ mE S d z = true := by
  cases e with
  | Call f args kws pos =>
    cases f with
    | Attribute x m ap =>
      cases args with
      | nil => cases h
      | cons y ys =>
        cases ys with
        | nil => cases h
        | cons z zs =>
          cases zs with
          | cons _ _ => cases h
          | nil =>
            cases kws with
            | cons _ _ => cases h
            | nil =>
              have h : (decide (m = ("get" : Str)) && plainBase x && (ap.endLine == pos.line) && notStar y && notStar z && mE S a x && mE S k y && mE S d z) = true := h
              simp only [Bool.and_eq_true, decide_eq_true_eq] at h
              obtain ⟨⟨⟨⟨⟨⟨⟨h1, h2⟩, h3⟩, h4⟩, h5⟩, h6⟩, h7⟩, h8⟩ := h
              subst h1
              exact ⟨x, ap, y, z, pos, rfl, h2, h3, h4, h5, h6, h7, h8⟩
    | _ => cases h
  | _ => cases h
def meth1 (n : Str) (S : Sc) (a b : IE) (e : Expr) : Prop := ∃ x ap y cp, e = .Call (.Attribute x n ap) [y] [] cp ∧ plainBase x = true ∧ (ap.endLine == cp.line) = true ∧ notStar y = true ∧ mE S a x = true ∧ mE S b y = true
theorem mE_app {o : Bool} {a b : IE} {e : Expr} (h : mE S (.app o a b) e = true) : meth1 "append" S a b e := by
  cases e with
  | Call f args kws pos =>
    cases f with
    | Attribute x m ap =>
      cases args with
      | nil => cases h
      | cons y ys =>
        cases ys with
        | cons _ _ => cases h
        | nil =>
          cases kws with
          | cons _ _ => cases h
          | nil =>
            have h : (decide (m = ("append" : Str)) && plainBase x && (ap.endLine == pos.line) && notStar y && mE S a x && mE S b y) = true := h
            simp only [Bool.and_eq_true, decide_eq_true_eq] at h
            obtain ⟨⟨⟨⟨⟨h1, h2⟩, h3⟩, h4⟩, h5⟩, h6⟩ := h
            subst h1
            exact ⟨x, ap, y, pos, rfl, h2, h3, h4, h5, h6⟩
    | _ => cases h
  | _ => cases h
theorem mE_ext {a b : IE} {e : Expr} (h : mE S (.ext a b) e = true) : meth1 "extend" S a b e := by
  cases e with
  | Call f args kws pos =>
    cases f with
    | Attribute x m ap =>
      cases args with
      | nil => cases h
      | cons y ys =>
        cases ys with
        | cons _ _ => cases h
        | nil =>
          cases kws with
          | cons _ _ => cases h
          | nil =>
            have h : (decide (m = ("extend" : Str)) && plainBase x && (ap.endLine == pos.line) && notStar y && mE S a x && mE S b y) = true := h
            simp only [Bool.and_eq_true, decide_eq_true_eq] at h
            obtain ⟨⟨⟨⟨⟨h1, h2⟩, h3⟩, h4⟩, h5⟩, h6⟩ := h
            subst h1
            exact ⟨x, ap, y, pos, rfl, h2, h3, h4, h5, h6⟩
    | _ => cases h
  | _ => cases h
theorem mE_popA {a b : IE} {e : Expr} (h : mE S (.popA a b) e = true) : meth1 "pop" S a b e := by
  cases e with
  | Call f args kws pos =>
    cases f with
    | Attribute x m ap =>
      cases args with
      | nil => cases h
      | cons y ys =>
        cases ys with
        | cons _ _ => cases h
        | nil =>
          cases kws with
          | cons _ _ => cases h
          | nil =>
            have h : (decide (m = ("pop" : Str)) && plainBase x && (ap.endLine == pos.line) && notStar y && mE S a x && mE S b y) = true := h
            simp only [Bool.and_eq_true, decide_eq_true_eq] at h
            obtain ⟨⟨⟨⟨⟨h1, h2⟩, h3⟩, h4⟩, h5⟩, h6⟩ := h
            subst h1
            exact ⟨x, ap, y, pos, rfl, h2, h3, h4, h5, h6⟩
    | _ => cases h
  | _ => cases h
theorem mE_popL {a : IE} {e : Expr} (h : mE S (.popL a) e = true) : ∃ x ap cp, e = .Call (.Attribute x ("pop" : Str) ap) [] [] cp ∧ plainBase x = true ∧ (ap.endLine == cp.line) = true ∧ mE S a x = true := by
  cases e with
  | Call f args kws pos =>
    cases f with
    | Attribute x m ap =>
      cases args with
      | cons _ _ => cases h
      | nil =>
        cases kws with
        | cons _ _ => cases h
        | nil =>
          have h : (decide (m = ("pop" : Str)) && plainBase x && (ap.endLine == pos.line) && mE S a x) = true := h
          simp only [Bool.and_eq_true, decide_eq_true_eq] at h
          obtain ⟨⟨⟨h1, h2⟩, h3⟩, h4⟩ := h
          subst h1
          exact ⟨x, ap, pos, rfl, h2, h3, h4⟩
    | _ => cases h
  | _ => cases h
theorem mE_call {f : Nat} {ms : List Mode} {es : IL} {e : Expr} (h : mE S (.call f ms es) e = true) : ∃ x p y ys pos, e = .Call (.Name x p) (y :: ys) [] pos ∧ glS S x = true ∧ (x, f, ms) ∈ S.fns ∧ mL S es (y :: ys) = true := by
  cases e with
  | Call f' args kws pos =>
    cases f' with
    | Name x p =>
      cases args with
      | nil => cases h
      | cons y ys =>
        cases kws with
        | cons _ _ => cases h
        | nil =>
          have h : (glS S x && decide ((x, f, ms) ∈ S.fns) && mL S es (y :: ys)) = true := h
          simp only [Bool.and_eq_true, decide_eq_true_eq] at h
          exact ⟨x, p, y, ys, pos, rfl, h.1.1, h.1.2, h.2⟩
    | _ => cases h
  | _ => cases h
def isi1P (S : Sc) (a : IE) (t : Ty) (e : Expr) : Prop := ∃ p y z p2 pos, e = .Call (.Name ("isinstance" : Str) p) [y, .Name z p2] [] pos ∧ bltS S ("isinstance" : Str) = true ∧ notStar y = true ∧ mE S a y = true ∧ mTy S [t] [.Name z ⟨0, 0, 0, 0⟩] = true
theorem mE_isi1 {a : IE} {ts : List Ty} {e : Expr} (h : mE S (.isi a ts true) e = true) : ∃ t, ts = [t] ∧ isi1P S a t e := by
  cases e with
  | Call f' args kws pos =>
    cases f' with
    | Name x p =>
      cases args with
      | nil => rcases ts with _ | ⟨t, _ | ⟨_, _⟩⟩ <;> cases h
      | cons y ys =>
        cases ys with
        | nil => rcases ts with _ | ⟨t, _ | ⟨_, _⟩⟩ <;> cases h
        | cons c cs =>
          cases c with
          | Name z p2 =>
            cases cs with
            | cons _ _ => rcases ts with _ | ⟨t, _ | ⟨_, _⟩⟩ <;> cases h
            | nil =>
              cases kws with
              | cons _ _ => rcases ts with _ | ⟨t, _ | ⟨_, _⟩⟩ <;> cases h
              | nil =>
                rcases ts with _ | ⟨t, _ | ⟨_, _⟩⟩
                · cases h
                · have h : (decide (x = ("isinstance" : Str)) && bltS S x && notStar y && mE S a y && mTy S [t] [.Name z ⟨0, 0, 0, 0⟩]) = true := h
                  simp only [Bool.and_eq_true, decide_eq_true_eq] at h
                  obtain ⟨⟨⟨⟨h1, h2⟩, h3⟩, h4⟩, h5⟩ := h
                  subst h1
                  exact ⟨t, rfl, p, y, z, p2, pos, rfl, h2, h3, h4, h5⟩
                · cases h
          | _ => rcases ts with _ | ⟨t, _ | ⟨_, _⟩⟩ <;> cases h
    | _ => rcases ts with _ | ⟨t, _ | ⟨_, _⟩⟩ <;> cases h
  | _ => rcases ts with _ | ⟨t, _ | ⟨_, _⟩⟩ <;> cases h
theorem mE_isiT {a : IE} {ts : List Ty} {e : Expr} (h : mE S (.isi a ts false) e = true) : ∃ p y zs kk pt pos, e = .Call (.Name ("isinstance" : Str) p) [y, .Tuple zs kk pt] [] pos ∧ bltS S ("isinstance" : Str) = true ∧ notStar y = true ∧ mE S a y = true ∧ ts.length ≤ 100 ∧ mTy S ts zs = true := by
  cases e with
  | Call f' args kws pos =>
    cases f' with
    | Name x p =>
      cases args with
      | nil => (rcases ts with _ | ⟨t, _ | ⟨_, _⟩⟩ <;> cases h)
      | cons y ys =>
        cases ys with
        | nil => (rcases ts with _ | ⟨t, _ | ⟨_, _⟩⟩ <;> cases h)
        | cons c cs =>
          cases c with
          | Tuple zs kk pt =>
            cases cs with
            | cons _ _ => (rcases ts with _ | ⟨t, _ | ⟨_, _⟩⟩ <;> cases h)
            | nil =>
              cases kws with
              | cons _ _ => (rcases ts with _ | ⟨t, _ | ⟨_, _⟩⟩ <;> cases h)
              | nil =>
                have h : (decide (x = ("isinstance" : Str)) && bltS S x && notStar y && mE S a y && decide (ts.length ≤ 100) && mTy S ts zs) = true := by rcases ts with _ | ⟨t, _ | ⟨_, _⟩⟩ <;> exact h
                simp only [Bool.and_eq_true, decide_eq_true_eq] at h
                obtain ⟨⟨⟨⟨⟨h1, h2⟩, h3⟩, h4⟩, h5⟩, h6⟩ := h
                subst h1
                exact ⟨p, y, zs, kk, pt, pos, rfl, h2, h3, h4, h5, h6⟩
          | _ => (rcases ts with _ | ⟨t, _ | ⟨_, _⟩⟩ <;> cases h)
    | _ => (rcases ts with _ | ⟨t, _ | ⟨_, _⟩⟩ <;> cases h)
  | _ => (rcases ts with _ | ⟨t, _ | ⟨_, _⟩⟩ <;> cases h)
theorem mE_comp {ow : List Nat} {t : IT} {it : II} {cs : IL} {oe : Bool} {a : IE} {e : Expr} (h : mE S (.comp ow t it cs oe a) e = true) : ∃ elt tg iter ifs scope pos, e = .ListComp elt [⟨tg, iter, ifs, 0⟩] scope pos ∧
    blkC S.N S.sc scope (ow.map fun i => (S.N.getD i ⟨#[]⟩, i)) = true ∧ ow.Nodup ∧ notSet iter = true ∧ mI S it tg iter = true ∧ mT (blkS S scope (ow.map fun i => (S.N.getD i ⟨#[]⟩, i))) t tg = true ∧ mC (blkS S scope (ow.map fun i => (S.N.getD i ⟨#[]⟩, i))) cs ifs = true ∧ mE (blkS S scope (ow.map fun i => (S.N.getD i ⟨#[]⟩, i))) a elt = true := by
  cases e with
  | ListComp elt gens scope pos =>
    cases gens with
    | nil => cases h
    | cons c cs' =>
      cases cs' with
      | cons _ _ => obtain ⟨tg, iter, ifs, ia⟩ := c; rcases ia with (_ | _) | _ <;> cases h
      | nil =>
        obtain ⟨tg, iter, ifs, ia⟩ := c
        rcases ia with (_ | _) | _
        rotate_left
        · cases h
        · cases h
        · have h : (blkC S.N S.sc scope (ow.map fun i => (S.N.getD i ⟨#[]⟩, i)) && decide ow.Nodup && notSet iter && mI S it tg iter && mT (blkS S scope (ow.map fun i => (S.N.getD i ⟨#[]⟩, i))) t tg && mC (blkS S scope (ow.map fun i => (S.N.getD i ⟨#[]⟩, i))) cs ifs && mE (blkS S scope (ow.map fun i => (S.N.getD i ⟨#[]⟩, i))) a elt) = true := h
          simp only [Bool.and_eq_true, decide_eq_true_eq] at h
          obtain ⟨⟨⟨⟨⟨⟨h1, h2⟩, h3⟩, h4⟩, h5⟩, h6⟩, h7⟩ := h
          exact ⟨elt, tg, iter, ifs, scope, pos, rfl, h1, h2, h3, h4, h5, h6, h7⟩
  | _ => cases h
end
end PF
end

section
set_option Elab.async false
set_option linter.all false
set_option maxRecDepth 100000
set_option maxHeartbeats 4000000
namespace PF
open PySem PySem.Spec PyProof.Rows L2 RZ

def SndE (X : Cx) (F : Nat → List W → Option (W × List W)) (ie : IE) (e : Expr) : Prop := SE X F ie e ∧ STt X F ie e ∧ ∀ op es p, e = .BoolOp op es p → SW X F ie e
theorem SndE.plain {X : Cx} {F : Nat → List W → Option (W × List W)} {ie : IE} {e : Expr} (h : SE X F ie e) (hn : ∀ g, evT F ie g = none) (hb : ∀ op es p, e ≠ .BoolOp op es p) : SndE X F ie e := ⟨h, st_none hn, fun op es p q => absurd q (hb op es p)⟩
theorem SndE.val {X : Cx} {F : Nat → List W → Option (W × List W)} {ie : IE} {e : Expr} (h : SE X F ie e) (hv : ∀ g q g', evT F ie g = some (q, g') → ∃ x, evE F ie g = some (x, g') ∧ res g' x = some (.fz (.bl q))) (he : ∀ env whole, isTrue e env whole = (do let v ← whole; standAt e.pos; holding [v] (truthy v))) (hb : ∀ op es p, e ≠ .BoolOp op es p) : SndE X F ie e :=
  ⟨h, st_se h hv (he _), fun op es p q => absurd q (hb op es p)⟩
section
variable (F : Nat → List W → Option (W × List W))
mutual
theorem sndE : ∀ (ie : IE) (X : Cx) (S : Sc), Good X S F → ∀ e : Expr, mE S ie e = true → SndE X F ie e
  | .var i, X, S, G, e, h => by
    cases e with
    | Name x p => exact .val (se_var G h) (fun g q g' e => var_t e) (fun _ _ => rfl) (fun _ _ _ q => by cases q)
    | _ => cases h
  | .cst d, X, S, G, e, h => by
    cases e with
    | Constant v j p =>
      cases d with
      | non =>
        cases v with
        | none => exact .plain (se_cst pe_non fun B => rfl) (fun _ => rfl) (fun _ _ _ q => by cases q)
        | _ => cases h
      | bl b =>
        cases v with
        | bool c =>
          have h : (b == c) = true := h
          have h := eq_of_beq h
          subst h
          exact .plain (se_cst pe_bl fun B => rfl) (fun _ => rfl) (fun _ _ _ q => by cases q)
        | _ => cases h
      | int b =>
        cases v with
        | int c =>
          have h : decide (b = c) = true := h
          rw [decide_eq_true_eq] at h
          subst h
          exact .plain (se_cst pe_int fun B => rfl) (fun _ => rfl) (fun _ _ _ q => by cases q)
        | _ => cases h
      | str b =>
        cases v with
        | str c =>
          have h : decide (b = c) = true := h
          rw [decide_eq_true_eq] at h
          subst h
          exact .plain (se_cst pe_str fun B => rfl) (fun _ => rfl) (fun _ _ _ q => by cases q)
        | _ => cases h
      | _ => cases v <;> cases h
    | _ => cases d <;> cases h
  | .glo x i, X, S, G, e, h => by
    cases e with
    | Name y p =>
      have h : (decide (x = y) && glS S y && decide ((y, i) ∈ S.nums)) = true := h
      simp only [Bool.and_eq_true, decide_eq_true_eq] at h
      obtain ⟨⟨h1, h2⟩, h3⟩ := h
      exact .plain (se_glo G h2 h3) (fun _ => rfl) (fun _ _ _ q => by cases q)
    | _ => cases h
  | .un o a, X, S, G, e, h => by
    cases e with
    | UnaryOp uo ex p =>
      cases o with
      | neg =>
        cases uo with
        | USub => exact .plain (se_neg (sndE a X S G ex h).1) (fun _ => rfl) (fun _ _ _ q => by cases q)
        | _ => cases h
      | not =>
        cases uo with
        | Not => exact ⟨se_not (sndE a X S G ex h).1, st_not (sndE a X S G ex h).2.1, fun _ _ _ q => by cases q⟩
        | _ => cases h
    | _ => cases o <;> cases h
  | .bin o a b, X, S, G, e, h => by
    cases e with
    | BinOp l op r p =>
      have h : (decide (op = o.py) && mE S a l && mE S b r) = true := h
      simp only [Bool.and_eq_true, decide_eq_true_eq] at h
      obtain ⟨⟨h1, h2⟩, h3⟩ := h
      subst h1
      exact .plain (se_bin (sndE a X S G l h2).1 (sndE b X S G r h3).1) (fun _ => rfl) (fun _ _ _ q => by cases q)
    | _ => cases h
  | .cmp o a b, X, S, G, e, h => by
    cases e with
    | Compare l ops rs p =>
      rcases ops with _ | ⟨op, _ | ⟨_, _⟩⟩ <;> rcases rs with _ | ⟨r, _ | ⟨_, _⟩⟩ <;> first | (cases h; done) | skip
      have h : (decide (op = o.py) && notSet r && mE S a l && mE S b r) = true := h
      simp only [Bool.and_eq_true, decide_eq_true_eq] at h
      obtain ⟨⟨⟨h1, h2⟩, h3⟩, h4⟩ := h
      subst h1
      exact ⟨se_cmp G (sndE a X S G l h3).1 (sndE b X S G r h4).1 h2, st_cmp G (sndE a X S G l h3).1 (sndE b X S G r h4).1 h2, fun _ _ _ q => by cases q⟩
    | _ => cases h
  | .chn o o' a b c, X, S, G, e, h => by
    cases e with
    | Compare l ops rs p =>
      rcases ops with _ | ⟨op, _ | ⟨op', _ | ⟨_, _⟩⟩⟩ <;> rcases rs with _ | ⟨r, _ | ⟨r', _ | ⟨_, _⟩⟩⟩ <;> first | (cases h; done) | skip
      have h : (decide (op = o.py) && decide (op' = o'.py) && notSet r' && mE S a l && mE S b r && mE S c r') = true := h
      simp only [Bool.and_eq_true, decide_eq_true_eq] at h
      obtain ⟨⟨⟨⟨⟨h1, h2⟩, h3⟩, h4⟩, h5⟩, h6⟩ := h
      subst h1 h2
      exact ⟨se_chn G (sndE a X S G l h4).1 (sndE b X S G r h5).1 (sndE c X S G r' h6).1 h3, st_chn G (sndE a X S G l h4).1 (sndE b X S G r h5).1 (sndE c X S G r' h6).1 h3, fun _ _ _ q => by cases q⟩
    | _ => cases h
  | .and a b, X, S, G, e, h => by
    cases e with
    | BoolOp op vs p =>
      cases op with
      | Or => cases h
      | And =>
        rcases vs with _ | ⟨x, _ | ⟨y, _ | ⟨z, r⟩⟩⟩
        · cases h
        · cases h
        · have h : (mE S a x && mE S b y) = true := h
          rw [Bool.and_eq_true] at h
          have ha := sndE a X S G x h.1
          have hb := sndE b X S G y h.2
          have hw : SW X F (.and a b) (.BoolOp .And [x, y] p) := sw_and ha.2.1 (pw_and1 hb.2.1)
          exact ⟨se_and ha.1 (pe_one hb.1), hw.pt, fun _ _ _ _ => hw⟩
        · have h : (mE S a x && mE S b (.BoolOp .And (y :: z :: r) p)) = true := h
          rw [Bool.and_eq_true] at h
          have ha := sndE a X S G x h.1
          have hb := sndE b X S G _ h.2
          have hw : SW X F (.and a b) (.BoolOp .And (x :: y :: z :: r) p) := sw_and ha.2.1 (hb.2.2 _ _ _ rfl)
          exact ⟨se_and ha.1 hb.1, hw.pt, fun _ _ _ _ => hw⟩
    | _ => cases h
  | .or a b, X, S, G, e, h => by
    cases e with
    | BoolOp op vs p =>
      cases op with
      | And => cases h
      | Or =>
        rcases vs with _ | ⟨x, _ | ⟨y, _ | ⟨z, r⟩⟩⟩
        · cases h
        · cases h
        · have h : (mE S a x && mE S b y) = true := h
          rw [Bool.and_eq_true] at h
          have ha := sndE a X S G x h.1
          have hb := sndE b X S G y h.2
          have hw : SW X F (.or a b) (.BoolOp .Or [x, y] p) := sw_or ha.2.1 (pw_or1 hb.2.1)
          exact ⟨se_or ha.1 (pe_one hb.1), hw.pt, fun _ _ _ _ => hw⟩
        · have h : (mE S a x && mE S b (.BoolOp .Or (y :: z :: r) p)) = true := h
          rw [Bool.and_eq_true] at h
          have ha := sndE a X S G x h.1
          have hb := sndE b X S G _ h.2
          have hw : SW X F (.or a b) (.BoolOp .Or (x :: y :: z :: r) p) := sw_or ha.2.1 (hb.2.2 _ _ _ rfl)
          exact ⟨se_or ha.1 hb.1, hw.pt, fun _ _ _ _ => hw⟩
    | _ => cases h
  | .ite c a b, X, S, G, e, h => by
    cases e with
    | IfExp t x y p =>
      have h : (mE S c t && mE S a x && mE S b y) = true := h
      simp only [Bool.and_eq_true] at h
      exact .plain (se_ite (sndE c X S G t h.1.1).2.1 (sndE a X S G x h.1.2).1 (sndE b X S G y h.2).1) (fun _ => rfl) (fun _ _ _ q => by cases q)
    | _ => cases h
  | .idx a i, X, S, G, e, h => by
    cases e with
    | Subscript x y p =>
      have h : (notSlice y && mE S a x && mE S i y) = true := h
      simp only [Bool.and_eq_true] at h
      exact .plain (se_idx G (sndE a X S G x h.1.2).1 (sndE i X S G y h.2).1 h.1.1) (fun _ => rfl) (fun _ _ _ q => by cases q)
    | _ => cases h
  | .slc a lo hi, X, S, G, e, h => by
    cases e with
    | Subscript x y p =>
      cases y with
      | Slice l u st ps =>
        cases st with
        | some _ => cases h
        | none =>
          have h : (mE S a x && mO S lo l && mO S hi u) = true := h
          simp only [Bool.and_eq_true] at h
          exact .plain (se_slc (sndE a X S G x h.1.1).1 (sndO lo X S G l h.1.2) (sndO hi X S G u h.2)) (fun _ => rfl) (fun _ _ _ q => by cases q)
      | _ => cases h
    | _ => cases h
  | .tup pl es, X, S, G, e, h => by
    cases e with
    | Tuple xs kk p => exact .plain (se_tup (sndL es X S G xs h)) (fun _ => rfl) (fun _ _ _ q => by cases q)
    | _ => cases h
  | .lst o es, X, S, G, e, h => by
    cases e with
    | List xs p => exact .plain (se_lst (kk := 0) (sndL es X S G xs h)) (fun _ => rfl) (fun _ _ _ q => by cases q)
    | _ => cases h
  | .dic tk, X, S, G, e, h => by
    cases e with
    | Dict ks vs p => rcases ks with _ | ⟨_, _⟩ <;> rcases vs with _ | ⟨_, _⟩ <;> first | exact .plain se_dic (fun _ => rfl) (fun _ _ _ q => by cases q) | cases h
    | _ => cases h
  | .dsp _, X, S, G, e, h => by cases e <;> cases h
  | .call f ms es, X, S, G, e, h => by
    obtain ⟨x, p, y, ys, pos, he, h1, h2, h3⟩ := mE_call h
    subst he
    exact .val (se_call G h1 h2 (mL_star h3) (sndL es X S G (y :: ys) h3)) (fun g q g' e => call_t e) (fun _ _ => rfl) (fun _ _ _ q => by cases q)
  | .bf b .nil, X, S, G, e, h => by
    exfalso
    by_cases hr : notRg b = true
    · obtain ⟨p, y, ys, pos, he, h1, h2⟩ := mE_bf hr h
      cases h2
    · cases b <;> first | exact hr rfl | skip
      revert h
      cases e with
      | Call f args kws p => cases f <;> first | (intro h; cases h; done) | skip
      | _ => intro h; cases h
  | .bf b (.cons a (.cons b' r)), X, S, G, e, h => by
    by_cases hr : notRg b = true
    · obtain ⟨p, y, ys, pos, he, h1, h2⟩ := mE_bf hr h
      subst he
      exact .val (se_bf G hr h1 (mL_star h2) (sndL (.cons a (.cons b' r)) X S G (y :: ys) h2)) (fun g q g' e => bf_t e) (fun _ _ => rfl) (fun _ _ _ q => by cases q)
    · exfalso
      cases b <;> first | exact hr rfl | skip
      revert h
      cases e with
      | Call f args kws p => cases f <;> first | (intro h; cases h; done) | skip
      | _ => intro h; cases h
  | .bf b (.cons a .nil), X, S, G, e, h => by
    by_cases hr : notRg b = true
    · obtain ⟨p, y, ys, pos, he, h1, h2⟩ := mE_bf hr h
      subst he
      exact .val (se_bf G hr h1 (mL_star h2) (sndL (.cons a .nil) X S G (y :: ys) h2)) (fun g q g' e => bf_t e) (fun _ _ => rfl) (fun _ _ _ q => by cases q)
    · cases b <;> first | exact absurd rfl hr | skip
      obtain ⟨p, p2, z, pos2, pos, he, h1, h2, h3, h4⟩ := mE_lr h
      subst he
      exact .val (se_lrange G h1 h2 h3 (sndE a X S G z h4).1) (fun g q g' e => bf_t e) (fun _ _ => rfl) (fun _ _ _ q => by cases q)
  | .isi a ts o, X, S, G, e, h => by
    cases o with
    | true =>
      obtain ⟨t, et, p, y, z, p2, pos, he, h1, h2, h3, h4⟩ := mE_isi1 h
      subst he et
      exact .val (se_isi1 G h1 h2 (sndE a X S G y h3).1 h4) (fun g q g' e => isi_t e) (fun _ _ => rfl) (fun _ _ _ q => by cases q)
    | false =>
      obtain ⟨p, y, zs, kk, pt, pos, he, h1, h2, h3, h4, h5⟩ := mE_isiT h
      subst he
      exact .val (se_isiT G h1 h2 (sndE a X S G y h3).1 h5 h4) (fun g q g' e => isi_t e) (fun _ _ => rfl) (fun _ _ _ q => by cases q)
  | .get a k d, X, S, G, e, h => by
    obtain ⟨x, ap, y, z, cp, he, h1, h2, h3, h4, h5, h6, h7⟩ := mE_get h
    subst he
    exact .plain (se_get G h1 h2 h3 h4 (sndE a X S G x h5).1 (sndE k X S G y h6).1 (sndE d X S G z h7).1) (fun _ => rfl) (fun _ _ _ q => by cases q)
  | .app o a b, X, S, G, e, h => by
    obtain ⟨x, ap, y, cp, he, h1, h2, h3, h4, h5⟩ := mE_app h
    subst he
    exact .plain (se_app h1 h2 h3 (sndE a X S G x h4).1 (sndE b X S G y h5).1) (fun _ => rfl) (fun _ _ _ q => by cases q)
  | .ext a b, X, S, G, e, h => by
    obtain ⟨x, ap, y, cp, he, h1, h2, h3, h4, h5⟩ := mE_ext h
    subst he
    exact .plain (se_ext h1 h2 h3 (sndE a X S G x h4).1 (sndE b X S G y h5).1) (fun _ => rfl) (fun _ _ _ q => by cases q)
  | .popL a, X, S, G, e, h => by
    obtain ⟨x, ap, cp, he, h1, h2, h3⟩ := mE_popL h
    subst he
    exact .plain (se_popL h1 h2 (sndE a X S G x h3).1) (fun _ => rfl) (fun _ _ _ q => by cases q)
  | .popA a b, X, S, G, e, h => by
    obtain ⟨x, ap, y, cp, he, h1, h2, h3, h4, h5⟩ := mE_popA h
    subst he
    exact .plain (se_popA h1 h2 h3 (sndE a X S G x h4).1 (sndE b X S G y h5).1) (fun _ => rfl) (fun _ _ _ q => by cases q)
  | .comp ow t it cs oe a, X, S, G, e, h => by
    obtain ⟨elt, tg, iter, ifs, scope, pos, he, h1, h2, h3, h4, h5, h6, h7⟩ := mE_comp h
    subst he
    exact .plain (se_comp G h1 h2 h3 (sndI it X S G tg iter h4) h5 (fun X' G' => sndC cs X' _ G' ifs h6) (fun X' G' => (sndE a X' _ G' elt h7).1)) (fun _ => rfl) (fun _ _ _ q => by cases q)
theorem sndL : ∀ (il : IL) (X : Cx) (S : Sc), Good X S F → ∀ es : List Expr, mL S il es = true → SA X F il es
  | .nil, X, S, G, [], _ => sa_nil
  | .nil, X, S, G, _ :: _, h => by cases h
  | .cons _ _, X, S, G, [], h => by cases h
  | .cons a r, X, S, G, e :: es, h => by
    have h : (notStar e && mE S a e && mL S r es) = true := h
    simp only [Bool.and_eq_true] at h
    exact sa_cons h.1.1 (sndE a X S G e h.1.2).1 (sndL r X S G es h.2)
theorem sndO : ∀ (il : IL) (X : Cx) (S : Sc), Good X S F → ∀ o : Option Expr, mO S il o = true → SO X F il o
  | .nil, X, S, G, none, _ => so_none
  | .nil, X, S, G, some _, h => by cases h
  | .cons _ .nil, X, S, G, none, h => by cases h
  | .cons _ (.cons _ _), X, S, G, none, h => by cases h
  | .cons a .nil, X, S, G, some e, h => so_some (sndE a X S G e h).1
  | .cons _ (.cons _ _), X, S, G, some _, h => by cases h
theorem sndC : ∀ (il : IL) (X : Cx) (S : Sc), Good X S F → ∀ es : List Expr, mC S il es = true → SC X F il es
  | .nil, X, S, G, [], _ => sc_nil
  | .nil, X, S, G, _ :: _, h => by cases h
  | .cons _ .nil, X, S, G, [], h => by cases h
  | .cons _ (.cons _ _), X, S, G, [], h => by cases h
  | .cons a .nil, X, S, G, [e], h => sc_one (sndE a X S G e h).2.1
  | .cons a .nil, X, S, G, _ :: _ :: _, h => by cases h
  | .cons _ (.cons _ _), X, S, G, _ :: _, h => by cases h
theorem sndI : ∀ (ii : II) (X : Cx) (S : Sc), Good X S F → ∀ tg e : Expr, mI S ii tg e = true → SI X F ii tg e
  | .val a, X, S, G, tg, e, h => si_val (sndE a X S G e h).1
  | .rng1 a, X, S, G, tg, e, h => by
    cases e with
    | Call f args kws p =>
      cases f with
      | Name x px =>
        rcases args with _ | ⟨y, _ | ⟨_, _⟩⟩ <;> rcases kws with _ | ⟨_, _⟩ <;> first | (cases h; done) | skip
        have h : (decide (x = ("range" : Str)) && bltS S x && notStar y && mE S a y) = true := h
        simp only [Bool.and_eq_true, decide_eq_true_eq] at h
        obtain ⟨⟨⟨h1, h2⟩, h3⟩, h4⟩ := h
        subst h1
        exact si_rng1 G h2 h3 (sndE a X S G y h4).1
      | _ => cases h
    | _ => cases h
  | .rng2 a b, X, S, G, tg, e, h => by
    cases e with
    | Call f args kws p =>
      cases f with
      | Name x px =>
        rcases args with _ | ⟨y, _ | ⟨z, _ | ⟨_, _⟩⟩⟩ <;> rcases kws with _ | ⟨_, _⟩ <;> first | (cases h; done) | skip
        have h : (decide (x = ("range" : Str)) && bltS S x && notStar y && notStar z && mE S a y && mE S b z) = true := h
        simp only [Bool.and_eq_true, decide_eq_true_eq] at h
        obtain ⟨⟨⟨⟨⟨h1, h2⟩, h3⟩, h4⟩, h5⟩, h6⟩ := h
        subst h1
        exact si_rng2 G h2 h3 h4 (sndE a X S G y h5).1 (sndE b X S G z h6).1
      | _ => cases h
    | _ => cases h
  | .enu a, X, S, G, tg, e, h => by
    cases e with
    | Call f args kws p =>
      cases f with
      | Name x px =>
        rcases args with _ | ⟨y, _ | ⟨_, _⟩⟩ <;> rcases kws with _ | ⟨_, _⟩ <;> first | (cases h; done) | skip
        have h : (tupTarget tg && decide (x = ("enumerate" : Str)) && bltS S x && notStar y && mE S a y) = true := h
        simp only [Bool.and_eq_true, decide_eq_true_eq] at h
        obtain ⟨⟨⟨⟨h0, h1⟩, h2⟩, h3⟩, h4⟩ := h
        subst h1
        cases tg with
        | Tuple elts kk tp => exact si_enu G h2 h3 (sndE a X S G y h4).1
        | _ => cases h0
      | _ => cases h
    | _ => cases h
  | .zip a b, X, S, G, tg, e, h => by
    cases e with
    | Call f args kws p =>
      cases f with
      | Name x px =>
        rcases args with _ | ⟨y, _ | ⟨z, _ | ⟨_, _⟩⟩⟩ <;> rcases kws with _ | ⟨_, _⟩ <;> first | (cases h; done) | skip
        have h : (tupTarget tg && decide (x = ("zip" : Str)) && bltS S x && notStar y && notStar z && mE S a y && mE S b z) = true := h
        simp only [Bool.and_eq_true, decide_eq_true_eq] at h
        obtain ⟨⟨⟨⟨⟨⟨h0, h1⟩, h2⟩, h3⟩, h4⟩, h5⟩, h6⟩ := h
        subst h1
        cases tg with
        | Tuple elts kk tp => exact si_zip G h2 h3 h4 (sndE a X S G y h5).1 (sndE b X S G z h6).1
        | _ => cases h0
      | _ => cases h
    | _ => cases h
end
end
end PF
end

section
set_option Elab.async false
set_option linter.all false
set_option maxRecDepth 100000
set_option maxHeartbeats 4000000
namespace PF
open PySem PySem.Spec PyProof.Rows L2 RZ

/-! ### the text of statements -/
def isStar : Expr → Bool
  | .Starred .. => true
  | _ => false
def nmOf (kd : Str → Option NameKind) (line : Nat) : Expr → Option Str
  | .Name id pos => if kd id == some .local && pos.line == line then some id else none
  | _ => none
def swpG {α : Type} (kd : Str → Option NameKind) (nf : Bool) (ts vs : List Expr) (bad : List Str → α) (ret : Option (List Str) → α) : α :=
  if !(ts.length == 2 || ts.length == 3) || vs.length != ts.length || nf then ret none
  else if vs.any isStar then ret none
  else if (ts.filterMap (nmOf kd ((ts.head?.map (·.pos.line)).getD 0))).length != ts.length || (ts.filterMap (nmOf kd ((ts.head?.map (·.pos.line)).getD 0))).eraseDups.length != (ts.filterMap (nmOf kd ((ts.head?.map (·.pos.line)).getD 0))).length then ret none
  else if vs.all (foldedForSure 8) then ret none
  else if vs.all (constantsAlone 8) then bad (ts.filterMap (nmOf kd ((ts.head?.map (·.pos.line)).getD 0)))
  else ret (some (ts.filterMap (nmOf kd ((ts.head?.map (·.pos.line)).getD 0))))
theorem swapped_eq (env : PySem.Env) (ts vs : List Expr) (k k2 : Nat) (p p2 : Pos) : swappedStores [.Tuple ts k p] (.Tuple vs k2 p2) env =
    swpG env.kindOf (env.blockKind != .function) ts vs (fun nm => do unsupported "assign.tuple-of-constant-expressions:order-of-the-stores"; pure (some nm)) pure := by
  unfold swappedStores swpG
  rfl
def swpB (S : Sc) (ts vs : List Expr) : Option (Option (List Str)) := swpG (fun x => S.sc.names.lookup x) false ts vs (fun _ => none) some
theorem swp_of {S : Sc} {env : PySem.Env} {ts vs : List Expr} {k k2 : Nat} {p p2 : Pos} {r : Option (List Str)} (hs : env.scope = S.sc) (hk : S.sc.kind = .function) (h : swpB S ts vs = some r) : swappedStores [.Tuple ts k p] (.Tuple vs k2 p2) env = pure r := by
  have bk : (env.blockKind != .function) = false := by
    unfold Env.blockKind
    rw [hs, hk]
    rfl
  have ek : env.kindOf = fun x => S.sc.names.lookup x := by
    funext x
    unfold Env.kindOf
    rw [hs]
  rw [swapped_eq, bk, ek]
  unfold swpB swpG at h
  unfold swpG
  repeat' split at h
  all_goals first | (cases h; done) | skip
  all_goals (cases h; simp only [*, if_true, if_false, Bool.false_eq_true])
def notTup : Expr → Bool
  | .Tuple .. => false
  | _ => true
def isTup : Expr → Bool
  | .Tuple .. => true
  | _ => false
/-- name = [..] on one line: stored early -/
def swC (S : Sc) (x : Str) (px : Pos) : Expr → Bool
  | .ListComp _ _ sc p => S.sc.names.lookup x == some .local && px.line == p.line && !(sc.names.any fun y => y.1 == x && (y.2 == .local || y.2 == .cell))
  | _ => false
theorem swC_of {S : Sc} {env : PySem.Env} {x : Str} {px : Pos} {v : Expr} {line : Nat} (hs : env.scope = S.sc) (hk : S.sc.kind = .function) (hv : notComp v = true ∨ ∃ e g s p, v = .ListComp e g s p) : swapsWith v (some (.Name x px)) line env = pure (swC S x px v) := by
  have bk : env.blockKind = .function := by
    unfold Env.blockKind
    rw [hs, hk]
    rfl
  rcases hv with hv | ⟨e, g, s, p, rfl⟩
  · cases v <;> first | rfl | cases hv
  · show pure (env.blockKind == .function && env.kindOf x == some .local && px.line == p.line && !(s.names.any fun (n, k) => n == x && (k == .local || k == .cell))) = _
    unfold Env.kindOf
    rw [bk, hs]
    rfl
def mSto (S : Sc) : ST → Expr → Bool
  | .nm i _, .Name x _ => decide (S.N[i]? = some x) && decide (x ∈ S.sto) && decide (i ∉ S.io)
  | .un t, e => isTup e && mT S t e
  | .sub a i _, .Subscript x y _ => notSlice y && mE S a x && mE S i y
  | _, _ => false
def mStoL (S : Sc) : List ST → List Expr → Bool
  | [], [] => true
  | t :: ts, e :: es => notStar e && mSto S t e && mStoL S ts es
  | _, _ => false
def okVal : Expr → Bool
  | .ListComp .. => true
  | v => notComp v
/-- a, b = x, y: names stored from the right -/
def mPar (S : Sc) : List ST → List Expr → Bool
  | [.nm i _, .nm j _], [.Name x _, .Name y _] => decide (i ≠ j) && decide (S.sc.names.lookup x = some .local) && decide (S.sc.names.lookup y = some .local)
  | [.nm i _, .nm j _, .nm l _], [.Name x _, .Name y _, .Name z _] => decide (i ≠ j) && decide (i ≠ l) && decide (j ≠ l) && decide (S.sc.names.lookup x = some .local) && decide (S.sc.names.lookup y = some .local) && decide (S.sc.names.lookup z = some .local)
  | _, _ => false
def namesOf : List Expr → List Str
  | .Name x _ :: r => x :: namesOf r
  | _ :: r => namesOf r
  | [] => []
def mAsg (S : Sc) (t : ST) (e : IE) (tg v : Expr) : Bool :=
  mSto S t tg && mE S e v && okVal v && (match t with | .un _ => notTup v | _ => true)
def mAsgs (S : Sc) (ts : List ST) (es : IL) (tgs vs : List Expr) : Bool :=
  mStoL S ts tgs && mL S es vs && decide (ts.length ≤ 100) && (match swpB S tgs vs with
    | some none => true
    | some (some nm) => mPar S ts tgs && decide (nm = namesOf tgs) && decide (vs.length = ts.length)
    | none => false)
mutual
def mS (S : Sc) : IS → Stmt → Bool
  | .asg t e, .Assign [tg] v _ => mAsg S t e tg v
  | .asgs ts es, .Assign [.Tuple tgs _ _] (.Tuple vs _ _) _ => mAsgs S ts es tgs vs
  | .aug i o e, .AugAssign (.Name x _) op v _ => decide (S.N[i]? = some x) && decide (x ∈ S.sto) && decide (i ∉ S.io) && decide (op = o.py) && mE S e v
  | .exp e, .Expr v _ => notComp v && mE S e v
  | .del a k, .Delete [.Subscript x y _] _ => mE S a x && mE S k y
  | .ret _ e, .Return (some v) _ => mE S e v
  | .retN, .Return none _ => true
  | .ite c a b, .If t x y _ => mE S c t && mB S a x && mB S b y
  | .whl c b, .While t x [] _ => mE S c t && mB S b x
  | .for_ t it b, .For tg iter x [] _ => notSet iter && mI S it tg iter && mT S t tg && mB S b x
  | .brk, .Break _ => true
  | .cnt, .Continue _ => true
  | .pass, .Pass _ => true
  | .pass, .Expr (.Constant (.str _) _ _) _ => true
  | .never, _ => true
  | _, _ => false
def mB (S : Sc) : IB → List Stmt → Bool
  | .nil, [] => true
  | .cons s r, t :: ts => mS S s t && mB S r ts
  | _, _ => false
end
end PF
end

section
set_option Elab.async false
set_option linter.all false
set_option maxRecDepth 100000
set_option maxHeartbeats 4000000
namespace PF
open PySem PySem.Spec PyProof.Rows L2 RZ

def Keep (io : List Nat) (σ σ' : Sig) : Prop := σ'.length = σ.length ∧ ∀ i ∈ io, σ'[i]? = σ[i]?
theorem Keep.refl {io : List Nat} {σ : Sig} : Keep io σ σ := ⟨rfl, fun _ _ => rfl⟩
theorem Keep.trans {io : List Nat} {σ σ1 σ2 : Sig} (a : Keep io σ σ1) (b : Keep io σ1 σ2) : Keep io σ σ2 := ⟨b.1.trans a.1, fun i h => (b.2 i h).trans (a.2 i h)⟩
theorem Keep.set {io : List Nat} {σ : Sig} {i : Nat} {x : Option V} (h : i ∉ io) : Keep io σ (σ.set i x) := ⟨List.length_set .., fun j hj => List.getElem?_set_ne fun e => h (by rw [e]; exact hj)⟩
theorem Chg.keep {io is : List Nat} {σ σ' : Sig} (c : Chg is σ σ') (h : ∀ i ∈ is, i ∉ io) : Keep io σ σ' := ⟨c.1, fun i hi => c.2 i fun q => h i q hi⟩
def OcD (K : PySem.W.Frag) (Kp B : Hp) (τ : List Ent) (io : List Nat) (σ : Sig) (D : Ends) : Oc → Prop
  | .nx g' => ∀ σ' H' B', Ext Kp B B' → Keep io σ σ' → Stt K Kp B' H' g' σ' τ → D.nx σ' H'
  | .brk g' => ∀ σ' H' B', Ext Kp B B' → Keep io σ σ' → Stt K Kp B' H' g' σ' τ → D.bk σ' H'
  | .cnt g' => ∀ σ' H' B', Ext Kp B B' → Keep io σ σ' → Stt K Kp B' H' g' σ' τ → D.ct σ' H'
  | .ret w g' => ∀ v σ' H' B', Ext Kp B B' → Keep io σ σ' → Stt K Kp B' H' g' σ' ((w, v) :: τ) → D.rt v H'
def tSt (K : PySem.W.Frag) (io : List Nat) (f : Gam → Option Oc) : TS := fun D σ H => ∃ Kp B g τ o, Stt K Kp B H g σ τ ∧ f g = some o ∧ OcD K Kp B τ io σ D o
def tST (K : PySem.W.Frag) (io : List Nat) (f : W → Gam → Option Gam) : TG := fun v σ H Q => ∃ Kp B g τ w g', Stt K Kp B H g σ ((w, v) :: τ) ∧ f w g = some g' ∧ ∀ σ' H' B', Ext Kp B B' → Keep io σ σ' → Stt K Kp B' H' g' σ' τ → Q σ' H'
def tSTs (K : PySem.W.Frag) (io : List Nat) (f : List W → Gam → Option Gam) : TGs := fun vs σ H Q => ∃ Kp B g τ ws g', ws.length = vs.length ∧ Stt K Kp B H g σ (ws.zip vs ++ τ) ∧ f ws g = some g' ∧ ∀ σ' H' B', Ext Kp B B' → Keep io σ σ' → Stt K Kp B' H' g' σ' τ → Q σ' H'
theorem OcD.mono {K : PySem.W.Frag} {Kp B B1 : Hp} {τ : List Ent} {io : List Nat} {σ σ1 : Sig} {D : Ends} {o : Oc} (x : Ext Kp B B1) (c : Keep io σ σ1) (h : OcD K Kp B τ io σ D o) : OcD K Kp B1 τ io σ1 D o := by
  cases o with
  | nx g => exact fun σ' H' B' y d => h σ' H' B' (x.trans y) (c.trans d)
  | brk g => exact fun σ' H' B' y d => h σ' H' B' (x.trans y) (c.trans d)
  | cnt g => exact fun σ' H' B' y d => h σ' H' B' (x.trans y) (c.trans d)
  | ret w g => exact fun v σ' H' B' y d => h v σ' H' B' (x.trans y) (c.trans d)

/-! ### what a store does to a node -/
section
variable {κ : Type} [DecidableEq κ]
theorem zip_set {ws : List W} {vs : List V} {n : Nat} (w : W) (v : V) (l : ws.length = vs.length) : ∃ junk : List Ent, (ws.zip vs ++ [(w, v)]).Perm ((ws.set n w).zip (vs.set n v) ++ junk) := by
  induction ws generalizing vs n with
  | nil =>
    cases vs with
    | nil => exact ⟨[(w, v)], .refl _⟩
    | cons _ _ => cases l
  | cons a ws ih =>
    cases vs with
    | nil => cases l
    | cons b vs =>
      cases n with
      | zero =>
        refine ⟨[(a, b)], ?_⟩
        show ((a, b) :: (ws.zip vs ++ [(w, v)])).Perm ((w, v) :: (ws.zip vs ++ [(a, b)]))
        refine (List.Perm.cons _ (List.perm_append_singleton _ _)).trans ?_
        refine (List.Perm.swap _ _ _).trans (List.Perm.cons _ ?_)
        exact (List.perm_append_singleton _ _).symm
      | succ n =>
        obtain ⟨j, p⟩ := ih (vs := vs) (n := n) (by simpa using l)
        exact ⟨j, p.cons _⟩
theorem map_put (k : κ) (w : W) (v : V) : ∀ {ks : List κ} {ws : List W} {vs : List V}, ws.length = vs.length → ks.length = ws.length → ∃ (ws' : List W) (vs' : List V) (m : Nat) (junk : List Ent), ws'.length = vs'.length ∧ ks.length = ws'.length ∧ m ≤ ks.length ∧
    (ks.zip ws).map (fun kv => if kv.1 = k then (kv.1, w) else kv) = ks.zip ws' ∧ (ks.zip vs).map (fun kv => if kv.1 = k then (kv.1, v) else kv) = ks.zip vs' ∧ (ws.zip vs ++ List.replicate m (w, v)).Perm (ws'.zip vs' ++ junk)
  | [], [], [], _, _ => ⟨[], [], 0, [], rfl, rfl, Nat.le_refl _, rfl, rfl, .refl _⟩
  | [], _ :: _, _, _, h => by cases h
  | [], [], _ :: _, h, _ => by cases h
  | _ :: _, [], _, _, h => by cases h
  | _ :: _, _ :: _, [], h, _ => by cases h
  | q :: ks, a :: ws, b :: vs, l1, l2 => by
    obtain ⟨ws', vs', m, junk, h1, h2, hm, h3, h4, h5⟩ := map_put k w v (ks := ks) (ws := ws) (vs := vs) (by simpa using l1) (by simpa using l2)
    by_cases e : q = k
    · refine ⟨w :: ws', v :: vs', m + 1, (a, b) :: junk, by simp [h1], by simp [h2], by simpa using hm, ?_, ?_, ?_⟩
      · simp [e, h3]
      · simp [e, h4]
      · show ((a, b) :: (ws.zip vs ++ List.replicate (m + 1) (w, v))).Perm ((w, v) :: (ws'.zip vs' ++ ((a, b) :: junk)))
        have p1 : (ws.zip vs ++ List.replicate (m + 1) (w, v)).Perm ((w, v) :: (ws'.zip vs' ++ junk)) := by
          rw [List.replicate_succ]
          exact List.perm_middle.trans (h5.cons _)
        refine (p1.cons _).trans ((List.Perm.swap _ _ _).trans (List.Perm.cons _ ?_))
        exact List.perm_middle.symm
    · refine ⟨a :: ws', b :: vs', m, junk, by simp [h1], by simp [h2], Nat.le_succ_of_le hm, ?_, ?_, h5.cons _⟩
      · simp [e, h3]
      · simp [e, h4]
theorem any_zip (k : κ) {α β : Type} : ∀ {ks : List κ} {ws : List α} {vs : List β}, ws.length = vs.length → ((ks.zip ws).any fun kv => decide (kv.1 = k)) = ((ks.zip vs).any fun kv => decide (kv.1 = k))
  | [], _, _, _ => by simp
  | _ :: _, [], [], _ => by simp
  | _ :: _, [], _ :: _, h => by cases h
  | _ :: _, _ :: _, [], h => by cases h
  | q :: ks, a :: ws, b :: vs, h => by
    show (decide (q = k) || (ks.zip ws).any fun kv => decide (kv.1 = k)) = (decide (q = k) || (ks.zip vs).any fun kv => decide (kv.1 = k))
    rw [any_zip k (by simpa using h)]
/-- the entries behind a store in a dict; M: leaves enough -/
theorem put_ent (k : κ) (w : W) (v : V) {ks : List κ} {ws : List W} {vs : List V} (l1 : ws.length = vs.length) (l2 : ks.length = ws.length) {M : Nat} (hM : (ks.zip ws).length + 1 ≤ M) : ∃ (ks' : List κ) (ws' : List W) (vs' : List V) (junk : List Ent), ws'.length = vs'.length ∧ ks'.length = ws'.length ∧
    PF.putK k w (ks.zip ws) = ks'.zip ws' ∧ L2.putK (ks.zip vs) k v = ks'.zip vs' ∧ (ws.zip vs ++ List.replicate M (w, v)).Perm (ws'.zip vs' ++ junk) := by
  have more : ∀ {m : Nat} {ws' : List W} {vs' : List V} {junk : List Ent}, m ≤ M → (ws.zip vs ++ List.replicate m (w, v)).Perm (ws'.zip vs' ++ junk) → (ws.zip vs ++ List.replicate M (w, v)).Perm (ws'.zip vs' ++ (junk ++ List.replicate (M - m) (w, v))) := fun {m ws' vs' junk} h p => by
    have e : List.replicate M (w, v) = List.replicate m (w, v) ++ List.replicate (M - m) (w, v) := by
      rw [List.replicate_append_replicate]
      congr 1
      omega
    rw [e, ← List.append_assoc, ← List.append_assoc]
    exact p.append_right _
  rw [List.length_zip, ← l2, Nat.min_self] at hM
  unfold PF.putK L2.putK
  rw [any_zip k l1]
  by_cases c : ((ks.zip vs).any fun kv => decide (kv.1 = k)) = true
  · rw [if_pos c, if_pos c]
    obtain ⟨ws', vs', m, junk, h1, h2, hm, h3, h4, h5⟩ := map_put k w v l1 l2
    exact ⟨ks, ws', vs', _, h1, h2, h3, h4, more (by omega) h5⟩
  · rw [if_neg c, if_neg c]
    refine ⟨ks ++ [k], ws ++ [w], vs ++ [v], _, by simp [l1], by simp [l2], ?_, ?_, more (m := 1) (junk := []) (by omega) ?_⟩
    · rw [List.zip_append l2]; rfl
    · rw [List.zip_append (l2.trans l1)]; rfl
    · rw [zip_last w v l1, List.append_nil]; exact .refl _
theorem drop_ent (k : κ) : ∀ {ks : List κ} {ws : List W} {vs : List V}, ws.length = vs.length → ks.length = ws.length → ∃ (ks' : List κ) (ws' : List W) (vs' : List V) (junk : List Ent), ws'.length = vs'.length ∧ ks'.length = ws'.length ∧
    (ks.zip ws).filter (fun p => decide (p.1 ≠ k)) = ks'.zip ws' ∧ L2.dropK (ks.zip vs) k = ks'.zip vs' ∧ (ws.zip vs).Perm (ws'.zip vs' ++ junk)
  | [], [], [], _, _ => ⟨[], [], [], [], rfl, rfl, rfl, rfl, .refl _⟩
  | [], _ :: _, _, _, h => by cases h
  | [], [], _ :: _, h, _ => by cases h
  | _ :: _, [], _, _, h => by cases h
  | _ :: _, _ :: _, [], h, _ => by cases h
  | q :: ks, a :: ws, b :: vs, l1, l2 => by
    obtain ⟨ks', ws', vs', junk, h1, h2, h3, h4, h5⟩ := drop_ent k (ks := ks) (ws := ws) (vs := vs) (by simpa using l1) (by simpa using l2)
    unfold L2.dropK at h4 ⊢
    by_cases e : q = k
    · refine ⟨ks', ws', vs', (a, b) :: junk, h1, h2, ?_, ?_, ?_⟩
      · simp [e]; simpa using h3
      · simp [e]; simpa using h4
      · exact (h5.cons _).trans List.perm_middle.symm
    · refine ⟨q :: ks', a :: ws', b :: vs', junk, by simp [h1], by simp [h2], ?_, ?_, h5.cons _⟩
      · simp [e]; simpa using h3
      · simp [e]; simpa using h4
theorem look_zip (k : κ) {α β : Type} : ∀ {ks : List κ} {ws : List α} {vs : List β}, ws.length = vs.length → (lookK k (ks.zip ws)).isSome = (lookK k (ks.zip vs)).isSome
  | [], _, _, _ => rfl
  | _ :: _, [], [], _ => rfl
  | _ :: _, [], _ :: _, h => by cases h
  | _ :: _, _ :: _, [], h => by cases h
  | q :: ks, a :: ws, b :: vs, h => by
    have ih := look_zip k (ks := ks) (ws := ws) (vs := vs) (by simpa using h)
    show (if q = k then some a else lookK k (ks.zip ws)).isSome = (if q = k then some b else lookK k (ks.zip vs)).isSome
    by_cases e : q = k
    · rw [if_pos e, if_pos e]; rfl
    · rw [if_neg e, if_neg e]; exact ih
end
/-! ### stores -/
section
variable {K : PySem.W.Frag} {Kp B B' H H' : Hp} {g g' g1 g2 : Gam} {σ : Sig} {τ es0 : List Ent} {x y : Arg} {xs ys : List Arg} {v u : V} {vs us : List V}
theorem Stt.dups {d : D} (m : Nat) (S : Stt K Kp B H g σ ((.fz d, v) :: τ)) : Stt K Kp B H g σ (List.replicate m (.fz d, v) ++ τ) := by
  have R : Rp K Kp B H ((.fz d, v) :: (slotEs g σ ++ τ)) := S.2.perm List.perm_middle
  have go : ∀ m, Rp K Kp B H (List.replicate m (.fz d, v) ++ (slotEs g σ ++ τ)) := by
    intro m
    induction m with
    | zero => exact R.tail
    | succ m ih =>
      rw [List.replicate_succ]
      exact ih.leaf R.leafOf
  exact ⟨S.1, (go m).perm (perm3 _ _ _)⟩
end
def rSet : TSet := fun o i v H Q => rSetL o i v H Q ∨ ∃ a H', o = .ref a ∧ DPut H a i v H' ∧ Q H'
theorem set_any {X : Cx} (hu : X.A.units + 1 < cLine) : PSet X rSet := by
  intro pins s σ H o i v ov iv u Q I ro ri rv h
  rcases h with h | ⟨a, H', e, g, q⟩
  · exact set_list pins s σ H o i v ov iv u Q I ro ri rv h
  · subst e
    cases ro
    exact d_setItem hu I g ri rv fun s' I' => ⟨H', I', q⟩
theorem RepD.int {K : PySem.W.Frag} {B : Hp} {n : Int} {v : V} (h : RepD K B (.int n) v) : v = .int n := h
section
variable {X : Cx} {S : Sc} {F : Nat → List W → Option (W × List W)} {a b c i : IE} {ea eb ec : Expr} {pos p : Pos} {il : IL} {es : List Expr} {tg : Expr}
theorem key_fz {w : W} {k : Key} (e : keyOf w.toD = some k) : ∃ d, w = .fz d := by
  cases w with
  | fz d => exact ⟨d, rfl⟩
  | _ => cases e
theorem Stt.modAt {K : PySem.W.Frag} {Kp B H : Hp} {g g' : Gam} {σ : Sig} {τ : List Ent} {x : Arg} {v : V} {α : Type} {f : W → Option (W × α)} {r : α} (e : modP g x f = some (g', r)) : ∃ w1 w1', f w1 = some (w1', r) ∧ res g x = some w1 := by
  cases x with
  | tmp _ => cases e
  | pth j sp =>
    have e : (match g[j]? with | some (some w0) => (match w0.at sp with | some w1 => (f w1).map fun p => (g.set j (some (w0.setAt p.1 sp)), p.2) | none => none) | _ => none) = some (g', r) := e
    split at e
    · rename_i w0 q0
      split at e
      · rename_i w1 q1
        obtain ⟨⟨w1', r'⟩, q, q2⟩ := Option.map_eq_some_iff.mp e
        cases q2
        refine ⟨w1, w1', q, ?_⟩
        show (match g[j]? with | some (some w) => w.at sp | _ => none) = _
        rw [q0]
        exact q1
      · cases e
    · cases e
theorem nodeK {ws : List (Key × W)} {o : HO} {es : List Ent} (n : NodeR (.dK ws) o es) : ∃ (ks : List Key) (us : List W) (vs : List V), ws = ks.zip us ∧ o = .dK (ks.zip vs) ∧ us.length = vs.length ∧ ks.length = us.length ∧ es = us.zip vs := by
  cases n with
  | dK l1 l2 => exact ⟨_, _, _, rfl, rfl, l1, l2, rfl⟩
theorem nodeT {ws : List (List Key × W)} {o : HO} {es : List Ent} (n : NodeR (.dT ws) o es) : ∃ (ks : List (List Key)) (us : List W) (vs : List V), ws = ks.zip us ∧ o = .dT (ks.zip vs) ∧ us.length = vs.length ∧ ks.length = us.length ∧ es = us.zip vs := by
  cases n with
  | dT l1 l2 => exact ⟨_, _, _, rfl, rfl, l1, l2, rfl⟩
theorem isFz_fz {w : W} (h : w.isFz = true) : ∃ d, w = .fz d := by
  cases w with
  | fz d => exact ⟨d, rfl⟩
  | _ => cases h
theorem setW_node {d : D} {w w1 : W} {p : W × Unit} (h : setW d w w1 = some p) : w1.isNode = true := by
  cases w1 with
  | fz d => cases h
  | _ => rfl
theorem g_sub (G : Good X S F) (ns : notSlice eb = true) (ha : SE X F a ea) (hb : SE X F b eb) {o : Bool} : PG X (.Subscript ea eb pos) (tST X.K S.io (fun w g => stoW F (.sub a b o) w g)) := by
  refine PG_imp (pg_sub ha hb (set_any (by have := G.units; omega)) (fun v => by cases eb <;> first | rfl | cases ns)) fun v σ H Q ⟨Kp, B, g, τ, w, g', S0, e, k⟩ => ?_
  simp only [stoW, Option.bind_eq_bind, Option.bind_eq_some_iff, Prod.exists, Option.ite_none_right_eq_some] at e
  obtain ⟨x, g1, e1, y, g2, e2, st, wi, e3, g3, r, e4, e5⟩ := e
  cases e5
  refine two_ok S0 e1 e2 st fun v1 v2 H2 B2 p2 G2 => ?_
  have S2 : Stt X.K Kp B2 H2 g2 σ ((w, v) :: τ) := G2.st.drop
  have hi := G2.tail.now e3
  have P : PthAll H2 σ [x] [v1] := by
    have := G2.pth
    cases x with
    | tmp _ => exact True.intro
    | pth j sp => exact ⟨this.1, True.intro⟩
  obtain ⟨w1, w1', hs, hr⟩ := Stt.modAt (K := X.K) (Kp := Kp) (B := B2) (H := H2) (σ := σ) (τ := τ) (v := v1) e4
  cases w1 with
  | fz d => cases hs
  | lst ws =>
    obtain ⟨a1, o1, es1, w2, w2', ev, ho, nr, ef, kk⟩ := Stt.mod (es0 := [(w, v)]) S2 P e4 fun w p h => setW_node h
    cases w2 with
    | fz d => cases ef
    | dK _ =>
      obtain ⟨fp, ⟨p, us, fs, q1, q2, q3, _⟩, _⟩ := G2.rep1 hr
      obtain ⟨ks, us', vs', _, q4, _⟩ := nodeK nr
      rw [ev] at q1; cases q1
      rw [ho] at q3; rw [q4] at q3; cases q3
    | dT _ =>
      obtain ⟨fp, ⟨p, us, fs, q1, q2, q3, _⟩, _⟩ := G2.rep1 hr
      obtain ⟨ks, us', vs', _, q4, _⟩ := nodeT nr
      rw [ev] at q1; cases q1
      rw [ho] at q3; rw [q4] at q3; cases q3
    | lst ws2 =>
      obtain ⟨us, eo, l, ee⟩ := nodeL nr
      subst eo ee
      cases hd : wi.toD with
      | int n =>
        rw [hd] at ef hi
        have ef : ((ixN ws2.length n).map fun m => (W.lst (ws2.set m w), ())) = some (w2', r) := ef
        rw [Option.map_eq_some_iff] at ef
        obtain ⟨m, em, e9⟩ := ef
        cases e9
        obtain ⟨junk, pj⟩ := zip_set (n := m) w v l
        have S3 := kk (.lst (us.set m v)) _ junk (.lst (ws := ws2.set m w) (vs := us.set m v) (by simp [l])) pj
        exact .inl ⟨a1, us, n, m, ev, hi, ho, by rw [← l]; exact em, k σ _ B2 p2.1 .refl S3.drop⟩
      | _ => rw [hd] at ef; cases ef
  | dK kvs =>
    have hs' := hs
    cases hk : keyOf wi.toD with
    | none =>
      have hs : (match keyOf wi.toD with | some k => if w.isFz && decide (kvs.length < sizeLine) then some (W.dK (PF.putK k w kvs), ()) else none | none => none) = some (w1', r) := hs
      rw [hk] at hs; cases hs
    | some key =>
      have hs : (match keyOf wi.toD with | some k => if w.isFz && decide (kvs.length < sizeLine) then some (W.dK (PF.putK k w kvs), ()) else none | none => none) = some (w1', r) := hs
      rw [hk] at hs
      have hs : (if w.isFz && decide (kvs.length < sizeLine) then some (W.dK (PF.putK key w kvs), ()) else none) = some (w1', r) := hs
      rw [Option.ite_none_right_eq_some, Bool.and_eq_true, decide_eq_true_eq] at hs
      obtain ⟨⟨fz, _⟩, _⟩ := hs
      obtain ⟨d, ew⟩ := isFz_fz fz
      subst ew
      obtain ⟨a1, o1, es1, w2, w2', ev, ho, nr, ef, kk⟩ := Stt.mod (es0 := List.replicate (kvs.length + 1) (.fz d, v)) (S2.dups (kvs.length + 1)) P e4 fun w p h => setW_node h
      obtain ⟨fp, ⟨p, us, fs, q1, q2, q3, q4⟩, _⟩ := G2.rep1 hr
      rw [ev] at q1; cases q1
      rw [ho] at q3
      have lk : kvs.length = us.length := by
        obtain ⟨ks, ws, vs, f1, f2, f3, f4, _⟩ := q4.ent
        rw [f1, f2, List.length_zip, List.length_zip, f3]
      cases w2 with
      | fz d => cases ef
      | lst _ =>
        obtain ⟨vs', q5, _⟩ := nodeL nr
        rw [q5] at q3; cases q3
      | dT _ =>
        obtain ⟨ks, us', vs', _, q5, _⟩ := nodeT nr
        rw [q5] at q3; cases q3
      | dK kvs2 =>
        obtain ⟨ks, ws, vs, f1, f2, l1, l2, f5⟩ := nodeK nr
        subst f1 f2 f5
        have q3 : ks.zip vs = us := by cases q3; rfl
        have ef : (match keyOf wi.toD with | some k => if (W.fz d).isFz && decide ((ks.zip ws).length < sizeLine) then some (W.dK (PF.putK k (.fz d) (ks.zip ws)), ()) else none | none => none) = some (w2', r) := ef
        rw [hk] at ef
        have ef : (if (W.fz d).isFz && decide ((ks.zip ws).length < sizeLine) then some (W.dK (PF.putK key (.fz d) (ks.zip ws)), ()) else none) = some (w2', r) := ef
        rw [Option.ite_none_right_eq_some, Bool.and_eq_true, decide_eq_true_eq] at ef
        obtain ⟨⟨_, lt⟩, e9⟩ := ef
        cases e9
        have lz : (ks.zip ws).length = kvs.length := by rw [lk, ← q3, List.length_zip, List.length_zip, l1]
        obtain ⟨ks', ws', vs', junk, h1, h2, h3, h4, h5⟩ := put_ent key (.fz d) v l1 l2 (M := kvs.length + 1) (by omega)
        have S3 := kk (.dK (ks'.zip vs')) (ws'.zip vs') junk (by rw [h3]; exact .dK h1 h2) h5
        refine .inr ⟨_, _, ev, .inl ⟨ks.zip vs, key, ho, ?_, ?_, rfl⟩, ?_⟩
        · obtain ⟨dk, ek⟩ := key_fz hk
          subst ek
          exact (G2.tail.leafAt e3).key hk
        · rw [List.length_zip] at lt ⊢; omega
        · rw [h4]
          exact k σ _ B2 p2.1 .refl S3.drop
  | dT kvs =>
    have hs : (match wi.toD with | .tup ys => (match keysOf ys with | some k => if w.isFz && decide (kvs.length < sizeLine) then some (W.dT (PF.putK k w kvs), ()) else none | none => none) | _ => none) = some (w1', r) := hs
    split at hs
    · rename_i ys hwi
      cases hk : keysOf ys with
      | none => rw [hk] at hs; cases hs
      | some key =>
        rw [hk] at hs
        have hs : (if w.isFz && decide (kvs.length < sizeLine) then some (W.dT (PF.putK key w kvs), ()) else none) = some (w1', r) := hs
        rw [Option.ite_none_right_eq_some, Bool.and_eq_true, decide_eq_true_eq] at hs
        obtain ⟨⟨fz, _⟩, _⟩ := hs
        obtain ⟨d, ew⟩ := isFz_fz fz
        subst ew
        obtain ⟨a1, o1, es1, w2, w2', ev, ho, nr, ef, kk⟩ := Stt.mod (es0 := List.replicate (kvs.length + 1) (.fz d, v)) (S2.dups (kvs.length + 1)) P e4 fun w p h => setW_node h
        obtain ⟨fp, ⟨p, us, fs, q1, q2, q3, q4⟩, _⟩ := G2.rep1 hr
        rw [ev] at q1; cases q1
        rw [ho] at q3
        have lk : kvs.length = us.length := by
          obtain ⟨ks, ws, vs, f1, f2, f3, f4, _⟩ := q4.ent
          rw [f1, f2, List.length_zip, List.length_zip, f3]
        cases w2 with
        | fz d => cases ef
        | lst _ =>
          obtain ⟨vs', q5, _⟩ := nodeL nr
          rw [q5] at q3; cases q3
        | dK _ =>
          obtain ⟨ks, us', vs', _, q5, _⟩ := nodeK nr
          rw [q5] at q3; cases q3
        | dT kvs2 =>
          obtain ⟨ks, ws, vs, f1, f2, l1, l2, f5⟩ := nodeT nr
          subst f1 f2 f5
          have q3 : ks.zip vs = us := by cases q3; rfl
          rw [hwi] at ef
          have ef : (match keysOf ys with | some k => if (W.fz d).isFz && decide ((ks.zip ws).length < sizeLine) then some (W.dT (PF.putK k (.fz d) (ks.zip ws)), ()) else none | none => none) = some (w2', r) := ef
          rw [hk] at ef
          have ef : (if (W.fz d).isFz && decide ((ks.zip ws).length < sizeLine) then some (W.dT (PF.putK key (.fz d) (ks.zip ws)), ()) else none) = some (w2', r) := ef
          rw [Option.ite_none_right_eq_some, Bool.and_eq_true, decide_eq_true_eq] at ef
          obtain ⟨⟨_, lt⟩, e9⟩ := ef
          cases e9
          have lz : (ks.zip ws).length = kvs.length := by rw [lk, ← q3, List.length_zip, List.length_zip, l1]
          obtain ⟨ks', ws', vs', junk, h1, h2, h3, h4, h5⟩ := put_ent key (.fz d) v l1 l2 (M := kvs.length + 1) (by omega)
          have S3 := kk (.dT (ks'.zip vs')) (ws'.zip vs') junk (by rw [h3]; exact .dT h1 h2) h5
          have hw : ∃ d', wi = .fz d' := by
            cases wi with
            | fz d => exact ⟨d, rfl⟩
            | _ => cases hwi
          obtain ⟨d', hw⟩ := hw
          subst hw
          have hd' : d' = .tup ys := hwi
          subst hd'
          obtain ⟨b, bs, f6, f7, f8⟩ := G2.tail.leafAt e3
          refine .inr ⟨_, _, ev, .inr ⟨ks.zip vs, key, b, ho, f6, ?_, ?_, rfl⟩, ?_⟩
          · rw [← f8.keys hk]
            exact G2.st.2.sb _ _ f7
          · rw [List.length_zip] at lt ⊢; omega
          · rw [h4]
            exact k σ _ B2 p2.1 .refl S3.drop
    · cases hs
end
end PF
end

section
set_option Elab.async false
set_option linter.all false
set_option maxRecDepth 100000
set_option maxHeartbeats 4000000
namespace PF
open PySem PySem.Spec PyProof.Rows L2 RZ

section
variable {X : Cx} {S : Sc} {F : Nat → List W → Option (W × List W)} {a b c i : IE} {ea eb ec : Expr} {pos p : Pos} {il : IL} {es : List Expr} {tg : Expr}
theorem nm_imp {K : PySem.W.Frag} {io : List Nat} {n : Nat} {o : Bool} {v : V} {σ : Sig} {H : Hp} {Q : L2.St → Hp → Prop} (hn : n ∉ io) (h : tST K io (fun w g => stoW F (.nm n o) w g) v σ H Q) : gName n v σ H Q := by
  obtain ⟨Kp, B, g, τ, w, g', S0, e, k⟩ := h
  have e : (if n < g.length then some (g.set n (some w)) else none) = some g' := e
  rw [Option.ite_none_right_eq_some] at e
  obtain ⟨hi, e⟩ := e
  cases e
  exact k _ _ B .refl (Keep.set hn) (S0.store hi)
theorem un_imp {K : PySem.W.Frag} {io : List Nat} {t : IT} {v : V} {σ : Sig} {H : Hp} {Q : L2.St → Hp → Prop} (hn : ∀ i ∈ namesT t, i ∉ io) (h : tST K io (fun w g => stoW F (.un t) w g) v σ H Q) : tG K t v σ H Q := by
  obtain ⟨Kp, B, g, τ, w, g', S0, e, k⟩ := h
  cases w with
  | fz d =>
    have e : bindT t d g = some g' := e
    have R : Rp K Kp B H ((.fz d, v) :: (slotEs g σ ++ τ)) := S0.2.perm List.perm_middle
    exact ⟨Kp, B, g, τ, d, g', ⟨S0.1, R.tail⟩, R.leafOf, e, fun σ' S' c => k σ' H B .refl (c.keep hn) S'⟩
  | _ => cases e
theorem g_sto (G : Good X S F) {t : ST} (h : mSto S t tg = true) : PG X tg (tST X.K S.io (fun w g => stoW F t w g)) := by
  cases t with
  | nm n o =>
    cases tg with
    | Name x px =>
      have h : (decide (S.N[n]? = some x) && decide (x ∈ S.sto) && decide (n ∉ S.io)) = true := h
      simp only [Bool.and_eq_true, decide_eq_true_eq] at h
      obtain ⟨lo, fn⟩ := G.sto x h.1.2
      exact PG_imp (pg_name (by rw [G.N]; exact G.nd) (by rw [G.N]; exact h.1.1) lo fn) fun v σ H Q q => nm_imp h.2 q
    | _ => cases h
  | un t =>
    have h : (isTup tg && mT S t tg) = true := h
    rw [Bool.and_eq_true] at h
    exact PG_imp (sg G h.2) fun v σ H Q q => un_imp (fun i hi => by obtain ⟨_, _, _, z⟩ := mT_names h.2 i hi; exact z) q
  | sub a i o =>
    cases tg with
    | Subscript x y p =>
      have h : (notSlice y && mE S a x && mE S i y) = true := h
      simp only [Bool.and_eq_true] at h
      exact g_sub G h.1.1 (sndE F a X S G x h.1.2).1 (sndE F i X S G y h.2).1
    | _ => cases h
theorem g_stoL (G : Good X S F) : ∀ {ts : List ST} {es : List Expr}, mStoL S ts es = true → PGs X es (tSTs X.K S.io (fun ws g => stoL F ts ws g))
  | [], [], _ => by
    refine PGs_imp pgs_nil fun vs σ H Q ⟨Kp, B, g, τ, ws, g', l, S0, e, k⟩ => ?_
    cases ws with
    | nil =>
      cases e
      cases vs with
      | nil => exact ⟨rfl, k σ H B .refl .refl S0⟩
      | cons _ _ => cases l
    | cons _ _ => cases e
  | [], _ :: _, h => by cases h
  | _ :: _, [], h => by cases h
  | t :: ts, e :: es, h => by
    have h : (notStar e && mSto S t e && mStoL S ts es) = true := h
    simp only [Bool.and_eq_true] at h
    refine PGs_imp (pgs_cons (g_sto G h.1.2) (g_stoL G h.2) (by rw [asg_of h.1.1]; rfl)) fun vs σ H Q ⟨Kp, B, g, τ, ws, g', l, S0, e, k⟩ => ?_
    cases ws with
    | nil => cases e
    | cons w ws =>
      cases vs with
      | nil => cases l
      | cons v vs =>
        have e : ((stoW F t w g).bind fun g1 => stoL F ts ws g1) = some g' := e
        obtain ⟨g1, e1, e2⟩ := Option.bind_eq_some_iff.mp e
        refine ⟨v, vs, rfl, Kp, B, g, ws.zip vs ++ τ, w, g1, S0, e1, fun σ1 H1 B1 x1 c1 S1 => ?_⟩
        exact ⟨Kp, B1, g1, τ, ws, g', by simpa using l, S1, e2, fun σ2 H2 B2 x2 c2 S2 => k σ2 H2 B2 (x1.trans x2) (c1.trans c2) S2⟩
theorem mStoL_star : ∀ {ts : List ST} {es : List Expr}, mStoL S ts es = true → (∀ e ∈ es, notStar e = true) ∧ ts.length = es.length
  | [], [], _ => ⟨fun _ h => (by cases h), rfl⟩
  | [], _ :: _, h => by cases h
  | _ :: _, [], h => by cases h
  | t :: ts, e :: es, h => by
    have h : (notStar e && mSto S t e && mStoL S ts es) = true := h
    simp only [Bool.and_eq_true] at h
    obtain ⟨q, l⟩ := mStoL_star h.2
    refine ⟨fun z hz => ?_, by simp [l]⟩
    rcases List.mem_cons.mp hz with rfl | hz
    · exact h.1.1
    · exact q z hz
theorem swF {t v : Expr} {line : Nat} {env : PySem.Env} (hv : okVal v = true) (ht : ∀ x p, t ≠ .Name x p) : swapsWithSole [t] v line env = pure false := by
  show swapsWith v (some t) line env = pure false
  cases v <;> first
    | rfl
    | (cases hv; done)
    | (cases t <;> first | rfl | exact absurd rfl (ht _ _))
/-- a store of one value -/
theorem ps_assign (G : Good X S F) (hk : S.sc.kind = .function) {t : ST} {e : IE} {v : Expr} (h : mAsg S t e tg v = true) : PS X (.Assign [tg] v pos) (tAsg (tE X.K (pureE e) (evE F e)) (tST X.K S.io (fun w g => stoW F t w g))) := by
  unfold mAsg at h
  simp only [Bool.and_eq_true] at h
  obtain ⟨⟨⟨h1, h2⟩, h3⟩, h4⟩ := h
  have hE := (sndE F e X S G v h2).1
  cases t with
  | nm n o =>
    cases tg with
    | Name x px =>
      have h1' : (decide (S.N[n]? = some x) && decide (x ∈ S.sto) && decide (n ∉ S.io)) = true := h1
      simp only [Bool.and_eq_true, decide_eq_true_eq] at h1'
      obtain ⟨lo, fn⟩ := G.sto x h1'.1.2
      have imp : ∀ D σ H, tAsg (tE X.K (pureE e) (evE F e)) (tST X.K S.io (fun w g => stoW F (.nm n o) w g)) D σ H → tAsg (tE X.K (pureE e) (evE F e)) (gName n) D σ H := fun D σ H ⟨Kp, B, g, τ, z, g', S0, ev, k⟩ =>
        ⟨Kp, B, g, τ, z, g', S0, ev, fun v H' B' p' G' => nm_imp h1'.2 (k v H' B' p' G')⟩
      by_cases hc : swC S x px v = true
      · cases v with
        | ListComp elt gens scope p =>
          cases e with
          | comp ow t it cs oe a =>
            obtain ⟨elt', tg', iter, ifs, scope', pos', he, f1, f2, f3, f4, f5, f6, f7⟩ := mE_comp h2
            cases he
            have hl : (S.sc.names.lookup x == some .local && px.line == p.line && !(scope.names.any fun y => y.1 == x && (y.2 == .local || y.2 == .cell))) = true := hc
            simp only [Bool.and_eq_true] at hl
            exact PS_imp (ps_comp G (by rw [G.N]; exact h1'.1.1) (by rw [G.sc]; exact eq_of_beq hl.1.1) (by rw [swC_of G.sc hk (.inr ⟨_, _, _, _, rfl⟩), hc]) f1 f2 f3 (sndI F it X S G tg' iter f4) f5 (fun X' G' => sndC F cs X' _ G' ifs f6) (fun X' G' => (sndE F a X' _ G' elt f7).1)) imp
          | cst d => cases d <;> cases h2
          | un o' a => cases o' <;> cases h2
          | bf b es => cases b <;> first | cases h2 | (rcases es with _ | ⟨_, _ | ⟨_, _⟩⟩ <;> cases h2)
          | isi a ts o' => cases o' <;> first | cases h2 | (rcases ts with _ | ⟨t, _ | ⟨_, _⟩⟩ <;> cases h2)
          | _ => cases h2
        | _ => cases hc
      · have hsw : swapsWith v (some (.Name x px)) pos.line X.env = pure false := by
          rw [swC_of G.sc hk]
          · rw [Bool.not_eq_true] at hc
            rw [hc]
          · cases v <;> first | exact .inl rfl | exact .inr ⟨_, _, _, _, rfl⟩ | cases h3
        exact PS_imp (ps_set (by rw [G.N]; exact G.nd) (by rw [G.N]; exact h1'.1.1) lo hE hsw fn) imp
    | _ => cases h1
  | un t =>
    have ht : isTup tg = true := by
      have h1 : (isTup tg && mT S t tg) = true := h1
      rw [Bool.and_eq_true] at h1
      exact h1.1
    refine ps_asg hE (g_sto G h1) (swF h3 fun x p q => by rw [q] at ht; cases ht) ?_ ?_
    · cases tg <;> first | (cases ht; done) | skip
      cases v <;> first | rfl | cases h4
    · cases tg <;> first | (cases ht; done) | rfl
  | sub a i o =>
    cases tg with
    | Subscript x y p => exact ps_asg hE (g_sto G h1) (swF h3 fun _ _ q => by cases q) rfl rfl
    | _ => cases h1
theorem takeS_got {K : PySem.W.Frag} {Kp H : Hp} {σ : Sig} : ∀ {ts : List ST} {xs : List Arg} {vs : List V} {ws : List W} {B : Hp} {g g' : Gam} {τ : List Ent}, Got K Kp B H g σ τ xs vs → takeS ts xs g = some (ws, g') → ∃ B', Ext Kp B B' ∧ Stt K Kp B' H g' σ (ws.zip vs ++ τ) ∧ ws.length = vs.length ∧ ts.length = ws.length
  | [], [], [], ws, B, g, g', τ, G, e => by
    cases e
    exact ⟨B, .refl, G.st, rfl, rfl⟩
  | _, [], _ :: _, _, _, _, _, _, G, _ => G.pth.elim
  | [], _ :: _, _, _, _, _, _, _, _, e => by cases e
  | _ :: _, [], _, _, _, _, _, _, _, e => by cases e
  | _ :: _, x :: _, [], _, _, _, _, _, G, _ => by cases x <;> exact (G.pth : False).elim
  | t :: ts, x :: xs, v :: vs, ws, B, g, g', τ, G, e => by
    have e : ((takeA t.own g x).bind fun p => (takeS ts xs p.2).bind fun q => some (p.1 :: q.1, q.2)) = some (ws, g') := e
    obtain ⟨⟨w, g1⟩, q1, e⟩ := Option.bind_eq_some_iff.mp e
    obtain ⟨⟨r, g2⟩, e1, e2⟩ := Option.bind_eq_some_iff.mp e
    cases e2
    obtain ⟨B1, x1, G1⟩ := G.take q1
    obtain ⟨B2, x2, S2, l, l2⟩ := takeS_got G1 e1
    exact ⟨B2, x1.trans x2, S2.perm List.perm_middle, by simp [l], by simp [l2]⟩
end
end PF
end

section
set_option Elab.async false
set_option linter.all false
set_option maxRecDepth 100000
set_option maxHeartbeats 4000000
namespace PF
open PySem PySem.Spec PyProof.Rows L2 RZ

def SS (X : Cx) (io : List Nat) (F : Nat → List W → Option (W × List W)) (fu : Nat) (s : IS) (st : Stmt) : Prop := PS X st (tSt X.K io (runS F fu s))
def SB (X : Cx) (io : List Nat) (F : Nat → List W → Option (W × List W)) (fu : Nat) (b : IB) (sts : List Stmt) : Prop := PSs X sts (tSt X.K io (runB F fu b))
section
variable {X : Cx} {S : Sc} {F : Nat → List W → Option (W × List W)} {fu : Nat} {a b c i : IE} {ea eb ec : Expr} {pos p : Pos} {il : IL} {es : List Expr} {tg : Expr}
theorem ss_asg (G : Good X S F) (hk : S.sc.kind = .function) {t : ST} {e : IE} {v : Expr} (h : mAsg S t e tg v = true) : SS X S.io F fu (.asg t e) (.Assign [tg] v pos) := by
  refine PS_imp (ps_assign G hk h) fun D σ H ⟨Kp, B, g, τ, o, S0, e, k⟩ => ?_
  simp only [runS, Option.bind_eq_bind, Option.bind_eq_some_iff, Prod.exists] at e
  obtain ⟨x, g1, e1, w, g2, e2, g3, e3, e4⟩ := e
  cases e4
  refine ⟨Kp, B, g, τ, x, g1, S0, e1, fun v H1 B1 p1 G1 => ?_⟩
  obtain ⟨B2, x2, G2⟩ := G1.take e2
  exact ⟨Kp, B2, g2, τ, w, g3, G2.st, e3, fun σ' H' B' x' c' S' => k σ' H' B' ((p1.1.trans x2).trans x') c' S'⟩
theorem gotN {K : PySem.W.Frag} {Kp B H : Hp} {g : Gam} {σ : Sig} {τ : List Ent} : ∀ {xs : List Arg} {vs : List V}, PthAll H σ xs vs → xs.length = vs.length
  | [], [], _ => rfl
  | [], _ :: _, h => (h : False).elim
  | x :: _, [], h => by cases x <;> exact (h : False).elim
  | x :: xs, v :: vs, h => by
    cases x with
    | tmp w => simp [gotN (K := K) (Kp := Kp) (B := B) (g := g) (τ := τ) (xs := xs) (vs := vs) h]
    | pth i st => simp [gotN (K := K) (Kp := Kp) (B := B) (g := g) (τ := τ) (xs := xs) (vs := vs) h.2]
theorem ss_asgs (G : Good X S F) (hk : S.sc.kind = .function) {ts : List ST} {es : IL} {tgs vs : List Expr} {k1 k2 : Nat} {p1 p2 : Pos} (h : mAsgs S ts es tgs vs = true) : SS X S.io F fu (.asgs ts es) (.Assign [.Tuple tgs k1 p1] (.Tuple vs k2 p2) pos) := by
  unfold mAsgs at h
  simp only [Bool.and_eq_true, decide_eq_true_eq] at h
  obtain ⟨⟨⟨h1, h2⟩, h3⟩, h4⟩ := h
  obtain ⟨st, ln⟩ := mStoL_star h1
  have hL := sndL F es X S G vs h2
  cases hw : swpB S tgs vs with
  | none => rw [hw] at h4; cases h4
  | some r =>
    rw [hw] at h4
    have hs := swp_of (k := k1) (k2 := k2) (p := p1) (p2 := p2) G.sc hk hw
    cases r with
    | none =>
      refine PS_imp (ps_asg (pe_tup hL) (pg_tup G.calm (g_stoL G h1) (asg_len st).1 (asg_len st).2) rfl hs rfl) fun D σ H ⟨Kp, B, g, τ, o, S0, e, k⟩ => ?_
      simp only [runS, Option.bind_eq_bind, Option.bind_eq_some_iff, Prod.exists] at e
      obtain ⟨xs, g1, e1, ws, g2, e2, g3, e3, e4⟩ := e
      cases e4
      refine ⟨Kp, B, g, τ, xs, g1, S0, e1, fun us H1 B1 p1 G1 => ?_⟩
      obtain ⟨B2, x2, S2, l, l2⟩ := takeS_got G1 e2
      refine ⟨by rw [← l, ← l2, sizeLine_eq]; omega, fun q hq => ⟨q, us, rfl, .inl (.inl upd_same), by rw [← l, ← l2, ln], Kp, B2, g2, τ, ws, g3, l, ⟨S2.1, S2.2.junk hq⟩, e3, fun σ' H' B' x' c' S' => k σ' H' B' ((p1.1.trans x2).trans x') c' S'⟩⟩
    | some nm =>
      simp only [Bool.and_eq_true, decide_eq_true_eq] at h4
      obtain ⟨⟨h5, h6⟩, h7⟩ := h4
      rcases ts with _ | ⟨t1, _ | ⟨t2, _ | ⟨t3, _ | ⟨_, _⟩⟩⟩⟩
      · rcases tgs with _ | ⟨_, _⟩ <;> cases h5
      · cases t1 <;> cases h5
      · -- two
        rcases tgs with _ | ⟨y1, _ | ⟨y2, _ | ⟨_, _⟩⟩⟩ <;> first | (cases ln; done) | skip
        cases t1 with
        | nm i oi =>
          cases t2 with
          | nm j oj =>
            cases y1 with
            | Name x px =>
              cases y2 with
              | Name y py =>
                have h5 : (decide (i ≠ j) && decide (S.sc.names.lookup x = some .local) && decide (S.sc.names.lookup y = some .local)) = true := h5
                simp only [Bool.and_eq_true, decide_eq_true_eq] at h5
                obtain ⟨⟨ij, lx⟩, ly⟩ := h5
                have h1 : (true && (decide (S.N[i]? = some x) && decide (x ∈ S.sto) && decide (i ∉ S.io)) && (true && (decide (S.N[j]? = some y) && decide (y ∈ S.sto) && decide (j ∉ S.io)) && true)) = true := h1
                simp only [Bool.and_eq_true, decide_eq_true_eq] at h1
                obtain ⟨⟨_, ⟨Ni, _⟩, ioi⟩, ⟨_, ⟨Nj, _⟩, ioj⟩, _⟩ := h1
                rcases vs with _ | ⟨v1, _ | ⟨v2, _ | ⟨_, _⟩⟩⟩ <;> first | (cases h7; done) | skip
                subst h6
                refine PS_imp (ps_par G.calm (by rw [G.N]; exact G.nd) (by rw [G.N]; exact Ni) (by rw [G.N]; exact Nj) ij (by rw [G.sc]; exact lx) (by rw [G.sc]; exact ly) hL hs rfl) fun D σ H ⟨Kp, B, g, τ, o, S0, e, k⟩ => ?_
                simp only [runS, Option.bind_eq_bind, Option.bind_eq_some_iff, Prod.exists] at e
                obtain ⟨xs, g1, e1, ws, g2, e2, g3, e3, e4⟩ := e
                cases e4
                refine ⟨Kp, B, g, τ, xs, g1, S0, e1, fun us H1 B1 p1 G1 => ?_⟩
                obtain ⟨B2, x2, S2, l, l2⟩ := takeS_got G1 e2
                rcases ws with _ | ⟨w1, _ | ⟨w2, _ | ⟨_, _⟩⟩⟩ <;> first | (cases l2; done) | skip
                rcases us with _ | ⟨u1, _ | ⟨u2, _ | ⟨_, _⟩⟩⟩ <;> first | (cases l; done) | skip
                have e3 : ((if i < g2.length then some (g2.set i (some w1)) else none).bind fun ga => ((if j < ga.length then some (ga.set j (some w2)) else none).bind fun gb => some gb)) = some g3 := e3
                rw [Option.bind_eq_some_iff] at e3
                obtain ⟨ga, ea, e3⟩ := e3
                rw [Option.bind_eq_some_iff] at e3
                obtain ⟨gb, eb, e3⟩ := e3
                rw [Option.ite_none_right_eq_some] at ea eb
                obtain ⟨hi, ea⟩ := ea
                obtain ⟨hj, eb⟩ := eb
                cases ea
                cases eb
                cases e3
                have Sa : Stt X.K Kp B2 H1 _ _ ((w2, u2) :: τ) := Stt.store (w := w1) (v := u1) (i := i) S2 hi
                have Sb := Stt.store (w := w2) (v := u2) (i := j) Sa hj
                exact ⟨u1, u2, rfl, k _ H1 B2 (p1.1.trans x2) ((Keep.set ioi).trans (Keep.set ioj)) Sb⟩
              | _ => cases h5
            | _ => cases h5
          | _ => cases h5
        | _ => cases h5
      · -- three
        rcases tgs with _ | ⟨y1, _ | ⟨y2, _ | ⟨y3, _ | ⟨_, _⟩⟩⟩⟩ <;> first | (cases ln; done) | skip
        cases t1 with
        | nm i oi =>
          cases t2 with
          | nm j oj =>
            cases t3 with
            | nm l0 ol =>
              cases y1 with
              | Name x px =>
                cases y2 with
                | Name y py =>
                  cases y3 with
                  | Name z pz =>
                    have h5 : (decide (i ≠ j) && decide (i ≠ l0) && decide (j ≠ l0) && decide (S.sc.names.lookup x = some .local) && decide (S.sc.names.lookup y = some .local) && decide (S.sc.names.lookup z = some .local)) = true := h5
                    simp only [Bool.and_eq_true, decide_eq_true_eq] at h5
                    obtain ⟨⟨⟨⟨⟨ij, il0⟩, jl⟩, lx⟩, ly⟩, lz⟩ := h5
                    have h1 : (true && (decide (S.N[i]? = some x) && decide (x ∈ S.sto) && decide (i ∉ S.io)) && (true && (decide (S.N[j]? = some y) && decide (y ∈ S.sto) && decide (j ∉ S.io)) && (true && (decide (S.N[l0]? = some z) && decide (z ∈ S.sto) && decide (l0 ∉ S.io)) && true))) = true := h1
                    simp only [Bool.and_eq_true, decide_eq_true_eq] at h1
                    obtain ⟨⟨_, ⟨Ni, _⟩, ioi⟩, ⟨_, ⟨Nj, _⟩, ioj⟩, ⟨_, ⟨Nl, _⟩, iol⟩, _⟩ := h1
                    rcases vs with _ | ⟨v1, _ | ⟨v2, _ | ⟨v3, _ | ⟨_, _⟩⟩⟩⟩ <;> first | (cases h7; done) | skip
                    subst h6
                    refine PS_imp (ps_par3 G.calm (by rw [G.N]; exact G.nd) (by rw [G.N]; exact Ni) (by rw [G.N]; exact Nj) (by rw [G.N]; exact Nl) ij il0 jl (by rw [G.sc]; exact lx) (by rw [G.sc]; exact ly) (by rw [G.sc]; exact lz) hL hs rfl) fun D σ H ⟨Kp, B, g, τ, o, S0, e, k⟩ => ?_
                    simp only [runS, Option.bind_eq_bind, Option.bind_eq_some_iff, Prod.exists] at e
                    obtain ⟨xs, g1, e1, ws, g2, e2, g3, e3, e4⟩ := e
                    cases e4
                    refine ⟨Kp, B, g, τ, xs, g1, S0, e1, fun us H1 B1 p1 G1 => ?_⟩
                    obtain ⟨B2, x2, S2, l, l2⟩ := takeS_got G1 e2
                    rcases ws with _ | ⟨w1, _ | ⟨w2, _ | ⟨w3, _ | ⟨_, _⟩⟩⟩⟩ <;> first | (cases l2; done) | skip
                    rcases us with _ | ⟨u1, _ | ⟨u2, _ | ⟨u3, _ | ⟨_, _⟩⟩⟩⟩ <;> first | (cases l; done) | skip
                    have e3 : ((if i < g2.length then some (g2.set i (some w1)) else none).bind fun ga => ((if j < ga.length then some (ga.set j (some w2)) else none).bind fun gb => ((if l0 < gb.length then some (gb.set l0 (some w3)) else none).bind fun gc => some gc))) = some g3 := e3
                    rw [Option.bind_eq_some_iff] at e3
                    obtain ⟨ga, ea, e3⟩ := e3
                    rw [Option.bind_eq_some_iff] at e3
                    obtain ⟨gb, eb, e3⟩ := e3
                    rw [Option.bind_eq_some_iff] at e3
                    obtain ⟨gc, ec, e3⟩ := e3
                    rw [Option.ite_none_right_eq_some] at ea eb ec
                    obtain ⟨hi, ea⟩ := ea
                    obtain ⟨hj, eb⟩ := eb
                    obtain ⟨hl, ec⟩ := ec
                    cases ea
                    cases eb
                    cases ec
                    cases e3
                    have Sa : Stt X.K Kp B2 H1 _ _ ((w2, u2) :: (w3, u3) :: τ) := Stt.store (w := w1) (v := u1) (i := i) S2 hi
                    have Sb : Stt X.K Kp B2 H1 _ _ ((w3, u3) :: τ) := Stt.store (w := w2) (v := u2) (i := j) Sa hj
                    have Sc := Stt.store (w := w3) (v := u3) (i := l0) Sb hl
                    exact ⟨u1, u2, u3, rfl, k _ H1 B2 (p1.1.trans x2) (((Keep.set ioi).trans (Keep.set ioj)).trans (Keep.set iol)) Sc⟩
                  | _ => cases h5
                | _ => cases h5
              | _ => cases h5
            | _ => cases h5
          | _ => cases h5
        | _ => cases h5
      · rcases tgs with _ | ⟨_, _ | ⟨_, _ | ⟨_, _ | ⟨_, _⟩⟩⟩⟩ <;> first | (cases ln; done) | skip
        revert h5
        cases t1 <;> cases t2 <;> cases t3 <;> intro h5 <;> cases h5
theorem ss_aug (G : Good X S F) {n : Nat} {o : BOp} {x : Str} {px : Pos} (hN : S.N[n]? = some x) (hs : x ∈ S.sto) (hi : n ∉ S.io) (ha : SE X F a ea) : SS X S.io F fu (.aug n o a) (.AugAssign (.Name x px) o.py ea pos) := by
  obtain ⟨lo, fn⟩ := G.sto x hs
  have inv : ∀ g o', runS F fu (.aug n o a) g = some o' → ∃ w, g[n]? = some (some w) ∧ ∃ y g1 i j, evE F a g = some (y, g1) ∧ g1[n]? = some (some (.fz (.int i))) ∧ res g1 y = some (.fz (.int j)) ∧ (match o with | .add => some (Oc.nx (g1.set n (some (.fz (.int (i + j)))))) | .sub => some (.nx (g1.set n (some (.fz (.int (i - j)))))) | _ => none) = some o' := fun g o' e => by
    unfold runS at e
    split at e
    · rename_i w q
      simp only [Option.bind_eq_bind, Option.bind_eq_some_iff, Prod.exists] at e
      obtain ⟨y, g1, e1, e2⟩ := e
      split at e2
      · rename_i i j q1 q2
        exact ⟨w, q, y, g1, i, j, e1, q1, q2, e2⟩
      · cases e2
    · cases e
  have go : ∀ (f : Int → Int → Int), (∀ g o', runS F fu (.aug n o a) g = some o' → ∃ w, g[n]? = some (some w) ∧ ∃ y g1 i j, evE F a g = some (y, g1) ∧ g1[n]? = some (some (.fz (.int i))) ∧ res g1 y = some (.fz (.int j)) ∧ o' = .nx (g1.set n (some (.fz (.int (f i j)))))) → PIp X o.py (ipI f) → SS X S.io F fu (.aug n o a) (.AugAssign (.Name x px) o.py ea pos) := fun f hf hp => by
    refine PS_imp (ps_aug (by rw [G.N]; exact G.nd) (by rw [G.N]; exact hN) lo ha hp fn) fun D σ H ⟨Kp, B, g, τ, o', S0, e, k⟩ => ?_
    obtain ⟨w, e0, y, g1, i, j, e1, e2, e3, e4⟩ := hf g o' e
    subst e4
    obtain ⟨xv, hx⟩ := S0.1.get e0
    refine ⟨xv, hx, Kp, B, g, τ, y, g1, S0, e1, fun v H1 B1 p1 G1 => ?_⟩
    have hv : v = .int j := G1.now e3
    have Gx : Got X.K Kp B1 H1 g1 σ (tmps [y] [v] ++ τ) [.pth n []] [xv] := ⟨⟨⟨xv, hx, rfl⟩, True.intro⟩, G1.st⟩
    have hxi : xv = .int i := Got.now (w := .fz (.int i)) Gx (by
      show (match g1[n]? with | some (some w) => w.at [] | _ => none) = _
      rw [e2]
      rfl)
    refine ⟨i, j, hxi, hv, ?_⟩
    have S2 : Stt X.K Kp B1 H1 g1 σ ((.fz (.int (f i j)), .int (f i j)) :: τ) := ((G1.st.drop (τ := τ)).leaf (d := .int (f i j)) rfl).st
    exact k _ H1 B1 p1.1 (Keep.set hi) (S2.store (List.getElem?_eq_some_iff.mp e2).1)
  cases o with
  | add => exact go _ (fun g o' e => by obtain ⟨w, e0, y, g1, i, j, e1, e2, e3, e4⟩ := inv g o' e; cases e4; exact ⟨w, e0, y, g1, i, j, e1, e2, e3, rfl⟩) ip_add
  | sub => exact go _ (fun g o' e => by obtain ⟨w, e0, y, g1, i, j, e1, e2, e3, e4⟩ := inv g o' e; cases e4; exact ⟨w, e0, y, g1, i, j, e1, e2, e3, rfl⟩) ip_sub
  | _ => exact ⟨fun pins s σ H D I ⟨Kp, B, g, τ, o', S0, e, k⟩ => by obtain ⟨w, e0, y, g1, i, j, e1, e2, e3, e4⟩ := inv g o' e; cases e4⟩
theorem ss_exp (hc : notComp ea = true) (ha : SE X F a ea) {io : List Nat} : SS X io F fu (.exp a) (.Expr ea pos) := by
  refine PS_imp (ps_expr ha (by cases ea <;> first | rfl | cases hc)) fun D σ H ⟨Kp, B, g, τ, o, S0, e, k⟩ => ?_
  simp only [runS, Option.bind_eq_bind, Option.bind_eq_some_iff, Prod.exists] at e
  obtain ⟨x, g1, e1, e2⟩ := e
  cases e2
  exact ⟨Kp, B, g, τ, x, g1, S0, e1, fun v H1 B1 p1 G1 => k σ H1 B1 p1.1 .refl (Stt.drop (τ' := tmps [x] [v]) G1.st)⟩
theorem delW_node {d : D} {w1 : W} {p : W × Unit} (h : delW d w1 = some p) : ∃ kvs k, w1 = .dK kvs ∧ keyOf d = some k ∧ (lookK k kvs).isSome = true ∧ p.1 = .dK (kvs.filter fun p => decide (p.1 ≠ k)) := by
  cases w1 with
  | dK kvs =>
    have h : (match keyOf d with | some k => if (lookK k kvs).isSome then some (W.dK (kvs.filter fun p => decide (p.1 ≠ k)), ()) else none | none => none) = some p := h
    split at h
    · rename_i k hk
      rw [Option.ite_none_right_eq_some] at h
      obtain ⟨a, b⟩ := h
      cases b
      exact ⟨kvs, k, rfl, hk, a, rfl⟩
    · cases h
  | _ => cases h
theorem ss_del {tp : Pos} (ha : SE X F a ea) (hb : SE X F b eb) {io : List Nat} : SS X io F fu (.del a b) (.Delete [.Subscript ea eb tp] pos) := by
  refine PS_imp (ps_ddel ha hb) fun D σ H ⟨Kp, B, g, τ, o, S0, e, k⟩ => ?_
  simp only [runS, Option.bind_eq_bind, Option.bind_eq_some_iff, Prod.exists, Option.ite_none_right_eq_some] at e
  obtain ⟨x, g1, e1, y, g2, e2, st, wk, e3, g3, r, e4, e5⟩ := e
  cases e5
  refine two_ok S0 e1 e2 (by rw [st]; rfl) fun v1 v2 H2 B2 p2 G2 => ?_
  have S2 : Stt X.K Kp B2 H2 g2 σ ([] ++ τ) := G2.st.drop
  have P : PthAll H2 σ [x] [v1] := by
    have := G2.pth
    cases x with
    | tmp _ => exact True.intro
    | pth j sp => exact ⟨this.1, True.intro⟩
  obtain ⟨a1, o1, es1, w2, w2', ev, ho, nr, ef, kk⟩ := Stt.mod (es0 := []) S2 P e4 fun w p h => by
    obtain ⟨_, _, q, _⟩ := delW_node h
    rw [q]; rfl
  obtain ⟨kvs, key, q1, q2, q3, q4⟩ := delW_node ef
  subst q1
  obtain ⟨ks, ws, vs, f1, f2, l1, l2, f5⟩ := nodeK nr
  subst f1 f2 f5
  have q4 : w2' = _ := q4
  subst q4
  obtain ⟨ks', ws', vs', junk, h1, h2, h3, h4, h5⟩ := drop_ent key l1 l2
  have S3 := kk (.dK (ks'.zip vs')) (ws'.zip vs') junk (by rw [h3]; exact .dK h1 h2) (by rw [List.append_nil]; exact h5)
  obtain ⟨dk, ek⟩ := key_fz q2
  subst ek
  refine ⟨a1, ks.zip vs, key, ev, ho, (G2.tail.leafAt e3).key q2, ?_, ?_⟩
  · rw [← lookK_valV, ← look_zip key l1]
    exact q3
  · rw [h4]
    exact k σ _ B2 p2.1 .refl S3.drop
theorem ss_ret {o : Bool} (ha : SE X F a ea) {io : List Nat} : SS X io F fu (.ret o a) (.Return (some ea) pos) := by
  refine PS_imp (ps_ret ha) fun D σ H ⟨Kp, B, g, τ, oc, S0, e, k⟩ => ?_
  unfold runS at e
  simp only [Option.bind_eq_bind, Option.bind_eq_some_iff, Prod.exists] at e
  obtain ⟨x, g1, e1, e2⟩ := e
  refine ⟨Kp, B, g, τ, x, g1, S0, e1, fun v H1 B1 p1 G1 => ?_⟩
  have gen : ((takeA o g1 x).bind fun p => some (Oc.ret p.1 p.2)) = some oc → D.rt v H1 := fun e2 => by
    simp only [Option.bind_eq_some_iff, Prod.exists] at e2
    obtain ⟨w, g2, e3, e4⟩ := e2
    cases e4
    obtain ⟨B2, x2, G2⟩ := G1.take e3
    exact k v σ H1 B2 (p1.1.trans x2) .refl G2.st
  cases o with
  | false => exact gen e2
  | true =>
    cases x with
    | tmp w => exact gen e2
    | pth n sp =>
      cases sp with
      | cons _ _ => exact gen e2
      | nil =>
        have e2 : (match g1[n]? with | some (some w) => some (Oc.ret w (g1.set n none)) | _ => none) = some oc := e2
        split at e2
        · rename_i w q
          cases e2
          obtain ⟨v0, hv, ev⟩ := G1.pth.1
          have ev : v0 = v := ev
          subst ev
          refine k v0 σ H1 B1 p1.1 .refl ⟨G1.st.1.drop, ?_⟩
          have R : Rp X.K Kp B1 H1 ((w, v0) :: (slotEs (g1.set n none) σ ++ τ)) := G1.st.2.perm ((G1.st.1.take q hv).append_right τ)
          exact R.perm (perm3 [(w, v0)] _ _)
        · cases e2
end
end PF
end

section
set_option Elab.async false
set_option linter.all false
set_option maxRecDepth 100000
set_option maxHeartbeats 4000000
namespace PF
open PySem PySem.Spec PyProof.Rows L2 RZ

section
variable {X : Cx} {S : Sc} {F : Nat → List W → Option (W × List W)} {fu : Nat} {a b c i : IE} {ea eb ec : Expr} {pos p : Pos} {il : IL} {es : List Expr} {tg : Expr} {io : List Nat}
theorem sb_nil : SB X io F fu .nil [] := by
  refine PSs_imp pss_nil fun D σ H ⟨Kp, B, g, τ, o, S0, e, k⟩ => ?_
  cases e
  exact k σ H B .refl .refl S0
theorem sb_cons {s : IS} {r : IB} {st : Stmt} {sts : List Stmt} (h1 : SS X io F fu s st) (h2 : SB X io F fu r sts) : SB X io F fu (.cons s r) (st :: sts) := by
  refine PSs_imp (pss_cons h1 h2) fun D σ H ⟨Kp, B, g, τ, o, S0, e, k⟩ => ?_
  have e : ((runS F fu s g).bind fun x => match x with | .nx g1 => runB F fu r g1 | o => some o) = some o := e
  obtain ⟨o1, e1, e2⟩ := Option.bind_eq_some_iff.mp e
  refine ⟨Kp, B, g, τ, o1, S0, e1, ?_⟩
  cases o1 with
  | nx g1 => exact fun σ' H' B' x c S' => ⟨Kp, B', g1, τ, o, S', e2, k.mono x c⟩
  | brk g1 => cases e2; exact k
  | cnt g1 => cases e2; exact k
  | ret w g1 => cases e2; exact k
theorem ss_ite {ba bb : IB} {x y : List Stmt} (hc : STt X F c ec) (ha : SB X io F fu ba x) (hb : SB X io F fu bb y) : SS X io F fu (.ite c ba bb) (.If ec x y pos) := by
  refine PS_imp (ps_if hc ha hb) fun D σ H ⟨Kp, B, g, τ, o, S0, e, k⟩ => ?_
  simp only [runS, Option.bind_eq_bind, Option.bind_eq_some_iff, Prod.exists] at e
  obtain ⟨q, g1, e1, e2⟩ := e
  refine ⟨Kp, B, g, τ, q, g1, S0, e1, fun H1 B1 x1 S1 => ?_⟩
  cases q with
  | true => exact ⟨Kp, B1, g1, τ, o, S1, e2, k.mono x1 .refl⟩
  | false => exact ⟨Kp, B1, g1, τ, o, S1, e2, k.mono x1 .refl⟩
theorem ss_whl {bb : IB} {x : List Stmt} (hx : X.xe = fun _ _ => False) (hc : STt X F c ec) (hb : SB X io F fu bb x) : SS X io F fu (.whl c bb) (.While ec x [] pos) := by
  refine PS_imp (ps_while (by rw [hx]; exact PassesOwn.never) hc hb) fun D σ H ⟨Kp, B, g, τ, o, S0, e, k⟩ => ?_
  refine ⟨fun m σ' H' => ∃ B' g', Ext Kp B B' ∧ Keep io σ σ' ∧ Stt X.K Kp B' H' g' σ' τ ∧ whileL (fun g => evT F c g) (fun g => runB F fu bb g) m g' = some o, ⟨fu, B, g, .refl, .refl, S0, e⟩, ?_⟩
  rintro m σ1 H1 ⟨B1, g1, x1, c1, S1, e1⟩
  cases m with
  | zero => cases e1
  | succ n =>
    have e1 : ((evT F c g1).bind fun p => if p.1 = true then (match runB F fu bb p.2 with
      | some (.nx g2) => whileL (fun g => evT F c g) (fun g => runB F fu bb g) n g2
      | some (.cnt g2) => whileL (fun g => evT F c g) (fun g => runB F fu bb g) n g2
      | some (.brk g2) => some (.nx g2)
      | some (.ret w g2) => some (.ret w g2)
      | none => none) else some (.nx p.2)) = some o := e1
    obtain ⟨⟨q, g2⟩, e2, e3⟩ := Option.bind_eq_some_iff.mp e1
    refine ⟨Kp, B1, g1, τ, q, g2, S1, e2, fun H2 B2 x2 S2 => ?_⟩
    cases q with
    | false =>
      cases e3
      exact k σ1 H2 B2 (x1.trans x2) c1 S2
    | true =>
      rw [if_pos rfl]
      have e3 : (match runB F fu bb g2 with
        | some (.nx g2) => whileL (fun g => evT F c g) (fun g => runB F fu bb g) n g2
        | some (.cnt g2) => whileL (fun g => evT F c g) (fun g => runB F fu bb g) n g2
        | some (.brk g2) => some (.nx g2)
        | some (.ret w g2) => some (.ret w g2)
        | none => none) = some o := e3
      refine ⟨fun σ' H' => ∃ B' g', Ext Kp B B' ∧ Keep io σ σ' ∧ Stt X.K Kp B' H' g' σ' τ ∧ whileL (fun g => evT F c g) (fun g => runB F fu bb g) n g' = some o, fun σ' H' h => ⟨n, Nat.lt_succ_self n, h⟩, ?_⟩
      have x12 := x1.trans x2
      cases eb : runB F fu bb g2 with
      | none => rw [eb] at e3; cases e3
      | some oc =>
        rw [eb] at e3
        refine ⟨Kp, B2, g2, τ, oc, S2, eb, ?_⟩
        cases oc with
        | nx g3 => exact fun σ' H' B' x c S' => ⟨B', g3, x12.trans x, c1.trans c, S', e3⟩
        | cnt g3 => exact fun σ' H' B' x c S' => ⟨B', g3, x12.trans x, c1.trans c, S', e3⟩
        | brk g3 =>
          cases e3
          exact fun σ' H' B' x c S' => k σ' H' B' (x12.trans x) (c1.trans c) S'
        | ret w g3 =>
          cases e3
          exact fun v σ' H' B' x c S' => k v σ' H' B' (x12.trans x) (c1.trans c) S'
theorem ss_for {t : IT} {it : II} {bb : IB} {iter : Expr} {x : List Stmt} (G : Good X S F) (hns : notSet iter = true) (hi : SI X F it tg iter) (hm : mT S t tg = true) (hb : SB X S.io F fu bb x) : SS X S.io F fu (.for_ t it bb) (.For tg iter x [] pos) := by
  refine PS_imp (ps_for (by rw [G.xe]; exact PassesOwn.never) G.calm hi (sg G hm) hb (fold_fn hns)) fun D σ H ⟨Kp, B, g, τ, o, S0, e, k⟩ => ?_
  simp only [runS, Option.bind_eq_bind, Option.bind_eq_some_iff, Prod.exists] at e
  obtain ⟨ds, g1, e1, e2⟩ := e
  refine ⟨Kp, B, g, τ, ds, g1, S0, e1, fun J H1 B1 x1 S1 wk => ?_⟩
  refine for_it wk (fun i σ' H' => ∃ B' g', Ext Kp B1 B' ∧ Keep S.io σ σ' ∧ Stt X.K Kp B' H' g' σ' τ ∧ forL (fun d g => bindT t d g) (fun g => runB F fu bb g) (ds.drop i) g' = some o) ⟨B1, g1, .refl, .refl, S1, e2⟩ ?_ ?_ ?_
  · rintro i σ' H' hi ⟨B', g', x, _, S', _⟩
    exact x.same.trans S'.2.sb
  · rintro i v σ2 H2 H3 hi ⟨B2, g2, x2, c2, S2, e3⟩ y
    obtain ⟨B3, d, x3, ed, rd, S3⟩ := yd_step x2.same S2 y
    rw [List.drop_eq_getElem_cons hi] at e3
    have ed' : ds[i] = d := (List.getElem?_eq_some_iff.mp ed).2
    rw [ed'] at e3
    have e3 : ((bindT t d g2).bind fun ga => match runB F fu bb ga with
      | some (.nx g2) => forL (fun d g => bindT t d g) (fun g => runB F fu bb g) (ds.drop (i + 1)) g2
      | some (.cnt g2) => forL (fun d g => bindT t d g) (fun g => runB F fu bb g) (ds.drop (i + 1)) g2
      | some (.brk g2) => some (.nx g2)
      | some (.ret w g2) => some (.ret w g2)
      | none => none) = some o := e3
    obtain ⟨ga, ea, e4⟩ := Option.bind_eq_some_iff.mp e3
    refine ⟨Kp, B3, g2, τ, d, ga, S3, rd, ea, fun σ4 S4 c4 => ?_⟩
    have kc : Keep S.io σ σ4 := c2.trans (c4.keep fun i hi => by obtain ⟨_, _, _, z⟩ := mT_names hm i hi; exact z)
    have x13 := (x1.trans x2).trans x3
    cases eb : runB F fu bb ga with
    | none => rw [eb] at e4; cases e4
    | some oc =>
      rw [eb] at e4
      refine ⟨Kp, B3, ga, τ, oc, S4, eb, ?_⟩
      cases oc with
      | nx g3 => exact fun σ' H' B' x c S' => ⟨B', g3, (x2.trans x3).trans x, kc.trans c, S', e4⟩
      | cnt g3 => exact fun σ' H' B' x c S' => ⟨B', g3, (x2.trans x3).trans x, kc.trans c, S', e4⟩
      | brk g3 =>
        cases e4
        exact fun σ' H' B' x c S' => k σ' H' B' (x13.trans x) (kc.trans c) S'
      | ret w g3 =>
        cases e4
        exact fun v σ' H' B' x c S' => k v σ' H' B' (x13.trans x) (kc.trans c) S'
  · rintro σ' H' ⟨B', g', x, c, S', e3⟩
    rw [List.drop_length] at e3
    cases e3
    exact k σ' H' B' (x1.trans x) c S'
end
section
variable (F : Nat → List W → Option (W × List W)) (fu : Nat)
mutual
theorem sndS : ∀ (s : IS) (X : Cx) (S : Sc), Good X S F → S.sc.kind = .function → ∀ st : Stmt, mS S s st = true → SS X S.io F fu s st
  | .asg t e, X, S, G, hk, st, h => by
    cases st with
    | Assign tgs v p =>
      rcases tgs with _ | ⟨tg, _ | ⟨_, _⟩⟩ <;> first | (cases h; done) | exact ss_asg G hk h
    | _ => cases h
  | .asgs ts es, X, S, G, hk, st, h => by
    cases st with
    | Assign tgs v p =>
      rcases tgs with _ | ⟨tg, _ | ⟨_, _⟩⟩ <;> first | (cases h; done) | skip
      · cases tg <;> first | (cases h; done) | skip
        cases v <;> first | (cases h; done) | exact ss_asgs G hk h
      · cases tg <;> cases h
    | _ => cases h
  | .aug i o e, X, S, G, hk, st, h => by
    cases st with
    | AugAssign tg op v p =>
      cases tg with
      | Name x px =>
        have h : (decide (S.N[i]? = some x) && decide (x ∈ S.sto) && decide (i ∉ S.io) && decide (op = o.py) && mE S e v) = true := h
        simp only [Bool.and_eq_true, decide_eq_true_eq] at h
        obtain ⟨⟨⟨⟨h1, h2⟩, h3⟩, h4⟩, h5⟩ := h
        subst h4
        exact ss_aug G h1 h2 h3 (sndE F e X S G v h5).1
      | _ => cases h
    | _ => cases h
  | .exp e, X, S, G, hk, st, h => by
    cases st with
    | Expr v p =>
      have h : (notComp v && mE S e v) = true := h
      rw [Bool.and_eq_true] at h
      exact ss_exp h.1 (sndE F e X S G v h.2).1
    | _ => cases h
  | .del a k, X, S, G, hk, st, h => by
    cases st with
    | Delete tgs p =>
      rcases tgs with _ | ⟨tg, _ | ⟨_, _⟩⟩
      · cases h
      · cases tg with
        | Subscript x y q =>
          have h : (mE S a x && mE S k y) = true := h
          rw [Bool.and_eq_true] at h
          exact ss_del (sndE F a X S G x h.1).1 (sndE F k X S G y h.2).1
        | _ => cases h
      · cases tg <;> cases h
    | _ => cases h
  | .ret o e, X, S, G, hk, st, h => by
    cases st with
    | Return v p =>
      cases v with
      | none => cases h
      | some v => exact ss_ret (sndE F e X S G v h).1
    | _ => cases h
  | .retN, X, S, G, hk, st, h => by
    cases st with
    | Return v p =>
      cases v with
      | some v => cases h
      | none =>
        refine PS_imp ps_retN fun D σ H ⟨Kp, B, g, τ, o, S0, e, k⟩ => ?_
        cases e
        exact k .non σ H B .refl .refl ⟨S0.1, (S0.2.leaf (d := .non) rfl).perm List.perm_middle.symm⟩
    | _ => cases h
  | .ite c a b, X, S, G, hk, st, h => by
    cases st with
    | If t x y p =>
      have h : (mE S c t && mB S a x && mB S b y) = true := h
      simp only [Bool.and_eq_true] at h
      exact ss_ite (sndE F c X S G t h.1.1).2.1 (sndB a X S G hk x h.1.2) (sndB b X S G hk y h.2)
    | _ => cases h
  | .whl c b, X, S, G, hk, st, h => by
    cases st with
    | While t x r p =>
      cases r with
      | cons _ _ => cases h
      | nil =>
        have h : (mE S c t && mB S b x) = true := h
        rw [Bool.and_eq_true] at h
        exact ss_whl G.xe (sndE F c X S G t h.1).2.1 (sndB b X S G hk x h.2)
    | _ => cases h
  | .for_ t it b, X, S, G, hk, st, h => by
    cases st with
    | For tg iter x r p =>
      cases r with
      | cons _ _ => cases h
      | nil =>
        have h : (notSet iter && mI S it tg iter && mT S t tg && mB S b x) = true := h
        simp only [Bool.and_eq_true] at h
        exact ss_for G h.1.1.1 (sndI F it X S G tg iter h.1.1.2) h.1.2 (sndB b X S G hk x h.2)
    | _ => cases h
  | .brk, X, S, G, hk, st, h => by
    cases st with
    | Break p =>
      refine PS_imp ps_break fun D σ H ⟨Kp, B, g, τ, o, S0, e, k⟩ => ?_
      cases e
      exact k σ H B .refl .refl S0
    | _ => cases h
  | .cnt, X, S, G, hk, st, h => by
    cases st with
    | Continue p =>
      refine PS_imp ps_continue fun D σ H ⟨Kp, B, g, τ, o, S0, e, k⟩ => ?_
      cases e
      exact k σ H B .refl .refl S0
    | _ => cases h
  | .pass, X, S, G, hk, st, h => by
    cases st with
    | Pass p =>
      refine PS_imp ps_pass fun D σ H ⟨Kp, B, g, τ, o, S0, e, k⟩ => ?_
      cases e
      exact k σ H B .refl .refl S0
    | Expr v p =>
      cases v with
      | Constant c j q =>
        cases c with
        | str x =>
          refine PS_imp ps_doc fun D σ H ⟨Kp, B, g, τ, o, S0, e, k⟩ => ?_
          cases e
          exact k σ H B .refl .refl S0
        | _ => cases h
      | _ => cases h
    | _ => cases h
  | .never, X, S, G, hk, st, h => PS_imp ps_never fun D σ H ⟨Kp, B, g, τ, o, S0, e, k⟩ => by cases e
theorem sndB : ∀ (b : IB) (X : Cx) (S : Sc), Good X S F → S.sc.kind = .function → ∀ sts : List Stmt, mB S b sts = true → SB X S.io F fu b sts
  | .nil, X, S, G, hk, [], _ => sb_nil
  | .nil, X, S, G, hk, _ :: _, h => by cases h
  | .cons _ _, X, S, G, hk, [], h => by cases h
  | .cons s r, X, S, G, hk, t :: ts, h => by
    have h : (mS S s t && mB S r ts) = true := h
    rw [Bool.and_eq_true] at h
    exact sb_cons (sndS s X S G hk t h.1) (sndB r X S G hk ts h.2)
end
end
end PF
end

section
set_option Elab.async false
set_option linter.all false
set_option maxRecDepth 100000
set_option maxHeartbeats 4000000
namespace PF
open PySem PySem.Spec PyProof.Rows L2 RZ

/-! ### from a def's text to its promise -/
/-- where the parameters that are handed back stand -/
def ioIx : Nat → List Mode → List Nat
  | _, [] => []
  | n, .val :: ms => ioIx (n + 1) ms
  | n, .io :: ms => n :: ioIx (n + 1) ms
theorem ioIx_ge : ∀ {n : Nat} {ms : List Mode} {i : Nat}, i ∈ ioIx n ms → n ≤ i
  | _, [], _, h => by cases h
  | n, .val :: ms, i, h => Nat.le_of_succ_le (ioIx_ge (n := n + 1) (ms := ms) h)
  | n, .io :: ms, i, h => by
    rcases List.mem_cons.mp h with rfl | h
    · exact Nat.le_refl _
    · exact Nat.le_of_succ_le (ioIx_ge (n := n + 1) (ms := ms) h)
theorem ios_split {g : Gam} {σ : Sig} : ∀ {ms : List Mode} {vs : List V} {g' : Gam} {σ' : Sig} {ios : List W} {n : Nat}, g' = g.drop n → σ' = σ.drop n → SlotOk g' σ' → ms.length = vs.length → iosOf ms g' = some ios → (∀ i v, n ≤ i → i ∈ ioIx n ms → vs[i - n]? = some v → σ[i]? = some (some v)) →
    ∃ rest, (slotEs g' σ').Perm (ioEs ms ios vs ++ rest)
  | [], [], g', σ', ios, n, _, _, so, _, e, _ => by
    cases e
    exact ⟨slotEs g' σ', .refl _⟩
  | [], _ :: _, _, _, _, _, _, _, _, l, _, _ => by cases l
  | _ :: _, [], _, _, _, _, _, _, _, l, _, _ => by cases l
  | .val :: ms, v :: vs, [], σ', ios, n, _, _, so, l, e, _ => by cases e
  | .io :: ms, v :: vs, [], σ', ios, n, _, _, so, l, e, _ => by cases e
  | .val :: ms, v :: vs, a :: g', [], ios, n, _, _, so, l, e, _ => by cases a <;> exact (so : False).elim
  | .io :: ms, v :: vs, a :: g', [], ios, n, _, _, so, l, e, _ => by cases a <;> exact (so : False).elim
  | .val :: ms, v :: vs, a :: g', b :: σ', ios, n, hg, hs, so, l, e, k => by
    have e : iosOf ms g' = some ios := e
    have so' : SlotOk g' σ' := by
      cases a with
      | none => exact so
      | some w =>
        cases b with
        | none => exact (so : False).elim
        | some u => exact so
    obtain ⟨rest, p⟩ := ios_split (ms := ms) (vs := vs) (g' := g') (σ' := σ') (ios := ios) (n := n + 1) (by rw [← List.tail_drop, ← hg]; rfl) (by rw [← List.tail_drop, ← hs]; rfl) so' (by simpa using l) e (fun i u hi hm hv => k i u (by omega) hm (by
      rw [show i - n = (i - (n + 1)) + 1 by omega]
      simpa using hv))
    cases a with
    | none => exact ⟨rest, p⟩
    | some w =>
      cases b with
      | none => exact (so : False).elim
      | some u =>
        refine ⟨(w, u) :: rest, (p.cons _).trans ?_⟩
        exact List.perm_middle.symm
  | .io :: ms, v :: vs, none :: g', b :: σ', ios, n, hg, hs, so, l, e, k => by cases e
  | .io :: ms, v :: vs, some w :: g', none :: σ', ios, n, hg, hs, so, l, e, k => (so : False).elim
  | .io :: ms, v :: vs, some w :: g', some u :: σ', ios, n, hg, hs, so, l, e, k => by
    have e : (iosOf ms g').map (w :: ·) = some ios := e
    obtain ⟨ios', e1, e2⟩ := Option.map_eq_some_iff.mp e
    subst e2
    obtain ⟨rest, p⟩ := ios_split (ms := ms) (vs := vs) (g' := g') (σ' := σ') (ios := ios') (n := n + 1) (by rw [← List.tail_drop, ← hg]; rfl) (by rw [← List.tail_drop, ← hs]; rfl) (show SlotOk g' σ' from so) (by simpa using l) e1 (fun i u hi hm hv => k i u (by omega) (List.mem_cons_of_mem _ hm) (by
      rw [show i - n = (i - (n + 1)) + 1 by omega]
      simpa using hv))
    have hu : u = v := by
      have h1 := k n v (Nat.le_refl _) List.mem_cons_self (by simp)
      have h2 : σ[n]? = some (some u) := by
        have : (σ.drop n)[0]? = some (some u) := by rw [← hs]; rfl
        simpa using this
      rw [h2] at h1
      cases h1
      rfl
    subst hu
    exact ⟨rest, p.cons _⟩
theorem start_slots {K : PySem.W.Frag} {Kp B H : Hp} {ws : List W} {vs : List V} (l : ws.length = vs.length) (R : Rp K Kp B H (ws.zip vs)) (n : Nat) : Stt K Kp B H (ws.map some ++ List.replicate n none) (vs.map some ++ List.replicate n none) [] := by
  have e0 : ∀ n, SlotOk (List.replicate n none) (List.replicate n none) ∧ slotEs (List.replicate n none) (List.replicate n none) = [] := by
    intro n
    induction n with
    | zero => exact ⟨True.intro, rfl⟩
    | succ n ih => exact ⟨ih.1, ih.2⟩
  have go : ∀ (ws : List W) (vs : List V), ws.length = vs.length → SlotOk (ws.map some ++ List.replicate n none) (vs.map some ++ List.replicate n none) ∧ slotEs (ws.map some ++ List.replicate n none) (vs.map some ++ List.replicate n none) = ws.zip vs := by
    intro ws
    induction ws with
    | nil =>
      intro vs l
      cases vs with
      | nil => exact e0 n
      | cons _ _ => cases l
    | cons w ws ih =>
      intro vs l
      cases vs with
      | nil => cases l
      | cons v vs =>
        obtain ⟨a, b⟩ := ih vs (by simpa using l)
        exact ⟨a, congrArg ((w, v) :: ·) b⟩
  obtain ⟨a, b⟩ := go ws vs l
  exact ⟨a, by rw [b, List.append_nil]; exact R⟩
/-- a def as data -/
structure DefI where
  x : Str
  id : Nat
  st : Stmt
  N : List Str
  P : List Str
  fn : Fn
structure LawI where
  defs : List DefI
  nums : List (Str × Int)
  free : List Str
def scOf (L : LawI) (d : DefI) : Sc := ⟨d.N, defScope d.st, ioIx 0 d.fn.ps, L.defs.map fun d => (d.x, d.id, d.fn.ps), L.nums, L.free, d.N.filter fun x => match (defScope d.st).names.lookup x with
  | some .local | some .cell => true
  | _ => false⟩
def defC (L : LawI) (d : DefI) : Bool := mB (scOf L d) d.fn.body (defBody d.st) && C8.scC d.N d.P (defScope d.st) && decide (d.P.length = d.fn.ps.length) && decide (d.fn.n = d.N.length)
def BindOk (d : DefI) : Prop := ∀ (kV doc pm : Value) (an : Option Addr) (cdv ct : Value) (us : List Value), us.length = d.P.length → bindArgs (PySem.W.fnOf d.x d.x (defArgs d.st) (defBody d.st) (defScope d.st) .none kV doc pm an cdv ct) ⟨us, []⟩ = pure (d.P.zip us)
abbrev FnP (K : PySem.W.Frag) (d : DefI) (f : Addr) (fd : FuncData) : Prop := FunD K d.x d.x (defArgs d.st) (defBody d.st) (defScope d.st) [] [] f fd
structure Facts (L : LawI) (K : PySem.W.Frag) (mg : Str → Option Value) : Prop where
  defs : ∀ d ∈ L.defs, ∃ fa fd, FnP K d fa fd ∧ mg d.x = some (.ref fa)
  nums : ∀ x i, (x, i) ∈ L.nums → ∃ t, mg x = some (.int i t)
  free : ∀ x, x ∈ L.free → mg x = none
theorem link {L : LawI} {Pm : Nat → Option Fn} {fu : Nat} {Pr : Program} {w : World} {K : PySem.W.Frag} {mg : Str → Option Value} {base : Heap} (ok : ∀ d ∈ L.defs, defC L d = true) (bd : ∀ d ∈ L.defs, BindOk d) (hP : ∀ d ∈ L.defs, Pm d.id = some d.fn) (fc : Facts L K mg) :
    ∀ n, ∀ d ∈ L.defs, ∀ fa fd, FnP K d fa fd → FnOk Pr w K mg base CX0 n fa fd d.P (spC K (callF Pm fu n) d.id d.fn.ps) := by
  intro n
  induction n with
  | zero =>
    intro d hd fa fd F
    refine ⟨fun vs H Q E ⟨Kp, B, ws, r, ios, l1, l2, R, e, k⟩ => (by cases e), fun A outer s H args us vs Q E hr he hb hv ⟨Kp, B, ws, r, ios, l1, l2, R, e, k⟩ => by cases e⟩
  | succ n ih =>
    intro d hd fa fd F
    have hc := ok d hd
    unfold defC at hc
    simp only [Bool.and_eq_true, decide_eq_true_eq] at hc
    obtain ⟨⟨⟨h1, h2⟩, h3⟩, h4⟩ := hc
    have fs := C8.fnScope_by h2
    refine F.ok fs (fun vs H Q E ⟨Kp, B, ws, r, ios, l1, l2, R, e, k⟩ => by rw [h3]; exact l2.symm) (fun cdv A outer s H vs Q E hr ⟨Kp, B, ws, r, ios, l1, l2, R, e, k⟩ => ?_)
    have G : Good (cxOf CX0 Pr w K mg base d.N d.x (defScope d.st) fa cdv A outer s H E).nox (scOf L d) (callF Pm fu n) := by
      refine ⟨rfl, fs.nd, rfl, rfl, ?_, rfl, fc.nums, fc.free, fun x f ms hx => ?_, fun x hx => ?_⟩
      · have := hr.un
        show (A.deeper _).units + 65 < cLine
        omega
      · obtain ⟨d', hd', e'⟩ := List.mem_map.mp hx
        cases e'
        obtain ⟨fa', fd', F', hm⟩ := fc.defs d' hd'
        exact ⟨n, fa', fd', d'.P, ih d' hd' fa' fd' F', hr, hm, F'.kp, F'.bindsN (bd d' hd')⟩
      · have hx := (List.mem_filter.mp hx).2
        refine ⟨?_, .inl rfl⟩
        show (defScope d.st).names.lookup x = some .local ∨ (defScope d.st).names.lookup x = some .cell
        split at hx <;> first | (rename_i q; exact .inl q) | (rename_i q; exact .inr q) | cases hx
    refine ⟨_, PSs.nox (sndB (callF Pm fu n) fu d.fn.body _ _ G fs.kind (defBody d.st) h1), ?_⟩
    have e : runF (callF Pm fu n) fu d.fn ws = some (r, ios) := by
      have e : (match Pm d.id with | some fn => runF (callF Pm fu n) fu fn ws | none => none) = some (r, ios) := e
      rw [hP d hd] at e
      exact e
    unfold runF at e
    rw [Option.ite_none_right_eq_some] at e
    obtain ⟨el, e⟩ := e
    have S0 := start_slots (K := K) (Kp := Kp) (B := B) (H := H) l1 R (d.fn.n - ws.length)
    have hst : L2.start d.N vs = vs.map some ++ List.replicate (d.fn.n - ws.length) none := by
      unfold L2.start
      rw [h4, l1]
    have fin : ∀ {w : W} {g' : Gam} {v : V} {σ' : Sig} {H' B' : Hp} {ios : List W}, iosOf d.fn.ps g' = some ios → Keep (ioIx 0 d.fn.ps) (L2.start d.N vs) σ' → Stt K Kp B' H' g' σ' [(w, v)] → Rp K Kp B' H' ((w, v) :: ioEs d.fn.ps ios vs) := fun {w g' v σ' H' B' ios} e1 kp S' => by
      obtain ⟨rest, p⟩ := ios_split (g := g') (σ := σ') (n := 0) rfl rfl S'.1 l2 e1 (fun i u _ hi hu => by
        rw [kp.2 i hi, hst]
        rw [Nat.sub_zero] at hu
        rw [List.getElem?_append_left (by rw [List.length_map]; exact (List.getElem?_eq_some_iff.mp hu).1), List.getElem?_map, hu]
        rfl)
      have R' : Rp K Kp B' H' (rest ++ ((w, v) :: ioEs d.fn.ps ios vs)) := S'.2.perm (by
        refine (p.append_right _).trans ?_
        refine (List.perm_append_comm.append_right _).trans ?_
        rw [List.append_assoc]
        exact List.Perm.append_left _ (List.perm_append_singleton _ _))
      exact R'.right
    cases eb : runB (callF Pm fu n) fu d.fn.body (ws.map some ++ List.replicate (d.fn.n - ws.length) none) with
    | none => rw [eb] at e; cases e
    | some oc =>
      rw [eb] at e
      rw [hst]
      refine ⟨Kp, B, _, [], oc, S0, eb, ?_⟩
      cases oc with
      | brk g' => cases e
      | cnt g' => cases e
      | ret w g' =>
        have e : (iosOf d.fn.ps g').map (fun ios => (w, ios)) = some (r, ios) := e
        obtain ⟨ios', e1, e2⟩ := Option.map_eq_some_iff.mp e
        cases e2
        intro v σ' H' B' x' kp S'
        exact k v H' B' x' (fin e1 (by rw [hst]; exact kp) S')
      | nx g' =>
        have e : (iosOf d.fn.ps g').map (fun ios => (W.fz .non, ios)) = some (r, ios) := e
        obtain ⟨ios', e1, e2⟩ := Option.map_eq_some_iff.mp e
        cases e2
        intro σ' H' B' x' kp S'
        exact k .non H' B' x' (fin e1 (by rw [hst]; exact kp) ⟨S'.1, (S'.2.leaf (d := .non) rfl).perm List.perm_middle.symm⟩)
/-- the law: what is asked of it in plain words -/
theorem law_sp {K : PySem.W.Frag} {H : Hp} {a : Addr} {ns : List Int} {F : Nat → List W → Option (W × List W)} {id : Nat} (hS : SqL K H a (ns.map V.int)) (h : F id [.fz (.scr ns)] = some (.fz (.bl true), [])) (E : XK) : spC K F id [.val] [.ref a] H (fun v _ => v = .bl true) E := by
  refine ⟨H, H, [.fz (.scr ns)], .fz (.bl true), [], rfl, rfl, ⟨Same.refl _, Same.refl _, [], ⟨[], [], rfl, ⟨rfl, a, rfl, hS⟩, rfl⟩, List.nodup_nil, fun _ z => by cases z⟩, h, fun v H' B' x R => ?_⟩
  have R' : Rp K H B' H' [(.fz (.bl true), v)] := R
  exact R'.leafOf
end PF
end

section
set_option Elab.async false
set_option linter.all false
set_option maxRecDepth 100000
set_option maxHeartbeats 4000000
namespace PF
open PySem PySem.Spec PyProof.Rows L2 RZ
/-! ### the head: facts by names -/
def DefI.toD (d : DefI) : He.DefD := ⟨(d.x, none), d.x, d.x, defArgs d.st, defBody d.st, defScope d.st, [], []⟩
def faL (L : LawI) : List He.Fa := L.defs.map (fun d => .glo d.x) ++ (L.nums.map (fun p => .int p.1 p.2) ++ L.free.map .free)
def fnL (L : LawI) : List He.DefD := L.defs.map DefI.toD
theorem facts_of {L : LawI} {K : PySem.W.Frag} {h : Heap} {mg : Str → Option Value} (X : K.In h) (G : h.Ns mainGlobals mg) (c : He.SaysD (faL L) (fnL L) K) : Facts L K mg where
  defs := fun d hd => by
    obtain ⟨fd, F⟩ := c.defs (d := d.toD) (List.mem_map_of_mem hd)
    exact ⟨_, fd, F, He.glo_ok X G (c.facts (f := .glo d.x) (List.mem_append_left _ (List.mem_map_of_mem (f := fun d : DefI => He.Fa.glo d.x) hd)))⟩
  nums := fun x i h => He.int_ok X G (c.facts (f := .int x i) (List.mem_append_right _ (List.mem_append_left _ (List.mem_map_of_mem (f := fun p : Str × Int => He.Fa.int p.1 p.2) h))))
  free := fun x h => He.free_ok X G (c.facts (f := .free x) (List.mem_append_right _ (List.mem_append_right _ (List.mem_map_of_mem (f := He.Fa.free) h))))
end PF
end

set_option linter.all false
set_option maxRecDepth 100000
set_option maxHeartbeats 0
namespace PF
section
open PySem PySem.Spec PyProof.Rows L2 RZ
namespace K08
def top (i : Nat) : Stmt := PySem.Challenge.pw_liftnets_k08_whole_stops.main.body.getD i (.Pass ⟨0, 0, 0, 0⟩)
/-- is_int -/
def f_0 : Fn :=
  ⟨[.val], 1,
  (.cons (.ret false (.and (.isi (.var 0) [.int] true) (.un .not (.isi (.var 0) [.bool] true)))) <|
  .nil)⟩
def d_0 : DefI := ⟨"is_int", 0, top 9, ["value"], ["value"], f_0⟩
/-- is_in -/
def f_1 : Fn :=
  ⟨[.val, .val, .val], 3,
  (.cons (.ret false (.and (.call 0 [.val] (.cons (.var 0) .nil)) (.chn .le .le (.var 1) (.var 0) (.var 2)))) <|
  .nil)⟩
def d_1 : DefI := ⟨"is_in", 1, top 10, ["value", "least", "most"], ["value", "least", "most"], f_1⟩
/-- is_pair -/
def f_2 : Fn :=
  ⟨[.val, .val], 3,
  (.cons (.ite (.or (.un .not (.isi (.var 0) [.tuple] true)) (.cmp .ne (.bf .len (.cons (.var 0) .nil)) (.cst (.int 2)))) (.cons (.ret false (.cst (.bl false))) <|
    .nil) .nil) <|
  .cons (.ret false (.and (.bf .all_ (.cons (.comp [2] (.nm 2) (.val (.var 0)) .nil false (.call 1 [.val, .val, .val] (.cons (.var 2) (.cons (.cst (.int 0)) (.cons (.bin .sub (.var 1) (.cst (.int 1))) .nil))))) .nil)) (.cmp .lt (.idx (.var 0) (.cst (.int 0))) (.idx (.var 0) (.cst (.int 1)))))) <|
  .nil)⟩
def d_2 : DefI := ⟨"is_pair", 2, top 11, ["value", "size", "place"], ["value", "size"], f_2⟩
/-- nears_of -/
def f_3 : Fn :=
  ⟨[.val], 6,
  (.cons (.asg (.nm 1 true) (.comp [4] (.nm 4) (.rng1 (.idx (.var 0) (.cst (.int 0)))) .nil true (.lst false .nil))) <|
  .cons (.for_ (.cons (.nm 2) (.cons (.nm 3) .nil)) (.val (.idx (.var 0) (.cst (.int 1)))) (.cons (.exp (.app false (.idx (.var 1) (.var 2)) (.var 3))) <|
    .cons (.exp (.app false (.idx (.var 1) (.var 3)) (.var 2))) <|
    .nil)) <|
  .cons (.ret false (.comp [5] (.nm 5) (.val (.var 1)) .nil false (.bf .sorted (.cons (.var 5) .nil)))) <|
  .nil)⟩
def d_3 : DefI := ⟨"nears_of", 3, top 12, ["web", "found", "one", "other", "place", "told"], ["web"], f_3⟩
/-- reach_of -/
def f_4 : Fn :=
  ⟨[.val, .val], 7,
  (.cons (.asgs [(.nm 3 false), (.nm 4 true), (.nm 5 true)] (.cons (.call 3 [.val] (.cons (.var 0) .nil)) (.cons (.bin .mul (.lst false (.cons (.cst .non) .nil)) (.idx (.var 0) (.cst (.int 0)))) (.cons (.lst false (.cons (.var 1) .nil)) .nil)))) <|
  .cons (.asg (.sub (.var 4) (.var 1) false) (.cst (.int 0))) <|
  .cons (.asg (.nm 2 false) (.cst (.int 0))) <|
  .cons (.whl (.cmp .lt (.var 2) (.bf .len (.cons (.var 5) .nil))) (.cons (.for_ (.nm 6) (.val (.idx (.var 3) (.idx (.var 5) (.var 2)))) (.cons (.ite (.cmp .is_ (.idx (.var 4) (.var 6)) (.cst .non)) (.cons (.asg (.sub (.var 4) (.var 6) false) (.bin .add (.idx (.var 4) (.idx (.var 5) (.var 2))) (.cst (.int 1)))) <|
        .cons (.exp (.app false (.var 5) (.var 6))) <|
        .nil) .nil) <|
      .nil)) <|
    .cons (.aug 2 .add (.cst (.int 1))) <|
    .nil)) <|
  .cons (.ret false (.var 4)) <|
  .nil)⟩
def d_4 : DefI := ⟨"reach_of", 4, top 13, ["web", "first", "at", "nears", "found", "line", "place"], ["web", "first"], f_4⟩
/-- is_web_of -/
def f_5 : Fn :=
  ⟨[.val], 5,
  (.cons (.ite (.or (.un .not (.isi (.var 0) [.tuple] true)) (.or (.cmp .ne (.bf .len (.cons (.var 0) .nil)) (.cst (.int 2))) (.un .not (.call 1 [.val, .val, .val] (.cons (.idx (.var 0) (.cst (.int 0))) (.cons (.cst (.int 1)) (.cons (.glo "MOST_PLACES" 40) .nil))))))) (.cons (.ret false (.cst (.bl false))) <|
    .nil) .nil) <|
  .cons (.ite (.or (.un .not (.isi (.idx (.var 0) (.cst (.int 1))) [.tuple] true)) (.un .not (.bf .all_ (.cons (.comp [2] (.nm 2) (.val (.idx (.var 0) (.cst (.int 1)))) .nil false (.call 2 [.val, .val] (.cons (.var 2) (.cons (.idx (.var 0) (.cst (.int 0))) .nil)))) .nil)))) (.cons (.ret false (.cst (.bl false))) <|
    .nil) .nil) <|
  .cons (.ite (.un .not (.bf .all_ (.cons (.comp [3, 4] (.cons (.nm 3) (.cons (.nm 4) .nil)) (.zip (.idx (.var 0) (.cst (.int 1))) (.slc (.idx (.var 0) (.cst (.int 1))) (.cons (.cst (.int 1)) .nil) .nil)) .nil false (.cmp .lt (.var 3) (.var 4))) .nil))) (.cons (.ret false (.cst (.bl false))) <|
    .nil) .nil) <|
  .cons (.asg (.nm 1 false) (.call 4 [.val, .val] (.cons (.var 0) (.cons (.cst (.int 0)) .nil)))) <|
  .cons (.ret false (.and (.cmp .notIn (.cst .non) (.var 1)) (.bf .all_ (.cons (.comp [3, 4] (.cons (.nm 3) (.cons (.nm 4) .nil)) (.val (.idx (.var 0) (.cst (.int 1)))) .nil false (.cmp .eq (.bin .mod (.bin .sub (.idx (.var 1) (.var 3)) (.idx (.var 1) (.var 4))) (.cst (.int 2))) (.cst (.int 1)))) .nil)))) <|
  .nil)⟩
def d_5 : DefI := ⟨"is_web_of", 5, top 14, ["value", "told", "hedge", "one", "other"], ["value"], f_5⟩
/-- need_web -/
def f_6 : Fn :=
  ⟨[.val], 1,
  (.cons (.ite (.un .not (.call 5 [.val] (.cons (.var 0) .nil))) (.cons .never <|
    .nil) .nil) <|
  .nil)⟩
def d_6 : DefI := ⟨"need_web", 6, top 15, ["value"], ["value"], f_6⟩
/-- need_place -/
def f_7 : Fn :=
  ⟨[.val, .val], 2,
  (.cons (.ite (.un .not (.call 1 [.val, .val, .val] (.cons (.var 1) (.cons (.cst (.int 0)) (.cons (.bin .sub (.idx (.var 0) (.cst (.int 0))) (.cst (.int 1))) .nil))))) (.cons .never <|
    .nil) .nil) <|
  .nil)⟩
def d_7 : DefI := ⟨"need_place", 7, top 16, ["web", "value"], ["web", "value"], f_7⟩
/-- is_laying_of -/
def f_8 : Fn :=
  ⟨[.val, .val], 5,
  (.cons (.ite (.or (.un .not (.isi (.var 1) [.tuple] true)) (.cmp .ne (.bf .len (.cons (.var 1) .nil)) (.idx (.var 0) (.cst (.int 0))))) (.cons (.ret false (.cst (.bl false))) <|
    .nil) .nil) <|
  .cons (.ite (.un .not (.bf .all_ (.cons (.comp [2] (.nm 2) (.val (.var 1)) .nil false (.call 1 [.val, .val, .val] (.cons (.var 2) (.cons (.un .neg (.glo "MOST_HEIGHT" 1000000)) (.cons (.glo "MOST_HEIGHT" 1000000) .nil))))) .nil))) (.cons (.ret false (.cst (.bl false))) <|
    .nil) .nil) <|
  .cons (.ret false (.bf .all_ (.cons (.comp [3, 4] (.cons (.nm 3) (.cons (.nm 4) .nil)) (.val (.idx (.var 0) (.cst (.int 1)))) .nil false (.cmp .eq (.bf .abs (.cons (.bin .sub (.idx (.var 1) (.var 3)) (.idx (.var 1) (.var 4))) .nil)) (.cst (.int 1)))) .nil))) <|
  .nil)⟩
def d_8 : DefI := ⟨"is_laying_of", 8, top 17, ["web", "value", "height", "one", "other"], ["web", "value"], f_8⟩
/-- need_laying -/
def f_9 : Fn :=
  ⟨[.val, .val], 2,
  (.cons (.ite (.un .not (.call 8 [.val, .val] (.cons (.var 0) (.cons (.var 1) .nil)))) (.cons .never <|
    .nil) .nil) <|
  .nil)⟩
def d_9 : DefI := ⟨"need_laying", 9, top 18, ["web", "value"], ["web", "value"], f_9⟩
/-- need_first -/
def f_10 : Fn :=
  ⟨[.val, .val], 2,
  (.cons (.exp (.call 6 [.val] (.cons (.var 0) .nil))) <|
  .cons (.exp (.call 9 [.val, .val] (.cons (.var 0) (.cons (.var 1) .nil)))) <|
  .nil)⟩
def d_10 : DefI := ⟨"need_first", 10, top 19, ["web", "first"], ["web", "first"], f_10⟩
/-- are_stops -/
def f_11 : Fn :=
  ⟨[.val, .val, .val], 6,
  (.cons (.ite (.or (.un .not (.isi (.var 2) [.tuple] true)) (.cmp .eq (.var 2) (.tup false .nil))) (.cons (.ret false (.cst (.bl false))) <|
    .nil) .nil) <|
  .cons (.for_ (.nm 3) (.val (.var 2)) (.cons (.ite (.or (.un .not (.isi (.var 3) [.tuple] true)) (.or (.cmp .ne (.bf .len (.cons (.var 3) .nil)) (.cst (.int 2))) (.un .not (.call 1 [.val, .val, .val] (.cons (.idx (.var 3) (.cst (.int 0))) (.cons (.cst (.int 0)) (.cons (.bin .sub (.idx (.var 0) (.cst (.int 0))) (.cst (.int 1))) .nil))))))) (.cons (.ret false (.cst (.bl false))) <|
      .nil) .nil) <|
    .cons (.ite (.or (.un .not (.call 1 [.val, .val, .val] (.cons (.idx (.var 3) (.cst (.int 1))) (.cons (.idx (.var 1) (.idx (.var 3) (.cst (.int 0)))) (.cons (.glo "MOST_HEIGHT" 1000000) .nil))))) (.cmp .ne (.bin .mod (.bin .sub (.idx (.var 3) (.cst (.int 1))) (.idx (.var 1) (.idx (.var 3) (.cst (.int 0))))) (.cst (.int 2))) (.cst (.int 0)))) (.cons (.ret false (.cst (.bl false))) <|
      .nil) .nil) <|
    .nil)) <|
  .cons (.ret false (.bf .all_ (.cons (.comp [4, 5] (.cons (.nm 4) (.cons (.nm 5) .nil)) (.zip (.var 2) (.slc (.var 2) (.cons (.cst (.int 1)) .nil) .nil)) .nil false (.cmp .lt (.idx (.var 4) (.cst (.int 0))) (.idx (.var 5) (.cst (.int 0))))) .nil))) <|
  .nil)⟩
def d_11 : DefI := ⟨"are_stops", 11, top 21, ["web", "first", "value", "pair", "one", "other"], ["web", "first", "value"], f_11⟩
/-- need_stops -/
def f_12 : Fn :=
  ⟨[.val, .val, .val], 3,
  (.cons (.exp (.call 10 [.val, .val] (.cons (.var 0) (.cons (.var 1) .nil)))) <|
  .cons (.ite (.un .not (.call 11 [.val, .val, .val] (.cons (.var 0) (.cons (.var 1) (.cons (.var 2) .nil))))) (.cons .never <|
    .nil) .nil) <|
  .nil)⟩
def d_12 : DefI := ⟨"need_stops", 12, top 22, ["web", "first", "value"], ["web", "first", "value"], f_12⟩
/-- held_of -/
def f_13 : Fn :=
  ⟨[.val, .val, .val], 9,
  (.cons (.asg (.nm 3 true) (.bin .mul (.lst false (.cons (.cst .non) .nil)) (.idx (.var 0) (.cst (.int 0))))) <|
  .cons (.for_ (.cons (.nm 4) (.cons (.nm 5) .nil)) (.val (.var 2)) (.cons (.for_ (.cons (.nm 6) (.cons (.nm 7) .nil)) (.enu (.call 4 [.val, .val] (.cons (.var 0) (.cons (.var 4) .nil)))) (.cons (.asg (.nm 8 false) (.bin .add (.var 5) (.var 7))) <|
      .cons (.asg (.sub (.var 3) (.var 6) false) (.ite (.or (.cmp .is_ (.idx (.var 3) (.var 6)) (.cst .non)) (.cmp .lt (.var 8) (.idx (.var 3) (.var 6)))) (.var 8) (.idx (.var 3) (.var 6)))) <|
      .nil)) <|
    .nil)) <|
  .cons (.ret false (.var 3)) <|
  .nil)⟩
def d_13 : DefI := ⟨"held_of", 13, top 23, ["web", "first", "stops", "found", "place", "height", "one", "many", "high"], ["web", "first", "stops"], f_13⟩
/-- held -/
def f_14 : Fn :=
  ⟨[.val, .val, .val], 3,
  (.cons (.exp (.call 12 [.val, .val, .val] (.cons (.var 0) (.cons (.var 1) (.cons (.var 2) .nil))))) <|
  .cons (.ret false (.bf .tuple_ (.cons (.call 13 [.val, .val, .val] (.cons (.var 0) (.cons (.var 1) (.cons (.var 2) .nil)))) .nil))) <|
  .nil)⟩
def d_14 : DefI := ⟨"held", 14, top 24, ["web", "first", "stops"], ["web", "first", "stops"], f_14⟩
/-- holders -/
def f_15 : Fn :=
  ⟨[.val, .val, .val, .val], 8,
  (.cons (.exp (.call 12 [.val, .val, .val] (.cons (.var 0) (.cons (.var 1) (.cons (.var 2) .nil))))) <|
  .cons (.exp (.call 7 [.val, .val] (.cons (.var 0) (.cons (.var 3) .nil)))) <|
  .cons (.asgs [(.nm 4 false), (.nm 5 false)] (.cons (.call 4 [.val, .val] (.cons (.var 0) (.cons (.var 3) .nil))) (.cons (.idx (.call 13 [.val, .val, .val] (.cons (.var 0) (.cons (.var 1) (.cons (.var 2) .nil)))) (.var 3)) .nil))) <|
  .cons (.ret false (.bf .tuple_ (.cons (.comp [6, 7] (.cons (.nm 6) (.cons (.nm 7) .nil)) (.val (.var 2)) (.cons (.cmp .eq (.bin .add (.var 7) (.idx (.var 4) (.var 6))) (.var 5)) .nil) false (.var 6)) .nil))) <|
  .nil)⟩
def d_15 : DefI := ⟨"holders", 15, top 25, ["web", "first", "stops", "place", "far", "high", "one", "height"], ["web", "first", "stops", "place"], f_15⟩
/-- idle_stops -/
def f_16 : Fn :=
  ⟨[.val, .val, .val], 6,
  (.cons (.exp (.call 12 [.val, .val, .val] (.cons (.var 0) (.cons (.var 1) (.cons (.var 2) .nil))))) <|
  .cons (.asg (.nm 3 false) (.call 13 [.val, .val, .val] (.cons (.var 0) (.cons (.var 1) (.cons (.var 2) .nil))))) <|
  .cons (.ret false (.bf .tuple_ (.cons (.comp [4, 5] (.cons (.nm 4) (.cons (.nm 5) .nil)) (.val (.var 2)) (.cons (.cmp .lt (.idx (.var 3) (.var 4)) (.var 5)) .nil) false (.var 4)) .nil))) <|
  .nil)⟩
def d_16 : DefI := ⟨"idle_stops", 16, top 26, ["web", "first", "stops", "told", "place", "height"], ["web", "first", "stops"], f_16⟩
/-- needless_stops -/
def f_17 : Fn :=
  ⟨[.val, .val, .val], 9,
  (.cons (.exp (.call 12 [.val, .val, .val] (.cons (.var 0) (.cons (.var 1) (.cons (.var 2) .nil))))) <|
  .cons (.asgs [(.nm 3 false), (.nm 4 true)] (.cons (.call 13 [.val, .val, .val] (.cons (.var 0) (.cons (.var 1) (.cons (.var 2) .nil)))) (.cons (.lst false .nil) .nil))) <|
  .cons (.for_ (.cons (.nm 5) (.cons (.cons (.nm 7) (.cons (.nm 8) .nil)) .nil)) (.enu (.var 2)) (.cons (.asg (.nm 6 false) (.bin .addP (.slc (.var 2) .nil (.cons (.var 5) .nil)) (.slc (.var 2) (.cons (.bin .add (.var 5) (.cst (.int 1))) .nil) .nil))) <|
    .cons (.ite (.and (.cmp .ne (.var 6) (.tup false .nil)) (.cmp .eq (.call 13 [.val, .val, .val] (.cons (.var 0) (.cons (.var 1) (.cons (.var 6) .nil)))) (.var 3))) (.cons (.exp (.app false (.var 4) (.var 7))) <|
      .nil) .nil) <|
    .nil)) <|
  .cons (.ret false (.bf .tuple_ (.cons (.var 4) .nil))) <|
  .nil)⟩
def d_17 : DefI := ⟨"needless_stops", 17, top 27, ["web", "first", "stops", "told", "found", "at", "rest", "place", "height"], ["web", "first", "stops"], f_17⟩
/-- _law_taken -/
def f_18 : Fn :=
  ⟨[.io, .val], 4,
  (.cons (.ite (.cmp .gt (.idx (.var 0) (.cst (.int 3))) (.cst (.int 0))) (.cons (.asg (.nm 3 false) (.bin .mod (.bf .int_ (.cons (.idx (.var 0) (.cst (.int 3))) .nil)) (.var 1))) <|
    .cons (.asg (.sub (.var 0) (.cst (.int 3)) false) (.bin .fdiv (.idx (.var 0) (.cst (.int 3))) (.var 1))) <|
    .cons (.ret false (.var 3)) <|
    .nil) .nil) <|
  .cons (.asg (.sub (.var 0) (.cst (.int 1)) false) (.bin .add (.idx (.var 0) (.cst (.int 1))) (.cst (.int 1)))) <|
  .cons (.ite (.cmp .gt (.idx (.var 0) (.cst (.int 1))) (.bf .len (.cons (.idx (.var 0) (.cst (.int 0))) .nil))) (.cons (.asg (.sub (.var 0) (.cst (.int 2)) false) (.bin .mod (.bf .int_ (.cons (.bin .add (.bin .mul (.idx (.var 0) (.cst (.int 2))) (.cst (.int 48271))) (.cst (.int 11))) .nil)) (.cst (.int 2147483647)))) <|
    .cons (.ret false (.bin .mod (.bf .int_ (.cons (.bin .fdiv (.idx (.var 0) (.cst (.int 2))) (.cst (.int 7))) .nil)) (.var 1))) <|
    .nil) .nil) <|
  .cons (.asg (.nm 2 false) (.idx (.idx (.var 0) (.cst (.int 0))) (.bin .sub (.idx (.var 0) (.cst (.int 1))) (.cst (.int 1))))) <|
  .cons (.asg (.sub (.var 0) (.cst (.int 2)) false) (.bin .mod (.bf .int_ (.cons (.bin .add (.bin .add (.bin .mul (.idx (.var 0) (.cst (.int 2))) (.cst (.int 48271))) (.var 2)) (.cst (.int 11))) .nil)) (.cst (.int 2147483647)))) <|
  .cons (.ite (.cmp .ge (.var 2) (.bin .pow (.cst (.int 10)) (.cst (.int 18)))) (.cons (.asg (.sub (.var 0) (.cst (.int 3)) false) (.bin .fdiv (.var 2) (.var 1))) <|
    .nil) .nil) <|
  .cons (.ret false (.bin .mod (.bf .int_ (.cons (.var 2) .nil)) (.var 1))) <|
  .nil)⟩
def d_18 : DefI := ⟨"_law_taken", 18, top 29, ["row", "many", "cell", "found"], ["row", "many"], f_18⟩
/-- _law_pick -/
def f_19 : Fn :=
  ⟨[.io, .val], 2,
  (.cons (.ret false (.idx (.var 1) (.call 18 [.io, .val] (.cons (.var 0) (.cons (.bf .len (.cons (.var 1) .nil)) .nil))))) <|
  .nil)⟩
def d_19 : DefI := ⟨"_law_pick", 19, top 30, ["row", "things"], ["row", "things"], f_19⟩
/-- _law_alike -/
def f_20 : Fn :=
  ⟨[.val, .val], 3,
  (.cons (.ite (.isi (.var 1) [.tuple, .list] false) (.cons (.ite (.or (.un .not (.isi (.var 0) [.tuple, .list] false)) (.cmp .ne (.isi (.var 0) [.list] true) (.isi (.var 1) [.list] true))) (.cons (.ret false (.cst (.bl false))) <|
      .nil) .nil) <|
    .cons (.ite (.cmp .ne (.bf .len (.cons (.var 0) .nil)) (.bf .len (.cons (.var 1) .nil))) (.cons (.ret false (.cst (.bl false))) <|
      .nil) .nil) <|
    .cons (.ret false (.cmp .eq (.comp [2] (.nm 2) (.rng1 (.bf .len (.cons (.var 1) .nil))) (.cons (.un .not (.call 20 [.val, .val] (.cons (.idx (.var 0) (.var 2)) (.cons (.idx (.var 1) (.var 2)) .nil)))) .nil) false (.var 2)) (.lst false .nil))) <|
    .nil) .nil) <|
  .cons (.ite (.or (.cmp .is_ (.var 1) (.cst .non)) (.isi (.var 1) [.str] true)) (.cons (.ret false (.and (.cmp .eq (.var 0) (.var 1)) (.cmp .eq (.isi (.var 0) [.str] true) (.isi (.var 1) [.str] true)))) <|
    .nil) .nil) <|
  .cons (.ret false (.and (.isi (.var 0) [.int] true) (.and (.cmp .eq (.isi (.var 0) [.bool] true) (.isi (.var 1) [.bool] true)) (.cmp .eq (.var 0) (.var 1))))) <|
  .nil)⟩
def d_20 : DefI := ⟨"_law_alike", 20, top 31, ["found", "due", "k"], ["found", "due"], f_20⟩
/-- _law_mixed -/
def f_21 : Fn :=
  ⟨[.io, .val], 5,
  (.cons (.asgs [(.nm 3 true), (.nm 4 true)] (.cons (.bf .list_ (.cons (.var 1) .nil)) (.cons (.lst false .nil) .nil))) <|
  .cons (.for_ (.nm 2) (.rng1 (.bf .len (.cons (.var 3) .nil))) (.cons (.exp (.app false (.var 4) (.popA (.var 3) (.call 18 [.io, .val] (.cons (.var 0) (.cons (.bf .len (.cons (.var 3) .nil)) .nil)))))) <|
    .nil)) <|
  .cons (.ret false (.var 4)) <|
  .nil)⟩
def d_21 : DefI := ⟨"_law_mixed", 21, top 32, ["row", "some", "step", "left", "found"], ["row", "some"], f_21⟩
/-- _law_tree -/
def f_22 : Fn :=
  ⟨[.io, .val], 7,
  (.cons (.asgs [(.nm 3 false), (.nm 4 true)] (.cons (.call 21 [.io, .val] (.cons (.var 0) (.cons (.bf .lrange (.cons (.var 1) .nil)) .nil))) (.cons (.lst false .nil) .nil))) <|
  .cons (.for_ (.nm 2) (.rng2 (.cst (.int 1)) (.var 1)) (.cons (.asgs [(.nm 5 false), (.nm 6 false)] (.cons (.idx (.var 3) (.var 2)) (.cons (.idx (.var 3) (.call 19 [.io, .val] (.cons (.var 0) (.cons (.lst false (.cons (.cst (.int 0)) (.cons (.bin .sub (.var 2) (.cst (.int 1))) (.cons (.call 18 [.io, .val] (.cons (.var 0) (.cons (.var 2) .nil))) .nil)))) .nil)))) .nil))) <|
    .cons (.exp (.app false (.var 4) (.tup false (.cons (.bf .min2 (.cons (.var 5) (.cons (.var 6) .nil))) (.cons (.bf .max2 (.cons (.var 5) (.cons (.var 6) .nil))) .nil))))) <|
    .nil)) <|
  .cons (.ret false (.var 4)) <|
  .nil)⟩
def d_22 : DefI := ⟨"_law_tree", 22, top 33, ["row", "size", "at", "names", "found", "one", "other"], ["row", "size"], f_22⟩
/-- _law_web -/
def f_23 : Fn :=
  ⟨[.io, .val], 9,
  (.cons (.asg (.nm 2 false) (.bin .add (.cst (.int 1)) (.call 18 [.io, .val] (.cons (.var 0) (.cons (.var 1) .nil))))) <|
  .cons (.asg (.nm 3 false) (.call 22 [.io, .val] (.cons (.var 0) (.cons (.var 2) .nil)))) <|
  .cons (.asgs [(.nm 5 false), (.nm 6 true)] (.cons (.call 25 [.val, .val] (.cons (.tup false (.cons (.var 2) (.cons (.bf .tuple_ (.cons (.bf .sorted (.cons (.var 3) .nil)) .nil)) .nil))) (.cons (.cst (.int 0)) .nil))) (.cons (.bf .list_ (.cons (.var 3) .nil)) .nil))) <|
  .cons (.for_ (.nm 4) (.rng1 (.call 19 [.io, .val] (.cons (.var 0) (.cons (.lst false (.cons (.cst (.int 0)) (.cons (.cst (.int 0)) (.cons (.cst (.int 1)) (.cons (.cst (.int 2)) (.cons (.var 2) .nil)))))) .nil)))) (.cons (.asgs [(.nm 7 false), (.nm 8 false)] (.cons (.call 18 [.io, .val] (.cons (.var 0) (.cons (.var 2) .nil))) (.cons (.call 18 [.io, .val] (.cons (.var 0) (.cons (.var 2) .nil))) .nil))) <|
    .cons (.ite (.and (.cmp .eq (.bin .mod (.bin .sub (.idx (.var 5) (.var 7)) (.idx (.var 5) (.var 8))) (.cst (.int 2))) (.cst (.int 1))) (.cmp .notIn (.tup false (.cons (.bf .min2 (.cons (.var 7) (.cons (.var 8) .nil))) (.cons (.bf .max2 (.cons (.var 7) (.cons (.var 8) .nil))) .nil))) (.var 6))) (.cons (.exp (.app false (.var 6) (.tup false (.cons (.bf .min2 (.cons (.var 7) (.cons (.var 8) .nil))) (.cons (.bf .max2 (.cons (.var 7) (.cons (.var 8) .nil))) .nil))))) <|
      .nil) .nil) <|
    .nil)) <|
  .cons (.ret false (.tup false (.cons (.var 2) (.cons (.bf .tuple_ (.cons (.bf .sorted (.cons (.var 6) .nil)) .nil)) .nil)))) <|
  .nil)⟩
def d_23 : DefI := ⟨"_law_web", 23, top 34, ["row", "most", "size", "hedges", "step", "told", "web", "one", "other"], ["row", "most"], f_23⟩
/-- _law_nears -/
def f_24 : Fn :=
  ⟨[.val], 6,
  (.cons (.asg (.nm 1 true) (.comp [4] (.nm 4) (.rng1 (.idx (.var 0) (.cst (.int 0)))) .nil true (.lst false .nil))) <|
  .cons (.for_ (.cons (.nm 2) (.cons (.nm 3) .nil)) (.val (.idx (.var 0) (.cst (.int 1)))) (.cons (.exp (.app false (.idx (.var 1) (.var 2)) (.var 3))) <|
    .cons (.exp (.app false (.idx (.var 1) (.var 3)) (.var 2))) <|
    .nil)) <|
  .cons (.ret false (.comp [5] (.nm 5) (.val (.var 1)) .nil false (.bf .sorted (.cons (.var 5) .nil)))) <|
  .nil)⟩
def d_24 : DefI := ⟨"_law_nears", 24, top 35, ["web", "found", "one", "other", "field", "told"], ["web"], f_24⟩
/-- _law_far -/
def f_25 : Fn :=
  ⟨[.val, .val], 9,
  (.cons (.asgs [(.nm 2 false), (.nm 3 true), (.nm 4 false), (.nm 5 false)] (.cons (.call 24 [.val] (.cons (.var 0) .nil)) (.cons (.bin .mul (.lst false (.cons (.cst .non) .nil)) (.idx (.var 0) (.cst (.int 0)))) (.cons (.lst false (.cons (.var 1) .nil)) (.cons (.cst (.int 0)) .nil))))) <|
  .cons (.asg (.sub (.var 3) (.var 1) false) (.cst (.int 0))) <|
  .cons (.whl (.cmp .ne (.var 4) (.lst false .nil)) (.cons (.asgs [(.nm 5 false), (.nm 7 true)] (.cons (.bin .add (.var 5) (.cst (.int 1))) (.cons (.lst false .nil) .nil))) <|
    .cons (.for_ (.nm 6) (.val (.var 4)) (.cons (.for_ (.nm 8) (.val (.idx (.var 2) (.var 6))) (.cons (.ite (.cmp .is_ (.idx (.var 3) (.var 8)) (.cst .non)) (.cons (.asg (.sub (.var 3) (.var 8) false) (.var 5)) <|
          .cons (.exp (.app false (.var 7) (.var 8))) <|
          .nil) .nil) <|
        .nil)) <|
      .nil)) <|
    .cons (.asg (.nm 4 false) (.var 7)) <|
    .nil)) <|
  .cons (.ret false (.var 3)) <|
  .nil)⟩
def d_25 : DefI := ⟨"_law_far", 25, top 36, ["web", "first", "nears", "found", "rim", "many", "here", "later", "near"], ["web", "first"], f_25⟩
/-- _law_lows -/
def f_26 : Fn :=
  ⟨[.val, .val], 5,
  (.cons (.asg (.nm 2 false) (.call 24 [.val] (.cons (.var 0) .nil))) <|
  .cons (.ret false (.comp [3] (.nm 3) (.rng1 (.idx (.var 0) (.cst (.int 0)))) (.cons (.cmp .eq (.comp [4] (.nm 4) (.val (.idx (.var 2) (.var 3))) (.cons (.cmp .lt (.idx (.var 1) (.var 4)) (.idx (.var 1) (.var 3))) .nil) false (.var 4)) (.lst false .nil)) .nil) false (.var 3))) <|
  .nil)⟩
def d_26 : DefI := ⟨"_law_lows", 26, top 37, ["web", "laying", "nears", "field", "near"], ["web", "laying"], f_26⟩
/-- _law_highs -/
def f_27 : Fn :=
  ⟨[.val, .val], 5,
  (.cons (.asg (.nm 2 false) (.call 24 [.val] (.cons (.var 0) .nil))) <|
  .cons (.ret false (.comp [3] (.nm 3) (.rng1 (.idx (.var 0) (.cst (.int 0)))) (.cons (.cmp .eq (.comp [4] (.nm 4) (.val (.idx (.var 2) (.var 3))) (.cons (.cmp .gt (.idx (.var 1) (.var 4)) (.idx (.var 1) (.var 3))) .nil) false (.var 4)) (.lst false .nil)) .nil) false (.var 3))) <|
  .nil)⟩
def d_27 : DefI := ⟨"_law_highs", 27, top 38, ["web", "laying", "nears", "field", "near"], ["web", "laying"], f_27⟩
/-- _law_changed -/
def f_28 : Fn :=
  ⟨[.val, .val, .val], 3,
  (.cons (.ret false (.bin .add (.bin .add (.slc (.var 0) .nil (.cons (.var 1) .nil)) (.tup false (.cons (.bin .add (.idx (.var 0) (.var 1)) (.var 2)) .nil))) (.slc (.var 0) (.cons (.bin .add (.var 1) (.cst (.int 1))) .nil) .nil))) <|
  .nil)⟩
def d_28 : DefI := ⟨"_law_changed", 28, top 39, ["laying", "field", "by"], ["laying", "field", "by"], f_28⟩
/-- _law_next -/
def f_29 : Fn :=
  ⟨[.val, .val], 4,
  (.cons (.asg (.nm 2 false) (.comp [3] (.nm 3) (.val (.call 26 [.val, .val] (.cons (.var 0) (.cons (.var 1) .nil)))) .nil false (.call 28 [.val, .val, .val] (.cons (.var 1) (.cons (.var 3) (.cons (.cst (.int 2)) .nil)))))) <|
  .cons (.ret false (.bf .sorted (.cons (.bin .add (.var 2) (.comp [3] (.nm 3) (.val (.call 27 [.val, .val] (.cons (.var 0) (.cons (.var 1) .nil)))) .nil false (.call 28 [.val, .val, .val] (.cons (.var 1) (.cons (.var 3) (.cons (.bin .sub (.cst (.int 0)) (.cst (.int 2))) .nil)))))) .nil))) <|
  .nil)⟩
def d_29 : DefI := ⟨"_law_next", 29, top 40, ["web", "laying", "found", "field"], ["web", "laying"], f_29⟩
/-- _law_laying -/
def f_30 : Fn :=
  ⟨[.io, .val, .val], 15,
  (.cons (.asgs [(.nm 5 false), (.nm 6 false), (.nm 7 false)] (.cons (.call 25 [.val, .val] (.cons (.var 1) (.cons (.cst (.int 0)) .nil))) (.cons (.call 18 [.io, .val] (.cons (.var 0) (.cons (.cst (.int 2)) .nil))) (.cons (.cst .non) .nil)))) <|
  .cons (.for_ (.nm 3) (.rng1 (.bin .add (.cst (.int 1)) (.call 18 [.io, .val] (.cons (.var 0) (.cons (.cst (.int 3)) .nil))))) (.cons (.asg (.nm 8 false) (.call 18 [.io, .val] (.cons (.var 0) (.cons (.idx (.var 1) (.cst (.int 0))) .nil)))) <|
    .cons (.asg (.nm 9 false) (.bin .add (.bin .add (.var 2) (.idx (.var 5) (.var 8))) (.bin .mul (.cst (.int 2)) (.bin .sub (.call 18 [.io, .val] (.cons (.var 0) (.cons (.cst (.int 5)) .nil))) (.cst (.int 2)))))) <|
    .cons (.asg (.nm 10 false) (.call 25 [.val, .val] (.cons (.var 1) (.cons (.var 8) .nil)))) <|
    .cons (.asg (.nm 11 false) (.ite (.cmp .eq (.var 6) (.cst (.int 0))) (.comp [12] (.nm 12) (.val (.var 10)) .nil false (.bin .add (.var 9) (.var 12))) (.comp [12] (.nm 12) (.val (.var 10)) .nil false (.bin .sub (.var 9) (.var 12))))) <|
    .cons (.ite (.cmp .is_ (.var 7) (.cst .non)) (.cons (.asg (.nm 7 false) (.var 11)) <|
      .nil) (.cons (.asg (.nm 7 false) (.comp [13, 14] (.cons (.nm 13) (.cons (.nm 14) .nil)) (.zip (.var 7) (.var 11)) .nil false (.ite (.cmp .eq (.var 6) (.cst (.int 0))) (.bf .min2 (.cons (.var 13) (.cons (.var 14) .nil))) (.bf .max2 (.cons (.var 13) (.cons (.var 14) .nil)))))) <|
      .nil)) <|
    .nil)) <|
  .cons (.asg (.nm 4 false) (.bf .tuple_ (.cons (.var 7) .nil))) <|
  .cons (.for_ (.nm 3) (.rng1 (.call 18 [.io, .val] (.cons (.var 0) (.cons (.cst (.int 5)) .nil)))) (.cons (.asg (.nm 4 false) (.call 19 [.io, .val] (.cons (.var 0) (.cons (.call 29 [.val, .val] (.cons (.var 1) (.cons (.var 4) .nil))) .nil)))) <|
    .nil)) <|
  .cons (.ret false (.var 4)) <|
  .nil)⟩
def d_30 : DefI := ⟨"_law_laying", 30, top 41, ["row", "web", "height", "step", "laying", "told", "kind", "found", "field", "here", "away", "some", "many", "one", "other"], ["row", "web", "height"], f_30⟩
/-- _law_first -/
def f_31 : Fn :=
  ⟨[.io, .val], 3,
  (.cons (.ret false (.ite (.cmp .eq (.call 18 [.io, .val] (.cons (.var 0) (.cons (.cst (.int 2)) .nil))) (.cst (.int 0))) (.call 30 [.io, .val, .val] (.cons (.var 0) (.cons (.var 1) (.cons (.call 18 [.io, .val] (.cons (.var 0) (.cons (.cst (.int 2)) .nil))) .nil)))) (.bf .tuple_ (.cons (.comp [2] (.nm 2) (.val (.call 25 [.val, .val] (.cons (.var 1) (.cons (.cst (.int 0)) .nil)))) .nil false (.bin .mod (.var 2) (.cst (.int 2)))) .nil)))) <|
  .nil)⟩
def d_31 : DefI := ⟨"_law_first", 31, top 42, ["row", "web", "many"], ["row", "web"], f_31⟩
/-- _law_rest -/
def f_32 : Fn :=
  ⟨[.val, .val, .val], 8,
  (.cons (.asg (.nm 3 false) (.bf .dict_ (.cons (.var 2) .nil))) <|
  .cons (.asg (.nm 4 false) (.var 1)) <|
  .cons (.for_ (.nm 5) (.rng1 (.cst (.int 2000))) (.cons (.asg (.nm 6 false) (.comp [7] (.nm 7) (.val (.call 26 [.val, .val] (.cons (.var 0) (.cons (.var 4) .nil)))) (.cons (.cmp .lt (.idx (.var 4) (.var 7)) (.get (.var 3) (.var 7) (.cst (.int 999)))) .nil) false (.var 7))) <|
    .cons (.ite (.cmp .eq (.var 6) (.lst false .nil)) (.cons (.ret false (.var 4)) <|
      .nil) .nil) <|
    .cons (.asg (.nm 4 false) (.call 28 [.val, .val, .val] (.cons (.var 4) (.cons (.idx (.var 6) (.cst (.int 0))) (.cons (.cst (.int 2)) .nil))))) <|
    .nil)) <|
  .cons (.ret false (.var 4)) <|
  .nil)⟩
def d_32 : DefI := ⟨"_law_rest", 32, top 43, ["web", "first", "stops", "high", "here", "step", "some", "place"], ["web", "first", "stops"], f_32⟩
/-- law -/
def f_33 : Fn :=
  ⟨[.val], 14,
  (.cons (.asg (.nm 1 true) (.lst false (.cons (.var 0) (.cons (.cst (.int 0)) (.cons (.cst (.int 5608)) (.cons (.cst (.int 0)) .nil)))))) <|
  .cons (.asg (.nm 2 false) (.call 23 [.io, .val] (.cons (.var 1) (.cons (.cst (.int 6)) .nil)))) <|
  .cons (.asg (.nm 3 false) (.call 31 [.io, .val] (.cons (.var 1) (.cons (.var 2) .nil)))) <|
  .cons (.asg (.nm 4 false) (.bf .sorted (.cons (.slc (.call 21 [.io, .val] (.cons (.var 1) (.cons (.bf .lrange (.cons (.idx (.var 2) (.cst (.int 0))) .nil)) .nil))) .nil (.cons (.bin .add (.cst (.int 1)) (.call 18 [.io, .val] (.cons (.var 1) (.cons (.bf .min2 (.cons (.cst (.int 4)) (.cons (.idx (.var 2) (.cst (.int 0))) .nil))) .nil)))) .nil)) .nil))) <|
  .cons (.asg (.nm 5 false) (.bf .ptuple_ (.cons (.comp [12] (.nm 12) (.val (.var 4)) .nil false (.tup false (.cons (.var 12) (.cons (.bin .add (.idx (.var 3) (.var 12)) (.bin .mul (.cst (.int 2)) (.call 18 [.io, .val] (.cons (.var 1) (.cons (.cst (.int 5)) .nil))))) .nil)))) .nil))) <|
  .cons (.asg (.nm 6 false) (.call 32 [.val, .val, .val] (.cons (.var 2) (.cons (.var 3) (.cons (.var 5) .nil))))) <|
  .cons (.ite (.un .not (.call 20 [.val, .val] (.cons (.call 14 [.val, .val, .val] (.cons (.var 2) (.cons (.var 3) (.cons (.var 5) .nil)))) (.cons (.var 6) .nil)))) (.cons (.ret false (.cst (.bl false))) <|
    .nil) .nil) <|
  .cons (.asg (.nm 7 false) (.call 18 [.io, .val] (.cons (.var 1) (.cons (.idx (.var 2) (.cst (.int 0))) .nil)))) <|
  .cons (.asg (.nm 8 false) (.comp [12, 13] (.cons (.nm 12) (.cons (.nm 13) .nil)) (.val (.var 5)) (.cons (.cmp .eq (.idx (.call 32 [.val, .val, .val] (.cons (.var 2) (.cons (.var 3) (.cons (.tup true (.cons (.tup false (.cons (.var 12) (.cons (.var 13) .nil))) .nil)) .nil)))) (.var 7)) (.idx (.var 6) (.var 7))) .nil) false (.var 12))) <|
  .cons (.ite (.un .not (.call 20 [.val, .val] (.cons (.call 15 [.val, .val, .val, .val] (.cons (.var 2) (.cons (.var 3) (.cons (.var 5) (.cons (.var 7) .nil))))) (.cons (.bf .tuple_ (.cons (.var 8) .nil)) .nil)))) (.cons (.ret false (.cst (.bl false))) <|
    .nil) .nil) <|
  .cons (.ite (.un .not (.call 20 [.val, .val] (.cons (.call 16 [.val, .val, .val] (.cons (.var 2) (.cons (.var 3) (.cons (.var 5) .nil)))) (.cons (.bf .tuple_ (.cons (.comp [12, 13] (.cons (.nm 12) (.cons (.nm 13) .nil)) (.val (.var 5)) (.cons (.cmp .lt (.idx (.var 6) (.var 12)) (.var 13)) .nil) false (.var 12)) .nil)) .nil)))) (.cons (.ret false (.cst (.bl false))) <|
    .nil) .nil) <|
  .cons (.asg (.nm 9 true) (.lst false .nil)) <|
  .cons (.for_ (.nm 10) (.rng1 (.bf .len (.cons (.var 5) .nil))) (.cons (.asg (.nm 11 false) (.bin .addP (.slc (.var 5) .nil (.cons (.var 10) .nil)) (.slc (.var 5) (.cons (.bin .add (.var 10) (.cst (.int 1))) .nil) .nil))) <|
    .cons (.ite (.and (.cmp .ne (.var 11) (.tup false .nil)) (.cmp .eq (.call 32 [.val, .val, .val] (.cons (.var 2) (.cons (.var 3) (.cons (.var 11) .nil)))) (.var 6))) (.cons (.exp (.app false (.var 9) (.idx (.idx (.var 5) (.var 10)) (.cst (.int 0))))) <|
      .nil) .nil) <|
    .nil)) <|
  .cons (.ret false (.call 20 [.val, .val] (.cons (.call 17 [.val, .val, .val] (.cons (.var 2) (.cons (.var 3) (.cons (.var 5) .nil)))) (.cons (.bf .tuple_ (.cons (.var 9) .nil)) .nil)))) <|
  .nil)⟩
def d_33 : DefI := ⟨"law", 33, top 44, ["script", "row", "web", "first", "names", "stops", "due", "place", "alone", "spare", "at", "rest", "name", "height"], ["script"], f_33⟩
def L : LawI := ⟨[d_0, d_1, d_2, d_3, d_4, d_5, d_6, d_7, d_8, d_9, d_10, d_11, d_12, d_13, d_14, d_15, d_16, d_17, d_18, d_19, d_20, d_21, d_22, d_23, d_24, d_25, d_26, d_27, d_28, d_29, d_30, d_31, d_32, d_33], [("MOST_HEIGHT", 1000000), ("MOST_PLACES", 40)], ["abs", "all", "bool", "dict", "enumerate", "int", "isinstance", "len", "list", "max", "min", "range", "sorted", "str", "tuple", "zip"]⟩
def Pm : Nat → Option Fn
  | 0 => some f_0
  | 1 => some f_1
  | 2 => some f_2
  | 3 => some f_3
  | 4 => some f_4
  | 5 => some f_5
  | 6 => some f_6
  | 7 => some f_7
  | 8 => some f_8
  | 9 => some f_9
  | 10 => some f_10
  | 11 => some f_11
  | 12 => some f_12
  | 13 => some f_13
  | 14 => some f_14
  | 15 => some f_15
  | 16 => some f_16
  | 17 => some f_17
  | 18 => some f_18
  | 19 => some f_19
  | 20 => some f_20
  | 21 => some f_21
  | 22 => some f_22
  | 23 => some f_23
  | 24 => some f_24
  | 25 => some f_25
  | 26 => some f_26
  | 27 => some f_27
  | 28 => some f_28
  | 29 => some f_29
  | 30 => some f_30
  | 31 => some f_31
  | 32 => some f_32
  | 33 => some f_33
  | _ => none
end K08
end
end PF

section
set_option Elab.async false
set_option linter.all false
set_option maxRecDepth 100000
set_option maxHeartbeats 1000000
namespace PF
open PySem L2
/-! ### loops -/
theorem forL_inv {bind : D → Gam → Option Gam} {body : Gam → Option Oc} {ds : List D} {g : Gam} (I : Nat → Gam → Prop) (h0 : I 0 g)
    (hs : ∀ i d g, ds[i]? = some d → I i g → ∃ g1 g2, bind d g = some g1 ∧ body g1 = some (.nx g2) ∧ I (i + 1) g2) : ∃ g', forL bind body ds g = some (.nx g') ∧ I ds.length g' := by
  induction ds generalizing g I with
  | nil => exact ⟨g, rfl, h0⟩
  | cons d ds ih =>
    obtain ⟨g1, g2, e1, e2, h1⟩ := hs 0 d g rfl h0
    obtain ⟨g', e3, h2⟩ := ih (g := g2) (fun i => I (i + 1)) h1 fun i d' g' e h => hs (i + 1) d' g' (by simpa using e) h
    exact ⟨g', by simp [forL, e1, e2, e3], h2⟩
/-- the loop may end early by a return -/
theorem forL_ret {bind : D → Gam → Option Gam} {body : Gam → Option Oc} {ds : List D} {g : Gam} (I : Nat → Gam → Prop) (Q : Oc → Prop) (h0 : I 0 g)
    (hs : ∀ i d g, ds[i]? = some d → I i g → ∃ g1, bind d g = some g1 ∧ ((∃ g2, body g1 = some (.nx g2) ∧ I (i + 1) g2) ∨ ∃ w g2, body g1 = some (.ret w g2) ∧ Q (.ret w g2))) (he : ∀ g, I ds.length g → Q (.nx g)) : ∃ o, forL bind body ds g = some o ∧ Q o := by
  induction ds generalizing g I with
  | nil => exact ⟨.nx g, rfl, he g h0⟩
  | cons d ds ih =>
    obtain ⟨g1, e1, h⟩ := hs 0 d g rfl h0
    rcases h with ⟨g2, e2, h1⟩ | ⟨w, g2, e2, h1⟩
    · obtain ⟨o, e3, h2⟩ := ih (g := g2) (fun i => I (i + 1)) h1 (fun i d' g' e h => hs (i + 1) d' g' (by simpa using e) h) he
      exact ⟨o, by simp [forL, e1, e2, e3], h2⟩
    · exact ⟨.ret w g2, by simp [forL, e1, e2], h1⟩
theorem whileL_inv {test : Gam → Option (Bool × Gam)} {body : Gam → Option Oc} (I : Nat → Gam → Prop) (Q : Gam → Prop)
    (hs : ∀ m g, I m g → (∃ g', test g = some (false, g') ∧ Q g') ∨ ∃ g1 g2 m', test g = some (true, g1) ∧ body g1 = some (.nx g2) ∧ m' < m ∧ I m' g2) : ∀ {m : Nat} {fu : Nat} {g : Gam}, I m g → m < fu → ∃ g', whileL test body fu g = some (.nx g') ∧ Q g' := by
  intro m
  induction m using Nat.strongRecOn with
  | _ m ih =>
    intro fu g h hf
    cases fu with
    | zero => omega
    | succ fu =>
      rcases hs m g h with ⟨g', e, q⟩ | ⟨g1, g2, m', e1, e2, l, h2⟩
      · exact ⟨g', by simp [whileL, e], q⟩
      · obtain ⟨g', e3, q⟩ := ih m' l h2 (fu := fu) (by omega)
        exact ⟨g', by simp [whileL, e1, e2, e3], q⟩
theorem compL_inv {bind : D → Gam → Option Gam} {test : Gam → Option (Bool × Gam)} {elt : Gam → Option (W × Gam)} {own : List Nat} {ds : List D} {acc : List W} {g : Gam} (I : Nat → List W → Gam → Prop) (h0 : I 0 acc g)
    (hs : ∀ i d acc g, ds[i]? = some d → I i acc g → ∃ g1 b g2, bind d g = some g1 ∧ test g1 = some (b, g2) ∧ (b = false → I (i + 1) acc (wipeG g2 own)) ∧ (b = true → ∃ w g3, elt g2 = some (w, g3) ∧ I (i + 1) (acc ++ [w]) (wipeG g3 own))) :
    ∃ acc' g', compL bind test elt own ds acc g = some (acc', g') ∧ I ds.length acc' g' := by
  induction ds generalizing g acc I with
  | nil => exact ⟨acc, g, rfl, h0⟩
  | cons d ds ih =>
    obtain ⟨g1, b, g2, e1, e2, hf, ht⟩ := hs 0 d acc g rfl h0
    cases b with
    | false =>
      obtain ⟨acc', g', e3, h2⟩ := ih (g := wipeG g2 own) (acc := acc) (fun i => I (i + 1)) (hf rfl) fun i d' acc' g' e h => hs (i + 1) d' acc' g' (by simpa using e) h
      exact ⟨acc', g', by simp [compL, e1, e2, e3], h2⟩
    | true =>
      obtain ⟨w, g3, e4, h1⟩ := ht rfl
      obtain ⟨acc', g', e3, h2⟩ := ih (g := wipeG g3 own) (acc := acc ++ [w]) (fun i => I (i + 1)) h1 fun i d' acc' g' e h => hs (i + 1) d' acc' g' (by simpa using e) h
      exact ⟨acc', g', by simp [compL, e1, e2, e4, e3], h2⟩
/-- a comprehension that leaves the slots as they are -/
theorem compL_map {α : Type} {bind : D → Gam → Option Gam} {test : Gam → Option (Bool × Gam)} {elt : Gam → Option (W × Gam)} {own : List Nat} (enc : α → D) (p : α → Bool) (f : α → W) {g : Gam} : ∀ {xs : List α} {acc : List W},
    (∀ x ∈ xs, ∃ g1 g2, bind (enc x) g = some g1 ∧ test g1 = some (p x, g2) ∧ (p x = false → wipeG g2 own = g) ∧ (p x = true → ∃ g3, elt g2 = some (f x, g3) ∧ wipeG g3 own = g)) →
    compL bind test elt own (xs.map enc) acc g = some (acc ++ (xs.filter p).map f, g)
  | [], acc, _ => by simp [compL]
  | x :: xs, acc, h => by
    obtain ⟨g1, g2, e1, e2, hf, ht⟩ := h x List.mem_cons_self
    have ih := fun acc => compL_map enc p f (xs := xs) (acc := acc) fun y hy => h y (List.mem_cons_of_mem _ hy)
    cases hp : p x with
    | false =>
      rw [hp] at e2
      have := ih acc
      simp [compL, e1, e2, hf hp, hp, this]
    | true =>
      rw [hp] at e2
      obtain ⟨g3, e3, e4⟩ := ht hp
      have := ih (acc ++ [f x])
      simp [compL, e1, e2, e3, e4, hp, this]
/-! ### the meaning, step by step -/
def rngOk (n : Int) : Bool := absLe n 4000000000000000000
def rngOk2 (i j : Int) : Bool := absLe i 4000000000000000000 && absLe j 4000000000000000000
theorem rng_nat {k : Nat} (h : k ≤ 100000) : rngOk (k : Int) = true := absLe_of (by omega)
theorem rng2_nat {i k : Nat} (h : k ≤ 100000) (h' : i ≤ 100000) : rngOk2 (i : Int) (k : Int) = true := by
  unfold rngOk2
  rw [Bool.and_eq_true]
  exact ⟨absLe_of (by omega), absLe_of (by omega)⟩
theorem pop_int {k : Int} {r : Nat} {ws : List W} (h1 : absLe k 9000000000000000000 = true) (hs : seqIndex? k ws.length = some r) (h : r < ws.length) : popAW (.int k) (.lst ws) = some (.lst (ws.eraseIdx r), ws[r]) := by
  unfold popAW
  simp [hs, h, h1]
theorem pop_nat {r : Nat} {ws : List W} (h : r < ws.length) (h2 : ws.length ≤ 100000) : popAW (.int (r : Nat)) (.lst ws) = some (.lst (ws.eraseIdx r), ws[r]) :=
  pop_int (absLe_of (by omega)) (L2.ixN_seq (by
    unfold ixN
    have h' : (r : Int) < (ws.length : Int) := by omega
    simp [h'])).1 h
theorem app_ok {y : W} {ws : List W} (h : ws.length < 100000) : appW y (.lst ws) = some (.lst (ws ++ [y]), ()) := by
  show (if ws.length < sizeLine then some (W.lst (ws ++ [y]), ()) else none) = _
  rw [if_pos (by rw [sizeLine_eq]; omega)]
def slk (n : Nat) : Bool := decide (n ≤ sizeLine)
theorem slk_ok {n : Nat} (h : n ≤ 100000) : slk n = true := by
  unfold slk
  rw [decide_eq_true_eq, sizeLine_eq]
  omega

theorem f_len_l {xs} : bfD .len [.lst xs] = some (.int (xs.length : Nat)) := Eq.trans rfl rfl
theorem f_len_t {xs} : bfD .len [.tup xs] = some (.int (xs.length : Nat)) := Eq.trans rfl rfl
theorem f_len_p {xs} : bfD .len [.pt xs] = some (.int (xs.length : Nat)) := Eq.trans rfl rfl
theorem f_len_s {xs} : bfD .len [.scr xs] = some (.int (xs.length : Nat)) := Eq.trans rfl rfl
theorem f_abs {i} : bfD .abs [.int i] = some (.int (if i < 0 then -i else i)) := Eq.trans rfl rfl
theorem f_max2 {i j} : bfD .max2 [.int i, .int j] = some (.int (if j > i then j else i)) := Eq.trans rfl rfl
theorem f_min2 {i j} : bfD .min2 [.int i, .int j] = some (.int (if j < i then j else i)) := Eq.trans rfl rfl
theorem f_sorted {xs} : bfD .sorted [.lst xs] = (sortD xs).map .lst := Eq.trans rfl rfl
theorem f_all {xs} : bfD .all_ [.lst xs] = (blsOf xs).map fun bs => .bl (bs.all id) := Eq.trans rfl rfl
theorem f_int_i {i} : bfD .int_ [.int i] = some (.int i) := Eq.trans rfl rfl
theorem f_int_b {b} : bfD .int_ [.bl b] = some (.int (if b then 1 else 0)) := Eq.trans rfl rfl
theorem f_list_l {xs} : bfD .list_ [.lst xs] = some (.lst xs) := Eq.trans rfl rfl
theorem f_list_t {xs} : bfD .list_ [.tup xs] = some (.lst xs) := Eq.trans rfl rfl
theorem f_tuple_l {xs} : bfD .tuple_ [.lst xs] = some (.tup xs) := Eq.trans rfl rfl
theorem f_tuple_t {xs} : bfD .tuple_ [.tup xs] = some (.tup xs) := Eq.trans rfl rfl
theorem f_ptuple {xs} : bfD .ptuple_ [.lst xs] = some (.pt xs) := Eq.trans rfl rfl
theorem f_dict_p {xs} : bfD .dict_ [.pt xs] = (if xs.length ≤ 1000 then (pairsOf xs).map fun ps => .dK (mergeD [] ps) else none) := Eq.trans rfl rfl
theorem f_lrange {n} : bfD .lrange [.int n] = (if decide (0 ≤ n) && absLe n 10000 then some (.lst ((List.range n.toNat).map fun i => .int (i : Nat))) else none) := Eq.trans rfl rfl
theorem d_neg {i} : unD .neg (.int i) = some (.int (-i)) := Eq.trans rfl rfl
theorem d_not {b} : unD .not (.bl b) = some (.bl (!b)) := Eq.trans rfl rfl
theorem d_add_i {i j} : binD .add (.int i) (.int j) = some (.int (i + j)) := Eq.trans rfl rfl
theorem d_add_l {xs ys} : binD .add (.lst xs) (.lst ys) = if slk (xs.length + ys.length) then some (.lst (xs ++ ys)) else none := by simp only [slk, decide_eq_true_eq]; exact Eq.trans rfl rfl
theorem d_add_t {xs ys} : binD .add (.tup xs) (.tup ys) = if slk (xs.length + ys.length) then some (.tup (xs ++ ys)) else none := by simp only [slk, decide_eq_true_eq]; exact Eq.trans rfl rfl
theorem d_add_p {xs ys} : binD .addP (.pt xs) (.pt ys) = if slk (xs.length + ys.length) then some (.pt (xs ++ ys)) else none := by simp only [slk, decide_eq_true_eq]; exact Eq.trans rfl rfl
theorem d_sub {i j} : binD .sub (.int i) (.int j) = some (.int (i - j)) := Eq.trans rfl rfl
theorem d_mul_i {i j} : binD .mul (.int i) (.int j) = if small64 i || small64 j then some (.int (i * j)) else none := Eq.trans rfl rfl
theorem d_mul_i0 {xs} {k : Int} (h1 : absLe k 9000000000000000000 = true) (h3 : xs.length * k.toNat ≤ sizeLine) : binD .mul (.lst xs) (.int k) = some (.lst (List.replicate k.toNat xs).flatten) := by
  unfold binD
  simp [h3, h1]
theorem d_mul_l {xs} {k : Nat} (h : xs.length ≤ 1) (hk : k ≤ 10000) : binD .mul (.lst xs) (.int (k : Nat)) = some (.lst (List.replicate k xs).flatten) := by
  have e := d_mul_i0 (xs := xs) (k := (k : Int)) (absLe_of (by omega)) (by
    rw [sizeLine_eq, Int.toNat_natCast]
    have : xs.length * k ≤ 1 * k := Nat.mul_le_mul_right k h
    omega)
  rw [Int.toNat_natCast] at e
  exact e
theorem d_fdiv {i j} : binD .fdiv (.int i) (.int j) = if decide (j ≠ 0) && decide (j.natAbs < 1073741824) then some (.int (i.fdiv j)) else none := Eq.trans rfl rfl
theorem d_mod {i j} : binD .mod (.int i) (.int j) = if j ≠ 0 then some (.int (i.fmod j)) else none := Eq.trans rfl rfl
theorem d_pow {i j} : binD .pow (.int i) (.int j) = if decide (0 ≤ j) && absLe j 1000000 && decide (i.natAbs < 2 ^ 64) then some (.int (i ^ j.toNat)) else none := Eq.trans rfl rfl
theorem d_eq {a b} : cmpD .eq a b = eqD a b := Eq.trans rfl rfl
theorem d_ne {a b} : cmpD .ne a b = (eqD a b).map not := Eq.trans rfl rfl
theorem d_lt_i {i j} : cmpD .lt (.int i) (.int j) = some (decide (i < j)) := Eq.trans rfl rfl
theorem d_lt_t {xs ys} : cmpD .lt (.tup xs) (.tup ys) = ltD (.tup xs) (.tup ys) := Eq.trans rfl rfl
theorem d_le {i j} : cmpD .le (.int i) (.int j) = some (decide (i ≤ j)) := Eq.trans rfl rfl
theorem d_gt {i j} : cmpD .gt (.int i) (.int j) = some (decide (j < i)) := Eq.trans rfl rfl
theorem d_ge {i j} : cmpD .ge (.int i) (.int j) = some (decide (j ≤ i)) := Eq.trans rfl rfl
theorem d_in {a b} : cmpD .isIn a b = inD a b := Eq.trans rfl rfl
theorem d_nin {a b} : cmpD .notIn a b = (inD a b).map not := Eq.trans rfl rfl
theorem d_is_nn : cmpD .is_ .non .non = some true := Eq.trans rfl rfl
theorem d_is_in {i} : cmpD .is_ (.int i) .non = some false := Eq.trans rfl rfl
theorem d_is_ln {l} : cmpD .is_ (.lst l) .non = some false := Eq.trans rfl rfl
theorem d_is_tn {l} : cmpD .is_ (.tup l) .non = some false := Eq.trans rfl rfl
theorem d_ix_l {xs i} : ixD (.lst xs) (.int i) = atI xs i := Eq.trans rfl rfl
theorem d_ix_t {xs i} : ixD (.tup xs) (.int i) = atI xs i := Eq.trans rfl rfl
theorem d_ix_p {xs i} : ixD (.pt xs) (.int i) = atI xs i := Eq.trans rfl rfl
theorem d_ix_s {xs i} : ixD (.scr xs) (.int i) = (atI xs i).map .int := Eq.trans rfl rfl
theorem d_sl_l {xs a b} : slD (.lst xs) a b = some (.lst (cutD xs a b)) := Eq.trans rfl rfl
theorem d_sl_t {xs a b} : slD (.tup xs) a b = some (.tup (cutD xs a b)) := Eq.trans rfl rfl
theorem d_sl_p {xs a b} : slD (.pt xs) a b = some (.pt (cutD xs a b)) := Eq.trans rfl rfl
theorem d_pair {a b} : okD (.tup [.int a, .int b]) = true := Eq.trans rfl rfl
theorem eqD_int {i j : Int} : eqD (.int i) (.int j) = some (decide (i = j)) := by
  by_cases h : i = j <;> simp [eqD, okD, layD, depD, eqvD, h]
theorem eqD_bl {i j : Bool} : eqD (.bl i) (.bl j) = some (decide (i = j)) := by
  cases i <;> cases j <;> rfl
theorem atI_nat {α : Type} {xs : List α} {i : Nat} : atI xs (i : Int) = xs[i]? := by
  unfold atI ixN
  by_cases h : i < xs.length
  · have h' : (i : Int) < (xs.length : Int) := by omega
    simp [h']
  · have h' : ¬ (i : Int) < (xs.length : Int) := by omega
    simp [h']
    omega
theorem atI_0 {α : Type} {xs : List α} : atI xs 0 = xs[0]? := atI_nat (i := 0)
theorem atI_1 {α : Type} {xs : List α} : atI xs 1 = xs[1]? := atI_nat (i := 1)
theorem atI_2 {α : Type} {xs : List α} : atI xs 2 = xs[2]? := atI_nat (i := 2)
theorem atI_3 {α : Type} {xs : List α} : atI xs 3 = xs[3]? := atI_nat (i := 3)
theorem ixN4_0 : ixN 4 0 = some 0 := Eq.trans rfl rfl
theorem ixN4_1 : ixN 4 1 = some 1 := Eq.trans rfl rfl
theorem ixN4_2 : ixN 4 2 = some 2 := Eq.trans rfl rfl
theorem ixN4_3 : ixN 4 3 = some 3 := Eq.trans rfl rfl
theorem ixN_nat {m i : Nat} (h : i < m) : ixN m (i : Int) = some i := by
  unfold ixN
  have h' : (i : Int) < (m : Int) := by omega
  simp [h']
def compQ (F : Nat → List W → Option (W × List W)) (ow : List Nat) (t : IT) (cs : IL) (oe : Bool) (e : IE) (ds : List D) (g : Gam) : Option (List W × Gam) :=
  compL (fun d g => bindT t d g) (fun g => evC F cs g) (fun g => (evE F e g).bind fun p => takeA oe p.2 p.1) ow ds [] g
def forQ (F : Nat → List W → Option (W × List W)) (fu : Nat) (t : IT) (b : IB) (ds : List D) (g : Gam) : Option Oc := forL (fun d g => bindT t d g) (fun g => runB F fu b g) ds g
def whlQ (F : Nat → List W → Option (W × List W)) (fu : Nat) (c : IE) (b : IB) (m : Nat) (g : Gam) : Option Oc := whileL (fun g => evT F c g) (fun g => runB F fu b g) m g
section
variable {F : Nat → List W → Option (W × List W)} {fu : Nat} {g : Gam}
theorem q_var {i} : evE F (.var i) g = (match g[i]? with | some (some _) => some (.pth i [], g) | _ => none) := Eq.trans rfl rfl
theorem q_cst {d} : evE F (.cst d) g = some (.tmp (.fz d), g) := Eq.trans rfl rfl
theorem q_glo {x i} : evE F (.glo x i) g = some (.tmp (.fz (.int i)), g) := Eq.trans rfl rfl
theorem q_un {o a} : evE F (.un o a) g = (evE F a g).bind fun p => (res p.2 p.1).bind fun w => (unD o w.toD).bind fun d => some (.tmp (.fz d), p.2) := Eq.trans rfl rfl
theorem q_bin {o a b} : evE F (.bin o a b) g = (evE F a g).bind fun p => (evE F b p.2).bind fun q => if p.1.simple || pureE b then (res q.2 p.1).bind fun wx => (res q.2 q.1).bind fun wy => (binD o wx.toD wy.toD).bind fun d => (fin [wx, wy] d).bind fun z => some (z, q.2) else none := Eq.trans rfl rfl
theorem q_cmp {o a b} : evE F (.cmp o a b) g = (evE F a g).bind fun p => (evE F b p.2).bind fun q => if p.1.simple || pureE b then (res q.2 p.1).bind fun wx => (res q.2 q.1).bind fun wy => (cmpD o wx.toD wy.toD).bind fun c => some (.tmp (.fz (.bl c)), q.2) else none := Eq.trans rfl rfl
theorem q_chn {o o' a b c} : evE F (.chn o o' a b c) g = (evE F a g).bind fun p => (evE F b p.2).bind fun q => if p.1.simple && q.1.simple then (res q.2 p.1).bind fun wx => (res q.2 q.1).bind fun wy => (cmpD o wx.toD wy.toD).bind fun k =>
  if k then (evE F c q.2).bind fun r => (res r.2 q.1).bind fun wy => (res r.2 r.1).bind fun wz => (cmpD o' wy.toD wz.toD).bind fun k' => some (.tmp (.fz (.bl k')), r.2) else some (.tmp (.fz (.bl false)), q.2) else none := Eq.trans rfl rfl
theorem q_and {a b} : evE F (.and a b) g = (evE F a g).bind fun p => (boolA p.2 p.1).bind fun c => if c then evE F b p.2 else some (.tmp (.fz (.bl false)), p.2) := Eq.trans rfl rfl
theorem q_or {a b} : evE F (.or a b) g = (evE F a g).bind fun p => (boolA p.2 p.1).bind fun c => if c then some (.tmp (.fz (.bl true)), p.2) else evE F b p.2 := Eq.trans rfl rfl
theorem q_ite {c a b} : evE F (.ite c a b) g = (evT F c g).bind fun p => if p.1 then evE F a p.2 else evE F b p.2 := Eq.trans rfl rfl
theorem q_idx {a i} : evE F (.idx a i) g = (evE F a g).bind fun p => (evE F i p.2).bind fun q => if p.1.simple || pureE i then (res q.2 q.1).bind fun wi => (idxA q.2 p.1 wi.toD).bind fun z => some (z, q.2) else none := Eq.trans rfl rfl
theorem q_slc {a lo hi} : evE F (.slc a lo hi) g = (evE F a g).bind fun p => if p.1.simple then (evO F lo p.2).bind fun l => (evO F hi l.2).bind fun h => (res h.2 p.1).bind fun w => (slD w.toD l.1 h.1).bind fun d => (fin [w] d).bind fun z => some (z, h.2) else none := Eq.trans rfl rfl
theorem q_tup {pl es} : evE F (.tup pl es) g = (evL F es g).bind fun p => (frzL p.1 p.2).bind fun q => if slk q.1.length then some (.tmp (.fz (if pl then .pt q.1 else .tup q.1)), q.2) else none := by simp only [slk, decide_eq_true_eq]; exact Eq.trans rfl rfl
theorem q_lst {o es} : evE F (.lst o es) g = (evL F es g).bind fun p => (takeL o p.1 p.2).bind fun q => if slk q.1.length then some (.tmp (.lst q.1), q.2) else none := by simp only [slk, decide_eq_true_eq]; exact Eq.trans rfl rfl
theorem q_dic {tk} : evE F (.dic tk) g = some (.tmp (if tk then .dT [] else .dK []), g) := Eq.trans rfl rfl
theorem q_call {f ms es} : evE F (.call f ms es) g = (evL F es g).bind fun p => (takeC ms p.1 p.2).bind fun q => (F f q.1).bind fun r => (putC ms p.1 r.2 q.2).bind fun g3 => some (.tmp r.1, g3) := Eq.trans rfl rfl
theorem q_bf {b es} : evE F (.bf b es) g = (evL F es g).bind fun p => (resL p.2 p.1).bind fun ws => (bfD b (ws.map W.toD)).bind fun d => (fin ws d).bind fun z => some (z, p.2) := Eq.trans rfl rfl
theorem q_isi {a ts o} : evE F (.isi a ts o) g = (evE F a g).bind fun p => (res p.2 p.1).bind fun w => (isiD w.toD ts).bind fun b => some (.tmp (.fz (.bl b)), p.2) := Eq.trans rfl rfl
theorem q_get {a k e} : evE F (.get a k e) g = (evE F a g).bind fun p => (evE F k p.2).bind fun q => (evE F e q.2).bind fun r => if p.1.simple && q.1.simple && isDc (res p.2 p.1) then (res r.2 p.1).bind fun w => (res r.2 q.1).bind fun wk => (getD? w.toD wk.toD).bind fun o => if w.flat then (match o with
  | some d => some (.tmp (.fz d), r.2)
  | none => (frzA r.2 r.1).bind fun s => some (.tmp (.fz s.1), s.2)) else none else none := Eq.trans rfl rfl
theorem q_app {o a e} : evE F (.app o a e) g = (evE F a g).bind fun p => (evE F e p.2).bind fun q => if (p.1.simple || pureE e) && isL (res p.2 p.1) then (takeA o q.2 q.1).bind fun r => (modP r.2 p.1 (appW r.1)).bind fun s => some (.tmp (.fz .non), s.1) else none := Eq.trans rfl rfl
theorem q_ext {a e} : evE F (.ext a e) g = (evE F a g).bind fun p => (evE F e p.2).bind fun q => if (p.1.simple || pureE e) && isL (res p.2 p.1) then (res q.2 q.1).bind fun w => (modP q.2 p.1 (extW w)).bind fun s => some (.tmp (.fz .non), s.1) else none := Eq.trans rfl rfl
theorem q_popL {a} : evE F (.popL a) g = (evE F a g).bind fun p => (modP p.2 p.1 popW).bind fun s => some (.tmp s.2, s.1) := Eq.trans rfl rfl
theorem q_popA {a i} : evE F (.popA a i) g = (evE F a g).bind fun p => (evE F i p.2).bind fun q => if (p.1.simple || pureE i) && isL (res p.2 p.1) then (res q.2 q.1).bind fun wi => (modP q.2 p.1 (popAW wi.toD)).bind fun s => some (.tmp s.2, s.1) else none := Eq.trans rfl rfl
theorem q_comp {ow t it cs oe e} : evE F (.comp ow t it cs oe e) g = (evI F it g).bind fun p => if slk p.1.length then (compQ F ow t cs oe e p.1 (wipeG p.2 ow)).bind fun q => some (.tmp (.lst q.1), backG p.2 q.2 ow) else none := by simp only [slk, decide_eq_true_eq]; exact Eq.trans rfl rfl
theorem t_not {a} : evT F (.un .not a) g = (evT F a g).bind fun p => some (!p.1, p.2) := Eq.trans rfl rfl
theorem t_and {a b} : evT F (.and a b) g = (evT F a g).bind fun p => if p.1 then evT F b p.2 else some (false, p.2) := Eq.trans rfl rfl
theorem t_or {a b} : evT F (.or a b) g = (evT F a g).bind fun p => if p.1 then some (true, p.2) else evT F b p.2 := Eq.trans rfl rfl
theorem t_cmp {o a b} : evT F (.cmp o a b) g = (evE F a g).bind fun p => (evE F b p.2).bind fun q => if p.1.simple || pureE b then (res q.2 p.1).bind fun wx => (res q.2 q.1).bind fun wy => (cmpD o wx.toD wy.toD).bind fun c => some (c, q.2) else none := Eq.trans rfl rfl
theorem t_chn {o o' a b c} : evT F (.chn o o' a b c) g = (evE F a g).bind fun p => (evE F b p.2).bind fun q => if p.1.simple && q.1.simple then (res q.2 p.1).bind fun wx => (res q.2 q.1).bind fun wy => (cmpD o wx.toD wy.toD).bind fun k =>
  if k then (evE F c q.2).bind fun r => (res r.2 q.1).bind fun wy => (res r.2 r.1).bind fun wz => (cmpD o' wy.toD wz.toD).bind fun k' => some (k', r.2) else some (false, q.2) else none := Eq.trans rfl rfl
theorem t_call {f ms es} : evT F (.call f ms es) g = (evL F es g).bind fun p => (takeC ms p.1 p.2).bind fun q => (F f q.1).bind fun r => (putC ms p.1 r.2 q.2).bind fun g3 => (match r.1 with
  | .fz (.bl b) => some (b, g3)
  | _ => none) := Eq.trans rfl rfl
theorem t_bf {b es} : evT F (.bf b es) g = (evL F es g).bind fun p => (resL p.2 p.1).bind fun ws => (bfD b (ws.map W.toD)).bind fun d => (match d with
  | .bl b => some (b, p.2)
  | _ => none) := Eq.trans rfl rfl
theorem t_isi {a ts o} : evT F (.isi a ts o) g = (evE F a g).bind fun p => (res p.2 p.1).bind fun w => (isiD w.toD ts).bind fun b => some (b, p.2) := Eq.trans rfl rfl
theorem t_var {i} : evT F (.var i) g = (match g[i]? with | some (some (.fz (.bl b))) => some (b, g) | _ => none) := Eq.trans rfl rfl
theorem c_nil : evC F .nil g = some (true, g) := Eq.trans rfl rfl
theorem c_one {c} : evC F (.cons c .nil) g = evT F c g := Eq.trans rfl rfl
theorem o_nil : evO F .nil g = some (none, g) := Eq.trans rfl rfl
theorem o_one {e} : evO F (.cons e .nil) g = (evE F e g).bind fun p => (match res p.2 p.1 with
  | some (.fz (.int i)) => some (some i, p.2)
  | _ => none) := Eq.trans rfl rfl
theorem l_nil : evL F .nil g = some ([], g) := Eq.trans rfl rfl
theorem l_cons {e r} : evL F (.cons e r) g = (evE F e g).bind fun p => (evL F r p.2).bind fun q => if p.1.simple || pureL r then some (p.1 :: q.1, q.2) else none := Eq.trans rfl rfl
theorem i_val {e} : evI F (.val e) g = (evE F e g).bind fun p => (frzA p.2 p.1).bind fun q => (itemsOf q.1).bind fun ds => some (ds, q.2) := Eq.trans rfl rfl
theorem i_rng1 {a} : evI F (.rng1 a) g = (evE F a g).bind fun p => (match res p.2 p.1 with
  | some (.fz (.int n)) => if rngOk n then some ((List.range n.toNat).map fun i => D.int (i : Nat), p.2) else none
  | _ => none) := Eq.trans rfl rfl
theorem i_rng2 {a b} : evI F (.rng2 a b) g = (evE F a g).bind fun p => (evE F b p.2).bind fun q => if p.1.simple then (match res q.2 p.1, res q.2 q.1 with
  | some (.fz (.int i)), some (.fz (.int j)) => if rngOk2 i j then some ((List.range (j - i).toNat).map fun k => D.int (i + (k : Nat)), q.2) else none
  | _, _ => none) else none := Eq.trans rfl rfl
theorem i_enu {e} : evI F (.enu e) g = (evE F e g).bind fun p => (frzA p.2 p.1).bind fun q => (itemsOf q.1).bind fun ds => some (numbered 0 ds, q.2) := Eq.trans rfl rfl
theorem i_zip {a b} : evI F (.zip a b) g = (evE F a g).bind fun p => (evE F b p.2).bind fun q => if p.1.simple then (frzA q.2 p.1).bind fun r => (frzA r.2 q.1).bind fun s => (match r.1, s.1 with
  | .lst ds, .lst es => some (pairUp ds es, s.2)
  | .tup ds, .tup es | .tup ds, .pt es | .pt ds, .tup es | .pt ds, .pt es => some (pairUp ds es, s.2)
  | _, _ => none) else none := Eq.trans rfl rfl
theorem s_asg {t e} : runS F fu (.asg t e) g = (evE F e g).bind fun p => (takeA t.own p.2 p.1).bind fun q => (stoW F t q.1 q.2).bind fun g3 => some (.nx g3) := Eq.trans rfl rfl
theorem s_asgs {ts es} : runS F fu (.asgs ts es) g = (evL F es g).bind fun p => (takeS ts p.1 p.2).bind fun q => (stoL F ts q.1 q.2).bind fun g3 => some (.nx g3) := Eq.trans rfl rfl
theorem s_aug {i o e} : runS F fu (.aug i o e) g = (match g[i]? with
    | some (some _) => (evE F e g).bind fun p => (match p.2[i]?, res p.2 p.1 with
      | some (some (.fz (.int a))), some (.fz (.int b)) => (match o with
        | .add => some (.nx (p.2.set i (some (.fz (.int (a + b))))))
        | .sub => some (.nx (p.2.set i (some (.fz (.int (a - b))))))
        | _ => none)
      | _, _ => none)
    | _ => none) := Eq.trans rfl rfl
theorem s_exp {e} : runS F fu (.exp e) g = (evE F e g).bind fun p => some (.nx p.2) := Eq.trans rfl rfl
theorem s_del {a k} : runS F fu (.del a k) g = (evE F a g).bind fun p => (evE F k p.2).bind fun q => if p.1.simple then (res q.2 q.1).bind fun wk => (modP q.2 p.1 (delW wk.toD)).bind fun s => some (.nx s.1) else none := Eq.trans rfl rfl
theorem s_retF {e} : runS F fu (.ret false e) g = (evE F e g).bind fun p => (takeA false p.2 p.1).bind fun q => some (.ret q.1 q.2) := Eq.trans rfl rfl
theorem s_retT {e} : runS F fu (.ret true e) g = (evE F e g).bind fun p => (match true, p.1 with
    | true, .pth i [] => (match p.2[i]? with
      | some (some w) => some (.ret w (p.2.set i none))
      | _ => none)
    | o, x => (takeA o p.2 x).bind fun q => some (.ret q.1 q.2)) := Eq.trans rfl rfl
theorem s_retN : runS F fu .retN g = some (.ret (.fz .non) g) := Eq.trans rfl rfl
theorem s_ite {c a b} : runS F fu (.ite c a b) g = (evT F c g).bind fun p => if p.1 then runB F fu a p.2 else runB F fu b p.2 := Eq.trans rfl rfl
theorem s_whl {c b} : runS F fu (.whl c b) g = whlQ F fu c b fu g := Eq.trans rfl rfl
theorem s_for {t it b} : runS F fu (.for_ t it b) g = (evI F it g).bind fun p => forQ F fu t b p.1 p.2 := Eq.trans rfl rfl
theorem s_brk : runS F fu .brk g = some (.brk g) := Eq.trans rfl rfl
theorem s_cnt : runS F fu .cnt g = some (.cnt g) := Eq.trans rfl rfl
theorem s_pass : runS F fu .pass g = some (.nx g) := Eq.trans rfl rfl
theorem b_nil : runB F fu .nil g = some (.nx g) := Eq.trans rfl rfl
theorem b_cons {s r} : runB F fu (.cons s r) g = (runS F fu s g).bind fun o => (match o with
  | .nx g1 => runB F fu r g1
  | o => some o) := Eq.trans rfl rfl
theorem w_nm {i o w} : stoW F (.nm i o) w g = (if i < g.length then some (g.set i (some w)) else none) := Eq.trans rfl rfl
theorem w_un {t d} : stoW F (.un t) (.fz d) g = bindT t d g := Eq.trans rfl rfl
theorem w_sub {a i o w} : stoW F (.sub a i o) w g = (evE F a g).bind fun p => (evE F i p.2).bind fun q => if p.1.simple || pureE i then (res q.2 q.1).bind fun wi => (modP q.2 p.1 (setW wi.toD w)).bind fun s => some s.1 else none := Eq.trans rfl rfl
theorem compQ_map {α : Type} {ow t cs oe e} (enc : α → D) (p : α → Bool) (f : α → W) {xs : List α} (h : ∀ x ∈ xs, ∃ g1 g2, bindT t (enc x) g = some g1 ∧ evC F cs g1 = some (p x, g2) ∧ (p x = false → wipeG g2 ow = g) ∧ (p x = true → ∃ q g3, evE F e g2 = some q ∧ takeA oe q.2 q.1 = some (f x, g3) ∧ wipeG g3 ow = g)) :
    compQ F ow t cs oe e (xs.map enc) g = some ((xs.filter p).map f, g) := by
  have := compL_map (own := ow) (bind := fun d g => bindT t d g) (test := fun g => evC F cs g) (elt := fun g => (evE F e g).bind fun p => takeA oe p.2 p.1) (g := g) enc p f (xs := xs) (acc := []) fun x hx => by
    obtain ⟨g1, g2, e1, e2, hf, ht⟩ := h x hx
    refine ⟨g1, g2, e1, e2, hf, fun hp => ?_⟩
    obtain ⟨q, g3, e3, e4, e5⟩ := ht hp
    exact ⟨g3, by simp [e3, e4], e5⟩
  simpa [compQ] using this
/-- no test -/
theorem compQ_all {α : Type} {ow t oe e} (enc : α → D) (f : α → W) {xs : List α} (h : ∀ x ∈ xs, ∃ g1 q g3, bindT t (enc x) g = some g1 ∧ evE F e g1 = some q ∧ takeA oe q.2 q.1 = some (f x, g3) ∧ wipeG g3 ow = g) :
    compQ F ow t .nil oe e (xs.map enc) g = some (xs.map f, g) := by
  have := compQ_map (ow := ow) (t := t) (cs := .nil) (oe := oe) (e := e) (F := F) (g := g) enc (fun _ => true) f (xs := xs) fun x hx => by
    obtain ⟨g1, q, g3, e1, e2, e3, e4⟩ := h x hx
    exact ⟨g1, g1, e1, rfl, by simp, fun _ => ⟨q, g3, e2, e3, e4⟩⟩
  rw [List.filter_eq_self.mpr (by simp)] at this
  exact this
end
/-- one turn of a comprehension -/
def turnQ (F : Nat → List W → Option (W × List W)) (ow : List Nat) (t : IT) (cs : IL) (oe : Bool) (e : IE) (d : D) (g : Gam) : Option (Option W × Gam) :=
  (bindT t d g).bind fun g1 => (evC F cs g1).bind fun r => if r.1 then (evE F e r.2).bind fun q => (takeA oe q.2 q.1).bind fun s => some (some s.1, wipeG s.2 ow) else some (none, wipeG r.2 ow)
theorem turn_eq {F : Nat → List W → Option (W × List W)} {ow t cs oe e d g} : turnQ F ow t cs oe e d g = (bindT t d g).bind fun g1 => (evC F cs g1).bind fun r => if r.1 then (evE F e r.2).bind fun q => (takeA oe q.2 q.1).bind fun s => some (some s.1, wipeG s.2 ow) else some (none, wipeG r.2 ow) := Eq.trans rfl rfl
section
variable {F : Nat → List W → Option (W × List W)} {fu : Nat} {g : Gam}
theorem turn_cases {ow t cs oe e d o} {g' : Gam} (h : turnQ F ow t cs oe e d g = some (o, g')) : ∃ g1 b g2, bindT t d g = some g1 ∧ evC F cs g1 = some (b, g2) ∧ (b = false → o = none ∧ wipeG g2 ow = g') ∧ (b = true → ∃ w q g3, evE F e g2 = some q ∧ takeA oe q.2 q.1 = some (w, g3) ∧ o = some w ∧ wipeG g3 ow = g') := by
  unfold turnQ at h
  cases e1 : bindT t d g with
  | none => rw [e1] at h; cases h
  | some g1 =>
    rw [e1, Option.bind_some] at h
    cases e2 : evC F cs g1 with
    | none => rw [e2] at h; cases h
    | some r =>
      obtain ⟨b, g2⟩ := r
      rw [e2, Option.bind_some] at h
      refine ⟨g1, b, g2, rfl, e2, fun hb => ?_, fun hb => ?_⟩
      · subst hb
        have h : (some (none, wipeG g2 ow) : Option (Option W × Gam)) = some (o, g') := h
        cases h
        exact ⟨rfl, rfl⟩
      · subst hb
        have h : ((evE F e g2).bind fun q => (takeA oe q.2 q.1).bind fun s => (some (some s.1, wipeG s.2 ow) : Option (Option W × Gam))) = some (o, g') := h
        cases e3 : evE F e g2 with
        | none => rw [e3] at h; cases h
        | some q =>
          rw [e3, Option.bind_some] at h
          cases e4 : takeA oe q.2 q.1 with
          | none => rw [e4] at h; cases h
          | some s =>
            rw [e4] at h
            have h : (some (some s.1, wipeG s.2 ow) : Option (Option W × Gam)) = some (o, g') := h
            cases h
            exact ⟨s.1, q, s.2, rfl, e4, rfl, rfl⟩
theorem compQ_map1 {α : Type} {ow t cs oe e} (enc : α → D) (p : α → Bool) (f : α → W) {xs : List α} (h : ∀ x ∈ xs, turnQ F ow t cs oe e (enc x) g = some (if p x then some (f x) else none, g)) :
    compQ F ow t cs oe e (xs.map enc) g = some ((xs.filter p).map f, g) := by
  refine compQ_map enc p f fun x hx => ?_
  obtain ⟨g1, b, g2, e1, e2, hf, ht⟩ := turn_cases (h x hx)
  have hb : b = p x := by
    cases b with
    | false =>
      have := (hf rfl).1
      cases hp : p x with
      | false => rfl
      | true => rw [hp] at this; cases this
    | true =>
      obtain ⟨w, q, g3, _, _, q5, _⟩ := ht rfl
      cases hp : p x with
      | false => rw [hp] at q5; cases q5
      | true => rfl
  subst hb
  refine ⟨g1, g2, e1, e2, fun hp => (hf hp).2, fun hp => ?_⟩
  obtain ⟨w, q, g3, q1, q2, q3, q4⟩ := ht hp
  rw [hp] at q3
  cases q3
  exact ⟨q, g3, q1, q2, q4⟩
theorem compQ_all1 {α : Type} {ow t oe e} (enc : α → D) (f : α → W) {xs : List α} (h : ∀ x ∈ xs, turnQ F ow t .nil oe e (enc x) g = some (some (f x), g)) :
    compQ F ow t .nil oe e (xs.map enc) g = some (xs.map f, g) := by
  have := compQ_map1 (ow := ow) (t := t) (cs := .nil) (oe := oe) (e := e) (F := F) (g := g) enc (fun _ => true) f (xs := xs) h
  rw [List.filter_eq_self.mpr (by simp)] at this
  exact this
theorem compQ_inv {ow t cs oe e} {ds : List D} (I : Nat → List W → Gam → Prop) (h0 : I 0 [] g)
    (hs : ∀ i d acc g, ds[i]? = some d → I i acc g → ∃ o g', turnQ F ow t cs oe e d g = some (o, g') ∧ I (i + 1) (acc ++ o.toList) g') : ∃ acc g', compQ F ow t cs oe e ds g = some (acc, g') ∧ I ds.length acc g' := by
  refine compL_inv I h0 fun i d acc g hd hi => ?_
  obtain ⟨o, g', h, h'⟩ := hs i d acc g hd hi
  obtain ⟨g1, b, g2, e1, e2, hf, ht⟩ := turn_cases h
  refine ⟨g1, b, g2, e1, e2, fun hb => ?_, fun hb => ?_⟩
  · obtain ⟨q1, q2⟩ := hf hb
    subst q1 q2
    simpa using h'
  · obtain ⟨w, q, g3, q1, q2, q3, q4⟩ := ht hb
    subst q3 q4
    exact ⟨w, g3, by simp [q1, q2], h'⟩
theorem forQ_inv {t b} {ds : List D} (I : Nat → Gam → Prop) (h0 : I 0 g)
    (hs : ∀ i d g, ds[i]? = some d → I i g → ∃ g2, ((bindT t d g).bind fun g1 => runB F fu b g1) = some (.nx g2) ∧ I (i + 1) g2) : ∃ g', forQ F fu t b ds g = some (.nx g') ∧ I ds.length g' := by
  refine forL_inv I h0 fun i d g hd hi => ?_
  obtain ⟨g2, h, h'⟩ := hs i d g hd hi
  cases e : bindT t d g with
  | none => rw [e] at h; cases h
  | some g1 => rw [e, Option.bind_some] at h; exact ⟨g1, g2, rfl, h, h'⟩
end
/-! ### data -/
def iD (v : Int) : D := .int v
def intsL (l : List Int) : D := .lst (l.map .int)
def intsT (l : List Int) : D := .tup (l.map .int)
theorem intsOf_map : ∀ l : List Int, intsOf (l.map .int) = some l
  | [] => rfl
  | i :: l => by simp [intsOf, intsOf_map l]
theorem blsOf_map : ∀ l : List Bool, blsOf (l.map .bl) = some l
  | [] => rfl
  | i :: l => by simp [blsOf, blsOf_map l]
theorem toDs_fz : ∀ l : List D, toDs (l.map .fz) = l
  | [] => rfl
  | d :: l => by simp [toDs, W.toD, toDs_fz l]
theorem toDs_map {α : Type} (f : α → W) : ∀ l : List α, toDs (l.map f) = l.map fun x => (f x).toD
  | [] => rfl
  | d :: l => by simp [toDs, toDs_map f l]
theorem toDs_comp {α : Type} (f : α → D) : ∀ l : List α, toDs (l.map (W.fz ∘ f)) = l.map f
  | [] => rfl
  | d :: l => by simp [toDs, W.toD, toDs_comp f l]
theorem fin_c {ws : List W} {d : D} : fin ws d = cond (d.isAtom || ws.all W.flat) (some (.tmp (own d))) none := by
  unfold fin
  cases (d.isAtom || ws.all W.flat) <;> rfl
theorem fz_all {α : Type} (f : α → D) (l : List α) : (l.map fun x => W.fz (f x)).all W.isFz = true := by
  rw [List.all_eq_true]
  intro x hx
  obtain ⟨p, _, rfl⟩ := List.mem_map.mp hx
  rfl
theorem fz_all2 {α : Type} (f : α → D) (l : List α) : (l.map (W.fz ∘ f)).all W.isFz = true := fz_all f l
theorem fz_all3 (l : List D) : (l.map W.fz).all W.isFz = true := fz_all id l
theorem all_true {α : Type} (l : List α) : (l.all fun _ => true) = true := by
  rw [List.all_eq_true]
  exact fun _ _ => rfl
theorem toDs_fun {α : Type} (f : α → D) (l : List α) : toDs (l.map fun x => W.fz (f x)) = l.map f := toDs_comp f l
/-- the row that draws -/
def RowOk (w : W) : Prop := ∃ (s : List Int) (p : Nat) (seed left : Int), w = .lst [.fz (.scr s), .fz (.int p), .fz (.int seed), .fz (.int left)] ∧ -(2 ^ 64) < seed ∧ seed < 2 ^ 64
namespace K08
variable {fu n : Nat}
theorem call_eq {id : Nat} {f : Fn} {ws : List W} (h : Pm id = some f) : callF Pm fu (n + 1) id ws = runF (callF Pm fu n) fu f ws := by
  show (match Pm id with | some fn => runF (callF Pm fu n) fu fn ws | none => none) = _
  rw [h]
theorem pm_0 : Pm 0 = some f_0 := rfl
theorem pm_1 : Pm 1 = some f_1 := rfl
theorem pm_2 : Pm 2 = some f_2 := rfl
theorem pm_3 : Pm 3 = some f_3 := rfl
theorem pm_4 : Pm 4 = some f_4 := rfl
theorem pm_5 : Pm 5 = some f_5 := rfl
theorem pm_6 : Pm 6 = some f_6 := rfl
theorem pm_7 : Pm 7 = some f_7 := rfl
theorem pm_8 : Pm 8 = some f_8 := rfl
theorem pm_9 : Pm 9 = some f_9 := rfl
theorem pm_10 : Pm 10 = some f_10 := rfl
theorem pm_11 : Pm 11 = some f_11 := rfl
theorem pm_12 : Pm 12 = some f_12 := rfl
theorem pm_13 : Pm 13 = some f_13 := rfl
theorem pm_14 : Pm 14 = some f_14 := rfl
theorem pm_15 : Pm 15 = some f_15 := rfl
theorem pm_16 : Pm 16 = some f_16 := rfl
theorem pm_17 : Pm 17 = some f_17 := rfl
theorem pm_18 : Pm 18 = some f_18 := rfl
theorem pm_19 : Pm 19 = some f_19 := rfl
theorem pm_20 : Pm 20 = some f_20 := rfl
theorem pm_21 : Pm 21 = some f_21 := rfl
theorem pm_22 : Pm 22 = some f_22 := rfl
theorem pm_23 : Pm 23 = some f_23 := rfl
theorem pm_24 : Pm 24 = some f_24 := rfl
theorem pm_25 : Pm 25 = some f_25 := rfl
theorem pm_26 : Pm 26 = some f_26 := rfl
theorem pm_27 : Pm 27 = some f_27 := rfl
theorem pm_28 : Pm 28 = some f_28 := rfl
theorem pm_29 : Pm 29 = some f_29 := rfl
theorem pm_30 : Pm 30 = some f_30 := rfl
theorem pm_31 : Pm 31 = some f_31 := rfl
theorem pm_32 : Pm 32 = some f_32 := rfl
theorem pm_33 : Pm 33 = some f_33 := rfl
theorem is_int_int (v : Int) : callF Pm fu (n + 1) 0 [.fz (.int v)] = some (.fz (.bl true), []) := by
  rw [call_eq pm_0]
  simp [f_len_l, f_len_t, f_len_p, f_len_s, f_abs, f_max2, f_min2, f_sorted, f_all, f_int_i, f_int_b, f_list_l, f_list_t, f_tuple_l, f_tuple_t, f_ptuple, f_dict_p, f_lrange, d_neg, d_not, d_add_i, d_add_l, d_add_t, d_add_p, d_sub, d_mul_i, d_fdiv, d_mod, d_pow, d_eq, d_ne, d_lt_i, d_lt_t, d_le, d_gt, d_ge, d_in, d_nin, d_is_nn, d_is_in, d_is_ln, d_is_tn, d_ix_l, d_ix_t, d_ix_p, d_ix_s, d_sl_l, d_sl_t, d_sl_p, q_var, q_cst, q_glo, q_un, q_bin, q_cmp, q_chn, q_and, q_or, q_ite, q_idx, q_slc, q_tup, q_lst, q_dic, q_call, q_bf, q_isi, q_get, q_app, q_ext, q_popL, q_popA, q_comp, turn_eq, t_not, t_and, t_or, t_cmp, t_chn, t_call, t_bf, t_isi, t_var, c_nil, c_one, o_nil, o_one, l_nil, l_cons, i_val, i_rng1, i_rng2, i_enu, i_zip, s_asg, s_asgs, s_aug, s_exp, s_del, s_retF, s_retT, s_retN, s_ite, s_whl, s_for, s_brk, s_cnt, s_pass, b_nil, b_cons, w_nm, w_un, w_sub, runF, boolA, res, W.toD, W.at, W.sub, isiD, takeA, takeS, takeC, putC, frzA, frzL, takeL, stoL, ST.own, resL, iosOf, fin_c, own, -List.all_map, fz_all, fz_all2, fz_all3, D.isAtom, W.isFz, W.flat, bindT, wipeG, backG, Arg.simple, pureE, pureL, idxA, stepOf, modP, W.setAt, W.setS, setW, popW, isL, isDc, itemsOf, toDs, toDs_fz, toDs_comp, toDs_fun, all_true, eqD_int, eqD_bl, atI_nat, atI_0, atI_1, atI_2, atI_3, ixN4_0, ixN4_1, ixN4_2, ixN4_3, f_0]
theorem is_in_int (v lo hi : Int) : callF Pm fu (n + 2) 1 [.fz (.int v), .fz (.int lo), .fz (.int hi)] = some (.fz (.bl (decide (lo ≤ v) && decide (v ≤ hi))), []) := by
  rw [call_eq pm_1]
  by_cases h1 : lo ≤ v <;> by_cases h2 : v ≤ hi <;> simp [f_len_l, f_len_t, f_len_p, f_len_s, f_abs, f_max2, f_min2, f_sorted, f_all, f_int_i, f_int_b, f_list_l, f_list_t, f_tuple_l, f_tuple_t, f_ptuple, f_dict_p, f_lrange, d_neg, d_not, d_add_i, d_add_l, d_add_t, d_add_p, d_sub, d_mul_i, d_fdiv, d_mod, d_pow, d_eq, d_ne, d_lt_i, d_lt_t, d_le, d_gt, d_ge, d_in, d_nin, d_is_nn, d_is_in, d_is_ln, d_is_tn, d_ix_l, d_ix_t, d_ix_p, d_ix_s, d_sl_l, d_sl_t, d_sl_p, q_var, q_cst, q_glo, q_un, q_bin, q_cmp, q_chn, q_and, q_or, q_ite, q_idx, q_slc, q_tup, q_lst, q_dic, q_call, q_bf, q_isi, q_get, q_app, q_ext, q_popL, q_popA, q_comp, turn_eq, t_not, t_and, t_or, t_cmp, t_chn, t_call, t_bf, t_isi, t_var, c_nil, c_one, o_nil, o_one, l_nil, l_cons, i_val, i_rng1, i_rng2, i_enu, i_zip, s_asg, s_asgs, s_aug, s_exp, s_del, s_retF, s_retT, s_retN, s_ite, s_whl, s_for, s_brk, s_cnt, s_pass, b_nil, b_cons, w_nm, w_un, w_sub, runF, boolA, res, W.toD, W.at, W.sub, isiD, takeA, takeS, takeC, putC, frzA, frzL, takeL, stoL, ST.own, resL, iosOf, fin_c, own, -List.all_map, fz_all, fz_all2, fz_all3, D.isAtom, W.isFz, W.flat, bindT, wipeG, backG, Arg.simple, pureE, pureL, idxA, stepOf, modP, W.setAt, W.setS, setW, popW, isL, isDc, itemsOf, toDs, toDs_fz, toDs_comp, toDs_fun, all_true, eqD_int, eqD_bl, atI_nat, atI_0, atI_1, atI_2, atI_3, ixN4_0, ixN4_1, ixN4_2, ixN4_3, f_1, is_int_int, h1, h2]
theorem is_pair_ok {a b m : Int} (h0 : 0 ≤ a) (h1 : a < b) (h2 : b < m) : callF Pm fu (n + 3) 2 [.fz (.tup [.int a, .int b]), .fz (.int m)] = some (.fz (.bl true), []) := by
  rw [call_eq pm_2]
  have c := compQ_all (F := callF Pm fu (n + 2)) (ow := [2]) (t := .nm 2) (oe := false) (e := .call 1 [.val, .val, .val] (.cons (.var 2) (.cons (.cst (.int 0)) (.cons (.bin .sub (.var 1) (.cst (.int 1))) .nil)))) (g := [some (.fz (.tup [.int a, .int b])), some (.fz (.int m)), none]) D.int (fun v => .fz (.bl (decide (0 ≤ v) && decide (v ≤ m - 1)))) (xs := [a, b])
    fun x hx => ⟨[some (.fz (.tup [.int a, .int b])), some (.fz (.int m)), some (.fz (.int x))], (.tmp (.fz (.bl (decide (0 ≤ x) && decide (x ≤ m - 1)))), [some (.fz (.tup [.int a, .int b])), some (.fz (.int m)), some (.fz (.int x))]), [some (.fz (.tup [.int a, .int b])), some (.fz (.int m)), some (.fz (.int x))], rfl, by simp [f_len_l, f_len_t, f_len_p, f_len_s, f_abs, f_max2, f_min2, f_sorted, f_all, f_int_i, f_int_b, f_list_l, f_list_t, f_tuple_l, f_tuple_t, f_ptuple, f_dict_p, f_lrange, d_neg, d_not, d_add_i, d_add_l, d_add_t, d_add_p, d_sub, d_mul_i, d_fdiv, d_mod, d_pow, d_eq, d_ne, d_lt_i, d_lt_t, d_le, d_gt, d_ge, d_in, d_nin, d_is_nn, d_is_in, d_is_ln, d_is_tn, d_ix_l, d_ix_t, d_ix_p, d_ix_s, d_sl_l, d_sl_t, d_sl_p, q_var, q_cst, q_glo, q_un, q_bin, q_cmp, q_chn, q_and, q_or, q_ite, q_idx, q_slc, q_tup, q_lst, q_dic, q_call, q_bf, q_isi, q_get, q_app, q_ext, q_popL, q_popA, q_comp, turn_eq, t_not, t_and, t_or, t_cmp, t_chn, t_call, t_bf, t_isi, t_var, c_nil, c_one, o_nil, o_one, l_nil, l_cons, i_val, i_rng1, i_rng2, i_enu, i_zip, s_asg, s_asgs, s_aug, s_exp, s_del, s_retF, s_retT, s_retN, s_ite, s_whl, s_for, s_brk, s_cnt, s_pass, b_nil, b_cons, w_nm, w_un, w_sub, runF, boolA, res, W.toD, W.at, W.sub, isiD, takeA, takeS, takeC, putC, frzA, frzL, takeL, stoL, ST.own, resL, iosOf, fin_c, own, -List.all_map, fz_all, fz_all2, fz_all3, D.isAtom, W.isFz, W.flat, bindT, wipeG, backG, Arg.simple, pureE, pureL, idxA, stepOf, modP, W.setAt, W.setS, setW, popW, isL, isDc, itemsOf, toDs, toDs_fz, toDs_comp, toDs_fun, all_true, eqD_int, eqD_bl, atI_nat, atI_0, atI_1, atI_2, atI_3, ixN4_0, ixN4_1, ixN4_2, ixN4_3, is_in_int], by simp [f_len_l, f_len_t, f_len_p, f_len_s, f_abs, f_max2, f_min2, f_sorted, f_all, f_int_i, f_int_b, f_list_l, f_list_t, f_tuple_l, f_tuple_t, f_ptuple, f_dict_p, f_lrange, d_neg, d_not, d_add_i, d_add_l, d_add_t, d_add_p, d_sub, d_mul_i, d_fdiv, d_mod, d_pow, d_eq, d_ne, d_lt_i, d_lt_t, d_le, d_gt, d_ge, d_in, d_nin, d_is_nn, d_is_in, d_is_ln, d_is_tn, d_ix_l, d_ix_t, d_ix_p, d_ix_s, d_sl_l, d_sl_t, d_sl_p, q_var, q_cst, q_glo, q_un, q_bin, q_cmp, q_chn, q_and, q_or, q_ite, q_idx, q_slc, q_tup, q_lst, q_dic, q_call, q_bf, q_isi, q_get, q_app, q_ext, q_popL, q_popA, q_comp, turn_eq, t_not, t_and, t_or, t_cmp, t_chn, t_call, t_bf, t_isi, t_var, c_nil, c_one, o_nil, o_one, l_nil, l_cons, i_val, i_rng1, i_rng2, i_enu, i_zip, s_asg, s_asgs, s_aug, s_exp, s_del, s_retF, s_retT, s_retN, s_ite, s_whl, s_for, s_brk, s_cnt, s_pass, b_nil, b_cons, w_nm, w_un, w_sub, runF, boolA, res, W.toD, W.at, W.sub, isiD, takeA, takeS, takeC, putC, frzA, frzL, takeL, stoL, ST.own, resL, iosOf, fin_c, own, -List.all_map, fz_all, fz_all2, fz_all3, D.isAtom, W.isFz, W.flat, bindT, wipeG, backG, Arg.simple, pureE, pureL, idxA, stepOf, modP, W.setAt, W.setS, setW, popW, isL, isDc, itemsOf, toDs, toDs_fz, toDs_comp, toDs_fun, all_true, eqD_int, eqD_bl, atI_nat, atI_0, atI_1, atI_2, atI_3, ixN4_0, ixN4_1, ixN4_2, ixN4_3], by simp [f_len_l, f_len_t, f_len_p, f_len_s, f_abs, f_max2, f_min2, f_sorted, f_all, f_int_i, f_int_b, f_list_l, f_list_t, f_tuple_l, f_tuple_t, f_ptuple, f_dict_p, f_lrange, d_neg, d_not, d_add_i, d_add_l, d_add_t, d_add_p, d_sub, d_mul_i, d_fdiv, d_mod, d_pow, d_eq, d_ne, d_lt_i, d_lt_t, d_le, d_gt, d_ge, d_in, d_nin, d_is_nn, d_is_in, d_is_ln, d_is_tn, d_ix_l, d_ix_t, d_ix_p, d_ix_s, d_sl_l, d_sl_t, d_sl_p, q_var, q_cst, q_glo, q_un, q_bin, q_cmp, q_chn, q_and, q_or, q_ite, q_idx, q_slc, q_tup, q_lst, q_dic, q_call, q_bf, q_isi, q_get, q_app, q_ext, q_popL, q_popA, q_comp, turn_eq, t_not, t_and, t_or, t_cmp, t_chn, t_call, t_bf, t_isi, t_var, c_nil, c_one, o_nil, o_one, l_nil, l_cons, i_val, i_rng1, i_rng2, i_enu, i_zip, s_asg, s_asgs, s_aug, s_exp, s_del, s_retF, s_retT, s_retN, s_ite, s_whl, s_for, s_brk, s_cnt, s_pass, b_nil, b_cons, w_nm, w_un, w_sub, runF, boolA, res, W.toD, W.at, W.sub, isiD, takeA, takeS, takeC, putC, frzA, frzL, takeL, stoL, ST.own, resL, iosOf, fin_c, own, -List.all_map, fz_all, fz_all2, fz_all3, D.isAtom, W.isFz, W.flat, bindT, wipeG, backG, Arg.simple, pureE, pureL, idxA, stepOf, modP, W.setAt, W.setS, setW, popW, isL, isDc, itemsOf, toDs, toDs_fz, toDs_comp, toDs_fun, all_true, eqD_int, eqD_bl, atI_nat, atI_0, atI_1, atI_2, atI_3, ixN4_0, ixN4_1, ixN4_2, ixN4_3]⟩
  have e1 : 0 ≤ b := by omega
  have e2 : a ≤ m - 1 := by omega
  have e3 : b ≤ m - 1 := by omega
  simp [f_len_l, f_len_t, f_len_p, f_len_s, f_abs, f_max2, f_min2, f_sorted, f_all, f_int_i, f_int_b, f_list_l, f_list_t, f_tuple_l, f_tuple_t, f_ptuple, f_dict_p, f_lrange, d_neg, d_not, d_add_i, d_add_l, d_add_t, d_add_p, d_sub, d_mul_i, d_fdiv, d_mod, d_pow, d_eq, d_ne, d_lt_i, d_lt_t, d_le, d_gt, d_ge, d_in, d_nin, d_is_nn, d_is_in, d_is_ln, d_is_tn, d_ix_l, d_ix_t, d_ix_p, d_ix_s, d_sl_l, d_sl_t, d_sl_p, q_var, q_cst, q_glo, q_un, q_bin, q_cmp, q_chn, q_and, q_or, q_ite, q_idx, q_slc, q_tup, q_lst, q_dic, q_call, q_bf, q_isi, q_get, q_app, q_ext, q_popL, q_popA, q_comp, turn_eq, t_not, t_and, t_or, t_cmp, t_chn, t_call, t_bf, t_isi, t_var, c_nil, c_one, o_nil, o_one, l_nil, l_cons, i_val, i_rng1, i_rng2, i_enu, i_zip, s_asg, s_asgs, s_aug, s_exp, s_del, s_retF, s_retT, s_retN, s_ite, s_whl, s_for, s_brk, s_cnt, s_pass, b_nil, b_cons, w_nm, w_un, w_sub, runF, boolA, res, W.toD, W.at, W.sub, isiD, takeA, takeS, takeC, putC, frzA, frzL, takeL, stoL, ST.own, resL, iosOf, fin_c, own, -List.all_map, fz_all, fz_all2, fz_all3, D.isAtom, W.isFz, W.flat, bindT, wipeG, backG, Arg.simple, pureE, pureL, idxA, stepOf, modP, W.setAt, W.setS, setW, popW, isL, isDc, itemsOf, toDs, toDs_fz, toDs_comp, toDs_fun, all_true, eqD_int, eqD_bl, atI_nat, atI_0, atI_1, atI_2, atI_3, ixN4_0, ixN4_1, ixN4_2, ixN4_3] at c
  simp [f_len_l, f_len_t, f_len_p, f_len_s, f_abs, f_max2, f_min2, f_sorted, f_all, f_int_i, f_int_b, f_list_l, f_list_t, f_tuple_l, f_tuple_t, f_ptuple, f_dict_p, f_lrange, d_neg, d_not, d_add_i, d_add_l, d_add_t, d_add_p, d_sub, d_mul_i, d_fdiv, d_mod, d_pow, d_eq, d_ne, d_lt_i, d_lt_t, d_le, d_gt, d_ge, d_in, d_nin, d_is_nn, d_is_in, d_is_ln, d_is_tn, d_ix_l, d_ix_t, d_ix_p, d_ix_s, d_sl_l, d_sl_t, d_sl_p, q_var, q_cst, q_glo, q_un, q_bin, q_cmp, q_chn, q_and, q_or, q_ite, q_idx, q_slc, q_tup, q_lst, q_dic, q_call, q_bf, q_isi, q_get, q_app, q_ext, q_popL, q_popA, q_comp, turn_eq, t_not, t_and, t_or, t_cmp, t_chn, t_call, t_bf, t_isi, t_var, c_nil, c_one, o_nil, o_one, l_nil, l_cons, i_val, i_rng1, i_rng2, i_enu, i_zip, s_asg, s_asgs, s_aug, s_exp, s_del, s_retF, s_retT, s_retN, s_ite, s_whl, s_for, s_brk, s_cnt, s_pass, b_nil, b_cons, w_nm, w_un, w_sub, runF, boolA, res, W.toD, W.at, W.sub, isiD, takeA, takeS, takeC, putC, frzA, frzL, takeL, stoL, ST.own, resL, iosOf, fin_c, own, -List.all_map, fz_all, fz_all2, fz_all3, D.isAtom, W.isFz, W.flat, bindT, wipeG, backG, Arg.simple, pureE, pureL, idxA, stepOf, modP, W.setAt, W.setS, setW, popW, isL, isDc, itemsOf, toDs, toDs_fz, toDs_comp, toDs_fun, all_true, eqD_int, eqD_bl, atI_nat, atI_0, atI_1, atI_2, atI_3, ixN4_0, ixN4_1, ixN4_2, ixN4_3, f_2, slk_ok, c, eqD_int, blsOf, h0, h1, e1, e2, e3]
end K08
end PF
end

section
set_option Elab.async false
set_option linter.all false
set_option maxRecDepth 100000
set_option maxHeartbeats 2000000
namespace PF
open PySem L2
namespace K08
variable {fu n : Nat}
theorem p18 : absLe 18 1000000 = true := by decide
theorem fmod_seed (x : Int) : -(2 ^ 64) < x.fmod 2147483647 ∧ x.fmod 2147483647 < 2 ^ 64 := by
  have h1 := Int.fmod_nonneg_of_pos x (b := 2147483647) (by omega)
  have h2 := Int.fmod_lt_of_pos x (b := 2147483647) (by omega)
  omega
theorem taken_ok {w : W} (h : RowOk w) {m : Int} (h1 : 1 ≤ m) (h2 : m < 1073741824) : ∃ r w', callF Pm fu (n + 1) 18 [w, .fz (.int m)] = some (.fz (.int r), [w']) ∧ 0 ≤ r ∧ r < m ∧ RowOk w' := by
  obtain ⟨s, p, seed, left, rfl, s1, s2⟩ := h
  have m0 : ¬ m = 0 := by omega
  have mA : m.natAbs < 1073741824 := by omega
  have sm : small64 48271 = true := by decide
  rw [call_eq pm_18]
  by_cases c1 : 0 < left
  · refine ⟨left.fmod m, .lst [.fz (.scr s), .fz (.int p), .fz (.int seed), .fz (.int (left.fdiv m))], ?_, Int.fmod_nonneg_of_pos _ (by omega), Int.fmod_lt_of_pos _ (by omega), s, p, seed, _, rfl, s1, s2⟩
    simp [f_len_l, f_len_t, f_len_p, f_len_s, f_abs, f_max2, f_min2, f_sorted, f_all, f_int_i, f_int_b, f_list_l, f_list_t, f_tuple_l, f_tuple_t, f_ptuple, f_dict_p, f_lrange, d_neg, d_not, d_add_i, d_add_l, d_add_t, d_add_p, d_sub, d_mul_i, d_fdiv, d_mod, d_pow, d_eq, d_ne, d_lt_i, d_lt_t, d_le, d_gt, d_ge, d_in, d_nin, d_is_nn, d_is_in, d_is_ln, d_is_tn, d_ix_l, d_ix_t, d_ix_p, d_ix_s, d_sl_l, d_sl_t, d_sl_p, q_var, q_cst, q_glo, q_un, q_bin, q_cmp, q_chn, q_and, q_or, q_ite, q_idx, q_slc, q_tup, q_lst, q_dic, q_call, q_bf, q_isi, q_get, q_app, q_ext, q_popL, q_popA, q_comp, turn_eq, t_not, t_and, t_or, t_cmp, t_chn, t_call, t_bf, t_isi, t_var, c_nil, c_one, o_nil, o_one, l_nil, l_cons, i_val, i_rng1, i_rng2, i_enu, i_zip, s_asg, s_asgs, s_aug, s_exp, s_del, s_retF, s_retT, s_retN, s_ite, s_whl, s_for, s_brk, s_cnt, s_pass, b_nil, b_cons, w_nm, w_un, w_sub, runF, boolA, res, W.toD, W.at, W.sub, isiD, takeA, takeS, takeC, putC, frzA, frzL, takeL, stoL, ST.own, resL, iosOf, fin_c, own, -List.all_map, fz_all, fz_all2, fz_all3, D.isAtom, W.isFz, W.flat, bindT, wipeG, backG, Arg.simple, pureE, pureL, idxA, stepOf, modP, W.setAt, W.setS, setW, popW, isL, isDc, itemsOf, toDs, toDs_fz, toDs_comp, toDs_fun, all_true, eqD_int, eqD_bl, atI_nat, atI_0, atI_1, atI_2, atI_3, ixN4_0, ixN4_1, ixN4_2, ixN4_3, f_18, c1, m0, mA]
  · by_cases c2 : (s.length : Int) < (p : Int) + 1
    · refine ⟨(((seed * 48271 + 11).fmod 2147483647).fdiv 7).fmod m, .lst [.fz (.scr s), .fz (.int ((p + 1 : Nat) : Int)), .fz (.int ((seed * 48271 + 11).fmod 2147483647)), .fz (.int left)], ?_, Int.fmod_nonneg_of_pos _ (by omega), Int.fmod_lt_of_pos _ (by omega), s, p + 1, _, left, rfl, (fmod_seed _).1, (fmod_seed _).2⟩
      simp [f_len_l, f_len_t, f_len_p, f_len_s, f_abs, f_max2, f_min2, f_sorted, f_all, f_int_i, f_int_b, f_list_l, f_list_t, f_tuple_l, f_tuple_t, f_ptuple, f_dict_p, f_lrange, d_neg, d_not, d_add_i, d_add_l, d_add_t, d_add_p, d_sub, d_mul_i, d_fdiv, d_mod, d_pow, d_eq, d_ne, d_lt_i, d_lt_t, d_le, d_gt, d_ge, d_in, d_nin, d_is_nn, d_is_in, d_is_ln, d_is_tn, d_ix_l, d_ix_t, d_ix_p, d_ix_s, d_sl_l, d_sl_t, d_sl_p, q_var, q_cst, q_glo, q_un, q_bin, q_cmp, q_chn, q_and, q_or, q_ite, q_idx, q_slc, q_tup, q_lst, q_dic, q_call, q_bf, q_isi, q_get, q_app, q_ext, q_popL, q_popA, q_comp, turn_eq, t_not, t_and, t_or, t_cmp, t_chn, t_call, t_bf, t_isi, t_var, c_nil, c_one, o_nil, o_one, l_nil, l_cons, i_val, i_rng1, i_rng2, i_enu, i_zip, s_asg, s_asgs, s_aug, s_exp, s_del, s_retF, s_retT, s_retN, s_ite, s_whl, s_for, s_brk, s_cnt, s_pass, b_nil, b_cons, w_nm, w_un, w_sub, runF, boolA, res, W.toD, W.at, W.sub, isiD, takeA, takeS, takeC, putC, frzA, frzL, takeL, stoL, ST.own, resL, iosOf, fin_c, own, -List.all_map, fz_all, fz_all2, fz_all3, D.isAtom, W.isFz, W.flat, bindT, wipeG, backG, Arg.simple, pureE, pureL, idxA, stepOf, modP, W.setAt, W.setS, setW, popW, isL, isDc, itemsOf, toDs, toDs_fz, toDs_comp, toDs_fun, all_true, eqD_int, eqD_bl, atI_nat, atI_0, atI_1, atI_2, atI_3, ixN4_0, ixN4_1, ixN4_2, ixN4_3, f_18, c1, m0, mA, c2, sm]
    · have hp : p < s.length := by omega
      have e1 : (p : Int) + 1 - 1 = (p : Int) := by omega
      by_cases c3 : (10 : Int) ^ 18 ≤ s[p]
      · refine ⟨s[p].fmod m, .lst [.fz (.scr s), .fz (.int ((p + 1 : Nat) : Int)), .fz (.int ((seed * 48271 + s[p] + 11).fmod 2147483647)), .fz (.int (s[p].fdiv m))], ?_, Int.fmod_nonneg_of_pos _ (by omega), Int.fmod_lt_of_pos _ (by omega), s, p + 1, _, _, rfl, (fmod_seed _).1, (fmod_seed _).2⟩
        simp at c3
        simp [f_len_l, f_len_t, f_len_p, f_len_s, f_abs, f_max2, f_min2, f_sorted, f_all, f_int_i, f_int_b, f_list_l, f_list_t, f_tuple_l, f_tuple_t, f_ptuple, f_dict_p, f_lrange, d_neg, d_not, d_add_i, d_add_l, d_add_t, d_add_p, d_sub, d_mul_i, d_fdiv, d_mod, d_pow, d_eq, d_ne, d_lt_i, d_lt_t, d_le, d_gt, d_ge, d_in, d_nin, d_is_nn, d_is_in, d_is_ln, d_is_tn, d_ix_l, d_ix_t, d_ix_p, d_ix_s, d_sl_l, d_sl_t, d_sl_p, q_var, q_cst, q_glo, q_un, q_bin, q_cmp, q_chn, q_and, q_or, q_ite, q_idx, q_slc, q_tup, q_lst, q_dic, q_call, q_bf, q_isi, q_get, q_app, q_ext, q_popL, q_popA, q_comp, turn_eq, t_not, t_and, t_or, t_cmp, t_chn, t_call, t_bf, t_isi, t_var, c_nil, c_one, o_nil, o_one, l_nil, l_cons, i_val, i_rng1, i_rng2, i_enu, i_zip, s_asg, s_asgs, s_aug, s_exp, s_del, s_retF, s_retT, s_retN, s_ite, s_whl, s_for, s_brk, s_cnt, s_pass, b_nil, b_cons, w_nm, w_un, w_sub, runF, boolA, res, W.toD, W.at, W.sub, isiD, takeA, takeS, takeC, putC, frzA, frzL, takeL, stoL, ST.own, resL, iosOf, fin_c, own, -List.all_map, fz_all, fz_all2, fz_all3, D.isAtom, W.isFz, W.flat, bindT, wipeG, backG, Arg.simple, pureE, pureL, idxA, stepOf, modP, W.setAt, W.setS, setW, popW, isL, isDc, itemsOf, toDs, toDs_fz, toDs_comp, toDs_fun, all_true, eqD_int, eqD_bl, atI_nat, atI_0, atI_1, atI_2, atI_3, ixN4_0, ixN4_1, ixN4_2, ixN4_3, f_18, c1, m0, mA, c2, sm, p18, e1, hp, c3]
      · refine ⟨s[p].fmod m, .lst [.fz (.scr s), .fz (.int ((p + 1 : Nat) : Int)), .fz (.int ((seed * 48271 + s[p] + 11).fmod 2147483647)), .fz (.int left)], ?_, Int.fmod_nonneg_of_pos _ (by omega), Int.fmod_lt_of_pos _ (by omega), s, p + 1, _, _, rfl, (fmod_seed _).1, (fmod_seed _).2⟩
        have c3' : ¬ (1000000000000000000 : Int) ≤ s[p] := by simpa using c3
        simp [f_len_l, f_len_t, f_len_p, f_len_s, f_abs, f_max2, f_min2, f_sorted, f_all, f_int_i, f_int_b, f_list_l, f_list_t, f_tuple_l, f_tuple_t, f_ptuple, f_dict_p, f_lrange, d_neg, d_not, d_add_i, d_add_l, d_add_t, d_add_p, d_sub, d_mul_i, d_fdiv, d_mod, d_pow, d_eq, d_ne, d_lt_i, d_lt_t, d_le, d_gt, d_ge, d_in, d_nin, d_is_nn, d_is_in, d_is_ln, d_is_tn, d_ix_l, d_ix_t, d_ix_p, d_ix_s, d_sl_l, d_sl_t, d_sl_p, q_var, q_cst, q_glo, q_un, q_bin, q_cmp, q_chn, q_and, q_or, q_ite, q_idx, q_slc, q_tup, q_lst, q_dic, q_call, q_bf, q_isi, q_get, q_app, q_ext, q_popL, q_popA, q_comp, turn_eq, t_not, t_and, t_or, t_cmp, t_chn, t_call, t_bf, t_isi, t_var, c_nil, c_one, o_nil, o_one, l_nil, l_cons, i_val, i_rng1, i_rng2, i_enu, i_zip, s_asg, s_asgs, s_aug, s_exp, s_del, s_retF, s_retT, s_retN, s_ite, s_whl, s_for, s_brk, s_cnt, s_pass, b_nil, b_cons, w_nm, w_un, w_sub, runF, boolA, res, W.toD, W.at, W.sub, isiD, takeA, takeS, takeC, putC, frzA, frzL, takeL, stoL, ST.own, resL, iosOf, fin_c, own, -List.all_map, fz_all, fz_all2, fz_all3, D.isAtom, W.isFz, W.flat, bindT, wipeG, backG, Arg.simple, pureE, pureL, idxA, stepOf, modP, W.setAt, W.setS, setW, popW, isL, isDc, itemsOf, toDs, toDs_fz, toDs_comp, toDs_fun, all_true, eqD_int, eqD_bl, atI_nat, atI_0, atI_1, atI_2, atI_3, ixN4_0, ixN4_1, ixN4_2, ixN4_3, f_18, c1, m0, mA, c2, sm, p18, e1, hp, c3']
/-- .. as a Nat -/
theorem taken_nat {w : W} (h : RowOk w) {m : Nat} (h1 : 1 ≤ m) (h2 : m < 1073741824) : ∃ r w', callF Pm fu (n + 1) 18 [w, .fz (.int (m : Nat))] = some (.fz (.int (r : Nat)), [w']) ∧ r < m ∧ RowOk w' := by
  obtain ⟨r, w', e, a, b, c⟩ := taken_ok (fu := fu) (n := n) h (m := (m : Int)) (by omega) (by omega)
  obtain ⟨k, rfl⟩ := Int.eq_ofNat_of_zero_le a
  exact ⟨k, w', e, by omega, c⟩
theorem pick_ok {w : W} (h : RowOk w) {ds : List D} (h1 : ds ≠ []) (h2 : ds.length < 1073741824) : ∃ d w', callF Pm fu (n + 2) 19 [w, .fz (.lst ds)] = some (.fz d, [w']) ∧ d ∈ ds ∧ RowOk w' := by
  have hl : 1 ≤ ds.length := by
    cases ds with
    | nil => exact absurd rfl h1
    | cons _ _ => simp
  obtain ⟨r, w', e, hr, hw⟩ := taken_nat (fu := fu) (n := n) h hl h2
  refine ⟨ds[r], w', ?_, List.getElem_mem _, hw⟩
  rw [call_eq pm_19]
  simp [f_len_l, f_len_t, f_len_p, f_len_s, f_abs, f_max2, f_min2, f_sorted, f_all, f_int_i, f_int_b, f_list_l, f_list_t, f_tuple_l, f_tuple_t, f_ptuple, f_dict_p, f_lrange, d_neg, d_not, d_add_i, d_add_l, d_add_t, d_add_p, d_sub, d_mul_i, d_fdiv, d_mod, d_pow, d_eq, d_ne, d_lt_i, d_lt_t, d_le, d_gt, d_ge, d_in, d_nin, d_is_nn, d_is_in, d_is_ln, d_is_tn, d_ix_l, d_ix_t, d_ix_p, d_ix_s, d_sl_l, d_sl_t, d_sl_p, q_var, q_cst, q_glo, q_un, q_bin, q_cmp, q_chn, q_and, q_or, q_ite, q_idx, q_slc, q_tup, q_lst, q_dic, q_call, q_bf, q_isi, q_get, q_app, q_ext, q_popL, q_popA, q_comp, turn_eq, t_not, t_and, t_or, t_cmp, t_chn, t_call, t_bf, t_isi, t_var, c_nil, c_one, o_nil, o_one, l_nil, l_cons, i_val, i_rng1, i_rng2, i_enu, i_zip, s_asg, s_asgs, s_aug, s_exp, s_del, s_retF, s_retT, s_retN, s_ite, s_whl, s_for, s_brk, s_cnt, s_pass, b_nil, b_cons, w_nm, w_un, w_sub, runF, boolA, res, W.toD, W.at, W.sub, isiD, takeA, takeS, takeC, putC, frzA, frzL, takeL, stoL, ST.own, resL, iosOf, fin_c, own, -List.all_map, fz_all, fz_all2, fz_all3, D.isAtom, W.isFz, W.flat, bindT, wipeG, backG, Arg.simple, pureE, pureL, idxA, stepOf, modP, W.setAt, W.setS, setW, popW, isL, isDc, itemsOf, toDs, toDs_fz, toDs_comp, toDs_fun, all_true, eqD_int, eqD_bl, atI_nat, atI_0, atI_1, atI_2, atI_3, ixN4_0, ixN4_1, ixN4_2, ixN4_3, f_19, e, hr]
end K08
end PF
end

section
set_option Elab.async false
set_option linter.all false
set_option maxRecDepth 100000
set_option maxHeartbeats 2000000
namespace PF
open PySem L2
namespace K08
variable {fu n : Nat}
/-- mixed: the items in another order -/
theorem perm_erase {α : Type} {l : List α} {r : Nat} (hr : r < l.length) : ([l[r]] ++ l.eraseIdx r).Perm l := by
  induction l generalizing r with
  | nil => cases hr
  | cons a l ih =>
    cases r with
    | zero => exact .refl _
    | succ r =>
      have := ih (r := r) (by simpa using hr)
      exact (List.Perm.swap _ _ _).trans (this.cons a)
theorem map_erase {α β : Type} (f : α → β) : ∀ (l : List α) (r : Nat), (l.map f).eraseIdx r = (l.eraseIdx r).map f
  | [], _ => by simp
  | _ :: _, 0 => rfl
  | a :: l, r + 1 => by
    show f a :: (l.map f).eraseIdx r = f a :: (l.eraseIdx r).map f
    rw [map_erase f l r]
theorem mixed_ok {w : W} (h : RowOk w) {ds : List D} (h2 : ds.length ≤ 1000) : ∃ es w', callF Pm fu (n + 2) 21 [w, .fz (.lst ds)] = some (.fz (.lst es), [w']) ∧ es.Perm ds ∧ RowOk w' := by
  have lp : ∃ (w' : W) (x : Option W) (es : List D), forQ (callF Pm fu (n + 1)) fu (.nm 2) (.cons (.exp (.app false (.var 4) (.popA (.var 3) (.call 18 [.io, .val] (.cons (.var 0) (.cons (.bf .len (.cons (.var 3) .nil)) .nil)))))) .nil) ((List.range ds.length).map fun i => D.int (i : Nat)) [some w, some (.fz (.lst ds)), none, some (.lst (ds.map .fz)), some (.lst [])] = some (.nx [some w', some (.fz (.lst ds)), x, some (.lst []), some (.lst (es.map .fz))]) ∧ RowOk w' ∧ es.Perm ds := by
    have step : ∀ i d g, ((List.range ds.length).map fun i => D.int (i : Nat))[i]? = some d → (∃ (w' : W) (x : Option W) (left es : List D), g = [some w', some (.fz (.lst ds)), x, some (.lst (left.map .fz)), some (.lst (es.map .fz))] ∧ RowOk w' ∧ left.length = ds.length - i ∧ (es ++ left).Perm ds) →
        ∃ g1 g2, bindT (.nm 2) d g = some g1 ∧ runB (callF Pm fu (n + 1)) fu (.cons (.exp (.app false (.var 4) (.popA (.var 3) (.call 18 [.io, .val] (.cons (.var 0) (.cons (.bf .len (.cons (.var 3) .nil)) .nil)))))) .nil) g1 = some (.nx g2) ∧
          ∃ (w' : W) (x : Option W) (left es : List D), g2 = [some w', some (.fz (.lst ds)), x, some (.lst (left.map .fz)), some (.lst (es.map .fz))] ∧ RowOk w' ∧ left.length = ds.length - (i + 1) ∧ (es ++ left).Perm ds := by
      rintro i d g hd ⟨w', x, left, es, rfl, hw, hl, hp⟩
      have hi : i < ds.length := by
        have := (List.getElem?_eq_some_iff.mp hd).1
        simpa using this
      obtain ⟨r, w2, e, hr, hw2⟩ := taken_nat (fu := fu) (n := n) hw (m := left.length) (by omega) (by omega)
      have hs : seqIndex? (r : Int) left.length = some r := (L2.ixN_seq (ixN_nat hr)).1
      have hz : es.length ≤ 1000 := by
        have := hp.length_eq
        simp at this
        omega
      have b1 : (-9223372036854775808 : Int) ≤ (r : Int) := by omega
      have b2 : (r : Int) < 9223372036854775808 := by omega
      refine ⟨[some w', some (.fz (.lst ds)), some (.fz d), some (.lst (left.map .fz)), some (.lst (es.map .fz))], [some w2, some (.fz (.lst ds)), some (.fz d), some (.lst ((left.eraseIdx r).map .fz)), some (.lst ((es ++ [left[r]]).map .fz))], by simp [f_len_l, f_len_t, f_len_p, f_len_s, f_abs, f_max2, f_min2, f_sorted, f_all, f_int_i, f_int_b, f_list_l, f_list_t, f_tuple_l, f_tuple_t, f_ptuple, f_dict_p, f_lrange, d_neg, d_not, d_add_i, d_add_l, d_add_t, d_add_p, d_sub, d_mul_i, d_fdiv, d_mod, d_pow, d_eq, d_ne, d_lt_i, d_lt_t, d_le, d_gt, d_ge, d_in, d_nin, d_is_nn, d_is_in, d_is_ln, d_is_tn, d_ix_l, d_ix_t, d_ix_p, d_ix_s, d_sl_l, d_sl_t, d_sl_p, q_var, q_cst, q_glo, q_un, q_bin, q_cmp, q_chn, q_and, q_or, q_ite, q_idx, q_slc, q_tup, q_lst, q_dic, q_call, q_bf, q_isi, q_get, q_app, q_ext, q_popL, q_popA, q_comp, turn_eq, t_not, t_and, t_or, t_cmp, t_chn, t_call, t_bf, t_isi, t_var, c_nil, c_one, o_nil, o_one, l_nil, l_cons, i_val, i_rng1, i_rng2, i_enu, i_zip, s_asg, s_asgs, s_aug, s_exp, s_del, s_retF, s_retT, s_retN, s_ite, s_whl, s_for, s_brk, s_cnt, s_pass, b_nil, b_cons, w_nm, w_un, w_sub, runF, boolA, res, W.toD, W.at, W.sub, isiD, takeA, takeS, takeC, putC, frzA, frzL, takeL, stoL, ST.own, resL, iosOf, fin_c, own, -List.all_map, fz_all, fz_all2, fz_all3, D.isAtom, W.isFz, W.flat, bindT, wipeG, backG, Arg.simple, pureE, pureL, idxA, stepOf, modP, W.setAt, W.setS, setW, popW, isL, isDc, itemsOf, toDs, toDs_fz, toDs_comp, toDs_fun, all_true, eqD_int, eqD_bl, atI_nat, atI_0, atI_1, atI_2, atI_3, ixN4_0, ixN4_1, ixN4_2, ixN4_3], ?_, w2, some (.fz d), left.eraseIdx r, es ++ [left[r]], rfl, hw2, ?_, ?_⟩
      · have hr' : r < (left.map W.fz).length := by simpa using hr
        have pp := pop_nat hr' (by simp; omega)
        have aa := app_ok (y := .fz left[r]) (ws := es.map .fz) (by simp; omega)
        rw [List.getElem_map, map_erase] at pp
        simp [f_len_l, f_len_t, f_len_p, f_len_s, f_abs, f_max2, f_min2, f_sorted, f_all, f_int_i, f_int_b, f_list_l, f_list_t, f_tuple_l, f_tuple_t, f_ptuple, f_dict_p, f_lrange, d_neg, d_not, d_add_i, d_add_l, d_add_t, d_add_p, d_sub, d_mul_i, d_fdiv, d_mod, d_pow, d_eq, d_ne, d_lt_i, d_lt_t, d_le, d_gt, d_ge, d_in, d_nin, d_is_nn, d_is_in, d_is_ln, d_is_tn, d_ix_l, d_ix_t, d_ix_p, d_ix_s, d_sl_l, d_sl_t, d_sl_p, q_var, q_cst, q_glo, q_un, q_bin, q_cmp, q_chn, q_and, q_or, q_ite, q_idx, q_slc, q_tup, q_lst, q_dic, q_call, q_bf, q_isi, q_get, q_app, q_ext, q_popL, q_popA, q_comp, turn_eq, t_not, t_and, t_or, t_cmp, t_chn, t_call, t_bf, t_isi, t_var, c_nil, c_one, o_nil, o_one, l_nil, l_cons, i_val, i_rng1, i_rng2, i_enu, i_zip, s_asg, s_asgs, s_aug, s_exp, s_del, s_retF, s_retT, s_retN, s_ite, s_whl, s_for, s_brk, s_cnt, s_pass, b_nil, b_cons, w_nm, w_un, w_sub, runF, boolA, res, W.toD, W.at, W.sub, isiD, takeA, takeS, takeC, putC, frzA, frzL, takeL, stoL, ST.own, resL, iosOf, fin_c, own, -List.all_map, fz_all, fz_all2, fz_all3, D.isAtom, W.isFz, W.flat, bindT, wipeG, backG, Arg.simple, pureE, pureL, idxA, stepOf, modP, W.setAt, W.setS, setW, popW, isL, isDc, itemsOf, toDs, toDs_fz, toDs_comp, toDs_fun, all_true, eqD_int, eqD_bl, atI_nat, atI_0, atI_1, atI_2, atI_3, ixN4_0, ixN4_1, ixN4_2, ixN4_3, e, pp, aa]
      · rw [List.length_eraseIdx_of_lt hr]; omega
      · refine List.Perm.trans ?_ hp
        rw [List.append_assoc]
        refine List.Perm.append_left es ?_
        exact perm_erase hr
    obtain ⟨g', e, w', x, left, es, e2, hw, hl, hp⟩ := forL_inv (bind := fun d g => bindT (.nm 2) d g) (body := fun g => runB (callF Pm fu (n + 1)) fu (.cons (.exp (.app false (.var 4) (.popA (.var 3) (.call 18 [.io, .val] (.cons (.var 0) (.cons (.bf .len (.cons (.var 3) .nil)) .nil)))))) .nil) g) (ds := (List.range ds.length).map fun i => D.int (i : Nat))
      (g := [some w, some (.fz (.lst ds)), none, some (.lst (ds.map .fz)), some (.lst [])])
      (fun i g => ∃ (w' : W) (x : Option W) (left es : List D), g = [some w', some (.fz (.lst ds)), x, some (.lst (left.map .fz)), some (.lst (es.map .fz))] ∧ RowOk w' ∧ left.length = ds.length - i ∧ (es ++ left).Perm ds)
      ⟨w, none, ds, [], rfl, h, by simp, by simp⟩ step
    have hz : left = [] := by
      rw [List.length_map, List.length_range] at hl
      exact List.length_eq_zero_iff.mp (by omega)
    subst hz e2
    exact ⟨w', x, es, e, hw, by simpa using hp⟩
  obtain ⟨w', x, es, e, hw, hp⟩ := lp
  refine ⟨es, w', ?_, hp, hw⟩
  rw [call_eq pm_21]
  have rr := rng_nat (k := ds.length) (by omega)
  simp [f_len_l, f_len_t, f_len_p, f_len_s, f_abs, f_max2, f_min2, f_sorted, f_all, f_int_i, f_int_b, f_list_l, f_list_t, f_tuple_l, f_tuple_t, f_ptuple, f_dict_p, f_lrange, d_neg, d_not, d_add_i, d_add_l, d_add_t, d_add_p, d_sub, d_mul_i, d_fdiv, d_mod, d_pow, d_eq, d_ne, d_lt_i, d_lt_t, d_le, d_gt, d_ge, d_in, d_nin, d_is_nn, d_is_in, d_is_ln, d_is_tn, d_ix_l, d_ix_t, d_ix_p, d_ix_s, d_sl_l, d_sl_t, d_sl_p, q_var, q_cst, q_glo, q_un, q_bin, q_cmp, q_chn, q_and, q_or, q_ite, q_idx, q_slc, q_tup, q_lst, q_dic, q_call, q_bf, q_isi, q_get, q_app, q_ext, q_popL, q_popA, q_comp, turn_eq, t_not, t_and, t_or, t_cmp, t_chn, t_call, t_bf, t_isi, t_var, c_nil, c_one, o_nil, o_one, l_nil, l_cons, i_val, i_rng1, i_rng2, i_enu, i_zip, s_asg, s_asgs, s_aug, s_exp, s_del, s_retF, s_retT, s_retN, s_ite, s_whl, s_for, s_brk, s_cnt, s_pass, b_nil, b_cons, w_nm, w_un, w_sub, runF, boolA, res, W.toD, W.at, W.sub, isiD, takeA, takeS, takeC, putC, frzA, frzL, takeL, stoL, ST.own, resL, iosOf, fin_c, own, -List.all_map, fz_all, fz_all2, fz_all3, D.isAtom, W.isFz, W.flat, bindT, wipeG, backG, Arg.simple, pureE, pureL, idxA, stepOf, modP, W.setAt, W.setS, setW, popW, isL, isDc, itemsOf, toDs, toDs_fz, toDs_comp, toDs_fun, all_true, eqD_int, eqD_bl, atI_nat, atI_0, atI_1, atI_2, atI_3, ixN4_0, ixN4_1, ixN4_2, ixN4_3, f_21, e, rr, slk_ok]
end K08
end PF
end

section
set_option Elab.async false
set_option linter.all false
set_option maxRecDepth 100000
set_option maxHeartbeats 1000000
/-! Graph distances, plain -/
namespace PF
def Adj (es : List (Nat × Nat)) (u v : Nat) : Prop := (u, v) ∈ es ∨ (v, u) ∈ es
theorem Adj.symm {es : List (Nat × Nat)} {u v : Nat} (h : Adj es u v) : Adj es v u := h.elim .inr .inl
/-- a web of n places: its hedges in range, no loop -/
structure Rng (n : Nat) (es : List (Nat × Nat)) : Prop where
  lt : ∀ p ∈ es, p.1 < p.2 ∧ p.2 < n
theorem Rng.adj {n : Nat} {es : List (Nat × Nat)} (r : Rng n es) {u v : Nat} (h : Adj es u v) : u < n ∧ v < n := by
  rcases h with h | h
  · have a : u < v := (r.lt _ h).1
    have b : v < n := (r.lt _ h).2
    exact ⟨by omega, b⟩
  · have a : v < u := (r.lt _ h).1
    have b : u < n := (r.lt _ h).2
    exact ⟨b, by omega⟩
theorem Rng.ne {n : Nat} {es : List (Nat × Nat)} (r : Rng n es) {u v : Nat} (h : Adj es u v) : u ≠ v := by
  rcases h with h | h
  · have := (r.lt _ h).1
    simp at this
    omega
  · have := (r.lt _ h).1
    simp at this
    omega
inductive Reach (es : List (Nat × Nat)) (s : Nat) : Nat → Prop where
  | here : Reach es s s
  | step {u v : Nat} : Reach es s u → Adj es u v → Reach es s v
theorem Reach.trans {es : List (Nat × Nat)} {a b c : Nat} (h : Reach es a b) (k : Reach es b c) : Reach es a c := by
  induction k with
  | here => exact h
  | step _ a ih => exact .step ih a
theorem Reach.symm {es : List (Nat × Nat)} {a b : Nat} (h : Reach es a b) : Reach es b a := by
  induction h with
  | here => exact .here
  | step _ a ih => exact (Reach.step .here a.symm).trans ih
def Conn (n : Nat) (es : List (Nat × Nat)) : Prop := ∀ v, v < n → Reach es 0 v
theorem Conn.all {n : Nat} {es : List (Nat × Nat)} (c : Conn n es) {s v : Nat} (hs : s < n) (hv : v < n) : Reach es s v := (c s hs).symm.trans (c v hv)
/-- d tells the distances from s -/
structure IsDist (n : Nat) (es : List (Nat × Nat)) (s : Nat) (d : List Nat) : Prop where
  len : d.length = n
  lt : s < n
  src : d.getD s 0 = 0
  step : ∀ u v, Adj es u v → d.getD v 0 ≤ d.getD u 0 + 1
  back : ∀ v, v < n → v ≠ s → ∃ u, Adj es u v ∧ d.getD v 0 = d.getD u 0 + 1
section
variable {n : Nat} {es : List (Nat × Nat)} {s : Nat} {d d' : List Nat}
theorem IsDist.zero (h : IsDist n es s d) {v : Nat} (hv : v < n) (e : d.getD v 0 = 0) : v = s := by
  apply Classical.byContradiction
  intro ne
  obtain ⟨u, _, q⟩ := h.back v hv ne
  omega
theorem IsDist.le (r : Rng n es) (h : IsDist n es s d) (h' : IsDist n es s d') : ∀ k v, v < n → d.getD v 0 = k → d'.getD v 0 ≤ k := by
  intro k
  induction k with
  | zero =>
    intro v hv e
    rw [h.zero hv e, h'.src]
    exact Nat.le_refl _
  | succ k ih =>
    intro v hv e
    have ne : v ≠ s := fun q => by rw [q, h.src] at e; cases e
    obtain ⟨u, a, q⟩ := h.back v hv ne
    have := ih u (r.adj a).1 (by omega)
    have := h'.step u v a
    omega
theorem IsDist.uniq (r : Rng n es) (h : IsDist n es s d) (h' : IsDist n es s d') : d = d' := by
  apply List.ext_getElem (h.len.trans h'.len.symm)
  intro i h1 h2
  have hi : i < n := by rw [← h.len]; exact h1
  have a := IsDist.le r h h' _ i hi rfl
  have b := IsDist.le r h' h _ i hi rfl
  have e1 : d.getD i 0 = d[i] := by simp [h1]
  have e2 : d'.getD i 0 = d'[i] := by simp [h2]
  omega
theorem IsDist.bound (r : Rng n es) (h : IsDist n es s d) : ∀ k v, v < n → d.getD v 0 = k → ∃ l : List Nat, l.length = k + 1 ∧ l.Nodup ∧ (∀ x ∈ l, x < n ∧ d.getD x 0 ≤ k) := by
  intro k
  induction k with
  | zero =>
    intro v hv e
    exact ⟨[v], rfl, by simp, by intro x hx; simp at hx; subst hx; exact ⟨hv, by omega⟩⟩
  | succ k ih =>
    intro v hv e
    have ne : v ≠ s := fun q => by rw [q, h.src] at e; cases e
    obtain ⟨u, a, q⟩ := h.back v hv ne
    obtain ⟨l, l1, l2, l3⟩ := ih u (r.adj a).1 (by omega)
    refine ⟨v :: l, by simp [l1], List.nodup_cons.mpr ⟨fun hm => ?_, l2⟩, fun x hx => ?_⟩
    · have := (l3 v hm).2
      omega
    · rcases List.mem_cons.mp hx with rfl | hx
      · exact ⟨hv, by omega⟩
      · exact ⟨(l3 x hx).1, by have := (l3 x hx).2; omega⟩
theorem nodup_len : ∀ (n : Nat) (l : List Nat), l.Nodup → (∀ x ∈ l, x < n) → l.length ≤ n := by
  intro n
  induction n with
  | zero =>
    intro l _ k
    cases l with
    | nil => exact Nat.le_refl _
    | cons a l => exact absurd (k a List.mem_cons_self) (by omega)
  | succ n ih =>
    intro l h k
    by_cases hm : n ∈ l
    · have e1 := List.length_erase_of_mem hm
      have e2 := ih (l.erase n) (h.erase n) fun x hx => by
        have := k x (List.mem_of_mem_erase hx)
        have : x ≠ n := fun q => by
          subst q
          exact (List.Nodup.not_mem_erase h) hx
        omega
      omega
    · have := ih l h fun x hx => by
        have := k x hx
        have : x ≠ n := fun q => hm (by rw [← q]; exact hx)
        omega
      omega
theorem IsDist.lt_n (r : Rng n es) (h : IsDist n es s d) {v : Nat} (hv : v < n) : d.getD v 0 < n := by
  obtain ⟨l, l1, l2, l3⟩ := h.bound r _ v hv rfl
  have := nodup_len n l l2 fun x hx => (l3 x hx).1
  omega
end
/-! ### the search, queue by queue -/
def val (f : List (Option Nat)) (v : Nat) : Nat := ((f[v]?).join).getD 0
def seen (f : List (Option Nat)) (v : Nat) : Prop := ∃ k, f[v]? = some (some k)
theorem val_set {f : List (Option Nat)} {v w k : Nat} (hv : v < f.length) : val (f.set v (some k)) w = if w = v then k else val f w := by
  unfold val
  by_cases e : w = v
  · subst e
    simp [hv]
  · rw [List.getElem?_set_ne (fun q => e q.symm), if_neg e]
theorem seen_set {f : List (Option Nat)} {v w k : Nat} (hv : v < f.length) : seen (f.set v (some k)) w ↔ w = v ∨ seen f w := by
  unfold seen
  by_cases e : w = v
  · subst e
    simp [hv]
  · rw [List.getElem?_set_ne (fun q => e q.symm)]
    simp [e]
/-- the state of a search from s: line, all that were found, in order; at: so many are done -/
structure Bfs (n : Nat) (es : List (Nat × Nat)) (s : Nat) (f : List (Option Nat)) (line : List Nat) : Prop where
  len : f.length = n
  nd : line.Nodup
  iff : ∀ v, seen f v ↔ v ∈ line
  src : s ∈ line ∧ val f s = 0
  mono : line.Pairwise fun a b => val f a ≤ val f b
  back : ∀ v ∈ line, v ≠ s → ∃ u ∈ line, Adj es u v ∧ val f v = val f u + 1
theorem Bfs.lt {n es s f line} (b : Bfs n es s f line) {v : Nat} (h : v ∈ line) : v < n := by
  obtain ⟨k, e⟩ := (b.iff v).mpr h
  have := (List.getElem?_eq_some_iff.mp e).1
  rw [b.len] at this
  exact this
def DoneB (es : List (Nat × Nat)) (f : List (Option Nat)) (line : List Nat) (u : Nat) : Prop := ∀ v, Adj es u v → v ∈ line ∧ val f v ≤ val f u + 1
/-- v is found, from u -/
theorem Bfs.find {n es s f line} {u v : Nat} (b : Bfs n es s f line) (hu : u ∈ line) (top : ∀ w ∈ line, val f w ≤ val f u + 1) (a : Adj es u v) (hv : v < n) (nv : ¬ seen f v) : Bfs n es s (f.set v (some (val f u + 1))) (line ++ [v]) := by
  have vl : v < f.length := by rw [b.len]; exact hv
  have nl : v ∉ line := fun h => nv ((b.iff v).mpr h)
  have same : ∀ w ∈ line, val (f.set v (some (val f u + 1))) w = val f w := fun w hw => by
    rw [val_set vl, if_neg fun e => nl (by rw [← e]; exact hw)]
  have vv : val (f.set v (some (val f u + 1))) v = val f u + 1 := by rw [val_set vl, if_pos rfl]
  refine ⟨by rw [List.length_set, b.len], ?_, fun w => ?_, ⟨by simp [b.src.1], by rw [same s b.src.1]; exact b.src.2⟩, ?_, fun w hw ne => ?_⟩
  · rw [List.nodup_append]
    exact ⟨b.nd, by simp, fun x hx y hy e => nl (by simp at hy; rw [← hy, ← e]; exact hx)⟩
  · rw [seen_set vl, b.iff w, List.mem_append]
    simp [or_comm]
  · rw [List.pairwise_append]
    refine ⟨?_, by simp, fun x hx y hy => ?_⟩
    · refine List.Pairwise.imp_of_mem (fun {x y} hx hy h => ?_) b.mono
      rw [same x hx, same y hy]
      exact h
    · simp at hy
      subst hy
      rw [same x hx, vv]
      exact top x hx
  · rcases List.mem_append.mp hw with hw | hw
    · obtain ⟨x, hx, ax, q⟩ := b.back w hw ne
      exact ⟨x, by simp [hx], ax, by rw [same w hw, same x hx]; exact q⟩
    · simp at hw
      subst hw
      exact ⟨u, by simp [hu], a, by rw [vv, same u hu]⟩
/-- all done: the distances -/
theorem Bfs.dist {n es s f line} (r : Rng n es) (c : Conn n es) (b : Bfs n es s f line) (hs : s < n) (done : ∀ u ∈ line, DoneB es f line u) : (∀ v, v < n → v ∈ line) ∧ IsDist n es s ((List.range n).map (val f)) := by
  have all : ∀ v, Reach es s v → v ∈ line := fun v h => by
    induction h with
    | here => exact b.src.1
    | step _ a ih => exact (done _ ih _ a).1
  have get : ∀ v, v < n → ((List.range n).map (val f)).getD v 0 = val f v := fun v hv => by simp [hv]
  refine ⟨fun v hv => all v (c.all hs hv), by simp, hs, by rw [get s hs]; exact b.src.2, fun u v a => ?_, fun v hv ne => ?_⟩
  · rw [get u (r.adj a).1, get v (r.adj a).2]
    exact (done u (all u (c.all hs (r.adj a).1)) v a).2
  · obtain ⟨u, _, a, q⟩ := b.back v (all v (c.all hs hv)) ne
    exact ⟨u, a, by rw [get v hv, get u (r.adj a).1]; exact q⟩
theorem Bfs.start {n es s} (hs : s < n) : Bfs n es s ((List.replicate n none).set s (some 0)) [s] := by
  have hl : s < (List.replicate n (none : Option Nat)).length := by simpa using hs
  refine ⟨by simp, by simp, fun v => ?_, ⟨by simp, by rw [val_set hl, if_pos rfl]⟩, by simp, fun v hv ne => ?_⟩
  · rw [seen_set hl]
    have : ¬ seen (List.replicate n (none : Option Nat)) v := by
      rintro ⟨k, e⟩
      rw [List.getElem?_replicate] at e
      split at e <;> cases e
    simp [this]
  · simp at hv
    exact absurd hv ne
/-- one look at v, from u -/
theorem Bfs.look {n es s f line} {u v : Nat} (b : Bfs n es s f line) (hu : u ∈ line) (top : ∀ w ∈ line, val f w ≤ val f u + 1) (a : Adj es u v) (hv : v < n) {f' : List (Option Nat)} {line' : List Nat}
    (e : (f', line') = if (f[v]?).join = none then (f.set v (some (val f u + 1)), line ++ [v]) else (f, line)) :
    Bfs n es s f' line' ∧ (∃ t, line' = line ++ t) ∧ (∀ w ∈ line, val f' w = val f w) ∧ (∀ w ∈ line', val f' w ≤ val f' u + 1) ∧ v ∈ line' := by
  have vl : v < f.length := by rw [b.len]; exact hv
  by_cases c : (f[v]?).join = none
  · rw [if_pos c] at e
    cases e
    have nv : ¬ seen f v := by
      rintro ⟨k, q⟩
      rw [q] at c
      cases c
    have nl : v ∉ line := fun h => nv ((b.iff v).mpr h)
    have same : ∀ w ∈ line, val (f.set v (some (val f u + 1))) w = val f w := fun w hw => by
      rw [val_set vl, if_neg fun e => nl (by rw [← e]; exact hw)]
    refine ⟨b.find hu top a hv nv, ⟨[v], rfl⟩, same, fun w hw => ?_, by simp⟩
    rw [same u hu]
    rcases List.mem_append.mp hw with hw | hw
    · rw [same w hw]
      exact top w hw
    · simp at hw
      subst hw
      rw [val_set vl, if_pos rfl]
      exact Nat.le_refl _
  · rw [if_neg c] at e
    cases e
    refine ⟨b, ⟨[], by simp⟩, fun w _ => rfl, top, (b.iff v).mp ?_⟩
    rw [List.getElem?_eq_getElem vl] at c
    cases q : f[v] with
    | none => rw [q] at c; exact absurd rfl c
    | some k => exact ⟨k, by rw [List.getElem?_eq_getElem vl, q]⟩
theorem DoneB.keep {es : List (Nat × Nat)} {f f' : List (Option Nat)} {line line' : List Nat} {u : Nat} (h : DoneB es f line u) (hu : u ∈ line) (t : ∃ t, line' = line ++ t) (k : ∀ w ∈ line, val f' w = val f w) : DoneB es f' line' u := fun v a => by
  obtain ⟨t, rfl⟩ := t
  obtain ⟨h1, h2⟩ := h v a
  exact ⟨by simp [h1], by rw [k v h1, k u hu]; exact h2⟩
theorem Bfs.get {n es s f line} (b : Bfs n es s f line) {v : Nat} (h : v ∈ line) : ∃ hv : v < f.length, f[v] = some (val f v) := by
  obtain ⟨k, e⟩ := (b.iff v).mpr h
  have hv := (List.getElem?_eq_some_iff.mp e).1
  refine ⟨hv, ?_⟩
  have : f[v] = some k := (List.getElem?_eq_some_iff.mp e).2
  rw [this]
  unfold val
  rw [e]
  rfl
theorem Bfs.len_le {n es s f line} (b : Bfs n es s f line) : line.length ≤ n := nodup_len n line b.nd fun x hx => b.lt hx
theorem Bfs.whole {n es s f line} (b : Bfs n es s f line) (all : ∀ v, v < n → v ∈ line) : f = ((List.range n).map (val f)).map some := by
  apply List.ext_getElem (by simp [b.len])
  intro i h1 h2
  obtain ⟨_, e⟩ := b.get (all i (by rw [← b.len]; exact h1))
  rw [e]
  simp
end PF
end

section
set_option Elab.async false
set_option linter.all false
set_option maxRecDepth 100000
set_option maxHeartbeats 2000000
namespace PF
open PySem L2
/-! ### data of webs -/
def natD (k : Nat) : D := .int (k : Nat)
def natsL (l : List Nat) : D := .lst (l.map natD)
def hedgeD (p : Nat × Nat) : D := .tup [natD p.1, natD p.2]
def webD (n : Nat) (es : List (Nat × Nat)) : D := .tup [natD n, .tup (es.map hedgeD)]
theorem mem_insI {α : Type} {le : α → α → Bool} {x y : α} : ∀ {l : List α}, y ∈ insI le x l ↔ y = x ∨ y ∈ l
  | [] => by simp [insI]
  | a :: l => by
    unfold insI
    split
    · simp
    · rw [List.mem_cons, mem_insI (l := l), List.mem_cons]
      constructor
      · rintro (h | h | h)
        · exact .inr (.inl h)
        · exact .inl h
        · exact .inr (.inr h)
      · rintro (h | h | h)
        · exact .inr (.inl h)
        · exact .inl h
        · exact .inr (.inr h)
theorem mem_isort {α : Type} {le : α → α → Bool} {y : α} : ∀ {l : List α}, y ∈ isort le l ↔ y ∈ l
  | [] => by simp [isort]
  | a :: l => by
    unfold isort
    rw [mem_insI, mem_isort (l := l), List.mem_cons]
theorem len_insI {α : Type} {le : α → α → Bool} {x : α} : ∀ {l : List α}, (insI le x l).length = l.length + 1
  | [] => rfl
  | a :: l => by
    unfold insI
    split
    · rfl
    · rw [List.length_cons, len_insI (l := l), List.length_cons]
theorem len_isort {α : Type} {le : α → α → Bool} : ∀ {l : List α}, (isort le l).length = l.length
  | [] => rfl
  | a :: l => by
    unfold isort
    rw [len_insI, len_isort (l := l), List.length_cons]
theorem intsOf_nat : ∀ l : List Nat, intsOf (l.map natD) = some (l.map fun (k : Nat) => (k : Int))
  | [] => rfl
  | i :: l => by simp [intsOf, natD, intsOf_nat l]
theorem sort_nat (l : List Nat) : ∃ r : List Nat, sortD (l.map natD) = some (r.map natD) ∧ (∀ u, u ∈ r ↔ u ∈ l) ∧ r.length = l.length := by
  refine ⟨(isort (fun a b => decide (a ≤ b)) (l.map fun (k : Nat) => (k : Int))).map Int.toNat, ?_, fun u => ?_, by rw [List.length_map, len_isort, List.length_map]⟩
  · unfold sortD
    rw [intsOf_nat]
    simp only [Option.some.injEq, List.map_map]
    refine List.map_congr_left fun x hx => ?_
    obtain ⟨k, _, e⟩ := List.mem_map.mp (mem_isort.mp hx)
    subst e
    simp [natD]
  · rw [List.mem_map]
    constructor
    · rintro ⟨x, hx, e⟩
      obtain ⟨k, hk, e2⟩ := List.mem_map.mp (mem_isort.mp hx)
      subst e2
      have : k = u := by simpa using e
      rw [← this]; exact hk
    · intro h
      exact ⟨(u : Int), mem_isort.mpr (List.mem_map.mpr ⟨u, h, rfl⟩), by simp⟩
namespace K08
variable {fu n : Nat}
def rowW (r : List Nat) : W := .lst (r.map fun k => .fz (natD k))
theorem toD_row (r : List Nat) : (rowW r).toD = natsL r := by
  show D.lst (toDs (r.map fun k => .fz (natD k))) = _
  rw [toDs_map]
  rfl
theorem f24 : f_24 = f_3 := rfl
/-- the body of the loop that lays the rows -/
def nearB : IB := .cons (.exp (.app false (.idx (.var 1) (.var 2)) (.var 3))) (.cons (.exp (.app false (.idx (.var 1) (.var 3)) (.var 2))) .nil)
theorem near_step {F : Nat → List W → Option (W × List W)} {web : W} {rows : List (List Nat)} {a b m : Nat} (ha : a < rows.length) (hb : b < rows.length) (hab : a ≠ b) (hm : ∀ r ∈ rows, r.length < m) (hm2 : m ≤ 100000) :
    runB F fu nearB [some web, some (.lst (rows.map rowW)), some (.fz (natD a)), some (.fz (natD b)), none, none] = some (.nx [some web, some (.lst (((rows.set a (rows[a] ++ [b])).set b ((rows.set a (rows[a] ++ [b]))[b]'(by simpa using hb) ++ [a])).map rowW)), some (.fz (natD a)), some (.fz (natD b)), none, none]) := by
  have la : (rows.map rowW).length = rows.length := by simp
  have ia : ixN rows.length (a : Int) = some a := ixN_nat ha
  have ib : ixN rows.length (b : Int) = some b := ixN_nat hb
  have aa := app_ok (y := .fz (natD b)) (ws := rows[a].map fun k => .fz (natD k)) (by
    have := hm _ (List.getElem_mem ha)
    simp; omega)
  have ab := app_ok (y := .fz (natD a)) (ws := rows[b].map fun k => .fz (natD k)) (by
    have := hm _ (List.getElem_mem hb)
    simp; omega)
  simp only [natD] at aa ab
  simp [f_len_l, f_len_t, f_len_p, f_len_s, f_abs, f_max2, f_min2, f_sorted, f_all, f_int_i, f_int_b, f_list_l, f_list_t, f_tuple_l, f_tuple_t, f_ptuple, f_dict_p, f_lrange, d_neg, d_not, d_add_i, d_add_l, d_add_t, d_add_p, d_sub, d_mul_i, d_fdiv, d_mod, d_pow, d_eq, d_ne, d_lt_i, d_lt_t, d_le, d_gt, d_ge, d_in, d_nin, d_is_nn, d_is_in, d_is_ln, d_is_tn, d_ix_l, d_ix_t, d_ix_p, d_ix_s, d_sl_l, d_sl_t, d_sl_p, q_var, q_cst, q_glo, q_un, q_bin, q_cmp, q_chn, q_and, q_or, q_ite, q_idx, q_slc, q_tup, q_lst, q_dic, q_call, q_bf, q_isi, q_get, q_app, q_ext, q_popL, q_popA, q_comp, turn_eq, t_not, t_and, t_or, t_cmp, t_chn, t_call, t_bf, t_isi, t_var, c_nil, c_one, o_nil, o_one, l_nil, l_cons, i_val, i_rng1, i_rng2, i_enu, i_zip, s_asg, s_asgs, s_aug, s_exp, s_del, s_retF, s_retT, s_retN, s_ite, s_whl, s_for, s_brk, s_cnt, s_pass, b_nil, b_cons, w_nm, w_un, w_sub, runF, boolA, res, W.toD, W.at, W.sub, isiD, takeA, takeS, takeC, putC, frzA, frzL, takeL, stoL, ST.own, resL, iosOf, fin_c, own, -List.all_map, fz_all, fz_all2, fz_all3, D.isAtom, W.isFz, W.flat, bindT, wipeG, backG, Arg.simple, pureE, pureL, idxA, stepOf, modP, W.setAt, W.setS, setW, popW, isL, isDc, itemsOf, toDs, toDs_fz, toDs_comp, toDs_fun, all_true, eqD_int, eqD_bl, atI_nat, atI_0, atI_1, atI_2, atI_3, ixN4_0, ixN4_1, ixN4_2, ixN4_3, nearB, natD, rowW, ia, ib, ha, hb, aa, ab, List.getElem_set, hab]
/-- rows of the first i hedges -/
def RowsOk (es : List (Nat × Nat)) (m : Nat) (rows : List (List Nat)) (i : Nat) : Prop := rows.length = m ∧ (∀ v, v < m → ∀ u, u ∈ rows.getD v [] ↔ Adj (es.take i) v u) ∧ ∀ r ∈ rows, r.length ≤ i
theorem rows_step {es : List (Nat × Nat)} {m i a b : Nat} {rows : List (List Nat)} (h : RowsOk es m rows i) (he : es[i]? = some (a, b)) (hab : a < b) (hb : b < m) (ha' : a < rows.length) (hb' : b < rows.length) :
    RowsOk es m ((rows.set a (rows[a] ++ [b])).set b ((rows.set a (rows[a] ++ [b]))[b]'(by simpa using hb') ++ [a])) (i + 1) := by
  obtain ⟨h1, h2, h3⟩ := h
  have hi : i < es.length := (List.getElem?_eq_some_iff.mp he).1
  have ht : es.take (i + 1) = es.take i ++ [(a, b)] := by
    rw [List.take_add_one, he]
    rfl
  have hab' : a ≠ b := by omega
  refine ⟨by simp [h1], fun v hv u => ?_, fun r hr => ?_⟩
  · have adj : Adj (es.take (i + 1)) v u ↔ Adj (es.take i) v u ∨ (v = a ∧ u = b) ∨ (v = b ∧ u = a) := by
      unfold Adj
      rw [ht]
      simp only [List.mem_append, List.mem_singleton, Prod.mk.injEq]
      constructor
      · rintro ((h | ⟨h, k⟩) | (h | ⟨h, k⟩))
        · exact .inl (.inl h)
        · exact .inr (.inl ⟨h, k⟩)
        · exact .inl (.inr h)
        · exact .inr (.inr ⟨k, h⟩)
      · rintro ((h | h) | ⟨h, k⟩ | ⟨h, k⟩)
        · exact .inl (.inl h)
        · exact .inr (.inl h)
        · exact .inl (.inr ⟨h, k⟩)
        · exact .inr (.inr ⟨k, h⟩)
    rw [adj]
    have hv2 : v < rows.length := by omega
    have old := h2 v hv u
    have e0 : rows.getD v [] = rows[v] := by simp [hv2]
    rw [e0] at old
    have eb : (rows.set a (rows[a] ++ [b]))[b]'(by simpa using hb') = rows[b] := by simp [List.getElem_set, hab']
    rw [eb]
    by_cases e1 : v = b
    · subst e1
      have : ((rows.set a (rows[a] ++ [v])).set v (rows[v] ++ [a])).getD v [] = rows[v] ++ [a] := by simp [hv2]
      rw [this, List.mem_append, old, List.mem_singleton]
      constructor
      · rintro (h | h)
        · exact .inl h
        · exact .inr (.inr ⟨rfl, h⟩)
      · rintro (h | ⟨h, k⟩ | ⟨h, k⟩)
        · exact .inl h
        · omega
        · exact .inr k
    · by_cases e2 : v = a
      · subst e2
        have : ((rows.set v (rows[v] ++ [b])).set b (rows[b] ++ [v])).getD v [] = rows[v] ++ [b] := by
          simp [List.getElem?_set, hv2, Ne.symm e1]
        rw [this, List.mem_append, old, List.mem_singleton]
        constructor
        · rintro (h | h)
          · exact .inl h
          · exact .inr (.inl ⟨rfl, h⟩)
        · rintro (h | ⟨h, k⟩ | ⟨h, k⟩)
          · exact .inl h
          · exact .inr k
          · omega
      · have : ((rows.set a (rows[a] ++ [b])).set b (rows[b] ++ [a])).getD v [] = rows[v] := by
          simp [List.getElem?_set, hv2, Ne.symm e1, Ne.symm e2]
        rw [this, old]
        constructor
        · exact .inl
        · rintro (h | ⟨h, k⟩ | ⟨h, k⟩)
          · exact h
          · exact absurd h e2
          · exact absurd h e1
  · rcases List.mem_or_eq_of_mem_set hr with hr | hr
    · rcases List.mem_or_eq_of_mem_set hr with hr | hr
      · have := h3 r hr; omega
      · rw [hr, List.length_append]
        have := h3 _ (List.getElem_mem ha')
        simp; exact this
    · rw [hr, List.length_append]
      have : (rows.set a (rows[a] ++ [b]))[b]'(by simpa using hb') = rows[b] := by simp [List.getElem_set, hab']
      rw [this]
      have := h3 _ (List.getElem_mem hb')
      simp; exact this
theorem nears_loop {F : Nat → List W → Option (W × List W)} {web : W} {m : Nat} {es : List (Nat × Nat)} (r : Rng m es) (hl : es.length ≤ 10000) (hm : m ≤ 10000) :
    ∃ rows x y, forQ F fu (.cons (.nm 2) (.cons (.nm 3) .nil)) nearB (es.map hedgeD) [some web, some (.lst (List.replicate m (.lst []))), none, none, none, none] = some (.nx [some web, some (.lst (rows.map rowW)), x, y, none, none]) ∧ RowsOk es m rows es.length := by
  obtain ⟨g', e, rows, x, y, e2, h⟩ := forL_inv (bind := fun d g => bindT (.cons (.nm 2) (.cons (.nm 3) .nil)) d g) (body := fun g => runB F fu nearB g) (ds := es.map hedgeD)
    (g := [some web, some (.lst (List.replicate m (.lst []))), none, none, none, none])
    (fun i g => ∃ (rows : List (List Nat)) (x y : Option W), g = [some web, some (.lst (rows.map rowW)), x, y, none, none] ∧ RowsOk es m rows i)
    ⟨List.replicate m [], none, none, by simp [rowW], by simp, fun v hv u => by simp [Adj, hv], fun r hr => by
      have := List.eq_of_mem_replicate hr
      subst this; exact Nat.le_refl _⟩
    (by
      rintro i d g hd ⟨rows, x, y, rfl, h⟩
      rw [List.getElem?_map, Option.map_eq_some_iff] at hd
      obtain ⟨⟨a, b⟩, hab, rfl⟩ := hd
      have hmem := List.mem_of_getElem? hab
      have k1 : a < b := (r.lt _ hmem).1
      have k2 : b < m := (r.lt _ hmem).2
      have ha : a < rows.length := by rw [h.1]; omega
      have hb : b < rows.length := by rw [h.1]; omega
      have hi : i < es.length := (List.getElem?_eq_some_iff.mp hab).1
      exact ⟨[some web, some (.lst (rows.map rowW)), some (.fz (natD a)), some (.fz (natD b)), none, none], _, by simp [f_len_l, f_len_t, f_len_p, f_len_s, f_abs, f_max2, f_min2, f_sorted, f_all, f_int_i, f_int_b, f_list_l, f_list_t, f_tuple_l, f_tuple_t, f_ptuple, f_dict_p, f_lrange, d_neg, d_not, d_add_i, d_add_l, d_add_t, d_add_p, d_sub, d_mul_i, d_fdiv, d_mod, d_pow, d_eq, d_ne, d_lt_i, d_lt_t, d_le, d_gt, d_ge, d_in, d_nin, d_is_nn, d_is_in, d_is_ln, d_is_tn, d_ix_l, d_ix_t, d_ix_p, d_ix_s, d_sl_l, d_sl_t, d_sl_p, q_var, q_cst, q_glo, q_un, q_bin, q_cmp, q_chn, q_and, q_or, q_ite, q_idx, q_slc, q_tup, q_lst, q_dic, q_call, q_bf, q_isi, q_get, q_app, q_ext, q_popL, q_popA, q_comp, turn_eq, t_not, t_and, t_or, t_cmp, t_chn, t_call, t_bf, t_isi, t_var, c_nil, c_one, o_nil, o_one, l_nil, l_cons, i_val, i_rng1, i_rng2, i_enu, i_zip, s_asg, s_asgs, s_aug, s_exp, s_del, s_retF, s_retT, s_retN, s_ite, s_whl, s_for, s_brk, s_cnt, s_pass, b_nil, b_cons, w_nm, w_un, w_sub, runF, boolA, res, W.toD, W.at, W.sub, isiD, takeA, takeS, takeC, putC, frzA, frzL, takeL, stoL, ST.own, resL, iosOf, fin_c, own, -List.all_map, fz_all, fz_all2, fz_all3, D.isAtom, W.isFz, W.flat, bindT, wipeG, backG, Arg.simple, pureE, pureL, idxA, stepOf, modP, W.setAt, W.setS, setW, popW, isL, isDc, itemsOf, toDs, toDs_fz, toDs_comp, toDs_fun, all_true, eqD_int, eqD_bl, atI_nat, atI_0, atI_1, atI_2, atI_3, ixN4_0, ixN4_1, ixN4_2, ixN4_3, hedgeD], near_step (fu := fu) (F := F) (m := i + 1) ha hb (by omega) (fun r hr => Nat.lt_succ_of_le (h.2.2 r hr)) (by omega), _, _, _, rfl, rows_step h hab k1 k2 ha hb⟩)
  subst e2
  rw [List.length_map] at h
  exact ⟨rows, x, y, e, h⟩
theorem nears_go {F : Nat → List W → Option (W × List W)} {m : Nat} {es : List (Nat × Nat)} (r : Rng m es) (hl : es.length ≤ 10000) (hm : m ≤ 10000) :
    ∃ rows : List (List Nat), runF F fu f_3 [.fz (webD m es)] = some (.fz (.lst (rows.map natsL)), []) ∧ rows.length = m ∧ (∀ v, v < m → ∀ u, u ∈ rows.getD v [] ↔ Adj es v u) ∧ ∀ x ∈ rows, x.length ≤ es.length := by
  obtain ⟨rows, x, y, e, h1, h2, h3⟩ := nears_loop (F := F) (fu := fu) (web := .fz (webD m es)) r hl hm
  have c1 := compQ_all (F := F) (ow := [4]) (t := .nm 4) (oe := true) (e := .lst false .nil) (g := [some (.fz (webD m es)), none, none, none, none, none]) (fun i : Nat => D.int (i : Nat)) (fun _ => W.lst []) (xs := List.range m)
    fun i hi => ⟨[some (.fz (webD m es)), none, none, none, some (.fz (.int (i : Nat))), none], (.tmp (.lst []), [some (.fz (webD m es)), none, none, none, some (.fz (.int (i : Nat))), none]), [some (.fz (webD m es)), none, none, none, some (.fz (.int (i : Nat))), none], rfl, by simp [f_len_l, f_len_t, f_len_p, f_len_s, f_abs, f_max2, f_min2, f_sorted, f_all, f_int_i, f_int_b, f_list_l, f_list_t, f_tuple_l, f_tuple_t, f_ptuple, f_dict_p, f_lrange, d_neg, d_not, d_add_i, d_add_l, d_add_t, d_add_p, d_sub, d_mul_i, d_fdiv, d_mod, d_pow, d_eq, d_ne, d_lt_i, d_lt_t, d_le, d_gt, d_ge, d_in, d_nin, d_is_nn, d_is_in, d_is_ln, d_is_tn, d_ix_l, d_ix_t, d_ix_p, d_ix_s, d_sl_l, d_sl_t, d_sl_p, q_var, q_cst, q_glo, q_un, q_bin, q_cmp, q_chn, q_and, q_or, q_ite, q_idx, q_slc, q_tup, q_lst, q_dic, q_call, q_bf, q_isi, q_get, q_app, q_ext, q_popL, q_popA, q_comp, turn_eq, t_not, t_and, t_or, t_cmp, t_chn, t_call, t_bf, t_isi, t_var, c_nil, c_one, o_nil, o_one, l_nil, l_cons, i_val, i_rng1, i_rng2, i_enu, i_zip, s_asg, s_asgs, s_aug, s_exp, s_del, s_retF, s_retT, s_retN, s_ite, s_whl, s_for, s_brk, s_cnt, s_pass, b_nil, b_cons, w_nm, w_un, w_sub, runF, boolA, res, W.toD, W.at, W.sub, isiD, takeA, takeS, takeC, putC, frzA, frzL, takeL, stoL, ST.own, resL, iosOf, fin_c, own, -List.all_map, fz_all, fz_all2, fz_all3, D.isAtom, W.isFz, W.flat, bindT, wipeG, backG, Arg.simple, pureE, pureL, idxA, stepOf, modP, W.setAt, W.setS, setW, popW, isL, isDc, itemsOf, toDs, toDs_fz, toDs_comp, toDs_fun, all_true, eqD_int, eqD_bl, atI_nat, atI_0, atI_1, atI_2, atI_3, ixN4_0, ixN4_1, ixN4_2, ixN4_3, slk_ok], by simp [f_len_l, f_len_t, f_len_p, f_len_s, f_abs, f_max2, f_min2, f_sorted, f_all, f_int_i, f_int_b, f_list_l, f_list_t, f_tuple_l, f_tuple_t, f_ptuple, f_dict_p, f_lrange, d_neg, d_not, d_add_i, d_add_l, d_add_t, d_add_p, d_sub, d_mul_i, d_fdiv, d_mod, d_pow, d_eq, d_ne, d_lt_i, d_lt_t, d_le, d_gt, d_ge, d_in, d_nin, d_is_nn, d_is_in, d_is_ln, d_is_tn, d_ix_l, d_ix_t, d_ix_p, d_ix_s, d_sl_l, d_sl_t, d_sl_p, q_var, q_cst, q_glo, q_un, q_bin, q_cmp, q_chn, q_and, q_or, q_ite, q_idx, q_slc, q_tup, q_lst, q_dic, q_call, q_bf, q_isi, q_get, q_app, q_ext, q_popL, q_popA, q_comp, turn_eq, t_not, t_and, t_or, t_cmp, t_chn, t_call, t_bf, t_isi, t_var, c_nil, c_one, o_nil, o_one, l_nil, l_cons, i_val, i_rng1, i_rng2, i_enu, i_zip, s_asg, s_asgs, s_aug, s_exp, s_del, s_retF, s_retT, s_retN, s_ite, s_whl, s_for, s_brk, s_cnt, s_pass, b_nil, b_cons, w_nm, w_un, w_sub, runF, boolA, res, W.toD, W.at, W.sub, isiD, takeA, takeS, takeC, putC, frzA, frzL, takeL, stoL, ST.own, resL, iosOf, fin_c, own, -List.all_map, fz_all, fz_all2, fz_all3, D.isAtom, W.isFz, W.flat, bindT, wipeG, backG, Arg.simple, pureE, pureL, idxA, stepOf, modP, W.setAt, W.setS, setW, popW, isL, isDc, itemsOf, toDs, toDs_fz, toDs_comp, toDs_fun, all_true, eqD_int, eqD_bl, atI_nat, atI_0, atI_1, atI_2, atI_3, ixN4_0, ixN4_1, ixN4_2, ixN4_3], by simp [f_len_l, f_len_t, f_len_p, f_len_s, f_abs, f_max2, f_min2, f_sorted, f_all, f_int_i, f_int_b, f_list_l, f_list_t, f_tuple_l, f_tuple_t, f_ptuple, f_dict_p, f_lrange, d_neg, d_not, d_add_i, d_add_l, d_add_t, d_add_p, d_sub, d_mul_i, d_fdiv, d_mod, d_pow, d_eq, d_ne, d_lt_i, d_lt_t, d_le, d_gt, d_ge, d_in, d_nin, d_is_nn, d_is_in, d_is_ln, d_is_tn, d_ix_l, d_ix_t, d_ix_p, d_ix_s, d_sl_l, d_sl_t, d_sl_p, q_var, q_cst, q_glo, q_un, q_bin, q_cmp, q_chn, q_and, q_or, q_ite, q_idx, q_slc, q_tup, q_lst, q_dic, q_call, q_bf, q_isi, q_get, q_app, q_ext, q_popL, q_popA, q_comp, turn_eq, t_not, t_and, t_or, t_cmp, t_chn, t_call, t_bf, t_isi, t_var, c_nil, c_one, o_nil, o_one, l_nil, l_cons, i_val, i_rng1, i_rng2, i_enu, i_zip, s_asg, s_asgs, s_aug, s_exp, s_del, s_retF, s_retT, s_retN, s_ite, s_whl, s_for, s_brk, s_cnt, s_pass, b_nil, b_cons, w_nm, w_un, w_sub, runF, boolA, res, W.toD, W.at, W.sub, isiD, takeA, takeS, takeC, putC, frzA, frzL, takeL, stoL, ST.own, resL, iosOf, fin_c, own, -List.all_map, fz_all, fz_all2, fz_all3, D.isAtom, W.isFz, W.flat, bindT, wipeG, backG, Arg.simple, pureE, pureL, idxA, stepOf, modP, W.setAt, W.setS, setW, popW, isL, isDc, itemsOf, toDs, toDs_fz, toDs_comp, toDs_fun, all_true, eqD_int, eqD_bl, atI_nat, atI_0, atI_1, atI_2, atI_3, ixN4_0, ixN4_1, ixN4_2, ixN4_3]⟩
  have hc : ∀ l : List Nat, ∃ q : List Nat, sortD (l.map natD) = some (q.map natD) ∧ (∀ u, u ∈ q ↔ u ∈ l) ∧ q.length = l.length := sort_nat
  let srt : List Nat → List Nat := fun l => (sort_nat l).choose
  have hs : ∀ l, sortD (l.map natD) = some ((srt l).map natD) ∧ (∀ u, u ∈ srt l ↔ u ∈ l) ∧ (srt l).length = l.length := fun l => (sort_nat l).choose_spec
  have c2 := compQ_all (F := F) (ow := [5]) (t := .nm 5) (oe := false) (e := .bf .sorted (.cons (.var 5) .nil)) (g := [some (.fz (webD m es)), some (.fz (.lst (rows.map natsL))), x, y, none, none]) natsL (fun l => W.fz (natsL (srt l))) (xs := rows)
    fun l hx => ⟨[some (.fz (webD m es)), some (.fz (.lst (rows.map natsL))), x, y, none, some (.fz (natsL l))], (.tmp (own (natsL (srt l))), [some (.fz (webD m es)), some (.fz (.lst (rows.map natsL))), x, y, none, some (.fz (natsL l))]), [some (.fz (webD m es)), some (.fz (.lst (rows.map natsL))), x, y, none, some (.fz (natsL l))], rfl, by simp [f_len_l, f_len_t, f_len_p, f_len_s, f_abs, f_max2, f_min2, f_sorted, f_all, f_int_i, f_int_b, f_list_l, f_list_t, f_tuple_l, f_tuple_t, f_ptuple, f_dict_p, f_lrange, d_neg, d_not, d_add_i, d_add_l, d_add_t, d_add_p, d_sub, d_mul_i, d_fdiv, d_mod, d_pow, d_eq, d_ne, d_lt_i, d_lt_t, d_le, d_gt, d_ge, d_in, d_nin, d_is_nn, d_is_in, d_is_ln, d_is_tn, d_ix_l, d_ix_t, d_ix_p, d_ix_s, d_sl_l, d_sl_t, d_sl_p, q_var, q_cst, q_glo, q_un, q_bin, q_cmp, q_chn, q_and, q_or, q_ite, q_idx, q_slc, q_tup, q_lst, q_dic, q_call, q_bf, q_isi, q_get, q_app, q_ext, q_popL, q_popA, q_comp, turn_eq, t_not, t_and, t_or, t_cmp, t_chn, t_call, t_bf, t_isi, t_var, c_nil, c_one, o_nil, o_one, l_nil, l_cons, i_val, i_rng1, i_rng2, i_enu, i_zip, s_asg, s_asgs, s_aug, s_exp, s_del, s_retF, s_retT, s_retN, s_ite, s_whl, s_for, s_brk, s_cnt, s_pass, b_nil, b_cons, w_nm, w_un, w_sub, runF, boolA, res, W.toD, W.at, W.sub, isiD, takeA, takeS, takeC, putC, frzA, frzL, takeL, stoL, ST.own, resL, iosOf, fin_c, own, -List.all_map, fz_all, fz_all2, fz_all3, D.isAtom, W.isFz, W.flat, bindT, wipeG, backG, Arg.simple, pureE, pureL, idxA, stepOf, modP, W.setAt, W.setS, setW, popW, isL, isDc, itemsOf, toDs, toDs_fz, toDs_comp, toDs_fun, all_true, eqD_int, eqD_bl, atI_nat, atI_0, atI_1, atI_2, atI_3, ixN4_0, ixN4_1, ixN4_2, ixN4_3, natsL, (hs l).1], by simp [f_len_l, f_len_t, f_len_p, f_len_s, f_abs, f_max2, f_min2, f_sorted, f_all, f_int_i, f_int_b, f_list_l, f_list_t, f_tuple_l, f_tuple_t, f_ptuple, f_dict_p, f_lrange, d_neg, d_not, d_add_i, d_add_l, d_add_t, d_add_p, d_sub, d_mul_i, d_fdiv, d_mod, d_pow, d_eq, d_ne, d_lt_i, d_lt_t, d_le, d_gt, d_ge, d_in, d_nin, d_is_nn, d_is_in, d_is_ln, d_is_tn, d_ix_l, d_ix_t, d_ix_p, d_ix_s, d_sl_l, d_sl_t, d_sl_p, q_var, q_cst, q_glo, q_un, q_bin, q_cmp, q_chn, q_and, q_or, q_ite, q_idx, q_slc, q_tup, q_lst, q_dic, q_call, q_bf, q_isi, q_get, q_app, q_ext, q_popL, q_popA, q_comp, turn_eq, t_not, t_and, t_or, t_cmp, t_chn, t_call, t_bf, t_isi, t_var, c_nil, c_one, o_nil, o_one, l_nil, l_cons, i_val, i_rng1, i_rng2, i_enu, i_zip, s_asg, s_asgs, s_aug, s_exp, s_del, s_retF, s_retT, s_retN, s_ite, s_whl, s_for, s_brk, s_cnt, s_pass, b_nil, b_cons, w_nm, w_un, w_sub, runF, boolA, res, W.toD, W.at, W.sub, isiD, takeA, takeS, takeC, putC, frzA, frzL, takeL, stoL, ST.own, resL, iosOf, fin_c, own, -List.all_map, fz_all, fz_all2, fz_all3, D.isAtom, W.isFz, W.flat, bindT, wipeG, backG, Arg.simple, pureE, pureL, idxA, stepOf, modP, W.setAt, W.setS, setW, popW, isL, isDc, itemsOf, toDs, toDs_fz, toDs_comp, toDs_fun, all_true, eqD_int, eqD_bl, atI_nat, atI_0, atI_1, atI_2, atI_3, ixN4_0, ixN4_1, ixN4_2, ixN4_3, natsL, toDs_map], by simp [f_len_l, f_len_t, f_len_p, f_len_s, f_abs, f_max2, f_min2, f_sorted, f_all, f_int_i, f_int_b, f_list_l, f_list_t, f_tuple_l, f_tuple_t, f_ptuple, f_dict_p, f_lrange, d_neg, d_not, d_add_i, d_add_l, d_add_t, d_add_p, d_sub, d_mul_i, d_fdiv, d_mod, d_pow, d_eq, d_ne, d_lt_i, d_lt_t, d_le, d_gt, d_ge, d_in, d_nin, d_is_nn, d_is_in, d_is_ln, d_is_tn, d_ix_l, d_ix_t, d_ix_p, d_ix_s, d_sl_l, d_sl_t, d_sl_p, q_var, q_cst, q_glo, q_un, q_bin, q_cmp, q_chn, q_and, q_or, q_ite, q_idx, q_slc, q_tup, q_lst, q_dic, q_call, q_bf, q_isi, q_get, q_app, q_ext, q_popL, q_popA, q_comp, turn_eq, t_not, t_and, t_or, t_cmp, t_chn, t_call, t_bf, t_isi, t_var, c_nil, c_one, o_nil, o_one, l_nil, l_cons, i_val, i_rng1, i_rng2, i_enu, i_zip, s_asg, s_asgs, s_aug, s_exp, s_del, s_retF, s_retT, s_retN, s_ite, s_whl, s_for, s_brk, s_cnt, s_pass, b_nil, b_cons, w_nm, w_un, w_sub, runF, boolA, res, W.toD, W.at, W.sub, isiD, takeA, takeS, takeC, putC, frzA, frzL, takeL, stoL, ST.own, resL, iosOf, fin_c, own, -List.all_map, fz_all, fz_all2, fz_all3, D.isAtom, W.isFz, W.flat, bindT, wipeG, backG, Arg.simple, pureE, pureL, idxA, stepOf, modP, W.setAt, W.setS, setW, popW, isL, isDc, itemsOf, toDs, toDs_fz, toDs_comp, toDs_fun, all_true, eqD_int, eqD_bl, atI_nat, atI_0, atI_1, atI_2, atI_3, ixN4_0, ixN4_1, ixN4_2, ixN4_3]⟩
  have rr := rng_nat (k := m) (by omega)
  refine ⟨rows.map srt, ?_, by simp [h1], fun v hv u => ?_, fun z hz => ?_⟩
  · have t1 : toDs (rows.map rowW) = rows.map natsL := by
      rw [toDs_map]
      exact List.map_congr_left fun l _ => toD_row l
    have t2 : toDs (rows.map fun l => W.fz (natsL (srt l))) = rows.map fun l => natsL (srt l) := toDs_map _ _
    have wd : webD m es = .tup [natD m, .tup (es.map hedgeD)] := rfl
    have b1 : slk rows.length = true := slk_ok (by omega)
    have b2 : slk m = true := slk_ok (by omega)
    rw [wd] at c1 c2 e
    simp only [natD, nearB] at c1 c2 e
    simp [f_len_l, f_len_t, f_len_p, f_len_s, f_abs, f_max2, f_min2, f_sorted, f_all, f_int_i, f_int_b, f_list_l, f_list_t, f_tuple_l, f_tuple_t, f_ptuple, f_dict_p, f_lrange, d_neg, d_not, d_add_i, d_add_l, d_add_t, d_add_p, d_sub, d_mul_i, d_fdiv, d_mod, d_pow, d_eq, d_ne, d_lt_i, d_lt_t, d_le, d_gt, d_ge, d_in, d_nin, d_is_nn, d_is_in, d_is_ln, d_is_tn, d_ix_l, d_ix_t, d_ix_p, d_ix_s, d_sl_l, d_sl_t, d_sl_p, q_var, q_cst, q_glo, q_un, q_bin, q_cmp, q_chn, q_and, q_or, q_ite, q_idx, q_slc, q_tup, q_lst, q_dic, q_call, q_bf, q_isi, q_get, q_app, q_ext, q_popL, q_popA, q_comp, turn_eq, t_not, t_and, t_or, t_cmp, t_chn, t_call, t_bf, t_isi, t_var, c_nil, c_one, o_nil, o_one, l_nil, l_cons, i_val, i_rng1, i_rng2, i_enu, i_zip, s_asg, s_asgs, s_aug, s_exp, s_del, s_retF, s_retT, s_retN, s_ite, s_whl, s_for, s_brk, s_cnt, s_pass, b_nil, b_cons, w_nm, w_un, w_sub, runF, boolA, res, W.toD, W.at, W.sub, isiD, takeA, takeS, takeC, putC, frzA, frzL, takeL, stoL, ST.own, resL, iosOf, fin_c, own, -List.all_map, fz_all, fz_all2, fz_all3, D.isAtom, W.isFz, W.flat, bindT, wipeG, backG, Arg.simple, pureE, pureL, idxA, stepOf, modP, W.setAt, W.setS, setW, popW, isL, isDc, itemsOf, toDs, toDs_fz, toDs_comp, toDs_fun, all_true, eqD_int, eqD_bl, atI_nat, atI_0, atI_1, atI_2, atI_3, ixN4_0, ixN4_1, ixN4_2, ixN4_3, f_3, wd, natD, rr, c1, e, t1, c2, t2, b1, b2, List.map_const']
  · have : (rows.map srt).getD v [] = srt (rows.getD v []) := by
      have hv2 : v < rows.length := by omega
      simp [hv2]
    rw [this, (hs _).2.1, h2 v hv u, List.take_length]
  · obtain ⟨l, hl', e'⟩ := List.mem_map.mp hz
    subst e'
    rw [(hs l).2.2]
    exact h3 l hl'
theorem nears_ok {m : Nat} {es : List (Nat × Nat)} (r : Rng m es) (hl : es.length ≤ 10000) (hm : m ≤ 10000) :
    ∃ rows : List (List Nat), callF Pm fu (n + 1) 3 [.fz (webD m es)] = some (.fz (.lst (rows.map natsL)), []) ∧ callF Pm fu (n + 1) 24 [.fz (webD m es)] = some (.fz (.lst (rows.map natsL)), []) ∧ rows.length = m ∧ (∀ v, v < m → ∀ u, u ∈ rows.getD v [] ↔ Adj es v u) ∧ ∀ x ∈ rows, x.length ≤ es.length := by
  obtain ⟨rows, e, h⟩ := nears_go (F := callF Pm fu n) (fu := fu) r hl hm
  exact ⟨rows, by rw [call_eq pm_3]; exact e, by rw [call_eq pm_24, f24]; exact e, h⟩
end K08
end PF
end

section
set_option Elab.async false
set_option linter.all false
set_option maxRecDepth 100000
set_option maxHeartbeats 2000000
namespace PF
open PySem L2
namespace K08
variable {fu n : Nat}
def encO : Option Nat → W
  | none => .fz .non
  | some k => .fz (natD k)
def fzN (k : Nat) : W := .fz (natD k)
theorem fzN_all (l : List Nat) : (l.map fzN).all W.isFz = true := fz_all natD l
theorem fzN_all2 {α : Type} (f : α → Nat) (l : List α) : (l.map (fzN ∘ f)).all W.isFz = true := fz_all (fun x => natD (f x)) l
def reachI : IB := .cons (.ite (.cmp .is_ (.idx (.var 4) (.var 6)) (.cst .non)) (.cons (.asg (.sub (.var 4) (.var 6) false) (.bin .add (.idx (.var 4) (.idx (.var 5) (.var 2))) (.cst (.int 1)))) <|
        .cons (.exp (.app false (.var 5) (.var 6))) <|
        .nil) .nil) .nil
theorem reach_in {F : Nat → List W → Option (W × List W)} {web first nears : W} {f : List (Option Nat)} {line : List Nat} {at_ v k : Nat} (hv : v < f.length) (ha : at_ < line.length) (hu : line[at_] < f.length) (hk : f[line[at_]] = some k) (hl : line.length < 100000) :
    runB F fu reachI [some web, some first, some (.fz (.int (at_ : Nat))), some nears, some (.lst (f.map encO)), some (.lst (line.map fzN)), some (.fz (.int (v : Nat)))] =
      some (.nx (if f[v] = none then [some web, some first, some (.fz (.int (at_ : Nat))), some nears, some (.lst ((f.set v (some (k + 1))).map encO)), some (.lst ((line ++ [v]).map fzN)), some (.fz (.int (v : Nat)))]
        else [some web, some first, some (.fz (.int (at_ : Nat))), some nears, some (.lst (f.map encO)), some (.lst (line.map fzN)), some (.fz (.int (v : Nat)))])) := by
  have iv : ixN f.length (v : Int) = some v := ixN_nat hv
  have ia : ixN line.length (at_ : Int) = some at_ := ixN_nat ha
  have iu : ixN f.length (line[at_] : Int) = some line[at_] := ixN_nat hu
  have aa := app_ok (y := .fz (.int (v : Nat))) (ws := line.map fzN) (by simpa using hl)
  cases hf : f[v] with
  | none =>
    simp [f_len_l, f_len_t, f_len_p, f_len_s, f_abs, f_max2, f_min2, f_sorted, f_all, f_int_i, f_int_b, f_list_l, f_list_t, f_tuple_l, f_tuple_t, f_ptuple, f_dict_p, f_lrange, d_neg, d_not, d_add_i, d_add_l, d_add_t, d_add_p, d_sub, d_mul_i, d_fdiv, d_mod, d_pow, d_eq, d_ne, d_lt_i, d_lt_t, d_le, d_gt, d_ge, d_in, d_nin, d_is_nn, d_is_in, d_is_ln, d_is_tn, d_ix_l, d_ix_t, d_ix_p, d_ix_s, d_sl_l, d_sl_t, d_sl_p, q_var, q_cst, q_glo, q_un, q_bin, q_cmp, q_chn, q_and, q_or, q_ite, q_idx, q_slc, q_tup, q_lst, q_dic, q_call, q_bf, q_isi, q_get, q_app, q_ext, q_popL, q_popA, q_comp, turn_eq, t_not, t_and, t_or, t_cmp, t_chn, t_call, t_bf, t_isi, t_var, c_nil, c_one, o_nil, o_one, l_nil, l_cons, i_val, i_rng1, i_rng2, i_enu, i_zip, s_asg, s_asgs, s_aug, s_exp, s_del, s_retF, s_retT, s_retN, s_ite, s_whl, s_for, s_brk, s_cnt, s_pass, b_nil, b_cons, w_nm, w_un, w_sub, runF, boolA, res, W.toD, W.at, W.sub, isiD, takeA, takeS, takeC, putC, frzA, frzL, takeL, stoL, ST.own, resL, iosOf, fin_c, own, -List.all_map, fz_all, fz_all2, fz_all3, D.isAtom, W.isFz, W.flat, bindT, wipeG, backG, Arg.simple, pureE, pureL, idxA, stepOf, modP, W.setAt, W.setS, setW, popW, isL, isDc, itemsOf, toDs, toDs_fz, toDs_comp, toDs_fun, all_true, eqD_int, eqD_bl, atI_nat, atI_0, atI_1, atI_2, atI_3, ixN4_0, ixN4_1, ixN4_2, ixN4_3, reachI, iv, ia, iu, hv, ha, hu, hf, hk, encO, fzN, natD, aa]
  | some j =>
    simp [f_len_l, f_len_t, f_len_p, f_len_s, f_abs, f_max2, f_min2, f_sorted, f_all, f_int_i, f_int_b, f_list_l, f_list_t, f_tuple_l, f_tuple_t, f_ptuple, f_dict_p, f_lrange, d_neg, d_not, d_add_i, d_add_l, d_add_t, d_add_p, d_sub, d_mul_i, d_fdiv, d_mod, d_pow, d_eq, d_ne, d_lt_i, d_lt_t, d_le, d_gt, d_ge, d_in, d_nin, d_is_nn, d_is_in, d_is_ln, d_is_tn, d_ix_l, d_ix_t, d_ix_p, d_ix_s, d_sl_l, d_sl_t, d_sl_p, q_var, q_cst, q_glo, q_un, q_bin, q_cmp, q_chn, q_and, q_or, q_ite, q_idx, q_slc, q_tup, q_lst, q_dic, q_call, q_bf, q_isi, q_get, q_app, q_ext, q_popL, q_popA, q_comp, turn_eq, t_not, t_and, t_or, t_cmp, t_chn, t_call, t_bf, t_isi, t_var, c_nil, c_one, o_nil, o_one, l_nil, l_cons, i_val, i_rng1, i_rng2, i_enu, i_zip, s_asg, s_asgs, s_aug, s_exp, s_del, s_retF, s_retT, s_retN, s_ite, s_whl, s_for, s_brk, s_cnt, s_pass, b_nil, b_cons, w_nm, w_un, w_sub, runF, boolA, res, W.toD, W.at, W.sub, isiD, takeA, takeS, takeC, putC, frzA, frzL, takeL, stoL, ST.own, resL, iosOf, fin_c, own, -List.all_map, fz_all, fz_all2, fz_all3, D.isAtom, W.isFz, W.flat, bindT, wipeG, backG, Arg.simple, pureE, pureL, idxA, stepOf, modP, W.setAt, W.setS, setW, popW, isL, isDc, itemsOf, toDs, toDs_fz, toDs_comp, toDs_fun, all_true, eqD_int, eqD_bl, atI_nat, atI_0, atI_1, atI_2, atI_3, ixN4_0, ixN4_1, ixN4_2, ixN4_3, reachI, iv, hv, hf, encO, natD]
def reachG (web first nears : W) (at_ : Nat) (f : List (Option Nat)) (line : List Nat) (x : Option W) : Gam := [some web, some first, some (.fz (.int (at_ : Nat))), some nears, some (.lst (f.map encO)), some (.lst (line.map fzN)), x]
/-- all that stands near u is looked at -/
theorem reach_row {F : Nat → List W → Option (W × List W)} {web first nears : W} {m s at_ : Nat} {es : List (Nat × Nat)} {f : List (Option Nat)} {line row : List Nat} {x : Option W} (r : Rng m es) (hm : m ≤ 10000) (b : Bfs m es s f line) (ha : at_ < line.length) (top : ∀ w ∈ line, val f w ≤ val f line[at_] + 1) (hrow : ∀ v ∈ row, Adj es line[at_] v) :
    ∃ f' line' x', forQ F fu (.nm 6) reachI (row.map natD) (reachG web first nears at_ f line x) = some (.nx (reachG web first nears at_ f' line' x')) ∧ Bfs m es s f' line' ∧ (∃ t, line' = line ++ t) ∧ (∀ w ∈ line, val f' w = val f w) ∧ (∀ w ∈ line', val f' w ≤ val f' line[at_] + 1) ∧ ∀ v ∈ row, v ∈ line' := by
  obtain ⟨g', e, f', line', x', e2, b', t, k, top', hin⟩ := forL_inv (bind := fun d g => bindT (.nm 6) d g) (body := fun g => runB F fu reachI g) (ds := row.map natD) (g := reachG web first nears at_ f line x)
    (fun i g => ∃ (f' : List (Option Nat)) (line' : List Nat) (x' : Option W), g = reachG web first nears at_ f' line' x' ∧ Bfs m es s f' line' ∧ (∃ t, line' = line ++ t) ∧ (∀ w ∈ line, val f' w = val f w) ∧ (∀ w ∈ line', val f' w ≤ val f' line[at_] + 1) ∧ ∀ v ∈ row.take i, v ∈ line')
    ⟨f, line, x, rfl, b, ⟨[], by simp⟩, fun _ _ => rfl, top, by simp⟩
    (by
      rintro i d g hd ⟨f1, l1, x1, rfl, b1, ⟨t1, et⟩, k1, top1, in1⟩
      rw [List.getElem?_map, Option.map_eq_some_iff] at hd
      obtain ⟨v, hv, rfl⟩ := hd
      have hvr : v ∈ row := List.mem_of_getElem? hv
      have adj := hrow v hvr
      have hvm : v < m := (r.adj adj).2
      have hum : line[at_] ∈ line := List.getElem_mem ha
      have hul : line[at_] ∈ l1 := by rw [et]; simp [hum]
      have ha1 : at_ < l1.length := by rw [et, List.length_append]; omega
      have eu : l1[at_] = line[at_] := by simp [et, List.getElem_append_left, ha]
      obtain ⟨hu, hk⟩ := b1.get hul
      have hvf : v < f1.length := by rw [b1.len]; exact hvm
      obtain ⟨f2, l2, e2⟩ : ∃ f2 l2, (f2, l2) = if (f1[v]?).join = none then (f1.set v (some (val f1 line[at_] + 1)), l1 ++ [v]) else (f1, l1) := ⟨_, _, rfl⟩
      obtain ⟨b2, t2, k2, top2, in2⟩ := b1.look hul top1 adj hvm e2
      have st := reach_in (fu := fu) (F := F) (web := web) (first := first) (nears := nears) (f := f1) (line := l1) (at_ := at_) (v := v) (k := val f1 line[at_]) hvf ha1 (by rw [eu]; exact hu) (by simp only [eu]; exact hk) (by have := b1.len_le; omega)
      refine ⟨reachG web first nears at_ f1 l1 (some (.fz (natD v))), reachG web first nears at_ f2 l2 (some (.fz (natD v))), by simp [f_len_l, f_len_t, f_len_p, f_len_s, f_abs, f_max2, f_min2, f_sorted, f_all, f_int_i, f_int_b, f_list_l, f_list_t, f_tuple_l, f_tuple_t, f_ptuple, f_dict_p, f_lrange, d_neg, d_not, d_add_i, d_add_l, d_add_t, d_add_p, d_sub, d_mul_i, d_fdiv, d_mod, d_pow, d_eq, d_ne, d_lt_i, d_lt_t, d_le, d_gt, d_ge, d_in, d_nin, d_is_nn, d_is_in, d_is_ln, d_is_tn, d_ix_l, d_ix_t, d_ix_p, d_ix_s, d_sl_l, d_sl_t, d_sl_p, q_var, q_cst, q_glo, q_un, q_bin, q_cmp, q_chn, q_and, q_or, q_ite, q_idx, q_slc, q_tup, q_lst, q_dic, q_call, q_bf, q_isi, q_get, q_app, q_ext, q_popL, q_popA, q_comp, turn_eq, t_not, t_and, t_or, t_cmp, t_chn, t_call, t_bf, t_isi, t_var, c_nil, c_one, o_nil, o_one, l_nil, l_cons, i_val, i_rng1, i_rng2, i_enu, i_zip, s_asg, s_asgs, s_aug, s_exp, s_del, s_retF, s_retT, s_retN, s_ite, s_whl, s_for, s_brk, s_cnt, s_pass, b_nil, b_cons, w_nm, w_un, w_sub, runF, boolA, res, W.toD, W.at, W.sub, isiD, takeA, takeS, takeC, putC, frzA, frzL, takeL, stoL, ST.own, resL, iosOf, fin_c, own, -List.all_map, fz_all, fz_all2, fz_all3, D.isAtom, W.isFz, W.flat, bindT, wipeG, backG, Arg.simple, pureE, pureL, idxA, stepOf, modP, W.setAt, W.setS, setW, popW, isL, isDc, itemsOf, toDs, toDs_fz, toDs_comp, toDs_fun, all_true, eqD_int, eqD_bl, atI_nat, atI_0, atI_1, atI_2, atI_3, ixN4_0, ixN4_1, ixN4_2, ixN4_3, reachG], ?_, f2, l2, _, rfl, b2, ?_, fun w hw => ?_, top2, fun w hw => ?_⟩
      · have ej : (f1[v]?).join = f1[v] := by simp [hvf]
        rw [ej] at e2
        unfold reachG
        rw [show (W.fz (natD v)) = .fz (.int (v : Nat)) from rfl, st]
        by_cases c : f1[v] = none
        · rw [if_pos c] at e2 ⊢
          cases e2
          rfl
        · rw [if_neg c] at e2 ⊢
          cases e2
          rfl
      · obtain ⟨t2, q⟩ := t2
        exact ⟨t1 ++ t2, by rw [q, et, List.append_assoc]⟩
      · rw [k2 w (by rw [et]; simp [hw]), k1 w hw]
      · rw [List.take_add_one, hv] at hw
        rcases List.mem_append.mp hw with hw | hw
        · obtain ⟨t2, q⟩ := t2
          rw [q]
          simp [in1 w hw]
        · have : w = v := by simpa using hw
          rw [this]; exact in2)
  subst e2
  rw [List.length_map, List.take_length] at hin
  exact ⟨f', line', x', e, b', t, k, top', hin⟩
def reachB : IB := .cons (.for_ (.nm 6) (.val (.idx (.var 3) (.idx (.var 5) (.var 2)))) reachI) (.cons (.aug 2 .add (.cst (.int 1))) .nil)
theorem reach_loop {F : Nat → List W → Option (W × List W)} {web first : W} {m s : Nat} {es : List (Nat × Nat)} {rows : List (List Nat)} (r : Rng m es) (c : Conn m es) (hm : m ≤ 10000) (hs : s < m) (hr : rows.length = m) (hrow : ∀ v, v < m → ∀ u, u ∈ rows.getD v [] ↔ Adj es v u) (hfu : m < fu) :
    ∃ d x y at_, whlQ F fu (.cmp .lt (.var 2) (.bf .len (.cons (.var 5) .nil))) reachB fu (reachG web first (.fz (.lst (rows.map natsL))) 0 ((List.replicate m none).set s (some 0)) [s] none) = some (.nx [some web, some first, some (.fz (.int (at_ : Nat))), some (.fz (.lst (rows.map natsL))), some (.lst (d.map fzN)), x, y]) ∧ IsDist m es s d := by
  have key := whileL_inv (fu := fu) (m := m) (test := fun g => evT F (.cmp .lt (.var 2) (.bf .len (.cons (.var 5) .nil))) g) (body := fun g => runB F fu reachB g)
    (fun k g => ∃ (at_ : Nat) (f : List (Option Nat)) (line : List Nat) (x : Option W), g = reachG web first (.fz (.lst (rows.map natsL))) at_ f line x ∧ k = m - at_ ∧ Bfs m es s f line ∧ at_ ≤ line.length ∧ (∀ u ∈ line.take at_, DoneB es f line u) ∧ ∀ h : at_ < line.length, ∀ w ∈ line, val f w ≤ val f line[at_] + 1)
    (fun g => ∃ (d : List Nat) (x y : Option W) (at_ : Nat), g = [some web, some first, some (.fz (.int (at_ : Nat))), some (.fz (.lst (rows.map natsL))), some (.lst (d.map fzN)), x, y] ∧ IsDist m es s d)
    (by
      rintro k g ⟨at_, f, line, x, rfl, rfl, b, hle, done, top⟩
      have tl : toDs (line.map fzN) = line.map natD := by
        rw [toDs_map]; rfl
      by_cases h : at_ < line.length
      · right
        have hu : line[at_] ∈ line := List.getElem_mem h
        have hum : line[at_] < m := b.lt hu
        obtain ⟨f', l', x', e, b', t, k, top', hin⟩ := reach_row (fu := fu) (F := F) (web := web) (first := first) (nears := .fz (.lst (rows.map natsL))) (row := rows.getD line[at_] []) (x := x) r hm b h (top h) fun v hv => (hrow _ hum v).mp hv
        refine ⟨reachG web first (.fz (.lst (rows.map natsL))) at_ f line x, reachG web first (.fz (.lst (rows.map natsL))) (at_ + 1) f' l' x', m - (at_ + 1), ?_, ?_, ?_, at_ + 1, f', l', x', rfl, rfl, b', ?_, ?_, ?_⟩
        · simp [f_len_l, f_len_t, f_len_p, f_len_s, f_abs, f_max2, f_min2, f_sorted, f_all, f_int_i, f_int_b, f_list_l, f_list_t, f_tuple_l, f_tuple_t, f_ptuple, f_dict_p, f_lrange, d_neg, d_not, d_add_i, d_add_l, d_add_t, d_add_p, d_sub, d_mul_i, d_fdiv, d_mod, d_pow, d_eq, d_ne, d_lt_i, d_lt_t, d_le, d_gt, d_ge, d_in, d_nin, d_is_nn, d_is_in, d_is_ln, d_is_tn, d_ix_l, d_ix_t, d_ix_p, d_ix_s, d_sl_l, d_sl_t, d_sl_p, q_var, q_cst, q_glo, q_un, q_bin, q_cmp, q_chn, q_and, q_or, q_ite, q_idx, q_slc, q_tup, q_lst, q_dic, q_call, q_bf, q_isi, q_get, q_app, q_ext, q_popL, q_popA, q_comp, turn_eq, t_not, t_and, t_or, t_cmp, t_chn, t_call, t_bf, t_isi, t_var, c_nil, c_one, o_nil, o_one, l_nil, l_cons, i_val, i_rng1, i_rng2, i_enu, i_zip, s_asg, s_asgs, s_aug, s_exp, s_del, s_retF, s_retT, s_retN, s_ite, s_whl, s_for, s_brk, s_cnt, s_pass, b_nil, b_cons, w_nm, w_un, w_sub, runF, boolA, res, W.toD, W.at, W.sub, isiD, takeA, takeS, takeC, putC, frzA, frzL, takeL, stoL, ST.own, resL, iosOf, fin_c, own, -List.all_map, fz_all, fz_all2, fz_all3, D.isAtom, W.isFz, W.flat, bindT, wipeG, backG, Arg.simple, pureE, pureL, idxA, stepOf, modP, W.setAt, W.setS, setW, popW, isL, isDc, itemsOf, toDs, toDs_fz, toDs_comp, toDs_fun, all_true, eqD_int, eqD_bl, atI_nat, atI_0, atI_1, atI_2, atI_3, ixN4_0, ixN4_1, ixN4_2, ixN4_3, reachG, tl, h]
        · have hge : (rows.map natsL)[line[at_]]? = some (natsL (rows.getD line[at_] [])) := by
            have : line[at_] < rows.length := by rw [hr]; exact hum
            simp [this]
          have il : ixN line.length (at_ : Int) = some at_ := ixN_nat h
          have lt : (line.map fzN)[at_]? = some (fzN line[at_]) := by simp [h]
          have ev : evE F (.idx (.var 3) (.idx (.var 5) (.var 2))) (reachG web first (.fz (.lst (rows.map natsL))) at_ f line x) = some (.tmp (.fz (natsL (rows.getD line[at_] []))), reachG web first (.fz (.lst (rows.map natsL))) at_ f line x) := by
            simp [f_len_l, f_len_t, f_len_p, f_len_s, f_abs, f_max2, f_min2, f_sorted, f_all, f_int_i, f_int_b, f_list_l, f_list_t, f_tuple_l, f_tuple_t, f_ptuple, f_dict_p, f_lrange, d_neg, d_not, d_add_i, d_add_l, d_add_t, d_add_p, d_sub, d_mul_i, d_fdiv, d_mod, d_pow, d_eq, d_ne, d_lt_i, d_lt_t, d_le, d_gt, d_ge, d_in, d_nin, d_is_nn, d_is_in, d_is_ln, d_is_tn, d_ix_l, d_ix_t, d_ix_p, d_ix_s, d_sl_l, d_sl_t, d_sl_p, q_var, q_cst, q_glo, q_un, q_bin, q_cmp, q_chn, q_and, q_or, q_ite, q_idx, q_slc, q_tup, q_lst, q_dic, q_call, q_bf, q_isi, q_get, q_app, q_ext, q_popL, q_popA, q_comp, turn_eq, t_not, t_and, t_or, t_cmp, t_chn, t_call, t_bf, t_isi, t_var, c_nil, c_one, o_nil, o_one, l_nil, l_cons, i_val, i_rng1, i_rng2, i_enu, i_zip, s_asg, s_asgs, s_aug, s_exp, s_del, s_retF, s_retT, s_retN, s_ite, s_whl, s_for, s_brk, s_cnt, s_pass, b_nil, b_cons, w_nm, w_un, w_sub, runF, boolA, res, W.toD, W.at, W.sub, isiD, takeA, takeS, takeC, putC, frzA, frzL, takeL, stoL, ST.own, resL, iosOf, fin_c, own, -List.all_map, fz_all, fz_all2, fz_all3, D.isAtom, W.isFz, W.flat, bindT, wipeG, backG, Arg.simple, pureE, pureL, idxA, stepOf, modP, W.setAt, W.setS, setW, popW, isL, isDc, itemsOf, toDs, toDs_fz, toDs_comp, toDs_fun, all_true, eqD_int, eqD_bl, atI_nat, atI_0, atI_1, atI_2, atI_3, ixN4_0, ixN4_1, ixN4_2, ixN4_3, reachG, il, h, fzN, natD, hge]
          have e1 : evI F (.val (.idx (.var 3) (.idx (.var 5) (.var 2)))) (reachG web first (.fz (.lst (rows.map natsL))) at_ f line x) = some ((rows.getD line[at_] []).map natD, reachG web first (.fz (.lst (rows.map natsL))) at_ f line x) := by
            rw [i_val, ev]
            rfl
          unfold reachB
          rw [b_cons, s_for, e1, Option.bind_some, e]
          simp [f_len_l, f_len_t, f_len_p, f_len_s, f_abs, f_max2, f_min2, f_sorted, f_all, f_int_i, f_int_b, f_list_l, f_list_t, f_tuple_l, f_tuple_t, f_ptuple, f_dict_p, f_lrange, d_neg, d_not, d_add_i, d_add_l, d_add_t, d_add_p, d_sub, d_mul_i, d_fdiv, d_mod, d_pow, d_eq, d_ne, d_lt_i, d_lt_t, d_le, d_gt, d_ge, d_in, d_nin, d_is_nn, d_is_in, d_is_ln, d_is_tn, d_ix_l, d_ix_t, d_ix_p, d_ix_s, d_sl_l, d_sl_t, d_sl_p, q_var, q_cst, q_glo, q_un, q_bin, q_cmp, q_chn, q_and, q_or, q_ite, q_idx, q_slc, q_tup, q_lst, q_dic, q_call, q_bf, q_isi, q_get, q_app, q_ext, q_popL, q_popA, q_comp, turn_eq, t_not, t_and, t_or, t_cmp, t_chn, t_call, t_bf, t_isi, t_var, c_nil, c_one, o_nil, o_one, l_nil, l_cons, i_val, i_rng1, i_rng2, i_enu, i_zip, s_asg, s_asgs, s_aug, s_exp, s_del, s_retF, s_retT, s_retN, s_ite, s_whl, s_for, s_brk, s_cnt, s_pass, b_nil, b_cons, w_nm, w_un, w_sub, runF, boolA, res, W.toD, W.at, W.sub, isiD, takeA, takeS, takeC, putC, frzA, frzL, takeL, stoL, ST.own, resL, iosOf, fin_c, own, -List.all_map, fz_all, fz_all2, fz_all3, D.isAtom, W.isFz, W.flat, bindT, wipeG, backG, Arg.simple, pureE, pureL, idxA, stepOf, modP, W.setAt, W.setS, setW, popW, isL, isDc, itemsOf, toDs, toDs_fz, toDs_comp, toDs_fun, all_true, eqD_int, eqD_bl, atI_nat, atI_0, atI_1, atI_2, atI_3, ixN4_0, ixN4_1, ixN4_2, ixN4_3, reachG]
        · have := b.len_le; omega
        · obtain ⟨t, q⟩ := t
          rw [q, List.length_append]; omega
        · intro w hw
          obtain ⟨t', q⟩ := t
          have hw' : w ∈ line.take at_ ∨ w = line[at_] := by
            rw [q, List.take_append_of_le_length (by omega), List.take_add_one, List.getElem?_eq_getElem h] at hw
            rcases List.mem_append.mp hw with hw | hw
            · exact .inl hw
            · right
              rw [Option.toList_some] at hw
              exact List.mem_singleton.mp hw
          rcases hw' with hw | hw
          · exact (done w hw).keep (List.mem_of_mem_take hw) ⟨t', q⟩ k
          · subst hw
            intro v a
            have hv : v ∈ l' := hin v ((hrow _ hum v).mpr a)
            exact ⟨hv, top' v hv⟩
        · intro h' w hw
          refine Nat.le_trans (top' w hw) ?_
          obtain ⟨t', q⟩ := t
          have eu : l'[at_]'(by omega) = line[at_] := by simp [q, List.getElem_append_left, h]
          have := List.pairwise_iff_getElem.mp b'.mono at_ (at_ + 1) (by omega) h' (by omega)
          rw [eu] at this
          omega
      · left
        have ea : at_ = line.length := by omega
        subst ea
        refine ⟨reachG web first (.fz (.lst (rows.map natsL))) line.length f line x, by simp [f_len_l, f_len_t, f_len_p, f_len_s, f_abs, f_max2, f_min2, f_sorted, f_all, f_int_i, f_int_b, f_list_l, f_list_t, f_tuple_l, f_tuple_t, f_ptuple, f_dict_p, f_lrange, d_neg, d_not, d_add_i, d_add_l, d_add_t, d_add_p, d_sub, d_mul_i, d_fdiv, d_mod, d_pow, d_eq, d_ne, d_lt_i, d_lt_t, d_le, d_gt, d_ge, d_in, d_nin, d_is_nn, d_is_in, d_is_ln, d_is_tn, d_ix_l, d_ix_t, d_ix_p, d_ix_s, d_sl_l, d_sl_t, d_sl_p, q_var, q_cst, q_glo, q_un, q_bin, q_cmp, q_chn, q_and, q_or, q_ite, q_idx, q_slc, q_tup, q_lst, q_dic, q_call, q_bf, q_isi, q_get, q_app, q_ext, q_popL, q_popA, q_comp, turn_eq, t_not, t_and, t_or, t_cmp, t_chn, t_call, t_bf, t_isi, t_var, c_nil, c_one, o_nil, o_one, l_nil, l_cons, i_val, i_rng1, i_rng2, i_enu, i_zip, s_asg, s_asgs, s_aug, s_exp, s_del, s_retF, s_retT, s_retN, s_ite, s_whl, s_for, s_brk, s_cnt, s_pass, b_nil, b_cons, w_nm, w_un, w_sub, runF, boolA, res, W.toD, W.at, W.sub, isiD, takeA, takeS, takeC, putC, frzA, frzL, takeL, stoL, ST.own, resL, iosOf, fin_c, own, -List.all_map, fz_all, fz_all2, fz_all3, D.isAtom, W.isFz, W.flat, bindT, wipeG, backG, Arg.simple, pureE, pureL, idxA, stepOf, modP, W.setAt, W.setS, setW, popW, isL, isDc, itemsOf, toDs, toDs_fz, toDs_comp, toDs_fun, all_true, eqD_int, eqD_bl, atI_nat, atI_0, atI_1, atI_2, atI_3, ixN4_0, ixN4_1, ixN4_2, ixN4_3, reachG, tl], ?_⟩
        rw [List.take_length] at done
        obtain ⟨all, dist⟩ := b.dist r c hs done
        refine ⟨_, some (.lst (line.map fzN)), x, line.length, ?_, dist⟩
        unfold reachG
        have : f.map encO = ((List.range m).map (val f)).map fzN := by
          conv => lhs; rw [b.whole all]
          rw [List.map_map]
          rfl
        rw [this])
    (g := reachG web first (.fz (.lst (rows.map natsL))) 0 ((List.replicate m none).set s (some 0)) [s] none)
    ⟨0, _, _, _, rfl, by simp, Bfs.start hs, Nat.zero_le _, by simp, fun h w hw => by
      have : w = s := by simpa using hw
      subst this
      simp⟩ hfu
  obtain ⟨g', e, d, x, y, at_, e2, hd⟩ := key
  subst e2
  exact ⟨d, x, y, at_, e, hd⟩
theorem flat_none : ∀ m : Nat, ((List.replicate m [D.non]).flatten).map W.fz = (List.replicate m (none : Option Nat)).map encO
  | 0 => rfl
  | m + 1 => by
    rw [List.replicate_succ, List.replicate_succ, List.flatten_cons, List.map_append, List.map_cons, flat_none m]
    rfl
theorem reach_ok {m s : Nat} {es : List (Nat × Nat)} (r : Rng m es) (c : Conn m es) (hl : es.length ≤ 10000) (hm : m ≤ 10000) (hs : s < m) (hfu : m < fu) :
    ∃ d, callF Pm fu (n + 2) 4 [.fz (webD m es), .fz (natD s)] = some (.fz (natsL d), []) ∧ IsDist m es s d := by
  obtain ⟨rows, e3, _, h1, h2, _⟩ := nears_ok (fu := fu) (n := n) r hl hm
  obtain ⟨d, x, y, at_, e, hd⟩ := reach_loop (fu := fu) (F := callF Pm fu (n + 1)) (web := .fz (webD m es)) (first := .fz (natD s)) r c hm hs h1 h2 hfu
  refine ⟨d, ?_, hd⟩
  rw [call_eq pm_4]
  have td : toDs (d.map fzN) = d.map natD := by
    rw [toDs_map]; rfl
  have i0 : ixN m (s : Int) = some s := ixN_nat hs
  have mu := d_mul_l (xs := [D.non]) (k := m) (by simp) (by omega)
  have hfl := flat_none m
  have wd : webD m es = .tup [natD m, .tup (es.map hedgeD)] := rfl
  have td2 : natsL d = .lst (d.map natD) := rfl
  rw [wd] at e e3 ⊢
  have td' : toDs (d.map fun k => W.fz (D.int (k : Nat))) = d.map fun k => D.int (k : Nat) := toDs_map _ _
  simp [reachG, reachB, reachI, natD, natsL, encO, fzN, List.map_set] at e e3 mu ⊢
  simp [f_len_l, f_len_t, f_len_p, f_len_s, f_abs, f_max2, f_min2, f_sorted, f_all, f_int_i, f_int_b, f_list_l, f_list_t, f_tuple_l, f_tuple_t, f_ptuple, f_dict_p, f_lrange, d_neg, d_not, d_add_i, d_add_l, d_add_t, d_add_p, d_sub, d_mul_i, d_fdiv, d_mod, d_pow, d_eq, d_ne, d_lt_i, d_lt_t, d_le, d_gt, d_ge, d_in, d_nin, d_is_nn, d_is_in, d_is_ln, d_is_tn, d_ix_l, d_ix_t, d_ix_p, d_ix_s, d_sl_l, d_sl_t, d_sl_p, q_var, q_cst, q_glo, q_un, q_bin, q_cmp, q_chn, q_and, q_or, q_ite, q_idx, q_slc, q_tup, q_lst, q_dic, q_call, q_bf, q_isi, q_get, q_app, q_ext, q_popL, q_popA, q_comp, turn_eq, t_not, t_and, t_or, t_cmp, t_chn, t_call, t_bf, t_isi, t_var, c_nil, c_one, o_nil, o_one, l_nil, l_cons, i_val, i_rng1, i_rng2, i_enu, i_zip, s_asg, s_asgs, s_aug, s_exp, s_del, s_retF, s_retT, s_retN, s_ite, s_whl, s_for, s_brk, s_cnt, s_pass, b_nil, b_cons, w_nm, w_un, w_sub, runF, boolA, res, W.toD, W.at, W.sub, isiD, takeA, takeS, takeC, putC, frzA, frzL, takeL, stoL, ST.own, resL, iosOf, fin_c, own, -List.all_map, fz_all, fz_all2, fz_all3, D.isAtom, W.isFz, W.flat, bindT, wipeG, backG, Arg.simple, pureE, pureL, idxA, stepOf, modP, W.setAt, W.setS, setW, popW, isL, isDc, itemsOf, toDs, toDs_fz, toDs_comp, toDs_fun, all_true, eqD_int, eqD_bl, atI_nat, atI_0, atI_1, atI_2, atI_3, ixN4_0, ixN4_1, ixN4_2, ixN4_3, f_4, e3, mu, i0, slk_ok, e, fzN, td']
  exact td
end K08
end PF
end

section
set_option Elab.async false
set_option linter.all false
set_option maxRecDepth 100000
set_option maxHeartbeats 2000000
namespace PF
open PySem L2
namespace K08
variable {fu n : Nat}
def farI : IB := .cons (.ite (.cmp .is_ (.idx (.var 3) (.var 8)) (.cst .non)) (.cons (.asg (.sub (.var 3) (.var 8) false) (.var 5)) <|
          .cons (.exp (.app false (.var 7) (.var 8))) <|
          .nil) .nil) .nil
def farG (web first nears : W) (f : List (Option Nat)) (rim : W) (k : Nat) (u : Option W) (later : List Nat) (x : Option W) : Gam := [some web, some first, some nears, some (.lst (f.map encO)), some rim, some (.fz (.int (k : Nat))), u, some (.lst (later.map fzN)), x]
theorem far_in {F : Nat → List W → Option (W × List W)} {web first nears rim : W} {u : Option W} {f : List (Option Nat)} {later : List Nat} {v k : Nat} (hv : v < f.length) (hl : later.length < 100000) :
    runB F fu farI (farG web first nears f rim k u later (some (.fz (natD v)))) =
      some (.nx (if f[v] = none then farG web first nears (f.set v (some k)) rim k u (later ++ [v]) (some (.fz (natD v))) else farG web first nears f rim k u later (some (.fz (natD v))))) := by
  have iv : ixN f.length (v : Int) = some v := ixN_nat hv
  have aa := app_ok (y := .fz (.int (v : Nat))) (ws := later.map fzN) (by simpa using hl)
  cases hf : f[v] with
  | none => simp [f_len_l, f_len_t, f_len_p, f_len_s, f_abs, f_max2, f_min2, f_sorted, f_all, f_int_i, f_int_b, f_list_l, f_list_t, f_tuple_l, f_tuple_t, f_ptuple, f_dict_p, f_lrange, d_neg, d_not, d_add_i, d_add_l, d_add_t, d_add_p, d_sub, d_mul_i, d_fdiv, d_mod, d_pow, d_eq, d_ne, d_lt_i, d_lt_t, d_le, d_gt, d_ge, d_in, d_nin, d_is_nn, d_is_in, d_is_ln, d_is_tn, d_ix_l, d_ix_t, d_ix_p, d_ix_s, d_sl_l, d_sl_t, d_sl_p, q_var, q_cst, q_glo, q_un, q_bin, q_cmp, q_chn, q_and, q_or, q_ite, q_idx, q_slc, q_tup, q_lst, q_dic, q_call, q_bf, q_isi, q_get, q_app, q_ext, q_popL, q_popA, q_comp, turn_eq, t_not, t_and, t_or, t_cmp, t_chn, t_call, t_bf, t_isi, t_var, c_nil, c_one, o_nil, o_one, l_nil, l_cons, i_val, i_rng1, i_rng2, i_enu, i_zip, s_asg, s_asgs, s_aug, s_exp, s_del, s_retF, s_retT, s_retN, s_ite, s_whl, s_for, s_brk, s_cnt, s_pass, b_nil, b_cons, w_nm, w_un, w_sub, runF, boolA, res, W.toD, W.at, W.sub, isiD, takeA, takeS, takeC, putC, frzA, frzL, takeL, stoL, ST.own, resL, iosOf, fin_c, own, -List.all_map, fz_all, fz_all2, fz_all3, D.isAtom, W.isFz, W.flat, bindT, wipeG, backG, Arg.simple, pureE, pureL, idxA, stepOf, modP, W.setAt, W.setS, setW, popW, isL, isDc, itemsOf, toDs, toDs_fz, toDs_comp, toDs_fun, all_true, eqD_int, eqD_bl, atI_nat, atI_0, atI_1, atI_2, atI_3, ixN4_0, ixN4_1, ixN4_2, ixN4_3, farI, farG, iv, hv, hf, encO, fzN, natD, aa]
  | some j => simp [f_len_l, f_len_t, f_len_p, f_len_s, f_abs, f_max2, f_min2, f_sorted, f_all, f_int_i, f_int_b, f_list_l, f_list_t, f_tuple_l, f_tuple_t, f_ptuple, f_dict_p, f_lrange, d_neg, d_not, d_add_i, d_add_l, d_add_t, d_add_p, d_sub, d_mul_i, d_fdiv, d_mod, d_pow, d_eq, d_ne, d_lt_i, d_lt_t, d_le, d_gt, d_ge, d_in, d_nin, d_is_nn, d_is_in, d_is_ln, d_is_tn, d_ix_l, d_ix_t, d_ix_p, d_ix_s, d_sl_l, d_sl_t, d_sl_p, q_var, q_cst, q_glo, q_un, q_bin, q_cmp, q_chn, q_and, q_or, q_ite, q_idx, q_slc, q_tup, q_lst, q_dic, q_call, q_bf, q_isi, q_get, q_app, q_ext, q_popL, q_popA, q_comp, turn_eq, t_not, t_and, t_or, t_cmp, t_chn, t_call, t_bf, t_isi, t_var, c_nil, c_one, o_nil, o_one, l_nil, l_cons, i_val, i_rng1, i_rng2, i_enu, i_zip, s_asg, s_asgs, s_aug, s_exp, s_del, s_retF, s_retT, s_retN, s_ite, s_whl, s_for, s_brk, s_cnt, s_pass, b_nil, b_cons, w_nm, w_un, w_sub, runF, boolA, res, W.toD, W.at, W.sub, isiD, takeA, takeS, takeC, putC, frzA, frzL, takeL, stoL, ST.own, resL, iosOf, fin_c, own, -List.all_map, fz_all, fz_all2, fz_all3, D.isAtom, W.isFz, W.flat, bindT, wipeG, backG, Arg.simple, pureE, pureL, idxA, stepOf, modP, W.setAt, W.setS, setW, popW, isL, isDc, itemsOf, toDs, toDs_fz, toDs_comp, toDs_fun, all_true, eqD_int, eqD_bl, atI_nat, atI_0, atI_1, atI_2, atI_3, ixN4_0, ixN4_1, ixN4_2, ixN4_3, farI, farG, iv, hv, hf, encO, natD]
/-- all that stands near u is looked at: pre, what was found before the rim's later ones -/
theorem far_row {F : Nat → List W → Option (W × List W)} {web first nears rim : W} {m s u : Nat} {U : Option W} {es : List (Nat × Nat)} {f : List (Option Nat)} {pre later row : List Nat} {x : Option W} (r : Rng m es) (hm : m ≤ 10000) (b : Bfs m es s f (pre ++ later)) (hu : u ∈ pre) (top : ∀ w ∈ pre ++ later, val f w ≤ val f u + 1) (hrow : ∀ v ∈ row, Adj es u v) (hlat : ∀ w ∈ later, val f w = val f u + 1) :
    ∃ f' later' x', forQ F fu (.nm 8) farI (row.map natD) (farG web first nears f rim (val f u + 1) U later x) = some (.nx (farG web first nears f' rim (val f u + 1) U later' x')) ∧ Bfs m es s f' (pre ++ later') ∧ (∃ t, later' = later ++ t) ∧ (∀ w ∈ pre ++ later, val f' w = val f w) ∧ (∀ w ∈ pre ++ later', val f' w ≤ val f' u + 1) ∧ (∀ v ∈ row, v ∈ pre ++ later') ∧ ∀ w ∈ later', val f' w = val f u + 1 := by
  obtain ⟨g', e, f', later', x', e2, b', t, k, top', hin, hl'⟩ := forL_inv (bind := fun d g => bindT (.nm 8) d g) (body := fun g => runB F fu farI g) (ds := row.map natD) (g := farG web first nears f rim (val f u + 1) U later x)
    (fun i g => ∃ (f' : List (Option Nat)) (later' : List Nat) (x' : Option W), g = farG web first nears f' rim (val f u + 1) U later' x' ∧ Bfs m es s f' (pre ++ later') ∧ (∃ t, later' = later ++ t) ∧ (∀ w ∈ pre ++ later, val f' w = val f w) ∧ (∀ w ∈ pre ++ later', val f' w ≤ val f' u + 1) ∧ (∀ v ∈ row.take i, v ∈ pre ++ later') ∧ ∀ w ∈ later', val f' w = val f u + 1)
    ⟨f, later, x, rfl, b, ⟨[], by simp⟩, fun _ _ => rfl, top, by simp, hlat⟩
    (by
      rintro i d g hd ⟨f1, l1, x1, rfl, b1, ⟨t1, et⟩, k1, top1, in1, lat1⟩
      rw [List.getElem?_map, Option.map_eq_some_iff] at hd
      obtain ⟨v, hv, rfl⟩ := hd
      have hvr : v ∈ row := List.mem_of_getElem? hv
      have adj := hrow v hvr
      have hvm : v < m := (r.adj adj).2
      have hul : u ∈ pre ++ l1 := by simp [hu]
      have hvf : v < f1.length := by rw [b1.len]; exact hvm
      have eu : val f1 u = val f u := k1 u (by simp [hu])
      obtain ⟨f2, l2, e2⟩ : ∃ f2 l2, (f2, l2) = if (f1[v]?).join = none then (f1.set v (some (val f1 u + 1)), (pre ++ l1) ++ [v]) else (f1, pre ++ l1) := ⟨_, _, rfl⟩
      obtain ⟨b2, ⟨t2, et2⟩, k2, top2, in2⟩ := b1.look hul top1 adj hvm e2
      have st := far_in (fu := fu) (F := F) (web := web) (first := first) (nears := nears) (rim := rim) (u := U) (f := f1) (later := l1) (v := v) (k := val f u + 1) hvf (by have := b1.len_le; rw [List.length_append] at this; omega)
      have ej : (f1[v]?).join = f1[v] := by simp [hvf]
      rw [ej, eu] at e2
      have hl2 : l2 = pre ++ (l1 ++ t2) := by rw [et2, List.append_assoc]
      rw [hl2] at b2 top2 in2
      refine ⟨farG web first nears f1 rim (val f u + 1) U l1 (some (.fz (natD v))), farG web first nears f2 rim (val f u + 1) U (l1 ++ t2) (some (.fz (natD v))), by simp [f_len_l, f_len_t, f_len_p, f_len_s, f_abs, f_max2, f_min2, f_sorted, f_all, f_int_i, f_int_b, f_list_l, f_list_t, f_tuple_l, f_tuple_t, f_ptuple, f_dict_p, f_lrange, d_neg, d_not, d_add_i, d_add_l, d_add_t, d_add_p, d_sub, d_mul_i, d_fdiv, d_mod, d_pow, d_eq, d_ne, d_lt_i, d_lt_t, d_le, d_gt, d_ge, d_in, d_nin, d_is_nn, d_is_in, d_is_ln, d_is_tn, d_ix_l, d_ix_t, d_ix_p, d_ix_s, d_sl_l, d_sl_t, d_sl_p, q_var, q_cst, q_glo, q_un, q_bin, q_cmp, q_chn, q_and, q_or, q_ite, q_idx, q_slc, q_tup, q_lst, q_dic, q_call, q_bf, q_isi, q_get, q_app, q_ext, q_popL, q_popA, q_comp, turn_eq, t_not, t_and, t_or, t_cmp, t_chn, t_call, t_bf, t_isi, t_var, c_nil, c_one, o_nil, o_one, l_nil, l_cons, i_val, i_rng1, i_rng2, i_enu, i_zip, s_asg, s_asgs, s_aug, s_exp, s_del, s_retF, s_retT, s_retN, s_ite, s_whl, s_for, s_brk, s_cnt, s_pass, b_nil, b_cons, w_nm, w_un, w_sub, runF, boolA, res, W.toD, W.at, W.sub, isiD, takeA, takeS, takeC, putC, frzA, frzL, takeL, stoL, ST.own, resL, iosOf, fin_c, own, -List.all_map, fz_all, fz_all2, fz_all3, D.isAtom, W.isFz, W.flat, bindT, wipeG, backG, Arg.simple, pureE, pureL, idxA, stepOf, modP, W.setAt, W.setS, setW, popW, isL, isDc, itemsOf, toDs, toDs_fz, toDs_comp, toDs_fun, all_true, eqD_int, eqD_bl, atI_nat, atI_0, atI_1, atI_2, atI_3, ixN4_0, ixN4_1, ixN4_2, ixN4_3, farG], ?_, f2, l1 ++ t2, _, rfl, b2, ⟨t1 ++ t2, by rw [et, List.append_assoc]⟩, fun w hw => ?_, top2, fun w hw => ?_, fun w hw => ?_⟩
      · rw [st]
        by_cases c : f1[v] = none
        · rw [if_pos c] at e2 ⊢
          cases e2
          have : t2 = [v] := by
            have := et2
            simpa using this.symm
          rw [this]
        · rw [if_neg c] at e2 ⊢
          cases e2
          have : t2 = [] := by
            have := et2
            simpa using this
          rw [this, List.append_nil]
      · rw [k2 w (by rw [et]; rcases List.mem_append.mp hw with h | h <;> simp [h]), k1 w hw]
      · rw [List.take_add_one, hv] at hw
        rcases List.mem_append.mp hw with hw | hw
        · have := in1 w hw
          rcases List.mem_append.mp this with h | h <;> simp [h]
        · have : w = v := by simpa using hw
          rw [this]; exact in2
      · rcases List.mem_append.mp hw with hw | hw
        · rw [k2 w (by simp [hw]), lat1 w hw]
        · by_cases c : f1[v] = none
          · rw [if_pos c] at e2
            cases e2
            have : t2 = [v] := by
              have := et2
              simpa using this.symm
            rw [this] at hw
            have : w = v := by simpa using hw
            rw [this, val_set hvf, if_pos rfl]
          · rw [if_neg c] at e2
            cases e2
            have : t2 = [] := by
              have := et2
              simpa using this
            rw [this] at hw
            cases hw)
  subst e2
  rw [List.length_map, List.take_length] at hin
  exact ⟨f', later', x', e, b', t, k, top', hin, hl'⟩
theorem lay_nats : ∀ l : List Nat, layDs (l.map natD) = true
  | [] => rfl
  | a :: l => by
    show (true && layDs (l.map natD)) = true
    rw [lay_nats l]; rfl
theorem dep_nats : ∀ l : List Nat, depDs (l.map natD) = 0
  | [] => rfl
  | a :: l => by
    show max 0 (depDs (l.map natD)) = 0
    rw [dep_nats l]; rfl
theorem eq_nil (l : List Nat) : eqD (natsL l) (.lst []) = some (decide (l = [])) := by
  have h : okD (natsL l) = true := by
    unfold okD natsL
    simp [layD, lay_nats, depD, dep_nats]
  unfold eqD
  rw [h]
  cases l <;> rfl
def farR : IB := .cons (.for_ (.nm 8) (.val (.idx (.var 2) (.var 6))) farI) .nil
/-- the whole rim -/
theorem far_rim {F : Nat → List W → Option (W × List W)} {web first rim : W} {m s k : Nat} {es : List (Nat × Nat)} {rows : List (List Nat)} {f : List (Option Nat)} {Dn rm : List Nat} {U x : Option W} (r : Rng m es) (hm : m ≤ 10000) (hr : rows.length = m) (hrow : ∀ v, v < m → ∀ u, u ∈ rows.getD v [] ↔ Adj es v u) (b : Bfs m es s f (Dn ++ rm)) (hk : ∀ w ∈ rm, val f w = k) (hD : ∀ w ∈ Dn, val f w ≤ k) :
    ∃ f' later U' x', forQ F fu (.nm 6) farR (rm.map natD) (farG web first (.fz (.lst (rows.map natsL))) f rim (k + 1) U [] x) = some (.nx (farG web first (.fz (.lst (rows.map natsL))) f' rim (k + 1) U' later x')) ∧ Bfs m es s f' ((Dn ++ rm) ++ later) ∧ (∀ w ∈ Dn ++ rm, val f' w = val f w) ∧ (∀ u ∈ rm, DoneB es f' ((Dn ++ rm) ++ later) u) ∧ ∀ w ∈ later, val f' w = k + 1 := by
  obtain ⟨g', e, f', later, U', x', e2, b', k', done, hl'⟩ := forL_inv (bind := fun d g => bindT (.nm 6) d g) (body := fun g => runB F fu farR g) (ds := rm.map natD) (g := farG web first (.fz (.lst (rows.map natsL))) f rim (k + 1) U [] x)
    (fun i g => ∃ (f' : List (Option Nat)) (later : List Nat) (U' x' : Option W), g = farG web first (.fz (.lst (rows.map natsL))) f' rim (k + 1) U' later x' ∧ Bfs m es s f' ((Dn ++ rm) ++ later) ∧ (∀ w ∈ Dn ++ rm, val f' w = val f w) ∧ (∀ u ∈ rm.take i, DoneB es f' ((Dn ++ rm) ++ later) u) ∧ ∀ w ∈ later, val f' w = k + 1)
    ⟨f, [], U, x, rfl, by rw [List.append_nil]; exact b, fun _ _ => rfl, by simp, by simp⟩
    (by
      rintro i d g hd ⟨f1, l1, U1, x1, rfl, b1, k1, done1, lat1⟩
      rw [List.getElem?_map, Option.map_eq_some_iff] at hd
      obtain ⟨u, hu, rfl⟩ := hd
      have hur : u ∈ rm := List.mem_of_getElem? hu
      have hup : u ∈ Dn ++ rm := by simp [hur]
      have hum : u < m := b1.lt (by simp [hur])
      have vu : val f1 u = k := by rw [k1 u hup, hk u hur]
      have top1 : ∀ w ∈ (Dn ++ rm) ++ l1, val f1 w ≤ val f1 u + 1 := fun w hw => by
        rw [vu]
        rcases List.mem_append.mp hw with hw | hw
        · rw [k1 w hw]
          rcases List.mem_append.mp hw with hw | hw
          · have := hD w hw; omega
          · have := hk w hw; omega
        · have := lat1 w hw; omega
      obtain ⟨f2, l2, x2, e, b2, ⟨t, et⟩, k2, top2, in2, lat2⟩ := far_row (fu := fu) (F := F) (web := web) (first := first) (nears := .fz (.lst (rows.map natsL))) (rim := rim) (row := rows.getD u []) (U := some (.fz (natD u))) (x := x1) r hm b1 hup top1 (fun v hv => (hrow u hum v).mp hv) (fun w hw => by rw [lat1 w hw, vu])
      rw [vu] at e lat2
      have hge : (rows.map natsL)[u]? = some (natsL (rows.getD u [])) := by
        have : u < rows.length := by rw [hr]; exact hum
        simp [this]
      have ev : evE F (.idx (.var 2) (.var 6)) (farG web first (.fz (.lst (rows.map natsL))) f1 rim (k + 1) (some (.fz (natD u))) l1 x1) = some (.tmp (.fz (natsL (rows.getD u []))), farG web first (.fz (.lst (rows.map natsL))) f1 rim (k + 1) (some (.fz (natD u))) l1 x1) := by
        simp [f_len_l, f_len_t, f_len_p, f_len_s, f_abs, f_max2, f_min2, f_sorted, f_all, f_int_i, f_int_b, f_list_l, f_list_t, f_tuple_l, f_tuple_t, f_ptuple, f_dict_p, f_lrange, d_neg, d_not, d_add_i, d_add_l, d_add_t, d_add_p, d_sub, d_mul_i, d_fdiv, d_mod, d_pow, d_eq, d_ne, d_lt_i, d_lt_t, d_le, d_gt, d_ge, d_in, d_nin, d_is_nn, d_is_in, d_is_ln, d_is_tn, d_ix_l, d_ix_t, d_ix_p, d_ix_s, d_sl_l, d_sl_t, d_sl_p, q_var, q_cst, q_glo, q_un, q_bin, q_cmp, q_chn, q_and, q_or, q_ite, q_idx, q_slc, q_tup, q_lst, q_dic, q_call, q_bf, q_isi, q_get, q_app, q_ext, q_popL, q_popA, q_comp, turn_eq, t_not, t_and, t_or, t_cmp, t_chn, t_call, t_bf, t_isi, t_var, c_nil, c_one, o_nil, o_one, l_nil, l_cons, i_val, i_rng1, i_rng2, i_enu, i_zip, s_asg, s_asgs, s_aug, s_exp, s_del, s_retF, s_retT, s_retN, s_ite, s_whl, s_for, s_brk, s_cnt, s_pass, b_nil, b_cons, w_nm, w_un, w_sub, runF, boolA, res, W.toD, W.at, W.sub, isiD, takeA, takeS, takeC, putC, frzA, frzL, takeL, stoL, ST.own, resL, iosOf, fin_c, own, -List.all_map, fz_all, fz_all2, fz_all3, D.isAtom, W.isFz, W.flat, bindT, wipeG, backG, Arg.simple, pureE, pureL, idxA, stepOf, modP, W.setAt, W.setS, setW, popW, isL, isDc, itemsOf, toDs, toDs_fz, toDs_comp, toDs_fun, all_true, eqD_int, eqD_bl, atI_nat, atI_0, atI_1, atI_2, atI_3, ixN4_0, ixN4_1, ixN4_2, ixN4_3, farG, natD, hge]
      have e1 : evI F (.val (.idx (.var 2) (.var 6))) (farG web first (.fz (.lst (rows.map natsL))) f1 rim (k + 1) (some (.fz (natD u))) l1 x1) = some ((rows.getD u []).map natD, farG web first (.fz (.lst (rows.map natsL))) f1 rim (k + 1) (some (.fz (natD u))) l1 x1) := by
        rw [i_val, ev]
        rfl
      refine ⟨farG web first (.fz (.lst (rows.map natsL))) f1 rim (k + 1) (some (.fz (natD u))) l1 x1, _, by simp [f_len_l, f_len_t, f_len_p, f_len_s, f_abs, f_max2, f_min2, f_sorted, f_all, f_int_i, f_int_b, f_list_l, f_list_t, f_tuple_l, f_tuple_t, f_ptuple, f_dict_p, f_lrange, d_neg, d_not, d_add_i, d_add_l, d_add_t, d_add_p, d_sub, d_mul_i, d_fdiv, d_mod, d_pow, d_eq, d_ne, d_lt_i, d_lt_t, d_le, d_gt, d_ge, d_in, d_nin, d_is_nn, d_is_in, d_is_ln, d_is_tn, d_ix_l, d_ix_t, d_ix_p, d_ix_s, d_sl_l, d_sl_t, d_sl_p, q_var, q_cst, q_glo, q_un, q_bin, q_cmp, q_chn, q_and, q_or, q_ite, q_idx, q_slc, q_tup, q_lst, q_dic, q_call, q_bf, q_isi, q_get, q_app, q_ext, q_popL, q_popA, q_comp, turn_eq, t_not, t_and, t_or, t_cmp, t_chn, t_call, t_bf, t_isi, t_var, c_nil, c_one, o_nil, o_one, l_nil, l_cons, i_val, i_rng1, i_rng2, i_enu, i_zip, s_asg, s_asgs, s_aug, s_exp, s_del, s_retF, s_retT, s_retN, s_ite, s_whl, s_for, s_brk, s_cnt, s_pass, b_nil, b_cons, w_nm, w_un, w_sub, runF, boolA, res, W.toD, W.at, W.sub, isiD, takeA, takeS, takeC, putC, frzA, frzL, takeL, stoL, ST.own, resL, iosOf, fin_c, own, -List.all_map, fz_all, fz_all2, fz_all3, D.isAtom, W.isFz, W.flat, bindT, wipeG, backG, Arg.simple, pureE, pureL, idxA, stepOf, modP, W.setAt, W.setS, setW, popW, isL, isDc, itemsOf, toDs, toDs_fz, toDs_comp, toDs_fun, all_true, eqD_int, eqD_bl, atI_nat, atI_0, atI_1, atI_2, atI_3, ixN4_0, ixN4_1, ixN4_2, ixN4_3, farG], by unfold farR; rw [b_cons, s_for, e1, Option.bind_some, e]; rfl, f2, l2, _, _, rfl, b2, fun w hw => by rw [k2 w (by simp at hw ⊢; rcases hw with h | h <;> simp [h]), k1 w hw], fun w hw => ?_, lat2⟩
      have grow : ∃ t', (Dn ++ rm) ++ l2 = ((Dn ++ rm) ++ l1) ++ t' := ⟨t, by rw [et, ← List.append_assoc]⟩
      rw [List.take_add_one, hu] at hw
      rcases List.mem_append.mp hw with hw | hw
      · have hwm := List.mem_of_mem_take hw
        exact (done1 w hw).keep (by simp [hwm]) grow k2
      · have : w = u := by simpa using hw
        subst this
        intro v a
        have hv := in2 v ((hrow w hum v).mpr a)
        exact ⟨hv, top2 v hv⟩)
  subst e2
  rw [List.length_map, List.take_length] at done
  exact ⟨f', later, U', x', e, b', k', done, hl'⟩
def farB : IB := .cons (.asgs [(.nm 5 false), (.nm 7 true)] (.cons (.bin .add (.var 5) (.cst (.int 1))) (.cons (.lst false .nil) .nil))) <|
    .cons (.for_ (.nm 6) (.val (.var 4)) farR) <|
    .cons (.asg (.nm 4 false) (.var 7)) <|
    .nil
def farG2 (web first nears : W) (f : List (Option Nat)) (rim : List Nat) (k : Nat) (u l x : Option W) : Gam := [some web, some first, some nears, some (.lst (f.map encO)), some (.fz (natsL rim)), some (.fz (.int (k : Nat))), u, l, x]
theorem far_loop {F : Nat → List W → Option (W × List W)} {web first : W} {m s : Nat} {es : List (Nat × Nat)} {rows : List (List Nat)} (r : Rng m es) (c : Conn m es) (hm : m ≤ 10000) (hs : s < m) (hr : rows.length = m) (hrow : ∀ v, v < m → ∀ u, u ∈ rows.getD v [] ↔ Adj es v u) (hfu : m + 1 < fu) :
    ∃ d g', whlQ F fu (.cmp .ne (.var 4) (.lst false .nil)) farB fu (farG2 web first (.fz (.lst (rows.map natsL))) ((List.replicate m none).set s (some 0)) [s] 0 none none none) = some (.nx g') ∧ (∃ a b c d1 e f, g' = [a, b, c, some (.lst (d.map fzN)), d1, e, f] ++ g'.drop 7) ∧ IsDist m es s d := by
  have s0 : ∀ w ∈ [s], val ((List.replicate m none).set s (some 0)) w = 0 := fun w hw => by
    have : w = s := by simpa using hw
    rw [this]
    exact (Bfs.start (es := es) hs).src.2
  have key := whileL_inv (fu := fu) (m := m) (test := fun g => evT F (.cmp .ne (.var 4) (.lst false .nil)) g) (body := fun g => runB F fu farB g)
    (fun j g => ∃ (f : List (Option Nat)) (Dn rm : List Nat) (k : Nat) (u l x : Option W), g = farG2 web first (.fz (.lst (rows.map natsL))) f rm k u l x ∧ j = (m - (Dn ++ rm).length) + (if rm = [] then 0 else 1) ∧ Bfs m es s f (Dn ++ rm) ∧ (∀ u ∈ Dn, DoneB es f (Dn ++ rm) u) ∧ (∀ w ∈ rm, val f w = k) ∧ ∀ w ∈ Dn, val f w ≤ k)
    (fun g => ∃ (d : List Nat), (∃ (u l x a b c e : Option W), g = [some web, some first, a, some (.lst (d.map fzN)), b, c, u, l, x]) ∧ IsDist m es s d)
    (by
      rintro j g ⟨f, Dn, rm, k, u, l, x, rfl, rfl, b, done, hk, hD⟩
      by_cases h : rm = []
      · left
        subst h
        rw [List.append_nil] at b
        obtain ⟨all, dist⟩ := b.dist r c hs (fun u hu => by have := done u hu; rw [List.append_nil] at this; exact this)
        have hf : f.map encO = ((List.range m).map (val f)).map fzN := by
          conv => lhs; rw [b.whole all]
          rw [List.map_map]
          rfl
        refine ⟨farG2 web first (.fz (.lst (rows.map natsL))) f [] k u l x, ?_, _, ⟨u, l, x, _, _, _, none, by unfold farG2; rw [hf]⟩, dist⟩
        have en : eqD (.lst []) (.lst []) = some true := rfl
        simp [f_len_l, f_len_t, f_len_p, f_len_s, f_abs, f_max2, f_min2, f_sorted, f_all, f_int_i, f_int_b, f_list_l, f_list_t, f_tuple_l, f_tuple_t, f_ptuple, f_dict_p, f_lrange, d_neg, d_not, d_add_i, d_add_l, d_add_t, d_add_p, d_sub, d_mul_i, d_fdiv, d_mod, d_pow, d_eq, d_ne, d_lt_i, d_lt_t, d_le, d_gt, d_ge, d_in, d_nin, d_is_nn, d_is_in, d_is_ln, d_is_tn, d_ix_l, d_ix_t, d_ix_p, d_ix_s, d_sl_l, d_sl_t, d_sl_p, q_var, q_cst, q_glo, q_un, q_bin, q_cmp, q_chn, q_and, q_or, q_ite, q_idx, q_slc, q_tup, q_lst, q_dic, q_call, q_bf, q_isi, q_get, q_app, q_ext, q_popL, q_popA, q_comp, turn_eq, t_not, t_and, t_or, t_cmp, t_chn, t_call, t_bf, t_isi, t_var, c_nil, c_one, o_nil, o_one, l_nil, l_cons, i_val, i_rng1, i_rng2, i_enu, i_zip, s_asg, s_asgs, s_aug, s_exp, s_del, s_retF, s_retT, s_retN, s_ite, s_whl, s_for, s_brk, s_cnt, s_pass, b_nil, b_cons, w_nm, w_un, w_sub, runF, boolA, res, W.toD, W.at, W.sub, isiD, takeA, takeS, takeC, putC, frzA, frzL, takeL, stoL, ST.own, resL, iosOf, fin_c, own, -List.all_map, fz_all, fz_all2, fz_all3, D.isAtom, W.isFz, W.flat, bindT, wipeG, backG, Arg.simple, pureE, pureL, idxA, stepOf, modP, W.setAt, W.setS, setW, popW, isL, isDc, itemsOf, toDs, toDs_fz, toDs_comp, toDs_fun, all_true, eqD_int, eqD_bl, atI_nat, atI_0, atI_1, atI_2, atI_3, ixN4_0, ixN4_1, ixN4_2, ixN4_3, farG2, natsL, slk_ok, en]
      · right
        obtain ⟨f', later, U', x', e, b', k', dn, hl'⟩ := far_rim (fu := fu) (F := F) (web := web) (first := first) (rim := .fz (natsL rm)) (U := u) (x := x) r hm hr hrow b hk hD
        have en := eq_nil rm
        simp only [natsL] at en
        refine ⟨farG2 web first (.fz (.lst (rows.map natsL))) f rm k u l x, farG2 web first (.fz (.lst (rows.map natsL))) f' later (k + 1) U' (some (.fz (natsL later))) x', _, ?_, ?_, ?_, f', Dn ++ rm, later, k + 1, _, _, _, rfl, rfl, b', fun w hw => ?_, hl', fun w hw => ?_⟩
        · simp [f_len_l, f_len_t, f_len_p, f_len_s, f_abs, f_max2, f_min2, f_sorted, f_all, f_int_i, f_int_b, f_list_l, f_list_t, f_tuple_l, f_tuple_t, f_ptuple, f_dict_p, f_lrange, d_neg, d_not, d_add_i, d_add_l, d_add_t, d_add_p, d_sub, d_mul_i, d_fdiv, d_mod, d_pow, d_eq, d_ne, d_lt_i, d_lt_t, d_le, d_gt, d_ge, d_in, d_nin, d_is_nn, d_is_in, d_is_ln, d_is_tn, d_ix_l, d_ix_t, d_ix_p, d_ix_s, d_sl_l, d_sl_t, d_sl_p, q_var, q_cst, q_glo, q_un, q_bin, q_cmp, q_chn, q_and, q_or, q_ite, q_idx, q_slc, q_tup, q_lst, q_dic, q_call, q_bf, q_isi, q_get, q_app, q_ext, q_popL, q_popA, q_comp, turn_eq, t_not, t_and, t_or, t_cmp, t_chn, t_call, t_bf, t_isi, t_var, c_nil, c_one, o_nil, o_one, l_nil, l_cons, i_val, i_rng1, i_rng2, i_enu, i_zip, s_asg, s_asgs, s_aug, s_exp, s_del, s_retF, s_retT, s_retN, s_ite, s_whl, s_for, s_brk, s_cnt, s_pass, b_nil, b_cons, w_nm, w_un, w_sub, runF, boolA, res, W.toD, W.at, W.sub, isiD, takeA, takeS, takeC, putC, frzA, frzL, takeL, stoL, ST.own, resL, iosOf, fin_c, own, -List.all_map, fz_all, fz_all2, fz_all3, D.isAtom, W.isFz, W.flat, bindT, wipeG, backG, Arg.simple, pureE, pureL, idxA, stepOf, modP, W.setAt, W.setS, setW, popW, isL, isDc, itemsOf, toDs, toDs_fz, toDs_comp, toDs_fun, all_true, eqD_int, eqD_bl, atI_nat, atI_0, atI_1, atI_2, atI_3, ixN4_0, ixN4_1, ixN4_2, ixN4_3, farG2, natsL, slk_ok, en, h]
        · have e1 : evI F (.val (.var 4)) (farG web first (.fz (.lst (rows.map natsL))) f (.fz (natsL rm)) (k + 1) u [] x) = some (rm.map natD, farG web first (.fz (.lst (rows.map natsL))) f (.fz (natsL rm)) (k + 1) u [] x) := by
            simp [f_len_l, f_len_t, f_len_p, f_len_s, f_abs, f_max2, f_min2, f_sorted, f_all, f_int_i, f_int_b, f_list_l, f_list_t, f_tuple_l, f_tuple_t, f_ptuple, f_dict_p, f_lrange, d_neg, d_not, d_add_i, d_add_l, d_add_t, d_add_p, d_sub, d_mul_i, d_fdiv, d_mod, d_pow, d_eq, d_ne, d_lt_i, d_lt_t, d_le, d_gt, d_ge, d_in, d_nin, d_is_nn, d_is_in, d_is_ln, d_is_tn, d_ix_l, d_ix_t, d_ix_p, d_ix_s, d_sl_l, d_sl_t, d_sl_p, q_var, q_cst, q_glo, q_un, q_bin, q_cmp, q_chn, q_and, q_or, q_ite, q_idx, q_slc, q_tup, q_lst, q_dic, q_call, q_bf, q_isi, q_get, q_app, q_ext, q_popL, q_popA, q_comp, turn_eq, t_not, t_and, t_or, t_cmp, t_chn, t_call, t_bf, t_isi, t_var, c_nil, c_one, o_nil, o_one, l_nil, l_cons, i_val, i_rng1, i_rng2, i_enu, i_zip, s_asg, s_asgs, s_aug, s_exp, s_del, s_retF, s_retT, s_retN, s_ite, s_whl, s_for, s_brk, s_cnt, s_pass, b_nil, b_cons, w_nm, w_un, w_sub, runF, boolA, res, W.toD, W.at, W.sub, isiD, takeA, takeS, takeC, putC, frzA, frzL, takeL, stoL, ST.own, resL, iosOf, fin_c, own, -List.all_map, fz_all, fz_all2, fz_all3, D.isAtom, W.isFz, W.flat, bindT, wipeG, backG, Arg.simple, pureE, pureL, idxA, stepOf, modP, W.setAt, W.setS, setW, popW, isL, isDc, itemsOf, toDs, toDs_fz, toDs_comp, toDs_fun, all_true, eqD_int, eqD_bl, atI_nat, atI_0, atI_1, atI_2, atI_3, ixN4_0, ixN4_1, ixN4_2, ixN4_3, farG, natsL]
          have tl : toDs (later.map fzN) = later.map natD := by
            rw [toDs_map]; rfl
          have a1 : runS F fu (.asgs [(.nm 5 false), (.nm 7 true)] (.cons (.bin .add (.var 5) (.cst (.int 1))) (.cons (.lst false .nil) .nil))) (farG2 web first (.fz (.lst (rows.map natsL))) f rm k u l x) = some (.nx (farG web first (.fz (.lst (rows.map natsL))) f (.fz (natsL rm)) (k + 1) u [] x)) := by
            simp [f_len_l, f_len_t, f_len_p, f_len_s, f_abs, f_max2, f_min2, f_sorted, f_all, f_int_i, f_int_b, f_list_l, f_list_t, f_tuple_l, f_tuple_t, f_ptuple, f_dict_p, f_lrange, d_neg, d_not, d_add_i, d_add_l, d_add_t, d_add_p, d_sub, d_mul_i, d_fdiv, d_mod, d_pow, d_eq, d_ne, d_lt_i, d_lt_t, d_le, d_gt, d_ge, d_in, d_nin, d_is_nn, d_is_in, d_is_ln, d_is_tn, d_ix_l, d_ix_t, d_ix_p, d_ix_s, d_sl_l, d_sl_t, d_sl_p, q_var, q_cst, q_glo, q_un, q_bin, q_cmp, q_chn, q_and, q_or, q_ite, q_idx, q_slc, q_tup, q_lst, q_dic, q_call, q_bf, q_isi, q_get, q_app, q_ext, q_popL, q_popA, q_comp, turn_eq, t_not, t_and, t_or, t_cmp, t_chn, t_call, t_bf, t_isi, t_var, c_nil, c_one, o_nil, o_one, l_nil, l_cons, i_val, i_rng1, i_rng2, i_enu, i_zip, s_asg, s_asgs, s_aug, s_exp, s_del, s_retF, s_retT, s_retN, s_ite, s_whl, s_for, s_brk, s_cnt, s_pass, b_nil, b_cons, w_nm, w_un, w_sub, runF, boolA, res, W.toD, W.at, W.sub, isiD, takeA, takeS, takeC, putC, frzA, frzL, takeL, stoL, ST.own, resL, iosOf, fin_c, own, -List.all_map, fz_all, fz_all2, fz_all3, D.isAtom, W.isFz, W.flat, bindT, wipeG, backG, Arg.simple, pureE, pureL, idxA, stepOf, modP, W.setAt, W.setS, setW, popW, isL, isDc, itemsOf, toDs, toDs_fz, toDs_comp, toDs_fun, all_true, eqD_int, eqD_bl, atI_nat, atI_0, atI_1, atI_2, atI_3, ixN4_0, ixN4_1, ixN4_2, ixN4_3, farG, farG2, natsL, slk_ok]
          unfold farB
          rw [b_cons, a1, Option.bind_some]
          show runB F fu (.cons (.for_ (.nm 6) (.val (.var 4)) farR) _) _ = _
          rw [b_cons, s_for, e1, Option.bind_some, e, Option.bind_some]
          simp [f_len_l, f_len_t, f_len_p, f_len_s, f_abs, f_max2, f_min2, f_sorted, f_all, f_int_i, f_int_b, f_list_l, f_list_t, f_tuple_l, f_tuple_t, f_ptuple, f_dict_p, f_lrange, d_neg, d_not, d_add_i, d_add_l, d_add_t, d_add_p, d_sub, d_mul_i, d_fdiv, d_mod, d_pow, d_eq, d_ne, d_lt_i, d_lt_t, d_le, d_gt, d_ge, d_in, d_nin, d_is_nn, d_is_in, d_is_ln, d_is_tn, d_ix_l, d_ix_t, d_ix_p, d_ix_s, d_sl_l, d_sl_t, d_sl_p, q_var, q_cst, q_glo, q_un, q_bin, q_cmp, q_chn, q_and, q_or, q_ite, q_idx, q_slc, q_tup, q_lst, q_dic, q_call, q_bf, q_isi, q_get, q_app, q_ext, q_popL, q_popA, q_comp, turn_eq, t_not, t_and, t_or, t_cmp, t_chn, t_call, t_bf, t_isi, t_var, c_nil, c_one, o_nil, o_one, l_nil, l_cons, i_val, i_rng1, i_rng2, i_enu, i_zip, s_asg, s_asgs, s_aug, s_exp, s_del, s_retF, s_retT, s_retN, s_ite, s_whl, s_for, s_brk, s_cnt, s_pass, b_nil, b_cons, w_nm, w_un, w_sub, runF, boolA, res, W.toD, W.at, W.sub, isiD, takeA, takeS, takeC, putC, frzA, frzL, takeL, stoL, ST.own, resL, iosOf, fin_c, own, -List.all_map, fz_all, fz_all2, fz_all3, D.isAtom, W.isFz, W.flat, bindT, wipeG, backG, Arg.simple, pureE, pureL, idxA, stepOf, modP, W.setAt, W.setS, setW, popW, isL, isDc, itemsOf, toDs, toDs_fz, toDs_comp, toDs_fun, all_true, eqD_int, eqD_bl, atI_nat, atI_0, atI_1, atI_2, atI_3, ixN4_0, ixN4_1, ixN4_2, ixN4_3, farG, farG2, natsL, tl]
        · have h1 : rm.length ≠ 0 := fun q => h (List.length_eq_zero_iff.mp q)
          have := b'.len_le
          rw [List.length_append, List.length_append] at this ⊢
          rw [if_neg h]
          by_cases q : later = []
          · rw [if_pos q, q]
            simp
            try (simp at this; omega)
          · have : later.length ≠ 0 := fun q' => q (List.length_eq_zero_iff.mp q')
            rw [if_neg q]
            omega
        · rcases List.mem_append.mp hw with hw | hw
          · exact (done w hw).keep (by simp [hw]) ⟨later, rfl⟩ k'
          · exact dn w hw
        · rw [k' w hw]
          rcases List.mem_append.mp hw with hw | hw
          · have := hD w hw; omega
          · have := hk w hw; omega)
    (g := farG2 web first (.fz (.lst (rows.map natsL))) ((List.replicate m none).set s (some 0)) [s] 0 none none none)
    ⟨_, [], [s], 0, _, _, _, rfl, by simp; omega, Bfs.start hs, by simp, s0, by simp⟩ (by omega)
  obtain ⟨g', e, d, ⟨u, l, x, a, b, c', e0, e2⟩, hd⟩ := key
  exact ⟨d, g', e, ⟨_, _, _, _, _, _, by rw [e2]; rfl⟩, hd⟩
theorem far_ok {m s : Nat} {es : List (Nat × Nat)} (r : Rng m es) (c : Conn m es) (hl : es.length ≤ 10000) (hm : m ≤ 10000) (hs : s < m) (hfu : m + 1 < fu) :
    ∃ d, callF Pm fu (n + 2) 25 [.fz (webD m es), .fz (natD s)] = some (.fz (natsL d), []) ∧ IsDist m es s d := by
  obtain ⟨rows, _, e3, h1, h2, _⟩ := nears_ok (fu := fu) (n := n) r hl hm
  obtain ⟨d, g', e, ⟨a1, a2, a3, a4, a5, a6, eg⟩, hd⟩ := far_loop (fu := fu) (F := callF Pm fu (n + 1)) (web := .fz (webD m es)) (first := .fz (natD s)) r c hm hs h1 h2 hfu
  refine ⟨d, ?_, hd⟩
  rw [call_eq pm_25]
  have i0 : ixN m (s : Int) = some s := ixN_nat hs
  have mu := d_mul_l (xs := [D.non]) (k := m) (by simp) (by omega)
  have hfl := flat_none m
  have wd : webD m es = .tup [natD m, .tup (es.map hedgeD)] := rfl
  have td : toDs (d.map fzN) = d.map natD := by
    rw [toDs_map]; rfl
  generalize g'.drop 7 = tl at eg
  subst eg
  rw [wd] at e e3 ⊢
  simp [farG2, farB, farR, farI, natD, natsL, encO, fzN, List.map_set] at e e3 mu ⊢
  simp [f_len_l, f_len_t, f_len_p, f_len_s, f_abs, f_max2, f_min2, f_sorted, f_all, f_int_i, f_int_b, f_list_l, f_list_t, f_tuple_l, f_tuple_t, f_ptuple, f_dict_p, f_lrange, d_neg, d_not, d_add_i, d_add_l, d_add_t, d_add_p, d_sub, d_mul_i, d_fdiv, d_mod, d_pow, d_eq, d_ne, d_lt_i, d_lt_t, d_le, d_gt, d_ge, d_in, d_nin, d_is_nn, d_is_in, d_is_ln, d_is_tn, d_ix_l, d_ix_t, d_ix_p, d_ix_s, d_sl_l, d_sl_t, d_sl_p, q_var, q_cst, q_glo, q_un, q_bin, q_cmp, q_chn, q_and, q_or, q_ite, q_idx, q_slc, q_tup, q_lst, q_dic, q_call, q_bf, q_isi, q_get, q_app, q_ext, q_popL, q_popA, q_comp, turn_eq, t_not, t_and, t_or, t_cmp, t_chn, t_call, t_bf, t_isi, t_var, c_nil, c_one, o_nil, o_one, l_nil, l_cons, i_val, i_rng1, i_rng2, i_enu, i_zip, s_asg, s_asgs, s_aug, s_exp, s_del, s_retF, s_retT, s_retN, s_ite, s_whl, s_for, s_brk, s_cnt, s_pass, b_nil, b_cons, w_nm, w_un, w_sub, runF, boolA, res, W.toD, W.at, W.sub, isiD, takeA, takeS, takeC, putC, frzA, frzL, takeL, stoL, ST.own, resL, iosOf, fin_c, own, -List.all_map, fz_all, fz_all2, fz_all3, D.isAtom, W.isFz, W.flat, bindT, wipeG, backG, Arg.simple, pureE, pureL, idxA, stepOf, modP, W.setAt, W.setS, setW, popW, isL, isDc, itemsOf, toDs, toDs_fz, toDs_comp, toDs_fun, all_true, eqD_int, eqD_bl, atI_nat, atI_0, atI_1, atI_2, atI_3, ixN4_0, ixN4_1, ixN4_2, ixN4_3, f_25, e3, mu, i0, slk_ok, e, fzN]
  exact td
end K08
end PF
end

section
set_option Elab.async false
set_option linter.all false
set_option maxRecDepth 100000
set_option maxHeartbeats 2000000
namespace PF
open PySem L2
def hLt (p q : Nat × Nat) : Prop := p.1 < q.1 ∨ (p.1 = q.1 ∧ p.2 < q.2)
/-- a web of m places -/
structure WebOk (m : Nat) (es : List (Nat × Nat)) : Prop where
  rng : Rng m es
  conn : Conn m es
  pos : 1 ≤ m
  most : m ≤ 40
  sort : es.Pairwise hLt
  bip : ∃ c : Nat → Bool, ∀ p ∈ es, c p.1 ≠ c p.2
  len : es.length ≤ 10000
theorem bip_par {m : Nat} {es : List (Nat × Nat)} (rg : Rng m es) (bip : ∃ c : Nat → Bool, ∀ p ∈ es, c p.1 ≠ c p.2) {s : Nat} {d : List Nat} (h : IsDist m es s d) {u v : Nat} (a : Adj es u v) : d.getD v 0 = d.getD u 0 + 1 ∨ d.getD u 0 = d.getD v 0 + 1 := by
  obtain ⟨c, hc⟩ := bip
  have ca : ∀ u v, Adj es u v → c u ≠ c v := fun u v a => a.elim (fun h => hc _ h) (fun h q => hc _ h q.symm)
  have key : ∀ k v, v < m → d.getD v 0 = k → c v = (if k % 2 = 0 then c s else !c s) := by
    intro k
    induction k with
    | zero =>
      intro v hv e
      rw [h.zero hv e]
      rfl
    | succ k ih =>
      intro v hv e
      have ne : v ≠ s := fun q => by rw [q, h.src] at e; cases e
      obtain ⟨u, a, q⟩ := h.back v hv ne
      have e1 := ih u (rg.adj a).1 (by omega)
      have e2 := ca u v a
      have e3 : c v = !c u := by
        cases h1 : c u <;> cases h2 : c v <;> simp_all
      rw [e3, e1]
      by_cases p : k % 2 = 0
      · rw [if_pos p, if_neg (by omega)]
      · rw [if_neg p, if_pos (by omega)]
        simp
  have k1 := key _ u (rg.adj a).1 rfl
  have k2 := key _ v (rg.adj a).2 rfl
  have s1 := h.step u v a
  have s2 := h.step v u a.symm
  have ne : d.getD u 0 ≠ d.getD v 0 := fun q => by
    rw [q] at k1
    exact ca u v a (k1.trans k2.symm)
  omega
theorem WebOk.par {m : Nat} {es : List (Nat × Nat)} (w : WebOk m es) {s : Nat} {d : List Nat} (h : IsDist m es s d) {u v : Nat} (a : Adj es u v) : d.getD v 0 = d.getD u 0 + 1 ∨ d.getD u 0 = d.getD v 0 + 1 := bip_par w.rng w.bip h a
theorem cut_1 (xs : List D) : cutD xs (some 1) none = xs.tail := by
  unfold cutD
  have : HT.sIx xs.length 0 (some 1) = min 1 xs.length := HT.sIx_nat _ _ 1
  rw [this, HT.sIx_none]
  cases xs with
  | nil => rfl
  | cons a l =>
    simp
theorem pair_map {α β : Type} (f : α → D) (g : β → D) : ∀ (l : List α) (k : List β), pairUp (l.map f) (k.map g) = (l.zip k).map fun p => .tup [f p.1, g p.2]
  | [], _ => by simp [pairUp]
  | _ :: _, [] => by simp [pairUp]
  | a :: l, b :: k => by
    show .tup [f a, g b] :: pairUp (l.map f) (k.map g) = _
    rw [pair_map f g l k]
    rfl
theorem zip_next {α : Type} {R : α → α → Prop} : ∀ {l : List α}, l.Pairwise R → ∀ p ∈ l.zip l.tail, R p.1 p.2
  | [], _, p, h => by simp at h
  | [a], _, p, h => by simp at h
  | a :: b :: l, h, p, hp => by
    obtain ⟨h1, h2⟩ := List.pairwise_cons.mp h
    have hp : p ∈ (a, b) :: (b :: l).zip l := hp
    rcases List.mem_cons.mp hp with rfl | hp
    · exact h1 b List.mem_cons_self
    · exact zip_next h2 p (by simpa using hp)
theorem lex_pair {a b c d : Nat} (h : hLt (a, b) (c, d)) : HT.lexLt [(a : Int), (b : Int)] [(c : Int), (d : Int)] = true := by
  unfold HT.lexLt
  rcases h with h | ⟨h, k⟩
  · have h : a < c := h
    have h' : (a : Int) < (c : Int) := by omega
    simp [h']
    left
    omega
  · have h : a = c := h
    have k : b < d := k
    subst h
    simp [HT.lexLt]
    omega
namespace K08
variable {fu n : Nat}
theorem eqD_self_int {i : Int} : eqD (.int i) (.int i) = some true := by rw [eqD_int]; simp
theorem all_bls {α : Type} (f : α → Bool) : ∀ (l : List α), (∀ x ∈ l, f x = true) → blsOf (l.map fun x => D.bl (f x)) = some (l.map f) ∧ (l.map f).all id = true
  | [], _ => ⟨rfl, rfl⟩
  | a :: l, h => by
    obtain ⟨h1, h2⟩ := all_bls f l fun x hx => h x (List.mem_cons_of_mem _ hx)
    refine ⟨?_, ?_⟩
    · show (blsOf (l.map fun x => D.bl (f x))).map (f a :: ·) = _
      rw [h1]; rfl
    · show (f a && (l.map f).all id) = true
      rw [h a List.mem_cons_self, h2]; rfl
theorem in_none (l : List Nat) : inD .non (natsL l) = some false := by
  have h : okD (natsL l) = true := by
    unfold okD natsL
    simp [layD, lay_nats, depD, dep_nats]
  have h2 : (l.map natD).any (fun y => eqvD y .non) = false := by
    induction l with
    | nil => rfl
    | cons a l ih => exact (ih (by
        unfold okD natsL
        simp [layD, lay_nats, depD, dep_nats]))
  show (if okD .non && okD (.lst (l.map natD)) then some ((l.map natD).any fun y => eqvD y .non) else none) = _
  have h : okD (.lst (l.map natD)) = true := h
  rw [h, h2]
  rfl
theorem is_web_ok {m : Nat} {es : List (Nat × Nat)} (w : WebOk m es) (hfu : m < fu) : callF Pm fu (n + 4) 5 [.fz (webD m es)] = some (.fz (.bl true), []) := by
  obtain ⟨d, er, hd⟩ := reach_ok (fu := fu) (n := n + 1) w.rng w.conn w.len (by have := w.most; omega) (s := 0) w.pos hfu
  have e1 := is_in_int (fu := fu) (n := n + 1) (m : Int) 1 40
  have b1 : decide ((1 : Int) ≤ (m : Int)) = true := by have := w.pos; simp; omega
  have b2 : decide ((m : Int) ≤ 40) = true := by have := w.most; simp; omega
  rw [b1, b2] at e1
  have wd : webD m es = .tup [natD m, .tup (es.map hedgeD)] := rfl
  have sl : slk es.length = true := slk_ok (by have := w.len; omega)
  have sz : slk (es.length - 1) = true := slk_ok (by have := w.len; omega)
  -- every hedge is a pair
  have c1 := compQ_all (F := callF Pm fu (n + 3)) (ow := [2]) (t := .nm 2) (oe := false) (e := .call 2 [.val, .val] (.cons (.var 2) (.cons (.idx (.var 0) (.cst (.int 0))) .nil))) (g := [some (.fz (webD m es)), none, none, none, none]) hedgeD (fun _ => W.fz (.bl true)) (xs := es)
    fun p hp => ⟨[some (.fz (webD m es)), none, some (.fz (hedgeD p)), none, none], (.tmp (.fz (.bl true)), [some (.fz (webD m es)), none, some (.fz (hedgeD p)), none, none]), [some (.fz (webD m es)), none, some (.fz (hedgeD p)), none, none], rfl, by
      have q := is_pair_ok (fu := fu) (n := n) (a := (p.1 : Int)) (b := (p.2 : Int)) (m := (m : Int)) (by omega) (by have := (w.rng.lt p hp).1; omega) (by have := (w.rng.lt p hp).2; omega)
      simp [f_len_l, f_len_t, f_len_p, f_len_s, f_abs, f_max2, f_min2, f_sorted, f_all, f_int_i, f_int_b, f_list_l, f_list_t, f_tuple_l, f_tuple_t, f_ptuple, f_dict_p, f_lrange, d_neg, d_not, d_add_i, d_add_l, d_add_t, d_add_p, d_sub, d_mul_i, d_fdiv, d_mod, d_pow, d_eq, d_ne, d_lt_i, d_lt_t, d_le, d_gt, d_ge, d_in, d_nin, d_is_nn, d_is_in, d_is_ln, d_is_tn, d_ix_l, d_ix_t, d_ix_p, d_ix_s, d_sl_l, d_sl_t, d_sl_p, q_var, q_cst, q_glo, q_un, q_bin, q_cmp, q_chn, q_and, q_or, q_ite, q_idx, q_slc, q_tup, q_lst, q_dic, q_call, q_bf, q_isi, q_get, q_app, q_ext, q_popL, q_popA, q_comp, turn_eq, t_not, t_and, t_or, t_cmp, t_chn, t_call, t_bf, t_isi, t_var, c_nil, c_one, o_nil, o_one, l_nil, l_cons, i_val, i_rng1, i_rng2, i_enu, i_zip, s_asg, s_asgs, s_aug, s_exp, s_del, s_retF, s_retT, s_retN, s_ite, s_whl, s_for, s_brk, s_cnt, s_pass, b_nil, b_cons, w_nm, w_un, w_sub, runF, boolA, res, W.toD, W.at, W.sub, isiD, takeA, takeS, takeC, putC, frzA, frzL, takeL, stoL, ST.own, resL, iosOf, fin_c, own, -List.all_map, fz_all, fz_all2, fz_all3, D.isAtom, W.isFz, W.flat, bindT, wipeG, backG, Arg.simple, pureE, pureL, idxA, stepOf, modP, W.setAt, W.setS, setW, popW, isL, isDc, itemsOf, toDs, toDs_fz, toDs_comp, toDs_fun, all_true, eqD_int, eqD_bl, atI_nat, atI_0, atI_1, atI_2, atI_3, ixN4_0, ixN4_1, ixN4_2, ixN4_3, wd, hedgeD, natD, q], by simp [f_len_l, f_len_t, f_len_p, f_len_s, f_abs, f_max2, f_min2, f_sorted, f_all, f_int_i, f_int_b, f_list_l, f_list_t, f_tuple_l, f_tuple_t, f_ptuple, f_dict_p, f_lrange, d_neg, d_not, d_add_i, d_add_l, d_add_t, d_add_p, d_sub, d_mul_i, d_fdiv, d_mod, d_pow, d_eq, d_ne, d_lt_i, d_lt_t, d_le, d_gt, d_ge, d_in, d_nin, d_is_nn, d_is_in, d_is_ln, d_is_tn, d_ix_l, d_ix_t, d_ix_p, d_ix_s, d_sl_l, d_sl_t, d_sl_p, q_var, q_cst, q_glo, q_un, q_bin, q_cmp, q_chn, q_and, q_or, q_ite, q_idx, q_slc, q_tup, q_lst, q_dic, q_call, q_bf, q_isi, q_get, q_app, q_ext, q_popL, q_popA, q_comp, turn_eq, t_not, t_and, t_or, t_cmp, t_chn, t_call, t_bf, t_isi, t_var, c_nil, c_one, o_nil, o_one, l_nil, l_cons, i_val, i_rng1, i_rng2, i_enu, i_zip, s_asg, s_asgs, s_aug, s_exp, s_del, s_retF, s_retT, s_retN, s_ite, s_whl, s_for, s_brk, s_cnt, s_pass, b_nil, b_cons, w_nm, w_un, w_sub, runF, boolA, res, W.toD, W.at, W.sub, isiD, takeA, takeS, takeC, putC, frzA, frzL, takeL, stoL, ST.own, resL, iosOf, fin_c, own, -List.all_map, fz_all, fz_all2, fz_all3, D.isAtom, W.isFz, W.flat, bindT, wipeG, backG, Arg.simple, pureE, pureL, idxA, stepOf, modP, W.setAt, W.setS, setW, popW, isL, isDc, itemsOf, toDs, toDs_fz, toDs_comp, toDs_fun, all_true, eqD_int, eqD_bl, atI_nat, atI_0, atI_1, atI_2, atI_3, ixN4_0, ixN4_1, ixN4_2, ixN4_3], by simp [f_len_l, f_len_t, f_len_p, f_len_s, f_abs, f_max2, f_min2, f_sorted, f_all, f_int_i, f_int_b, f_list_l, f_list_t, f_tuple_l, f_tuple_t, f_ptuple, f_dict_p, f_lrange, d_neg, d_not, d_add_i, d_add_l, d_add_t, d_add_p, d_sub, d_mul_i, d_fdiv, d_mod, d_pow, d_eq, d_ne, d_lt_i, d_lt_t, d_le, d_gt, d_ge, d_in, d_nin, d_is_nn, d_is_in, d_is_ln, d_is_tn, d_ix_l, d_ix_t, d_ix_p, d_ix_s, d_sl_l, d_sl_t, d_sl_p, q_var, q_cst, q_glo, q_un, q_bin, q_cmp, q_chn, q_and, q_or, q_ite, q_idx, q_slc, q_tup, q_lst, q_dic, q_call, q_bf, q_isi, q_get, q_app, q_ext, q_popL, q_popA, q_comp, turn_eq, t_not, t_and, t_or, t_cmp, t_chn, t_call, t_bf, t_isi, t_var, c_nil, c_one, o_nil, o_one, l_nil, l_cons, i_val, i_rng1, i_rng2, i_enu, i_zip, s_asg, s_asgs, s_aug, s_exp, s_del, s_retF, s_retT, s_retN, s_ite, s_whl, s_for, s_brk, s_cnt, s_pass, b_nil, b_cons, w_nm, w_un, w_sub, runF, boolA, res, W.toD, W.at, W.sub, isiD, takeA, takeS, takeC, putC, frzA, frzL, takeL, stoL, ST.own, resL, iosOf, fin_c, own, -List.all_map, fz_all, fz_all2, fz_all3, D.isAtom, W.isFz, W.flat, bindT, wipeG, backG, Arg.simple, pureE, pureL, idxA, stepOf, modP, W.setAt, W.setS, setW, popW, isL, isDc, itemsOf, toDs, toDs_fz, toDs_comp, toDs_fun, all_true, eqD_int, eqD_bl, atI_nat, atI_0, atI_1, atI_2, atI_3, ixN4_0, ixN4_1, ixN4_2, ixN4_3]⟩
  have c2 := compQ_all (F := callF Pm fu (n + 3)) (ow := [3, 4]) (t := .cons (.nm 3) (.cons (.nm 4) .nil)) (oe := false) (e := .cmp .lt (.var 3) (.var 4)) (g := [some (.fz (webD m es)), none, none, none, none]) (fun p : (Nat × Nat) × (Nat × Nat) => D.tup [hedgeD p.1, hedgeD p.2]) (fun _ => W.fz (.bl true)) (xs := es.zip es.tail)
    fun p hp => ⟨[some (.fz (webD m es)), none, none, some (.fz (hedgeD p.1)), some (.fz (hedgeD p.2))], (.tmp (.fz (.bl true)), [some (.fz (webD m es)), none, none, some (.fz (hedgeD p.1)), some (.fz (hedgeD p.2))]), [some (.fz (webD m es)), none, none, some (.fz (hedgeD p.1)), some (.fz (hedgeD p.2))], by simp [f_len_l, f_len_t, f_len_p, f_len_s, f_abs, f_max2, f_min2, f_sorted, f_all, f_int_i, f_int_b, f_list_l, f_list_t, f_tuple_l, f_tuple_t, f_ptuple, f_dict_p, f_lrange, d_neg, d_not, d_add_i, d_add_l, d_add_t, d_add_p, d_sub, d_mul_i, d_fdiv, d_mod, d_pow, d_eq, d_ne, d_lt_i, d_lt_t, d_le, d_gt, d_ge, d_in, d_nin, d_is_nn, d_is_in, d_is_ln, d_is_tn, d_ix_l, d_ix_t, d_ix_p, d_ix_s, d_sl_l, d_sl_t, d_sl_p, q_var, q_cst, q_glo, q_un, q_bin, q_cmp, q_chn, q_and, q_or, q_ite, q_idx, q_slc, q_tup, q_lst, q_dic, q_call, q_bf, q_isi, q_get, q_app, q_ext, q_popL, q_popA, q_comp, turn_eq, t_not, t_and, t_or, t_cmp, t_chn, t_call, t_bf, t_isi, t_var, c_nil, c_one, o_nil, o_one, l_nil, l_cons, i_val, i_rng1, i_rng2, i_enu, i_zip, s_asg, s_asgs, s_aug, s_exp, s_del, s_retF, s_retT, s_retN, s_ite, s_whl, s_for, s_brk, s_cnt, s_pass, b_nil, b_cons, w_nm, w_un, w_sub, runF, boolA, res, W.toD, W.at, W.sub, isiD, takeA, takeS, takeC, putC, frzA, frzL, takeL, stoL, ST.own, resL, iosOf, fin_c, own, -List.all_map, fz_all, fz_all2, fz_all3, D.isAtom, W.isFz, W.flat, bindT, wipeG, backG, Arg.simple, pureE, pureL, idxA, stepOf, modP, W.setAt, W.setS, setW, popW, isL, isDc, itemsOf, toDs, toDs_fz, toDs_comp, toDs_fun, all_true, eqD_int, eqD_bl, atI_nat, atI_0, atI_1, atI_2, atI_3, ixN4_0, ixN4_1, ixN4_2, ixN4_3], by
      have q := lex_pair (zip_next w.sort p hp)
      simp [f_len_l, f_len_t, f_len_p, f_len_s, f_abs, f_max2, f_min2, f_sorted, f_all, f_int_i, f_int_b, f_list_l, f_list_t, f_tuple_l, f_tuple_t, f_ptuple, f_dict_p, f_lrange, d_neg, d_not, d_add_i, d_add_l, d_add_t, d_add_p, d_sub, d_mul_i, d_fdiv, d_mod, d_pow, d_eq, d_ne, d_lt_i, d_lt_t, d_le, d_gt, d_ge, d_in, d_nin, d_is_nn, d_is_in, d_is_ln, d_is_tn, d_ix_l, d_ix_t, d_ix_p, d_ix_s, d_sl_l, d_sl_t, d_sl_p, q_var, q_cst, q_glo, q_un, q_bin, q_cmp, q_chn, q_and, q_or, q_ite, q_idx, q_slc, q_tup, q_lst, q_dic, q_call, q_bf, q_isi, q_get, q_app, q_ext, q_popL, q_popA, q_comp, turn_eq, t_not, t_and, t_or, t_cmp, t_chn, t_call, t_bf, t_isi, t_var, c_nil, c_one, o_nil, o_one, l_nil, l_cons, i_val, i_rng1, i_rng2, i_enu, i_zip, s_asg, s_asgs, s_aug, s_exp, s_del, s_retF, s_retT, s_retN, s_ite, s_whl, s_for, s_brk, s_cnt, s_pass, b_nil, b_cons, w_nm, w_un, w_sub, runF, boolA, res, W.toD, W.at, W.sub, isiD, takeA, takeS, takeC, putC, frzA, frzL, takeL, stoL, ST.own, resL, iosOf, fin_c, own, -List.all_map, fz_all, fz_all2, fz_all3, D.isAtom, W.isFz, W.flat, bindT, wipeG, backG, Arg.simple, pureE, pureL, idxA, stepOf, modP, W.setAt, W.setS, setW, popW, isL, isDc, itemsOf, toDs, toDs_fz, toDs_comp, toDs_fun, all_true, eqD_int, eqD_bl, atI_nat, atI_0, atI_1, atI_2, atI_3, ixN4_0, ixN4_1, ixN4_2, ixN4_3, hedgeD, natD, ltD, intsOf, q], by simp [f_len_l, f_len_t, f_len_p, f_len_s, f_abs, f_max2, f_min2, f_sorted, f_all, f_int_i, f_int_b, f_list_l, f_list_t, f_tuple_l, f_tuple_t, f_ptuple, f_dict_p, f_lrange, d_neg, d_not, d_add_i, d_add_l, d_add_t, d_add_p, d_sub, d_mul_i, d_fdiv, d_mod, d_pow, d_eq, d_ne, d_lt_i, d_lt_t, d_le, d_gt, d_ge, d_in, d_nin, d_is_nn, d_is_in, d_is_ln, d_is_tn, d_ix_l, d_ix_t, d_ix_p, d_ix_s, d_sl_l, d_sl_t, d_sl_p, q_var, q_cst, q_glo, q_un, q_bin, q_cmp, q_chn, q_and, q_or, q_ite, q_idx, q_slc, q_tup, q_lst, q_dic, q_call, q_bf, q_isi, q_get, q_app, q_ext, q_popL, q_popA, q_comp, turn_eq, t_not, t_and, t_or, t_cmp, t_chn, t_call, t_bf, t_isi, t_var, c_nil, c_one, o_nil, o_one, l_nil, l_cons, i_val, i_rng1, i_rng2, i_enu, i_zip, s_asg, s_asgs, s_aug, s_exp, s_del, s_retF, s_retT, s_retN, s_ite, s_whl, s_for, s_brk, s_cnt, s_pass, b_nil, b_cons, w_nm, w_un, w_sub, runF, boolA, res, W.toD, W.at, W.sub, isiD, takeA, takeS, takeC, putC, frzA, frzL, takeL, stoL, ST.own, resL, iosOf, fin_c, own, -List.all_map, fz_all, fz_all2, fz_all3, D.isAtom, W.isFz, W.flat, bindT, wipeG, backG, Arg.simple, pureE, pureL, idxA, stepOf, modP, W.setAt, W.setS, setW, popW, isL, isDc, itemsOf, toDs, toDs_fz, toDs_comp, toDs_fun, all_true, eqD_int, eqD_bl, atI_nat, atI_0, atI_1, atI_2, atI_3, ixN4_0, ixN4_1, ixN4_2, ixN4_3], by simp [f_len_l, f_len_t, f_len_p, f_len_s, f_abs, f_max2, f_min2, f_sorted, f_all, f_int_i, f_int_b, f_list_l, f_list_t, f_tuple_l, f_tuple_t, f_ptuple, f_dict_p, f_lrange, d_neg, d_not, d_add_i, d_add_l, d_add_t, d_add_p, d_sub, d_mul_i, d_fdiv, d_mod, d_pow, d_eq, d_ne, d_lt_i, d_lt_t, d_le, d_gt, d_ge, d_in, d_nin, d_is_nn, d_is_in, d_is_ln, d_is_tn, d_ix_l, d_ix_t, d_ix_p, d_ix_s, d_sl_l, d_sl_t, d_sl_p, q_var, q_cst, q_glo, q_un, q_bin, q_cmp, q_chn, q_and, q_or, q_ite, q_idx, q_slc, q_tup, q_lst, q_dic, q_call, q_bf, q_isi, q_get, q_app, q_ext, q_popL, q_popA, q_comp, turn_eq, t_not, t_and, t_or, t_cmp, t_chn, t_call, t_bf, t_isi, t_var, c_nil, c_one, o_nil, o_one, l_nil, l_cons, i_val, i_rng1, i_rng2, i_enu, i_zip, s_asg, s_asgs, s_aug, s_exp, s_del, s_retF, s_retT, s_retN, s_ite, s_whl, s_for, s_brk, s_cnt, s_pass, b_nil, b_cons, w_nm, w_un, w_sub, runF, boolA, res, W.toD, W.at, W.sub, isiD, takeA, takeS, takeC, putC, frzA, frzL, takeL, stoL, ST.own, resL, iosOf, fin_c, own, -List.all_map, fz_all, fz_all2, fz_all3, D.isAtom, W.isFz, W.flat, bindT, wipeG, backG, Arg.simple, pureE, pureL, idxA, stepOf, modP, W.setAt, W.setS, setW, popW, isL, isDc, itemsOf, toDs, toDs_fz, toDs_comp, toDs_fun, all_true, eqD_int, eqD_bl, atI_nat, atI_0, atI_1, atI_2, atI_3, ixN4_0, ixN4_1, ixN4_2, ixN4_3]⟩
  have c3 := compQ_all (F := callF Pm fu (n + 3)) (ow := [3, 4]) (t := .cons (.nm 3) (.cons (.nm 4) .nil)) (oe := false) (e := .cmp .eq (.bin .mod (.bin .sub (.idx (.var 1) (.var 3)) (.idx (.var 1) (.var 4))) (.cst (.int 2))) (.cst (.int 1))) (g := [some (.fz (webD m es)), some (.fz (natsL d)), none, none, none]) hedgeD (fun _ => W.fz (.bl true)) (xs := es)
    fun p hp => ⟨[some (.fz (webD m es)), some (.fz (natsL d)), none, some (.fz (natD p.1)), some (.fz (natD p.2))], (.tmp (.fz (.bl true)), [some (.fz (webD m es)), some (.fz (natsL d)), none, some (.fz (natD p.1)), some (.fz (natD p.2))]), [some (.fz (webD m es)), some (.fz (natsL d)), none, some (.fz (natD p.1)), some (.fz (natD p.2))], by simp [f_len_l, f_len_t, f_len_p, f_len_s, f_abs, f_max2, f_min2, f_sorted, f_all, f_int_i, f_int_b, f_list_l, f_list_t, f_tuple_l, f_tuple_t, f_ptuple, f_dict_p, f_lrange, d_neg, d_not, d_add_i, d_add_l, d_add_t, d_add_p, d_sub, d_mul_i, d_fdiv, d_mod, d_pow, d_eq, d_ne, d_lt_i, d_lt_t, d_le, d_gt, d_ge, d_in, d_nin, d_is_nn, d_is_in, d_is_ln, d_is_tn, d_ix_l, d_ix_t, d_ix_p, d_ix_s, d_sl_l, d_sl_t, d_sl_p, q_var, q_cst, q_glo, q_un, q_bin, q_cmp, q_chn, q_and, q_or, q_ite, q_idx, q_slc, q_tup, q_lst, q_dic, q_call, q_bf, q_isi, q_get, q_app, q_ext, q_popL, q_popA, q_comp, turn_eq, t_not, t_and, t_or, t_cmp, t_chn, t_call, t_bf, t_isi, t_var, c_nil, c_one, o_nil, o_one, l_nil, l_cons, i_val, i_rng1, i_rng2, i_enu, i_zip, s_asg, s_asgs, s_aug, s_exp, s_del, s_retF, s_retT, s_retN, s_ite, s_whl, s_for, s_brk, s_cnt, s_pass, b_nil, b_cons, w_nm, w_un, w_sub, runF, boolA, res, W.toD, W.at, W.sub, isiD, takeA, takeS, takeC, putC, frzA, frzL, takeL, stoL, ST.own, resL, iosOf, fin_c, own, -List.all_map, fz_all, fz_all2, fz_all3, D.isAtom, W.isFz, W.flat, bindT, wipeG, backG, Arg.simple, pureE, pureL, idxA, stepOf, modP, W.setAt, W.setS, setW, popW, isL, isDc, itemsOf, toDs, toDs_fz, toDs_comp, toDs_fun, all_true, eqD_int, eqD_bl, atI_nat, atI_0, atI_1, atI_2, atI_3, ixN4_0, ixN4_1, ixN4_2, ixN4_3, hedgeD], by
      have k1 : p.1 < d.length := by rw [hd.len]; have := w.rng.lt p hp; omega
      have k2 : p.2 < d.length := by rw [hd.len]; have := w.rng.lt p hp; omega
      have q := w.par hd (u := p.1) (v := p.2) (.inl hp)
      have g1 : d.getD p.1 0 = d[p.1] := by simp [k1]
      have g2 : d.getD p.2 0 = d[p.2] := by simp [k2]
      have q2 : ((d[p.1] : Int) - (d[p.2] : Int)).fmod 2 = 1 := by
        rw [g1, g2] at q
        rw [Int.fmod_eq_emod_of_nonneg _ (by omega)]
        omega
      simp [f_len_l, f_len_t, f_len_p, f_len_s, f_abs, f_max2, f_min2, f_sorted, f_all, f_int_i, f_int_b, f_list_l, f_list_t, f_tuple_l, f_tuple_t, f_ptuple, f_dict_p, f_lrange, d_neg, d_not, d_add_i, d_add_l, d_add_t, d_add_p, d_sub, d_mul_i, d_fdiv, d_mod, d_pow, d_eq, d_ne, d_lt_i, d_lt_t, d_le, d_gt, d_ge, d_in, d_nin, d_is_nn, d_is_in, d_is_ln, d_is_tn, d_ix_l, d_ix_t, d_ix_p, d_ix_s, d_sl_l, d_sl_t, d_sl_p, q_var, q_cst, q_glo, q_un, q_bin, q_cmp, q_chn, q_and, q_or, q_ite, q_idx, q_slc, q_tup, q_lst, q_dic, q_call, q_bf, q_isi, q_get, q_app, q_ext, q_popL, q_popA, q_comp, turn_eq, t_not, t_and, t_or, t_cmp, t_chn, t_call, t_bf, t_isi, t_var, c_nil, c_one, o_nil, o_one, l_nil, l_cons, i_val, i_rng1, i_rng2, i_enu, i_zip, s_asg, s_asgs, s_aug, s_exp, s_del, s_retF, s_retT, s_retN, s_ite, s_whl, s_for, s_brk, s_cnt, s_pass, b_nil, b_cons, w_nm, w_un, w_sub, runF, boolA, res, W.toD, W.at, W.sub, isiD, takeA, takeS, takeC, putC, frzA, frzL, takeL, stoL, ST.own, resL, iosOf, fin_c, own, -List.all_map, fz_all, fz_all2, fz_all3, D.isAtom, W.isFz, W.flat, bindT, wipeG, backG, Arg.simple, pureE, pureL, idxA, stepOf, modP, W.setAt, W.setS, setW, popW, isL, isDc, itemsOf, toDs, toDs_fz, toDs_comp, toDs_fun, all_true, eqD_int, eqD_bl, atI_nat, atI_0, atI_1, atI_2, atI_3, ixN4_0, ixN4_1, ixN4_2, ixN4_3, natsL, natD, k1, k2, q2], by simp [f_len_l, f_len_t, f_len_p, f_len_s, f_abs, f_max2, f_min2, f_sorted, f_all, f_int_i, f_int_b, f_list_l, f_list_t, f_tuple_l, f_tuple_t, f_ptuple, f_dict_p, f_lrange, d_neg, d_not, d_add_i, d_add_l, d_add_t, d_add_p, d_sub, d_mul_i, d_fdiv, d_mod, d_pow, d_eq, d_ne, d_lt_i, d_lt_t, d_le, d_gt, d_ge, d_in, d_nin, d_is_nn, d_is_in, d_is_ln, d_is_tn, d_ix_l, d_ix_t, d_ix_p, d_ix_s, d_sl_l, d_sl_t, d_sl_p, q_var, q_cst, q_glo, q_un, q_bin, q_cmp, q_chn, q_and, q_or, q_ite, q_idx, q_slc, q_tup, q_lst, q_dic, q_call, q_bf, q_isi, q_get, q_app, q_ext, q_popL, q_popA, q_comp, turn_eq, t_not, t_and, t_or, t_cmp, t_chn, t_call, t_bf, t_isi, t_var, c_nil, c_one, o_nil, o_one, l_nil, l_cons, i_val, i_rng1, i_rng2, i_enu, i_zip, s_asg, s_asgs, s_aug, s_exp, s_del, s_retF, s_retT, s_retN, s_ite, s_whl, s_for, s_brk, s_cnt, s_pass, b_nil, b_cons, w_nm, w_un, w_sub, runF, boolA, res, W.toD, W.at, W.sub, isiD, takeA, takeS, takeC, putC, frzA, frzL, takeL, stoL, ST.own, resL, iosOf, fin_c, own, -List.all_map, fz_all, fz_all2, fz_all3, D.isAtom, W.isFz, W.flat, bindT, wipeG, backG, Arg.simple, pureE, pureL, idxA, stepOf, modP, W.setAt, W.setS, setW, popW, isL, isDc, itemsOf, toDs, toDs_fz, toDs_comp, toDs_fun, all_true, eqD_int, eqD_bl, atI_nat, atI_0, atI_1, atI_2, atI_3, ixN4_0, ixN4_1, ixN4_2, ixN4_3], by simp [f_len_l, f_len_t, f_len_p, f_len_s, f_abs, f_max2, f_min2, f_sorted, f_all, f_int_i, f_int_b, f_list_l, f_list_t, f_tuple_l, f_tuple_t, f_ptuple, f_dict_p, f_lrange, d_neg, d_not, d_add_i, d_add_l, d_add_t, d_add_p, d_sub, d_mul_i, d_fdiv, d_mod, d_pow, d_eq, d_ne, d_lt_i, d_lt_t, d_le, d_gt, d_ge, d_in, d_nin, d_is_nn, d_is_in, d_is_ln, d_is_tn, d_ix_l, d_ix_t, d_ix_p, d_ix_s, d_sl_l, d_sl_t, d_sl_p, q_var, q_cst, q_glo, q_un, q_bin, q_cmp, q_chn, q_and, q_or, q_ite, q_idx, q_slc, q_tup, q_lst, q_dic, q_call, q_bf, q_isi, q_get, q_app, q_ext, q_popL, q_popA, q_comp, turn_eq, t_not, t_and, t_or, t_cmp, t_chn, t_call, t_bf, t_isi, t_var, c_nil, c_one, o_nil, o_one, l_nil, l_cons, i_val, i_rng1, i_rng2, i_enu, i_zip, s_asg, s_asgs, s_aug, s_exp, s_del, s_retF, s_retT, s_retN, s_ite, s_whl, s_for, s_brk, s_cnt, s_pass, b_nil, b_cons, w_nm, w_un, w_sub, runF, boolA, res, W.toD, W.at, W.sub, isiD, takeA, takeS, takeC, putC, frzA, frzL, takeL, stoL, ST.own, resL, iosOf, fin_c, own, -List.all_map, fz_all, fz_all2, fz_all3, D.isAtom, W.isFz, W.flat, bindT, wipeG, backG, Arg.simple, pureE, pureL, idxA, stepOf, modP, W.setAt, W.setS, setW, popW, isL, isDc, itemsOf, toDs, toDs_fz, toDs_comp, toDs_fun, all_true, eqD_int, eqD_bl, atI_nat, atI_0, atI_1, atI_2, atI_3, ixN4_0, ixN4_1, ixN4_2, ixN4_3]⟩
  have t1 : ∀ k : Nat, toDs (List.replicate k (W.fz (D.bl true))) = List.replicate k (D.bl true) := fun k => by
    induction k with
    | zero => rfl
    | succ k ih => rw [List.replicate_succ, List.replicate_succ]; show _ :: toDs _ = _; rw [ih]; rfl
  have t2 : ∀ k : Nat, blsOf (List.replicate k (D.bl true)) = some (List.replicate k true) := fun k => by
    induction k with
    | zero => rfl
    | succ k ih => rw [List.replicate_succ, List.replicate_succ]; show (blsOf _).map _ = _; rw [ih]; rfl
  have pm := pair_map hedgeD hedgeD es es.tail
  rw [List.map_tail] at pm
  have iN := in_none d
  rw [show natD 0 = D.int 0 from rfl] at er
  rw [call_eq pm_5]
  rw [wd] at c1 c2 c3 er ⊢
  simp only [natsL] at c3 er iN
  simp only [natD] at c1 c2 c3 er iN ⊢
  simp [f_len_l, f_len_t, f_len_p, f_len_s, f_abs, f_max2, f_min2, f_sorted, f_all, f_int_i, f_int_b, f_list_l, f_list_t, f_tuple_l, f_tuple_t, f_ptuple, f_dict_p, f_lrange, d_neg, d_not, d_add_i, d_add_l, d_add_t, d_add_p, d_sub, d_mul_i, d_fdiv, d_mod, d_pow, d_eq, d_ne, d_lt_i, d_lt_t, d_le, d_gt, d_ge, d_in, d_nin, d_is_nn, d_is_in, d_is_ln, d_is_tn, d_ix_l, d_ix_t, d_ix_p, d_ix_s, d_sl_l, d_sl_t, d_sl_p, q_var, q_cst, q_glo, q_un, q_bin, q_cmp, q_chn, q_and, q_or, q_ite, q_idx, q_slc, q_tup, q_lst, q_dic, q_call, q_bf, q_isi, q_get, q_app, q_ext, q_popL, q_popA, q_comp, turn_eq, t_not, t_and, t_or, t_cmp, t_chn, t_call, t_bf, t_isi, t_var, c_nil, c_one, o_nil, o_one, l_nil, l_cons, i_val, i_rng1, i_rng2, i_enu, i_zip, s_asg, s_asgs, s_aug, s_exp, s_del, s_retF, s_retT, s_retN, s_ite, s_whl, s_for, s_brk, s_cnt, s_pass, b_nil, b_cons, w_nm, w_un, w_sub, runF, boolA, res, W.toD, W.at, W.sub, isiD, takeA, takeS, takeC, putC, frzA, frzL, takeL, stoL, ST.own, resL, iosOf, fin_c, own, -List.all_map, fz_all, fz_all2, fz_all3, D.isAtom, W.isFz, W.flat, bindT, wipeG, backG, Arg.simple, pureE, pureL, idxA, stepOf, modP, W.setAt, W.setS, setW, popW, isL, isDc, itemsOf, toDs, toDs_fz, toDs_comp, toDs_fun, all_true, eqD_int, eqD_bl, atI_nat, atI_0, atI_1, atI_2, atI_3, ixN4_0, ixN4_1, ixN4_2, ixN4_3, f_5, e1, c1, c2, c3, er, iN, t1, t2, pm, cut_1, sl, sz, List.map_const']
end K08
end PF
end

section
set_option Elab.async false
set_option linter.all false
set_option maxRecDepth 100000
set_option maxHeartbeats 2000000
namespace PF
open PySem L2
/-- heights of a web: one apart along each hedge, none above M -/
structure LayOk (m : Nat) (es : List (Nat × Nat)) (M : Int) (l : List Int) : Prop where
  len : l.length = m
  low : ∀ x ∈ l, -M ≤ x ∧ x ≤ M
  step : ∀ p ∈ es, l.getD p.1 0 - l.getD p.2 0 = 1 ∨ l.getD p.2 0 - l.getD p.1 0 = 1
theorem LayOk.adj {m es M l} (h : LayOk m es M l) {u v : Nat} (a : Adj es u v) : l.getD u 0 - l.getD v 0 = 1 ∨ l.getD v 0 - l.getD u 0 = 1 := by
  rcases a with a | a
  · exact h.step _ a
  · exact (h.step _ a).symm
theorem toDs_rep (k : Nat) : toDs (List.replicate k (W.fz (D.bl true))) = List.replicate k (D.bl true) := by
  induction k with
  | zero => rfl
  | succ k ih => rw [List.replicate_succ, List.replicate_succ]; show _ :: toDs _ = _; rw [ih]; rfl
theorem bls_rep (k : Nat) : blsOf (List.replicate k (D.bl true)) = some (List.replicate k true) := by
  induction k with
  | zero => rfl
  | succ k ih => rw [List.replicate_succ, List.replicate_succ]; show (blsOf _).map _ = _; rw [ih]; rfl
namespace K08
variable {fu n : Nat}
theorem need_web_ok {m : Nat} {es : List (Nat × Nat)} (w : WebOk m es) (hfu : m < fu) : callF Pm fu (n + 5) 6 [.fz (webD m es)] = some (.fz .non, []) := by
  have e := is_web_ok (fu := fu) (n := n) w hfu
  rw [call_eq pm_6]
  simp [f_len_l, f_len_t, f_len_p, f_len_s, f_abs, f_max2, f_min2, f_sorted, f_all, f_int_i, f_int_b, f_list_l, f_list_t, f_tuple_l, f_tuple_t, f_ptuple, f_dict_p, f_lrange, d_neg, d_not, d_add_i, d_add_l, d_add_t, d_add_p, d_sub, d_mul_i, d_fdiv, d_mod, d_pow, d_eq, d_ne, d_lt_i, d_lt_t, d_le, d_gt, d_ge, d_in, d_nin, d_is_nn, d_is_in, d_is_ln, d_is_tn, d_ix_l, d_ix_t, d_ix_p, d_ix_s, d_sl_l, d_sl_t, d_sl_p, q_var, q_cst, q_glo, q_un, q_bin, q_cmp, q_chn, q_and, q_or, q_ite, q_idx, q_slc, q_tup, q_lst, q_dic, q_call, q_bf, q_isi, q_get, q_app, q_ext, q_popL, q_popA, q_comp, turn_eq, t_not, t_and, t_or, t_cmp, t_chn, t_call, t_bf, t_isi, t_var, c_nil, c_one, o_nil, o_one, l_nil, l_cons, i_val, i_rng1, i_rng2, i_enu, i_zip, s_asg, s_asgs, s_aug, s_exp, s_del, s_retF, s_retT, s_retN, s_ite, s_whl, s_for, s_brk, s_cnt, s_pass, b_nil, b_cons, w_nm, w_un, w_sub, runF, boolA, res, W.toD, W.at, W.sub, isiD, takeA, takeS, takeC, putC, frzA, frzL, takeL, stoL, ST.own, resL, iosOf, fin_c, own, -List.all_map, fz_all, fz_all2, fz_all3, D.isAtom, W.isFz, W.flat, bindT, wipeG, backG, Arg.simple, pureE, pureL, idxA, stepOf, modP, W.setAt, W.setS, setW, popW, isL, isDc, itemsOf, toDs, toDs_fz, toDs_comp, toDs_fun, all_true, eqD_int, eqD_bl, atI_nat, atI_0, atI_1, atI_2, atI_3, ixN4_0, ixN4_1, ixN4_2, ixN4_3, f_6, e]
theorem is_lay_ok {m : Nat} {es : List (Nat × Nat)} {l : List Int} (w : WebOk m es) (h : LayOk m es 1000000 l) : callF Pm fu (n + 3) 8 [.fz (webD m es), .fz (intsT l)] = some (.fz (.bl true), []) := by
  have wd : webD m es = .tup [natD m, .tup (es.map hedgeD)] := rfl
  have sl : slk es.length = true := slk_ok (by have := w.len; omega)
  have sm : slk m = true := slk_ok (by have := w.most; omega)
  have c1 := compQ_all (F := callF Pm fu (n + 2)) (ow := [2]) (t := .nm 2) (oe := false) (e := .call 1 [.val, .val, .val] (.cons (.var 2) (.cons (.un .neg (.glo "MOST_HEIGHT" 1000000)) (.cons (.glo "MOST_HEIGHT" 1000000) .nil)))) (g := [some (.fz (webD m es)), some (.fz (intsT l)), none, none, none]) D.int (fun _ => W.fz (.bl true)) (xs := l)
    fun x hx => ⟨[some (.fz (webD m es)), some (.fz (intsT l)), some (.fz (.int x)), none, none], (.tmp (.fz (.bl true)), [some (.fz (webD m es)), some (.fz (intsT l)), some (.fz (.int x)), none, none]), [some (.fz (webD m es)), some (.fz (intsT l)), some (.fz (.int x)), none, none], rfl, by
      have q := is_in_int (fu := fu) (n := n) x (-1000000) 1000000
      have b := h.low x hx
      have b1 : decide ((-1000000 : Int) ≤ x) = true := by simp; omega
      have b2 : decide (x ≤ (1000000 : Int)) = true := by simp; omega
      rw [b1, b2] at q
      simp [f_len_l, f_len_t, f_len_p, f_len_s, f_abs, f_max2, f_min2, f_sorted, f_all, f_int_i, f_int_b, f_list_l, f_list_t, f_tuple_l, f_tuple_t, f_ptuple, f_dict_p, f_lrange, d_neg, d_not, d_add_i, d_add_l, d_add_t, d_add_p, d_sub, d_mul_i, d_fdiv, d_mod, d_pow, d_eq, d_ne, d_lt_i, d_lt_t, d_le, d_gt, d_ge, d_in, d_nin, d_is_nn, d_is_in, d_is_ln, d_is_tn, d_ix_l, d_ix_t, d_ix_p, d_ix_s, d_sl_l, d_sl_t, d_sl_p, q_var, q_cst, q_glo, q_un, q_bin, q_cmp, q_chn, q_and, q_or, q_ite, q_idx, q_slc, q_tup, q_lst, q_dic, q_call, q_bf, q_isi, q_get, q_app, q_ext, q_popL, q_popA, q_comp, turn_eq, t_not, t_and, t_or, t_cmp, t_chn, t_call, t_bf, t_isi, t_var, c_nil, c_one, o_nil, o_one, l_nil, l_cons, i_val, i_rng1, i_rng2, i_enu, i_zip, s_asg, s_asgs, s_aug, s_exp, s_del, s_retF, s_retT, s_retN, s_ite, s_whl, s_for, s_brk, s_cnt, s_pass, b_nil, b_cons, w_nm, w_un, w_sub, runF, boolA, res, W.toD, W.at, W.sub, isiD, takeA, takeS, takeC, putC, frzA, frzL, takeL, stoL, ST.own, resL, iosOf, fin_c, own, -List.all_map, fz_all, fz_all2, fz_all3, D.isAtom, W.isFz, W.flat, bindT, wipeG, backG, Arg.simple, pureE, pureL, idxA, stepOf, modP, W.setAt, W.setS, setW, popW, isL, isDc, itemsOf, toDs, toDs_fz, toDs_comp, toDs_fun, all_true, eqD_int, eqD_bl, atI_nat, atI_0, atI_1, atI_2, atI_3, ixN4_0, ixN4_1, ixN4_2, ixN4_3, q], by simp [f_len_l, f_len_t, f_len_p, f_len_s, f_abs, f_max2, f_min2, f_sorted, f_all, f_int_i, f_int_b, f_list_l, f_list_t, f_tuple_l, f_tuple_t, f_ptuple, f_dict_p, f_lrange, d_neg, d_not, d_add_i, d_add_l, d_add_t, d_add_p, d_sub, d_mul_i, d_fdiv, d_mod, d_pow, d_eq, d_ne, d_lt_i, d_lt_t, d_le, d_gt, d_ge, d_in, d_nin, d_is_nn, d_is_in, d_is_ln, d_is_tn, d_ix_l, d_ix_t, d_ix_p, d_ix_s, d_sl_l, d_sl_t, d_sl_p, q_var, q_cst, q_glo, q_un, q_bin, q_cmp, q_chn, q_and, q_or, q_ite, q_idx, q_slc, q_tup, q_lst, q_dic, q_call, q_bf, q_isi, q_get, q_app, q_ext, q_popL, q_popA, q_comp, turn_eq, t_not, t_and, t_or, t_cmp, t_chn, t_call, t_bf, t_isi, t_var, c_nil, c_one, o_nil, o_one, l_nil, l_cons, i_val, i_rng1, i_rng2, i_enu, i_zip, s_asg, s_asgs, s_aug, s_exp, s_del, s_retF, s_retT, s_retN, s_ite, s_whl, s_for, s_brk, s_cnt, s_pass, b_nil, b_cons, w_nm, w_un, w_sub, runF, boolA, res, W.toD, W.at, W.sub, isiD, takeA, takeS, takeC, putC, frzA, frzL, takeL, stoL, ST.own, resL, iosOf, fin_c, own, -List.all_map, fz_all, fz_all2, fz_all3, D.isAtom, W.isFz, W.flat, bindT, wipeG, backG, Arg.simple, pureE, pureL, idxA, stepOf, modP, W.setAt, W.setS, setW, popW, isL, isDc, itemsOf, toDs, toDs_fz, toDs_comp, toDs_fun, all_true, eqD_int, eqD_bl, atI_nat, atI_0, atI_1, atI_2, atI_3, ixN4_0, ixN4_1, ixN4_2, ixN4_3], by simp [f_len_l, f_len_t, f_len_p, f_len_s, f_abs, f_max2, f_min2, f_sorted, f_all, f_int_i, f_int_b, f_list_l, f_list_t, f_tuple_l, f_tuple_t, f_ptuple, f_dict_p, f_lrange, d_neg, d_not, d_add_i, d_add_l, d_add_t, d_add_p, d_sub, d_mul_i, d_fdiv, d_mod, d_pow, d_eq, d_ne, d_lt_i, d_lt_t, d_le, d_gt, d_ge, d_in, d_nin, d_is_nn, d_is_in, d_is_ln, d_is_tn, d_ix_l, d_ix_t, d_ix_p, d_ix_s, d_sl_l, d_sl_t, d_sl_p, q_var, q_cst, q_glo, q_un, q_bin, q_cmp, q_chn, q_and, q_or, q_ite, q_idx, q_slc, q_tup, q_lst, q_dic, q_call, q_bf, q_isi, q_get, q_app, q_ext, q_popL, q_popA, q_comp, turn_eq, t_not, t_and, t_or, t_cmp, t_chn, t_call, t_bf, t_isi, t_var, c_nil, c_one, o_nil, o_one, l_nil, l_cons, i_val, i_rng1, i_rng2, i_enu, i_zip, s_asg, s_asgs, s_aug, s_exp, s_del, s_retF, s_retT, s_retN, s_ite, s_whl, s_for, s_brk, s_cnt, s_pass, b_nil, b_cons, w_nm, w_un, w_sub, runF, boolA, res, W.toD, W.at, W.sub, isiD, takeA, takeS, takeC, putC, frzA, frzL, takeL, stoL, ST.own, resL, iosOf, fin_c, own, -List.all_map, fz_all, fz_all2, fz_all3, D.isAtom, W.isFz, W.flat, bindT, wipeG, backG, Arg.simple, pureE, pureL, idxA, stepOf, modP, W.setAt, W.setS, setW, popW, isL, isDc, itemsOf, toDs, toDs_fz, toDs_comp, toDs_fun, all_true, eqD_int, eqD_bl, atI_nat, atI_0, atI_1, atI_2, atI_3, ixN4_0, ixN4_1, ixN4_2, ixN4_3]⟩
  have c2 := compQ_all (F := callF Pm fu (n + 2)) (ow := [3, 4]) (t := .cons (.nm 3) (.cons (.nm 4) .nil)) (oe := false) (e := .cmp .eq (.bf .abs (.cons (.bin .sub (.idx (.var 1) (.var 3)) (.idx (.var 1) (.var 4))) .nil)) (.cst (.int 1))) (g := [some (.fz (webD m es)), some (.fz (intsT l)), none, none, none]) hedgeD (fun _ => W.fz (.bl true)) (xs := es)
    fun p hp => ⟨[some (.fz (webD m es)), some (.fz (intsT l)), none, some (.fz (natD p.1)), some (.fz (natD p.2))], (.tmp (.fz (.bl true)), [some (.fz (webD m es)), some (.fz (intsT l)), none, some (.fz (natD p.1)), some (.fz (natD p.2))]), [some (.fz (webD m es)), some (.fz (intsT l)), none, some (.fz (natD p.1)), some (.fz (natD p.2))], by simp [f_len_l, f_len_t, f_len_p, f_len_s, f_abs, f_max2, f_min2, f_sorted, f_all, f_int_i, f_int_b, f_list_l, f_list_t, f_tuple_l, f_tuple_t, f_ptuple, f_dict_p, f_lrange, d_neg, d_not, d_add_i, d_add_l, d_add_t, d_add_p, d_sub, d_mul_i, d_fdiv, d_mod, d_pow, d_eq, d_ne, d_lt_i, d_lt_t, d_le, d_gt, d_ge, d_in, d_nin, d_is_nn, d_is_in, d_is_ln, d_is_tn, d_ix_l, d_ix_t, d_ix_p, d_ix_s, d_sl_l, d_sl_t, d_sl_p, q_var, q_cst, q_glo, q_un, q_bin, q_cmp, q_chn, q_and, q_or, q_ite, q_idx, q_slc, q_tup, q_lst, q_dic, q_call, q_bf, q_isi, q_get, q_app, q_ext, q_popL, q_popA, q_comp, turn_eq, t_not, t_and, t_or, t_cmp, t_chn, t_call, t_bf, t_isi, t_var, c_nil, c_one, o_nil, o_one, l_nil, l_cons, i_val, i_rng1, i_rng2, i_enu, i_zip, s_asg, s_asgs, s_aug, s_exp, s_del, s_retF, s_retT, s_retN, s_ite, s_whl, s_for, s_brk, s_cnt, s_pass, b_nil, b_cons, w_nm, w_un, w_sub, runF, boolA, res, W.toD, W.at, W.sub, isiD, takeA, takeS, takeC, putC, frzA, frzL, takeL, stoL, ST.own, resL, iosOf, fin_c, own, -List.all_map, fz_all, fz_all2, fz_all3, D.isAtom, W.isFz, W.flat, bindT, wipeG, backG, Arg.simple, pureE, pureL, idxA, stepOf, modP, W.setAt, W.setS, setW, popW, isL, isDc, itemsOf, toDs, toDs_fz, toDs_comp, toDs_fun, all_true, eqD_int, eqD_bl, atI_nat, atI_0, atI_1, atI_2, atI_3, ixN4_0, ixN4_1, ixN4_2, ixN4_3, hedgeD], by
      have k1 : p.1 < l.length := by rw [h.len]; have := w.rng.lt p hp; omega
      have k2 : p.2 < l.length := by rw [h.len]; have := w.rng.lt p hp; omega
      have q := h.step p hp
      have g1 : l.getD p.1 0 = l[p.1] := by simp [k1]
      have g2 : l.getD p.2 0 = l[p.2] := by simp [k2]
      rw [g1, g2] at q
      have q2 : (if l[p.1] - l[p.2] < 0 then -(l[p.1] - l[p.2]) else l[p.1] - l[p.2]) = 1 := by
        split <;> omega
      simp [f_len_l, f_len_t, f_len_p, f_len_s, f_abs, f_max2, f_min2, f_sorted, f_all, f_int_i, f_int_b, f_list_l, f_list_t, f_tuple_l, f_tuple_t, f_ptuple, f_dict_p, f_lrange, d_neg, d_not, d_add_i, d_add_l, d_add_t, d_add_p, d_sub, d_mul_i, d_fdiv, d_mod, d_pow, d_eq, d_ne, d_lt_i, d_lt_t, d_le, d_gt, d_ge, d_in, d_nin, d_is_nn, d_is_in, d_is_ln, d_is_tn, d_ix_l, d_ix_t, d_ix_p, d_ix_s, d_sl_l, d_sl_t, d_sl_p, q_var, q_cst, q_glo, q_un, q_bin, q_cmp, q_chn, q_and, q_or, q_ite, q_idx, q_slc, q_tup, q_lst, q_dic, q_call, q_bf, q_isi, q_get, q_app, q_ext, q_popL, q_popA, q_comp, turn_eq, t_not, t_and, t_or, t_cmp, t_chn, t_call, t_bf, t_isi, t_var, c_nil, c_one, o_nil, o_one, l_nil, l_cons, i_val, i_rng1, i_rng2, i_enu, i_zip, s_asg, s_asgs, s_aug, s_exp, s_del, s_retF, s_retT, s_retN, s_ite, s_whl, s_for, s_brk, s_cnt, s_pass, b_nil, b_cons, w_nm, w_un, w_sub, runF, boolA, res, W.toD, W.at, W.sub, isiD, takeA, takeS, takeC, putC, frzA, frzL, takeL, stoL, ST.own, resL, iosOf, fin_c, own, -List.all_map, fz_all, fz_all2, fz_all3, D.isAtom, W.isFz, W.flat, bindT, wipeG, backG, Arg.simple, pureE, pureL, idxA, stepOf, modP, W.setAt, W.setS, setW, popW, isL, isDc, itemsOf, toDs, toDs_fz, toDs_comp, toDs_fun, all_true, eqD_int, eqD_bl, atI_nat, atI_0, atI_1, atI_2, atI_3, ixN4_0, ixN4_1, ixN4_2, ixN4_3, intsT, natD, k1, k2, q2], by simp [f_len_l, f_len_t, f_len_p, f_len_s, f_abs, f_max2, f_min2, f_sorted, f_all, f_int_i, f_int_b, f_list_l, f_list_t, f_tuple_l, f_tuple_t, f_ptuple, f_dict_p, f_lrange, d_neg, d_not, d_add_i, d_add_l, d_add_t, d_add_p, d_sub, d_mul_i, d_fdiv, d_mod, d_pow, d_eq, d_ne, d_lt_i, d_lt_t, d_le, d_gt, d_ge, d_in, d_nin, d_is_nn, d_is_in, d_is_ln, d_is_tn, d_ix_l, d_ix_t, d_ix_p, d_ix_s, d_sl_l, d_sl_t, d_sl_p, q_var, q_cst, q_glo, q_un, q_bin, q_cmp, q_chn, q_and, q_or, q_ite, q_idx, q_slc, q_tup, q_lst, q_dic, q_call, q_bf, q_isi, q_get, q_app, q_ext, q_popL, q_popA, q_comp, turn_eq, t_not, t_and, t_or, t_cmp, t_chn, t_call, t_bf, t_isi, t_var, c_nil, c_one, o_nil, o_one, l_nil, l_cons, i_val, i_rng1, i_rng2, i_enu, i_zip, s_asg, s_asgs, s_aug, s_exp, s_del, s_retF, s_retT, s_retN, s_ite, s_whl, s_for, s_brk, s_cnt, s_pass, b_nil, b_cons, w_nm, w_un, w_sub, runF, boolA, res, W.toD, W.at, W.sub, isiD, takeA, takeS, takeC, putC, frzA, frzL, takeL, stoL, ST.own, resL, iosOf, fin_c, own, -List.all_map, fz_all, fz_all2, fz_all3, D.isAtom, W.isFz, W.flat, bindT, wipeG, backG, Arg.simple, pureE, pureL, idxA, stepOf, modP, W.setAt, W.setS, setW, popW, isL, isDc, itemsOf, toDs, toDs_fz, toDs_comp, toDs_fun, all_true, eqD_int, eqD_bl, atI_nat, atI_0, atI_1, atI_2, atI_3, ixN4_0, ixN4_1, ixN4_2, ixN4_3], by simp [f_len_l, f_len_t, f_len_p, f_len_s, f_abs, f_max2, f_min2, f_sorted, f_all, f_int_i, f_int_b, f_list_l, f_list_t, f_tuple_l, f_tuple_t, f_ptuple, f_dict_p, f_lrange, d_neg, d_not, d_add_i, d_add_l, d_add_t, d_add_p, d_sub, d_mul_i, d_fdiv, d_mod, d_pow, d_eq, d_ne, d_lt_i, d_lt_t, d_le, d_gt, d_ge, d_in, d_nin, d_is_nn, d_is_in, d_is_ln, d_is_tn, d_ix_l, d_ix_t, d_ix_p, d_ix_s, d_sl_l, d_sl_t, d_sl_p, q_var, q_cst, q_glo, q_un, q_bin, q_cmp, q_chn, q_and, q_or, q_ite, q_idx, q_slc, q_tup, q_lst, q_dic, q_call, q_bf, q_isi, q_get, q_app, q_ext, q_popL, q_popA, q_comp, turn_eq, t_not, t_and, t_or, t_cmp, t_chn, t_call, t_bf, t_isi, t_var, c_nil, c_one, o_nil, o_one, l_nil, l_cons, i_val, i_rng1, i_rng2, i_enu, i_zip, s_asg, s_asgs, s_aug, s_exp, s_del, s_retF, s_retT, s_retN, s_ite, s_whl, s_for, s_brk, s_cnt, s_pass, b_nil, b_cons, w_nm, w_un, w_sub, runF, boolA, res, W.toD, W.at, W.sub, isiD, takeA, takeS, takeC, putC, frzA, frzL, takeL, stoL, ST.own, resL, iosOf, fin_c, own, -List.all_map, fz_all, fz_all2, fz_all3, D.isAtom, W.isFz, W.flat, bindT, wipeG, backG, Arg.simple, pureE, pureL, idxA, stepOf, modP, W.setAt, W.setS, setW, popW, isL, isDc, itemsOf, toDs, toDs_fz, toDs_comp, toDs_fun, all_true, eqD_int, eqD_bl, atI_nat, atI_0, atI_1, atI_2, atI_3, ixN4_0, ixN4_1, ixN4_2, ixN4_3]⟩
  rw [call_eq pm_8]
  rw [wd] at c1 c2 ⊢
  simp only [natD, intsT] at c1 c2 ⊢
  simp [f_len_l, f_len_t, f_len_p, f_len_s, f_abs, f_max2, f_min2, f_sorted, f_all, f_int_i, f_int_b, f_list_l, f_list_t, f_tuple_l, f_tuple_t, f_ptuple, f_dict_p, f_lrange, d_neg, d_not, d_add_i, d_add_l, d_add_t, d_add_p, d_sub, d_mul_i, d_fdiv, d_mod, d_pow, d_eq, d_ne, d_lt_i, d_lt_t, d_le, d_gt, d_ge, d_in, d_nin, d_is_nn, d_is_in, d_is_ln, d_is_tn, d_ix_l, d_ix_t, d_ix_p, d_ix_s, d_sl_l, d_sl_t, d_sl_p, q_var, q_cst, q_glo, q_un, q_bin, q_cmp, q_chn, q_and, q_or, q_ite, q_idx, q_slc, q_tup, q_lst, q_dic, q_call, q_bf, q_isi, q_get, q_app, q_ext, q_popL, q_popA, q_comp, turn_eq, t_not, t_and, t_or, t_cmp, t_chn, t_call, t_bf, t_isi, t_var, c_nil, c_one, o_nil, o_one, l_nil, l_cons, i_val, i_rng1, i_rng2, i_enu, i_zip, s_asg, s_asgs, s_aug, s_exp, s_del, s_retF, s_retT, s_retN, s_ite, s_whl, s_for, s_brk, s_cnt, s_pass, b_nil, b_cons, w_nm, w_un, w_sub, runF, boolA, res, W.toD, W.at, W.sub, isiD, takeA, takeS, takeC, putC, frzA, frzL, takeL, stoL, ST.own, resL, iosOf, fin_c, own, -List.all_map, fz_all, fz_all2, fz_all3, D.isAtom, W.isFz, W.flat, bindT, wipeG, backG, Arg.simple, pureE, pureL, idxA, stepOf, modP, W.setAt, W.setS, setW, popW, isL, isDc, itemsOf, toDs, toDs_fz, toDs_comp, toDs_fun, all_true, eqD_int, eqD_bl, atI_nat, atI_0, atI_1, atI_2, atI_3, ixN4_0, ixN4_1, ixN4_2, ixN4_3, f_8, c1, c2, toDs_rep, bls_rep, sl, sm, h.len, List.map_const']
theorem need_lay_ok {m : Nat} {es : List (Nat × Nat)} {l : List Int} (w : WebOk m es) (h : LayOk m es 1000000 l) : callF Pm fu (n + 4) 9 [.fz (webD m es), .fz (intsT l)] = some (.fz .non, []) := by
  have e := is_lay_ok (fu := fu) (n := n) w h
  rw [call_eq pm_9]
  simp [f_len_l, f_len_t, f_len_p, f_len_s, f_abs, f_max2, f_min2, f_sorted, f_all, f_int_i, f_int_b, f_list_l, f_list_t, f_tuple_l, f_tuple_t, f_ptuple, f_dict_p, f_lrange, d_neg, d_not, d_add_i, d_add_l, d_add_t, d_add_p, d_sub, d_mul_i, d_fdiv, d_mod, d_pow, d_eq, d_ne, d_lt_i, d_lt_t, d_le, d_gt, d_ge, d_in, d_nin, d_is_nn, d_is_in, d_is_ln, d_is_tn, d_ix_l, d_ix_t, d_ix_p, d_ix_s, d_sl_l, d_sl_t, d_sl_p, q_var, q_cst, q_glo, q_un, q_bin, q_cmp, q_chn, q_and, q_or, q_ite, q_idx, q_slc, q_tup, q_lst, q_dic, q_call, q_bf, q_isi, q_get, q_app, q_ext, q_popL, q_popA, q_comp, turn_eq, t_not, t_and, t_or, t_cmp, t_chn, t_call, t_bf, t_isi, t_var, c_nil, c_one, o_nil, o_one, l_nil, l_cons, i_val, i_rng1, i_rng2, i_enu, i_zip, s_asg, s_asgs, s_aug, s_exp, s_del, s_retF, s_retT, s_retN, s_ite, s_whl, s_for, s_brk, s_cnt, s_pass, b_nil, b_cons, w_nm, w_un, w_sub, runF, boolA, res, W.toD, W.at, W.sub, isiD, takeA, takeS, takeC, putC, frzA, frzL, takeL, stoL, ST.own, resL, iosOf, fin_c, own, -List.all_map, fz_all, fz_all2, fz_all3, D.isAtom, W.isFz, W.flat, bindT, wipeG, backG, Arg.simple, pureE, pureL, idxA, stepOf, modP, W.setAt, W.setS, setW, popW, isL, isDc, itemsOf, toDs, toDs_fz, toDs_comp, toDs_fun, all_true, eqD_int, eqD_bl, atI_nat, atI_0, atI_1, atI_2, atI_3, ixN4_0, ixN4_1, ixN4_2, ixN4_3, f_9, e]
theorem need_first_ok {m : Nat} {es : List (Nat × Nat)} {l : List Int} (w : WebOk m es) (h : LayOk m es 1000000 l) (hfu : m < fu) : callF Pm fu (n + 6) 10 [.fz (webD m es), .fz (intsT l)] = some (.fz .non, []) := by
  have e1 := need_web_ok (fu := fu) (n := n) w hfu
  have e2 := need_lay_ok (fu := fu) (n := n + 1) w h
  rw [call_eq pm_10]
  simp [f_len_l, f_len_t, f_len_p, f_len_s, f_abs, f_max2, f_min2, f_sorted, f_all, f_int_i, f_int_b, f_list_l, f_list_t, f_tuple_l, f_tuple_t, f_ptuple, f_dict_p, f_lrange, d_neg, d_not, d_add_i, d_add_l, d_add_t, d_add_p, d_sub, d_mul_i, d_fdiv, d_mod, d_pow, d_eq, d_ne, d_lt_i, d_lt_t, d_le, d_gt, d_ge, d_in, d_nin, d_is_nn, d_is_in, d_is_ln, d_is_tn, d_ix_l, d_ix_t, d_ix_p, d_ix_s, d_sl_l, d_sl_t, d_sl_p, q_var, q_cst, q_glo, q_un, q_bin, q_cmp, q_chn, q_and, q_or, q_ite, q_idx, q_slc, q_tup, q_lst, q_dic, q_call, q_bf, q_isi, q_get, q_app, q_ext, q_popL, q_popA, q_comp, turn_eq, t_not, t_and, t_or, t_cmp, t_chn, t_call, t_bf, t_isi, t_var, c_nil, c_one, o_nil, o_one, l_nil, l_cons, i_val, i_rng1, i_rng2, i_enu, i_zip, s_asg, s_asgs, s_aug, s_exp, s_del, s_retF, s_retT, s_retN, s_ite, s_whl, s_for, s_brk, s_cnt, s_pass, b_nil, b_cons, w_nm, w_un, w_sub, runF, boolA, res, W.toD, W.at, W.sub, isiD, takeA, takeS, takeC, putC, frzA, frzL, takeL, stoL, ST.own, resL, iosOf, fin_c, own, -List.all_map, fz_all, fz_all2, fz_all3, D.isAtom, W.isFz, W.flat, bindT, wipeG, backG, Arg.simple, pureE, pureL, idxA, stepOf, modP, W.setAt, W.setS, setW, popW, isL, isDc, itemsOf, toDs, toDs_fz, toDs_comp, toDs_fun, all_true, eqD_int, eqD_bl, atI_nat, atI_0, atI_1, atI_2, atI_3, ixN4_0, ixN4_1, ixN4_2, ixN4_3, f_10, e1, e2]
end K08
end PF
end

section
set_option Elab.async false
set_option linter.all false
set_option maxRecDepth 100000
set_option maxHeartbeats 2000000
namespace PF
open PySem L2
def stopD (p : Nat × Int) : D := .tup [natD p.1, .int p.2]
def stopsD (st : List (Nat × Int)) : D := .pt (st.map stopD)
structure StopsOk (m : Nat) (l : List Int) (st : List (Nat × Int)) : Prop where
  some : st ≠ []
  sort : st.Pairwise fun p q => p.1 < q.1
  ok : ∀ p ∈ st, p.1 < m ∧ l.getD p.1 0 ≤ p.2 ∧ p.2 ≤ 1000000 ∧ (p.2 - l.getD p.1 0) % 2 = 0
theorem StopsOk.len {m l st} (h : StopsOk m l st) : st.length ≤ m := by
  have h1 : (st.map (·.1)).Nodup := by
    rw [List.nodup_iff_pairwise_ne, List.pairwise_map]
    exact h.sort.imp fun h => Nat.ne_of_lt h
  have := nodup_len m (st.map (·.1)) h1 fun x hx => by
    obtain ⟨p, hp, rfl⟩ := List.mem_map.mp hx
    exact (h.ok p hp).1
  simpa using this
theorem lay_stops : ∀ st : List (Nat × Int), layDs (st.map stopD) = true
  | [] => rfl
  | a :: l => by
    show (true && layDs (l.map stopD)) = true
    rw [lay_stops l]; rfl
theorem dep_stops : ∀ st : List (Nat × Int), depDs (st.map stopD) ≤ 1
  | [] => by simp [depDs]
  | a :: l => by
    show max 1 (depDs (l.map stopD)) ≤ 1
    have := dep_stops l
    omega
theorem stops_nil (st : List (Nat × Int)) : eqD (stopsD st) (.tup []) = some (decide (st = [])) := by
  have h : okD (stopsD st) = true := by
    unfold okD stopsD
    have := dep_stops st
    simp [layD, lay_stops, depD]
    omega
  unfold eqD
  rw [h]
  cases st <;> rfl
namespace K08
variable {fu n : Nat}
theorem isi_pt {xs : List D} : isiD (.pt xs) [.tuple] = some true := rfl
theorem are_stops_ok {m : Nat} {es : List (Nat × Nat)} {l : List Int} {st : List (Nat × Int)} (hm : m ≤ 10000) (hl : l.length = m) (h : StopsOk m l st) : callF Pm fu (n + 3) 11 [.fz (webD m es), .fz (intsT l), .fz (stopsD st)] = some (.fz (.bl true), []) := by
  have wd : webD m es = .tup [natD m, .tup (es.map hedgeD)] := rfl
  have hlen := h.len
  have sm : slk (st.length - 1) = true := slk_ok (by omega)
  have en := stops_nil st
  rw [decide_eq_false h.some] at en
  have lp : ∃ x, forQ (callF Pm fu (n + 2)) fu (.nm 3) (.cons (.ite (.or (.un .not (.isi (.var 3) [.tuple] true)) (.or (.cmp .ne (.bf .len (.cons (.var 3) .nil)) (.cst (.int 2))) (.un .not (.call 1 [.val, .val, .val] (.cons (.idx (.var 3) (.cst (.int 0))) (.cons (.cst (.int 0)) (.cons (.bin .sub (.idx (.var 0) (.cst (.int 0))) (.cst (.int 1))) .nil))))))) (.cons (.ret false (.cst (.bl false))) <|
      .nil) .nil) <|
    .cons (.ite (.or (.un .not (.call 1 [.val, .val, .val] (.cons (.idx (.var 3) (.cst (.int 1))) (.cons (.idx (.var 1) (.idx (.var 3) (.cst (.int 0)))) (.cons (.glo "MOST_HEIGHT" 1000000) .nil))))) (.cmp .ne (.bin .mod (.bin .sub (.idx (.var 3) (.cst (.int 1))) (.idx (.var 1) (.idx (.var 3) (.cst (.int 0))))) (.cst (.int 2))) (.cst (.int 0)))) (.cons (.ret false (.cst (.bl false))) <|
      .nil) .nil) <|
    .nil) (st.map stopD) [some (.fz (webD m es)), some (.fz (intsT l)), some (.fz (stopsD st)), none, none, none] = some (.nx [some (.fz (webD m es)), some (.fz (intsT l)), some (.fz (stopsD st)), x, none, none]) := by
    obtain ⟨g', e, x, e2⟩ := forL_inv (bind := fun d g => bindT (.nm 3) d g) (body := fun g => runB (callF Pm fu (n + 2)) fu (.cons (.ite (.or (.un .not (.isi (.var 3) [.tuple] true)) (.or (.cmp .ne (.bf .len (.cons (.var 3) .nil)) (.cst (.int 2))) (.un .not (.call 1 [.val, .val, .val] (.cons (.idx (.var 3) (.cst (.int 0))) (.cons (.cst (.int 0)) (.cons (.bin .sub (.idx (.var 0) (.cst (.int 0))) (.cst (.int 1))) .nil))))))) (.cons (.ret false (.cst (.bl false))) <|
      .nil) .nil) <|
    .cons (.ite (.or (.un .not (.call 1 [.val, .val, .val] (.cons (.idx (.var 3) (.cst (.int 1))) (.cons (.idx (.var 1) (.idx (.var 3) (.cst (.int 0)))) (.cons (.glo "MOST_HEIGHT" 1000000) .nil))))) (.cmp .ne (.bin .mod (.bin .sub (.idx (.var 3) (.cst (.int 1))) (.idx (.var 1) (.idx (.var 3) (.cst (.int 0))))) (.cst (.int 2))) (.cst (.int 0)))) (.cons (.ret false (.cst (.bl false))) <|
      .nil) .nil) <|
    .nil) g) (ds := st.map stopD) (g := [some (.fz (webD m es)), some (.fz (intsT l)), some (.fz (stopsD st)), none, none, none])
      (fun i g => ∃ x : Option W, g = [some (.fz (webD m es)), some (.fz (intsT l)), some (.fz (stopsD st)), x, none, none]) ⟨none, rfl⟩
      (by
        rintro i d g hd ⟨x, rfl⟩
        rw [List.getElem?_map, Option.map_eq_some_iff] at hd
        obtain ⟨p, hp, rfl⟩ := hd
        obtain ⟨k1, k2, k3, k4⟩ := h.ok p (List.mem_of_getElem? hp)
        have kl : p.1 < l.length := by omega
        have g1 : l.getD p.1 0 = l[p.1] := by simp [kl]
        rw [g1] at k2 k4
        have q1 := is_in_int (fu := fu) (n := n) (p.1 : Int) 0 ((m : Int) - 1)
        have b1 : decide ((0 : Int) ≤ (p.1 : Int)) = true := by simp
        have b2 : decide ((p.1 : Int) ≤ (m : Int) - 1) = true := by simp; omega
        rw [b1, b2] at q1
        have q2 := is_in_int (fu := fu) (n := n) p.2 l[p.1] 1000000
        have b3 : decide (l[p.1] ≤ p.2) = true := by simp; omega
        have b4 : decide (p.2 ≤ (1000000 : Int)) = true := by simp; omega
        rw [b3, b4] at q2
        have q3 : (p.2 - l[p.1]).fmod 2 = 0 := by
          rw [Int.fmod_eq_emod_of_nonneg _ (by omega)]
          omega
        refine ⟨[some (.fz (webD m es)), some (.fz (intsT l)), some (.fz (stopsD st)), some (.fz (stopD p)), none, none], [some (.fz (webD m es)), some (.fz (intsT l)), some (.fz (stopsD st)), some (.fz (stopD p)), none, none], by simp [f_len_l, f_len_t, f_len_p, f_len_s, f_abs, f_max2, f_min2, f_sorted, f_all, f_int_i, f_int_b, f_list_l, f_list_t, f_tuple_l, f_tuple_t, f_ptuple, f_dict_p, f_lrange, d_neg, d_not, d_add_i, d_add_l, d_add_t, d_add_p, d_sub, d_mul_i, d_fdiv, d_mod, d_pow, d_eq, d_ne, d_lt_i, d_lt_t, d_le, d_gt, d_ge, d_in, d_nin, d_is_nn, d_is_in, d_is_ln, d_is_tn, d_ix_l, d_ix_t, d_ix_p, d_ix_s, d_sl_l, d_sl_t, d_sl_p, q_var, q_cst, q_glo, q_un, q_bin, q_cmp, q_chn, q_and, q_or, q_ite, q_idx, q_slc, q_tup, q_lst, q_dic, q_call, q_bf, q_isi, q_get, q_app, q_ext, q_popL, q_popA, q_comp, turn_eq, t_not, t_and, t_or, t_cmp, t_chn, t_call, t_bf, t_isi, t_var, c_nil, c_one, o_nil, o_one, l_nil, l_cons, i_val, i_rng1, i_rng2, i_enu, i_zip, s_asg, s_asgs, s_aug, s_exp, s_del, s_retF, s_retT, s_retN, s_ite, s_whl, s_for, s_brk, s_cnt, s_pass, b_nil, b_cons, w_nm, w_un, w_sub, runF, boolA, res, W.toD, W.at, W.sub, isiD, takeA, takeS, takeC, putC, frzA, frzL, takeL, stoL, ST.own, resL, iosOf, fin_c, own, -List.all_map, fz_all, fz_all2, fz_all3, D.isAtom, W.isFz, W.flat, bindT, wipeG, backG, Arg.simple, pureE, pureL, idxA, stepOf, modP, W.setAt, W.setS, setW, popW, isL, isDc, itemsOf, toDs, toDs_fz, toDs_comp, toDs_fun, all_true, eqD_int, eqD_bl, atI_nat, atI_0, atI_1, atI_2, atI_3, ixN4_0, ixN4_1, ixN4_2, ixN4_3], ?_, _, rfl⟩
        simp [f_len_l, f_len_t, f_len_p, f_len_s, f_abs, f_max2, f_min2, f_sorted, f_all, f_int_i, f_int_b, f_list_l, f_list_t, f_tuple_l, f_tuple_t, f_ptuple, f_dict_p, f_lrange, d_neg, d_not, d_add_i, d_add_l, d_add_t, d_add_p, d_sub, d_mul_i, d_fdiv, d_mod, d_pow, d_eq, d_ne, d_lt_i, d_lt_t, d_le, d_gt, d_ge, d_in, d_nin, d_is_nn, d_is_in, d_is_ln, d_is_tn, d_ix_l, d_ix_t, d_ix_p, d_ix_s, d_sl_l, d_sl_t, d_sl_p, q_var, q_cst, q_glo, q_un, q_bin, q_cmp, q_chn, q_and, q_or, q_ite, q_idx, q_slc, q_tup, q_lst, q_dic, q_call, q_bf, q_isi, q_get, q_app, q_ext, q_popL, q_popA, q_comp, turn_eq, t_not, t_and, t_or, t_cmp, t_chn, t_call, t_bf, t_isi, t_var, c_nil, c_one, o_nil, o_one, l_nil, l_cons, i_val, i_rng1, i_rng2, i_enu, i_zip, s_asg, s_asgs, s_aug, s_exp, s_del, s_retF, s_retT, s_retN, s_ite, s_whl, s_for, s_brk, s_cnt, s_pass, b_nil, b_cons, w_nm, w_un, w_sub, runF, boolA, res, W.toD, W.at, W.sub, isiD, takeA, takeS, takeC, putC, frzA, frzL, takeL, stoL, ST.own, resL, iosOf, fin_c, own, -List.all_map, fz_all, fz_all2, fz_all3, D.isAtom, W.isFz, W.flat, bindT, wipeG, backG, Arg.simple, pureE, pureL, idxA, stepOf, modP, W.setAt, W.setS, setW, popW, isL, isDc, itemsOf, toDs, toDs_fz, toDs_comp, toDs_fun, all_true, eqD_int, eqD_bl, atI_nat, atI_0, atI_1, atI_2, atI_3, ixN4_0, ixN4_1, ixN4_2, ixN4_3, wd, stopD, natD, intsT, q1, q2, q3, kl])
    subst e2
    exact ⟨x, e⟩
  obtain ⟨x, e⟩ := lp
  have c2 := compQ_all (F := callF Pm fu (n + 2)) (ow := [4, 5]) (t := .cons (.nm 4) (.cons (.nm 5) .nil)) (oe := false) (e := .cmp .lt (.idx (.var 4) (.cst (.int 0))) (.idx (.var 5) (.cst (.int 0)))) (g := [some (.fz (webD m es)), some (.fz (intsT l)), some (.fz (stopsD st)), x, none, none]) (fun p : (Nat × Int) × (Nat × Int) => D.tup [stopD p.1, stopD p.2]) (fun _ => W.fz (.bl true)) (xs := st.zip st.tail)
    fun p hp => ⟨[some (.fz (webD m es)), some (.fz (intsT l)), some (.fz (stopsD st)), x, some (.fz (stopD p.1)), some (.fz (stopD p.2))], (.tmp (.fz (.bl true)), [some (.fz (webD m es)), some (.fz (intsT l)), some (.fz (stopsD st)), x, some (.fz (stopD p.1)), some (.fz (stopD p.2))]), [some (.fz (webD m es)), some (.fz (intsT l)), some (.fz (stopsD st)), x, some (.fz (stopD p.1)), some (.fz (stopD p.2))], by simp [f_len_l, f_len_t, f_len_p, f_len_s, f_abs, f_max2, f_min2, f_sorted, f_all, f_int_i, f_int_b, f_list_l, f_list_t, f_tuple_l, f_tuple_t, f_ptuple, f_dict_p, f_lrange, d_neg, d_not, d_add_i, d_add_l, d_add_t, d_add_p, d_sub, d_mul_i, d_fdiv, d_mod, d_pow, d_eq, d_ne, d_lt_i, d_lt_t, d_le, d_gt, d_ge, d_in, d_nin, d_is_nn, d_is_in, d_is_ln, d_is_tn, d_ix_l, d_ix_t, d_ix_p, d_ix_s, d_sl_l, d_sl_t, d_sl_p, q_var, q_cst, q_glo, q_un, q_bin, q_cmp, q_chn, q_and, q_or, q_ite, q_idx, q_slc, q_tup, q_lst, q_dic, q_call, q_bf, q_isi, q_get, q_app, q_ext, q_popL, q_popA, q_comp, turn_eq, t_not, t_and, t_or, t_cmp, t_chn, t_call, t_bf, t_isi, t_var, c_nil, c_one, o_nil, o_one, l_nil, l_cons, i_val, i_rng1, i_rng2, i_enu, i_zip, s_asg, s_asgs, s_aug, s_exp, s_del, s_retF, s_retT, s_retN, s_ite, s_whl, s_for, s_brk, s_cnt, s_pass, b_nil, b_cons, w_nm, w_un, w_sub, runF, boolA, res, W.toD, W.at, W.sub, isiD, takeA, takeS, takeC, putC, frzA, frzL, takeL, stoL, ST.own, resL, iosOf, fin_c, own, -List.all_map, fz_all, fz_all2, fz_all3, D.isAtom, W.isFz, W.flat, bindT, wipeG, backG, Arg.simple, pureE, pureL, idxA, stepOf, modP, W.setAt, W.setS, setW, popW, isL, isDc, itemsOf, toDs, toDs_fz, toDs_comp, toDs_fun, all_true, eqD_int, eqD_bl, atI_nat, atI_0, atI_1, atI_2, atI_3, ixN4_0, ixN4_1, ixN4_2, ixN4_3], by
      have q := zip_next h.sort p hp
      have q2 : ((p.1.1 : Int) < (p.2.1 : Int)) := by omega
      simp [f_len_l, f_len_t, f_len_p, f_len_s, f_abs, f_max2, f_min2, f_sorted, f_all, f_int_i, f_int_b, f_list_l, f_list_t, f_tuple_l, f_tuple_t, f_ptuple, f_dict_p, f_lrange, d_neg, d_not, d_add_i, d_add_l, d_add_t, d_add_p, d_sub, d_mul_i, d_fdiv, d_mod, d_pow, d_eq, d_ne, d_lt_i, d_lt_t, d_le, d_gt, d_ge, d_in, d_nin, d_is_nn, d_is_in, d_is_ln, d_is_tn, d_ix_l, d_ix_t, d_ix_p, d_ix_s, d_sl_l, d_sl_t, d_sl_p, q_var, q_cst, q_glo, q_un, q_bin, q_cmp, q_chn, q_and, q_or, q_ite, q_idx, q_slc, q_tup, q_lst, q_dic, q_call, q_bf, q_isi, q_get, q_app, q_ext, q_popL, q_popA, q_comp, turn_eq, t_not, t_and, t_or, t_cmp, t_chn, t_call, t_bf, t_isi, t_var, c_nil, c_one, o_nil, o_one, l_nil, l_cons, i_val, i_rng1, i_rng2, i_enu, i_zip, s_asg, s_asgs, s_aug, s_exp, s_del, s_retF, s_retT, s_retN, s_ite, s_whl, s_for, s_brk, s_cnt, s_pass, b_nil, b_cons, w_nm, w_un, w_sub, runF, boolA, res, W.toD, W.at, W.sub, isiD, takeA, takeS, takeC, putC, frzA, frzL, takeL, stoL, ST.own, resL, iosOf, fin_c, own, -List.all_map, fz_all, fz_all2, fz_all3, D.isAtom, W.isFz, W.flat, bindT, wipeG, backG, Arg.simple, pureE, pureL, idxA, stepOf, modP, W.setAt, W.setS, setW, popW, isL, isDc, itemsOf, toDs, toDs_fz, toDs_comp, toDs_fun, all_true, eqD_int, eqD_bl, atI_nat, atI_0, atI_1, atI_2, atI_3, ixN4_0, ixN4_1, ixN4_2, ixN4_3, stopD, natD, q], by simp [f_len_l, f_len_t, f_len_p, f_len_s, f_abs, f_max2, f_min2, f_sorted, f_all, f_int_i, f_int_b, f_list_l, f_list_t, f_tuple_l, f_tuple_t, f_ptuple, f_dict_p, f_lrange, d_neg, d_not, d_add_i, d_add_l, d_add_t, d_add_p, d_sub, d_mul_i, d_fdiv, d_mod, d_pow, d_eq, d_ne, d_lt_i, d_lt_t, d_le, d_gt, d_ge, d_in, d_nin, d_is_nn, d_is_in, d_is_ln, d_is_tn, d_ix_l, d_ix_t, d_ix_p, d_ix_s, d_sl_l, d_sl_t, d_sl_p, q_var, q_cst, q_glo, q_un, q_bin, q_cmp, q_chn, q_and, q_or, q_ite, q_idx, q_slc, q_tup, q_lst, q_dic, q_call, q_bf, q_isi, q_get, q_app, q_ext, q_popL, q_popA, q_comp, turn_eq, t_not, t_and, t_or, t_cmp, t_chn, t_call, t_bf, t_isi, t_var, c_nil, c_one, o_nil, o_one, l_nil, l_cons, i_val, i_rng1, i_rng2, i_enu, i_zip, s_asg, s_asgs, s_aug, s_exp, s_del, s_retF, s_retT, s_retN, s_ite, s_whl, s_for, s_brk, s_cnt, s_pass, b_nil, b_cons, w_nm, w_un, w_sub, runF, boolA, res, W.toD, W.at, W.sub, isiD, takeA, takeS, takeC, putC, frzA, frzL, takeL, stoL, ST.own, resL, iosOf, fin_c, own, -List.all_map, fz_all, fz_all2, fz_all3, D.isAtom, W.isFz, W.flat, bindT, wipeG, backG, Arg.simple, pureE, pureL, idxA, stepOf, modP, W.setAt, W.setS, setW, popW, isL, isDc, itemsOf, toDs, toDs_fz, toDs_comp, toDs_fun, all_true, eqD_int, eqD_bl, atI_nat, atI_0, atI_1, atI_2, atI_3, ixN4_0, ixN4_1, ixN4_2, ixN4_3], by simp [f_len_l, f_len_t, f_len_p, f_len_s, f_abs, f_max2, f_min2, f_sorted, f_all, f_int_i, f_int_b, f_list_l, f_list_t, f_tuple_l, f_tuple_t, f_ptuple, f_dict_p, f_lrange, d_neg, d_not, d_add_i, d_add_l, d_add_t, d_add_p, d_sub, d_mul_i, d_fdiv, d_mod, d_pow, d_eq, d_ne, d_lt_i, d_lt_t, d_le, d_gt, d_ge, d_in, d_nin, d_is_nn, d_is_in, d_is_ln, d_is_tn, d_ix_l, d_ix_t, d_ix_p, d_ix_s, d_sl_l, d_sl_t, d_sl_p, q_var, q_cst, q_glo, q_un, q_bin, q_cmp, q_chn, q_and, q_or, q_ite, q_idx, q_slc, q_tup, q_lst, q_dic, q_call, q_bf, q_isi, q_get, q_app, q_ext, q_popL, q_popA, q_comp, turn_eq, t_not, t_and, t_or, t_cmp, t_chn, t_call, t_bf, t_isi, t_var, c_nil, c_one, o_nil, o_one, l_nil, l_cons, i_val, i_rng1, i_rng2, i_enu, i_zip, s_asg, s_asgs, s_aug, s_exp, s_del, s_retF, s_retT, s_retN, s_ite, s_whl, s_for, s_brk, s_cnt, s_pass, b_nil, b_cons, w_nm, w_un, w_sub, runF, boolA, res, W.toD, W.at, W.sub, isiD, takeA, takeS, takeC, putC, frzA, frzL, takeL, stoL, ST.own, resL, iosOf, fin_c, own, -List.all_map, fz_all, fz_all2, fz_all3, D.isAtom, W.isFz, W.flat, bindT, wipeG, backG, Arg.simple, pureE, pureL, idxA, stepOf, modP, W.setAt, W.setS, setW, popW, isL, isDc, itemsOf, toDs, toDs_fz, toDs_comp, toDs_fun, all_true, eqD_int, eqD_bl, atI_nat, atI_0, atI_1, atI_2, atI_3, ixN4_0, ixN4_1, ixN4_2, ixN4_3]⟩
  have pm := pair_map stopD stopD st st.tail
  rw [List.map_tail] at pm
  rw [call_eq pm_11]
  simp only [stopsD] at e c2 en ⊢
  simp [f_len_l, f_len_t, f_len_p, f_len_s, f_abs, f_max2, f_min2, f_sorted, f_all, f_int_i, f_int_b, f_list_l, f_list_t, f_tuple_l, f_tuple_t, f_ptuple, f_dict_p, f_lrange, d_neg, d_not, d_add_i, d_add_l, d_add_t, d_add_p, d_sub, d_mul_i, d_fdiv, d_mod, d_pow, d_eq, d_ne, d_lt_i, d_lt_t, d_le, d_gt, d_ge, d_in, d_nin, d_is_nn, d_is_in, d_is_ln, d_is_tn, d_ix_l, d_ix_t, d_ix_p, d_ix_s, d_sl_l, d_sl_t, d_sl_p, q_var, q_cst, q_glo, q_un, q_bin, q_cmp, q_chn, q_and, q_or, q_ite, q_idx, q_slc, q_tup, q_lst, q_dic, q_call, q_bf, q_isi, q_get, q_app, q_ext, q_popL, q_popA, q_comp, turn_eq, t_not, t_and, t_or, t_cmp, t_chn, t_call, t_bf, t_isi, t_var, c_nil, c_one, o_nil, o_one, l_nil, l_cons, i_val, i_rng1, i_rng2, i_enu, i_zip, s_asg, s_asgs, s_aug, s_exp, s_del, s_retF, s_retT, s_retN, s_ite, s_whl, s_for, s_brk, s_cnt, s_pass, b_nil, b_cons, w_nm, w_un, w_sub, runF, boolA, res, W.toD, W.at, W.sub, isiD, takeA, takeS, takeC, putC, frzA, frzL, takeL, stoL, ST.own, resL, iosOf, fin_c, own, -List.all_map, fz_all, fz_all2, fz_all3, D.isAtom, W.isFz, W.flat, bindT, wipeG, backG, Arg.simple, pureE, pureL, idxA, stepOf, modP, W.setAt, W.setS, setW, popW, isL, isDc, itemsOf, toDs, toDs_fz, toDs_comp, toDs_fun, all_true, eqD_int, eqD_bl, atI_nat, atI_0, atI_1, atI_2, atI_3, ixN4_0, ixN4_1, ixN4_2, ixN4_3, f_11, slk_ok, isi_pt, en, e, c2, pm, cut_1, toDs_rep, bls_rep, sm, List.map_const']
theorem need_stops_ok {m : Nat} {es : List (Nat × Nat)} {l : List Int} {st : List (Nat × Int)} (w : WebOk m es) (hl : LayOk m es 1000000 l) (h : StopsOk m l st) (hfu : m < fu) : callF Pm fu (n + 7) 12 [.fz (webD m es), .fz (intsT l), .fz (stopsD st)] = some (.fz .non, []) := by
  have e1 := need_first_ok (fu := fu) (n := n) w hl hfu
  have e2 := are_stops_ok (fu := fu) (n := n + 3) (es := es) (by have := w.most; omega) hl.len h
  rw [call_eq pm_12]
  simp [f_len_l, f_len_t, f_len_p, f_len_s, f_abs, f_max2, f_min2, f_sorted, f_all, f_int_i, f_int_b, f_list_l, f_list_t, f_tuple_l, f_tuple_t, f_ptuple, f_dict_p, f_lrange, d_neg, d_not, d_add_i, d_add_l, d_add_t, d_add_p, d_sub, d_mul_i, d_fdiv, d_mod, d_pow, d_eq, d_ne, d_lt_i, d_lt_t, d_le, d_gt, d_ge, d_in, d_nin, d_is_nn, d_is_in, d_is_ln, d_is_tn, d_ix_l, d_ix_t, d_ix_p, d_ix_s, d_sl_l, d_sl_t, d_sl_p, q_var, q_cst, q_glo, q_un, q_bin, q_cmp, q_chn, q_and, q_or, q_ite, q_idx, q_slc, q_tup, q_lst, q_dic, q_call, q_bf, q_isi, q_get, q_app, q_ext, q_popL, q_popA, q_comp, turn_eq, t_not, t_and, t_or, t_cmp, t_chn, t_call, t_bf, t_isi, t_var, c_nil, c_one, o_nil, o_one, l_nil, l_cons, i_val, i_rng1, i_rng2, i_enu, i_zip, s_asg, s_asgs, s_aug, s_exp, s_del, s_retF, s_retT, s_retN, s_ite, s_whl, s_for, s_brk, s_cnt, s_pass, b_nil, b_cons, w_nm, w_un, w_sub, runF, boolA, res, W.toD, W.at, W.sub, isiD, takeA, takeS, takeC, putC, frzA, frzL, takeL, stoL, ST.own, resL, iosOf, fin_c, own, -List.all_map, fz_all, fz_all2, fz_all3, D.isAtom, W.isFz, W.flat, bindT, wipeG, backG, Arg.simple, pureE, pureL, idxA, stepOf, modP, W.setAt, W.setS, setW, popW, isL, isDc, itemsOf, toDs, toDs_fz, toDs_comp, toDs_fun, all_true, eqD_int, eqD_bl, atI_nat, atI_0, atI_1, atI_2, atI_3, ixN4_0, ixN4_1, ixN4_2, ixN4_3, f_12, e1, e2]
end K08
end PF
end

section
set_option Elab.async false
set_option linter.all false
set_option maxRecDepth 100000
set_option maxHeartbeats 2000000
namespace PF
open PySem L2
/-- x is the lowest of what the stops hold at v -/
structure HeldAt (m : Nat) (es : List (Nat × Nat)) (ps : List (Nat × Int)) (v : Nat) (x : Int) : Prop where
  le : ∀ p ∈ ps, ∀ d, IsDist m es p.1 d → x ≤ p.2 + (d.getD v 0 : Nat)
  eq : ∃ p ∈ ps, ∃ d, IsDist m es p.1 d ∧ x = p.2 + (d.getD v 0 : Nat)
theorem HeldAt.uniq {m es ps v x y} (h : HeldAt m es ps v x) (k : HeldAt m es ps v y) : x = y := by
  obtain ⟨p, hp, d, hd, e⟩ := h.eq
  obtain ⟨q, hq, d', hd', e'⟩ := k.eq
  have := h.le q hq d' hd'
  have := k.le p hp d hd
  omega
def minO (o : Option Int) (h : Int) : Int := match o with
  | none => h
  | some x => if h < x then h else x
theorem HeldAt.one {m es v} {p : Nat × Int} {d : List Nat} (r : Rng m es) (hd : IsDist m es p.1 d) : HeldAt m es [p] v (minO none (p.2 + (d.getD v 0 : Nat))) := by
  refine ⟨fun q hq d' hd' => ?_, p, by simp, d, hd, rfl⟩
  have : q = p := by simpa using hq
  subst this
  rw [hd.uniq r hd']
  exact Int.le_refl _
theorem HeldAt.more {m es v ps x} {p : Nat × Int} {d : List Nat} (r : Rng m es) (h : HeldAt m es ps v x) (hd : IsDist m es p.1 d) : HeldAt m es (ps ++ [p]) v (minO (some x) (p.2 + (d.getD v 0 : Nat))) := by
  have hm : minO (some x) (p.2 + (d.getD v 0 : Nat)) = if p.2 + ((d.getD v 0 : Nat) : Int) < x then p.2 + ((d.getD v 0 : Nat) : Int) else x := rfl
  rw [hm]
  refine ⟨fun q hq d' hd' => ?_, ?_⟩
  · rcases List.mem_append.mp hq with hq | hq
    · have := h.le q hq d' hd'
      split <;> omega
    · have : q = p := by simpa using hq
      subst this
      rw [hd'.uniq r hd]
      split <;> omega
  · by_cases c : p.2 + (d.getD v 0 : Nat) < x
    · exact ⟨p, by simp, d, hd, by rw [if_pos c]⟩
    · obtain ⟨q, hq, d', hd', e⟩ := h.eq
      exact ⟨q, by simp [hq], d', hd', by rw [if_neg c]; exact e⟩
theorem nq_get : ∀ (n : Nat) (ds : List D) (i : Nat) (d : D), ds[i]? = some d → (numbered n ds)[i]? = some (.tup [.int ((n + i : Nat) : Int), d])
  | _, [], _, _, e => by simp at e
  | n, d :: ds, 0, d', e => by
    simp only [List.getElem?_cons_zero, Option.some.injEq] at e
    subst e
    rfl
  | n, d :: ds, i + 1, d', e => by
    have := nq_get (n + 1) ds i d' (by simpa using e)
    show (numbered (n + 1) ds)[i]? = _
    rw [this, show n + 1 + i = n + (i + 1) by omega]
theorem nq_len : ∀ (n : Nat) (ds : List D), (numbered n ds).length = ds.length
  | _, [] => rfl
  | n, d :: ds => by
    show (numbered (n + 1) ds).length + 1 = ds.length + 1
    rw [nq_len (n + 1) ds]
namespace K08
variable {fu n : Nat}
def encI : Option Int → W
  | none => .fz .non
  | some x => .fz (.int x)
def heldI : IB := .cons (.asg (.nm 8 false) (.bin .add (.var 5) (.var 7))) <|
      .cons (.asg (.sub (.var 3) (.var 6) false) (.ite (.or (.cmp .is_ (.idx (.var 3) (.var 6)) (.cst .non)) (.cmp .lt (.var 8) (.idx (.var 3) (.var 6)))) (.var 8) (.idx (.var 3) (.var 6)))) <|
      .nil
def heldG (web first stops : W) (f : List (Option Int)) (p : Nat × Int) (a b c : Option W) : Gam := [some web, some first, some stops, some (.lst (f.map encI)), some (.fz (natD p.1)), some (.fz (.int p.2)), a, b, c]
theorem held_in {F : Nat → List W → Option (W × List W)} {web first stops : W} {f : List (Option Int)} {p : Nat × Int} {c : Option W} {v k : Nat} (hv : v < f.length) :
    runB F fu heldI (heldG web first stops f p (some (.fz (natD v))) (some (.fz (natD k))) c) = some (.nx (heldG web first stops (f.set v (some (minO f[v] (p.2 + (k : Nat))))) p (some (.fz (natD v))) (some (.fz (natD k))) (some (.fz (.int (p.2 + (k : Nat))))))) := by
  have iv : ixN f.length (v : Int) = some v := ixN_nat hv
  cases hf : f[v] with
  | none => simp [f_len_l, f_len_t, f_len_p, f_len_s, f_abs, f_max2, f_min2, f_sorted, f_all, f_int_i, f_int_b, f_list_l, f_list_t, f_tuple_l, f_tuple_t, f_ptuple, f_dict_p, f_lrange, d_neg, d_not, d_add_i, d_add_l, d_add_t, d_add_p, d_sub, d_mul_i, d_fdiv, d_mod, d_pow, d_eq, d_ne, d_lt_i, d_lt_t, d_le, d_gt, d_ge, d_in, d_nin, d_is_nn, d_is_in, d_is_ln, d_is_tn, d_ix_l, d_ix_t, d_ix_p, d_ix_s, d_sl_l, d_sl_t, d_sl_p, q_var, q_cst, q_glo, q_un, q_bin, q_cmp, q_chn, q_and, q_or, q_ite, q_idx, q_slc, q_tup, q_lst, q_dic, q_call, q_bf, q_isi, q_get, q_app, q_ext, q_popL, q_popA, q_comp, turn_eq, t_not, t_and, t_or, t_cmp, t_chn, t_call, t_bf, t_isi, t_var, c_nil, c_one, o_nil, o_one, l_nil, l_cons, i_val, i_rng1, i_rng2, i_enu, i_zip, s_asg, s_asgs, s_aug, s_exp, s_del, s_retF, s_retT, s_retN, s_ite, s_whl, s_for, s_brk, s_cnt, s_pass, b_nil, b_cons, w_nm, w_un, w_sub, runF, boolA, res, W.toD, W.at, W.sub, isiD, takeA, takeS, takeC, putC, frzA, frzL, takeL, stoL, ST.own, resL, iosOf, fin_c, own, -List.all_map, fz_all, fz_all2, fz_all3, D.isAtom, W.isFz, W.flat, bindT, wipeG, backG, Arg.simple, pureE, pureL, idxA, stepOf, modP, W.setAt, W.setS, setW, popW, isL, isDc, itemsOf, toDs, toDs_fz, toDs_comp, toDs_fun, all_true, eqD_int, eqD_bl, atI_nat, atI_0, atI_1, atI_2, atI_3, ixN4_0, ixN4_1, ixN4_2, ixN4_3, heldI, heldG, iv, hv, hf, encI, natD, minO]
  | some x =>
    by_cases c : p.2 + (k : Int) < x <;> simp [f_len_l, f_len_t, f_len_p, f_len_s, f_abs, f_max2, f_min2, f_sorted, f_all, f_int_i, f_int_b, f_list_l, f_list_t, f_tuple_l, f_tuple_t, f_ptuple, f_dict_p, f_lrange, d_neg, d_not, d_add_i, d_add_l, d_add_t, d_add_p, d_sub, d_mul_i, d_fdiv, d_mod, d_pow, d_eq, d_ne, d_lt_i, d_lt_t, d_le, d_gt, d_ge, d_in, d_nin, d_is_nn, d_is_in, d_is_ln, d_is_tn, d_ix_l, d_ix_t, d_ix_p, d_ix_s, d_sl_l, d_sl_t, d_sl_p, q_var, q_cst, q_glo, q_un, q_bin, q_cmp, q_chn, q_and, q_or, q_ite, q_idx, q_slc, q_tup, q_lst, q_dic, q_call, q_bf, q_isi, q_get, q_app, q_ext, q_popL, q_popA, q_comp, turn_eq, t_not, t_and, t_or, t_cmp, t_chn, t_call, t_bf, t_isi, t_var, c_nil, c_one, o_nil, o_one, l_nil, l_cons, i_val, i_rng1, i_rng2, i_enu, i_zip, s_asg, s_asgs, s_aug, s_exp, s_del, s_retF, s_retT, s_retN, s_ite, s_whl, s_for, s_brk, s_cnt, s_pass, b_nil, b_cons, w_nm, w_un, w_sub, runF, boolA, res, W.toD, W.at, W.sub, isiD, takeA, takeS, takeC, putC, frzA, frzL, takeL, stoL, ST.own, resL, iosOf, fin_c, own, -List.all_map, fz_all, fz_all2, fz_all3, D.isAtom, W.isFz, W.flat, bindT, wipeG, backG, Arg.simple, pureE, pureL, idxA, stepOf, modP, W.setAt, W.setS, setW, popW, isL, isDc, itemsOf, toDs, toDs_fz, toDs_comp, toDs_fun, all_true, eqD_int, eqD_bl, atI_nat, atI_0, atI_1, atI_2, atI_3, ixN4_0, ixN4_1, ixN4_2, ixN4_3, heldI, heldG, iv, hv, hf, encI, natD, minO, c]
theorem held_row {F : Nat → List W → Option (W × List W)} {web first stops : W} {f : List (Option Int)} {p : Nat × Int} {a b c : Option W} {d : List Nat} (hl : f.length = d.length) :
    ∃ f' a' b' c', forQ F fu (.cons (.nm 6) (.cons (.nm 7) .nil)) heldI (numbered 0 (d.map natD)) (heldG web first stops f p a b c) = some (.nx (heldG web first stops f' p a' b' c')) ∧ f'.length = d.length ∧ ∀ v, v < d.length → (f'[v]?).join = some (minO ((f[v]?).join) (p.2 + (d.getD v 0 : Nat))) := by
  obtain ⟨g', e, f', a', b', c', e2, h1, h2, h3⟩ := forL_inv (bind := fun d g => bindT (.cons (.nm 6) (.cons (.nm 7) .nil)) d g) (body := fun g => runB F fu heldI g) (ds := numbered 0 (d.map natD)) (g := heldG web first stops f p a b c)
    (fun i g => ∃ (f' : List (Option Int)) (a' b' c' : Option W), g = heldG web first stops f' p a' b' c' ∧ f'.length = d.length ∧ (∀ v, v < i → v < d.length → (f'[v]?).join = some (minO ((f[v]?).join) (p.2 + (d.getD v 0 : Nat)))) ∧ ∀ v, i ≤ v → f'[v]? = f[v]?)
    ⟨f, a, b, c, rfl, hl, fun v hv => absurd hv (by omega), fun _ _ => rfl⟩
    (by
      rintro i x g hx ⟨f1, a1, b1, c1, rfl, l1, lo, hi⟩
      have hil : i < d.length := by
        have := (List.getElem?_eq_some_iff.mp hx).1
        rw [nq_len, List.length_map] at this
        exact this
      have gx := nq_get 0 (d.map natD) i (natD d[i]) (by simp [hil])
      rw [hx] at gx
      cases gx
      have hv : i < f1.length := by rw [l1]; exact hil
      have e0 : (0 + i : Nat) = i := by omega
      refine ⟨heldG web first stops f1 p (some (.fz (natD i))) (some (.fz (natD d[i]))) c1, _, by rw [e0]; simp [f_len_l, f_len_t, f_len_p, f_len_s, f_abs, f_max2, f_min2, f_sorted, f_all, f_int_i, f_int_b, f_list_l, f_list_t, f_tuple_l, f_tuple_t, f_ptuple, f_dict_p, f_lrange, d_neg, d_not, d_add_i, d_add_l, d_add_t, d_add_p, d_sub, d_mul_i, d_fdiv, d_mod, d_pow, d_eq, d_ne, d_lt_i, d_lt_t, d_le, d_gt, d_ge, d_in, d_nin, d_is_nn, d_is_in, d_is_ln, d_is_tn, d_ix_l, d_ix_t, d_ix_p, d_ix_s, d_sl_l, d_sl_t, d_sl_p, q_var, q_cst, q_glo, q_un, q_bin, q_cmp, q_chn, q_and, q_or, q_ite, q_idx, q_slc, q_tup, q_lst, q_dic, q_call, q_bf, q_isi, q_get, q_app, q_ext, q_popL, q_popA, q_comp, turn_eq, t_not, t_and, t_or, t_cmp, t_chn, t_call, t_bf, t_isi, t_var, c_nil, c_one, o_nil, o_one, l_nil, l_cons, i_val, i_rng1, i_rng2, i_enu, i_zip, s_asg, s_asgs, s_aug, s_exp, s_del, s_retF, s_retT, s_retN, s_ite, s_whl, s_for, s_brk, s_cnt, s_pass, b_nil, b_cons, w_nm, w_un, w_sub, runF, boolA, res, W.toD, W.at, W.sub, isiD, takeA, takeS, takeC, putC, frzA, frzL, takeL, stoL, ST.own, resL, iosOf, fin_c, own, -List.all_map, fz_all, fz_all2, fz_all3, D.isAtom, W.isFz, W.flat, bindT, wipeG, backG, Arg.simple, pureE, pureL, idxA, stepOf, modP, W.setAt, W.setS, setW, popW, isL, isDc, itemsOf, toDs, toDs_fz, toDs_comp, toDs_fun, all_true, eqD_int, eqD_bl, atI_nat, atI_0, atI_1, atI_2, atI_3, ixN4_0, ixN4_1, ixN4_2, ixN4_3, heldG, natD], held_in (fu := fu) (F := F) hv, _, _, _, _, rfl, by simp [l1], fun v hv2 hvd => ?_, fun v hv2 => ?_⟩
      · by_cases e : v = i
        · subst e
          have old : f1[v]? = f[v]? := hi v (Nat.le_refl _)
          have o2 : f1[v] = (f[v]?).join := by
            rw [← old]; simp [hv]
          rw [o2]
          have gd : d.getD v 0 = d[v] := by simp [hil]
          rw [gd]
          simp [hv]
        · rw [List.getElem?_set_ne (fun q => e q.symm)]
          exact lo v (by omega) hvd
      · rw [List.getElem?_set_ne (by omega)]
        exact hi v (by omega))
  subst e2
  rw [nq_len, List.length_map] at h2
  exact ⟨f', a', b', c', e, h1, fun v hv => h2 v hv hv⟩
end K08
end PF
end

section
set_option Elab.async false
set_option linter.all false
set_option maxRecDepth 100000
set_option maxHeartbeats 2000000
namespace PF
open PySem L2
namespace K08
variable {fu n : Nat}
def heldB : IB := .cons (.for_ (.cons (.nm 6) (.cons (.nm 7) .nil)) (.enu (.call 4 [.val, .val] (.cons (.var 0) (.cons (.var 4) .nil)))) heldI) .nil
def heldG0 (web first stops : W) (f : List (Option Int)) (x y a b c : Option W) : Gam := [some web, some first, some stops, some (.lst (f.map encI)), x, y, a, b, c]
theorem held_loop {first stops : W} {m : Nat} {es : List (Nat × Nat)} {st : List (Nat × Int)} (w : WebOk m es) (hfu : m < fu) (hst : ∀ p ∈ st, p.1 < m) :
    ∃ f x y a b c, forQ (callF Pm fu (n + 2)) fu (.cons (.nm 4) (.cons (.nm 5) .nil)) heldB (st.map stopD) (heldG0 (.fz (webD m es)) first stops (List.replicate m none) none none none none none) = some (.nx (heldG0 (.fz (webD m es)) first stops f x y a b c)) ∧ f.length = m ∧
      ∀ v, v < m → (st = [] ∧ (f[v]?).join = none) ∨ ∃ x, (f[v]?).join = some x ∧ HeldAt m es st v x := by
  obtain ⟨g', e, f, x, y, a, b, c, e2, h1, h2⟩ := forL_inv (bind := fun d g => bindT (.cons (.nm 4) (.cons (.nm 5) .nil)) d g) (body := fun g => runB (callF Pm fu (n + 2)) fu heldB g) (ds := st.map stopD) (g := heldG0 (.fz (webD m es)) first stops (List.replicate m none) none none none none none)
    (fun i g => ∃ (f : List (Option Int)) (x y a b c : Option W), g = heldG0 (.fz (webD m es)) first stops f x y a b c ∧ f.length = m ∧ ∀ v, v < m → (i = 0 ∧ (f[v]?).join = none) ∨ ∃ x, (f[v]?).join = some x ∧ HeldAt m es (st.take i) v x)
    ⟨List.replicate m none, none, none, none, none, none, rfl, by simp, fun v hv => .inl ⟨rfl, by simp [List.getElem?_replicate, hv]⟩⟩
    (by
      rintro i d g hd ⟨f, x, y, a, b, c, rfl, h1, h2⟩
      rw [List.getElem?_map, Option.map_eq_some_iff] at hd
      obtain ⟨p, hp, rfl⟩ := hd
      have hpm := hst p (List.mem_of_getElem? hp)
      obtain ⟨dd, er, hdd⟩ := reach_ok (fu := fu) (n := n) w.rng w.conn w.len (by have := w.most; omega) hpm hfu
      obtain ⟨f', a', b', c', e, l', hv'⟩ := held_row (fu := fu) (F := callF Pm fu (n + 2)) (web := .fz (webD m es)) (first := first) (stops := stops) (f := f) (p := p) (a := a) (b := b) (c := c) (d := dd) (by rw [h1, hdd.len])
      have e1 : evI (callF Pm fu (n + 2)) (.enu (.call 4 [.val, .val] (.cons (.var 0) (.cons (.var 4) .nil)))) (heldG (.fz (webD m es)) first stops f p a b c) = some (numbered 0 (dd.map natD), heldG (.fz (webD m es)) first stops f p a b c) := by
        simp [f_len_l, f_len_t, f_len_p, f_len_s, f_abs, f_max2, f_min2, f_sorted, f_all, f_int_i, f_int_b, f_list_l, f_list_t, f_tuple_l, f_tuple_t, f_ptuple, f_dict_p, f_lrange, d_neg, d_not, d_add_i, d_add_l, d_add_t, d_add_p, d_sub, d_mul_i, d_fdiv, d_mod, d_pow, d_eq, d_ne, d_lt_i, d_lt_t, d_le, d_gt, d_ge, d_in, d_nin, d_is_nn, d_is_in, d_is_ln, d_is_tn, d_ix_l, d_ix_t, d_ix_p, d_ix_s, d_sl_l, d_sl_t, d_sl_p, q_var, q_cst, q_glo, q_un, q_bin, q_cmp, q_chn, q_and, q_or, q_ite, q_idx, q_slc, q_tup, q_lst, q_dic, q_call, q_bf, q_isi, q_get, q_app, q_ext, q_popL, q_popA, q_comp, turn_eq, t_not, t_and, t_or, t_cmp, t_chn, t_call, t_bf, t_isi, t_var, c_nil, c_one, o_nil, o_one, l_nil, l_cons, i_val, i_rng1, i_rng2, i_enu, i_zip, s_asg, s_asgs, s_aug, s_exp, s_del, s_retF, s_retT, s_retN, s_ite, s_whl, s_for, s_brk, s_cnt, s_pass, b_nil, b_cons, w_nm, w_un, w_sub, runF, boolA, res, W.toD, W.at, W.sub, isiD, takeA, takeS, takeC, putC, frzA, frzL, takeL, stoL, ST.own, resL, iosOf, fin_c, own, -List.all_map, fz_all, fz_all2, fz_all3, D.isAtom, W.isFz, W.flat, bindT, wipeG, backG, Arg.simple, pureE, pureL, idxA, stepOf, modP, W.setAt, W.setS, setW, popW, isL, isDc, itemsOf, toDs, toDs_fz, toDs_comp, toDs_fun, all_true, eqD_int, eqD_bl, atI_nat, atI_0, atI_1, atI_2, atI_3, ixN4_0, ixN4_1, ixN4_2, ixN4_3, heldG, er, natsL]
      refine ⟨heldG (.fz (webD m es)) first stops f p a b c, heldG (.fz (webD m es)) first stops f' p a' b' c', by simp [f_len_l, f_len_t, f_len_p, f_len_s, f_abs, f_max2, f_min2, f_sorted, f_all, f_int_i, f_int_b, f_list_l, f_list_t, f_tuple_l, f_tuple_t, f_ptuple, f_dict_p, f_lrange, d_neg, d_not, d_add_i, d_add_l, d_add_t, d_add_p, d_sub, d_mul_i, d_fdiv, d_mod, d_pow, d_eq, d_ne, d_lt_i, d_lt_t, d_le, d_gt, d_ge, d_in, d_nin, d_is_nn, d_is_in, d_is_ln, d_is_tn, d_ix_l, d_ix_t, d_ix_p, d_ix_s, d_sl_l, d_sl_t, d_sl_p, q_var, q_cst, q_glo, q_un, q_bin, q_cmp, q_chn, q_and, q_or, q_ite, q_idx, q_slc, q_tup, q_lst, q_dic, q_call, q_bf, q_isi, q_get, q_app, q_ext, q_popL, q_popA, q_comp, turn_eq, t_not, t_and, t_or, t_cmp, t_chn, t_call, t_bf, t_isi, t_var, c_nil, c_one, o_nil, o_one, l_nil, l_cons, i_val, i_rng1, i_rng2, i_enu, i_zip, s_asg, s_asgs, s_aug, s_exp, s_del, s_retF, s_retT, s_retN, s_ite, s_whl, s_for, s_brk, s_cnt, s_pass, b_nil, b_cons, w_nm, w_un, w_sub, runF, boolA, res, W.toD, W.at, W.sub, isiD, takeA, takeS, takeC, putC, frzA, frzL, takeL, stoL, ST.own, resL, iosOf, fin_c, own, -List.all_map, fz_all, fz_all2, fz_all3, D.isAtom, W.isFz, W.flat, bindT, wipeG, backG, Arg.simple, pureE, pureL, idxA, stepOf, modP, W.setAt, W.setS, setW, popW, isL, isDc, itemsOf, toDs, toDs_fz, toDs_comp, toDs_fun, all_true, eqD_int, eqD_bl, atI_nat, atI_0, atI_1, atI_2, atI_3, ixN4_0, ixN4_1, ixN4_2, ixN4_3, heldG0, heldG, stopD], by unfold heldB; rw [b_cons, s_for, e1, Option.bind_some, e]; rfl, f', _, _, _, _, _, rfl, by rw [l', hdd.len], fun v hv => .inr ?_⟩
      have q := hv' v (by rw [hdd.len]; exact hv)
      have ht : st.take (i + 1) = st.take i ++ [p] := by
        rw [List.take_add_one, hp]
        rfl
      rw [ht]
      refine ⟨_, q, ?_⟩
      rcases h2 v hv with ⟨i0, o⟩ | ⟨x, o, hx⟩
      · subst i0
        rw [o]
        exact HeldAt.one w.rng hdd
      · rw [o]
        exact hx.more w.rng hdd)
  subst e2
  rw [List.length_map] at h2
  refine ⟨f, x, y, a, b, c, e, h1, fun v hv => ?_⟩
  rcases h2 v hv with ⟨i0, o⟩ | h
  · exact .inl ⟨List.length_eq_zero_iff.mp i0, o⟩
  · rw [List.take_length] at h
    exact .inr h
theorem flat_noneI : ∀ m : Nat, ((List.replicate m [D.non]).flatten).map W.fz = (List.replicate m (none : Option Int)).map encI
  | 0 => rfl
  | m + 1 => by
    rw [List.replicate_succ, List.replicate_succ, List.flatten_cons, List.map_append, List.map_cons, flat_noneI m]
    rfl
/-- what the stops hold -/
def IsHeld (m : Nat) (es : List (Nat × Nat)) (st : List (Nat × Int)) (r : List Int) : Prop := r.length = m ∧ ∀ v, v < m → HeldAt m es st v (r.getD v 0)
theorem IsHeld.uniq {m es st r r'} (h : IsHeld m es st r) (k : IsHeld m es st r') : r = r' := by
  apply List.ext_getElem (h.1.trans k.1.symm)
  intro i h1 h2
  have hi : i < m := by rw [← h.1]; exact h1
  have q := (h.2 i hi).uniq (k.2 i hi)
  simpa [h1, h2] using q
theorem held_of_ok {first : D} {m : Nat} {es : List (Nat × Nat)} {st : List (Nat × Int)} (w : WebOk m es) (hfu : m < fu) (hst : ∀ p ∈ st, p.1 < m) (ne : st ≠ []) :
    ∃ r, callF Pm fu (n + 3) 13 [.fz (webD m es), .fz first, .fz (stopsD st)] = some (.fz (intsL r), []) ∧ IsHeld m es st r := by
  obtain ⟨f, x, y, a, b, c, e, h1, h2⟩ := held_loop (fu := fu) (n := n) (first := .fz first) (stops := .fz (stopsD st)) w hfu hst
  have hf : ∀ v, v < m → ∃ x, (f[v]?).join = some x ∧ HeldAt m es st v x := fun v hv => (h2 v hv).elim (fun q => absurd q.1 ne) id
  let r : List Int := f.map fun o => o.getD 0
  have hr : f.map encI = r.map fun x => W.fz (.int x) := by
    show f.map encI = (f.map fun o => o.getD 0).map _
    rw [List.map_map]
    refine List.map_congr_left fun o ho => ?_
    obtain ⟨v, hv, e'⟩ := List.mem_iff_getElem.mp ho
    obtain ⟨x, q, _⟩ := hf v (by rw [← h1]; exact hv)
    have : (f[v]?).join = o := by simp [hv, e']
    rw [this] at q
    subst q
    rfl
  refine ⟨r, ?_, by simp [r, h1], fun v hv => ?_⟩
  · have mu := d_mul_l (xs := [D.non]) (k := m) (by simp) (by have := w.most; omega)
    have hfl := flat_noneI m
    have wd : webD m es = .tup [natD m, .tup (es.map hedgeD)] := rfl
    have tr : toDs (r.map fun x => W.fz (.int x)) = r.map .int := toDs_map _ _
    rw [call_eq pm_13]
    rw [wd] at e ⊢
    simp [heldG0, heldB, heldI, natD, stopsD, intsL, encI, hr] at e mu ⊢
    simp [f_len_l, f_len_t, f_len_p, f_len_s, f_abs, f_max2, f_min2, f_sorted, f_all, f_int_i, f_int_b, f_list_l, f_list_t, f_tuple_l, f_tuple_t, f_ptuple, f_dict_p, f_lrange, d_neg, d_not, d_add_i, d_add_l, d_add_t, d_add_p, d_sub, d_mul_i, d_fdiv, d_mod, d_pow, d_eq, d_ne, d_lt_i, d_lt_t, d_le, d_gt, d_ge, d_in, d_nin, d_is_nn, d_is_in, d_is_ln, d_is_tn, d_ix_l, d_ix_t, d_ix_p, d_ix_s, d_sl_l, d_sl_t, d_sl_p, q_var, q_cst, q_glo, q_un, q_bin, q_cmp, q_chn, q_and, q_or, q_ite, q_idx, q_slc, q_tup, q_lst, q_dic, q_call, q_bf, q_isi, q_get, q_app, q_ext, q_popL, q_popA, q_comp, turn_eq, t_not, t_and, t_or, t_cmp, t_chn, t_call, t_bf, t_isi, t_var, c_nil, c_one, o_nil, o_one, l_nil, l_cons, i_val, i_rng1, i_rng2, i_enu, i_zip, s_asg, s_asgs, s_aug, s_exp, s_del, s_retF, s_retT, s_retN, s_ite, s_whl, s_for, s_brk, s_cnt, s_pass, b_nil, b_cons, w_nm, w_un, w_sub, runF, boolA, res, W.toD, W.at, W.sub, isiD, takeA, takeS, takeC, putC, frzA, frzL, takeL, stoL, ST.own, resL, iosOf, fin_c, own, -List.all_map, fz_all, fz_all2, fz_all3, D.isAtom, W.isFz, W.flat, bindT, wipeG, backG, Arg.simple, pureE, pureL, idxA, stepOf, modP, W.setAt, W.setS, setW, popW, isL, isDc, itemsOf, toDs, toDs_fz, toDs_comp, toDs_fun, all_true, eqD_int, eqD_bl, atI_nat, atI_0, atI_1, atI_2, atI_3, ixN4_0, ixN4_1, ixN4_2, ixN4_3, f_13, mu, slk_ok, e, tr]
  · obtain ⟨x, q, hx⟩ := hf v hv
    have : r.getD v 0 = x := by
      have hv2 : v < f.length := by omega
      have q2 : f[v] = some x := by simpa [hv2] using q
      simp [r, hv2, q2]
    rw [this]
    exact hx
end K08
end PF
end

section
set_option Elab.async false
set_option linter.all false
set_option maxRecDepth 100000
set_option maxHeartbeats 2000000
namespace PF
open PySem L2
namespace K08
variable {fu n : Nat}
theorem held_ok {m : Nat} {es : List (Nat × Nat)} {l r : List Int} {st : List (Nat × Int)} (w : WebOk m es) (hl : LayOk m es 1000000 l) (h : StopsOk m l st) (hfu : m < fu) (hr : IsHeld m es st r) :
    callF Pm fu (n + 8) 14 [.fz (webD m es), .fz (intsT l), .fz (stopsD st)] = some (.fz (intsT r), []) := by
  have e1 := need_stops_ok (fu := fu) (n := n) w hl h hfu
  obtain ⟨r', e2, h2⟩ := held_of_ok (fu := fu) (n := n + 4) (first := intsT l) w hfu (fun p hp => (h.ok p hp).1) h.some
  have : r' = r := h2.uniq hr
  subst this
  rw [call_eq pm_14]
  simp only [intsL, intsT] at e1 e2 ⊢
  simp [f_len_l, f_len_t, f_len_p, f_len_s, f_abs, f_max2, f_min2, f_sorted, f_all, f_int_i, f_int_b, f_list_l, f_list_t, f_tuple_l, f_tuple_t, f_ptuple, f_dict_p, f_lrange, d_neg, d_not, d_add_i, d_add_l, d_add_t, d_add_p, d_sub, d_mul_i, d_fdiv, d_mod, d_pow, d_eq, d_ne, d_lt_i, d_lt_t, d_le, d_gt, d_ge, d_in, d_nin, d_is_nn, d_is_in, d_is_ln, d_is_tn, d_ix_l, d_ix_t, d_ix_p, d_ix_s, d_sl_l, d_sl_t, d_sl_p, q_var, q_cst, q_glo, q_un, q_bin, q_cmp, q_chn, q_and, q_or, q_ite, q_idx, q_slc, q_tup, q_lst, q_dic, q_call, q_bf, q_isi, q_get, q_app, q_ext, q_popL, q_popA, q_comp, turn_eq, t_not, t_and, t_or, t_cmp, t_chn, t_call, t_bf, t_isi, t_var, c_nil, c_one, o_nil, o_one, l_nil, l_cons, i_val, i_rng1, i_rng2, i_enu, i_zip, s_asg, s_asgs, s_aug, s_exp, s_del, s_retF, s_retT, s_retN, s_ite, s_whl, s_for, s_brk, s_cnt, s_pass, b_nil, b_cons, w_nm, w_un, w_sub, runF, boolA, res, W.toD, W.at, W.sub, isiD, takeA, takeS, takeC, putC, frzA, frzL, takeL, stoL, ST.own, resL, iosOf, fin_c, own, -List.all_map, fz_all, fz_all2, fz_all3, D.isAtom, W.isFz, W.flat, bindT, wipeG, backG, Arg.simple, pureE, pureL, idxA, stepOf, modP, W.setAt, W.setS, setW, popW, isL, isDc, itemsOf, toDs, toDs_fz, toDs_comp, toDs_fun, all_true, eqD_int, eqD_bl, atI_nat, atI_0, atI_1, atI_2, atI_3, ixN4_0, ixN4_1, ixN4_2, ixN4_3, f_14, e1, e2]
theorem natsT_of (st : List (Nat × Int)) : toDs (st.map fun p => W.fz (natD p.1)) = st.map fun p => natD p.1 := toDs_map _ _
theorem idle_ok {m : Nat} {es : List (Nat × Nat)} {l r : List Int} {st : List (Nat × Int)} (w : WebOk m es) (hl : LayOk m es 1000000 l) (h : StopsOk m l st) (hfu : m < fu) (hr : IsHeld m es st r) :
    callF Pm fu (n + 8) 16 [.fz (webD m es), .fz (intsT l), .fz (stopsD st)] = some (.fz (.tup ((st.filter fun p => decide (r.getD p.1 0 < p.2)).map fun p => natD p.1)), []) := by
  have e1 := need_stops_ok (fu := fu) (n := n) w hl h hfu
  obtain ⟨r', e2, h2⟩ := held_of_ok (fu := fu) (n := n + 4) (first := intsT l) w hfu (fun p hp => (h.ok p hp).1) h.some
  have : r' = r := h2.uniq hr
  subst this
  have sl : slk st.length = true := slk_ok (by have := h.len; have := w.most; omega)
  have c1 := compQ_map (F := callF Pm fu (n + 7)) (ow := [4, 5]) (t := .cons (.nm 4) (.cons (.nm 5) .nil)) (oe := false) (cs := .cons (.cmp .lt (.idx (.var 3) (.var 4)) (.var 5)) .nil) (e := .var 4) (g := [some (.fz (webD m es)), some (.fz (intsT l)), some (.fz (stopsD st)), some (.fz (intsL r')), none, none]) stopD (fun p => decide (r'.getD p.1 0 < p.2)) (fun p => W.fz (natD p.1)) (xs := st)
    fun p hp => ⟨[some (.fz (webD m es)), some (.fz (intsT l)), some (.fz (stopsD st)), some (.fz (intsL r')), some (.fz (natD p.1)), some (.fz (.int p.2))], [some (.fz (webD m es)), some (.fz (intsT l)), some (.fz (stopsD st)), some (.fz (intsL r')), some (.fz (natD p.1)), some (.fz (.int p.2))], by simp [f_len_l, f_len_t, f_len_p, f_len_s, f_abs, f_max2, f_min2, f_sorted, f_all, f_int_i, f_int_b, f_list_l, f_list_t, f_tuple_l, f_tuple_t, f_ptuple, f_dict_p, f_lrange, d_neg, d_not, d_add_i, d_add_l, d_add_t, d_add_p, d_sub, d_mul_i, d_fdiv, d_mod, d_pow, d_eq, d_ne, d_lt_i, d_lt_t, d_le, d_gt, d_ge, d_in, d_nin, d_is_nn, d_is_in, d_is_ln, d_is_tn, d_ix_l, d_ix_t, d_ix_p, d_ix_s, d_sl_l, d_sl_t, d_sl_p, q_var, q_cst, q_glo, q_un, q_bin, q_cmp, q_chn, q_and, q_or, q_ite, q_idx, q_slc, q_tup, q_lst, q_dic, q_call, q_bf, q_isi, q_get, q_app, q_ext, q_popL, q_popA, q_comp, turn_eq, t_not, t_and, t_or, t_cmp, t_chn, t_call, t_bf, t_isi, t_var, c_nil, c_one, o_nil, o_one, l_nil, l_cons, i_val, i_rng1, i_rng2, i_enu, i_zip, s_asg, s_asgs, s_aug, s_exp, s_del, s_retF, s_retT, s_retN, s_ite, s_whl, s_for, s_brk, s_cnt, s_pass, b_nil, b_cons, w_nm, w_un, w_sub, runF, boolA, res, W.toD, W.at, W.sub, isiD, takeA, takeS, takeC, putC, frzA, frzL, takeL, stoL, ST.own, resL, iosOf, fin_c, own, -List.all_map, fz_all, fz_all2, fz_all3, D.isAtom, W.isFz, W.flat, bindT, wipeG, backG, Arg.simple, pureE, pureL, idxA, stepOf, modP, W.setAt, W.setS, setW, popW, isL, isDc, itemsOf, toDs, toDs_fz, toDs_comp, toDs_fun, all_true, eqD_int, eqD_bl, atI_nat, atI_0, atI_1, atI_2, atI_3, ixN4_0, ixN4_1, ixN4_2, ixN4_3, stopD], by
      have kl : p.1 < r'.length := by rw [hr.1]; exact (h.ok p hp).1
      simp [f_len_l, f_len_t, f_len_p, f_len_s, f_abs, f_max2, f_min2, f_sorted, f_all, f_int_i, f_int_b, f_list_l, f_list_t, f_tuple_l, f_tuple_t, f_ptuple, f_dict_p, f_lrange, d_neg, d_not, d_add_i, d_add_l, d_add_t, d_add_p, d_sub, d_mul_i, d_fdiv, d_mod, d_pow, d_eq, d_ne, d_lt_i, d_lt_t, d_le, d_gt, d_ge, d_in, d_nin, d_is_nn, d_is_in, d_is_ln, d_is_tn, d_ix_l, d_ix_t, d_ix_p, d_ix_s, d_sl_l, d_sl_t, d_sl_p, q_var, q_cst, q_glo, q_un, q_bin, q_cmp, q_chn, q_and, q_or, q_ite, q_idx, q_slc, q_tup, q_lst, q_dic, q_call, q_bf, q_isi, q_get, q_app, q_ext, q_popL, q_popA, q_comp, turn_eq, t_not, t_and, t_or, t_cmp, t_chn, t_call, t_bf, t_isi, t_var, c_nil, c_one, o_nil, o_one, l_nil, l_cons, i_val, i_rng1, i_rng2, i_enu, i_zip, s_asg, s_asgs, s_aug, s_exp, s_del, s_retF, s_retT, s_retN, s_ite, s_whl, s_for, s_brk, s_cnt, s_pass, b_nil, b_cons, w_nm, w_un, w_sub, runF, boolA, res, W.toD, W.at, W.sub, isiD, takeA, takeS, takeC, putC, frzA, frzL, takeL, stoL, ST.own, resL, iosOf, fin_c, own, -List.all_map, fz_all, fz_all2, fz_all3, D.isAtom, W.isFz, W.flat, bindT, wipeG, backG, Arg.simple, pureE, pureL, idxA, stepOf, modP, W.setAt, W.setS, setW, popW, isL, isDc, itemsOf, toDs, toDs_fz, toDs_comp, toDs_fun, all_true, eqD_int, eqD_bl, atI_nat, atI_0, atI_1, atI_2, atI_3, ixN4_0, ixN4_1, ixN4_2, ixN4_3, intsL, natD, kl], by simp [f_len_l, f_len_t, f_len_p, f_len_s, f_abs, f_max2, f_min2, f_sorted, f_all, f_int_i, f_int_b, f_list_l, f_list_t, f_tuple_l, f_tuple_t, f_ptuple, f_dict_p, f_lrange, d_neg, d_not, d_add_i, d_add_l, d_add_t, d_add_p, d_sub, d_mul_i, d_fdiv, d_mod, d_pow, d_eq, d_ne, d_lt_i, d_lt_t, d_le, d_gt, d_ge, d_in, d_nin, d_is_nn, d_is_in, d_is_ln, d_is_tn, d_ix_l, d_ix_t, d_ix_p, d_ix_s, d_sl_l, d_sl_t, d_sl_p, q_var, q_cst, q_glo, q_un, q_bin, q_cmp, q_chn, q_and, q_or, q_ite, q_idx, q_slc, q_tup, q_lst, q_dic, q_call, q_bf, q_isi, q_get, q_app, q_ext, q_popL, q_popA, q_comp, turn_eq, t_not, t_and, t_or, t_cmp, t_chn, t_call, t_bf, t_isi, t_var, c_nil, c_one, o_nil, o_one, l_nil, l_cons, i_val, i_rng1, i_rng2, i_enu, i_zip, s_asg, s_asgs, s_aug, s_exp, s_del, s_retF, s_retT, s_retN, s_ite, s_whl, s_for, s_brk, s_cnt, s_pass, b_nil, b_cons, w_nm, w_un, w_sub, runF, boolA, res, W.toD, W.at, W.sub, isiD, takeA, takeS, takeC, putC, frzA, frzL, takeL, stoL, ST.own, resL, iosOf, fin_c, own, -List.all_map, fz_all, fz_all2, fz_all3, D.isAtom, W.isFz, W.flat, bindT, wipeG, backG, Arg.simple, pureE, pureL, idxA, stepOf, modP, W.setAt, W.setS, setW, popW, isL, isDc, itemsOf, toDs, toDs_fz, toDs_comp, toDs_fun, all_true, eqD_int, eqD_bl, atI_nat, atI_0, atI_1, atI_2, atI_3, ixN4_0, ixN4_1, ixN4_2, ixN4_3], fun _ => ⟨(.pth 4 [], [some (.fz (webD m es)), some (.fz (intsT l)), some (.fz (stopsD st)), some (.fz (intsL r')), some (.fz (natD p.1)), some (.fz (.int p.2))]), [some (.fz (webD m es)), some (.fz (intsT l)), some (.fz (stopsD st)), some (.fz (intsL r')), some (.fz (natD p.1)), some (.fz (.int p.2))], by simp [f_len_l, f_len_t, f_len_p, f_len_s, f_abs, f_max2, f_min2, f_sorted, f_all, f_int_i, f_int_b, f_list_l, f_list_t, f_tuple_l, f_tuple_t, f_ptuple, f_dict_p, f_lrange, d_neg, d_not, d_add_i, d_add_l, d_add_t, d_add_p, d_sub, d_mul_i, d_fdiv, d_mod, d_pow, d_eq, d_ne, d_lt_i, d_lt_t, d_le, d_gt, d_ge, d_in, d_nin, d_is_nn, d_is_in, d_is_ln, d_is_tn, d_ix_l, d_ix_t, d_ix_p, d_ix_s, d_sl_l, d_sl_t, d_sl_p, q_var, q_cst, q_glo, q_un, q_bin, q_cmp, q_chn, q_and, q_or, q_ite, q_idx, q_slc, q_tup, q_lst, q_dic, q_call, q_bf, q_isi, q_get, q_app, q_ext, q_popL, q_popA, q_comp, turn_eq, t_not, t_and, t_or, t_cmp, t_chn, t_call, t_bf, t_isi, t_var, c_nil, c_one, o_nil, o_one, l_nil, l_cons, i_val, i_rng1, i_rng2, i_enu, i_zip, s_asg, s_asgs, s_aug, s_exp, s_del, s_retF, s_retT, s_retN, s_ite, s_whl, s_for, s_brk, s_cnt, s_pass, b_nil, b_cons, w_nm, w_un, w_sub, runF, boolA, res, W.toD, W.at, W.sub, isiD, takeA, takeS, takeC, putC, frzA, frzL, takeL, stoL, ST.own, resL, iosOf, fin_c, own, -List.all_map, fz_all, fz_all2, fz_all3, D.isAtom, W.isFz, W.flat, bindT, wipeG, backG, Arg.simple, pureE, pureL, idxA, stepOf, modP, W.setAt, W.setS, setW, popW, isL, isDc, itemsOf, toDs, toDs_fz, toDs_comp, toDs_fun, all_true, eqD_int, eqD_bl, atI_nat, atI_0, atI_1, atI_2, atI_3, ixN4_0, ixN4_1, ixN4_2, ixN4_3], by simp [f_len_l, f_len_t, f_len_p, f_len_s, f_abs, f_max2, f_min2, f_sorted, f_all, f_int_i, f_int_b, f_list_l, f_list_t, f_tuple_l, f_tuple_t, f_ptuple, f_dict_p, f_lrange, d_neg, d_not, d_add_i, d_add_l, d_add_t, d_add_p, d_sub, d_mul_i, d_fdiv, d_mod, d_pow, d_eq, d_ne, d_lt_i, d_lt_t, d_le, d_gt, d_ge, d_in, d_nin, d_is_nn, d_is_in, d_is_ln, d_is_tn, d_ix_l, d_ix_t, d_ix_p, d_ix_s, d_sl_l, d_sl_t, d_sl_p, q_var, q_cst, q_glo, q_un, q_bin, q_cmp, q_chn, q_and, q_or, q_ite, q_idx, q_slc, q_tup, q_lst, q_dic, q_call, q_bf, q_isi, q_get, q_app, q_ext, q_popL, q_popA, q_comp, turn_eq, t_not, t_and, t_or, t_cmp, t_chn, t_call, t_bf, t_isi, t_var, c_nil, c_one, o_nil, o_one, l_nil, l_cons, i_val, i_rng1, i_rng2, i_enu, i_zip, s_asg, s_asgs, s_aug, s_exp, s_del, s_retF, s_retT, s_retN, s_ite, s_whl, s_for, s_brk, s_cnt, s_pass, b_nil, b_cons, w_nm, w_un, w_sub, runF, boolA, res, W.toD, W.at, W.sub, isiD, takeA, takeS, takeC, putC, frzA, frzL, takeL, stoL, ST.own, resL, iosOf, fin_c, own, -List.all_map, fz_all, fz_all2, fz_all3, D.isAtom, W.isFz, W.flat, bindT, wipeG, backG, Arg.simple, pureE, pureL, idxA, stepOf, modP, W.setAt, W.setS, setW, popW, isL, isDc, itemsOf, toDs, toDs_fz, toDs_comp, toDs_fun, all_true, eqD_int, eqD_bl, atI_nat, atI_0, atI_1, atI_2, atI_3, ixN4_0, ixN4_1, ixN4_2, ixN4_3], by simp [f_len_l, f_len_t, f_len_p, f_len_s, f_abs, f_max2, f_min2, f_sorted, f_all, f_int_i, f_int_b, f_list_l, f_list_t, f_tuple_l, f_tuple_t, f_ptuple, f_dict_p, f_lrange, d_neg, d_not, d_add_i, d_add_l, d_add_t, d_add_p, d_sub, d_mul_i, d_fdiv, d_mod, d_pow, d_eq, d_ne, d_lt_i, d_lt_t, d_le, d_gt, d_ge, d_in, d_nin, d_is_nn, d_is_in, d_is_ln, d_is_tn, d_ix_l, d_ix_t, d_ix_p, d_ix_s, d_sl_l, d_sl_t, d_sl_p, q_var, q_cst, q_glo, q_un, q_bin, q_cmp, q_chn, q_and, q_or, q_ite, q_idx, q_slc, q_tup, q_lst, q_dic, q_call, q_bf, q_isi, q_get, q_app, q_ext, q_popL, q_popA, q_comp, turn_eq, t_not, t_and, t_or, t_cmp, t_chn, t_call, t_bf, t_isi, t_var, c_nil, c_one, o_nil, o_one, l_nil, l_cons, i_val, i_rng1, i_rng2, i_enu, i_zip, s_asg, s_asgs, s_aug, s_exp, s_del, s_retF, s_retT, s_retN, s_ite, s_whl, s_for, s_brk, s_cnt, s_pass, b_nil, b_cons, w_nm, w_un, w_sub, runF, boolA, res, W.toD, W.at, W.sub, isiD, takeA, takeS, takeC, putC, frzA, frzL, takeL, stoL, ST.own, resL, iosOf, fin_c, own, -List.all_map, fz_all, fz_all2, fz_all3, D.isAtom, W.isFz, W.flat, bindT, wipeG, backG, Arg.simple, pureE, pureL, idxA, stepOf, modP, W.setAt, W.setS, setW, popW, isL, isDc, itemsOf, toDs, toDs_fz, toDs_comp, toDs_fun, all_true, eqD_int, eqD_bl, atI_nat, atI_0, atI_1, atI_2, atI_3, ixN4_0, ixN4_1, ixN4_2, ixN4_3]⟩⟩
  rw [call_eq pm_16]
  have tt := natsT_of (st.filter fun p => decide (r'.getD p.1 0 < p.2))
  simp only [stopsD] at c1 e1 e2 ⊢
  simp [f_len_l, f_len_t, f_len_p, f_len_s, f_abs, f_max2, f_min2, f_sorted, f_all, f_int_i, f_int_b, f_list_l, f_list_t, f_tuple_l, f_tuple_t, f_ptuple, f_dict_p, f_lrange, d_neg, d_not, d_add_i, d_add_l, d_add_t, d_add_p, d_sub, d_mul_i, d_fdiv, d_mod, d_pow, d_eq, d_ne, d_lt_i, d_lt_t, d_le, d_gt, d_ge, d_in, d_nin, d_is_nn, d_is_in, d_is_ln, d_is_tn, d_ix_l, d_ix_t, d_ix_p, d_ix_s, d_sl_l, d_sl_t, d_sl_p, q_var, q_cst, q_glo, q_un, q_bin, q_cmp, q_chn, q_and, q_or, q_ite, q_idx, q_slc, q_tup, q_lst, q_dic, q_call, q_bf, q_isi, q_get, q_app, q_ext, q_popL, q_popA, q_comp, turn_eq, t_not, t_and, t_or, t_cmp, t_chn, t_call, t_bf, t_isi, t_var, c_nil, c_one, o_nil, o_one, l_nil, l_cons, i_val, i_rng1, i_rng2, i_enu, i_zip, s_asg, s_asgs, s_aug, s_exp, s_del, s_retF, s_retT, s_retN, s_ite, s_whl, s_for, s_brk, s_cnt, s_pass, b_nil, b_cons, w_nm, w_un, w_sub, runF, boolA, res, W.toD, W.at, W.sub, isiD, takeA, takeS, takeC, putC, frzA, frzL, takeL, stoL, ST.own, resL, iosOf, fin_c, own, -List.all_map, fz_all, fz_all2, fz_all3, D.isAtom, W.isFz, W.flat, bindT, wipeG, backG, Arg.simple, pureE, pureL, idxA, stepOf, modP, W.setAt, W.setS, setW, popW, isL, isDc, itemsOf, toDs, toDs_fz, toDs_comp, toDs_fun, all_true, eqD_int, eqD_bl, atI_nat, atI_0, atI_1, atI_2, atI_3, ixN4_0, ixN4_1, ixN4_2, ixN4_3, f_16, e1, e2, c1, sl]
  all_goals exact toDs_map _ _
theorem need_place_ok {m v : Nat} {es : List (Nat × Nat)} (hv : v < m) : callF Pm fu (n + 3) 7 [.fz (webD m es), .fz (natD v)] = some (.fz .non, []) := by
  have q := is_in_int (fu := fu) (n := n) (v : Int) 0 ((m : Int) - 1)
  have b1 : decide ((0 : Int) ≤ (v : Int)) = true := by simp
  have b2 : decide ((v : Int) ≤ (m : Int) - 1) = true := by simp; omega
  rw [b1, b2] at q
  rw [call_eq pm_7]
  simp [f_len_l, f_len_t, f_len_p, f_len_s, f_abs, f_max2, f_min2, f_sorted, f_all, f_int_i, f_int_b, f_list_l, f_list_t, f_tuple_l, f_tuple_t, f_ptuple, f_dict_p, f_lrange, d_neg, d_not, d_add_i, d_add_l, d_add_t, d_add_p, d_sub, d_mul_i, d_fdiv, d_mod, d_pow, d_eq, d_ne, d_lt_i, d_lt_t, d_le, d_gt, d_ge, d_in, d_nin, d_is_nn, d_is_in, d_is_ln, d_is_tn, d_ix_l, d_ix_t, d_ix_p, d_ix_s, d_sl_l, d_sl_t, d_sl_p, q_var, q_cst, q_glo, q_un, q_bin, q_cmp, q_chn, q_and, q_or, q_ite, q_idx, q_slc, q_tup, q_lst, q_dic, q_call, q_bf, q_isi, q_get, q_app, q_ext, q_popL, q_popA, q_comp, turn_eq, t_not, t_and, t_or, t_cmp, t_chn, t_call, t_bf, t_isi, t_var, c_nil, c_one, o_nil, o_one, l_nil, l_cons, i_val, i_rng1, i_rng2, i_enu, i_zip, s_asg, s_asgs, s_aug, s_exp, s_del, s_retF, s_retT, s_retN, s_ite, s_whl, s_for, s_brk, s_cnt, s_pass, b_nil, b_cons, w_nm, w_un, w_sub, runF, boolA, res, W.toD, W.at, W.sub, isiD, takeA, takeS, takeC, putC, frzA, frzL, takeL, stoL, ST.own, resL, iosOf, fin_c, own, -List.all_map, fz_all, fz_all2, fz_all3, D.isAtom, W.isFz, W.flat, bindT, wipeG, backG, Arg.simple, pureE, pureL, idxA, stepOf, modP, W.setAt, W.setS, setW, popW, isL, isDc, itemsOf, toDs, toDs_fz, toDs_comp, toDs_fun, all_true, eqD_int, eqD_bl, atI_nat, atI_0, atI_1, atI_2, atI_3, ixN4_0, ixN4_1, ixN4_2, ixN4_3, f_7, webD, natD, q]
theorem holders_ok {m v : Nat} {es : List (Nat × Nat)} {l r : List Int} {far : List Nat} {st : List (Nat × Int)} (w : WebOk m es) (hl : LayOk m es 1000000 l) (h : StopsOk m l st) (hfu : m < fu) (hr : IsHeld m es st r) (hv : v < m) (hd : IsDist m es v far) :
    callF Pm fu (n + 8) 15 [.fz (webD m es), .fz (intsT l), .fz (stopsD st), .fz (natD v)] = some (.fz (.tup ((st.filter fun p => decide (p.2 + (far.getD p.1 0 : Nat) = r.getD v 0)).map fun p => natD p.1)), []) := by
  have e1 := need_stops_ok (fu := fu) (n := n) w hl h hfu
  have e3 := need_place_ok (fu := fu) (n := n + 4) (es := es) hv
  obtain ⟨r', e2, h2⟩ := held_of_ok (fu := fu) (n := n + 4) (first := intsT l) w hfu (fun p hp => (h.ok p hp).1) h.some
  obtain ⟨far', e4, hd'⟩ := reach_ok (fu := fu) (n := n + 5) w.rng w.conn w.len (by have := w.most; omega) hv hfu
  have : r' = r := h2.uniq hr
  subst this
  have : far' = far := hd'.uniq w.rng hd
  subst this
  have sl : slk st.length = true := slk_ok (by have := h.len; have := w.most; omega)
  have vr : v < r'.length := by rw [hr.1]; exact hv
  have c1 := compQ_map (F := callF Pm fu (n + 7)) (ow := [6, 7]) (t := .cons (.nm 6) (.cons (.nm 7) .nil)) (oe := false) (cs := .cons (.cmp .eq (.bin .add (.var 7) (.idx (.var 4) (.var 6))) (.var 5)) .nil) (e := .var 6) (g := [some (.fz (webD m es)), some (.fz (intsT l)), some (.fz (stopsD st)), some (.fz (natD v)), some (.fz (natsL far')), some (.fz (.int r'[v])), none, none]) stopD (fun p => decide (p.2 + (far'.getD p.1 0 : Nat) = r'.getD v 0)) (fun p => W.fz (natD p.1)) (xs := st)
    fun p hp => ⟨[some (.fz (webD m es)), some (.fz (intsT l)), some (.fz (stopsD st)), some (.fz (natD v)), some (.fz (natsL far')), some (.fz (.int r'[v])), some (.fz (natD p.1)), some (.fz (.int p.2))], [some (.fz (webD m es)), some (.fz (intsT l)), some (.fz (stopsD st)), some (.fz (natD v)), some (.fz (natsL far')), some (.fz (.int r'[v])), some (.fz (natD p.1)), some (.fz (.int p.2))], by simp [f_len_l, f_len_t, f_len_p, f_len_s, f_abs, f_max2, f_min2, f_sorted, f_all, f_int_i, f_int_b, f_list_l, f_list_t, f_tuple_l, f_tuple_t, f_ptuple, f_dict_p, f_lrange, d_neg, d_not, d_add_i, d_add_l, d_add_t, d_add_p, d_sub, d_mul_i, d_fdiv, d_mod, d_pow, d_eq, d_ne, d_lt_i, d_lt_t, d_le, d_gt, d_ge, d_in, d_nin, d_is_nn, d_is_in, d_is_ln, d_is_tn, d_ix_l, d_ix_t, d_ix_p, d_ix_s, d_sl_l, d_sl_t, d_sl_p, q_var, q_cst, q_glo, q_un, q_bin, q_cmp, q_chn, q_and, q_or, q_ite, q_idx, q_slc, q_tup, q_lst, q_dic, q_call, q_bf, q_isi, q_get, q_app, q_ext, q_popL, q_popA, q_comp, turn_eq, t_not, t_and, t_or, t_cmp, t_chn, t_call, t_bf, t_isi, t_var, c_nil, c_one, o_nil, o_one, l_nil, l_cons, i_val, i_rng1, i_rng2, i_enu, i_zip, s_asg, s_asgs, s_aug, s_exp, s_del, s_retF, s_retT, s_retN, s_ite, s_whl, s_for, s_brk, s_cnt, s_pass, b_nil, b_cons, w_nm, w_un, w_sub, runF, boolA, res, W.toD, W.at, W.sub, isiD, takeA, takeS, takeC, putC, frzA, frzL, takeL, stoL, ST.own, resL, iosOf, fin_c, own, -List.all_map, fz_all, fz_all2, fz_all3, D.isAtom, W.isFz, W.flat, bindT, wipeG, backG, Arg.simple, pureE, pureL, idxA, stepOf, modP, W.setAt, W.setS, setW, popW, isL, isDc, itemsOf, toDs, toDs_fz, toDs_comp, toDs_fun, all_true, eqD_int, eqD_bl, atI_nat, atI_0, atI_1, atI_2, atI_3, ixN4_0, ixN4_1, ixN4_2, ixN4_3, stopD], by
      have kl : p.1 < far'.length := by rw [hd.len]; exact (h.ok p hp).1
      simp [f_len_l, f_len_t, f_len_p, f_len_s, f_abs, f_max2, f_min2, f_sorted, f_all, f_int_i, f_int_b, f_list_l, f_list_t, f_tuple_l, f_tuple_t, f_ptuple, f_dict_p, f_lrange, d_neg, d_not, d_add_i, d_add_l, d_add_t, d_add_p, d_sub, d_mul_i, d_fdiv, d_mod, d_pow, d_eq, d_ne, d_lt_i, d_lt_t, d_le, d_gt, d_ge, d_in, d_nin, d_is_nn, d_is_in, d_is_ln, d_is_tn, d_ix_l, d_ix_t, d_ix_p, d_ix_s, d_sl_l, d_sl_t, d_sl_p, q_var, q_cst, q_glo, q_un, q_bin, q_cmp, q_chn, q_and, q_or, q_ite, q_idx, q_slc, q_tup, q_lst, q_dic, q_call, q_bf, q_isi, q_get, q_app, q_ext, q_popL, q_popA, q_comp, turn_eq, t_not, t_and, t_or, t_cmp, t_chn, t_call, t_bf, t_isi, t_var, c_nil, c_one, o_nil, o_one, l_nil, l_cons, i_val, i_rng1, i_rng2, i_enu, i_zip, s_asg, s_asgs, s_aug, s_exp, s_del, s_retF, s_retT, s_retN, s_ite, s_whl, s_for, s_brk, s_cnt, s_pass, b_nil, b_cons, w_nm, w_un, w_sub, runF, boolA, res, W.toD, W.at, W.sub, isiD, takeA, takeS, takeC, putC, frzA, frzL, takeL, stoL, ST.own, resL, iosOf, fin_c, own, -List.all_map, fz_all, fz_all2, fz_all3, D.isAtom, W.isFz, W.flat, bindT, wipeG, backG, Arg.simple, pureE, pureL, idxA, stepOf, modP, W.setAt, W.setS, setW, popW, isL, isDc, itemsOf, toDs, toDs_fz, toDs_comp, toDs_fun, all_true, eqD_int, eqD_bl, atI_nat, atI_0, atI_1, atI_2, atI_3, ixN4_0, ixN4_1, ixN4_2, ixN4_3, natsL, natD, kl, vr], by simp [f_len_l, f_len_t, f_len_p, f_len_s, f_abs, f_max2, f_min2, f_sorted, f_all, f_int_i, f_int_b, f_list_l, f_list_t, f_tuple_l, f_tuple_t, f_ptuple, f_dict_p, f_lrange, d_neg, d_not, d_add_i, d_add_l, d_add_t, d_add_p, d_sub, d_mul_i, d_fdiv, d_mod, d_pow, d_eq, d_ne, d_lt_i, d_lt_t, d_le, d_gt, d_ge, d_in, d_nin, d_is_nn, d_is_in, d_is_ln, d_is_tn, d_ix_l, d_ix_t, d_ix_p, d_ix_s, d_sl_l, d_sl_t, d_sl_p, q_var, q_cst, q_glo, q_un, q_bin, q_cmp, q_chn, q_and, q_or, q_ite, q_idx, q_slc, q_tup, q_lst, q_dic, q_call, q_bf, q_isi, q_get, q_app, q_ext, q_popL, q_popA, q_comp, turn_eq, t_not, t_and, t_or, t_cmp, t_chn, t_call, t_bf, t_isi, t_var, c_nil, c_one, o_nil, o_one, l_nil, l_cons, i_val, i_rng1, i_rng2, i_enu, i_zip, s_asg, s_asgs, s_aug, s_exp, s_del, s_retF, s_retT, s_retN, s_ite, s_whl, s_for, s_brk, s_cnt, s_pass, b_nil, b_cons, w_nm, w_un, w_sub, runF, boolA, res, W.toD, W.at, W.sub, isiD, takeA, takeS, takeC, putC, frzA, frzL, takeL, stoL, ST.own, resL, iosOf, fin_c, own, -List.all_map, fz_all, fz_all2, fz_all3, D.isAtom, W.isFz, W.flat, bindT, wipeG, backG, Arg.simple, pureE, pureL, idxA, stepOf, modP, W.setAt, W.setS, setW, popW, isL, isDc, itemsOf, toDs, toDs_fz, toDs_comp, toDs_fun, all_true, eqD_int, eqD_bl, atI_nat, atI_0, atI_1, atI_2, atI_3, ixN4_0, ixN4_1, ixN4_2, ixN4_3], fun _ => ⟨(.pth 6 [], [some (.fz (webD m es)), some (.fz (intsT l)), some (.fz (stopsD st)), some (.fz (natD v)), some (.fz (natsL far')), some (.fz (.int r'[v])), some (.fz (natD p.1)), some (.fz (.int p.2))]), [some (.fz (webD m es)), some (.fz (intsT l)), some (.fz (stopsD st)), some (.fz (natD v)), some (.fz (natsL far')), some (.fz (.int r'[v])), some (.fz (natD p.1)), some (.fz (.int p.2))], by simp [f_len_l, f_len_t, f_len_p, f_len_s, f_abs, f_max2, f_min2, f_sorted, f_all, f_int_i, f_int_b, f_list_l, f_list_t, f_tuple_l, f_tuple_t, f_ptuple, f_dict_p, f_lrange, d_neg, d_not, d_add_i, d_add_l, d_add_t, d_add_p, d_sub, d_mul_i, d_fdiv, d_mod, d_pow, d_eq, d_ne, d_lt_i, d_lt_t, d_le, d_gt, d_ge, d_in, d_nin, d_is_nn, d_is_in, d_is_ln, d_is_tn, d_ix_l, d_ix_t, d_ix_p, d_ix_s, d_sl_l, d_sl_t, d_sl_p, q_var, q_cst, q_glo, q_un, q_bin, q_cmp, q_chn, q_and, q_or, q_ite, q_idx, q_slc, q_tup, q_lst, q_dic, q_call, q_bf, q_isi, q_get, q_app, q_ext, q_popL, q_popA, q_comp, turn_eq, t_not, t_and, t_or, t_cmp, t_chn, t_call, t_bf, t_isi, t_var, c_nil, c_one, o_nil, o_one, l_nil, l_cons, i_val, i_rng1, i_rng2, i_enu, i_zip, s_asg, s_asgs, s_aug, s_exp, s_del, s_retF, s_retT, s_retN, s_ite, s_whl, s_for, s_brk, s_cnt, s_pass, b_nil, b_cons, w_nm, w_un, w_sub, runF, boolA, res, W.toD, W.at, W.sub, isiD, takeA, takeS, takeC, putC, frzA, frzL, takeL, stoL, ST.own, resL, iosOf, fin_c, own, -List.all_map, fz_all, fz_all2, fz_all3, D.isAtom, W.isFz, W.flat, bindT, wipeG, backG, Arg.simple, pureE, pureL, idxA, stepOf, modP, W.setAt, W.setS, setW, popW, isL, isDc, itemsOf, toDs, toDs_fz, toDs_comp, toDs_fun, all_true, eqD_int, eqD_bl, atI_nat, atI_0, atI_1, atI_2, atI_3, ixN4_0, ixN4_1, ixN4_2, ixN4_3], by simp [f_len_l, f_len_t, f_len_p, f_len_s, f_abs, f_max2, f_min2, f_sorted, f_all, f_int_i, f_int_b, f_list_l, f_list_t, f_tuple_l, f_tuple_t, f_ptuple, f_dict_p, f_lrange, d_neg, d_not, d_add_i, d_add_l, d_add_t, d_add_p, d_sub, d_mul_i, d_fdiv, d_mod, d_pow, d_eq, d_ne, d_lt_i, d_lt_t, d_le, d_gt, d_ge, d_in, d_nin, d_is_nn, d_is_in, d_is_ln, d_is_tn, d_ix_l, d_ix_t, d_ix_p, d_ix_s, d_sl_l, d_sl_t, d_sl_p, q_var, q_cst, q_glo, q_un, q_bin, q_cmp, q_chn, q_and, q_or, q_ite, q_idx, q_slc, q_tup, q_lst, q_dic, q_call, q_bf, q_isi, q_get, q_app, q_ext, q_popL, q_popA, q_comp, turn_eq, t_not, t_and, t_or, t_cmp, t_chn, t_call, t_bf, t_isi, t_var, c_nil, c_one, o_nil, o_one, l_nil, l_cons, i_val, i_rng1, i_rng2, i_enu, i_zip, s_asg, s_asgs, s_aug, s_exp, s_del, s_retF, s_retT, s_retN, s_ite, s_whl, s_for, s_brk, s_cnt, s_pass, b_nil, b_cons, w_nm, w_un, w_sub, runF, boolA, res, W.toD, W.at, W.sub, isiD, takeA, takeS, takeC, putC, frzA, frzL, takeL, stoL, ST.own, resL, iosOf, fin_c, own, -List.all_map, fz_all, fz_all2, fz_all3, D.isAtom, W.isFz, W.flat, bindT, wipeG, backG, Arg.simple, pureE, pureL, idxA, stepOf, modP, W.setAt, W.setS, setW, popW, isL, isDc, itemsOf, toDs, toDs_fz, toDs_comp, toDs_fun, all_true, eqD_int, eqD_bl, atI_nat, atI_0, atI_1, atI_2, atI_3, ixN4_0, ixN4_1, ixN4_2, ixN4_3], by simp [f_len_l, f_len_t, f_len_p, f_len_s, f_abs, f_max2, f_min2, f_sorted, f_all, f_int_i, f_int_b, f_list_l, f_list_t, f_tuple_l, f_tuple_t, f_ptuple, f_dict_p, f_lrange, d_neg, d_not, d_add_i, d_add_l, d_add_t, d_add_p, d_sub, d_mul_i, d_fdiv, d_mod, d_pow, d_eq, d_ne, d_lt_i, d_lt_t, d_le, d_gt, d_ge, d_in, d_nin, d_is_nn, d_is_in, d_is_ln, d_is_tn, d_ix_l, d_ix_t, d_ix_p, d_ix_s, d_sl_l, d_sl_t, d_sl_p, q_var, q_cst, q_glo, q_un, q_bin, q_cmp, q_chn, q_and, q_or, q_ite, q_idx, q_slc, q_tup, q_lst, q_dic, q_call, q_bf, q_isi, q_get, q_app, q_ext, q_popL, q_popA, q_comp, turn_eq, t_not, t_and, t_or, t_cmp, t_chn, t_call, t_bf, t_isi, t_var, c_nil, c_one, o_nil, o_one, l_nil, l_cons, i_val, i_rng1, i_rng2, i_enu, i_zip, s_asg, s_asgs, s_aug, s_exp, s_del, s_retF, s_retT, s_retN, s_ite, s_whl, s_for, s_brk, s_cnt, s_pass, b_nil, b_cons, w_nm, w_un, w_sub, runF, boolA, res, W.toD, W.at, W.sub, isiD, takeA, takeS, takeC, putC, frzA, frzL, takeL, stoL, ST.own, resL, iosOf, fin_c, own, -List.all_map, fz_all, fz_all2, fz_all3, D.isAtom, W.isFz, W.flat, bindT, wipeG, backG, Arg.simple, pureE, pureL, idxA, stepOf, modP, W.setAt, W.setS, setW, popW, isL, isDc, itemsOf, toDs, toDs_fz, toDs_comp, toDs_fun, all_true, eqD_int, eqD_bl, atI_nat, atI_0, atI_1, atI_2, atI_3, ixN4_0, ixN4_1, ixN4_2, ixN4_3]⟩⟩
  rw [call_eq pm_15]
  have tt := natsT_of (st.filter fun p => decide (p.2 + (far'.getD p.1 0 : Nat) = r'.getD v 0))
  simp only [stopsD, natD, intsL] at c1 e1 e2 e3 e4 tt ⊢
  simp [f_len_l, f_len_t, f_len_p, f_len_s, f_abs, f_max2, f_min2, f_sorted, f_all, f_int_i, f_int_b, f_list_l, f_list_t, f_tuple_l, f_tuple_t, f_ptuple, f_dict_p, f_lrange, d_neg, d_not, d_add_i, d_add_l, d_add_t, d_add_p, d_sub, d_mul_i, d_fdiv, d_mod, d_pow, d_eq, d_ne, d_lt_i, d_lt_t, d_le, d_gt, d_ge, d_in, d_nin, d_is_nn, d_is_in, d_is_ln, d_is_tn, d_ix_l, d_ix_t, d_ix_p, d_ix_s, d_sl_l, d_sl_t, d_sl_p, q_var, q_cst, q_glo, q_un, q_bin, q_cmp, q_chn, q_and, q_or, q_ite, q_idx, q_slc, q_tup, q_lst, q_dic, q_call, q_bf, q_isi, q_get, q_app, q_ext, q_popL, q_popA, q_comp, turn_eq, t_not, t_and, t_or, t_cmp, t_chn, t_call, t_bf, t_isi, t_var, c_nil, c_one, o_nil, o_one, l_nil, l_cons, i_val, i_rng1, i_rng2, i_enu, i_zip, s_asg, s_asgs, s_aug, s_exp, s_del, s_retF, s_retT, s_retN, s_ite, s_whl, s_for, s_brk, s_cnt, s_pass, b_nil, b_cons, w_nm, w_un, w_sub, runF, boolA, res, W.toD, W.at, W.sub, isiD, takeA, takeS, takeC, putC, frzA, frzL, takeL, stoL, ST.own, resL, iosOf, fin_c, own, -List.all_map, fz_all, fz_all2, fz_all3, D.isAtom, W.isFz, W.flat, bindT, wipeG, backG, Arg.simple, pureE, pureL, idxA, stepOf, modP, W.setAt, W.setS, setW, popW, isL, isDc, itemsOf, toDs, toDs_fz, toDs_comp, toDs_fun, all_true, eqD_int, eqD_bl, atI_nat, atI_0, atI_1, atI_2, atI_3, ixN4_0, ixN4_1, ixN4_2, ixN4_3, f_15, e1, e2, e3, e4, vr, c1, sl]
  all_goals exact toDs_map _ _
end K08
end PF
end

section
set_option Elab.async false
set_option linter.all false
set_option maxRecDepth 100000
set_option maxHeartbeats 2000000
namespace PF
open PySem L2
theorem cut_to (xs : List D) (k : Nat) : cutD xs none (some (k : Int)) = xs.take k := by
  unfold cutD
  rw [HT.sIx_nat, HT.sIx_none]
  simp
theorem cut_from (xs : List D) (k : Nat) : cutD xs (some (k : Int)) none = xs.drop k := by
  unfold cutD
  rw [HT.sIx_nat, HT.sIx_none]
  by_cases h : k ≤ xs.length
  · rw [Nat.min_eq_left h, List.take_of_length_le (by rw [List.length_drop]; omega)]
  · rw [Nat.min_eq_right (by omega)]
    simp
    omega
/-- without the i-th -/
def less {α : Type} (l : List α) (i : Nat) : List α := l.take i ++ l.drop (i + 1)
theorem mem_less {α : Type} {l : List α} {i : Nat} {x : α} (h : x ∈ less l i) : x ∈ l := by
  rcases List.mem_append.mp h with h | h
  · exact List.mem_of_mem_take h
  · exact List.mem_of_mem_drop h
theorem lay_ints : ∀ l : List Int, layDs (l.map .int) = true
  | [] => rfl
  | a :: l => by
    show (true && layDs (l.map .int)) = true
    rw [lay_ints l]; rfl
theorem dep_ints : ∀ l : List Int, depDs (l.map .int) = 0
  | [] => rfl
  | a :: l => by
    show max 0 (depDs (l.map .int)) = 0
    rw [dep_ints l]; rfl
theorem eqv_ints : ∀ l k : List Int, eqvDs (l.map .int) (k.map .int) = decide (l = k)
  | [], [] => rfl
  | [], _ :: _ => rfl
  | _ :: _, [] => rfl
  | a :: l, b :: k => by
    show ((a == b) && eqvDs (l.map .int) (k.map .int)) = _
    rw [eqv_ints l k]
    by_cases h : a = b <;> by_cases h' : l = k <;> simp [h, h']
theorem eq_ints (l k : List Int) : eqD (intsL l) (intsL k) = some (decide (l = k)) := by
  have h : ∀ l, okD (intsL l) = true := fun l => by
    unfold okD intsL
    simp [layD, lay_ints, depD, dep_ints]
  unfold eqD
  rw [h, h]
  show some (eqvDs (l.map .int) (k.map .int)) = _
  rw [eqv_ints]
theorem eq_intsT (l k : List Int) : eqD (intsT l) (intsT k) = some (decide (l = k)) := by
  have h : ∀ l, okD (intsT l) = true := fun l => by
    unfold okD intsT
    simp [layD, lay_ints, depD, dep_ints]
  unfold eqD
  rw [h, h]
  show some (eqvDs (l.map .int) (k.map .int)) = _
  rw [eqv_ints]
namespace K08
variable {fu n : Nat}
/-- which stops are needless, seen from a table of what the rest holds -/
def needB : IB := .cons (.asg (.nm 6 false) (.bin .addP (.slc (.var 2) .nil (.cons (.var 5) .nil)) (.slc (.var 2) (.cons (.bin .add (.var 5) (.cst (.int 1))) .nil) .nil))) <|
    .cons (.ite (.and (.cmp .ne (.var 6) (.tup false .nil)) (.cmp .eq (.call 13 [.val, .val, .val] (.cons (.var 0) (.cons (.var 1) (.cons (.var 6) .nil)))) (.var 3))) (.cons (.exp (.app false (.var 4) (.var 7))) <|
      .nil) .nil) <|
    .nil
/-- the i-th stop is needless -/
def Needless (m : Nat) (es : List (Nat × Nat)) (st : List (Nat × Int)) (r : List Int) (i : Nat) : Prop := less st i ≠ [] ∧ IsHeld m es (less st i) r
theorem needless_ok {m : Nat} {es : List (Nat × Nat)} {l r : List Int} {st : List (Nat × Int)} (w : WebOk m es) (hl : LayOk m es 1000000 l) (h : StopsOk m l st) (hfu : m < fu) (hr : IsHeld m es st r) (nd : Nat → Bool) (hn : ∀ i, i < st.length → (nd i = true ↔ Needless m es st r i)) :
    callF Pm fu (n + 8) 17 [.fz (webD m es), .fz (intsT l), .fz (stopsD st)] = some (.fz (.tup (((List.range st.length).filter nd).map fun i => natD (st.getD i (0, 0)).1)), []) := by
  have e1 := need_stops_ok (fu := fu) (n := n) w hl h hfu
  obtain ⟨r', e2, h2⟩ := held_of_ok (fu := fu) (n := n + 4) (first := intsT l) w hfu (fun p hp => (h.ok p hp).1) h.some
  have : r' = r := h2.uniq hr
  subst this
  have hlen := h.len
  have hm := w.most
  let G : List Nat → Option W → Option W → Option W → Option W → Gam := fun out a b c d => [some (.fz (webD m es)), some (.fz (intsT l)), some (.fz (stopsD st)), some (.fz (intsL r')), some (.lst (out.map fzN)), a, b, c, d]
  obtain ⟨g', e, a, b, c, d, e3⟩ := forL_inv (bind := fun d g => bindT (.cons (.nm 5) (.cons (.cons (.nm 7) (.cons (.nm 8) .nil)) .nil)) d g) (body := fun g => runB (callF Pm fu (n + 7)) fu needB g) (ds := numbered 0 (st.map stopD)) (g := G [] none none none none)
    (fun i g => ∃ a b c d, g = G (((List.range i).filter nd).map fun i => (st.getD i (0, 0)).1) a b c d) ⟨none, none, none, none, rfl⟩
    (by
      rintro i x g hx ⟨a, b, c, d, rfl⟩
      have hi : i < st.length := by
        have := (List.getElem?_eq_some_iff.mp hx).1
        rw [nq_len, List.length_map] at this
        exact this
      have gx := nq_get 0 (st.map stopD) i (stopD st[i]) (by simp [hi])
      rw [hx] at gx
      cases gx
      have e0 : (0 + i : Nat) = i := by omega
      have gs : st.getD i (0, 0) = st[i] := by simp [hi]
      have k1 := cut_to (st.map stopD) i
      have k2 := cut_from (st.map stopD) (i + 1)
      have k2' : cutD (st.map stopD) (some ((i : Int) + 1)) none = (st.map stopD).drop (i + 1) := k2
      have hle : less (st.map stopD) i = (less st i).map stopD := by simp [less]
      have sl2 : slk (min i st.length + (st.length - (i + 1))) = true := slk_ok (by omega)
      have en := stops_nil (less st i)
      let out := ((List.range i).filter nd).map fun i => (st.getD i (0, 0)).1
      have hout : out.length ≤ i := by
        simp only [out, List.length_map]
        exact Nat.le_trans (List.length_filter_le _ _) (by simp)
      have aa := app_ok (y := .fz (natD st[i].1)) (ws := out.map fzN) (by rw [List.length_map]; omega)
      have nx : ((List.range (i + 1)).filter nd).map (fun i => (st.getD i (0, 0)).1) = if nd i = true then out ++ [st[i].1] else out := by
        rw [List.range_succ, List.filter_append, List.map_append]
        by_cases q : nd i = true
        · rw [if_pos q]
          simp [q, out, gs, hi]
        · rw [if_neg q]
          simp [q, out]
      have st0 : runS (callF Pm fu (n + 7)) fu (.asg (.nm 6 false) (.bin .addP (.slc (.var 2) .nil (.cons (.var 5) .nil)) (.slc (.var 2) (.cons (.bin .add (.var 5) (.cst (.int 1))) .nil) .nil))) (G out (some (.fz (.int (i : Nat)))) b (some (.fz (natD st[i].1))) (some (.fz (.int st[i].2)))) = some (.nx (G out (some (.fz (.int (i : Nat)))) (some (.fz (stopsD (less st i)))) (some (.fz (natD st[i].1))) (some (.fz (.int st[i].2))))) := by
        have hle2 : (st.map stopD).take i ++ (st.map stopD).drop (i + 1) = (less st i).map stopD := hle
        simp [f_len_l, f_len_t, f_len_p, f_len_s, f_abs, f_max2, f_min2, f_sorted, f_all, f_int_i, f_int_b, f_list_l, f_list_t, f_tuple_l, f_tuple_t, f_ptuple, f_dict_p, f_lrange, d_neg, d_not, d_add_i, d_add_l, d_add_t, d_add_p, d_sub, d_mul_i, d_fdiv, d_mod, d_pow, d_eq, d_ne, d_lt_i, d_lt_t, d_le, d_gt, d_ge, d_in, d_nin, d_is_nn, d_is_in, d_is_ln, d_is_tn, d_ix_l, d_ix_t, d_ix_p, d_ix_s, d_sl_l, d_sl_t, d_sl_p, q_var, q_cst, q_glo, q_un, q_bin, q_cmp, q_chn, q_and, q_or, q_ite, q_idx, q_slc, q_tup, q_lst, q_dic, q_call, q_bf, q_isi, q_get, q_app, q_ext, q_popL, q_popA, q_comp, turn_eq, t_not, t_and, t_or, t_cmp, t_chn, t_call, t_bf, t_isi, t_var, c_nil, c_one, o_nil, o_one, l_nil, l_cons, i_val, i_rng1, i_rng2, i_enu, i_zip, s_asg, s_asgs, s_aug, s_exp, s_del, s_retF, s_retT, s_retN, s_ite, s_whl, s_for, s_brk, s_cnt, s_pass, b_nil, b_cons, w_nm, w_un, w_sub, runF, boolA, res, W.toD, W.at, W.sub, isiD, takeA, takeS, takeC, putC, frzA, frzL, takeL, stoL, ST.own, resL, iosOf, fin_c, own, -List.all_map, fz_all, fz_all2, fz_all3, D.isAtom, W.isFz, W.flat, bindT, wipeG, backG, Arg.simple, pureE, pureL, idxA, stepOf, modP, W.setAt, W.setS, setW, popW, isL, isDc, itemsOf, toDs, toDs_fz, toDs_comp, toDs_fun, all_true, eqD_int, eqD_bl, atI_nat, atI_0, atI_1, atI_2, atI_3, ixN4_0, ixN4_1, ixN4_2, ixN4_3, G, stopsD, k1, k2', sl2, hle2]
      have fin : ∀ bb : Bool, (bb = true ↔ nd i = true) → runS (callF Pm fu (n + 7)) fu (.ite (.and (.cmp .ne (.var 6) (.tup false .nil)) (.cmp .eq (.call 13 [.val, .val, .val] (.cons (.var 0) (.cons (.var 1) (.cons (.var 6) .nil)))) (.var 3))) (.cons (.exp (.app false (.var 4) (.var 7))) .nil) .nil) (G out (some (.fz (.int (i : Nat)))) (some (.fz (stopsD (less st i)))) (some (.fz (natD st[i].1))) (some (.fz (.int st[i].2)))) = some (.nx (G (if bb = true then out ++ [st[i].1] else out) (some (.fz (.int (i : Nat)))) (some (.fz (stopsD (less st i)))) (some (.fz (natD st[i].1))) (some (.fz (.int st[i].2))))) →
          runB (callF Pm fu (n + 7)) fu needB (G out (some (.fz (.int (i : Nat)))) b (some (.fz (natD st[i].1))) (some (.fz (.int st[i].2)))) = some (.nx (G (((List.range (i + 1)).filter nd).map fun i => (st.getD i (0, 0)).1) (some (.fz (.int (i : Nat)))) (some (.fz (stopsD (less st i)))) (some (.fz (natD st[i].1))) (some (.fz (.int st[i].2))))) := fun bb hb hs => by
        unfold needB
        rw [b_cons, st0, Option.bind_some]
        show runB _ fu (.cons _ .nil) _ = _
        rw [b_cons, hs, Option.bind_some, nx]
        have : (bb = true) = (nd i = true) := propext hb
        simp only [this]
        rfl
      refine ⟨G out (some (.fz (.int (i : Nat)))) b (some (.fz (natD st[i].1))) (some (.fz (.int st[i].2))), G (((List.range (i + 1)).filter nd).map fun i => (st.getD i (0, 0)).1) (some (.fz (.int (i : Nat)))) (some (.fz (stopsD (less st i)))) (some (.fz (natD st[i].1))) (some (.fz (.int st[i].2))), by rw [e0]; simp [f_len_l, f_len_t, f_len_p, f_len_s, f_abs, f_max2, f_min2, f_sorted, f_all, f_int_i, f_int_b, f_list_l, f_list_t, f_tuple_l, f_tuple_t, f_ptuple, f_dict_p, f_lrange, d_neg, d_not, d_add_i, d_add_l, d_add_t, d_add_p, d_sub, d_mul_i, d_fdiv, d_mod, d_pow, d_eq, d_ne, d_lt_i, d_lt_t, d_le, d_gt, d_ge, d_in, d_nin, d_is_nn, d_is_in, d_is_ln, d_is_tn, d_ix_l, d_ix_t, d_ix_p, d_ix_s, d_sl_l, d_sl_t, d_sl_p, q_var, q_cst, q_glo, q_un, q_bin, q_cmp, q_chn, q_and, q_or, q_ite, q_idx, q_slc, q_tup, q_lst, q_dic, q_call, q_bf, q_isi, q_get, q_app, q_ext, q_popL, q_popA, q_comp, turn_eq, t_not, t_and, t_or, t_cmp, t_chn, t_call, t_bf, t_isi, t_var, c_nil, c_one, o_nil, o_one, l_nil, l_cons, i_val, i_rng1, i_rng2, i_enu, i_zip, s_asg, s_asgs, s_aug, s_exp, s_del, s_retF, s_retT, s_retN, s_ite, s_whl, s_for, s_brk, s_cnt, s_pass, b_nil, b_cons, w_nm, w_un, w_sub, runF, boolA, res, W.toD, W.at, W.sub, isiD, takeA, takeS, takeC, putC, frzA, frzL, takeL, stoL, ST.own, resL, iosOf, fin_c, own, -List.all_map, fz_all, fz_all2, fz_all3, D.isAtom, W.isFz, W.flat, bindT, wipeG, backG, Arg.simple, pureE, pureL, idxA, stepOf, modP, W.setAt, W.setS, setW, popW, isL, isDc, itemsOf, toDs, toDs_fz, toDs_comp, toDs_fun, all_true, eqD_int, eqD_bl, atI_nat, atI_0, atI_1, atI_2, atI_3, ixN4_0, ixN4_1, ixN4_2, ixN4_3, G, stopD, out], ?_, _, _, _, _, rfl⟩
      by_cases c0 : less st i = []
      · rw [decide_eq_true c0] at en
        refine fin false ?_ ?_
        · rw [hn i hi]
          constructor
          · intro q; cases q
          · intro q; exact absurd c0 q.1
        · simp [f_len_l, f_len_t, f_len_p, f_len_s, f_abs, f_max2, f_min2, f_sorted, f_all, f_int_i, f_int_b, f_list_l, f_list_t, f_tuple_l, f_tuple_t, f_ptuple, f_dict_p, f_lrange, d_neg, d_not, d_add_i, d_add_l, d_add_t, d_add_p, d_sub, d_mul_i, d_fdiv, d_mod, d_pow, d_eq, d_ne, d_lt_i, d_lt_t, d_le, d_gt, d_ge, d_in, d_nin, d_is_nn, d_is_in, d_is_ln, d_is_tn, d_ix_l, d_ix_t, d_ix_p, d_ix_s, d_sl_l, d_sl_t, d_sl_p, q_var, q_cst, q_glo, q_un, q_bin, q_cmp, q_chn, q_and, q_or, q_ite, q_idx, q_slc, q_tup, q_lst, q_dic, q_call, q_bf, q_isi, q_get, q_app, q_ext, q_popL, q_popA, q_comp, turn_eq, t_not, t_and, t_or, t_cmp, t_chn, t_call, t_bf, t_isi, t_var, c_nil, c_one, o_nil, o_one, l_nil, l_cons, i_val, i_rng1, i_rng2, i_enu, i_zip, s_asg, s_asgs, s_aug, s_exp, s_del, s_retF, s_retT, s_retN, s_ite, s_whl, s_for, s_brk, s_cnt, s_pass, b_nil, b_cons, w_nm, w_un, w_sub, runF, boolA, res, W.toD, W.at, W.sub, isiD, takeA, takeS, takeC, putC, frzA, frzL, takeL, stoL, ST.own, resL, iosOf, fin_c, own, -List.all_map, fz_all, fz_all2, fz_all3, D.isAtom, W.isFz, W.flat, bindT, wipeG, backG, Arg.simple, pureE, pureL, idxA, stepOf, modP, W.setAt, W.setS, setW, popW, isL, isDc, itemsOf, toDs, toDs_fz, toDs_comp, toDs_fun, all_true, eqD_int, eqD_bl, atI_nat, atI_0, atI_1, atI_2, atI_3, ixN4_0, ixN4_1, ixN4_2, ixN4_3, G, en, slk_ok]
      · rw [decide_eq_false c0] at en
        obtain ⟨r2, e4, h4⟩ := held_of_ok (fu := fu) (n := n + 4) (first := intsT l) (st := less st i) w hfu (fun p hp => (h.ok p (mem_less hp)).1) c0
        have ei := eq_ints r2 r'
        refine fin (decide (r2 = r')) ?_ ?_
        · rw [hn i hi, decide_eq_true_eq]
          constructor
          · intro q; subst q; exact ⟨c0, h4⟩
          · intro q; exact h4.uniq q.2
        · by_cases c1 : r2 = r'
          · rw [decide_eq_true c1] at ei ⊢
            simp [f_len_l, f_len_t, f_len_p, f_len_s, f_abs, f_max2, f_min2, f_sorted, f_all, f_int_i, f_int_b, f_list_l, f_list_t, f_tuple_l, f_tuple_t, f_ptuple, f_dict_p, f_lrange, d_neg, d_not, d_add_i, d_add_l, d_add_t, d_add_p, d_sub, d_mul_i, d_fdiv, d_mod, d_pow, d_eq, d_ne, d_lt_i, d_lt_t, d_le, d_gt, d_ge, d_in, d_nin, d_is_nn, d_is_in, d_is_ln, d_is_tn, d_ix_l, d_ix_t, d_ix_p, d_ix_s, d_sl_l, d_sl_t, d_sl_p, q_var, q_cst, q_glo, q_un, q_bin, q_cmp, q_chn, q_and, q_or, q_ite, q_idx, q_slc, q_tup, q_lst, q_dic, q_call, q_bf, q_isi, q_get, q_app, q_ext, q_popL, q_popA, q_comp, turn_eq, t_not, t_and, t_or, t_cmp, t_chn, t_call, t_bf, t_isi, t_var, c_nil, c_one, o_nil, o_one, l_nil, l_cons, i_val, i_rng1, i_rng2, i_enu, i_zip, s_asg, s_asgs, s_aug, s_exp, s_del, s_retF, s_retT, s_retN, s_ite, s_whl, s_for, s_brk, s_cnt, s_pass, b_nil, b_cons, w_nm, w_un, w_sub, runF, boolA, res, W.toD, W.at, W.sub, isiD, takeA, takeS, takeC, putC, frzA, frzL, takeL, stoL, ST.own, resL, iosOf, fin_c, own, -List.all_map, fz_all, fz_all2, fz_all3, D.isAtom, W.isFz, W.flat, bindT, wipeG, backG, Arg.simple, pureE, pureL, idxA, stepOf, modP, W.setAt, W.setS, setW, popW, isL, isDc, itemsOf, toDs, toDs_fz, toDs_comp, toDs_fun, all_true, eqD_int, eqD_bl, atI_nat, atI_0, atI_1, atI_2, atI_3, ixN4_0, ixN4_1, ixN4_2, ixN4_3, G, en, slk_ok, e4, ei, aa]
            rfl
          · rw [decide_eq_false c1] at ei ⊢
            simp [f_len_l, f_len_t, f_len_p, f_len_s, f_abs, f_max2, f_min2, f_sorted, f_all, f_int_i, f_int_b, f_list_l, f_list_t, f_tuple_l, f_tuple_t, f_ptuple, f_dict_p, f_lrange, d_neg, d_not, d_add_i, d_add_l, d_add_t, d_add_p, d_sub, d_mul_i, d_fdiv, d_mod, d_pow, d_eq, d_ne, d_lt_i, d_lt_t, d_le, d_gt, d_ge, d_in, d_nin, d_is_nn, d_is_in, d_is_ln, d_is_tn, d_ix_l, d_ix_t, d_ix_p, d_ix_s, d_sl_l, d_sl_t, d_sl_p, q_var, q_cst, q_glo, q_un, q_bin, q_cmp, q_chn, q_and, q_or, q_ite, q_idx, q_slc, q_tup, q_lst, q_dic, q_call, q_bf, q_isi, q_get, q_app, q_ext, q_popL, q_popA, q_comp, turn_eq, t_not, t_and, t_or, t_cmp, t_chn, t_call, t_bf, t_isi, t_var, c_nil, c_one, o_nil, o_one, l_nil, l_cons, i_val, i_rng1, i_rng2, i_enu, i_zip, s_asg, s_asgs, s_aug, s_exp, s_del, s_retF, s_retT, s_retN, s_ite, s_whl, s_for, s_brk, s_cnt, s_pass, b_nil, b_cons, w_nm, w_un, w_sub, runF, boolA, res, W.toD, W.at, W.sub, isiD, takeA, takeS, takeC, putC, frzA, frzL, takeL, stoL, ST.own, resL, iosOf, fin_c, own, -List.all_map, fz_all, fz_all2, fz_all3, D.isAtom, W.isFz, W.flat, bindT, wipeG, backG, Arg.simple, pureE, pureL, idxA, stepOf, modP, W.setAt, W.setS, setW, popW, isL, isDc, itemsOf, toDs, toDs_fz, toDs_comp, toDs_fun, all_true, eqD_int, eqD_bl, atI_nat, atI_0, atI_1, atI_2, atI_3, ixN4_0, ixN4_1, ixN4_2, ixN4_3, G, en, slk_ok, e4, ei])
  subst e3
  have e' : forQ (callF Pm fu (n + 7)) fu (.cons (.nm 5) (.cons (.cons (.nm 7) (.cons (.nm 8) .nil)) .nil)) needB (numbered 0 (st.map stopD)) (G [] none none none none) = _ := e
  rw [nq_len, List.length_map] at e'
  have tt : toDs ((((List.range st.length).filter nd).map fun i => (st.getD i (0, 0)).1).map fzN) = ((List.range st.length).filter nd).map fun i => natD (st.getD i (0, 0)).1 := by
    rw [List.map_map, toDs_map]
    rfl
  rw [call_eq pm_17]
  simp only [G, needB, stopsD, List.map_nil] at e' e1 e2 ⊢
  simp [f_len_l, f_len_t, f_len_p, f_len_s, f_abs, f_max2, f_min2, f_sorted, f_all, f_int_i, f_int_b, f_list_l, f_list_t, f_tuple_l, f_tuple_t, f_ptuple, f_dict_p, f_lrange, d_neg, d_not, d_add_i, d_add_l, d_add_t, d_add_p, d_sub, d_mul_i, d_fdiv, d_mod, d_pow, d_eq, d_ne, d_lt_i, d_lt_t, d_le, d_gt, d_ge, d_in, d_nin, d_is_nn, d_is_in, d_is_ln, d_is_tn, d_ix_l, d_ix_t, d_ix_p, d_ix_s, d_sl_l, d_sl_t, d_sl_p, q_var, q_cst, q_glo, q_un, q_bin, q_cmp, q_chn, q_and, q_or, q_ite, q_idx, q_slc, q_tup, q_lst, q_dic, q_call, q_bf, q_isi, q_get, q_app, q_ext, q_popL, q_popA, q_comp, turn_eq, t_not, t_and, t_or, t_cmp, t_chn, t_call, t_bf, t_isi, t_var, c_nil, c_one, o_nil, o_one, l_nil, l_cons, i_val, i_rng1, i_rng2, i_enu, i_zip, s_asg, s_asgs, s_aug, s_exp, s_del, s_retF, s_retT, s_retN, s_ite, s_whl, s_for, s_brk, s_cnt, s_pass, b_nil, b_cons, w_nm, w_un, w_sub, runF, boolA, res, W.toD, W.at, W.sub, isiD, takeA, takeS, takeC, putC, frzA, frzL, takeL, stoL, ST.own, resL, iosOf, fin_c, own, -List.all_map, fz_all, fz_all2, fz_all3, D.isAtom, W.isFz, W.flat, bindT, wipeG, backG, Arg.simple, pureE, pureL, idxA, stepOf, modP, W.setAt, W.setS, setW, popW, isL, isDc, itemsOf, toDs, toDs_fz, toDs_comp, toDs_fun, all_true, eqD_int, eqD_bl, atI_nat, atI_0, atI_1, atI_2, atI_3, ixN4_0, ixN4_1, ixN4_2, ixN4_3, f_17, e1, e2, e', slk_ok, fzN_all, fzN_all2, fzN]
  all_goals exact toDs_map _ _
end K08
end PF
end

section
set_option Elab.async false
set_option linter.all false
set_option maxRecDepth 100000
set_option maxHeartbeats 2000000
namespace PF
open PySem L2
namespace K08
variable {fu n : Nat}
theorem alike_int (v : Int) : callF Pm fu (n + 1) 20 [.fz (.int v), .fz (.int v)] = some (.fz (.bl true), []) := by
  rw [call_eq pm_20]
  simp [f_len_l, f_len_t, f_len_p, f_len_s, f_abs, f_max2, f_min2, f_sorted, f_all, f_int_i, f_int_b, f_list_l, f_list_t, f_tuple_l, f_tuple_t, f_ptuple, f_dict_p, f_lrange, d_neg, d_not, d_add_i, d_add_l, d_add_t, d_add_p, d_sub, d_mul_i, d_fdiv, d_mod, d_pow, d_eq, d_ne, d_lt_i, d_lt_t, d_le, d_gt, d_ge, d_in, d_nin, d_is_nn, d_is_in, d_is_ln, d_is_tn, d_ix_l, d_ix_t, d_ix_p, d_ix_s, d_sl_l, d_sl_t, d_sl_p, q_var, q_cst, q_glo, q_un, q_bin, q_cmp, q_chn, q_and, q_or, q_ite, q_idx, q_slc, q_tup, q_lst, q_dic, q_call, q_bf, q_isi, q_get, q_app, q_ext, q_popL, q_popA, q_comp, turn_eq, t_not, t_and, t_or, t_cmp, t_chn, t_call, t_bf, t_isi, t_var, c_nil, c_one, o_nil, o_one, l_nil, l_cons, i_val, i_rng1, i_rng2, i_enu, i_zip, s_asg, s_asgs, s_aug, s_exp, s_del, s_retF, s_retT, s_retN, s_ite, s_whl, s_for, s_brk, s_cnt, s_pass, b_nil, b_cons, w_nm, w_un, w_sub, runF, boolA, res, W.toD, W.at, W.sub, isiD, takeA, takeS, takeC, putC, frzA, frzL, takeL, stoL, ST.own, resL, iosOf, fin_c, own, -List.all_map, fz_all, fz_all2, fz_all3, D.isAtom, W.isFz, W.flat, bindT, wipeG, backG, Arg.simple, pureE, pureL, idxA, stepOf, modP, W.setAt, W.setS, setW, popW, isL, isDc, itemsOf, toDs, toDs_fz, toDs_comp, toDs_fun, all_true, eqD_int, eqD_bl, atI_nat, atI_0, atI_1, atI_2, atI_3, ixN4_0, ixN4_1, ixN4_2, ixN4_3, f_20]
theorem alike_ints (l : List Int) (hl : l.length ≤ 10000) : callF Pm fu (n + 2) 20 [.fz (intsT l), .fz (intsT l)] = some (.fz (.bl true), []) := by
  have sl : slk l.length = true := slk_ok (by omega)
  have rr := rng_nat (k := l.length) (by omega)
  have c1 := compQ_map (F := callF Pm fu (n + 1)) (ow := [2]) (t := .nm 2) (oe := false) (cs := .cons (.un .not (.call 20 [.val, .val] (.cons (.idx (.var 0) (.var 2)) (.cons (.idx (.var 1) (.var 2)) .nil)))) .nil) (e := .var 2) (g := [some (.fz (intsT l)), some (.fz (intsT l)), none]) (fun i : Nat => D.int (i : Nat)) (fun _ => false) (fun i => W.fz (.int (i : Nat))) (xs := List.range l.length)
    fun i hi => ⟨[some (.fz (intsT l)), some (.fz (intsT l)), some (.fz (.int (i : Nat)))], [some (.fz (intsT l)), some (.fz (intsT l)), some (.fz (.int (i : Nat)))], by simp [f_len_l, f_len_t, f_len_p, f_len_s, f_abs, f_max2, f_min2, f_sorted, f_all, f_int_i, f_int_b, f_list_l, f_list_t, f_tuple_l, f_tuple_t, f_ptuple, f_dict_p, f_lrange, d_neg, d_not, d_add_i, d_add_l, d_add_t, d_add_p, d_sub, d_mul_i, d_fdiv, d_mod, d_pow, d_eq, d_ne, d_lt_i, d_lt_t, d_le, d_gt, d_ge, d_in, d_nin, d_is_nn, d_is_in, d_is_ln, d_is_tn, d_ix_l, d_ix_t, d_ix_p, d_ix_s, d_sl_l, d_sl_t, d_sl_p, q_var, q_cst, q_glo, q_un, q_bin, q_cmp, q_chn, q_and, q_or, q_ite, q_idx, q_slc, q_tup, q_lst, q_dic, q_call, q_bf, q_isi, q_get, q_app, q_ext, q_popL, q_popA, q_comp, turn_eq, t_not, t_and, t_or, t_cmp, t_chn, t_call, t_bf, t_isi, t_var, c_nil, c_one, o_nil, o_one, l_nil, l_cons, i_val, i_rng1, i_rng2, i_enu, i_zip, s_asg, s_asgs, s_aug, s_exp, s_del, s_retF, s_retT, s_retN, s_ite, s_whl, s_for, s_brk, s_cnt, s_pass, b_nil, b_cons, w_nm, w_un, w_sub, runF, boolA, res, W.toD, W.at, W.sub, isiD, takeA, takeS, takeC, putC, frzA, frzL, takeL, stoL, ST.own, resL, iosOf, fin_c, own, -List.all_map, fz_all, fz_all2, fz_all3, D.isAtom, W.isFz, W.flat, bindT, wipeG, backG, Arg.simple, pureE, pureL, idxA, stepOf, modP, W.setAt, W.setS, setW, popW, isL, isDc, itemsOf, toDs, toDs_fz, toDs_comp, toDs_fun, all_true, eqD_int, eqD_bl, atI_nat, atI_0, atI_1, atI_2, atI_3, ixN4_0, ixN4_1, ixN4_2, ixN4_3], by
      have h : i < l.length := List.mem_range.mp hi
      have q := alike_int (fu := fu) (n := n) l[i]
      simp [f_len_l, f_len_t, f_len_p, f_len_s, f_abs, f_max2, f_min2, f_sorted, f_all, f_int_i, f_int_b, f_list_l, f_list_t, f_tuple_l, f_tuple_t, f_ptuple, f_dict_p, f_lrange, d_neg, d_not, d_add_i, d_add_l, d_add_t, d_add_p, d_sub, d_mul_i, d_fdiv, d_mod, d_pow, d_eq, d_ne, d_lt_i, d_lt_t, d_le, d_gt, d_ge, d_in, d_nin, d_is_nn, d_is_in, d_is_ln, d_is_tn, d_ix_l, d_ix_t, d_ix_p, d_ix_s, d_sl_l, d_sl_t, d_sl_p, q_var, q_cst, q_glo, q_un, q_bin, q_cmp, q_chn, q_and, q_or, q_ite, q_idx, q_slc, q_tup, q_lst, q_dic, q_call, q_bf, q_isi, q_get, q_app, q_ext, q_popL, q_popA, q_comp, turn_eq, t_not, t_and, t_or, t_cmp, t_chn, t_call, t_bf, t_isi, t_var, c_nil, c_one, o_nil, o_one, l_nil, l_cons, i_val, i_rng1, i_rng2, i_enu, i_zip, s_asg, s_asgs, s_aug, s_exp, s_del, s_retF, s_retT, s_retN, s_ite, s_whl, s_for, s_brk, s_cnt, s_pass, b_nil, b_cons, w_nm, w_un, w_sub, runF, boolA, res, W.toD, W.at, W.sub, isiD, takeA, takeS, takeC, putC, frzA, frzL, takeL, stoL, ST.own, resL, iosOf, fin_c, own, -List.all_map, fz_all, fz_all2, fz_all3, D.isAtom, W.isFz, W.flat, bindT, wipeG, backG, Arg.simple, pureE, pureL, idxA, stepOf, modP, W.setAt, W.setS, setW, popW, isL, isDc, itemsOf, toDs, toDs_fz, toDs_comp, toDs_fun, all_true, eqD_int, eqD_bl, atI_nat, atI_0, atI_1, atI_2, atI_3, ixN4_0, ixN4_1, ixN4_2, ixN4_3, intsT, h, q], by simp [f_len_l, f_len_t, f_len_p, f_len_s, f_abs, f_max2, f_min2, f_sorted, f_all, f_int_i, f_int_b, f_list_l, f_list_t, f_tuple_l, f_tuple_t, f_ptuple, f_dict_p, f_lrange, d_neg, d_not, d_add_i, d_add_l, d_add_t, d_add_p, d_sub, d_mul_i, d_fdiv, d_mod, d_pow, d_eq, d_ne, d_lt_i, d_lt_t, d_le, d_gt, d_ge, d_in, d_nin, d_is_nn, d_is_in, d_is_ln, d_is_tn, d_ix_l, d_ix_t, d_ix_p, d_ix_s, d_sl_l, d_sl_t, d_sl_p, q_var, q_cst, q_glo, q_un, q_bin, q_cmp, q_chn, q_and, q_or, q_ite, q_idx, q_slc, q_tup, q_lst, q_dic, q_call, q_bf, q_isi, q_get, q_app, q_ext, q_popL, q_popA, q_comp, turn_eq, t_not, t_and, t_or, t_cmp, t_chn, t_call, t_bf, t_isi, t_var, c_nil, c_one, o_nil, o_one, l_nil, l_cons, i_val, i_rng1, i_rng2, i_enu, i_zip, s_asg, s_asgs, s_aug, s_exp, s_del, s_retF, s_retT, s_retN, s_ite, s_whl, s_for, s_brk, s_cnt, s_pass, b_nil, b_cons, w_nm, w_un, w_sub, runF, boolA, res, W.toD, W.at, W.sub, isiD, takeA, takeS, takeC, putC, frzA, frzL, takeL, stoL, ST.own, resL, iosOf, fin_c, own, -List.all_map, fz_all, fz_all2, fz_all3, D.isAtom, W.isFz, W.flat, bindT, wipeG, backG, Arg.simple, pureE, pureL, idxA, stepOf, modP, W.setAt, W.setS, setW, popW, isL, isDc, itemsOf, toDs, toDs_fz, toDs_comp, toDs_fun, all_true, eqD_int, eqD_bl, atI_nat, atI_0, atI_1, atI_2, atI_3, ixN4_0, ixN4_1, ixN4_2, ixN4_3], fun q => by cases q⟩
  rw [List.filter_eq_nil_iff.mpr (by simp)] at c1
  rw [call_eq pm_20]
  have en : eqD (.lst []) (.lst []) = some true := rfl
  simp only [intsT] at c1 ⊢
  simp [f_len_l, f_len_t, f_len_p, f_len_s, f_abs, f_max2, f_min2, f_sorted, f_all, f_int_i, f_int_b, f_list_l, f_list_t, f_tuple_l, f_tuple_t, f_ptuple, f_dict_p, f_lrange, d_neg, d_not, d_add_i, d_add_l, d_add_t, d_add_p, d_sub, d_mul_i, d_fdiv, d_mod, d_pow, d_eq, d_ne, d_lt_i, d_lt_t, d_le, d_gt, d_ge, d_in, d_nin, d_is_nn, d_is_in, d_is_ln, d_is_tn, d_ix_l, d_ix_t, d_ix_p, d_ix_s, d_sl_l, d_sl_t, d_sl_p, q_var, q_cst, q_glo, q_un, q_bin, q_cmp, q_chn, q_and, q_or, q_ite, q_idx, q_slc, q_tup, q_lst, q_dic, q_call, q_bf, q_isi, q_get, q_app, q_ext, q_popL, q_popA, q_comp, turn_eq, t_not, t_and, t_or, t_cmp, t_chn, t_call, t_bf, t_isi, t_var, c_nil, c_one, o_nil, o_one, l_nil, l_cons, i_val, i_rng1, i_rng2, i_enu, i_zip, s_asg, s_asgs, s_aug, s_exp, s_del, s_retF, s_retT, s_retN, s_ite, s_whl, s_for, s_brk, s_cnt, s_pass, b_nil, b_cons, w_nm, w_un, w_sub, runF, boolA, res, W.toD, W.at, W.sub, isiD, takeA, takeS, takeC, putC, frzA, frzL, takeL, stoL, ST.own, resL, iosOf, fin_c, own, -List.all_map, fz_all, fz_all2, fz_all3, D.isAtom, W.isFz, W.flat, bindT, wipeG, backG, Arg.simple, pureE, pureL, idxA, stepOf, modP, W.setAt, W.setS, setW, popW, isL, isDc, itemsOf, toDs, toDs_fz, toDs_comp, toDs_fun, all_true, eqD_int, eqD_bl, atI_nat, atI_0, atI_1, atI_2, atI_3, ixN4_0, ixN4_1, ixN4_2, ixN4_3, f_20, c1, sl, rr, en, slk_ok]
theorem lows_ok {m : Nat} {es : List (Nat × Nat)} {l : List Int} (w : WebOk m es) (hl : l.length = m) :
    ∃ lo : List Nat, callF Pm fu (n + 2) 26 [.fz (webD m es), .fz (intsT l)] = some (.fz (natsL lo), []) ∧ lo.length ≤ m ∧ ∀ v, v ∈ lo ↔ v < m ∧ ∀ u, Adj es v u → ¬ l.getD u 0 < l.getD v 0 := by
  obtain ⟨rows, _, e, h1, h2, h3⟩ := nears_ok (fu := fu) (n := n) w.rng w.len (by have := w.most; omega)
  have hm := w.most
  have rr := rng_nat (k := m) (by omega)
  have wd : webD m es = .tup [natD m, .tup (es.map hedgeD)] := rfl
  let lowB : Nat → Bool := fun v => decide ((rows.getD v []).filter (fun u => decide (l.getD u 0 < l.getD v 0)) = [])
  have c1 := compQ_map (F := callF Pm fu (n + 1)) (ow := [3]) (t := .nm 3) (oe := false) (cs := .cons (.cmp .eq (.comp [4] (.nm 4) (.val (.idx (.var 2) (.var 3))) (.cons (.cmp .lt (.idx (.var 1) (.var 4)) (.idx (.var 1) (.var 3))) .nil) false (.var 4)) (.lst false .nil)) .nil) (e := .var 3) (g := [some (.fz (webD m es)), some (.fz (intsT l)), some (.fz (.lst (rows.map natsL))), none, none]) (fun i : Nat => D.int (i : Nat)) lowB (fun i => W.fz (natD i)) (xs := List.range m)
    fun v hv => by
      have h : v < m := List.mem_range.mp hv
      have hvr : v < rows.length := by omega
      have gr : rows.getD v [] = rows[v] := by simp [hvr]
      have gx : (rows.map natsL)[v]? = some (natsL rows[v]) := by simp [hvr]
      have hvl : v < l.length := by omega
      have gv : l.getD v 0 = l[v] := by simp [hvl]
      have sl : slk rows[v].length = true := slk_ok (by
        have := h3 _ (List.getElem_mem hvr)
        have := w.len
        omega)
      have c2 := compQ_map (F := callF Pm fu (n + 1)) (ow := [4]) (t := .nm 4) (oe := false) (cs := .cons (.cmp .lt (.idx (.var 1) (.var 4)) (.idx (.var 1) (.var 3))) .nil) (e := .var 4) (g := [some (.fz (webD m es)), some (.fz (intsT l)), some (.fz (.lst (rows.map natsL))), some (.fz (natD v)), none]) natD (fun u => decide (l.getD u 0 < l.getD v 0)) (fun i => W.fz (natD i)) (xs := rows[v])
        fun u hu => ⟨[some (.fz (webD m es)), some (.fz (intsT l)), some (.fz (.lst (rows.map natsL))), some (.fz (natD v)), some (.fz (natD u))], [some (.fz (webD m es)), some (.fz (intsT l)), some (.fz (.lst (rows.map natsL))), some (.fz (natD v)), some (.fz (natD u))], by simp [f_len_l, f_len_t, f_len_p, f_len_s, f_abs, f_max2, f_min2, f_sorted, f_all, f_int_i, f_int_b, f_list_l, f_list_t, f_tuple_l, f_tuple_t, f_ptuple, f_dict_p, f_lrange, d_neg, d_not, d_add_i, d_add_l, d_add_t, d_add_p, d_sub, d_mul_i, d_fdiv, d_mod, d_pow, d_eq, d_ne, d_lt_i, d_lt_t, d_le, d_gt, d_ge, d_in, d_nin, d_is_nn, d_is_in, d_is_ln, d_is_tn, d_ix_l, d_ix_t, d_ix_p, d_ix_s, d_sl_l, d_sl_t, d_sl_p, q_var, q_cst, q_glo, q_un, q_bin, q_cmp, q_chn, q_and, q_or, q_ite, q_idx, q_slc, q_tup, q_lst, q_dic, q_call, q_bf, q_isi, q_get, q_app, q_ext, q_popL, q_popA, q_comp, turn_eq, t_not, t_and, t_or, t_cmp, t_chn, t_call, t_bf, t_isi, t_var, c_nil, c_one, o_nil, o_one, l_nil, l_cons, i_val, i_rng1, i_rng2, i_enu, i_zip, s_asg, s_asgs, s_aug, s_exp, s_del, s_retF, s_retT, s_retN, s_ite, s_whl, s_for, s_brk, s_cnt, s_pass, b_nil, b_cons, w_nm, w_un, w_sub, runF, boolA, res, W.toD, W.at, W.sub, isiD, takeA, takeS, takeC, putC, frzA, frzL, takeL, stoL, ST.own, resL, iosOf, fin_c, own, -List.all_map, fz_all, fz_all2, fz_all3, D.isAtom, W.isFz, W.flat, bindT, wipeG, backG, Arg.simple, pureE, pureL, idxA, stepOf, modP, W.setAt, W.setS, setW, popW, isL, isDc, itemsOf, toDs, toDs_fz, toDs_comp, toDs_fun, all_true, eqD_int, eqD_bl, atI_nat, atI_0, atI_1, atI_2, atI_3, ixN4_0, ixN4_1, ixN4_2, ixN4_3], by
          have ad := (h2 v h u).mp (by rw [gr]; exact hu)
          have k2 : u < l.length := by rw [hl]; exact (w.rng.adj ad).2
          simp [f_len_l, f_len_t, f_len_p, f_len_s, f_abs, f_max2, f_min2, f_sorted, f_all, f_int_i, f_int_b, f_list_l, f_list_t, f_tuple_l, f_tuple_t, f_ptuple, f_dict_p, f_lrange, d_neg, d_not, d_add_i, d_add_l, d_add_t, d_add_p, d_sub, d_mul_i, d_fdiv, d_mod, d_pow, d_eq, d_ne, d_lt_i, d_lt_t, d_le, d_gt, d_ge, d_in, d_nin, d_is_nn, d_is_in, d_is_ln, d_is_tn, d_ix_l, d_ix_t, d_ix_p, d_ix_s, d_sl_l, d_sl_t, d_sl_p, q_var, q_cst, q_glo, q_un, q_bin, q_cmp, q_chn, q_and, q_or, q_ite, q_idx, q_slc, q_tup, q_lst, q_dic, q_call, q_bf, q_isi, q_get, q_app, q_ext, q_popL, q_popA, q_comp, turn_eq, t_not, t_and, t_or, t_cmp, t_chn, t_call, t_bf, t_isi, t_var, c_nil, c_one, o_nil, o_one, l_nil, l_cons, i_val, i_rng1, i_rng2, i_enu, i_zip, s_asg, s_asgs, s_aug, s_exp, s_del, s_retF, s_retT, s_retN, s_ite, s_whl, s_for, s_brk, s_cnt, s_pass, b_nil, b_cons, w_nm, w_un, w_sub, runF, boolA, res, W.toD, W.at, W.sub, isiD, takeA, takeS, takeC, putC, frzA, frzL, takeL, stoL, ST.own, resL, iosOf, fin_c, own, -List.all_map, fz_all, fz_all2, fz_all3, D.isAtom, W.isFz, W.flat, bindT, wipeG, backG, Arg.simple, pureE, pureL, idxA, stepOf, modP, W.setAt, W.setS, setW, popW, isL, isDc, itemsOf, toDs, toDs_fz, toDs_comp, toDs_fun, all_true, eqD_int, eqD_bl, atI_nat, atI_0, atI_1, atI_2, atI_3, ixN4_0, ixN4_1, ixN4_2, ixN4_3, intsT, natD, k2, hvl], by simp [f_len_l, f_len_t, f_len_p, f_len_s, f_abs, f_max2, f_min2, f_sorted, f_all, f_int_i, f_int_b, f_list_l, f_list_t, f_tuple_l, f_tuple_t, f_ptuple, f_dict_p, f_lrange, d_neg, d_not, d_add_i, d_add_l, d_add_t, d_add_p, d_sub, d_mul_i, d_fdiv, d_mod, d_pow, d_eq, d_ne, d_lt_i, d_lt_t, d_le, d_gt, d_ge, d_in, d_nin, d_is_nn, d_is_in, d_is_ln, d_is_tn, d_ix_l, d_ix_t, d_ix_p, d_ix_s, d_sl_l, d_sl_t, d_sl_p, q_var, q_cst, q_glo, q_un, q_bin, q_cmp, q_chn, q_and, q_or, q_ite, q_idx, q_slc, q_tup, q_lst, q_dic, q_call, q_bf, q_isi, q_get, q_app, q_ext, q_popL, q_popA, q_comp, turn_eq, t_not, t_and, t_or, t_cmp, t_chn, t_call, t_bf, t_isi, t_var, c_nil, c_one, o_nil, o_one, l_nil, l_cons, i_val, i_rng1, i_rng2, i_enu, i_zip, s_asg, s_asgs, s_aug, s_exp, s_del, s_retF, s_retT, s_retN, s_ite, s_whl, s_for, s_brk, s_cnt, s_pass, b_nil, b_cons, w_nm, w_un, w_sub, runF, boolA, res, W.toD, W.at, W.sub, isiD, takeA, takeS, takeC, putC, frzA, frzL, takeL, stoL, ST.own, resL, iosOf, fin_c, own, -List.all_map, fz_all, fz_all2, fz_all3, D.isAtom, W.isFz, W.flat, bindT, wipeG, backG, Arg.simple, pureE, pureL, idxA, stepOf, modP, W.setAt, W.setS, setW, popW, isL, isDc, itemsOf, toDs, toDs_fz, toDs_comp, toDs_fun, all_true, eqD_int, eqD_bl, atI_nat, atI_0, atI_1, atI_2, atI_3, ixN4_0, ixN4_1, ixN4_2, ixN4_3], fun _ => ⟨(.pth 4 [], [some (.fz (webD m es)), some (.fz (intsT l)), some (.fz (.lst (rows.map natsL))), some (.fz (natD v)), some (.fz (natD u))]), [some (.fz (webD m es)), some (.fz (intsT l)), some (.fz (.lst (rows.map natsL))), some (.fz (natD v)), some (.fz (natD u))], by simp [f_len_l, f_len_t, f_len_p, f_len_s, f_abs, f_max2, f_min2, f_sorted, f_all, f_int_i, f_int_b, f_list_l, f_list_t, f_tuple_l, f_tuple_t, f_ptuple, f_dict_p, f_lrange, d_neg, d_not, d_add_i, d_add_l, d_add_t, d_add_p, d_sub, d_mul_i, d_fdiv, d_mod, d_pow, d_eq, d_ne, d_lt_i, d_lt_t, d_le, d_gt, d_ge, d_in, d_nin, d_is_nn, d_is_in, d_is_ln, d_is_tn, d_ix_l, d_ix_t, d_ix_p, d_ix_s, d_sl_l, d_sl_t, d_sl_p, q_var, q_cst, q_glo, q_un, q_bin, q_cmp, q_chn, q_and, q_or, q_ite, q_idx, q_slc, q_tup, q_lst, q_dic, q_call, q_bf, q_isi, q_get, q_app, q_ext, q_popL, q_popA, q_comp, turn_eq, t_not, t_and, t_or, t_cmp, t_chn, t_call, t_bf, t_isi, t_var, c_nil, c_one, o_nil, o_one, l_nil, l_cons, i_val, i_rng1, i_rng2, i_enu, i_zip, s_asg, s_asgs, s_aug, s_exp, s_del, s_retF, s_retT, s_retN, s_ite, s_whl, s_for, s_brk, s_cnt, s_pass, b_nil, b_cons, w_nm, w_un, w_sub, runF, boolA, res, W.toD, W.at, W.sub, isiD, takeA, takeS, takeC, putC, frzA, frzL, takeL, stoL, ST.own, resL, iosOf, fin_c, own, -List.all_map, fz_all, fz_all2, fz_all3, D.isAtom, W.isFz, W.flat, bindT, wipeG, backG, Arg.simple, pureE, pureL, idxA, stepOf, modP, W.setAt, W.setS, setW, popW, isL, isDc, itemsOf, toDs, toDs_fz, toDs_comp, toDs_fun, all_true, eqD_int, eqD_bl, atI_nat, atI_0, atI_1, atI_2, atI_3, ixN4_0, ixN4_1, ixN4_2, ixN4_3], by simp [f_len_l, f_len_t, f_len_p, f_len_s, f_abs, f_max2, f_min2, f_sorted, f_all, f_int_i, f_int_b, f_list_l, f_list_t, f_tuple_l, f_tuple_t, f_ptuple, f_dict_p, f_lrange, d_neg, d_not, d_add_i, d_add_l, d_add_t, d_add_p, d_sub, d_mul_i, d_fdiv, d_mod, d_pow, d_eq, d_ne, d_lt_i, d_lt_t, d_le, d_gt, d_ge, d_in, d_nin, d_is_nn, d_is_in, d_is_ln, d_is_tn, d_ix_l, d_ix_t, d_ix_p, d_ix_s, d_sl_l, d_sl_t, d_sl_p, q_var, q_cst, q_glo, q_un, q_bin, q_cmp, q_chn, q_and, q_or, q_ite, q_idx, q_slc, q_tup, q_lst, q_dic, q_call, q_bf, q_isi, q_get, q_app, q_ext, q_popL, q_popA, q_comp, turn_eq, t_not, t_and, t_or, t_cmp, t_chn, t_call, t_bf, t_isi, t_var, c_nil, c_one, o_nil, o_one, l_nil, l_cons, i_val, i_rng1, i_rng2, i_enu, i_zip, s_asg, s_asgs, s_aug, s_exp, s_del, s_retF, s_retT, s_retN, s_ite, s_whl, s_for, s_brk, s_cnt, s_pass, b_nil, b_cons, w_nm, w_un, w_sub, runF, boolA, res, W.toD, W.at, W.sub, isiD, takeA, takeS, takeC, putC, frzA, frzL, takeL, stoL, ST.own, resL, iosOf, fin_c, own, -List.all_map, fz_all, fz_all2, fz_all3, D.isAtom, W.isFz, W.flat, bindT, wipeG, backG, Arg.simple, pureE, pureL, idxA, stepOf, modP, W.setAt, W.setS, setW, popW, isL, isDc, itemsOf, toDs, toDs_fz, toDs_comp, toDs_fun, all_true, eqD_int, eqD_bl, atI_nat, atI_0, atI_1, atI_2, atI_3, ixN4_0, ixN4_1, ixN4_2, ixN4_3], by simp [f_len_l, f_len_t, f_len_p, f_len_s, f_abs, f_max2, f_min2, f_sorted, f_all, f_int_i, f_int_b, f_list_l, f_list_t, f_tuple_l, f_tuple_t, f_ptuple, f_dict_p, f_lrange, d_neg, d_not, d_add_i, d_add_l, d_add_t, d_add_p, d_sub, d_mul_i, d_fdiv, d_mod, d_pow, d_eq, d_ne, d_lt_i, d_lt_t, d_le, d_gt, d_ge, d_in, d_nin, d_is_nn, d_is_in, d_is_ln, d_is_tn, d_ix_l, d_ix_t, d_ix_p, d_ix_s, d_sl_l, d_sl_t, d_sl_p, q_var, q_cst, q_glo, q_un, q_bin, q_cmp, q_chn, q_and, q_or, q_ite, q_idx, q_slc, q_tup, q_lst, q_dic, q_call, q_bf, q_isi, q_get, q_app, q_ext, q_popL, q_popA, q_comp, turn_eq, t_not, t_and, t_or, t_cmp, t_chn, t_call, t_bf, t_isi, t_var, c_nil, c_one, o_nil, o_one, l_nil, l_cons, i_val, i_rng1, i_rng2, i_enu, i_zip, s_asg, s_asgs, s_aug, s_exp, s_del, s_retF, s_retT, s_retN, s_ite, s_whl, s_for, s_brk, s_cnt, s_pass, b_nil, b_cons, w_nm, w_un, w_sub, runF, boolA, res, W.toD, W.at, W.sub, isiD, takeA, takeS, takeC, putC, frzA, frzL, takeL, stoL, ST.own, resL, iosOf, fin_c, own, -List.all_map, fz_all, fz_all2, fz_all3, D.isAtom, W.isFz, W.flat, bindT, wipeG, backG, Arg.simple, pureE, pureL, idxA, stepOf, modP, W.setAt, W.setS, setW, popW, isL, isDc, itemsOf, toDs, toDs_fz, toDs_comp, toDs_fun, all_true, eqD_int, eqD_bl, atI_nat, atI_0, atI_1, atI_2, atI_3, ixN4_0, ixN4_1, ixN4_2, ixN4_3]⟩⟩
      have en := eq_nil (rows[v].filter fun u => decide (l.getD u 0 < l.getD v 0))
      have tt : toDs ((rows[v].filter fun u => decide (l.getD u 0 < l.getD v 0)).map fun i => W.fz (natD i)) = (rows[v].filter fun u => decide (l.getD u 0 < l.getD v 0)).map natD := toDs_map _ _
      refine ⟨[some (.fz (webD m es)), some (.fz (intsT l)), some (.fz (.lst (rows.map natsL))), some (.fz (natD v)), none], [some (.fz (webD m es)), some (.fz (intsT l)), some (.fz (.lst (rows.map natsL))), some (.fz (natD v)), none], by simp [f_len_l, f_len_t, f_len_p, f_len_s, f_abs, f_max2, f_min2, f_sorted, f_all, f_int_i, f_int_b, f_list_l, f_list_t, f_tuple_l, f_tuple_t, f_ptuple, f_dict_p, f_lrange, d_neg, d_not, d_add_i, d_add_l, d_add_t, d_add_p, d_sub, d_mul_i, d_fdiv, d_mod, d_pow, d_eq, d_ne, d_lt_i, d_lt_t, d_le, d_gt, d_ge, d_in, d_nin, d_is_nn, d_is_in, d_is_ln, d_is_tn, d_ix_l, d_ix_t, d_ix_p, d_ix_s, d_sl_l, d_sl_t, d_sl_p, q_var, q_cst, q_glo, q_un, q_bin, q_cmp, q_chn, q_and, q_or, q_ite, q_idx, q_slc, q_tup, q_lst, q_dic, q_call, q_bf, q_isi, q_get, q_app, q_ext, q_popL, q_popA, q_comp, turn_eq, t_not, t_and, t_or, t_cmp, t_chn, t_call, t_bf, t_isi, t_var, c_nil, c_one, o_nil, o_one, l_nil, l_cons, i_val, i_rng1, i_rng2, i_enu, i_zip, s_asg, s_asgs, s_aug, s_exp, s_del, s_retF, s_retT, s_retN, s_ite, s_whl, s_for, s_brk, s_cnt, s_pass, b_nil, b_cons, w_nm, w_un, w_sub, runF, boolA, res, W.toD, W.at, W.sub, isiD, takeA, takeS, takeC, putC, frzA, frzL, takeL, stoL, ST.own, resL, iosOf, fin_c, own, -List.all_map, fz_all, fz_all2, fz_all3, D.isAtom, W.isFz, W.flat, bindT, wipeG, backG, Arg.simple, pureE, pureL, idxA, stepOf, modP, W.setAt, W.setS, setW, popW, isL, isDc, itemsOf, toDs, toDs_fz, toDs_comp, toDs_fun, all_true, eqD_int, eqD_bl, atI_nat, atI_0, atI_1, atI_2, atI_3, ixN4_0, ixN4_1, ixN4_2, ixN4_3, natD], ?_, by simp [f_len_l, f_len_t, f_len_p, f_len_s, f_abs, f_max2, f_min2, f_sorted, f_all, f_int_i, f_int_b, f_list_l, f_list_t, f_tuple_l, f_tuple_t, f_ptuple, f_dict_p, f_lrange, d_neg, d_not, d_add_i, d_add_l, d_add_t, d_add_p, d_sub, d_mul_i, d_fdiv, d_mod, d_pow, d_eq, d_ne, d_lt_i, d_lt_t, d_le, d_gt, d_ge, d_in, d_nin, d_is_nn, d_is_in, d_is_ln, d_is_tn, d_ix_l, d_ix_t, d_ix_p, d_ix_s, d_sl_l, d_sl_t, d_sl_p, q_var, q_cst, q_glo, q_un, q_bin, q_cmp, q_chn, q_and, q_or, q_ite, q_idx, q_slc, q_tup, q_lst, q_dic, q_call, q_bf, q_isi, q_get, q_app, q_ext, q_popL, q_popA, q_comp, turn_eq, t_not, t_and, t_or, t_cmp, t_chn, t_call, t_bf, t_isi, t_var, c_nil, c_one, o_nil, o_one, l_nil, l_cons, i_val, i_rng1, i_rng2, i_enu, i_zip, s_asg, s_asgs, s_aug, s_exp, s_del, s_retF, s_retT, s_retN, s_ite, s_whl, s_for, s_brk, s_cnt, s_pass, b_nil, b_cons, w_nm, w_un, w_sub, runF, boolA, res, W.toD, W.at, W.sub, isiD, takeA, takeS, takeC, putC, frzA, frzL, takeL, stoL, ST.own, resL, iosOf, fin_c, own, -List.all_map, fz_all, fz_all2, fz_all3, D.isAtom, W.isFz, W.flat, bindT, wipeG, backG, Arg.simple, pureE, pureL, idxA, stepOf, modP, W.setAt, W.setS, setW, popW, isL, isDc, itemsOf, toDs, toDs_fz, toDs_comp, toDs_fun, all_true, eqD_int, eqD_bl, atI_nat, atI_0, atI_1, atI_2, atI_3, ixN4_0, ixN4_1, ixN4_2, ixN4_3], fun _ => ⟨(.pth 3 [], [some (.fz (webD m es)), some (.fz (intsT l)), some (.fz (.lst (rows.map natsL))), some (.fz (natD v)), none]), [some (.fz (webD m es)), some (.fz (intsT l)), some (.fz (.lst (rows.map natsL))), some (.fz (natD v)), none], by simp [f_len_l, f_len_t, f_len_p, f_len_s, f_abs, f_max2, f_min2, f_sorted, f_all, f_int_i, f_int_b, f_list_l, f_list_t, f_tuple_l, f_tuple_t, f_ptuple, f_dict_p, f_lrange, d_neg, d_not, d_add_i, d_add_l, d_add_t, d_add_p, d_sub, d_mul_i, d_fdiv, d_mod, d_pow, d_eq, d_ne, d_lt_i, d_lt_t, d_le, d_gt, d_ge, d_in, d_nin, d_is_nn, d_is_in, d_is_ln, d_is_tn, d_ix_l, d_ix_t, d_ix_p, d_ix_s, d_sl_l, d_sl_t, d_sl_p, q_var, q_cst, q_glo, q_un, q_bin, q_cmp, q_chn, q_and, q_or, q_ite, q_idx, q_slc, q_tup, q_lst, q_dic, q_call, q_bf, q_isi, q_get, q_app, q_ext, q_popL, q_popA, q_comp, turn_eq, t_not, t_and, t_or, t_cmp, t_chn, t_call, t_bf, t_isi, t_var, c_nil, c_one, o_nil, o_one, l_nil, l_cons, i_val, i_rng1, i_rng2, i_enu, i_zip, s_asg, s_asgs, s_aug, s_exp, s_del, s_retF, s_retT, s_retN, s_ite, s_whl, s_for, s_brk, s_cnt, s_pass, b_nil, b_cons, w_nm, w_un, w_sub, runF, boolA, res, W.toD, W.at, W.sub, isiD, takeA, takeS, takeC, putC, frzA, frzL, takeL, stoL, ST.own, resL, iosOf, fin_c, own, -List.all_map, fz_all, fz_all2, fz_all3, D.isAtom, W.isFz, W.flat, bindT, wipeG, backG, Arg.simple, pureE, pureL, idxA, stepOf, modP, W.setAt, W.setS, setW, popW, isL, isDc, itemsOf, toDs, toDs_fz, toDs_comp, toDs_fun, all_true, eqD_int, eqD_bl, atI_nat, atI_0, atI_1, atI_2, atI_3, ixN4_0, ixN4_1, ixN4_2, ixN4_3], by simp [f_len_l, f_len_t, f_len_p, f_len_s, f_abs, f_max2, f_min2, f_sorted, f_all, f_int_i, f_int_b, f_list_l, f_list_t, f_tuple_l, f_tuple_t, f_ptuple, f_dict_p, f_lrange, d_neg, d_not, d_add_i, d_add_l, d_add_t, d_add_p, d_sub, d_mul_i, d_fdiv, d_mod, d_pow, d_eq, d_ne, d_lt_i, d_lt_t, d_le, d_gt, d_ge, d_in, d_nin, d_is_nn, d_is_in, d_is_ln, d_is_tn, d_ix_l, d_ix_t, d_ix_p, d_ix_s, d_sl_l, d_sl_t, d_sl_p, q_var, q_cst, q_glo, q_un, q_bin, q_cmp, q_chn, q_and, q_or, q_ite, q_idx, q_slc, q_tup, q_lst, q_dic, q_call, q_bf, q_isi, q_get, q_app, q_ext, q_popL, q_popA, q_comp, turn_eq, t_not, t_and, t_or, t_cmp, t_chn, t_call, t_bf, t_isi, t_var, c_nil, c_one, o_nil, o_one, l_nil, l_cons, i_val, i_rng1, i_rng2, i_enu, i_zip, s_asg, s_asgs, s_aug, s_exp, s_del, s_retF, s_retT, s_retN, s_ite, s_whl, s_for, s_brk, s_cnt, s_pass, b_nil, b_cons, w_nm, w_un, w_sub, runF, boolA, res, W.toD, W.at, W.sub, isiD, takeA, takeS, takeC, putC, frzA, frzL, takeL, stoL, ST.own, resL, iosOf, fin_c, own, -List.all_map, fz_all, fz_all2, fz_all3, D.isAtom, W.isFz, W.flat, bindT, wipeG, backG, Arg.simple, pureE, pureL, idxA, stepOf, modP, W.setAt, W.setS, setW, popW, isL, isDc, itemsOf, toDs, toDs_fz, toDs_comp, toDs_fun, all_true, eqD_int, eqD_bl, atI_nat, atI_0, atI_1, atI_2, atI_3, ixN4_0, ixN4_1, ixN4_2, ixN4_3], by simp [f_len_l, f_len_t, f_len_p, f_len_s, f_abs, f_max2, f_min2, f_sorted, f_all, f_int_i, f_int_b, f_list_l, f_list_t, f_tuple_l, f_tuple_t, f_ptuple, f_dict_p, f_lrange, d_neg, d_not, d_add_i, d_add_l, d_add_t, d_add_p, d_sub, d_mul_i, d_fdiv, d_mod, d_pow, d_eq, d_ne, d_lt_i, d_lt_t, d_le, d_gt, d_ge, d_in, d_nin, d_is_nn, d_is_in, d_is_ln, d_is_tn, d_ix_l, d_ix_t, d_ix_p, d_ix_s, d_sl_l, d_sl_t, d_sl_p, q_var, q_cst, q_glo, q_un, q_bin, q_cmp, q_chn, q_and, q_or, q_ite, q_idx, q_slc, q_tup, q_lst, q_dic, q_call, q_bf, q_isi, q_get, q_app, q_ext, q_popL, q_popA, q_comp, turn_eq, t_not, t_and, t_or, t_cmp, t_chn, t_call, t_bf, t_isi, t_var, c_nil, c_one, o_nil, o_one, l_nil, l_cons, i_val, i_rng1, i_rng2, i_enu, i_zip, s_asg, s_asgs, s_aug, s_exp, s_del, s_retF, s_retT, s_retN, s_ite, s_whl, s_for, s_brk, s_cnt, s_pass, b_nil, b_cons, w_nm, w_un, w_sub, runF, boolA, res, W.toD, W.at, W.sub, isiD, takeA, takeS, takeC, putC, frzA, frzL, takeL, stoL, ST.own, resL, iosOf, fin_c, own, -List.all_map, fz_all, fz_all2, fz_all3, D.isAtom, W.isFz, W.flat, bindT, wipeG, backG, Arg.simple, pureE, pureL, idxA, stepOf, modP, W.setAt, W.setS, setW, popW, isL, isDc, itemsOf, toDs, toDs_fz, toDs_comp, toDs_fun, all_true, eqD_int, eqD_bl, atI_nat, atI_0, atI_1, atI_2, atI_3, ixN4_0, ixN4_1, ixN4_2, ixN4_3]⟩⟩
      have ev : evI (callF Pm fu (n + 1)) (.val (.idx (.var 2) (.var 3))) [some (.fz (webD m es)), some (.fz (intsT l)), some (.fz (.lst (rows.map natsL))), some (.fz (natD v)), none] = some (rows[v].map natD, [some (.fz (webD m es)), some (.fz (intsT l)), some (.fz (.lst (rows.map natsL))), some (.fz (natD v)), none]) := by
        simp [f_len_l, f_len_t, f_len_p, f_len_s, f_abs, f_max2, f_min2, f_sorted, f_all, f_int_i, f_int_b, f_list_l, f_list_t, f_tuple_l, f_tuple_t, f_ptuple, f_dict_p, f_lrange, d_neg, d_not, d_add_i, d_add_l, d_add_t, d_add_p, d_sub, d_mul_i, d_fdiv, d_mod, d_pow, d_eq, d_ne, d_lt_i, d_lt_t, d_le, d_gt, d_ge, d_in, d_nin, d_is_nn, d_is_in, d_is_ln, d_is_tn, d_ix_l, d_ix_t, d_ix_p, d_ix_s, d_sl_l, d_sl_t, d_sl_p, q_var, q_cst, q_glo, q_un, q_bin, q_cmp, q_chn, q_and, q_or, q_ite, q_idx, q_slc, q_tup, q_lst, q_dic, q_call, q_bf, q_isi, q_get, q_app, q_ext, q_popL, q_popA, q_comp, turn_eq, t_not, t_and, t_or, t_cmp, t_chn, t_call, t_bf, t_isi, t_var, c_nil, c_one, o_nil, o_one, l_nil, l_cons, i_val, i_rng1, i_rng2, i_enu, i_zip, s_asg, s_asgs, s_aug, s_exp, s_del, s_retF, s_retT, s_retN, s_ite, s_whl, s_for, s_brk, s_cnt, s_pass, b_nil, b_cons, w_nm, w_un, w_sub, runF, boolA, res, W.toD, W.at, W.sub, isiD, takeA, takeS, takeC, putC, frzA, frzL, takeL, stoL, ST.own, resL, iosOf, fin_c, own, -List.all_map, fz_all, fz_all2, fz_all3, D.isAtom, W.isFz, W.flat, bindT, wipeG, backG, Arg.simple, pureE, pureL, idxA, stepOf, modP, W.setAt, W.setS, setW, popW, isL, isDc, itemsOf, toDs, toDs_fz, toDs_comp, toDs_fun, all_true, eqD_int, eqD_bl, atI_nat, atI_0, atI_1, atI_2, atI_3, ixN4_0, ixN4_1, ixN4_2, ixN4_3, natD, gx, natsL]
      have ec : evE (callF Pm fu (n + 1)) (.comp [4] (.nm 4) (.val (.idx (.var 2) (.var 3))) (.cons (.cmp .lt (.idx (.var 1) (.var 4)) (.idx (.var 1) (.var 3))) .nil) false (.var 4)) [some (.fz (webD m es)), some (.fz (intsT l)), some (.fz (.lst (rows.map natsL))), some (.fz (natD v)), none] = some (.tmp (.lst ((rows[v].filter fun u => decide (l.getD u 0 < l.getD v 0)).map fun i => W.fz (natD i))), [some (.fz (webD m es)), some (.fz (intsT l)), some (.fz (.lst (rows.map natsL))), some (.fz (natD v)), none]) := by
        rw [q_comp, ev, Option.bind_some]
        have : slk (rows[v].map natD).length = true := by rw [List.length_map]; exact sl
        rw [if_pos this]
        have w0 : wipeG [some (.fz (webD m es)), some (.fz (intsT l)), some (.fz (.lst (rows.map natsL))), some (.fz (natD v)), none] [4] = [some (.fz (webD m es)), some (.fz (intsT l)), some (.fz (.lst (rows.map natsL))), some (.fz (natD v)), none] := rfl
        rw [w0, c2]
        rfl
      rw [c_one, t_cmp, ec, Option.bind_some]
      simp only [lowB, gr]
      simp only [natsL] at en
      generalize (rows[v].filter fun u => decide (l.getD u 0 < l.getD v 0)) = q at en tt ⊢
      simp [f_len_l, f_len_t, f_len_p, f_len_s, f_abs, f_max2, f_min2, f_sorted, f_all, f_int_i, f_int_b, f_list_l, f_list_t, f_tuple_l, f_tuple_t, f_ptuple, f_dict_p, f_lrange, d_neg, d_not, d_add_i, d_add_l, d_add_t, d_add_p, d_sub, d_mul_i, d_fdiv, d_mod, d_pow, d_eq, d_ne, d_lt_i, d_lt_t, d_le, d_gt, d_ge, d_in, d_nin, d_is_nn, d_is_in, d_is_ln, d_is_tn, d_ix_l, d_ix_t, d_ix_p, d_ix_s, d_sl_l, d_sl_t, d_sl_p, q_var, q_cst, q_glo, q_un, q_bin, q_cmp, q_chn, q_and, q_or, q_ite, q_idx, q_slc, q_tup, q_lst, q_dic, q_call, q_bf, q_isi, q_get, q_app, q_ext, q_popL, q_popA, q_comp, turn_eq, t_not, t_and, t_or, t_cmp, t_chn, t_call, t_bf, t_isi, t_var, c_nil, c_one, o_nil, o_one, l_nil, l_cons, i_val, i_rng1, i_rng2, i_enu, i_zip, s_asg, s_asgs, s_aug, s_exp, s_del, s_retF, s_retT, s_retN, s_ite, s_whl, s_for, s_brk, s_cnt, s_pass, b_nil, b_cons, w_nm, w_un, w_sub, runF, boolA, res, W.toD, W.at, W.sub, isiD, takeA, takeS, takeC, putC, frzA, frzL, takeL, stoL, ST.own, resL, iosOf, fin_c, own, -List.all_map, fz_all, fz_all2, fz_all3, D.isAtom, W.isFz, W.flat, bindT, wipeG, backG, Arg.simple, pureE, pureL, idxA, stepOf, modP, W.setAt, W.setS, setW, popW, isL, isDc, itemsOf, toDs, toDs_fz, toDs_comp, toDs_fun, all_true, eqD_int, eqD_bl, atI_nat, atI_0, atI_1, atI_2, atI_3, ixN4_0, ixN4_1, ixN4_2, ixN4_3, slk_ok, tt, en]
  refine ⟨(List.range m).filter lowB, ?_, Nat.le_trans (List.length_filter_le _ _) (by simp), fun v => ?_⟩
  · obtain ⟨rows', e', _⟩ := nears_ok (fu := fu) (n := n) w.rng w.len (by omega)
    have sl : slk m = true := slk_ok (by omega)
    have tt : toDs (((List.range m).filter lowB).map fun i => W.fz (natD i)) = ((List.range m).filter lowB).map natD := toDs_map _ _
    rw [call_eq pm_26]
    generalize (List.range m).filter lowB = q at c1 tt ⊢
    rw [wd] at c1 e ⊢
    simp only [natD, natsL] at c1 e tt ⊢
    simp [f_len_l, f_len_t, f_len_p, f_len_s, f_abs, f_max2, f_min2, f_sorted, f_all, f_int_i, f_int_b, f_list_l, f_list_t, f_tuple_l, f_tuple_t, f_ptuple, f_dict_p, f_lrange, d_neg, d_not, d_add_i, d_add_l, d_add_t, d_add_p, d_sub, d_mul_i, d_fdiv, d_mod, d_pow, d_eq, d_ne, d_lt_i, d_lt_t, d_le, d_gt, d_ge, d_in, d_nin, d_is_nn, d_is_in, d_is_ln, d_is_tn, d_ix_l, d_ix_t, d_ix_p, d_ix_s, d_sl_l, d_sl_t, d_sl_p, q_var, q_cst, q_glo, q_un, q_bin, q_cmp, q_chn, q_and, q_or, q_ite, q_idx, q_slc, q_tup, q_lst, q_dic, q_call, q_bf, q_isi, q_get, q_app, q_ext, q_popL, q_popA, q_comp, turn_eq, t_not, t_and, t_or, t_cmp, t_chn, t_call, t_bf, t_isi, t_var, c_nil, c_one, o_nil, o_one, l_nil, l_cons, i_val, i_rng1, i_rng2, i_enu, i_zip, s_asg, s_asgs, s_aug, s_exp, s_del, s_retF, s_retT, s_retN, s_ite, s_whl, s_for, s_brk, s_cnt, s_pass, b_nil, b_cons, w_nm, w_un, w_sub, runF, boolA, res, W.toD, W.at, W.sub, isiD, takeA, takeS, takeC, putC, frzA, frzL, takeL, stoL, ST.own, resL, iosOf, fin_c, own, -List.all_map, fz_all, fz_all2, fz_all3, D.isAtom, W.isFz, W.flat, bindT, wipeG, backG, Arg.simple, pureE, pureL, idxA, stepOf, modP, W.setAt, W.setS, setW, popW, isL, isDc, itemsOf, toDs, toDs_fz, toDs_comp, toDs_fun, all_true, eqD_int, eqD_bl, atI_nat, atI_0, atI_1, atI_2, atI_3, ixN4_0, ixN4_1, ixN4_2, ixN4_3, f_26, e, rr, sl, c1, tt]
  · rw [List.mem_filter, List.mem_range]
    constructor
    · rintro ⟨hv, q⟩
      refine ⟨hv, fun u a c => ?_⟩
      have q := of_decide_eq_true q
      have := List.filter_eq_nil_iff.mp q u ((h2 v hv u).mpr a)
      simp only [decide_eq_true_eq] at this
      exact this c
    · rintro ⟨hv, q⟩
      refine ⟨hv, decide_eq_true (List.filter_eq_nil_iff.mpr fun u hu => ?_)⟩
      have := q u ((h2 v hv u).mp hu)
      simpa using this
theorem set_cut : ∀ (l : List Int) (v : Nat) (h : v < l.length) (x : Int), l.take v ++ [x] ++ l.drop (v + 1) = l.set v x
  | a :: l, 0, _, x => rfl
  | a :: l, v + 1, h, x => by
    have := set_cut l v (by simpa using h) x
    show a :: (l.take v ++ [x] ++ l.drop (v + 1)) = a :: l.set v x
    rw [this]
theorem changed_ok {l : List Int} {v : Nat} (by_ : Int) (hv : v < l.length) (hl : l.length ≤ 10000) : callF Pm fu (n + 1) 28 [.fz (intsT l), .fz (natD v), .fz (.int by_)] = some (.fz (intsT (l.set v (l.getD v 0 + by_))), []) := by
  have k1 := cut_to (l.map .int) v
  have k2 : cutD (l.map .int) (some ((v : Int) + 1)) none = (l.map D.int).drop (v + 1) := cut_from (l.map .int) (v + 1)
  have s1 : slk (min v l.length + 1) = true := slk_ok (by omega)
  have s2 : slk (min v l.length + 1 + (l.length - (v + 1))) = true := slk_ok (by omega)
  have gv : l.getD v 0 = l[v] := by simp [hv]
  have e := set_cut l v hv (l[v] + by_)
  have e2 : (l.map D.int).take v ++ ([D.int (l[v] + by_)] ++ (l.map D.int).drop (v + 1)) = (l.set v (l[v] + by_)).map .int := by
    rw [← e]
    simp
  rw [gv, call_eq pm_28]
  simp only [intsT, natD]
  simp [f_len_l, f_len_t, f_len_p, f_len_s, f_abs, f_max2, f_min2, f_sorted, f_all, f_int_i, f_int_b, f_list_l, f_list_t, f_tuple_l, f_tuple_t, f_ptuple, f_dict_p, f_lrange, d_neg, d_not, d_add_i, d_add_l, d_add_t, d_add_p, d_sub, d_mul_i, d_fdiv, d_mod, d_pow, d_eq, d_ne, d_lt_i, d_lt_t, d_le, d_gt, d_ge, d_in, d_nin, d_is_nn, d_is_in, d_is_ln, d_is_tn, d_ix_l, d_ix_t, d_ix_p, d_ix_s, d_sl_l, d_sl_t, d_sl_p, q_var, q_cst, q_glo, q_un, q_bin, q_cmp, q_chn, q_and, q_or, q_ite, q_idx, q_slc, q_tup, q_lst, q_dic, q_call, q_bf, q_isi, q_get, q_app, q_ext, q_popL, q_popA, q_comp, turn_eq, t_not, t_and, t_or, t_cmp, t_chn, t_call, t_bf, t_isi, t_var, c_nil, c_one, o_nil, o_one, l_nil, l_cons, i_val, i_rng1, i_rng2, i_enu, i_zip, s_asg, s_asgs, s_aug, s_exp, s_del, s_retF, s_retT, s_retN, s_ite, s_whl, s_for, s_brk, s_cnt, s_pass, b_nil, b_cons, w_nm, w_un, w_sub, runF, boolA, res, W.toD, W.at, W.sub, isiD, takeA, takeS, takeC, putC, frzA, frzL, takeL, stoL, ST.own, resL, iosOf, fin_c, own, -List.all_map, fz_all, fz_all2, fz_all3, D.isAtom, W.isFz, W.flat, bindT, wipeG, backG, Arg.simple, pureE, pureL, idxA, stepOf, modP, W.setAt, W.setS, setW, popW, isL, isDc, itemsOf, toDs, toDs_fz, toDs_comp, toDs_fun, all_true, eqD_int, eqD_bl, atI_nat, atI_0, atI_1, atI_2, atI_3, ixN4_0, ixN4_1, ixN4_2, ixN4_3, f_28, slk_ok, k1, k2, s1, s2, hv]
  simpa using e2
theorem natsT_ints (l : List Nat) : D.tup (l.map natD) = intsT (l.map fun (k : Nat) => (k : Int)) := by
  unfold intsT
  rw [List.map_map]
  rfl
end K08
end PF
end

section
set_option Elab.async false
set_option linter.all false
set_option maxRecDepth 100000
set_option maxHeartbeats 2000000
namespace PF
open PySem L2 K08
/-! ### rest: raising what is low, plain -/
theorem held_src {m es st r} {p : Nat × Int} (w : WebOk m es) (h : IsHeld m es st r) (hp : p ∈ st) (hpm : p.1 < m) {d : List Nat} (hd : IsDist m es p.1 d) {v : Nat} (hv : v < m) : r.getD v 0 ≤ p.2 + (d.getD v 0 : Nat) := (h.2 v hv).le p hp d hd
/-- one step away from what is held -/
theorem held_step {m es st r} (w : WebOk m es) (h : IsHeld m es st r) {u v : Nat} (a : Adj es u v) : r.getD v 0 ≤ r.getD u 0 + 1 := by
  obtain ⟨hu, hv⟩ := w.rng.adj a
  obtain ⟨p, hp, d, hd, e⟩ := (h.2 u hu).eq
  have := (h.2 v hv).le p hp d hd
  have := hd.step u v a
  omega
/-- a place that no stop holds itself is held from beside -/
theorem held_near {m es st r} (w : WebOk m es) (h : IsHeld m es st r) {v : Nat} (hv : v < m) : (∃ p ∈ st, p.1 = v ∧ r.getD v 0 = p.2) ∨ ∃ u, Adj es u v ∧ r.getD v 0 = r.getD u 0 + 1 := by
  obtain ⟨p, hp, d, hd, e⟩ := (h.2 v hv).eq
  by_cases c : v = p.1
  · left
    refine ⟨p, hp, c.symm, ?_⟩
    rw [e, c, hd.src]
    simp
  · right
    obtain ⟨u, a, q⟩ := hd.back v hv c
    refine ⟨u, a, ?_⟩
    have h1 := (h.2 u (w.rng.adj a).1).le p hp d hd
    have h2 := held_step w h a
    omega
def Low (m : Nat) (es : List (Nat × Nat)) (l : List Int) (v : Nat) : Prop := v < m ∧ ∀ u, Adj es v u → ¬ l.getD u 0 < l.getD v 0
/-- what stands ahead of the end -/
structure Below (m : Nat) (es : List (Nat × Nat)) (st : List (Nat × Int)) (r l : List Int) : Prop where
  len : l.length = m
  step : ∀ u v, Adj es u v → l.getD u 0 - l.getD v 0 = 1 ∨ l.getD v 0 - l.getD u 0 = 1
  le : ∀ v, v < m → l.getD v 0 ≤ r.getD v 0
  par : ∀ p ∈ st, (p.2 - l.getD p.1 0) % 2 = 0
theorem getD_set {l : List Int} {v w : Nat} {x : Int} (hv : v < l.length) : (l.set v x).getD w 0 = if w = v then x else l.getD w 0 := by
  by_cases e : w = v
  · subst e
    simp [hv]
  · simp [List.getElem?_set_ne (fun q => e q.symm), e]
/-- a low place below its stop is raised -/
theorem Below.raise {m es st r l} (w : WebOk m es) (h : IsHeld m es st r) (b : Below m es st r l) {v : Nat} (lo : Low m es l v) (hst : ∀ p ∈ st, p.1 = v → l.getD v 0 < p.2) : Below m es st r (l.set v (l.getD v 0 + 2)) := by
  have vl : v < l.length := by rw [b.len]; exact lo.1
  have up : ∀ u, Adj es v u → l.getD u 0 = l.getD v 0 + 1 := fun u a => by
    have := lo.2 u a
    have := b.step v u a
    omega
  refine ⟨by simp [b.len], fun x y a => ?_, fun y hy => ?_, fun p hp => ?_⟩
  · rw [getD_set vl, getD_set vl]
    by_cases e1 : x = v
    · subst e1
      have ne : y ≠ x := fun q => w.rng.ne a q.symm
      rw [if_pos rfl, if_neg ne]
      have := up y a
      omega
    · by_cases e2 : y = v
      · subst e2
        rw [if_neg e1, if_pos rfl]
        have := up x a.symm
        omega
      · rw [if_neg e1, if_neg e2]
        exact b.step x y a
  · rw [getD_set vl]
    by_cases e : y = v
    · subst e
      rw [if_pos rfl]
      rcases held_near w h hy with ⟨p, hp, e1, e2⟩ | ⟨u, a, e2⟩
      · have k1 := hst p hp e1
        have k2 := b.par p hp
        rw [e1] at k2
        omega
      · have k1 := up u a.symm
        have k2 := b.le u (w.rng.adj a).1
        omega
    · rw [if_neg e]
      exact b.le y hy
  · rw [getD_set vl]
    have := b.par p hp
    by_cases e : p.1 = v
    · rw [if_pos e]
      rw [e] at this
      omega
    · rw [if_neg e]
      exact this
/-- from every place down to a low one -/
theorem down {m es st r l} (w : WebOk m es) (b : Below m es st r l) : ∀ (k : Nat) (v : Nat), v < m → (∀ x, x < m → l.getD v 0 - l.getD x 0 ≤ k) → ∃ u j, Low m es l u ∧ l.getD v 0 = l.getD u 0 + (j : Nat) ∧ ∀ d, IsDist m es u d → d.getD v 0 ≤ j := by
  intro k
  induction k with
  | zero =>
    intro v hv hb
    refine ⟨v, 0, ⟨hv, fun u a c => ?_⟩, by simp, fun d hd => by rw [hd.src]; exact Nat.le_refl _⟩
    have := hb u (w.rng.adj a).2
    omega
  | succ k ih =>
    intro v hv hb
    by_cases c : Low m es l v
    · exact ⟨v, 0, c, by simp, fun d hd => by rw [hd.src]; exact Nat.le_refl _⟩
    · have : ∃ u, Adj es v u ∧ l.getD u 0 < l.getD v 0 := by
        apply Classical.byContradiction
        intro q
        exact c ⟨hv, fun u a k => q ⟨u, a, k⟩⟩
      obtain ⟨x, a, lt⟩ := this
      have e := b.step v x a
      obtain ⟨u, j, lo, e1, e2⟩ := ih x (w.rng.adj a).2 (fun y hy => by have := hb y hy; omega)
      refine ⟨u, j + 1, lo, by omega, fun d hd => ?_⟩
      have := e2 d hd
      have := hd.step x v a.symm
      omega
/-- at the end -/
theorem Below.done {m es st r l} (w : WebOk m es) (h : IsHeld m es st r) (b : Below m es st r l) (dist : ∀ s, s < m → ∃ d, IsDist m es s d) (fin : ∀ v, Low m es l v → ∃ p ∈ st, p.1 = v ∧ p.2 ≤ l.getD v 0) : l = r := by
  have low : ∃ K : Nat, ∀ v, v < m → ∀ x, x < m → l.getD v 0 - l.getD x 0 ≤ K := by
    refine ⟨((l.map Int.natAbs).sum + (l.map Int.natAbs).sum), fun v hv x hx => ?_⟩
    have bd : ∀ (l : List Int) (i : Nat), i < l.length → (l.getD i 0).natAbs ≤ (l.map Int.natAbs).sum := by
      intro l
      induction l with
      | nil => intro i hi; cases hi
      | cons a l ih =>
        intro i hi
        cases i with
        | zero => simp
        | succ i =>
          have := ih i (by simpa using hi)
          simp at this ⊢
          omega
    have b1 := bd l v (by rw [b.len]; exact hv)
    have b2 := bd l x (by rw [b.len]; exact hx)
    omega
  obtain ⟨K, hK⟩ := low
  apply List.ext_getElem (b.len.trans h.1.symm)
  intro v h1 h2
  have hv : v < m := by rw [← b.len]; exact h1
  obtain ⟨u, j, lo, e1, e2⟩ := down w b K v hv (hK v hv)
  obtain ⟨p, hp, q1, q2⟩ := fin u lo
  obtain ⟨d, hd⟩ := dist u lo.1
  have k1 := e2 d hd
  have k2 := (h.2 v hv).le p hp d (by rw [q1]; exact hd)
  have k3 := b.le v hv
  have g1 : l.getD v 0 = l[v] := by simp [h1]
  have g2 : r.getD v 0 = r[v] := by simp [h2]
  omega
end PF
end

section
set_option Elab.async false
set_option linter.all false
set_option maxRecDepth 100000
set_option maxHeartbeats 2000000
namespace PF
open PySem L2 K08
def entry (p : Nat × Int) : Key × D := (.inl (p.1 : Int), .int p.2)
theorem pairs_stops : ∀ st : List (Nat × Int), pairsOf (st.map stopD) = some (st.map entry)
  | [] => rfl
  | a :: l => by
    simp [pairsOf, pairOf, stopD, natD, keyOf, pairs_stops l, entry]
theorem put_new {kvs : List (Key × D)} {k : Key} {d : D} (h : ∀ q ∈ kvs, q.1 ≠ k) : putK k d kvs = kvs ++ [(k, d)] := by
  unfold putK
  rw [if_neg]
  intro c
  obtain ⟨q, hq, e⟩ := List.any_eq_true.mp c
  exact h q hq (of_decide_eq_true e)
theorem merge_new : ∀ (st acc : List (Nat × Int)), (acc ++ st).Pairwise (fun p q => p.1 < q.1) → mergeD (acc.map entry) (st.map entry) = (acc ++ st).map entry
  | [], acc, _ => by simp [mergeD]
  | p :: st, acc, h => by
    have h' : ((acc ++ [p]) ++ st).Pairwise (fun p q => p.1 < q.1) := by
      rw [List.append_assoc]; exact h
    have e := merge_new st (acc ++ [p]) h'
    have pn : putK (entry p).1 (entry p).2 (acc.map entry) = (acc ++ [p]).map entry := by
      rw [put_new, List.map_append]
      · rfl
      · intro q hq c
        obtain ⟨x, hx, rfl⟩ := List.mem_map.mp hq
        have := (List.pairwise_append.mp h).2.2 x hx p List.mem_cons_self
        have c : (Sum.inl (x.1 : Int) : Key) = Sum.inl (p.1 : Int) := c
        have := Sum.inl.inj c
        omega
    show List.foldl _ (putK (entry p).1 (entry p).2 (acc.map entry)) (st.map entry) = _
    rw [pn]
    have e2 : List.foldl (fun acc p => putK p.1 p.2 acc) ((acc ++ [p]).map entry) (st.map entry) = mergeD ((acc ++ [p]).map entry) (st.map entry) := rfl
    rw [e2, e, List.append_assoc]
    rfl
/-- a stop's height, or 999 -/
def hi (st : List (Nat × Int)) (v : Nat) : Int := match st.find? (fun p => p.1 == v) with
  | some p => p.2
  | none => 999
theorem look_stops (v : Nat) : ∀ st : List (Nat × Int), lookK (.inl (v : Int)) (st.map entry) = (st.find? fun p => p.1 == v).map fun p => D.int p.2
  | [] => rfl
  | p :: st => by
    show (if (Sum.inl (p.1 : Int) : Key) = Sum.inl (v : Int) then some (D.int p.2) else lookK (.inl (v : Int)) (st.map entry)) = _
    rw [look_stops v st, List.find?_cons]
    by_cases c : p.1 = v
    · subst c
      simp
    · have c1 : ¬ (Sum.inl (p.1 : Int) : Key) = Sum.inl (v : Int) := fun q => c (by have := Sum.inl.inj q; omega)
      have c2 : (p.1 == v) = false := by simpa using c
      rw [if_neg c1, c2]
theorem hi_le {st : List (Nat × Int)} {v : Nat} {x : Int} (hx : x < hi st v) (srt : st.Pairwise fun p q => p.1 < q.1) : ∀ p ∈ st, p.1 = v → x < p.2 := by
  induction st with
  | nil => intro p hp; cases hp
  | cons a st ih =>
    obtain ⟨h1, h2⟩ := List.pairwise_cons.mp srt
    intro p hp e
    unfold hi at hx
    rw [List.find?_cons] at hx
    by_cases c : a.1 = v
    · have : (a.1 == v) = true := by simpa using c
      rw [this] at hx
      rcases List.mem_cons.mp hp with rfl | hp
      · exact hx
      · have := h1 p hp
        omega
    · have c2 : (a.1 == v) = false := by simpa using c
      rw [c2] at hx
      rcases List.mem_cons.mp hp with rfl | hp
      · exact absurd e c
      · exact ih hx h2 p hp e
theorem hi_ge {st : List (Nat × Int)} {v : Nat} {x : Int} (hx : ¬ x < hi st v) (h9 : x < 999) : ∃ p ∈ st, p.1 = v ∧ p.2 ≤ x := by
  unfold hi at hx
  split at hx
  · rename_i p q
    have h1 := List.find?_some q
    have h2 := List.mem_of_find?_eq_some q
    exact ⟨p, h2, by simpa using h1, by omega⟩
  · exact absurd h9 hx
end PF
end

section
set_option Elab.async false
set_option linter.all false
set_option maxRecDepth 100000
set_option maxHeartbeats 2000000
namespace PF
open PySem L2 K08
def pot : List Int → List Int → Nat
  | a :: r, b :: l => (a - b).toNat + pot r l
  | _, _ => 0
theorem pot_set : ∀ (r l : List Int) (v : Nat), v < l.length → v < r.length → l.getD v 0 + 2 ≤ r.getD v 0 → pot r (l.set v (l.getD v 0 + 2)) + 2 = pot r l
  | [], _, _, _, h, _ => by cases h
  | _, [], _, h, _, _ => by cases h
  | a :: r, b :: l, 0, _, _, h => by
    have h : b + 2 ≤ a := h
    show (a - (b + 2)).toNat + pot r l + 2 = (a - b).toNat + pot r l
    omega
  | a :: r, b :: l, v + 1, h1, h2, h => by
    have e := pot_set r l v (by simpa using h1) (by simpa using h2) (by simpa using h)
    show (a - b).toNat + pot r (l.set v (l.getD v 0 + 2)) + 2 = (a - b).toNat + pot r l
    omega
namespace K08
variable {fu n : Nat}
def restB : IB := .cons (.asg (.nm 6 false) (.comp [7] (.nm 7) (.val (.call 26 [.val, .val] (.cons (.var 0) (.cons (.var 4) .nil)))) (.cons (.cmp .lt (.idx (.var 4) (.var 7)) (.get (.var 3) (.var 7) (.cst (.int 999)))) .nil) false (.var 7))) <|
    .cons (.ite (.cmp .eq (.var 6) (.lst false .nil)) (.cons (.ret false (.var 4)) <|
      .nil) .nil) <|
    .cons (.asg (.nm 4 false) (.call 28 [.val, .val, .val] (.cons (.var 4) (.cons (.idx (.var 6) (.cst (.int 0))) (.cons (.cst (.int 2)) .nil))))) <|
    .nil
def restG (m : Nat) (es : List (Nat × Nat)) (first stops : W) (st : List (Nat × Int)) (l : List Int) (x y : Option W) : Gam := [some (.fz (webD m es)), some first, some stops, some (.fz (.dK (st.map entry))), some (.fz (intsT l)), x, y, none]
/-- what may be raised -/
theorem rest_some {m : Nat} {es : List (Nat × Nat)} {first stops : W} {st : List (Nat × Int)} {l : List Int} {x y : Option W} (w : WebOk m es) (hl : l.length = m) :
    ∃ so : List Nat, runS (callF Pm fu (n + 2)) fu (.asg (.nm 6 false) (.comp [7] (.nm 7) (.val (.call 26 [.val, .val] (.cons (.var 0) (.cons (.var 4) .nil)))) (.cons (.cmp .lt (.idx (.var 4) (.var 7)) (.get (.var 3) (.var 7) (.cst (.int 999)))) .nil) false (.var 7))) (restG m es first stops st l x y) = some (.nx (restG m es first stops st l x (some (.fz (natsL so))))) ∧ ∀ v, v ∈ so ↔ Low m es l v ∧ l.getD v 0 < hi st v := by
  obtain ⟨lo, e, hlen, hlo⟩ := lows_ok (fu := fu) (n := n) (l := l) w hl
  have c1 := compQ_map (F := callF Pm fu (n + 2)) (ow := [7]) (t := .nm 7) (oe := false) (cs := .cons (.cmp .lt (.idx (.var 4) (.var 7)) (.get (.var 3) (.var 7) (.cst (.int 999)))) .nil) (e := .var 7) (g := restG m es first stops st l x y) natD (fun v => decide (l.getD v 0 < hi st v)) (fun i => W.fz (natD i)) (xs := lo)
    fun v hv => by
      have hvm := ((hlo v).mp hv).1
      have hvl : v < l.length := by omega
      have gv : l.getD v 0 = l[v] := by simp [hvl]
      have lk := look_stops v st
      let g1 : Gam := [some (.fz (webD m es)), some first, some stops, some (.fz (.dK (st.map entry))), some (.fz (intsT l)), x, y, some (.fz (natD v))]
      refine ⟨g1, g1, by simp [f_len_l, f_len_t, f_len_p, f_len_s, f_abs, f_max2, f_min2, f_sorted, f_all, f_int_i, f_int_b, f_list_l, f_list_t, f_tuple_l, f_tuple_t, f_ptuple, f_dict_p, f_lrange, d_neg, d_not, d_add_i, d_add_l, d_add_t, d_add_p, d_sub, d_mul_i, d_fdiv, d_mod, d_pow, d_eq, d_ne, d_lt_i, d_lt_t, d_le, d_gt, d_ge, d_in, d_nin, d_is_nn, d_is_in, d_is_ln, d_is_tn, d_ix_l, d_ix_t, d_ix_p, d_ix_s, d_sl_l, d_sl_t, d_sl_p, q_var, q_cst, q_glo, q_un, q_bin, q_cmp, q_chn, q_and, q_or, q_ite, q_idx, q_slc, q_tup, q_lst, q_dic, q_call, q_bf, q_isi, q_get, q_app, q_ext, q_popL, q_popA, q_comp, turn_eq, t_not, t_and, t_or, t_cmp, t_chn, t_call, t_bf, t_isi, t_var, c_nil, c_one, o_nil, o_one, l_nil, l_cons, i_val, i_rng1, i_rng2, i_enu, i_zip, s_asg, s_asgs, s_aug, s_exp, s_del, s_retF, s_retT, s_retN, s_ite, s_whl, s_for, s_brk, s_cnt, s_pass, b_nil, b_cons, w_nm, w_un, w_sub, runF, boolA, res, W.toD, W.at, W.sub, isiD, takeA, takeS, takeC, putC, frzA, frzL, takeL, stoL, ST.own, resL, iosOf, fin_c, own, -List.all_map, fz_all, fz_all2, fz_all3, D.isAtom, W.isFz, W.flat, bindT, wipeG, backG, Arg.simple, pureE, pureL, idxA, stepOf, modP, W.setAt, W.setS, setW, popW, isL, isDc, itemsOf, toDs, toDs_fz, toDs_comp, toDs_fun, all_true, eqD_int, eqD_bl, atI_nat, atI_0, atI_1, atI_2, atI_3, ixN4_0, ixN4_1, ixN4_2, ixN4_3, restG, g1], ?_, by simp [f_len_l, f_len_t, f_len_p, f_len_s, f_abs, f_max2, f_min2, f_sorted, f_all, f_int_i, f_int_b, f_list_l, f_list_t, f_tuple_l, f_tuple_t, f_ptuple, f_dict_p, f_lrange, d_neg, d_not, d_add_i, d_add_l, d_add_t, d_add_p, d_sub, d_mul_i, d_fdiv, d_mod, d_pow, d_eq, d_ne, d_lt_i, d_lt_t, d_le, d_gt, d_ge, d_in, d_nin, d_is_nn, d_is_in, d_is_ln, d_is_tn, d_ix_l, d_ix_t, d_ix_p, d_ix_s, d_sl_l, d_sl_t, d_sl_p, q_var, q_cst, q_glo, q_un, q_bin, q_cmp, q_chn, q_and, q_or, q_ite, q_idx, q_slc, q_tup, q_lst, q_dic, q_call, q_bf, q_isi, q_get, q_app, q_ext, q_popL, q_popA, q_comp, turn_eq, t_not, t_and, t_or, t_cmp, t_chn, t_call, t_bf, t_isi, t_var, c_nil, c_one, o_nil, o_one, l_nil, l_cons, i_val, i_rng1, i_rng2, i_enu, i_zip, s_asg, s_asgs, s_aug, s_exp, s_del, s_retF, s_retT, s_retN, s_ite, s_whl, s_for, s_brk, s_cnt, s_pass, b_nil, b_cons, w_nm, w_un, w_sub, runF, boolA, res, W.toD, W.at, W.sub, isiD, takeA, takeS, takeC, putC, frzA, frzL, takeL, stoL, ST.own, resL, iosOf, fin_c, own, -List.all_map, fz_all, fz_all2, fz_all3, D.isAtom, W.isFz, W.flat, bindT, wipeG, backG, Arg.simple, pureE, pureL, idxA, stepOf, modP, W.setAt, W.setS, setW, popW, isL, isDc, itemsOf, toDs, toDs_fz, toDs_comp, toDs_fun, all_true, eqD_int, eqD_bl, atI_nat, atI_0, atI_1, atI_2, atI_3, ixN4_0, ixN4_1, ixN4_2, ixN4_3, restG, g1], fun _ => ⟨(.pth 7 [], g1), g1, by simp [f_len_l, f_len_t, f_len_p, f_len_s, f_abs, f_max2, f_min2, f_sorted, f_all, f_int_i, f_int_b, f_list_l, f_list_t, f_tuple_l, f_tuple_t, f_ptuple, f_dict_p, f_lrange, d_neg, d_not, d_add_i, d_add_l, d_add_t, d_add_p, d_sub, d_mul_i, d_fdiv, d_mod, d_pow, d_eq, d_ne, d_lt_i, d_lt_t, d_le, d_gt, d_ge, d_in, d_nin, d_is_nn, d_is_in, d_is_ln, d_is_tn, d_ix_l, d_ix_t, d_ix_p, d_ix_s, d_sl_l, d_sl_t, d_sl_p, q_var, q_cst, q_glo, q_un, q_bin, q_cmp, q_chn, q_and, q_or, q_ite, q_idx, q_slc, q_tup, q_lst, q_dic, q_call, q_bf, q_isi, q_get, q_app, q_ext, q_popL, q_popA, q_comp, turn_eq, t_not, t_and, t_or, t_cmp, t_chn, t_call, t_bf, t_isi, t_var, c_nil, c_one, o_nil, o_one, l_nil, l_cons, i_val, i_rng1, i_rng2, i_enu, i_zip, s_asg, s_asgs, s_aug, s_exp, s_del, s_retF, s_retT, s_retN, s_ite, s_whl, s_for, s_brk, s_cnt, s_pass, b_nil, b_cons, w_nm, w_un, w_sub, runF, boolA, res, W.toD, W.at, W.sub, isiD, takeA, takeS, takeC, putC, frzA, frzL, takeL, stoL, ST.own, resL, iosOf, fin_c, own, -List.all_map, fz_all, fz_all2, fz_all3, D.isAtom, W.isFz, W.flat, bindT, wipeG, backG, Arg.simple, pureE, pureL, idxA, stepOf, modP, W.setAt, W.setS, setW, popW, isL, isDc, itemsOf, toDs, toDs_fz, toDs_comp, toDs_fun, all_true, eqD_int, eqD_bl, atI_nat, atI_0, atI_1, atI_2, atI_3, ixN4_0, ixN4_1, ixN4_2, ixN4_3, g1], by simp [f_len_l, f_len_t, f_len_p, f_len_s, f_abs, f_max2, f_min2, f_sorted, f_all, f_int_i, f_int_b, f_list_l, f_list_t, f_tuple_l, f_tuple_t, f_ptuple, f_dict_p, f_lrange, d_neg, d_not, d_add_i, d_add_l, d_add_t, d_add_p, d_sub, d_mul_i, d_fdiv, d_mod, d_pow, d_eq, d_ne, d_lt_i, d_lt_t, d_le, d_gt, d_ge, d_in, d_nin, d_is_nn, d_is_in, d_is_ln, d_is_tn, d_ix_l, d_ix_t, d_ix_p, d_ix_s, d_sl_l, d_sl_t, d_sl_p, q_var, q_cst, q_glo, q_un, q_bin, q_cmp, q_chn, q_and, q_or, q_ite, q_idx, q_slc, q_tup, q_lst, q_dic, q_call, q_bf, q_isi, q_get, q_app, q_ext, q_popL, q_popA, q_comp, turn_eq, t_not, t_and, t_or, t_cmp, t_chn, t_call, t_bf, t_isi, t_var, c_nil, c_one, o_nil, o_one, l_nil, l_cons, i_val, i_rng1, i_rng2, i_enu, i_zip, s_asg, s_asgs, s_aug, s_exp, s_del, s_retF, s_retT, s_retN, s_ite, s_whl, s_for, s_brk, s_cnt, s_pass, b_nil, b_cons, w_nm, w_un, w_sub, runF, boolA, res, W.toD, W.at, W.sub, isiD, takeA, takeS, takeC, putC, frzA, frzL, takeL, stoL, ST.own, resL, iosOf, fin_c, own, -List.all_map, fz_all, fz_all2, fz_all3, D.isAtom, W.isFz, W.flat, bindT, wipeG, backG, Arg.simple, pureE, pureL, idxA, stepOf, modP, W.setAt, W.setS, setW, popW, isL, isDc, itemsOf, toDs, toDs_fz, toDs_comp, toDs_fun, all_true, eqD_int, eqD_bl, atI_nat, atI_0, atI_1, atI_2, atI_3, ixN4_0, ixN4_1, ixN4_2, ixN4_3, g1], by simp [f_len_l, f_len_t, f_len_p, f_len_s, f_abs, f_max2, f_min2, f_sorted, f_all, f_int_i, f_int_b, f_list_l, f_list_t, f_tuple_l, f_tuple_t, f_ptuple, f_dict_p, f_lrange, d_neg, d_not, d_add_i, d_add_l, d_add_t, d_add_p, d_sub, d_mul_i, d_fdiv, d_mod, d_pow, d_eq, d_ne, d_lt_i, d_lt_t, d_le, d_gt, d_ge, d_in, d_nin, d_is_nn, d_is_in, d_is_ln, d_is_tn, d_ix_l, d_ix_t, d_ix_p, d_ix_s, d_sl_l, d_sl_t, d_sl_p, q_var, q_cst, q_glo, q_un, q_bin, q_cmp, q_chn, q_and, q_or, q_ite, q_idx, q_slc, q_tup, q_lst, q_dic, q_call, q_bf, q_isi, q_get, q_app, q_ext, q_popL, q_popA, q_comp, turn_eq, t_not, t_and, t_or, t_cmp, t_chn, t_call, t_bf, t_isi, t_var, c_nil, c_one, o_nil, o_one, l_nil, l_cons, i_val, i_rng1, i_rng2, i_enu, i_zip, s_asg, s_asgs, s_aug, s_exp, s_del, s_retF, s_retT, s_retN, s_ite, s_whl, s_for, s_brk, s_cnt, s_pass, b_nil, b_cons, w_nm, w_un, w_sub, runF, boolA, res, W.toD, W.at, W.sub, isiD, takeA, takeS, takeC, putC, frzA, frzL, takeL, stoL, ST.own, resL, iosOf, fin_c, own, -List.all_map, fz_all, fz_all2, fz_all3, D.isAtom, W.isFz, W.flat, bindT, wipeG, backG, Arg.simple, pureE, pureL, idxA, stepOf, modP, W.setAt, W.setS, setW, popW, isL, isDc, itemsOf, toDs, toDs_fz, toDs_comp, toDs_fun, all_true, eqD_int, eqD_bl, atI_nat, atI_0, atI_1, atI_2, atI_3, ixN4_0, ixN4_1, ixN4_2, ixN4_3, restG, g1]⟩⟩
      have hg : getD? (.dK (st.map entry)) (.int (v : Nat)) = some ((st.find? fun p => p.1 == v).map fun p => D.int p.2) := by
        show some (lookK (.inl (v : Int)) (st.map entry)) = _
        rw [lk]
      unfold hi
      cases q : st.find? (fun p => p.1 == v) with
      | none =>
        rw [q] at hg
        simp [f_len_l, f_len_t, f_len_p, f_len_s, f_abs, f_max2, f_min2, f_sorted, f_all, f_int_i, f_int_b, f_list_l, f_list_t, f_tuple_l, f_tuple_t, f_ptuple, f_dict_p, f_lrange, d_neg, d_not, d_add_i, d_add_l, d_add_t, d_add_p, d_sub, d_mul_i, d_fdiv, d_mod, d_pow, d_eq, d_ne, d_lt_i, d_lt_t, d_le, d_gt, d_ge, d_in, d_nin, d_is_nn, d_is_in, d_is_ln, d_is_tn, d_ix_l, d_ix_t, d_ix_p, d_ix_s, d_sl_l, d_sl_t, d_sl_p, q_var, q_cst, q_glo, q_un, q_bin, q_cmp, q_chn, q_and, q_or, q_ite, q_idx, q_slc, q_tup, q_lst, q_dic, q_call, q_bf, q_isi, q_get, q_app, q_ext, q_popL, q_popA, q_comp, turn_eq, t_not, t_and, t_or, t_cmp, t_chn, t_call, t_bf, t_isi, t_var, c_nil, c_one, o_nil, o_one, l_nil, l_cons, i_val, i_rng1, i_rng2, i_enu, i_zip, s_asg, s_asgs, s_aug, s_exp, s_del, s_retF, s_retT, s_retN, s_ite, s_whl, s_for, s_brk, s_cnt, s_pass, b_nil, b_cons, w_nm, w_un, w_sub, runF, boolA, res, W.toD, W.at, W.sub, isiD, takeA, takeS, takeC, putC, frzA, frzL, takeL, stoL, ST.own, resL, iosOf, fin_c, own, -List.all_map, fz_all, fz_all2, fz_all3, D.isAtom, W.isFz, W.flat, bindT, wipeG, backG, Arg.simple, pureE, pureL, idxA, stepOf, modP, W.setAt, W.setS, setW, popW, isL, isDc, itemsOf, toDs, toDs_fz, toDs_comp, toDs_fun, all_true, eqD_int, eqD_bl, atI_nat, atI_0, atI_1, atI_2, atI_3, ixN4_0, ixN4_1, ixN4_2, ixN4_3, g1, natD, intsT, hvl, hg]
      | some p =>
        rw [q] at hg
        simp [f_len_l, f_len_t, f_len_p, f_len_s, f_abs, f_max2, f_min2, f_sorted, f_all, f_int_i, f_int_b, f_list_l, f_list_t, f_tuple_l, f_tuple_t, f_ptuple, f_dict_p, f_lrange, d_neg, d_not, d_add_i, d_add_l, d_add_t, d_add_p, d_sub, d_mul_i, d_fdiv, d_mod, d_pow, d_eq, d_ne, d_lt_i, d_lt_t, d_le, d_gt, d_ge, d_in, d_nin, d_is_nn, d_is_in, d_is_ln, d_is_tn, d_ix_l, d_ix_t, d_ix_p, d_ix_s, d_sl_l, d_sl_t, d_sl_p, q_var, q_cst, q_glo, q_un, q_bin, q_cmp, q_chn, q_and, q_or, q_ite, q_idx, q_slc, q_tup, q_lst, q_dic, q_call, q_bf, q_isi, q_get, q_app, q_ext, q_popL, q_popA, q_comp, turn_eq, t_not, t_and, t_or, t_cmp, t_chn, t_call, t_bf, t_isi, t_var, c_nil, c_one, o_nil, o_one, l_nil, l_cons, i_val, i_rng1, i_rng2, i_enu, i_zip, s_asg, s_asgs, s_aug, s_exp, s_del, s_retF, s_retT, s_retN, s_ite, s_whl, s_for, s_brk, s_cnt, s_pass, b_nil, b_cons, w_nm, w_un, w_sub, runF, boolA, res, W.toD, W.at, W.sub, isiD, takeA, takeS, takeC, putC, frzA, frzL, takeL, stoL, ST.own, resL, iosOf, fin_c, own, -List.all_map, fz_all, fz_all2, fz_all3, D.isAtom, W.isFz, W.flat, bindT, wipeG, backG, Arg.simple, pureE, pureL, idxA, stepOf, modP, W.setAt, W.setS, setW, popW, isL, isDc, itemsOf, toDs, toDs_fz, toDs_comp, toDs_fun, all_true, eqD_int, eqD_bl, atI_nat, atI_0, atI_1, atI_2, atI_3, ixN4_0, ixN4_1, ixN4_2, ixN4_3, g1, natD, intsT, hvl, hg]
  have sl : slk lo.length = true := slk_ok (by have := w.most; omega)
  refine ⟨lo.filter fun v => decide (l.getD v 0 < hi st v), ?_, fun v => ?_⟩
  · have tt : toDs ((lo.filter fun v => decide (l.getD v 0 < hi st v)).map fun i => W.fz (natD i)) = (lo.filter fun v => decide (l.getD v 0 < hi st v)).map natD := toDs_map _ _
    generalize (lo.filter fun v => decide (l.getD v 0 < hi st v)) = q at c1 tt ⊢
    simp only [restG, natsL] at c1 e tt ⊢
    simp [f_len_l, f_len_t, f_len_p, f_len_s, f_abs, f_max2, f_min2, f_sorted, f_all, f_int_i, f_int_b, f_list_l, f_list_t, f_tuple_l, f_tuple_t, f_ptuple, f_dict_p, f_lrange, d_neg, d_not, d_add_i, d_add_l, d_add_t, d_add_p, d_sub, d_mul_i, d_fdiv, d_mod, d_pow, d_eq, d_ne, d_lt_i, d_lt_t, d_le, d_gt, d_ge, d_in, d_nin, d_is_nn, d_is_in, d_is_ln, d_is_tn, d_ix_l, d_ix_t, d_ix_p, d_ix_s, d_sl_l, d_sl_t, d_sl_p, q_var, q_cst, q_glo, q_un, q_bin, q_cmp, q_chn, q_and, q_or, q_ite, q_idx, q_slc, q_tup, q_lst, q_dic, q_call, q_bf, q_isi, q_get, q_app, q_ext, q_popL, q_popA, q_comp, turn_eq, t_not, t_and, t_or, t_cmp, t_chn, t_call, t_bf, t_isi, t_var, c_nil, c_one, o_nil, o_one, l_nil, l_cons, i_val, i_rng1, i_rng2, i_enu, i_zip, s_asg, s_asgs, s_aug, s_exp, s_del, s_retF, s_retT, s_retN, s_ite, s_whl, s_for, s_brk, s_cnt, s_pass, b_nil, b_cons, w_nm, w_un, w_sub, runF, boolA, res, W.toD, W.at, W.sub, isiD, takeA, takeS, takeC, putC, frzA, frzL, takeL, stoL, ST.own, resL, iosOf, fin_c, own, -List.all_map, fz_all, fz_all2, fz_all3, D.isAtom, W.isFz, W.flat, bindT, wipeG, backG, Arg.simple, pureE, pureL, idxA, stepOf, modP, W.setAt, W.setS, setW, popW, isL, isDc, itemsOf, toDs, toDs_fz, toDs_comp, toDs_fun, all_true, eqD_int, eqD_bl, atI_nat, atI_0, atI_1, atI_2, atI_3, ixN4_0, ixN4_1, ixN4_2, ixN4_3, e, c1, sl, tt]
  · rw [List.mem_filter, hlo v, decide_eq_true_eq]
    rfl
end K08
end PF
end

section
set_option Elab.async false
set_option linter.all false
set_option maxRecDepth 100000
set_option maxHeartbeats 2000000
namespace PF
open PySem L2 K08
namespace K08
variable {fu n : Nat}
theorem toDK_fz : ∀ l : List (Key × D), toDK (l.map fun p => (p.1, W.fz p.2)) = l
  | [] => rfl
  | d :: l => by simp [toDK, W.toD, toDK_fz l]
theorem rest_ok {m : Nat} {es : List (Nat × Nat)} {st : List (Nat × Int)} {l0 r : List Int} (w : WebOk m es) (hfu : m < fu) (hr : IsHeld m es st r) (hb : Below m es st r l0) (srt : st.Pairwise fun p q => p.1 < q.1) (hst : st.length ≤ 1000) (h9 : ∀ v, v < m → r.getD v 0 < 999) (hp : pot r l0 < 4000) :
    callF Pm fu (n + 3) 32 [.fz (webD m es), .fz (intsT l0), .fz (stopsD st)] = some (.fz (intsT r), []) := by
  have hm := w.most
  obtain ⟨o, e, q⟩ := forL_ret (bind := fun d g => bindT (.nm 5) d g) (body := fun g => runB (callF Pm fu (n + 2)) fu restB g) (ds := (List.range 2000).map fun i => D.int (i : Nat)) (g := restG m es (.fz (intsT l0)) (.fz (stopsD st)) st l0 none none)
    (fun i g => ∃ (l : List Int) (x y : Option W), g = restG m es (.fz (intsT l0)) (.fz (stopsD st)) st l x y ∧ Below m es st r l ∧ pot r l + 2 * i < 4000)
    (fun o => ∃ a b c g, o = .ret (.fz (intsT r)) (a :: b :: c :: g))
    ⟨l0, none, none, rfl, hb, by omega⟩
    (by
      rintro i d g hd ⟨l, x, y, rfl, b, hpot⟩
      obtain ⟨so, e1, hso⟩ := rest_some (fu := fu) (n := n) (first := .fz (intsT l0)) (stops := .fz (stopsD st)) (st := st) (l := l) (x := some (.fz d)) (y := y) w b.len
      refine ⟨restG m es (.fz (intsT l0)) (.fz (stopsD st)) st l (some (.fz d)) y, by simp [f_len_l, f_len_t, f_len_p, f_len_s, f_abs, f_max2, f_min2, f_sorted, f_all, f_int_i, f_int_b, f_list_l, f_list_t, f_tuple_l, f_tuple_t, f_ptuple, f_dict_p, f_lrange, d_neg, d_not, d_add_i, d_add_l, d_add_t, d_add_p, d_sub, d_mul_i, d_fdiv, d_mod, d_pow, d_eq, d_ne, d_lt_i, d_lt_t, d_le, d_gt, d_ge, d_in, d_nin, d_is_nn, d_is_in, d_is_ln, d_is_tn, d_ix_l, d_ix_t, d_ix_p, d_ix_s, d_sl_l, d_sl_t, d_sl_p, q_var, q_cst, q_glo, q_un, q_bin, q_cmp, q_chn, q_and, q_or, q_ite, q_idx, q_slc, q_tup, q_lst, q_dic, q_call, q_bf, q_isi, q_get, q_app, q_ext, q_popL, q_popA, q_comp, turn_eq, t_not, t_and, t_or, t_cmp, t_chn, t_call, t_bf, t_isi, t_var, c_nil, c_one, o_nil, o_one, l_nil, l_cons, i_val, i_rng1, i_rng2, i_enu, i_zip, s_asg, s_asgs, s_aug, s_exp, s_del, s_retF, s_retT, s_retN, s_ite, s_whl, s_for, s_brk, s_cnt, s_pass, b_nil, b_cons, w_nm, w_un, w_sub, runF, boolA, res, W.toD, W.at, W.sub, isiD, takeA, takeS, takeC, putC, frzA, frzL, takeL, stoL, ST.own, resL, iosOf, fin_c, own, -List.all_map, fz_all, fz_all2, fz_all3, D.isAtom, W.isFz, W.flat, bindT, wipeG, backG, Arg.simple, pureE, pureL, idxA, stepOf, modP, W.setAt, W.setS, setW, popW, isL, isDc, itemsOf, toDs, toDs_fz, toDs_comp, toDs_fun, all_true, eqD_int, eqD_bl, atI_nat, atI_0, atI_1, atI_2, atI_3, ixN4_0, ixN4_1, ixN4_2, ixN4_3, restG], ?_⟩
      unfold restB
      rw [b_cons, e1, Option.bind_some]
      have en := eq_nil so
      cases so with
      | nil =>
        right
        have : l = r := by
          refine b.done w hr (fun s hs => ?_) (fun v lo => ?_)
          · obtain ⟨d, _, h⟩ := reach_ok (fu := fu) (n := n) w.rng w.conn w.len (by omega) hs hfu
            exact ⟨d, h⟩
          · have nv : ¬ l.getD v 0 < hi st v := fun c => by
              have := (hso v).mpr ⟨lo, c⟩
              cases this
            have := b.le v lo.1
            have := h9 v lo.1
            exact hi_ge nv (by omega)
        subst this
        refine ⟨.fz (intsT l), restG m es (.fz (intsT l0)) (.fz (stopsD st)) st l (some (.fz d)) (some (.fz (natsL []))), ?_, _, _, _, _, rfl⟩
        have en : eqD (.lst []) (.lst []) = some true := rfl
        simp only [natsL, restG]
        simp [f_len_l, f_len_t, f_len_p, f_len_s, f_abs, f_max2, f_min2, f_sorted, f_all, f_int_i, f_int_b, f_list_l, f_list_t, f_tuple_l, f_tuple_t, f_ptuple, f_dict_p, f_lrange, d_neg, d_not, d_add_i, d_add_l, d_add_t, d_add_p, d_sub, d_mul_i, d_fdiv, d_mod, d_pow, d_eq, d_ne, d_lt_i, d_lt_t, d_le, d_gt, d_ge, d_in, d_nin, d_is_nn, d_is_in, d_is_ln, d_is_tn, d_ix_l, d_ix_t, d_ix_p, d_ix_s, d_sl_l, d_sl_t, d_sl_p, q_var, q_cst, q_glo, q_un, q_bin, q_cmp, q_chn, q_and, q_or, q_ite, q_idx, q_slc, q_tup, q_lst, q_dic, q_call, q_bf, q_isi, q_get, q_app, q_ext, q_popL, q_popA, q_comp, turn_eq, t_not, t_and, t_or, t_cmp, t_chn, t_call, t_bf, t_isi, t_var, c_nil, c_one, o_nil, o_one, l_nil, l_cons, i_val, i_rng1, i_rng2, i_enu, i_zip, s_asg, s_asgs, s_aug, s_exp, s_del, s_retF, s_retT, s_retN, s_ite, s_whl, s_for, s_brk, s_cnt, s_pass, b_nil, b_cons, w_nm, w_un, w_sub, runF, boolA, res, W.toD, W.at, W.sub, isiD, takeA, takeS, takeC, putC, frzA, frzL, takeL, stoL, ST.own, resL, iosOf, fin_c, own, -List.all_map, fz_all, fz_all2, fz_all3, D.isAtom, W.isFz, W.flat, bindT, wipeG, backG, Arg.simple, pureE, pureL, idxA, stepOf, modP, W.setAt, W.setS, setW, popW, isL, isDc, itemsOf, toDs, toDs_fz, toDs_comp, toDs_fun, all_true, eqD_int, eqD_bl, atI_nat, atI_0, atI_1, atI_2, atI_3, ixN4_0, ixN4_1, ixN4_2, ixN4_3, en, slk_ok]
      | cons v so =>
        left
        obtain ⟨lo, hlt⟩ := (hso v).mp List.mem_cons_self
        have b' := b.raise w hr lo (hi_le hlt srt)
        have vl : v < l.length := by rw [b.len]; exact lo.1
        have k := b'.le v lo.1
        rw [getD_set vl, if_pos rfl] at k
        have pp := pot_set r l v vl (by rw [hr.1]; exact lo.1) k
        have ec := changed_ok (fu := fu) (n := n + 1) (l := l) (v := v) 2 vl (by have := b.len; omega)
        have en : eqD (.lst (natD v :: so.map natD)) (.lst []) = some false := by
          have := en
          simp only [natsL, List.map_cons] at this
          rw [this]
          simp
        refine ⟨restG m es (.fz (intsT l0)) (.fz (stopsD st)) st (l.set v (l.getD v 0 + 2)) (some (.fz d)) (some (.fz (natsL (v :: so)))), ?_, _, _, _, rfl, b', by omega⟩
        simp only [natsL, restG, List.map_cons]
        simp [f_len_l, f_len_t, f_len_p, f_len_s, f_abs, f_max2, f_min2, f_sorted, f_all, f_int_i, f_int_b, f_list_l, f_list_t, f_tuple_l, f_tuple_t, f_ptuple, f_dict_p, f_lrange, d_neg, d_not, d_add_i, d_add_l, d_add_t, d_add_p, d_sub, d_mul_i, d_fdiv, d_mod, d_pow, d_eq, d_ne, d_lt_i, d_lt_t, d_le, d_gt, d_ge, d_in, d_nin, d_is_nn, d_is_in, d_is_ln, d_is_tn, d_ix_l, d_ix_t, d_ix_p, d_ix_s, d_sl_l, d_sl_t, d_sl_p, q_var, q_cst, q_glo, q_un, q_bin, q_cmp, q_chn, q_and, q_or, q_ite, q_idx, q_slc, q_tup, q_lst, q_dic, q_call, q_bf, q_isi, q_get, q_app, q_ext, q_popL, q_popA, q_comp, turn_eq, t_not, t_and, t_or, t_cmp, t_chn, t_call, t_bf, t_isi, t_var, c_nil, c_one, o_nil, o_one, l_nil, l_cons, i_val, i_rng1, i_rng2, i_enu, i_zip, s_asg, s_asgs, s_aug, s_exp, s_del, s_retF, s_retT, s_retN, s_ite, s_whl, s_for, s_brk, s_cnt, s_pass, b_nil, b_cons, w_nm, w_un, w_sub, runF, boolA, res, W.toD, W.at, W.sub, isiD, takeA, takeS, takeC, putC, frzA, frzL, takeL, stoL, ST.own, resL, iosOf, fin_c, own, -List.all_map, fz_all, fz_all2, fz_all3, D.isAtom, W.isFz, W.flat, bindT, wipeG, backG, Arg.simple, pureE, pureL, idxA, stepOf, modP, W.setAt, W.setS, setW, popW, isL, isDc, itemsOf, toDs, toDs_fz, toDs_comp, toDs_fun, all_true, eqD_int, eqD_bl, atI_nat, atI_0, atI_1, atI_2, atI_3, ixN4_0, ixN4_1, ixN4_2, ixN4_3, en, slk_ok, ec])
    (by
      rintro g ⟨l, x, y, rfl, b, hpot⟩
      rw [List.length_map, List.length_range] at hpot
      omega)
  obtain ⟨a, b, c, g, rfl⟩ := q
  have ep := pairs_stops st
  have em := merge_new st [] (by simpa using srt)
  have em : mergeD [] (st.map entry) = st.map entry := by simpa using em
  have l1 : (st.map stopD).length ≤ 1000 := by rw [List.length_map]; exact hst
  have rr := rng_nat (k := 2000) (by omega)
  have rr : rngOk 2000 = true := rr
  have e' : forQ (callF Pm fu (n + 2)) fu (.nm 5) restB ((List.range 2000).map fun i => D.int (i : Nat)) (restG m es (.fz (intsT l0)) (.fz (stopsD st)) st l0 none none) = _ := e
  have tk : toDK (st.map ((fun p : Key × D => (p.1, W.fz p.2)) ∘ entry)) = st.map entry := by
    rw [← List.map_map]
    exact toDK_fz _
  have b0 : iosOf [.val, .val, .val] (a :: b :: c :: g) = some [] := rfl
  rw [call_eq pm_32]
  unfold stopsD at e' ⊢
  simp only [restG, restB] at e' ⊢
  generalize hk : (List.range 2000).map (fun i => D.int (i : Nat)) = rg at e'
  have hk2 : (List.range (2000 : Int).toNat).map (fun i => D.int (i : Nat)) = rg := hk
  simp [f_len_l, f_len_t, f_len_p, f_len_s, f_abs, f_max2, f_min2, f_sorted, f_all, f_int_i, f_int_b, f_list_l, f_list_t, f_tuple_l, f_tuple_t, f_ptuple, f_dict_p, f_lrange, d_neg, d_not, d_add_i, d_add_l, d_add_t, d_add_p, d_sub, d_mul_i, d_fdiv, d_mod, d_pow, d_eq, d_ne, d_lt_i, d_lt_t, d_le, d_gt, d_ge, d_in, d_nin, d_is_nn, d_is_in, d_is_ln, d_is_tn, d_ix_l, d_ix_t, d_ix_p, d_ix_s, d_sl_l, d_sl_t, d_sl_p, q_var, q_cst, q_glo, q_un, q_bin, q_cmp, q_chn, q_and, q_or, q_ite, q_idx, q_slc, q_tup, q_lst, q_dic, q_call, q_bf, q_isi, q_get, q_app, q_ext, q_popL, q_popA, q_comp, turn_eq, t_not, t_and, t_or, t_cmp, t_chn, t_call, t_bf, t_isi, t_var, c_nil, c_one, o_nil, o_one, l_nil, l_cons, i_val, i_rng1, i_rng2, i_enu, i_zip, s_asg, s_asgs, s_aug, s_exp, s_del, s_retF, s_retT, s_retN, s_ite, s_whl, s_for, s_brk, s_cnt, s_pass, b_nil, b_cons, w_nm, w_un, w_sub, runF, boolA, res, W.toD, W.at, W.sub, isiD, takeA, takeS, takeC, putC, frzA, frzL, takeL, stoL, ST.own, resL, iosOf, fin_c, own, -List.all_map, fz_all, fz_all2, fz_all3, D.isAtom, W.isFz, W.flat, bindT, wipeG, backG, Arg.simple, pureE, pureL, idxA, stepOf, modP, W.setAt, W.setS, setW, popW, isL, isDc, itemsOf, toDs, toDs_fz, toDs_comp, toDs_fun, all_true, eqD_int, eqD_bl, atI_nat, atI_0, atI_1, atI_2, atI_3, ixN4_0, ixN4_1, ixN4_2, ixN4_3, f_32, ep, em, l1, hst, rr, hk, hk2, tk, e']
end K08
end PF
end

section
set_option Elab.async false
set_option linter.all false
set_option maxRecDepth 100000
set_option maxHeartbeats 2000000
namespace PF
open PySem L2
/-! ### sorting tuples of ints -/
theorem tups_ints : ∀ ls : List (List Int), tupsOf (ls.map intsT) = some ls
  | [] => rfl
  | l :: ls => by
    show (match intsOf (l.map .int), tupsOf (ls.map intsT) with | some ns, some t => some (ns :: t) | _, _ => none) = _
    rw [intsOf_map, tups_ints ls]
theorem sort_tups (ls : List (List Int)) (h : ∀ l ∈ ls, l ≠ []) : sortD (ls.map intsT) = some ((isort leInts ls).map intsT) := by
  cases ls with
  | nil => rfl
  | cons a ls =>
    have e : intsOf ((a :: ls).map intsT) = none := rfl
    have q : ((a :: ls).all fun t => !t.isEmpty) = true := by
      rw [List.all_eq_true]
      intro t ht
      have := h t ht
      cases t with
      | nil => exact absurd rfl this
      | cons _ _ => rfl
    unfold sortD
    rw [e, tups_ints]
    show (if ((a :: ls).all fun t => !t.isEmpty) = true then _ else _) = _
    rw [if_pos q]
    rfl
namespace K08
variable {fu n : Nat}
theorem highs_ok {m : Nat} {es : List (Nat × Nat)} {l : List Int} (w : WebOk m es) (hl : l.length = m) :
    ∃ lo : List Nat, callF Pm fu (n + 2) 27 [.fz (webD m es), .fz (intsT l)] = some (.fz (natsL lo), []) ∧ lo.length ≤ m ∧ ∀ v, v ∈ lo ↔ v < m ∧ ∀ u, Adj es v u → ¬ l.getD v 0 < l.getD u 0 := by
  obtain ⟨rows, _, e, h1, h2, h3⟩ := nears_ok (fu := fu) (n := n) w.rng w.len (by have := w.most; omega)
  have hm := w.most
  have rr := rng_nat (k := m) (by omega)
  have wd : webD m es = .tup [natD m, .tup (es.map hedgeD)] := rfl
  let highB : Nat → Bool := fun v => decide ((rows.getD v []).filter (fun u => decide (l.getD v 0 < l.getD u 0)) = [])
  have c1 := compQ_map (F := callF Pm fu (n + 1)) (ow := [3]) (t := .nm 3) (oe := false) (cs := .cons (.cmp .eq (.comp [4] (.nm 4) (.val (.idx (.var 2) (.var 3))) (.cons (.cmp .gt (.idx (.var 1) (.var 4)) (.idx (.var 1) (.var 3))) .nil) false (.var 4)) (.lst false .nil)) .nil) (e := .var 3) (g := [some (.fz (webD m es)), some (.fz (intsT l)), some (.fz (.lst (rows.map natsL))), none, none]) (fun i : Nat => D.int (i : Nat)) highB (fun i => W.fz (natD i)) (xs := List.range m)
    fun v hv => by
      have h : v < m := List.mem_range.mp hv
      have hvr : v < rows.length := by omega
      have gr : rows.getD v [] = rows[v] := by simp [hvr]
      have gx : (rows.map natsL)[v]? = some (natsL rows[v]) := by simp [hvr]
      have hvl : v < l.length := by omega
      have gv : l.getD v 0 = l[v] := by simp [hvl]
      have sl : slk rows[v].length = true := slk_ok (by
        have := h3 _ (List.getElem_mem hvr)
        have := w.len
        omega)
      have c2 := compQ_map (F := callF Pm fu (n + 1)) (ow := [4]) (t := .nm 4) (oe := false) (cs := .cons (.cmp .gt (.idx (.var 1) (.var 4)) (.idx (.var 1) (.var 3))) .nil) (e := .var 4) (g := [some (.fz (webD m es)), some (.fz (intsT l)), some (.fz (.lst (rows.map natsL))), some (.fz (natD v)), none]) natD (fun u => decide (l.getD v 0 < l.getD u 0)) (fun i => W.fz (natD i)) (xs := rows[v])
        fun u hu => ⟨[some (.fz (webD m es)), some (.fz (intsT l)), some (.fz (.lst (rows.map natsL))), some (.fz (natD v)), some (.fz (natD u))], [some (.fz (webD m es)), some (.fz (intsT l)), some (.fz (.lst (rows.map natsL))), some (.fz (natD v)), some (.fz (natD u))], by simp [f_len_l, f_len_t, f_len_p, f_len_s, f_abs, f_max2, f_min2, f_sorted, f_all, f_int_i, f_int_b, f_list_l, f_list_t, f_tuple_l, f_tuple_t, f_ptuple, f_dict_p, f_lrange, d_neg, d_not, d_add_i, d_add_l, d_add_t, d_add_p, d_sub, d_mul_i, d_fdiv, d_mod, d_pow, d_eq, d_ne, d_lt_i, d_lt_t, d_le, d_gt, d_ge, d_in, d_nin, d_is_nn, d_is_in, d_is_ln, d_is_tn, d_ix_l, d_ix_t, d_ix_p, d_ix_s, d_sl_l, d_sl_t, d_sl_p, q_var, q_cst, q_glo, q_un, q_bin, q_cmp, q_chn, q_and, q_or, q_ite, q_idx, q_slc, q_tup, q_lst, q_dic, q_call, q_bf, q_isi, q_get, q_app, q_ext, q_popL, q_popA, q_comp, turn_eq, t_not, t_and, t_or, t_cmp, t_chn, t_call, t_bf, t_isi, t_var, c_nil, c_one, o_nil, o_one, l_nil, l_cons, i_val, i_rng1, i_rng2, i_enu, i_zip, s_asg, s_asgs, s_aug, s_exp, s_del, s_retF, s_retT, s_retN, s_ite, s_whl, s_for, s_brk, s_cnt, s_pass, b_nil, b_cons, w_nm, w_un, w_sub, runF, boolA, res, W.toD, W.at, W.sub, isiD, takeA, takeS, takeC, putC, frzA, frzL, takeL, stoL, ST.own, resL, iosOf, fin_c, own, -List.all_map, fz_all, fz_all2, fz_all3, D.isAtom, W.isFz, W.flat, bindT, wipeG, backG, Arg.simple, pureE, pureL, idxA, stepOf, modP, W.setAt, W.setS, setW, popW, isL, isDc, itemsOf, toDs, toDs_fz, toDs_comp, toDs_fun, all_true, eqD_int, eqD_bl, atI_nat, atI_0, atI_1, atI_2, atI_3, ixN4_0, ixN4_1, ixN4_2, ixN4_3], by
          have ad := (h2 v h u).mp (by rw [gr]; exact hu)
          have k2 : u < l.length := by rw [hl]; exact (w.rng.adj ad).2
          simp [f_len_l, f_len_t, f_len_p, f_len_s, f_abs, f_max2, f_min2, f_sorted, f_all, f_int_i, f_int_b, f_list_l, f_list_t, f_tuple_l, f_tuple_t, f_ptuple, f_dict_p, f_lrange, d_neg, d_not, d_add_i, d_add_l, d_add_t, d_add_p, d_sub, d_mul_i, d_fdiv, d_mod, d_pow, d_eq, d_ne, d_lt_i, d_lt_t, d_le, d_gt, d_ge, d_in, d_nin, d_is_nn, d_is_in, d_is_ln, d_is_tn, d_ix_l, d_ix_t, d_ix_p, d_ix_s, d_sl_l, d_sl_t, d_sl_p, q_var, q_cst, q_glo, q_un, q_bin, q_cmp, q_chn, q_and, q_or, q_ite, q_idx, q_slc, q_tup, q_lst, q_dic, q_call, q_bf, q_isi, q_get, q_app, q_ext, q_popL, q_popA, q_comp, turn_eq, t_not, t_and, t_or, t_cmp, t_chn, t_call, t_bf, t_isi, t_var, c_nil, c_one, o_nil, o_one, l_nil, l_cons, i_val, i_rng1, i_rng2, i_enu, i_zip, s_asg, s_asgs, s_aug, s_exp, s_del, s_retF, s_retT, s_retN, s_ite, s_whl, s_for, s_brk, s_cnt, s_pass, b_nil, b_cons, w_nm, w_un, w_sub, runF, boolA, res, W.toD, W.at, W.sub, isiD, takeA, takeS, takeC, putC, frzA, frzL, takeL, stoL, ST.own, resL, iosOf, fin_c, own, -List.all_map, fz_all, fz_all2, fz_all3, D.isAtom, W.isFz, W.flat, bindT, wipeG, backG, Arg.simple, pureE, pureL, idxA, stepOf, modP, W.setAt, W.setS, setW, popW, isL, isDc, itemsOf, toDs, toDs_fz, toDs_comp, toDs_fun, all_true, eqD_int, eqD_bl, atI_nat, atI_0, atI_1, atI_2, atI_3, ixN4_0, ixN4_1, ixN4_2, ixN4_3, intsT, natD, k2, hvl], by simp [f_len_l, f_len_t, f_len_p, f_len_s, f_abs, f_max2, f_min2, f_sorted, f_all, f_int_i, f_int_b, f_list_l, f_list_t, f_tuple_l, f_tuple_t, f_ptuple, f_dict_p, f_lrange, d_neg, d_not, d_add_i, d_add_l, d_add_t, d_add_p, d_sub, d_mul_i, d_fdiv, d_mod, d_pow, d_eq, d_ne, d_lt_i, d_lt_t, d_le, d_gt, d_ge, d_in, d_nin, d_is_nn, d_is_in, d_is_ln, d_is_tn, d_ix_l, d_ix_t, d_ix_p, d_ix_s, d_sl_l, d_sl_t, d_sl_p, q_var, q_cst, q_glo, q_un, q_bin, q_cmp, q_chn, q_and, q_or, q_ite, q_idx, q_slc, q_tup, q_lst, q_dic, q_call, q_bf, q_isi, q_get, q_app, q_ext, q_popL, q_popA, q_comp, turn_eq, t_not, t_and, t_or, t_cmp, t_chn, t_call, t_bf, t_isi, t_var, c_nil, c_one, o_nil, o_one, l_nil, l_cons, i_val, i_rng1, i_rng2, i_enu, i_zip, s_asg, s_asgs, s_aug, s_exp, s_del, s_retF, s_retT, s_retN, s_ite, s_whl, s_for, s_brk, s_cnt, s_pass, b_nil, b_cons, w_nm, w_un, w_sub, runF, boolA, res, W.toD, W.at, W.sub, isiD, takeA, takeS, takeC, putC, frzA, frzL, takeL, stoL, ST.own, resL, iosOf, fin_c, own, -List.all_map, fz_all, fz_all2, fz_all3, D.isAtom, W.isFz, W.flat, bindT, wipeG, backG, Arg.simple, pureE, pureL, idxA, stepOf, modP, W.setAt, W.setS, setW, popW, isL, isDc, itemsOf, toDs, toDs_fz, toDs_comp, toDs_fun, all_true, eqD_int, eqD_bl, atI_nat, atI_0, atI_1, atI_2, atI_3, ixN4_0, ixN4_1, ixN4_2, ixN4_3], fun _ => ⟨(.pth 4 [], [some (.fz (webD m es)), some (.fz (intsT l)), some (.fz (.lst (rows.map natsL))), some (.fz (natD v)), some (.fz (natD u))]), [some (.fz (webD m es)), some (.fz (intsT l)), some (.fz (.lst (rows.map natsL))), some (.fz (natD v)), some (.fz (natD u))], by simp [f_len_l, f_len_t, f_len_p, f_len_s, f_abs, f_max2, f_min2, f_sorted, f_all, f_int_i, f_int_b, f_list_l, f_list_t, f_tuple_l, f_tuple_t, f_ptuple, f_dict_p, f_lrange, d_neg, d_not, d_add_i, d_add_l, d_add_t, d_add_p, d_sub, d_mul_i, d_fdiv, d_mod, d_pow, d_eq, d_ne, d_lt_i, d_lt_t, d_le, d_gt, d_ge, d_in, d_nin, d_is_nn, d_is_in, d_is_ln, d_is_tn, d_ix_l, d_ix_t, d_ix_p, d_ix_s, d_sl_l, d_sl_t, d_sl_p, q_var, q_cst, q_glo, q_un, q_bin, q_cmp, q_chn, q_and, q_or, q_ite, q_idx, q_slc, q_tup, q_lst, q_dic, q_call, q_bf, q_isi, q_get, q_app, q_ext, q_popL, q_popA, q_comp, turn_eq, t_not, t_and, t_or, t_cmp, t_chn, t_call, t_bf, t_isi, t_var, c_nil, c_one, o_nil, o_one, l_nil, l_cons, i_val, i_rng1, i_rng2, i_enu, i_zip, s_asg, s_asgs, s_aug, s_exp, s_del, s_retF, s_retT, s_retN, s_ite, s_whl, s_for, s_brk, s_cnt, s_pass, b_nil, b_cons, w_nm, w_un, w_sub, runF, boolA, res, W.toD, W.at, W.sub, isiD, takeA, takeS, takeC, putC, frzA, frzL, takeL, stoL, ST.own, resL, iosOf, fin_c, own, -List.all_map, fz_all, fz_all2, fz_all3, D.isAtom, W.isFz, W.flat, bindT, wipeG, backG, Arg.simple, pureE, pureL, idxA, stepOf, modP, W.setAt, W.setS, setW, popW, isL, isDc, itemsOf, toDs, toDs_fz, toDs_comp, toDs_fun, all_true, eqD_int, eqD_bl, atI_nat, atI_0, atI_1, atI_2, atI_3, ixN4_0, ixN4_1, ixN4_2, ixN4_3], by simp [f_len_l, f_len_t, f_len_p, f_len_s, f_abs, f_max2, f_min2, f_sorted, f_all, f_int_i, f_int_b, f_list_l, f_list_t, f_tuple_l, f_tuple_t, f_ptuple, f_dict_p, f_lrange, d_neg, d_not, d_add_i, d_add_l, d_add_t, d_add_p, d_sub, d_mul_i, d_fdiv, d_mod, d_pow, d_eq, d_ne, d_lt_i, d_lt_t, d_le, d_gt, d_ge, d_in, d_nin, d_is_nn, d_is_in, d_is_ln, d_is_tn, d_ix_l, d_ix_t, d_ix_p, d_ix_s, d_sl_l, d_sl_t, d_sl_p, q_var, q_cst, q_glo, q_un, q_bin, q_cmp, q_chn, q_and, q_or, q_ite, q_idx, q_slc, q_tup, q_lst, q_dic, q_call, q_bf, q_isi, q_get, q_app, q_ext, q_popL, q_popA, q_comp, turn_eq, t_not, t_and, t_or, t_cmp, t_chn, t_call, t_bf, t_isi, t_var, c_nil, c_one, o_nil, o_one, l_nil, l_cons, i_val, i_rng1, i_rng2, i_enu, i_zip, s_asg, s_asgs, s_aug, s_exp, s_del, s_retF, s_retT, s_retN, s_ite, s_whl, s_for, s_brk, s_cnt, s_pass, b_nil, b_cons, w_nm, w_un, w_sub, runF, boolA, res, W.toD, W.at, W.sub, isiD, takeA, takeS, takeC, putC, frzA, frzL, takeL, stoL, ST.own, resL, iosOf, fin_c, own, -List.all_map, fz_all, fz_all2, fz_all3, D.isAtom, W.isFz, W.flat, bindT, wipeG, backG, Arg.simple, pureE, pureL, idxA, stepOf, modP, W.setAt, W.setS, setW, popW, isL, isDc, itemsOf, toDs, toDs_fz, toDs_comp, toDs_fun, all_true, eqD_int, eqD_bl, atI_nat, atI_0, atI_1, atI_2, atI_3, ixN4_0, ixN4_1, ixN4_2, ixN4_3], by simp [f_len_l, f_len_t, f_len_p, f_len_s, f_abs, f_max2, f_min2, f_sorted, f_all, f_int_i, f_int_b, f_list_l, f_list_t, f_tuple_l, f_tuple_t, f_ptuple, f_dict_p, f_lrange, d_neg, d_not, d_add_i, d_add_l, d_add_t, d_add_p, d_sub, d_mul_i, d_fdiv, d_mod, d_pow, d_eq, d_ne, d_lt_i, d_lt_t, d_le, d_gt, d_ge, d_in, d_nin, d_is_nn, d_is_in, d_is_ln, d_is_tn, d_ix_l, d_ix_t, d_ix_p, d_ix_s, d_sl_l, d_sl_t, d_sl_p, q_var, q_cst, q_glo, q_un, q_bin, q_cmp, q_chn, q_and, q_or, q_ite, q_idx, q_slc, q_tup, q_lst, q_dic, q_call, q_bf, q_isi, q_get, q_app, q_ext, q_popL, q_popA, q_comp, turn_eq, t_not, t_and, t_or, t_cmp, t_chn, t_call, t_bf, t_isi, t_var, c_nil, c_one, o_nil, o_one, l_nil, l_cons, i_val, i_rng1, i_rng2, i_enu, i_zip, s_asg, s_asgs, s_aug, s_exp, s_del, s_retF, s_retT, s_retN, s_ite, s_whl, s_for, s_brk, s_cnt, s_pass, b_nil, b_cons, w_nm, w_un, w_sub, runF, boolA, res, W.toD, W.at, W.sub, isiD, takeA, takeS, takeC, putC, frzA, frzL, takeL, stoL, ST.own, resL, iosOf, fin_c, own, -List.all_map, fz_all, fz_all2, fz_all3, D.isAtom, W.isFz, W.flat, bindT, wipeG, backG, Arg.simple, pureE, pureL, idxA, stepOf, modP, W.setAt, W.setS, setW, popW, isL, isDc, itemsOf, toDs, toDs_fz, toDs_comp, toDs_fun, all_true, eqD_int, eqD_bl, atI_nat, atI_0, atI_1, atI_2, atI_3, ixN4_0, ixN4_1, ixN4_2, ixN4_3]⟩⟩
      have en := eq_nil (rows[v].filter fun u => decide (l.getD v 0 < l.getD u 0))
      have tt : toDs ((rows[v].filter fun u => decide (l.getD v 0 < l.getD u 0)).map fun i => W.fz (natD i)) = (rows[v].filter fun u => decide (l.getD v 0 < l.getD u 0)).map natD := toDs_map _ _
      refine ⟨[some (.fz (webD m es)), some (.fz (intsT l)), some (.fz (.lst (rows.map natsL))), some (.fz (natD v)), none], [some (.fz (webD m es)), some (.fz (intsT l)), some (.fz (.lst (rows.map natsL))), some (.fz (natD v)), none], by simp [f_len_l, f_len_t, f_len_p, f_len_s, f_abs, f_max2, f_min2, f_sorted, f_all, f_int_i, f_int_b, f_list_l, f_list_t, f_tuple_l, f_tuple_t, f_ptuple, f_dict_p, f_lrange, d_neg, d_not, d_add_i, d_add_l, d_add_t, d_add_p, d_sub, d_mul_i, d_fdiv, d_mod, d_pow, d_eq, d_ne, d_lt_i, d_lt_t, d_le, d_gt, d_ge, d_in, d_nin, d_is_nn, d_is_in, d_is_ln, d_is_tn, d_ix_l, d_ix_t, d_ix_p, d_ix_s, d_sl_l, d_sl_t, d_sl_p, q_var, q_cst, q_glo, q_un, q_bin, q_cmp, q_chn, q_and, q_or, q_ite, q_idx, q_slc, q_tup, q_lst, q_dic, q_call, q_bf, q_isi, q_get, q_app, q_ext, q_popL, q_popA, q_comp, turn_eq, t_not, t_and, t_or, t_cmp, t_chn, t_call, t_bf, t_isi, t_var, c_nil, c_one, o_nil, o_one, l_nil, l_cons, i_val, i_rng1, i_rng2, i_enu, i_zip, s_asg, s_asgs, s_aug, s_exp, s_del, s_retF, s_retT, s_retN, s_ite, s_whl, s_for, s_brk, s_cnt, s_pass, b_nil, b_cons, w_nm, w_un, w_sub, runF, boolA, res, W.toD, W.at, W.sub, isiD, takeA, takeS, takeC, putC, frzA, frzL, takeL, stoL, ST.own, resL, iosOf, fin_c, own, -List.all_map, fz_all, fz_all2, fz_all3, D.isAtom, W.isFz, W.flat, bindT, wipeG, backG, Arg.simple, pureE, pureL, idxA, stepOf, modP, W.setAt, W.setS, setW, popW, isL, isDc, itemsOf, toDs, toDs_fz, toDs_comp, toDs_fun, all_true, eqD_int, eqD_bl, atI_nat, atI_0, atI_1, atI_2, atI_3, ixN4_0, ixN4_1, ixN4_2, ixN4_3, natD], ?_, by simp [f_len_l, f_len_t, f_len_p, f_len_s, f_abs, f_max2, f_min2, f_sorted, f_all, f_int_i, f_int_b, f_list_l, f_list_t, f_tuple_l, f_tuple_t, f_ptuple, f_dict_p, f_lrange, d_neg, d_not, d_add_i, d_add_l, d_add_t, d_add_p, d_sub, d_mul_i, d_fdiv, d_mod, d_pow, d_eq, d_ne, d_lt_i, d_lt_t, d_le, d_gt, d_ge, d_in, d_nin, d_is_nn, d_is_in, d_is_ln, d_is_tn, d_ix_l, d_ix_t, d_ix_p, d_ix_s, d_sl_l, d_sl_t, d_sl_p, q_var, q_cst, q_glo, q_un, q_bin, q_cmp, q_chn, q_and, q_or, q_ite, q_idx, q_slc, q_tup, q_lst, q_dic, q_call, q_bf, q_isi, q_get, q_app, q_ext, q_popL, q_popA, q_comp, turn_eq, t_not, t_and, t_or, t_cmp, t_chn, t_call, t_bf, t_isi, t_var, c_nil, c_one, o_nil, o_one, l_nil, l_cons, i_val, i_rng1, i_rng2, i_enu, i_zip, s_asg, s_asgs, s_aug, s_exp, s_del, s_retF, s_retT, s_retN, s_ite, s_whl, s_for, s_brk, s_cnt, s_pass, b_nil, b_cons, w_nm, w_un, w_sub, runF, boolA, res, W.toD, W.at, W.sub, isiD, takeA, takeS, takeC, putC, frzA, frzL, takeL, stoL, ST.own, resL, iosOf, fin_c, own, -List.all_map, fz_all, fz_all2, fz_all3, D.isAtom, W.isFz, W.flat, bindT, wipeG, backG, Arg.simple, pureE, pureL, idxA, stepOf, modP, W.setAt, W.setS, setW, popW, isL, isDc, itemsOf, toDs, toDs_fz, toDs_comp, toDs_fun, all_true, eqD_int, eqD_bl, atI_nat, atI_0, atI_1, atI_2, atI_3, ixN4_0, ixN4_1, ixN4_2, ixN4_3], fun _ => ⟨(.pth 3 [], [some (.fz (webD m es)), some (.fz (intsT l)), some (.fz (.lst (rows.map natsL))), some (.fz (natD v)), none]), [some (.fz (webD m es)), some (.fz (intsT l)), some (.fz (.lst (rows.map natsL))), some (.fz (natD v)), none], by simp [f_len_l, f_len_t, f_len_p, f_len_s, f_abs, f_max2, f_min2, f_sorted, f_all, f_int_i, f_int_b, f_list_l, f_list_t, f_tuple_l, f_tuple_t, f_ptuple, f_dict_p, f_lrange, d_neg, d_not, d_add_i, d_add_l, d_add_t, d_add_p, d_sub, d_mul_i, d_fdiv, d_mod, d_pow, d_eq, d_ne, d_lt_i, d_lt_t, d_le, d_gt, d_ge, d_in, d_nin, d_is_nn, d_is_in, d_is_ln, d_is_tn, d_ix_l, d_ix_t, d_ix_p, d_ix_s, d_sl_l, d_sl_t, d_sl_p, q_var, q_cst, q_glo, q_un, q_bin, q_cmp, q_chn, q_and, q_or, q_ite, q_idx, q_slc, q_tup, q_lst, q_dic, q_call, q_bf, q_isi, q_get, q_app, q_ext, q_popL, q_popA, q_comp, turn_eq, t_not, t_and, t_or, t_cmp, t_chn, t_call, t_bf, t_isi, t_var, c_nil, c_one, o_nil, o_one, l_nil, l_cons, i_val, i_rng1, i_rng2, i_enu, i_zip, s_asg, s_asgs, s_aug, s_exp, s_del, s_retF, s_retT, s_retN, s_ite, s_whl, s_for, s_brk, s_cnt, s_pass, b_nil, b_cons, w_nm, w_un, w_sub, runF, boolA, res, W.toD, W.at, W.sub, isiD, takeA, takeS, takeC, putC, frzA, frzL, takeL, stoL, ST.own, resL, iosOf, fin_c, own, -List.all_map, fz_all, fz_all2, fz_all3, D.isAtom, W.isFz, W.flat, bindT, wipeG, backG, Arg.simple, pureE, pureL, idxA, stepOf, modP, W.setAt, W.setS, setW, popW, isL, isDc, itemsOf, toDs, toDs_fz, toDs_comp, toDs_fun, all_true, eqD_int, eqD_bl, atI_nat, atI_0, atI_1, atI_2, atI_3, ixN4_0, ixN4_1, ixN4_2, ixN4_3], by simp [f_len_l, f_len_t, f_len_p, f_len_s, f_abs, f_max2, f_min2, f_sorted, f_all, f_int_i, f_int_b, f_list_l, f_list_t, f_tuple_l, f_tuple_t, f_ptuple, f_dict_p, f_lrange, d_neg, d_not, d_add_i, d_add_l, d_add_t, d_add_p, d_sub, d_mul_i, d_fdiv, d_mod, d_pow, d_eq, d_ne, d_lt_i, d_lt_t, d_le, d_gt, d_ge, d_in, d_nin, d_is_nn, d_is_in, d_is_ln, d_is_tn, d_ix_l, d_ix_t, d_ix_p, d_ix_s, d_sl_l, d_sl_t, d_sl_p, q_var, q_cst, q_glo, q_un, q_bin, q_cmp, q_chn, q_and, q_or, q_ite, q_idx, q_slc, q_tup, q_lst, q_dic, q_call, q_bf, q_isi, q_get, q_app, q_ext, q_popL, q_popA, q_comp, turn_eq, t_not, t_and, t_or, t_cmp, t_chn, t_call, t_bf, t_isi, t_var, c_nil, c_one, o_nil, o_one, l_nil, l_cons, i_val, i_rng1, i_rng2, i_enu, i_zip, s_asg, s_asgs, s_aug, s_exp, s_del, s_retF, s_retT, s_retN, s_ite, s_whl, s_for, s_brk, s_cnt, s_pass, b_nil, b_cons, w_nm, w_un, w_sub, runF, boolA, res, W.toD, W.at, W.sub, isiD, takeA, takeS, takeC, putC, frzA, frzL, takeL, stoL, ST.own, resL, iosOf, fin_c, own, -List.all_map, fz_all, fz_all2, fz_all3, D.isAtom, W.isFz, W.flat, bindT, wipeG, backG, Arg.simple, pureE, pureL, idxA, stepOf, modP, W.setAt, W.setS, setW, popW, isL, isDc, itemsOf, toDs, toDs_fz, toDs_comp, toDs_fun, all_true, eqD_int, eqD_bl, atI_nat, atI_0, atI_1, atI_2, atI_3, ixN4_0, ixN4_1, ixN4_2, ixN4_3], by simp [f_len_l, f_len_t, f_len_p, f_len_s, f_abs, f_max2, f_min2, f_sorted, f_all, f_int_i, f_int_b, f_list_l, f_list_t, f_tuple_l, f_tuple_t, f_ptuple, f_dict_p, f_lrange, d_neg, d_not, d_add_i, d_add_l, d_add_t, d_add_p, d_sub, d_mul_i, d_fdiv, d_mod, d_pow, d_eq, d_ne, d_lt_i, d_lt_t, d_le, d_gt, d_ge, d_in, d_nin, d_is_nn, d_is_in, d_is_ln, d_is_tn, d_ix_l, d_ix_t, d_ix_p, d_ix_s, d_sl_l, d_sl_t, d_sl_p, q_var, q_cst, q_glo, q_un, q_bin, q_cmp, q_chn, q_and, q_or, q_ite, q_idx, q_slc, q_tup, q_lst, q_dic, q_call, q_bf, q_isi, q_get, q_app, q_ext, q_popL, q_popA, q_comp, turn_eq, t_not, t_and, t_or, t_cmp, t_chn, t_call, t_bf, t_isi, t_var, c_nil, c_one, o_nil, o_one, l_nil, l_cons, i_val, i_rng1, i_rng2, i_enu, i_zip, s_asg, s_asgs, s_aug, s_exp, s_del, s_retF, s_retT, s_retN, s_ite, s_whl, s_for, s_brk, s_cnt, s_pass, b_nil, b_cons, w_nm, w_un, w_sub, runF, boolA, res, W.toD, W.at, W.sub, isiD, takeA, takeS, takeC, putC, frzA, frzL, takeL, stoL, ST.own, resL, iosOf, fin_c, own, -List.all_map, fz_all, fz_all2, fz_all3, D.isAtom, W.isFz, W.flat, bindT, wipeG, backG, Arg.simple, pureE, pureL, idxA, stepOf, modP, W.setAt, W.setS, setW, popW, isL, isDc, itemsOf, toDs, toDs_fz, toDs_comp, toDs_fun, all_true, eqD_int, eqD_bl, atI_nat, atI_0, atI_1, atI_2, atI_3, ixN4_0, ixN4_1, ixN4_2, ixN4_3]⟩⟩
      have ev : evI (callF Pm fu (n + 1)) (.val (.idx (.var 2) (.var 3))) [some (.fz (webD m es)), some (.fz (intsT l)), some (.fz (.lst (rows.map natsL))), some (.fz (natD v)), none] = some (rows[v].map natD, [some (.fz (webD m es)), some (.fz (intsT l)), some (.fz (.lst (rows.map natsL))), some (.fz (natD v)), none]) := by
        simp [f_len_l, f_len_t, f_len_p, f_len_s, f_abs, f_max2, f_min2, f_sorted, f_all, f_int_i, f_int_b, f_list_l, f_list_t, f_tuple_l, f_tuple_t, f_ptuple, f_dict_p, f_lrange, d_neg, d_not, d_add_i, d_add_l, d_add_t, d_add_p, d_sub, d_mul_i, d_fdiv, d_mod, d_pow, d_eq, d_ne, d_lt_i, d_lt_t, d_le, d_gt, d_ge, d_in, d_nin, d_is_nn, d_is_in, d_is_ln, d_is_tn, d_ix_l, d_ix_t, d_ix_p, d_ix_s, d_sl_l, d_sl_t, d_sl_p, q_var, q_cst, q_glo, q_un, q_bin, q_cmp, q_chn, q_and, q_or, q_ite, q_idx, q_slc, q_tup, q_lst, q_dic, q_call, q_bf, q_isi, q_get, q_app, q_ext, q_popL, q_popA, q_comp, turn_eq, t_not, t_and, t_or, t_cmp, t_chn, t_call, t_bf, t_isi, t_var, c_nil, c_one, o_nil, o_one, l_nil, l_cons, i_val, i_rng1, i_rng2, i_enu, i_zip, s_asg, s_asgs, s_aug, s_exp, s_del, s_retF, s_retT, s_retN, s_ite, s_whl, s_for, s_brk, s_cnt, s_pass, b_nil, b_cons, w_nm, w_un, w_sub, runF, boolA, res, W.toD, W.at, W.sub, isiD, takeA, takeS, takeC, putC, frzA, frzL, takeL, stoL, ST.own, resL, iosOf, fin_c, own, -List.all_map, fz_all, fz_all2, fz_all3, D.isAtom, W.isFz, W.flat, bindT, wipeG, backG, Arg.simple, pureE, pureL, idxA, stepOf, modP, W.setAt, W.setS, setW, popW, isL, isDc, itemsOf, toDs, toDs_fz, toDs_comp, toDs_fun, all_true, eqD_int, eqD_bl, atI_nat, atI_0, atI_1, atI_2, atI_3, ixN4_0, ixN4_1, ixN4_2, ixN4_3, natD, gx, natsL]
      have ec : evE (callF Pm fu (n + 1)) (.comp [4] (.nm 4) (.val (.idx (.var 2) (.var 3))) (.cons (.cmp .gt (.idx (.var 1) (.var 4)) (.idx (.var 1) (.var 3))) .nil) false (.var 4)) [some (.fz (webD m es)), some (.fz (intsT l)), some (.fz (.lst (rows.map natsL))), some (.fz (natD v)), none] = some (.tmp (.lst ((rows[v].filter fun u => decide (l.getD v 0 < l.getD u 0)).map fun i => W.fz (natD i))), [some (.fz (webD m es)), some (.fz (intsT l)), some (.fz (.lst (rows.map natsL))), some (.fz (natD v)), none]) := by
        rw [q_comp, ev, Option.bind_some]
        have : slk (rows[v].map natD).length = true := by rw [List.length_map]; exact sl
        rw [if_pos this]
        have w0 : wipeG [some (.fz (webD m es)), some (.fz (intsT l)), some (.fz (.lst (rows.map natsL))), some (.fz (natD v)), none] [4] = [some (.fz (webD m es)), some (.fz (intsT l)), some (.fz (.lst (rows.map natsL))), some (.fz (natD v)), none] := rfl
        rw [w0, c2]
        rfl
      rw [c_one, t_cmp, ec, Option.bind_some]
      simp only [highB, gr]
      simp only [natsL] at en
      generalize (rows[v].filter fun u => decide (l.getD v 0 < l.getD u 0)) = q at en tt ⊢
      simp [f_len_l, f_len_t, f_len_p, f_len_s, f_abs, f_max2, f_min2, f_sorted, f_all, f_int_i, f_int_b, f_list_l, f_list_t, f_tuple_l, f_tuple_t, f_ptuple, f_dict_p, f_lrange, d_neg, d_not, d_add_i, d_add_l, d_add_t, d_add_p, d_sub, d_mul_i, d_fdiv, d_mod, d_pow, d_eq, d_ne, d_lt_i, d_lt_t, d_le, d_gt, d_ge, d_in, d_nin, d_is_nn, d_is_in, d_is_ln, d_is_tn, d_ix_l, d_ix_t, d_ix_p, d_ix_s, d_sl_l, d_sl_t, d_sl_p, q_var, q_cst, q_glo, q_un, q_bin, q_cmp, q_chn, q_and, q_or, q_ite, q_idx, q_slc, q_tup, q_lst, q_dic, q_call, q_bf, q_isi, q_get, q_app, q_ext, q_popL, q_popA, q_comp, turn_eq, t_not, t_and, t_or, t_cmp, t_chn, t_call, t_bf, t_isi, t_var, c_nil, c_one, o_nil, o_one, l_nil, l_cons, i_val, i_rng1, i_rng2, i_enu, i_zip, s_asg, s_asgs, s_aug, s_exp, s_del, s_retF, s_retT, s_retN, s_ite, s_whl, s_for, s_brk, s_cnt, s_pass, b_nil, b_cons, w_nm, w_un, w_sub, runF, boolA, res, W.toD, W.at, W.sub, isiD, takeA, takeS, takeC, putC, frzA, frzL, takeL, stoL, ST.own, resL, iosOf, fin_c, own, -List.all_map, fz_all, fz_all2, fz_all3, D.isAtom, W.isFz, W.flat, bindT, wipeG, backG, Arg.simple, pureE, pureL, idxA, stepOf, modP, W.setAt, W.setS, setW, popW, isL, isDc, itemsOf, toDs, toDs_fz, toDs_comp, toDs_fun, all_true, eqD_int, eqD_bl, atI_nat, atI_0, atI_1, atI_2, atI_3, ixN4_0, ixN4_1, ixN4_2, ixN4_3, slk_ok, tt, en]
  refine ⟨(List.range m).filter highB, ?_, Nat.le_trans (List.length_filter_le _ _) (by simp), fun v => ?_⟩
  · obtain ⟨rows', e', _⟩ := nears_ok (fu := fu) (n := n) w.rng w.len (by omega)
    have sl : slk m = true := slk_ok (by omega)
    have tt : toDs (((List.range m).filter highB).map fun i => W.fz (natD i)) = ((List.range m).filter highB).map natD := toDs_map _ _
    rw [call_eq pm_27]
    generalize (List.range m).filter highB = q at c1 tt ⊢
    rw [wd] at c1 e ⊢
    simp only [natD, natsL] at c1 e tt ⊢
    simp [f_len_l, f_len_t, f_len_p, f_len_s, f_abs, f_max2, f_min2, f_sorted, f_all, f_int_i, f_int_b, f_list_l, f_list_t, f_tuple_l, f_tuple_t, f_ptuple, f_dict_p, f_lrange, d_neg, d_not, d_add_i, d_add_l, d_add_t, d_add_p, d_sub, d_mul_i, d_fdiv, d_mod, d_pow, d_eq, d_ne, d_lt_i, d_lt_t, d_le, d_gt, d_ge, d_in, d_nin, d_is_nn, d_is_in, d_is_ln, d_is_tn, d_ix_l, d_ix_t, d_ix_p, d_ix_s, d_sl_l, d_sl_t, d_sl_p, q_var, q_cst, q_glo, q_un, q_bin, q_cmp, q_chn, q_and, q_or, q_ite, q_idx, q_slc, q_tup, q_lst, q_dic, q_call, q_bf, q_isi, q_get, q_app, q_ext, q_popL, q_popA, q_comp, turn_eq, t_not, t_and, t_or, t_cmp, t_chn, t_call, t_bf, t_isi, t_var, c_nil, c_one, o_nil, o_one, l_nil, l_cons, i_val, i_rng1, i_rng2, i_enu, i_zip, s_asg, s_asgs, s_aug, s_exp, s_del, s_retF, s_retT, s_retN, s_ite, s_whl, s_for, s_brk, s_cnt, s_pass, b_nil, b_cons, w_nm, w_un, w_sub, runF, boolA, res, W.toD, W.at, W.sub, isiD, takeA, takeS, takeC, putC, frzA, frzL, takeL, stoL, ST.own, resL, iosOf, fin_c, own, -List.all_map, fz_all, fz_all2, fz_all3, D.isAtom, W.isFz, W.flat, bindT, wipeG, backG, Arg.simple, pureE, pureL, idxA, stepOf, modP, W.setAt, W.setS, setW, popW, isL, isDc, itemsOf, toDs, toDs_fz, toDs_comp, toDs_fun, all_true, eqD_int, eqD_bl, atI_nat, atI_0, atI_1, atI_2, atI_3, ixN4_0, ixN4_1, ixN4_2, ixN4_3, f_27, e, rr, sl, c1, tt]
  · rw [List.mem_filter, List.mem_range]
    constructor
    · rintro ⟨hv, q⟩
      refine ⟨hv, fun u a c => ?_⟩
      have q := of_decide_eq_true q
      have := List.filter_eq_nil_iff.mp q u ((h2 v hv u).mpr a)
      simp only [decide_eq_true_eq] at this
      exact this c
    · rintro ⟨hv, q⟩
      refine ⟨hv, decide_eq_true (List.filter_eq_nil_iff.mpr fun u hu => ?_)⟩
      have := q u ((h2 v hv u).mp hu)
      simpa using this

/-- the layings one change away -/
theorem next_ok {m : Nat} {es : List (Nat × Nat)} {l : List Int} (w : WebOk m es) (hl : l.length = m) :
    ∃ ks : List (List Int), callF Pm fu (n + 3) 29 [.fz (webD m es), .fz (intsT l)] = some (.fz (.lst (ks.map intsT)), []) ∧ ks.length ≤ 80 ∧ ∀ k, k ∈ ks ↔ (∃ v, (v < m ∧ ∀ u, Adj es v u → ¬ l.getD u 0 < l.getD v 0) ∧ k = l.set v (l.getD v 0 + 2)) ∨ ∃ v, (v < m ∧ ∀ u, Adj es v u → ¬ l.getD v 0 < l.getD u 0) ∧ k = l.set v (l.getD v 0 + -2) := by
  obtain ⟨lo, e1, len1, h1⟩ := lows_ok (fu := fu) (n := n) w hl
  obtain ⟨hg, e2, len2, h2⟩ := highs_ok (fu := fu) (n := n) w hl
  have hm := w.most
  have wd : webD m es = .tup [natD m, .tup (es.map hedgeD)] := rfl
  have sl1 : slk lo.length = true := slk_ok (by omega)
  have sl2 : slk hg.length = true := slk_ok (by omega)
  have sl3 : slk (lo.length + hg.length) = true := slk_ok (by omega)
  obtain ⟨f1, hf1⟩ : ∃ f1 : Nat → List Int, ∀ v, f1 v = l.set v (l.getD v 0 + 2) := ⟨_, fun _ => rfl⟩
  obtain ⟨f2, hf2⟩ : ∃ f2 : Nat → List Int, ∀ v, f2 v = l.set v (l.getD v 0 + -2) := ⟨_, fun _ => rfl⟩
  have c1 := compQ_all (F := callF Pm fu (n + 2)) (ow := [3]) (t := .nm 3) (oe := false) (e := .call 28 [.val, .val, .val] (.cons (.var 1) (.cons (.var 3) (.cons (.cst (.int 2)) .nil)))) (g := [some (.fz (webD m es)), some (.fz (intsT l)), none, none]) natD (fun v => W.fz (intsT (f1 v))) (xs := lo)
    fun v hv => ⟨[some (.fz (webD m es)), some (.fz (intsT l)), none, some (.fz (natD v))], (.tmp (.fz (intsT (f1 v))), [some (.fz (webD m es)), some (.fz (intsT l)), none, some (.fz (natD v))]), [some (.fz (webD m es)), some (.fz (intsT l)), none, some (.fz (natD v))], rfl, by
      have q := changed_ok (fu := fu) (n := n + 1) (l := l) (v := v) 2 (by have := ((h1 v).mp hv).1; omega) (by omega)
      simp [f_len_l, f_len_t, f_len_p, f_len_s, f_abs, f_max2, f_min2, f_sorted, f_all, f_int_i, f_int_b, f_list_l, f_list_t, f_tuple_l, f_tuple_t, f_ptuple, f_dict_p, f_lrange, d_neg, d_not, d_add_i, d_add_l, d_add_t, d_add_p, d_sub, d_mul_i, d_fdiv, d_mod, d_pow, d_eq, d_ne, d_lt_i, d_lt_t, d_le, d_gt, d_ge, d_in, d_nin, d_is_nn, d_is_in, d_is_ln, d_is_tn, d_ix_l, d_ix_t, d_ix_p, d_ix_s, d_sl_l, d_sl_t, d_sl_p, q_var, q_cst, q_glo, q_un, q_bin, q_cmp, q_chn, q_and, q_or, q_ite, q_idx, q_slc, q_tup, q_lst, q_dic, q_call, q_bf, q_isi, q_get, q_app, q_ext, q_popL, q_popA, q_comp, turn_eq, t_not, t_and, t_or, t_cmp, t_chn, t_call, t_bf, t_isi, t_var, c_nil, c_one, o_nil, o_one, l_nil, l_cons, i_val, i_rng1, i_rng2, i_enu, i_zip, s_asg, s_asgs, s_aug, s_exp, s_del, s_retF, s_retT, s_retN, s_ite, s_whl, s_for, s_brk, s_cnt, s_pass, b_nil, b_cons, w_nm, w_un, w_sub, runF, boolA, res, W.toD, W.at, W.sub, isiD, takeA, takeS, takeC, putC, frzA, frzL, takeL, stoL, ST.own, resL, iosOf, fin_c, own, -List.all_map, fz_all, fz_all2, fz_all3, D.isAtom, W.isFz, W.flat, bindT, wipeG, backG, Arg.simple, pureE, pureL, idxA, stepOf, modP, W.setAt, W.setS, setW, popW, isL, isDc, itemsOf, toDs, toDs_fz, toDs_comp, toDs_fun, all_true, eqD_int, eqD_bl, atI_nat, atI_0, atI_1, atI_2, atI_3, ixN4_0, ixN4_1, ixN4_2, ixN4_3, q, hf1], by simp [f_len_l, f_len_t, f_len_p, f_len_s, f_abs, f_max2, f_min2, f_sorted, f_all, f_int_i, f_int_b, f_list_l, f_list_t, f_tuple_l, f_tuple_t, f_ptuple, f_dict_p, f_lrange, d_neg, d_not, d_add_i, d_add_l, d_add_t, d_add_p, d_sub, d_mul_i, d_fdiv, d_mod, d_pow, d_eq, d_ne, d_lt_i, d_lt_t, d_le, d_gt, d_ge, d_in, d_nin, d_is_nn, d_is_in, d_is_ln, d_is_tn, d_ix_l, d_ix_t, d_ix_p, d_ix_s, d_sl_l, d_sl_t, d_sl_p, q_var, q_cst, q_glo, q_un, q_bin, q_cmp, q_chn, q_and, q_or, q_ite, q_idx, q_slc, q_tup, q_lst, q_dic, q_call, q_bf, q_isi, q_get, q_app, q_ext, q_popL, q_popA, q_comp, turn_eq, t_not, t_and, t_or, t_cmp, t_chn, t_call, t_bf, t_isi, t_var, c_nil, c_one, o_nil, o_one, l_nil, l_cons, i_val, i_rng1, i_rng2, i_enu, i_zip, s_asg, s_asgs, s_aug, s_exp, s_del, s_retF, s_retT, s_retN, s_ite, s_whl, s_for, s_brk, s_cnt, s_pass, b_nil, b_cons, w_nm, w_un, w_sub, runF, boolA, res, W.toD, W.at, W.sub, isiD, takeA, takeS, takeC, putC, frzA, frzL, takeL, stoL, ST.own, resL, iosOf, fin_c, own, -List.all_map, fz_all, fz_all2, fz_all3, D.isAtom, W.isFz, W.flat, bindT, wipeG, backG, Arg.simple, pureE, pureL, idxA, stepOf, modP, W.setAt, W.setS, setW, popW, isL, isDc, itemsOf, toDs, toDs_fz, toDs_comp, toDs_fun, all_true, eqD_int, eqD_bl, atI_nat, atI_0, atI_1, atI_2, atI_3, ixN4_0, ixN4_1, ixN4_2, ixN4_3], by simp [f_len_l, f_len_t, f_len_p, f_len_s, f_abs, f_max2, f_min2, f_sorted, f_all, f_int_i, f_int_b, f_list_l, f_list_t, f_tuple_l, f_tuple_t, f_ptuple, f_dict_p, f_lrange, d_neg, d_not, d_add_i, d_add_l, d_add_t, d_add_p, d_sub, d_mul_i, d_fdiv, d_mod, d_pow, d_eq, d_ne, d_lt_i, d_lt_t, d_le, d_gt, d_ge, d_in, d_nin, d_is_nn, d_is_in, d_is_ln, d_is_tn, d_ix_l, d_ix_t, d_ix_p, d_ix_s, d_sl_l, d_sl_t, d_sl_p, q_var, q_cst, q_glo, q_un, q_bin, q_cmp, q_chn, q_and, q_or, q_ite, q_idx, q_slc, q_tup, q_lst, q_dic, q_call, q_bf, q_isi, q_get, q_app, q_ext, q_popL, q_popA, q_comp, turn_eq, t_not, t_and, t_or, t_cmp, t_chn, t_call, t_bf, t_isi, t_var, c_nil, c_one, o_nil, o_one, l_nil, l_cons, i_val, i_rng1, i_rng2, i_enu, i_zip, s_asg, s_asgs, s_aug, s_exp, s_del, s_retF, s_retT, s_retN, s_ite, s_whl, s_for, s_brk, s_cnt, s_pass, b_nil, b_cons, w_nm, w_un, w_sub, runF, boolA, res, W.toD, W.at, W.sub, isiD, takeA, takeS, takeC, putC, frzA, frzL, takeL, stoL, ST.own, resL, iosOf, fin_c, own, -List.all_map, fz_all, fz_all2, fz_all3, D.isAtom, W.isFz, W.flat, bindT, wipeG, backG, Arg.simple, pureE, pureL, idxA, stepOf, modP, W.setAt, W.setS, setW, popW, isL, isDc, itemsOf, toDs, toDs_fz, toDs_comp, toDs_fun, all_true, eqD_int, eqD_bl, atI_nat, atI_0, atI_1, atI_2, atI_3, ixN4_0, ixN4_1, ixN4_2, ixN4_3]⟩
  have c2 := fun (z : W) => compQ_all (F := callF Pm fu (n + 2)) (ow := [3]) (t := .nm 3) (oe := false) (e := .call 28 [.val, .val, .val] (.cons (.var 1) (.cons (.var 3) (.cons (.bin .sub (.cst (.int 0)) (.cst (.int 2))) .nil)))) (g := [some (.fz (webD m es)), some (.fz (intsT l)), some z, none]) natD (fun v => W.fz (intsT (f2 v))) (xs := hg)
    fun v hv => ⟨[some (.fz (webD m es)), some (.fz (intsT l)), some z, some (.fz (natD v))], (.tmp (.fz (intsT (f2 v))), [some (.fz (webD m es)), some (.fz (intsT l)), some z, some (.fz (natD v))]), [some (.fz (webD m es)), some (.fz (intsT l)), some z, some (.fz (natD v))], rfl, by
      have q := changed_ok (fu := fu) (n := n + 1) (l := l) (v := v) (-2) (by have := ((h2 v).mp hv).1; omega) (by omega)
      simp [f_len_l, f_len_t, f_len_p, f_len_s, f_abs, f_max2, f_min2, f_sorted, f_all, f_int_i, f_int_b, f_list_l, f_list_t, f_tuple_l, f_tuple_t, f_ptuple, f_dict_p, f_lrange, d_neg, d_not, d_add_i, d_add_l, d_add_t, d_add_p, d_sub, d_mul_i, d_fdiv, d_mod, d_pow, d_eq, d_ne, d_lt_i, d_lt_t, d_le, d_gt, d_ge, d_in, d_nin, d_is_nn, d_is_in, d_is_ln, d_is_tn, d_ix_l, d_ix_t, d_ix_p, d_ix_s, d_sl_l, d_sl_t, d_sl_p, q_var, q_cst, q_glo, q_un, q_bin, q_cmp, q_chn, q_and, q_or, q_ite, q_idx, q_slc, q_tup, q_lst, q_dic, q_call, q_bf, q_isi, q_get, q_app, q_ext, q_popL, q_popA, q_comp, turn_eq, t_not, t_and, t_or, t_cmp, t_chn, t_call, t_bf, t_isi, t_var, c_nil, c_one, o_nil, o_one, l_nil, l_cons, i_val, i_rng1, i_rng2, i_enu, i_zip, s_asg, s_asgs, s_aug, s_exp, s_del, s_retF, s_retT, s_retN, s_ite, s_whl, s_for, s_brk, s_cnt, s_pass, b_nil, b_cons, w_nm, w_un, w_sub, runF, boolA, res, W.toD, W.at, W.sub, isiD, takeA, takeS, takeC, putC, frzA, frzL, takeL, stoL, ST.own, resL, iosOf, fin_c, own, -List.all_map, fz_all, fz_all2, fz_all3, D.isAtom, W.isFz, W.flat, bindT, wipeG, backG, Arg.simple, pureE, pureL, idxA, stepOf, modP, W.setAt, W.setS, setW, popW, isL, isDc, itemsOf, toDs, toDs_fz, toDs_comp, toDs_fun, all_true, eqD_int, eqD_bl, atI_nat, atI_0, atI_1, atI_2, atI_3, ixN4_0, ixN4_1, ixN4_2, ixN4_3, q, hf2], by simp [f_len_l, f_len_t, f_len_p, f_len_s, f_abs, f_max2, f_min2, f_sorted, f_all, f_int_i, f_int_b, f_list_l, f_list_t, f_tuple_l, f_tuple_t, f_ptuple, f_dict_p, f_lrange, d_neg, d_not, d_add_i, d_add_l, d_add_t, d_add_p, d_sub, d_mul_i, d_fdiv, d_mod, d_pow, d_eq, d_ne, d_lt_i, d_lt_t, d_le, d_gt, d_ge, d_in, d_nin, d_is_nn, d_is_in, d_is_ln, d_is_tn, d_ix_l, d_ix_t, d_ix_p, d_ix_s, d_sl_l, d_sl_t, d_sl_p, q_var, q_cst, q_glo, q_un, q_bin, q_cmp, q_chn, q_and, q_or, q_ite, q_idx, q_slc, q_tup, q_lst, q_dic, q_call, q_bf, q_isi, q_get, q_app, q_ext, q_popL, q_popA, q_comp, turn_eq, t_not, t_and, t_or, t_cmp, t_chn, t_call, t_bf, t_isi, t_var, c_nil, c_one, o_nil, o_one, l_nil, l_cons, i_val, i_rng1, i_rng2, i_enu, i_zip, s_asg, s_asgs, s_aug, s_exp, s_del, s_retF, s_retT, s_retN, s_ite, s_whl, s_for, s_brk, s_cnt, s_pass, b_nil, b_cons, w_nm, w_un, w_sub, runF, boolA, res, W.toD, W.at, W.sub, isiD, takeA, takeS, takeC, putC, frzA, frzL, takeL, stoL, ST.own, resL, iosOf, fin_c, own, -List.all_map, fz_all, fz_all2, fz_all3, D.isAtom, W.isFz, W.flat, bindT, wipeG, backG, Arg.simple, pureE, pureL, idxA, stepOf, modP, W.setAt, W.setS, setW, popW, isL, isDc, itemsOf, toDs, toDs_fz, toDs_comp, toDs_fun, all_true, eqD_int, eqD_bl, atI_nat, atI_0, atI_1, atI_2, atI_3, ixN4_0, ixN4_1, ixN4_2, ixN4_3], by simp [f_len_l, f_len_t, f_len_p, f_len_s, f_abs, f_max2, f_min2, f_sorted, f_all, f_int_i, f_int_b, f_list_l, f_list_t, f_tuple_l, f_tuple_t, f_ptuple, f_dict_p, f_lrange, d_neg, d_not, d_add_i, d_add_l, d_add_t, d_add_p, d_sub, d_mul_i, d_fdiv, d_mod, d_pow, d_eq, d_ne, d_lt_i, d_lt_t, d_le, d_gt, d_ge, d_in, d_nin, d_is_nn, d_is_in, d_is_ln, d_is_tn, d_ix_l, d_ix_t, d_ix_p, d_ix_s, d_sl_l, d_sl_t, d_sl_p, q_var, q_cst, q_glo, q_un, q_bin, q_cmp, q_chn, q_and, q_or, q_ite, q_idx, q_slc, q_tup, q_lst, q_dic, q_call, q_bf, q_isi, q_get, q_app, q_ext, q_popL, q_popA, q_comp, turn_eq, t_not, t_and, t_or, t_cmp, t_chn, t_call, t_bf, t_isi, t_var, c_nil, c_one, o_nil, o_one, l_nil, l_cons, i_val, i_rng1, i_rng2, i_enu, i_zip, s_asg, s_asgs, s_aug, s_exp, s_del, s_retF, s_retT, s_retN, s_ite, s_whl, s_for, s_brk, s_cnt, s_pass, b_nil, b_cons, w_nm, w_un, w_sub, runF, boolA, res, W.toD, W.at, W.sub, isiD, takeA, takeS, takeC, putC, frzA, frzL, takeL, stoL, ST.own, resL, iosOf, fin_c, own, -List.all_map, fz_all, fz_all2, fz_all3, D.isAtom, W.isFz, W.flat, bindT, wipeG, backG, Arg.simple, pureE, pureL, idxA, stepOf, modP, W.setAt, W.setS, setW, popW, isL, isDc, itemsOf, toDs, toDs_fz, toDs_comp, toDs_fun, all_true, eqD_int, eqD_bl, atI_nat, atI_0, atI_1, atI_2, atI_3, ixN4_0, ixN4_1, ixN4_2, ixN4_3]⟩
  let A := lo.map f1
  let B := hg.map f2
  have t1 : (lo.map fun v => intsT (f1 v)) = A.map intsT := by
    rw [List.map_map]
    rfl
  have t2 : (hg.map fun v => intsT (f2 v)) = B.map intsT := by
    rw [List.map_map]
    rfl
  have la : A.length = lo.length := by simp [A]
  have lb : B.length = hg.length := by simp [B]
  have st := sort_tups (A ++ B) (fun k hk => by
    have hmp := w.pos
    have key : ∀ v x, l.set v x ≠ [] := fun v x q => by
      have := congrArg List.length q
      rw [List.length_set, hl] at this
      simp at this
      omega
    rcases List.mem_append.mp hk with hk | hk
    · obtain ⟨v, _, rfl⟩ := List.mem_map.mp hk
      rw [hf1]
      exact key _ _
    · obtain ⟨v, _, rfl⟩ := List.mem_map.mp hk
      rw [hf2]
      exact key _ _)
  refine ⟨isort leInts (A ++ B), ?_, ?_, fun k => ?_⟩
  · rw [call_eq pm_29]
    have cc := c2 (.fz (.lst (A.map intsT)))
    rw [List.map_append] at st
    generalize hA : A.map intsT = MA at *
    generalize hB : B.map intsT = MB at *
    have lA : MA.length = lo.length := by rw [← hA, List.length_map, la]
    have lB : MB.length = hg.length := by rw [← hB, List.length_map, lb]
    have tA : toDs (MA.map W.fz ++ MB.map W.fz) = MA ++ MB := by rw [← List.map_append, toDs_fz]
    simp only [natsL] at e1 e2
    simp [f_len_l, f_len_t, f_len_p, f_len_s, f_abs, f_max2, f_min2, f_sorted, f_all, f_int_i, f_int_b, f_list_l, f_list_t, f_tuple_l, f_tuple_t, f_ptuple, f_dict_p, f_lrange, d_neg, d_not, d_add_i, d_add_l, d_add_t, d_add_p, d_sub, d_mul_i, d_fdiv, d_mod, d_pow, d_eq, d_ne, d_lt_i, d_lt_t, d_le, d_gt, d_ge, d_in, d_nin, d_is_nn, d_is_in, d_is_ln, d_is_tn, d_ix_l, d_ix_t, d_ix_p, d_ix_s, d_sl_l, d_sl_t, d_sl_p, q_var, q_cst, q_glo, q_un, q_bin, q_cmp, q_chn, q_and, q_or, q_ite, q_idx, q_slc, q_tup, q_lst, q_dic, q_call, q_bf, q_isi, q_get, q_app, q_ext, q_popL, q_popA, q_comp, turn_eq, t_not, t_and, t_or, t_cmp, t_chn, t_call, t_bf, t_isi, t_var, c_nil, c_one, o_nil, o_one, l_nil, l_cons, i_val, i_rng1, i_rng2, i_enu, i_zip, s_asg, s_asgs, s_aug, s_exp, s_del, s_retF, s_retT, s_retN, s_ite, s_whl, s_for, s_brk, s_cnt, s_pass, b_nil, b_cons, w_nm, w_un, w_sub, runF, boolA, res, W.toD, W.at, W.sub, isiD, takeA, takeS, takeC, putC, frzA, frzL, takeL, stoL, ST.own, resL, iosOf, fin_c, own, -List.all_map, fz_all, fz_all2, fz_all3, D.isAtom, W.isFz, W.flat, bindT, wipeG, backG, Arg.simple, pureE, pureL, idxA, stepOf, modP, W.setAt, W.setS, setW, popW, isL, isDc, itemsOf, toDs, toDs_fz, toDs_comp, toDs_fun, all_true, eqD_int, eqD_bl, atI_nat, atI_0, atI_1, atI_2, atI_3, ixN4_0, ixN4_1, ixN4_2, ixN4_3, f_29, e1, e2, c1, cc, t1, t2, sl1, sl2, sl3, lA, lB, tA, st]
  · rw [len_isort, List.length_append, la, lb]
    omega
  · rw [mem_isort, List.mem_append, List.mem_map, List.mem_map]
    constructor
    · rintro (⟨v, hv, e⟩ | ⟨v, hv, e⟩)
      · exact .inl ⟨v, (h1 v).mp hv, by rw [← hf1]; exact e.symm⟩
      · exact .inr ⟨v, (h2 v).mp hv, by rw [← hf2]; exact e.symm⟩
    · rintro (⟨v, hv, e⟩ | ⟨v, hv, e⟩)
      · exact .inl ⟨v, (h1 v).mpr hv, by rw [hf1]; exact e.symm⟩
      · exact .inr ⟨v, (h2 v).mpr hv, by rw [hf2]; exact e.symm⟩
end K08
end PF
end

section
set_option Elab.async false
set_option linter.all false
set_option maxRecDepth 100000
set_option maxHeartbeats 2000000
namespace PF
open PySem L2 K08
/-! ### trees grown, plain -/
theorem Adj.mono {es es' : List (Nat × Nat)} (h : ∀ p ∈ es, p ∈ es') {u v : Nat} (a : Adj es u v) : Adj es' u v := a.elim (fun q => .inl (h _ q)) fun q => .inr (h _ q)
theorem Reach.mono {es es' : List (Nat × Nat)} (h : ∀ p ∈ es, p ∈ es') {s v : Nat} (r : Reach es s v) : Reach es' s v := by
  induction r with
  | here => exact .here
  | step _ a ih => exact .step ih (a.mono h)
def mkH (a b : Nat) : Nat × Nat := if a < b then (a, b) else (b, a)
theorem mkH_lt {a b : Nat} (h : a ≠ b) : (mkH a b).1 < (mkH a b).2 := by
  unfold mkH
  split
  · assumption
  · simp only
    omega
theorem mkH_or (a b : Nat) : mkH a b = (a, b) ∨ mkH a b = (b, a) := by
  unfold mkH
  split
  · exact .inl rfl
  · exact .inr rfl
structure TreeOn (P : List Nat) (s : Nat) (es : List (Nat × Nat)) : Prop where
  inn : ∀ p ∈ es, p.1 < p.2 ∧ p.1 ∈ P ∧ p.2 ∈ P
  rch : ∀ v ∈ P, Reach es s v
  bip : ∃ c : Nat → Bool, ∀ p ∈ es, c p.1 ≠ c p.2
  nd : es.Nodup
theorem TreeOn.one (s : Nat) : TreeOn [s] s [] := ⟨by simp, by
  intro v hv
  have : v = s := by simpa using hv
  subst this
  exact .here, ⟨fun _ => true, by simp⟩, List.nodup_nil⟩
theorem TreeOn.grow {P : List Nat} {s : Nat} {es : List (Nat × Nat)} (t : TreeOn P s es) {a b : Nat} (ha : a ∉ P) (hb : b ∈ P) : TreeOn (P ++ [a]) s (es ++ [mkH a b]) := by
  have ne : a ≠ b := fun q => ha (by rw [q]; exact hb)
  have sub : ∀ p ∈ es, p ∈ es ++ [mkH a b] := fun p hp => by simp [hp]
  refine ⟨fun p hp => ?_, fun v hv => ?_, ?_, ?_⟩
  · rcases List.mem_append.mp hp with hp | hp
    · obtain ⟨h1, h2, h3⟩ := t.inn p hp
      exact ⟨h1, by simp [h2], by simp [h3]⟩
    · have : p = mkH a b := by simpa using hp
      subst this
      refine ⟨mkH_lt ne, ?_⟩
      rcases mkH_or a b with e | e
      · rw [e]
        exact ⟨by simp, by simp [hb]⟩
      · rw [e]
        exact ⟨by simp [hb], by simp⟩
  · rcases List.mem_append.mp hv with hv | hv
    · exact (t.rch v hv).mono sub
    · have : v = a := by simpa using hv
      subst this
      refine .step ((t.rch b hb).mono sub) ?_
      rcases mkH_or v b with e | e
      · rw [e]
        exact .inr (by simp)
      · rw [e]
        exact .inl (by simp)
  · obtain ⟨c, hc⟩ := t.bip
    refine ⟨fun v => if v = a then !c b else c v, fun p hp => ?_⟩
    rcases List.mem_append.mp hp with hp | hp
    · obtain ⟨_, h2, h3⟩ := t.inn p hp
      have e1 : p.1 ≠ a := fun q => ha (by rw [← q]; exact h2)
      have e2 : p.2 ≠ a := fun q => ha (by rw [← q]; exact h3)
      simp only [if_neg e1, if_neg e2]
      exact hc p hp
    · have : p = mkH a b := by simpa using hp
      subst this
      rcases mkH_or a b with e | e
      · rw [e]
        have ne' : ¬ b = a := fun q => ne q.symm
        simp [ne']
      · rw [e]
        have ne' : ¬ b = a := fun q => ne q.symm
        simp [ne']
  · rw [List.nodup_append]
    refine ⟨t.nd, by simp, fun x hx y hy e => ?_⟩
    have : y = mkH a b := by simpa using hy
    subst this
    subst e
    obtain ⟨_, h2, h3⟩ := t.inn _ hx
    rcases mkH_or a b with e | e
    · rw [e] at h2
      exact ha h2
    · rw [e] at h3
      exact ha h3
/-! ### pairs sorted -/
theorem isort_map {α β : Type} {le : β → β → Bool} (f : α → β) : ∀ l : List α, isort le (l.map f) = (isort (fun a b => le (f a) (f b)) l).map f
  | [] => rfl
  | a :: l => by
    have ins : ∀ (x : α) (l : List α), insI le (f x) (l.map f) = (insI (fun a b => le (f a) (f b)) x l).map f := by
      intro x l
      induction l with
      | nil => rfl
      | cons b l ih =>
        show (if le (f x) (f b) then f x :: f b :: l.map f else f b :: insI le (f x) (l.map f)) = _
        rw [ih]
        show _ = (if le (f x) (f b) then x :: b :: l else b :: insI _ x l).map f
        split <;> rfl
    show insI le (f a) (isort le (l.map f)) = _
    rw [isort_map f l, ins]
    rfl
def hInts (p : Nat × Nat) : List Int := [(p.1 : Int), (p.2 : Int)]
theorem hedge_ints (p : Nat × Nat) : hedgeD p = intsT (hInts p) := rfl
theorem hLt_of {p q : Nat × Nat} (h : leInts (hInts p) (hInts q) = true) (ne : p ≠ q) : hLt p q := by
  apply Classical.byContradiction
  intro c
  have : hLt q p := by
    unfold hLt at c ⊢
    have : ¬ (p.1 = q.1 ∧ p.2 = q.2) := fun e => ne (Prod.ext e.1 e.2)
    omega
  have := lex_pair (a := q.1) (b := q.2) (c := p.1) (d := p.2) this
  unfold leInts at h
  have h' : HT.lexLt (hInts q) (hInts p) = false := by simpa using h
  rw [show HT.lexLt (hInts q) (hInts p) = true from this] at h'
  cases h'
theorem sort_hedges {es : List (Nat × Nat)} (nd : es.Nodup) : ∃ es' : List (Nat × Nat), sortD (es.map hedgeD) = some (es'.map hedgeD) ∧ es'.Perm es ∧ es'.Pairwise hLt := by
  have e : es.map hedgeD = (es.map hInts).map intsT := by
    rw [List.map_map]
    rfl
  have h1 := sort_tups (es.map hInts) (fun l hl => by
    obtain ⟨p, _, rfl⟩ := List.mem_map.mp hl
    simp [hInts])
  rw [isort_map hInts es] at h1
  refine ⟨isort (fun a b => leInts (hInts a) (hInts b)) es, ?_, isort_perm es, ?_⟩
  · rw [e, h1, List.map_map]
    rfl
  · have hs := isort_sorted (le := fun a b : Nat × Nat => leInts (hInts a) (hInts b)) (fun a b => leL_tot _ _) (fun a b c => leL_tr _ _ _) es
    have nd' := (isort_perm (le := fun a b : Nat × Nat => leInts (hInts a) (hInts b)) es).nodup_iff.mpr nd
    generalize isort (fun a b : Nat × Nat => leInts (hInts a) (hInts b)) es = l at hs nd'
    exact (hs.and nd').imp fun {a b} h => hLt_of h.1 h.2
/-! ### in a list of pairs -/
theorem lay_hedges : ∀ es : List (Nat × Nat), layDs (es.map hedgeD) = true
  | [] => rfl
  | a :: es => by
    show (true && layDs (es.map hedgeD)) = true
    rw [lay_hedges es]; rfl
theorem dep_hedges : ∀ es : List (Nat × Nat), depDs (es.map hedgeD) ≤ 1
  | [] => by decide
  | a :: es => by
    show max (depD (hedgeD a)) (depDs (es.map hedgeD)) ≤ 1
    have h1 := dep_hedges es
    have h2 : depD (hedgeD a) = 1 := rfl
    omega
theorem eqv_hedge (p q : Nat × Nat) : eqvD (hedgeD p) (hedgeD q) = decide (p = q) := by
  obtain ⟨a, b⟩ := p
  obtain ⟨c, d⟩ := q
  show (((a : Int) == (c : Int)) && (((b : Int) == (d : Int)) && true)) = _
  by_cases h1 : a = c
  · by_cases h2 : b = d
    · simp [h1, h2]
    · have h2' : ¬ (b : Int) = (d : Int) := by omega
      simp [h1, h2, h2']
  · have h1' : ¬ (a : Int) = (c : Int) := by omega
    simp [h1, h1']
theorem in_hedges (p : Nat × Nat) (es : List (Nat × Nat)) : inD (hedgeD p) (.lst (es.map hedgeD)) = some (decide (p ∈ es)) := by
  have h1 : okD (hedgeD p) = true := rfl
  have h2 : okD (.lst (es.map hedgeD)) = true := by
    unfold okD
    have := dep_hedges es
    simp [layD, lay_hedges, depD]
    omega
  show (if okD (hedgeD p) && okD (.lst (es.map hedgeD)) then some ((es.map hedgeD).any fun y => eqvD y (hedgeD p)) else none) = _
  rw [h1, h2]
  simp only [Bool.and_self, if_true, Option.some.injEq]
  rw [Bool.eq_iff_iff]
  simp [eqv_hedge]
/-! ### an order of numbers -/
def unN : D → Nat
  | .int i => i.toNat
  | _ => 0
theorem unN_nat (k : Nat) : unN (natD k) = k := rfl
namespace K08
variable {fu n : Nat}
theorem mixed_nat {w : W} (h : RowOk w) {l0 : List Nat} (h2 : l0.length ≤ 1000) : ∃ (l : List Nat) (w' : W), callF Pm fu (n + 2) 21 [w, .fz (.lst (l0.map natD))] = some (.fz (.lst (l.map natD)), [w']) ∧ l.Perm l0 ∧ RowOk w' := by
  obtain ⟨es, w', e, hp, hw⟩ := mixed_ok (fu := fu) (n := n) h (ds := l0.map natD) (by simpa using h2)
  have e1 : es = (es.map unN).map natD := by
    rw [List.map_map]
    conv => lhs; rw [← List.map_id es]
    refine List.map_congr_left fun d hd => ?_
    obtain ⟨k, _, rfl⟩ := List.mem_map.mp (hp.mem_iff.mp hd)
    rfl
  refine ⟨es.map unN, w', by rw [← e1]; exact e, ?_, hw⟩
  have := hp.map unN
  rw [List.map_map] at this
  have e2 : l0.map (unN ∘ natD) = l0 := by
    conv => rhs; rw [← List.map_id l0]
    rfl
  rw [e2] at this
  exact this
end K08
end PF
end

section
set_option Elab.async false
set_option linter.all false
set_option maxRecDepth 100000
set_option maxHeartbeats 2000000
namespace PF
open PySem L2 K08
def hzW (p : Nat × Nat) : W := .fz (hedgeD p)
namespace K08
variable {fu n : Nat}
def treeB : IB := .cons (.asgs [(.nm 5 false), (.nm 6 false)] (.cons (.idx (.var 3) (.var 2)) (.cons (.idx (.var 3) (.call 19 [.io, .val] (.cons (.var 0) (.cons (.lst false (.cons (.cst (.int 0)) (.cons (.bin .sub (.var 2) (.cst (.int 1))) (.cons (.call 18 [.io, .val] (.cons (.var 0) (.cons (.var 2) .nil))) .nil)))) .nil)))) .nil))) <|
    .cons (.exp (.app false (.var 4) (.tup false (.cons (.bf .min2 (.cons (.var 5) (.cons (.var 6) .nil))) (.cons (.bf .max2 (.cons (.var 5) (.cons (.var 6) .nil))) .nil))))) <|
    .nil
theorem tree_step {w : W} {m : Nat} {l : List Nat} {es : List (Nat × Nat)} {i : Nat} {x y : Option W} (h : RowOk w) (hl : l.length = m) (hm : m ≤ 1000) (h1 : 1 ≤ i) (hi : i < m) (nd : l.Nodup) (he : es.length ≤ 1000) :
    ∃ w' j x' y', ∃ hj : j < i, runB (callF Pm fu (n + 2)) fu treeB [some w, some (.fz (natD m)), some (.fz (natD i)), some (.fz (.lst (l.map natD))), some (.lst (es.map hzW)), x, y] = some (.nx [some w', some (.fz (natD m)), some (.fz (natD i)), some (.fz (.lst (l.map natD))), some (.lst ((es ++ [mkH (l[i]'(by omega)) (l[j]'(by omega))]).map hzW)), x', y']) ∧ RowOk w' := by
  obtain ⟨r, w1, e1, hr, hw1⟩ := taken_nat (fu := fu) (n := n + 1) h h1 (m := i) (by omega)
  obtain ⟨d, w2, e2, hd, hw2⟩ := pick_ok (fu := fu) (n := n) hw1 (ds := [.int 0, .int ((i : Int) - 1), .int (r : Nat)]) (by simp) (by simp)
  obtain ⟨j, hj, rfl⟩ : ∃ j, j < i ∧ d = natD j := by
    simp at hd
    rcases hd with rfl | rfl | rfl
    · exact ⟨0, by omega, rfl⟩
    · refine ⟨i - 1, by omega, ?_⟩
      show D.int _ = D.int _
      congr 1
      omega
    · exact ⟨r, hr, rfl⟩
  have li : i < l.length := by omega
  have lj : j < l.length := by omega
  have ne : l[i] ≠ l[j] := fun q => by
    have := (List.getElem_inj nd).mp q
    omega
  have aa := app_ok (y := hzW (mkH l[i] l[j])) (ws := es.map hzW) (by rw [List.length_map]; omega)
  refine ⟨w2, j, some (.fz (natD l[i])), some (.fz (natD l[j])), hj, ?_, hw2⟩
  simp only [natD] at e1 e2 ⊢
  unfold treeB
  by_cases c : l[i] < l[j]
  · have c2 : ¬ l[j] < l[i] := by omega
    simp only [mkH, if_pos c, hzW, hedgeD, natD] at aa ⊢
    simp [f_len_l, f_len_t, f_len_p, f_len_s, f_abs, f_max2, f_min2, f_sorted, f_all, f_int_i, f_int_b, f_list_l, f_list_t, f_tuple_l, f_tuple_t, f_ptuple, f_dict_p, f_lrange, d_neg, d_not, d_add_i, d_add_l, d_add_t, d_add_p, d_sub, d_mul_i, d_fdiv, d_mod, d_pow, d_eq, d_ne, d_lt_i, d_lt_t, d_le, d_gt, d_ge, d_in, d_nin, d_is_nn, d_is_in, d_is_ln, d_is_tn, d_ix_l, d_ix_t, d_ix_p, d_ix_s, d_sl_l, d_sl_t, d_sl_p, q_var, q_cst, q_glo, q_un, q_bin, q_cmp, q_chn, q_and, q_or, q_ite, q_idx, q_slc, q_tup, q_lst, q_dic, q_call, q_bf, q_isi, q_get, q_app, q_ext, q_popL, q_popA, q_comp, turn_eq, t_not, t_and, t_or, t_cmp, t_chn, t_call, t_bf, t_isi, t_var, c_nil, c_one, o_nil, o_one, l_nil, l_cons, i_val, i_rng1, i_rng2, i_enu, i_zip, s_asg, s_asgs, s_aug, s_exp, s_del, s_retF, s_retT, s_retN, s_ite, s_whl, s_for, s_brk, s_cnt, s_pass, b_nil, b_cons, w_nm, w_un, w_sub, runF, boolA, res, W.toD, W.at, W.sub, isiD, takeA, takeS, takeC, putC, frzA, frzL, takeL, stoL, ST.own, resL, iosOf, fin_c, own, -List.all_map, fz_all, fz_all2, fz_all3, D.isAtom, W.isFz, W.flat, bindT, wipeG, backG, Arg.simple, pureE, pureL, idxA, stepOf, modP, W.setAt, W.setS, setW, popW, isL, isDc, itemsOf, toDs, toDs_fz, toDs_comp, toDs_fun, all_true, eqD_int, eqD_bl, atI_nat, atI_0, atI_1, atI_2, atI_3, ixN4_0, ixN4_1, ixN4_2, ixN4_3, e1, e2, li, lj, c, c2, slk_ok, aa, natD, hzW, hedgeD]
  · have c2 : l[j] < l[i] := by omega
    simp only [mkH, if_neg c, hzW, hedgeD, natD] at aa ⊢
    simp [f_len_l, f_len_t, f_len_p, f_len_s, f_abs, f_max2, f_min2, f_sorted, f_all, f_int_i, f_int_b, f_list_l, f_list_t, f_tuple_l, f_tuple_t, f_ptuple, f_dict_p, f_lrange, d_neg, d_not, d_add_i, d_add_l, d_add_t, d_add_p, d_sub, d_mul_i, d_fdiv, d_mod, d_pow, d_eq, d_ne, d_lt_i, d_lt_t, d_le, d_gt, d_ge, d_in, d_nin, d_is_nn, d_is_in, d_is_ln, d_is_tn, d_ix_l, d_ix_t, d_ix_p, d_ix_s, d_sl_l, d_sl_t, d_sl_p, q_var, q_cst, q_glo, q_un, q_bin, q_cmp, q_chn, q_and, q_or, q_ite, q_idx, q_slc, q_tup, q_lst, q_dic, q_call, q_bf, q_isi, q_get, q_app, q_ext, q_popL, q_popA, q_comp, turn_eq, t_not, t_and, t_or, t_cmp, t_chn, t_call, t_bf, t_isi, t_var, c_nil, c_one, o_nil, o_one, l_nil, l_cons, i_val, i_rng1, i_rng2, i_enu, i_zip, s_asg, s_asgs, s_aug, s_exp, s_del, s_retF, s_retT, s_retN, s_ite, s_whl, s_for, s_brk, s_cnt, s_pass, b_nil, b_cons, w_nm, w_un, w_sub, runF, boolA, res, W.toD, W.at, W.sub, isiD, takeA, takeS, takeC, putC, frzA, frzL, takeL, stoL, ST.own, resL, iosOf, fin_c, own, -List.all_map, fz_all, fz_all2, fz_all3, D.isAtom, W.isFz, W.flat, bindT, wipeG, backG, Arg.simple, pureE, pureL, idxA, stepOf, modP, W.setAt, W.setS, setW, popW, isL, isDc, itemsOf, toDs, toDs_fz, toDs_comp, toDs_fun, all_true, eqD_int, eqD_bl, atI_nat, atI_0, atI_1, atI_2, atI_3, ixN4_0, ixN4_1, ixN4_2, ixN4_3, e1, e2, li, lj, c, c2, slk_ok, aa, natD, hzW, hedgeD]
theorem tree_ok {w : W} {m : Nat} (h : RowOk w) (h1 : 1 ≤ m) (hm : m ≤ 1000) :
    ∃ es w', callF Pm fu (n + 3) 22 [w, .fz (natD m)] = some (.fz (.lst (es.map hedgeD)), [w']) ∧ es.length + 1 = m ∧ Rng m es ∧ Conn m es ∧ (∃ c : Nat → Bool, ∀ p ∈ es, c p.1 ≠ c p.2) ∧ es.Nodup ∧ RowOk w' := by
  obtain ⟨l, w1, e1, hp, hw1⟩ := mixed_nat (fu := fu) (n := n) h (l0 := List.range m) (by simpa using hm)
  have hl : l.length = m := by
    have := hp.length_eq
    simpa using this
  have nd : l.Nodup := hp.nodup_iff.mpr List.nodup_range
  have ne : 0 < l.length := by omega
  let G : W → List (Nat × Nat) → Option W → Option W → Option W → Gam := fun w' es a x y => [some w', some (.fz (natD m)), a, some (.fz (.lst (l.map natD))), some (.lst (es.map hzW)), x, y]
  obtain ⟨g', e, w', es, a, x, y, rfl, hw', hlen, ht⟩ := forL_inv (bind := fun d g => bindT (.nm 2) d g) (body := fun g => runB (callF Pm fu (n + 2)) fu treeB g) (ds := (List.range (m - 1)).map fun k => D.int (1 + (k : Nat))) (g := G w1 [] none none none)
    (fun i g => ∃ (w' : W) (es : List (Nat × Nat)) (a x y : Option W), g = G w' es a x y ∧ RowOk w' ∧ es.length = i ∧ TreeOn (l.take (i + 1)) l[0] es)
    ⟨w1, [], none, none, none, rfl, hw1, rfl, by
      have : l.take (0 + 1) = [l[0]] := by
        cases l with
        | nil => simp at ne
        | cons a l => rfl
      rw [this]
      exact TreeOn.one _⟩
    (by
      rintro i d g hd ⟨w', es, a, x, y, rfl, hw', hlen, ht⟩
      have hi : i < m - 1 := by
        have := (List.getElem?_eq_some_iff.mp hd).1
        simp at this
        omega
      have hd : d = natD (1 + i) := by
        rw [List.getElem?_map] at hd
        have : (List.range (m - 1))[i]? = some i := by
          simp [hi]
        rw [this] at hd
        have hd := Option.some.inj hd
        rw [← hd]
        show D.int _ = D.int _
        congr 1
      subst hd
      obtain ⟨w2, j, x', y', hj, e, hw2⟩ := tree_step (fu := fu) (n := n) (x := x) (y := y) (es := es) hw' hl hm (i := 1 + i) (by omega) (by omega) nd (by omega)
      refine ⟨_, _, rfl, e, w2, _, _, x', y', rfl, hw2, by simp [hlen], ?_⟩
      have li : 1 + i < l.length := by omega
      have tk : l.take (i + 1 + 1) = l.take (i + 1) ++ [l[1 + i]] := by
        have : l[1 + i] = l[i + 1] := by congr 1; omega
        rw [this, List.take_append_getElem]
      rw [tk]
      refine ht.grow ?_ ?_
      · intro q
        obtain ⟨k, hk, q⟩ := List.mem_take_iff_getElem.mp q
        have := (List.getElem_inj nd).mp q
        omega
      · exact List.mem_take_iff_getElem.mpr ⟨j, by omega, rfl⟩)
  simp only [List.length_map, List.length_range] at hlen ht
  have tk : l.take (m - 1 + 1) = l := List.take_of_length_le (by omega)
  rw [tk] at ht
  have all : ∀ v, v < m → v ∈ l := fun v hv => hp.mem_iff.mpr (List.mem_range.mpr hv)
  have lt : ∀ v ∈ l, v < m := fun v hv => List.mem_range.mp (hp.mem_iff.mp hv)
  refine ⟨es, w', ?_, by omega, ⟨fun p hp => ⟨(ht.inn p hp).1, lt _ (ht.inn p hp).2.2⟩⟩, fun v hv => (ht.rch 0 (all 0 h1)).symm.trans (ht.rch v (all v hv)), ht.bip, ht.nd, hw'⟩
  have e' : forQ (callF Pm fu (n + 2)) fu (.nm 2) treeB ((List.range (m - 1)).map fun k => D.int (1 + (k : Nat))) (G w1 [] none none none) = _ := e
  have lr : absLe (m : Int) 10000 = true := absLe_of (by omega)
  have r2 : rngOk2 1 (m : Int) = true := rng2_nat (i := 1) (by omega) (by omega)
  have tt : toDs (es.map hzW) = es.map hedgeD := by
    rw [toDs_map]; rfl
  rw [call_eq pm_22]
  have ll : (List.range m).map natD = (List.range m).map fun i => D.int (i : Nat) := rfl
  rw [ll] at e1
  simp only [G, treeB, natD, List.map_nil] at e1 e' ⊢
  simp [f_len_l, f_len_t, f_len_p, f_len_s, f_abs, f_max2, f_min2, f_sorted, f_all, f_int_i, f_int_b, f_list_l, f_list_t, f_tuple_l, f_tuple_t, f_ptuple, f_dict_p, f_lrange, d_neg, d_not, d_add_i, d_add_l, d_add_t, d_add_p, d_sub, d_mul_i, d_fdiv, d_mod, d_pow, d_eq, d_ne, d_lt_i, d_lt_t, d_le, d_gt, d_ge, d_in, d_nin, d_is_nn, d_is_in, d_is_ln, d_is_tn, d_ix_l, d_ix_t, d_ix_p, d_ix_s, d_sl_l, d_sl_t, d_sl_p, q_var, q_cst, q_glo, q_un, q_bin, q_cmp, q_chn, q_and, q_or, q_ite, q_idx, q_slc, q_tup, q_lst, q_dic, q_call, q_bf, q_isi, q_get, q_app, q_ext, q_popL, q_popA, q_comp, turn_eq, t_not, t_and, t_or, t_cmp, t_chn, t_call, t_bf, t_isi, t_var, c_nil, c_one, o_nil, o_one, l_nil, l_cons, i_val, i_rng1, i_rng2, i_enu, i_zip, s_asg, s_asgs, s_aug, s_exp, s_del, s_retF, s_retT, s_retN, s_ite, s_whl, s_for, s_brk, s_cnt, s_pass, b_nil, b_cons, w_nm, w_un, w_sub, runF, boolA, res, W.toD, W.at, W.sub, isiD, takeA, takeS, takeC, putC, frzA, frzL, takeL, stoL, ST.own, resL, iosOf, fin_c, own, -List.all_map, fz_all, fz_all2, fz_all3, D.isAtom, W.isFz, W.flat, bindT, wipeG, backG, Arg.simple, pureE, pureL, idxA, stepOf, modP, W.setAt, W.setS, setW, popW, isL, isDc, itemsOf, toDs, toDs_fz, toDs_comp, toDs_fun, all_true, eqD_int, eqD_bl, atI_nat, atI_0, atI_1, atI_2, atI_3, ixN4_0, ixN4_1, ixN4_2, ixN4_3, f_22, e1, e', lr, r2, slk_ok, tt]
end K08
end PF
end

section
set_option Elab.async false
set_option linter.all false
set_option maxRecDepth 100000
set_option maxHeartbeats 2000000
namespace PF
open PySem L2 K08
theorem odd_iff (a b : Nat) : ((a : Int) - (b : Int)).fmod 2 = 1 ↔ (a + b) % 2 = 1 := by
  rw [Int.fmod_eq_emod_of_nonneg _ (by omega)]
  omega
namespace K08
variable {fu n : Nat}
def webB : IB := .cons (.asgs [(.nm 7 false), (.nm 8 false)] (.cons (.call 18 [.io, .val] (.cons (.var 0) (.cons (.var 2) .nil))) (.cons (.call 18 [.io, .val] (.cons (.var 0) (.cons (.var 2) .nil))) .nil))) <|
    .cons (.ite (.and (.cmp .eq (.bin .mod (.bin .sub (.idx (.var 5) (.var 7)) (.idx (.var 5) (.var 8))) (.cst (.int 2))) (.cst (.int 1))) (.cmp .notIn (.tup false (.cons (.bf .min2 (.cons (.var 7) (.cons (.var 8) .nil))) (.cons (.bf .max2 (.cons (.var 7) (.cons (.var 8) .nil))) .nil))) (.var 6))) (.cons (.exp (.app false (.var 6) (.tup false (.cons (.bf .min2 (.cons (.var 7) (.cons (.var 8) .nil))) (.cons (.bf .max2 (.cons (.var 7) (.cons (.var 8) .nil))) .nil))))) <|
      .nil) .nil) <|
    .nil
theorem web_step {w b c e : W} {m : Nat} {d : List Nat} {es : List (Nat × Nat)} {a x y : Option W} (h : RowOk w) (hd : d.length = m) (h1 : 1 ≤ m) (hm : m ≤ 1000) (he : es.length ≤ 5000) :
    ∃ w' es' x' y', runB (callF Pm fu (n + 2)) fu webB [some w, some b, some (.fz (natD m)), some c, a, some (.fz (natsL d)), some (.lst (es.map hzW)), x, y] = some (.nx [some w', some b, some (.fz (natD m)), some c, a, some (.fz (natsL d)), some (.lst (es'.map hzW)), x', y']) ∧ RowOk w' ∧ (es' = es ∨ ∃ p : Nat × Nat, es' = es ++ [p] ∧ p ∉ es ∧ p.1 < p.2 ∧ p.2 < m ∧ (d.getD p.1 0 + d.getD p.2 0) % 2 = 1) := by
  obtain ⟨r1, w1, e1, hr1, hw1⟩ := taken_nat (fu := fu) (n := n + 1) h h1 (m := m) (by omega)
  obtain ⟨r2, w2, e2, hr2, hw2⟩ := taken_nat (fu := fu) (n := n + 1) hw1 h1 (m := m) (by omega)
  have l1 : r1 < d.length := by omega
  have l2 : r2 < d.length := by omega
  have od := odd_iff d[r1] d[r2]
  have g1 : d.getD r1 0 = d[r1] := by simp [l1]
  have g2 : d.getD r2 0 = d[r2] := by simp [l2]
  have tt : toDs (es.map hzW) = es.map hedgeD := by
    rw [toDs_map]; rfl
  have inn := in_hedges (mkH r1 r2) es
  have aa := app_ok (y := hzW (mkH r1 r2)) (ws := es.map hzW) (by rw [List.length_map]; omega)
  by_cases c1 : (d[r1] + d[r2]) % 2 = 1
  · have ne : r1 ≠ r2 := fun q => by
      subst q
      omega
    have k1 := od.mpr c1
    by_cases c2 : mkH r1 r2 ∈ es
    · refine ⟨w2, es, some (.fz (natD r1)), some (.fz (natD r2)), ?_, hw2, .inl rfl⟩
      rw [decide_eq_true c2] at inn
      by_cases c : r1 < r2
      · have c2 : ¬ r2 < r1 := by omega
        simp only [mkH, if_pos c, hzW, hedgeD, natD, natsL] at e1 e2 aa inn ⊢
        simp [f_len_l, f_len_t, f_len_p, f_len_s, f_abs, f_max2, f_min2, f_sorted, f_all, f_int_i, f_int_b, f_list_l, f_list_t, f_tuple_l, f_tuple_t, f_ptuple, f_dict_p, f_lrange, d_neg, d_not, d_add_i, d_add_l, d_add_t, d_add_p, d_sub, d_mul_i, d_fdiv, d_mod, d_pow, d_eq, d_ne, d_lt_i, d_lt_t, d_le, d_gt, d_ge, d_in, d_nin, d_is_nn, d_is_in, d_is_ln, d_is_tn, d_ix_l, d_ix_t, d_ix_p, d_ix_s, d_sl_l, d_sl_t, d_sl_p, q_var, q_cst, q_glo, q_un, q_bin, q_cmp, q_chn, q_and, q_or, q_ite, q_idx, q_slc, q_tup, q_lst, q_dic, q_call, q_bf, q_isi, q_get, q_app, q_ext, q_popL, q_popA, q_comp, turn_eq, t_not, t_and, t_or, t_cmp, t_chn, t_call, t_bf, t_isi, t_var, c_nil, c_one, o_nil, o_one, l_nil, l_cons, i_val, i_rng1, i_rng2, i_enu, i_zip, s_asg, s_asgs, s_aug, s_exp, s_del, s_retF, s_retT, s_retN, s_ite, s_whl, s_for, s_brk, s_cnt, s_pass, b_nil, b_cons, w_nm, w_un, w_sub, runF, boolA, res, W.toD, W.at, W.sub, isiD, takeA, takeS, takeC, putC, frzA, frzL, takeL, stoL, ST.own, resL, iosOf, fin_c, own, -List.all_map, fz_all, fz_all2, fz_all3, D.isAtom, W.isFz, W.flat, bindT, wipeG, backG, Arg.simple, pureE, pureL, idxA, stepOf, modP, W.setAt, W.setS, setW, popW, isL, isDc, itemsOf, toDs, toDs_fz, toDs_comp, toDs_fun, all_true, eqD_int, eqD_bl, atI_nat, atI_0, atI_1, atI_2, atI_3, ixN4_0, ixN4_1, ixN4_2, ixN4_3, webB, natD, hzW, hedgeD, e1, e2, l1, l2, k1, c, c2, slk_ok, tt, inn]
      · have c2 : r2 < r1 := by omega
        simp only [mkH, if_neg c, hzW, hedgeD, natD, natsL] at e1 e2 aa inn ⊢
        simp [f_len_l, f_len_t, f_len_p, f_len_s, f_abs, f_max2, f_min2, f_sorted, f_all, f_int_i, f_int_b, f_list_l, f_list_t, f_tuple_l, f_tuple_t, f_ptuple, f_dict_p, f_lrange, d_neg, d_not, d_add_i, d_add_l, d_add_t, d_add_p, d_sub, d_mul_i, d_fdiv, d_mod, d_pow, d_eq, d_ne, d_lt_i, d_lt_t, d_le, d_gt, d_ge, d_in, d_nin, d_is_nn, d_is_in, d_is_ln, d_is_tn, d_ix_l, d_ix_t, d_ix_p, d_ix_s, d_sl_l, d_sl_t, d_sl_p, q_var, q_cst, q_glo, q_un, q_bin, q_cmp, q_chn, q_and, q_or, q_ite, q_idx, q_slc, q_tup, q_lst, q_dic, q_call, q_bf, q_isi, q_get, q_app, q_ext, q_popL, q_popA, q_comp, turn_eq, t_not, t_and, t_or, t_cmp, t_chn, t_call, t_bf, t_isi, t_var, c_nil, c_one, o_nil, o_one, l_nil, l_cons, i_val, i_rng1, i_rng2, i_enu, i_zip, s_asg, s_asgs, s_aug, s_exp, s_del, s_retF, s_retT, s_retN, s_ite, s_whl, s_for, s_brk, s_cnt, s_pass, b_nil, b_cons, w_nm, w_un, w_sub, runF, boolA, res, W.toD, W.at, W.sub, isiD, takeA, takeS, takeC, putC, frzA, frzL, takeL, stoL, ST.own, resL, iosOf, fin_c, own, -List.all_map, fz_all, fz_all2, fz_all3, D.isAtom, W.isFz, W.flat, bindT, wipeG, backG, Arg.simple, pureE, pureL, idxA, stepOf, modP, W.setAt, W.setS, setW, popW, isL, isDc, itemsOf, toDs, toDs_fz, toDs_comp, toDs_fun, all_true, eqD_int, eqD_bl, atI_nat, atI_0, atI_1, atI_2, atI_3, ixN4_0, ixN4_1, ixN4_2, ixN4_3, webB, natD, hzW, hedgeD, e1, e2, l1, l2, k1, c, c2, slk_ok, tt, inn]
    · refine ⟨w2, es ++ [mkH r1 r2], some (.fz (natD r1)), some (.fz (natD r2)), ?_, hw2, .inr ⟨_, rfl, c2, mkH_lt ne, ?_, ?_⟩⟩
      · rw [decide_eq_false c2] at inn
        by_cases c : r1 < r2
        · have c2 : ¬ r2 < r1 := by omega
          simp only [mkH, if_pos c, hzW, hedgeD, natD, natsL] at e1 e2 aa inn ⊢
          simp [f_len_l, f_len_t, f_len_p, f_len_s, f_abs, f_max2, f_min2, f_sorted, f_all, f_int_i, f_int_b, f_list_l, f_list_t, f_tuple_l, f_tuple_t, f_ptuple, f_dict_p, f_lrange, d_neg, d_not, d_add_i, d_add_l, d_add_t, d_add_p, d_sub, d_mul_i, d_fdiv, d_mod, d_pow, d_eq, d_ne, d_lt_i, d_lt_t, d_le, d_gt, d_ge, d_in, d_nin, d_is_nn, d_is_in, d_is_ln, d_is_tn, d_ix_l, d_ix_t, d_ix_p, d_ix_s, d_sl_l, d_sl_t, d_sl_p, q_var, q_cst, q_glo, q_un, q_bin, q_cmp, q_chn, q_and, q_or, q_ite, q_idx, q_slc, q_tup, q_lst, q_dic, q_call, q_bf, q_isi, q_get, q_app, q_ext, q_popL, q_popA, q_comp, turn_eq, t_not, t_and, t_or, t_cmp, t_chn, t_call, t_bf, t_isi, t_var, c_nil, c_one, o_nil, o_one, l_nil, l_cons, i_val, i_rng1, i_rng2, i_enu, i_zip, s_asg, s_asgs, s_aug, s_exp, s_del, s_retF, s_retT, s_retN, s_ite, s_whl, s_for, s_brk, s_cnt, s_pass, b_nil, b_cons, w_nm, w_un, w_sub, runF, boolA, res, W.toD, W.at, W.sub, isiD, takeA, takeS, takeC, putC, frzA, frzL, takeL, stoL, ST.own, resL, iosOf, fin_c, own, -List.all_map, fz_all, fz_all2, fz_all3, D.isAtom, W.isFz, W.flat, bindT, wipeG, backG, Arg.simple, pureE, pureL, idxA, stepOf, modP, W.setAt, W.setS, setW, popW, isL, isDc, itemsOf, toDs, toDs_fz, toDs_comp, toDs_fun, all_true, eqD_int, eqD_bl, atI_nat, atI_0, atI_1, atI_2, atI_3, ixN4_0, ixN4_1, ixN4_2, ixN4_3, webB, natD, hzW, hedgeD, e1, e2, l1, l2, k1, c, c2, slk_ok, tt, inn, aa]
        · have c2 : r2 < r1 := by omega
          simp only [mkH, if_neg c, hzW, hedgeD, natD, natsL] at e1 e2 aa inn ⊢
          simp [f_len_l, f_len_t, f_len_p, f_len_s, f_abs, f_max2, f_min2, f_sorted, f_all, f_int_i, f_int_b, f_list_l, f_list_t, f_tuple_l, f_tuple_t, f_ptuple, f_dict_p, f_lrange, d_neg, d_not, d_add_i, d_add_l, d_add_t, d_add_p, d_sub, d_mul_i, d_fdiv, d_mod, d_pow, d_eq, d_ne, d_lt_i, d_lt_t, d_le, d_gt, d_ge, d_in, d_nin, d_is_nn, d_is_in, d_is_ln, d_is_tn, d_ix_l, d_ix_t, d_ix_p, d_ix_s, d_sl_l, d_sl_t, d_sl_p, q_var, q_cst, q_glo, q_un, q_bin, q_cmp, q_chn, q_and, q_or, q_ite, q_idx, q_slc, q_tup, q_lst, q_dic, q_call, q_bf, q_isi, q_get, q_app, q_ext, q_popL, q_popA, q_comp, turn_eq, t_not, t_and, t_or, t_cmp, t_chn, t_call, t_bf, t_isi, t_var, c_nil, c_one, o_nil, o_one, l_nil, l_cons, i_val, i_rng1, i_rng2, i_enu, i_zip, s_asg, s_asgs, s_aug, s_exp, s_del, s_retF, s_retT, s_retN, s_ite, s_whl, s_for, s_brk, s_cnt, s_pass, b_nil, b_cons, w_nm, w_un, w_sub, runF, boolA, res, W.toD, W.at, W.sub, isiD, takeA, takeS, takeC, putC, frzA, frzL, takeL, stoL, ST.own, resL, iosOf, fin_c, own, -List.all_map, fz_all, fz_all2, fz_all3, D.isAtom, W.isFz, W.flat, bindT, wipeG, backG, Arg.simple, pureE, pureL, idxA, stepOf, modP, W.setAt, W.setS, setW, popW, isL, isDc, itemsOf, toDs, toDs_fz, toDs_comp, toDs_fun, all_true, eqD_int, eqD_bl, atI_nat, atI_0, atI_1, atI_2, atI_3, ixN4_0, ixN4_1, ixN4_2, ixN4_3, webB, natD, hzW, hedgeD, e1, e2, l1, l2, k1, c, c2, slk_ok, tt, inn, aa]
      · rcases mkH_or r1 r2 with q | q <;> rw [q] <;> simpa using by assumption
      · rcases mkH_or r1 r2 with q | q
        · rw [q, g1, g2]; exact c1
        · rw [q, g1, g2]; omega
  · refine ⟨w2, es, some (.fz (natD r1)), some (.fz (natD r2)), ?_, hw2, .inl rfl⟩
    have k1 : ¬ ((d[r1] : Int) - (d[r2] : Int)).fmod 2 = 1 := fun q => c1 (od.mp q)
    simp only [natD, natsL, hzW] at e1 e2 ⊢
    simp [f_len_l, f_len_t, f_len_p, f_len_s, f_abs, f_max2, f_min2, f_sorted, f_all, f_int_i, f_int_b, f_list_l, f_list_t, f_tuple_l, f_tuple_t, f_ptuple, f_dict_p, f_lrange, d_neg, d_not, d_add_i, d_add_l, d_add_t, d_add_p, d_sub, d_mul_i, d_fdiv, d_mod, d_pow, d_eq, d_ne, d_lt_i, d_lt_t, d_le, d_gt, d_ge, d_in, d_nin, d_is_nn, d_is_in, d_is_ln, d_is_tn, d_ix_l, d_ix_t, d_ix_p, d_ix_s, d_sl_l, d_sl_t, d_sl_p, q_var, q_cst, q_glo, q_un, q_bin, q_cmp, q_chn, q_and, q_or, q_ite, q_idx, q_slc, q_tup, q_lst, q_dic, q_call, q_bf, q_isi, q_get, q_app, q_ext, q_popL, q_popA, q_comp, turn_eq, t_not, t_and, t_or, t_cmp, t_chn, t_call, t_bf, t_isi, t_var, c_nil, c_one, o_nil, o_one, l_nil, l_cons, i_val, i_rng1, i_rng2, i_enu, i_zip, s_asg, s_asgs, s_aug, s_exp, s_del, s_retF, s_retT, s_retN, s_ite, s_whl, s_for, s_brk, s_cnt, s_pass, b_nil, b_cons, w_nm, w_un, w_sub, runF, boolA, res, W.toD, W.at, W.sub, isiD, takeA, takeS, takeC, putC, frzA, frzL, takeL, stoL, ST.own, resL, iosOf, fin_c, own, -List.all_map, fz_all, fz_all2, fz_all3, D.isAtom, W.isFz, W.flat, bindT, wipeG, backG, Arg.simple, pureE, pureL, idxA, stepOf, modP, W.setAt, W.setS, setW, popW, isL, isDc, itemsOf, toDs, toDs_fz, toDs_comp, toDs_fun, all_true, eqD_int, eqD_bl, atI_nat, atI_0, atI_1, atI_2, atI_3, ixN4_0, ixN4_1, ixN4_2, ixN4_3, webB, natD, hzW, hedgeD, e1, e2, l1, l2, k1, slk_ok]
/-- what stands while hedges are laid to a tree -/
structure Laid (m : Nat) (t : List (Nat × Nat)) (d : List Nat) (es : List (Nat × Nat)) : Prop where
  sub : ∀ p ∈ t, p ∈ es
  lt : ∀ p ∈ es, p.1 < p.2 ∧ p.2 < m
  odd : ∀ p ∈ es, (d.getD p.1 0 + d.getD p.2 0) % 2 = 1
  nd : es.Nodup
theorem web_ok {w : W} {M : Nat} (h : RowOk w) (h1 : 1 ≤ M) (hM : M ≤ 40) (hfu : 41 < fu) :
    ∃ m es w', callF Pm fu (n + 4) 23 [w, .fz (.int (M : Nat))] = some (.fz (webD m es), [w']) ∧ WebOk m es ∧ m ≤ M ∧ es.length ≤ 3 * m + 2 ∧ RowOk w' := by
  obtain ⟨r, w1, e1, hr, hw1⟩ := taken_nat (fu := fu) (n := n + 2) h h1 (m := M) (by omega)
  have hm1 : 1 ≤ 1 + r := by omega
  obtain ⟨t, w2, e2, tl, tr, tc, tb, tn, hw2⟩ := tree_ok (fu := fu) (n := n) hw1 hm1 (by omega)
  obtain ⟨ts, e3, tp, tsort⟩ := sort_hedges tn
  have rts : Rng (1 + r) ts := ⟨fun p hp => tr.lt p (tp.mem_iff.mp hp)⟩
  have cts : Conn (1 + r) ts := fun v hv => (tc v hv).mono fun p hp => tp.mem_iff.mpr hp
  obtain ⟨d, e4, hd⟩ := far_ok (fu := fu) (n := n + 1) (m := 1 + r) (s := 0) rts cts (by rw [tp.length_eq]; omega) (by omega) (by omega) (by omega)
  obtain ⟨k0, w3, e5, hk0, hw3⟩ := pick_ok (fu := fu) (n := n + 1) hw2 (ds := [.int 0, .int 0, .int 1, .int 2, .int ((1 + r : Nat) : Int)]) (by simp) (by simp)
  obtain ⟨k, hk, rfl⟩ : ∃ k : Nat, k ≤ 2 + r ∧ k0 = natD k := by
    simp at hk0
    rcases hk0 with rfl | rfl | rfl | rfl
    · exact ⟨0, by omega, rfl⟩
    · exact ⟨1, by omega, rfl⟩
    · exact ⟨2, by omega, rfl⟩
    · refine ⟨1 + r, by omega, ?_⟩
      show D.int _ = D.int _
      congr 1
  let G : W → List (Nat × Nat) → Option W → Option W → Option W → Gam := fun w' es a x y => [some w', some (.fz (natD M)), some (.fz (natD (1 + r))), some (.fz (.lst (t.map hedgeD))), a, some (.fz (natsL d)), some (.lst (es.map hzW)), x, y]
  have par : ∀ p ∈ t, (d.getD p.1 0 + d.getD p.2 0) % 2 = 1 := fun p hp => by
    obtain ⟨c, hc⟩ := tb
    have := bip_par rts ⟨c, fun p hp => hc p (tp.mem_iff.mp hp)⟩ hd (u := p.1) (v := p.2) (.inl (tp.mem_iff.mpr hp))
    omega
  obtain ⟨g', e, w', es, a, x, y, rfl, hw', hlen, hl⟩ := forL_inv (bind := fun d g => bindT (.nm 4) d g) (body := fun g => runB (callF Pm fu (n + 3)) fu webB g) (ds := (List.range k).map fun k => D.int (k : Nat)) (g := G w3 t none none none)
    (fun i g => ∃ (w' : W) (es : List (Nat × Nat)) (a x y : Option W), g = G w' es a x y ∧ RowOk w' ∧ es.length ≤ r + i ∧ Laid (1 + r) t d es)
    ⟨w3, t, none, none, none, rfl, hw3, by omega, fun _ h => h, tr.lt, par, tn⟩
    (by
      rintro i x g hx ⟨w', es, a, b, c, rfl, hw', hlen, hl⟩
      have hi : i < k := by
        have := (List.getElem?_eq_some_iff.mp hx).1
        simpa using this
      obtain ⟨w2, es', x', y', e, hw2, hes⟩ := web_step (fu := fu) (n := n + 1) (b := .fz (natD M)) (c := .fz (.lst (t.map hedgeD))) (e := .fz .non) (d := d) (es := es) (a := some (.fz x)) (x := b) (y := c) hw' hd.len hm1 (by omega) (by omega)
      refine ⟨_, _, rfl, e, w2, es', _, x', y', rfl, hw2, ?_, ?_⟩
      · rcases hes with rfl | ⟨p, rfl, _⟩
        · omega
        · simp
          omega
      · rcases hes with rfl | ⟨p, rfl, hp, p1, p2, p3⟩
        · exact hl
        · refine ⟨fun q hq => by simp [hl.sub q hq], fun q hq => ?_, fun q hq => ?_, ?_⟩
          · rcases List.mem_append.mp hq with hq | hq
            · exact hl.lt q hq
            · have : q = p := by simpa using hq
              subst this
              exact ⟨p1, p2⟩
          · rcases List.mem_append.mp hq with hq | hq
            · exact hl.odd q hq
            · have : q = p := by simpa using hq
              subst this
              exact p3
          · rw [List.nodup_append]
            refine ⟨hl.nd, by simp, fun x hx y hy q => hp ?_⟩
            have : y = p := by simpa using hy
            rw [← this, ← q]
            exact hx)
  simp only [List.length_map, List.length_range] at hlen
  obtain ⟨es', e6, hp, hsort⟩ := sort_hedges hl.nd
  refine ⟨1 + r, es', w', ?_, ⟨⟨fun p hq => hl.lt p (hp.mem_iff.mp hq)⟩, fun v hv => (tc v hv).mono fun p hq => hp.mem_iff.mpr (hl.sub p hq), hm1, by omega, hsort, ⟨fun v => decide (d.getD v 0 % 2 = 1), fun p hq c => ?_⟩, by rw [hp.length_eq]; omega⟩, by omega, by rw [hp.length_eq]; omega, hw'⟩
  · have e' : forQ (callF Pm fu (n + 3)) fu (.nm 4) webB ((List.range k).map fun k => D.int (k : Nat)) (G w3 t none none none) = _ := e
    have rr := rng_nat (k := k) (by omega)
    have tt : toDs (es.map hzW) = es.map hedgeD := by
      rw [toDs_map]; rfl
    have cast : ((1 + r : Nat) : Int) = 1 + (r : Int) := by omega
    have e4 : callF Pm fu (n + 3) 25 [.fz (.tup [natD (1 + r), .tup (ts.map hedgeD)]), .fz (natD 0)] = some (.fz (natsL d), []) := e4
    show callF Pm fu (n + 4) 23 [w, .fz (.int (M : Nat))] = some (.fz (.tup [natD (1 + r), .tup (es'.map hedgeD)]), [w'])
    rw [show natD 0 = D.int 0 from rfl] at e4
    rw [call_eq pm_23]
    have hz : (t.map hedgeD).map W.fz = t.map hzW := by
      rw [List.map_map]; rfl
    have fl : (es.map hzW).all W.isFz = true := by
      rw [List.all_eq_true]
      intro x hx
      obtain ⟨p, _, rfl⟩ := List.mem_map.mp hx
      rfl
    simp only [G, webB, natD, natsL, cast] at e1 e2 e4 e5 e' ⊢
    simp [f_len_l, f_len_t, f_len_p, f_len_s, f_abs, f_max2, f_min2, f_sorted, f_all, f_int_i, f_int_b, f_list_l, f_list_t, f_tuple_l, f_tuple_t, f_ptuple, f_dict_p, f_lrange, d_neg, d_not, d_add_i, d_add_l, d_add_t, d_add_p, d_sub, d_mul_i, d_fdiv, d_mod, d_pow, d_eq, d_ne, d_lt_i, d_lt_t, d_le, d_gt, d_ge, d_in, d_nin, d_is_nn, d_is_in, d_is_ln, d_is_tn, d_ix_l, d_ix_t, d_ix_p, d_ix_s, d_sl_l, d_sl_t, d_sl_p, q_var, q_cst, q_glo, q_un, q_bin, q_cmp, q_chn, q_and, q_or, q_ite, q_idx, q_slc, q_tup, q_lst, q_dic, q_call, q_bf, q_isi, q_get, q_app, q_ext, q_popL, q_popA, q_comp, turn_eq, t_not, t_and, t_or, t_cmp, t_chn, t_call, t_bf, t_isi, t_var, c_nil, c_one, o_nil, o_one, l_nil, l_cons, i_val, i_rng1, i_rng2, i_enu, i_zip, s_asg, s_asgs, s_aug, s_exp, s_del, s_retF, s_retT, s_retN, s_ite, s_whl, s_for, s_brk, s_cnt, s_pass, b_nil, b_cons, w_nm, w_un, w_sub, runF, boolA, res, W.toD, W.at, W.sub, isiD, takeA, takeS, takeC, putC, frzA, frzL, takeL, stoL, ST.own, resL, iosOf, fin_c, own, -List.all_map, fz_all, fz_all2, fz_all3, D.isAtom, W.isFz, W.flat, bindT, wipeG, backG, Arg.simple, pureE, pureL, idxA, stepOf, modP, W.setAt, W.setS, setW, popW, isL, isDc, itemsOf, toDs, toDs_fz, toDs_comp, toDs_fun, all_true, eqD_int, eqD_bl, atI_nat, atI_0, atI_1, atI_2, atI_3, ixN4_0, ixN4_1, ixN4_2, ixN4_3, fl, f_23, e1, e2, e3, e4, e5, e', e6, rr, slk_ok, tt, hz]
  · have := hl.odd p (hp.mem_iff.mp hq)
    have c := decide_eq_decide.mp c
    omega
end K08
end PF
end

section
set_option Elab.async false
set_option linter.all false
set_option maxRecDepth 100000
set_option maxHeartbeats 2000000
namespace PF
open PySem L2 K08
/-! ### fillings, plain -/
theorem getI {l : List Int} {v : Nat} (h : v < l.length) : l.getD v 0 = l[v] := by simp [h]
theorem getN {l : List Nat} {v : Nat} (h : v < l.length) : l.getD v 0 = l[v] := by simp [h]
structure Fil (m : Nat) (es : List (Nat × Nat)) (hh : Int) (told : List Nat) (B : Int) (l : List Int) : Prop where
  len : l.length = m
  par : ∀ v, v < m → (l.getD v 0 + hh + (told.getD v 0 : Nat)) % 2 = 0
  near : ∀ u v, Adj es u v → l.getD u 0 - l.getD v 0 ≤ 1
  bd : ∀ v, v < m → -B ≤ l.getD v 0 ∧ l.getD v 0 ≤ B
theorem Fil.step {m es hh told B l} (w : WebOk m es) (ht : IsDist m es 0 told) (f : Fil m es hh told B l) {u v : Nat} (a : Adj es u v) : l.getD u 0 - l.getD v 0 = 1 ∨ l.getD v 0 - l.getD u 0 = 1 := by
  have h1 := f.near u v a
  have h2 := f.near v u a.symm
  have p1 := f.par u (w.rng.adj a).1
  have p2 := f.par v (w.rng.adj a).2
  have := w.par ht a
  omega
theorem Fil.lay {m es hh told B l} (w : WebOk m es) (ht : IsDist m es 0 told) (f : Fil m es hh told B l) : LayOk m es B l := by
  refine ⟨f.len, fun x hx => ?_, fun p hp => f.step w ht (.inl hp)⟩
  obtain ⟨v, hv, rfl⟩ := List.getElem_of_mem hx
  have := f.bd v (by rw [← f.len]; exact hv)
  rw [getI hv] at this
  exact this
/-- the parity of two distances -/
theorem par_two {m es s d told} (w : WebOk m es) (ht : IsDist m es 0 told) (hd : IsDist m es s d) {v : Nat} (hv : v < m) : (told.getD v 0 + told.getD s 0 + d.getD v 0) % 2 = 0 := by
  have key : ∀ v, Reach es s v → v < m → (told.getD v 0 + told.getD s 0 + d.getD v 0) % 2 = 0 := by
    intro v r
    induction r with
    | here => intro _; rw [hd.src]; omega
    | step r a ih =>
      intro hv
      have := ih (w.rng.adj a).1
      have := w.par ht a
      have := w.par hd a
      omega
  exact key v (w.conn.all hd.lt hv) hv
theorem fil_some {m es s d told} {hh q : Int} (w : WebOk m es) (ht : IsDist m es 0 told) (hd : IsDist m es s d) (h1 : 0 ≤ hh) (h2 : hh ≤ 1) (q1 : -2 ≤ q) (q2 : q ≤ 2) (sg : Bool) : Fil m es hh told 100 (d.map fun (k : Nat) => if sg then hh + (told.getD s 0 : Nat) + 2 * q + (k : Int) else hh + (told.getD s 0 : Nat) + 2 * q - (k : Int)) := by
  have hg : ∀ v, v < m → (d.map fun (k : Nat) => if sg then hh + (told.getD s 0 : Nat) + 2 * q + (k : Int) else hh + (told.getD s 0 : Nat) + 2 * q - (k : Int)).getD v 0 = if sg then hh + (told.getD s 0 : Nat) + 2 * q + (d.getD v 0 : Nat) else hh + (told.getD s 0 : Nat) + 2 * q - (d.getD v 0 : Nat) := fun v hv => by
    have hv : v < d.length := by rw [hd.len]; exact hv
    rw [getI (by simpa using hv), getN hv]
    simp
  have hm := w.most
  refine ⟨by simp [hd.len], fun v hv => ?_, fun u v a => ?_, fun v hv => ?_⟩
  · rw [hg v hv]
    have := par_two w ht hd hv
    split <;> omega
  · rw [hg u (w.rng.adj a).1, hg v (w.rng.adj a).2]
    have := w.par hd a
    split <;> omega
  · rw [hg v hv]
    have := hd.lt_n w.rng hv
    have := ht.lt_n w.rng hd.lt
    split <;> omega
def op (sg : Bool) (a b : Int) : Int := if sg then (if b < a then b else a) else (if b > a then b else a)
theorem getZip {l k : List Int} {f : Int → Int → Int} {v : Nat} (h1 : v < l.length) (h2 : v < k.length) : ((l.zip k).map fun p => f p.1 p.2).getD v 0 = f (l.getD v 0) (k.getD v 0) := by
  rw [getI (by simp; omega), getI h1, getI h2]
  simp
theorem fil_op {m es hh told B l k} (w : WebOk m es) (a : Fil m es hh told B l) (b : Fil m es hh told B k) (sg : Bool) : Fil m es hh told B ((l.zip k).map fun p => op sg p.1 p.2) := by
  have hg : ∀ v, v < m → ((l.zip k).map fun p => op sg p.1 p.2).getD v 0 = op sg (l.getD v 0) (k.getD v 0) := fun v hv => getZip (by rw [a.len]; exact hv) (by rw [b.len]; exact hv)
  refine ⟨by simp [a.len, b.len], fun v hv => ?_, fun u v ad => ?_, fun v hv => ?_⟩
  · rw [hg v hv]
    have := a.par v hv
    have := b.par v hv
    unfold op
    split <;> split <;> assumption
  · rw [hg u (w.rng.adj ad).1, hg v (w.rng.adj ad).2]
    have := a.near u v ad
    have := b.near u v ad
    unfold op
    split <;> split <;> split <;> omega
  · rw [hg v hv]
    have := a.bd v hv
    have := b.bd v hv
    unfold op
    split <;> split <;> omega
/-- one deed -/
theorem fil_up {m es hh told B l} (w : WebOk m es) (ht : IsDist m es 0 told) (f : Fil m es hh told B l) {v : Nat} (hv : v < m) (lo : ∀ u, Adj es v u → ¬ l.getD u 0 < l.getD v 0) : Fil m es hh told (B + 2) (l.set v (l.getD v 0 + 2)) := by
  have vl : v < l.length := by rw [f.len]; exact hv
  refine ⟨by simp [f.len], fun x hx => ?_, fun x y a => ?_, fun x hx => ?_⟩
  · rw [getD_set vl]
    have := f.par x hx
    split
    · rename_i e; subst e; omega
    · exact this
  · rw [getD_set vl, getD_set vl]
    have ne := w.rng.ne a
    have s := f.step w ht a
    split
    · rename_i e
      subst e
      rw [if_neg (fun q => ne q.symm)]
      have := lo y a
      omega
    · split
      · rename_i _ e
        subst e
        have := lo x a.symm
        omega
      · omega
  · rw [getD_set vl]
    have := f.bd x hx
    split
    · rename_i e; subst e; omega
    · omega
theorem fil_down {m es hh told B l} (w : WebOk m es) (ht : IsDist m es 0 told) (f : Fil m es hh told B l) {v : Nat} (hv : v < m) (lo : ∀ u, Adj es v u → ¬ l.getD v 0 < l.getD u 0) : Fil m es hh told (B + 2) (l.set v (l.getD v 0 + -2)) := by
  have vl : v < l.length := by rw [f.len]; exact hv
  refine ⟨by simp [f.len], fun x hx => ?_, fun x y a => ?_, fun x hx => ?_⟩
  · rw [getD_set vl]
    have := f.par x hx
    split
    · rename_i e; subst e; omega
    · exact this
  · rw [getD_set vl, getD_set vl]
    have ne := w.rng.ne a
    have s := f.step w ht a
    split
    · rename_i e
      subst e
      rw [if_neg (fun q => ne q.symm)]
      have := lo y a
      omega
    · split
      · rename_i _ e
        subst e
        have := lo x a.symm
        omega
      · omega
  · rw [getD_set vl]
    have := f.bd x hx
    split
    · rename_i e; subst e; omega
    · omega
/-- a lowest place -/
theorem low_one (l : List Int) (ne : 0 < l.length) : ∃ v, v < l.length ∧ ∀ u, u < l.length → l.getD v 0 ≤ l.getD u 0 := by
  induction l with
  | nil => cases ne
  | cons a l ih =>
    by_cases c : 0 < l.length
    · obtain ⟨v, hv, h⟩ := ih c
      by_cases d : a ≤ l.getD v 0
      · refine ⟨0, by simp, fun u hu => ?_⟩
        cases u with
        | zero => exact Int.le_refl _
        | succ u =>
          have := h u (by simpa using hu)
          show a ≤ l.getD u 0
          omega
      · refine ⟨v + 1, by simpa using hv, fun u hu => ?_⟩
        cases u with
        | zero =>
          show l.getD v 0 ≤ a
          omega
        | succ u => exact h u (by simpa using hu)
    · refine ⟨0, by simp, fun u hu => ?_⟩
      have : u = 0 := by simp at hu; omega
      subst this
      exact Int.le_refl _
namespace K08
variable {fu n : Nat}
theorem taken_lit {w : W} (h : RowOk w) (m : Nat) (k : Int) (hk : k = (m : Int)) (h1 : 1 ≤ m) (h2 : m < 1073741824) : ∃ (r : Nat) (w' : W), callF Pm fu (n + 1) 18 [w, .fz (.int k)] = some (.fz (.int (r : Nat)), [w']) ∧ r < m ∧ RowOk w' := by
  subst hk
  exact taken_nat h h1 h2
def layB1 : IB := .cons (.asg (.nm 8 false) (.call 18 [.io, .val] (.cons (.var 0) (.cons (.idx (.var 1) (.cst (.int 0))) .nil)))) <|
    .cons (.asg (.nm 9 false) (.bin .add (.bin .add (.var 2) (.idx (.var 5) (.var 8))) (.bin .mul (.cst (.int 2)) (.bin .sub (.call 18 [.io, .val] (.cons (.var 0) (.cons (.cst (.int 5)) .nil))) (.cst (.int 2)))))) <|
    .cons (.asg (.nm 10 false) (.call 25 [.val, .val] (.cons (.var 1) (.cons (.var 8) .nil)))) <|
    .cons (.asg (.nm 11 false) (.ite (.cmp .eq (.var 6) (.cst (.int 0))) (.comp [12] (.nm 12) (.val (.var 10)) .nil false (.bin .add (.var 9) (.var 12))) (.comp [12] (.nm 12) (.val (.var 10)) .nil false (.bin .sub (.var 9) (.var 12))))) <|
    .cons (.ite (.cmp .is_ (.var 7) (.cst .non)) (.cons (.asg (.nm 7 false) (.var 11)) <|
      .nil) (.cons (.asg (.nm 7 false) (.comp [13, 14] (.cons (.nm 13) (.cons (.nm 14) .nil)) (.zip (.var 7) (.var 11)) .nil false (.ite (.cmp .eq (.var 6) (.cst (.int 0))) (.bf .min2 (.cons (.var 13) (.cons (.var 14) .nil))) (.bf .max2 (.cons (.var 13) (.cons (.var 14) .nil)))))) <|
      .nil)) <|
    .nil
def foundD : Option (List Int) → D
  | none => .non
  | some l => intsL l
def layG (w : W) (m : Nat) (es : List (Nat × Nat)) (hh : Int) (told : List Nat) (kind : Int) (f : Option (List Int)) (x lay a b c d : Option W) : Gam := [some w, some (.fz (webD m es)), some (.fz (.int hh)), x, lay, some (.fz (natsL told)), some (.fz (.int kind)), some (.fz (foundD f)), a, b, c, d, none, none, none]
theorem lay_step {w : W} {m : Nat} {es : List (Nat × Nat)} {hh kind : Int} {told : List Nat} {f : Option (List Int)} {x lay a b c d : Option W} (h : RowOk w) (wo : WebOk m es) (hfu : 41 < fu) (ht : IsDist m es 0 told) (h1 : 0 ≤ hh) (h2 : hh ≤ 1) (hf : ∀ l, f = some l → Fil m es hh told 100 l) :
    ∃ w' l a' b' c' d', runB (callF Pm fu (n + 3)) fu layB1 (layG w m es hh told kind f x lay a b c d) = some (.nx (layG w' m es hh told kind (some l) x lay a' b' c' d')) ∧ RowOk w' ∧ Fil m es hh told 100 l := by
  have hm := wo.most
  have wd : webD m es = .tup [natD m, .tup (es.map hedgeD)] := rfl
  obtain ⟨s, w1, e1, hs, hw1⟩ := taken_nat (fu := fu) (n := n + 2) h wo.pos (m := m) (by omega)
  obtain ⟨q, w2, e2, hq, hw2⟩ := taken_lit (fu := fu) (n := n + 2) hw1 5 5 rfl (by omega) (by omega)
  obtain ⟨dd, e3, hd⟩ := far_ok (fu := fu) (n := n + 1) wo.rng wo.conn wo.len (by omega) hs (by omega)
  have sl : s < told.length := by rw [ht.len]; exact hs
  have gs : told.getD s 0 = told[s] := getN sl
  have slm : slk dd.length = true := slk_ok (by rw [hd.len]; omega)
  have sm2 : small64 2 = true := by decide
  obtain ⟨kb, hkb⟩ : ∃ kb : Bool, decide (kind = 0) = kb := ⟨_, rfl⟩
  let here : Int := hh + (told.getD s 0 : Nat) + 2 * ((q : Int) - 2)
  let some1 : List Int := dd.map fun (k : Nat) => if kb then here + (k : Int) else here - (k : Int)
  have hsome : Fil m es hh told 100 some1 := fil_some wo ht hd h1 h2 (q := (q : Int) - 2) (by omega) (by omega) kb
  obtain ⟨rs, hres⟩ : ∃ rs : List Int, rs = match f with
    | none => some1
    | some l => (l.zip some1).map (fun p : Int × Int => op kb p.1 p.2) := ⟨_, rfl⟩
  have hfil : Fil m es hh told 100 rs := by
    subst hres
    cases f with
    | none => exact hsome
    | some l => exact fil_op wo (hf l rfl) hsome kb
  refine ⟨w2, rs, some (.fz (natD s)), some (.fz (.int here)), some (.fz (natsL dd)), some (.fz (intsL some1)), ?_, hw2, hfil⟩
  have c1 := compQ_all1 (F := callF Pm fu (n + 3)) (ow := [12]) (t := .nm 12) (oe := false) (e := .bin .add (.var 9) (.var 12)) (g := layG w2 m es hh told kind f x lay (some (.fz (natD s))) (some (.fz (.int here))) (some (.fz (natsL dd))) d) natD (fun k => .fz (.int (here + (k : Int)))) (xs := dd) (fun k hk => by simp [f_len_l, f_len_t, f_len_p, f_len_s, f_abs, f_max2, f_min2, f_sorted, f_all, f_int_i, f_int_b, f_list_l, f_list_t, f_tuple_l, f_tuple_t, f_ptuple, f_dict_p, f_lrange, d_neg, d_not, d_add_i, d_add_l, d_add_t, d_add_p, d_sub, d_mul_i, d_fdiv, d_mod, d_pow, d_eq, d_ne, d_lt_i, d_lt_t, d_le, d_gt, d_ge, d_in, d_nin, d_is_nn, d_is_in, d_is_ln, d_is_tn, d_ix_l, d_ix_t, d_ix_p, d_ix_s, d_sl_l, d_sl_t, d_sl_p, q_var, q_cst, q_glo, q_un, q_bin, q_cmp, q_chn, q_and, q_or, q_ite, q_idx, q_slc, q_tup, q_lst, q_dic, q_call, q_bf, q_isi, q_get, q_app, q_ext, q_popL, q_popA, q_comp, turn_eq, t_not, t_and, t_or, t_cmp, t_chn, t_call, t_bf, t_isi, t_var, c_nil, c_one, o_nil, o_one, l_nil, l_cons, i_val, i_rng1, i_rng2, i_enu, i_zip, s_asg, s_asgs, s_aug, s_exp, s_del, s_retF, s_retT, s_retN, s_ite, s_whl, s_for, s_brk, s_cnt, s_pass, b_nil, b_cons, w_nm, w_un, w_sub, runF, boolA, res, W.toD, W.at, W.sub, isiD, takeA, takeS, takeC, putC, frzA, frzL, takeL, stoL, ST.own, resL, iosOf, fin_c, own, -List.all_map, fz_all, fz_all2, fz_all3, D.isAtom, W.isFz, W.flat, bindT, wipeG, backG, Arg.simple, pureE, pureL, idxA, stepOf, modP, W.setAt, W.setS, setW, popW, isL, isDc, itemsOf, toDs, toDs_fz, toDs_comp, toDs_fun, all_true, eqD_int, eqD_bl, atI_nat, atI_0, atI_1, atI_2, atI_3, ixN4_0, ixN4_1, ixN4_2, ixN4_3, layG, natD])
  have c2 := compQ_all1 (F := callF Pm fu (n + 3)) (ow := [12]) (t := .nm 12) (oe := false) (e := .bin .sub (.var 9) (.var 12)) (g := layG w2 m es hh told kind f x lay (some (.fz (natD s))) (some (.fz (.int here))) (some (.fz (natsL dd))) d) natD (fun k => .fz (.int (here - (k : Int)))) (xs := dd) (fun k hk => by simp [f_len_l, f_len_t, f_len_p, f_len_s, f_abs, f_max2, f_min2, f_sorted, f_all, f_int_i, f_int_b, f_list_l, f_list_t, f_tuple_l, f_tuple_t, f_ptuple, f_dict_p, f_lrange, d_neg, d_not, d_add_i, d_add_l, d_add_t, d_add_p, d_sub, d_mul_i, d_fdiv, d_mod, d_pow, d_eq, d_ne, d_lt_i, d_lt_t, d_le, d_gt, d_ge, d_in, d_nin, d_is_nn, d_is_in, d_is_ln, d_is_tn, d_ix_l, d_ix_t, d_ix_p, d_ix_s, d_sl_l, d_sl_t, d_sl_p, q_var, q_cst, q_glo, q_un, q_bin, q_cmp, q_chn, q_and, q_or, q_ite, q_idx, q_slc, q_tup, q_lst, q_dic, q_call, q_bf, q_isi, q_get, q_app, q_ext, q_popL, q_popA, q_comp, turn_eq, t_not, t_and, t_or, t_cmp, t_chn, t_call, t_bf, t_isi, t_var, c_nil, c_one, o_nil, o_one, l_nil, l_cons, i_val, i_rng1, i_rng2, i_enu, i_zip, s_asg, s_asgs, s_aug, s_exp, s_del, s_retF, s_retT, s_retN, s_ite, s_whl, s_for, s_brk, s_cnt, s_pass, b_nil, b_cons, w_nm, w_un, w_sub, runF, boolA, res, W.toD, W.at, W.sub, isiD, takeA, takeS, takeC, putC, frzA, frzL, takeL, stoL, ST.own, resL, iosOf, fin_c, own, -List.all_map, fz_all, fz_all2, fz_all3, D.isAtom, W.isFz, W.flat, bindT, wipeG, backG, Arg.simple, pureE, pureL, idxA, stepOf, modP, W.setAt, W.setS, setW, popW, isL, isDc, itemsOf, toDs, toDs_fz, toDs_comp, toDs_fun, all_true, eqD_int, eqD_bl, atI_nat, atI_0, atI_1, atI_2, atI_3, ixN4_0, ixN4_1, ixN4_2, ixN4_3, layG, natD])
  have t1 : toDs (dd.map fun (k : Nat) => W.fz (.int (here + (k : Int)))) = (dd.map fun (k : Nat) => here + (k : Int)).map .int := by
    rw [toDs_map, List.map_map]; rfl
  have t2 : toDs (dd.map fun (k : Nat) => W.fz (.int (here - (k : Int)))) = (dd.map fun (k : Nat) => here - (k : Int)).map .int := by
    rw [toDs_map, List.map_map]; rfl
  have st1 : runB (callF Pm fu (n + 3)) fu layB1 (layG w m es hh told kind f x lay a b c d) = runB (callF Pm fu (n + 3)) fu (.cons (.ite (.cmp .is_ (.var 7) (.cst .non)) (.cons (.asg (.nm 7 false) (.var 11)) <|
      .nil) (.cons (.asg (.nm 7 false) (.comp [13, 14] (.cons (.nm 13) (.cons (.nm 14) .nil)) (.zip (.var 7) (.var 11)) .nil false (.ite (.cmp .eq (.var 6) (.cst (.int 0))) (.bf .min2 (.cons (.var 13) (.cons (.var 14) .nil))) (.bf .max2 (.cons (.var 13) (.cons (.var 14) .nil)))))) <|
      .nil)) <|
    .nil) (layG w2 m es hh told kind f x lay (some (.fz (natD s))) (some (.fz (.int here))) (some (.fz (natsL dd))) (some (.fz (intsL some1)))) := by
    unfold layB1
    have en := eqD_int (i := kind) (j := 0)
    rw [hkb] at en
    rw [wd] at e3
    simp only [layG, natsL, natD, wd] at e1 e2 e3 c1 c2 ⊢
    cases kb with
    | true =>
      have some1e : some1 = dd.map fun (k : Nat) => here + (k : Int) := rfl
      simp only [here, gs] at c1 t1
      simp [f_len_l, f_len_t, f_len_p, f_len_s, f_abs, f_max2, f_min2, f_sorted, f_all, f_int_i, f_int_b, f_list_l, f_list_t, f_tuple_l, f_tuple_t, f_ptuple, f_dict_p, f_lrange, d_neg, d_not, d_add_i, d_add_l, d_add_t, d_add_p, d_sub, d_mul_i, d_fdiv, d_mod, d_pow, d_eq, d_ne, d_lt_i, d_lt_t, d_le, d_gt, d_ge, d_in, d_nin, d_is_nn, d_is_in, d_is_ln, d_is_tn, d_ix_l, d_ix_t, d_ix_p, d_ix_s, d_sl_l, d_sl_t, d_sl_p, q_var, q_cst, q_glo, q_un, q_bin, q_cmp, q_chn, q_and, q_or, q_ite, q_idx, q_slc, q_tup, q_lst, q_dic, q_call, q_bf, q_isi, q_get, q_app, q_ext, q_popL, q_popA, q_comp, turn_eq, t_not, t_and, t_or, t_cmp, t_chn, t_call, t_bf, t_isi, t_var, c_nil, c_one, o_nil, o_one, l_nil, l_cons, i_val, i_rng1, i_rng2, i_enu, i_zip, s_asg, s_asgs, s_aug, s_exp, s_del, s_retF, s_retT, s_retN, s_ite, s_whl, s_for, s_brk, s_cnt, s_pass, b_nil, b_cons, w_nm, w_un, w_sub, runF, boolA, res, W.toD, W.at, W.sub, isiD, takeA, takeS, takeC, putC, frzA, frzL, takeL, stoL, ST.own, resL, iosOf, fin_c, own, -List.all_map, fz_all, fz_all2, fz_all3, D.isAtom, W.isFz, W.flat, bindT, wipeG, backG, Arg.simple, pureE, pureL, idxA, stepOf, modP, W.setAt, W.setS, setW, popW, isL, isDc, itemsOf, toDs, toDs_fz, toDs_comp, toDs_fun, all_true, eqD_int, eqD_bl, atI_nat, atI_0, atI_1, atI_2, atI_3, ixN4_0, ixN4_1, ixN4_2, ixN4_3, -eqD_int, natD, e1, e2, e3, sl, slm, sm2, en, c1, t1, intsL, some1e, here, gs]
    | false =>
      have some1e : some1 = dd.map fun (k : Nat) => here - (k : Int) := rfl
      simp only [here, gs] at c2 t2
      simp [f_len_l, f_len_t, f_len_p, f_len_s, f_abs, f_max2, f_min2, f_sorted, f_all, f_int_i, f_int_b, f_list_l, f_list_t, f_tuple_l, f_tuple_t, f_ptuple, f_dict_p, f_lrange, d_neg, d_not, d_add_i, d_add_l, d_add_t, d_add_p, d_sub, d_mul_i, d_fdiv, d_mod, d_pow, d_eq, d_ne, d_lt_i, d_lt_t, d_le, d_gt, d_ge, d_in, d_nin, d_is_nn, d_is_in, d_is_ln, d_is_tn, d_ix_l, d_ix_t, d_ix_p, d_ix_s, d_sl_l, d_sl_t, d_sl_p, q_var, q_cst, q_glo, q_un, q_bin, q_cmp, q_chn, q_and, q_or, q_ite, q_idx, q_slc, q_tup, q_lst, q_dic, q_call, q_bf, q_isi, q_get, q_app, q_ext, q_popL, q_popA, q_comp, turn_eq, t_not, t_and, t_or, t_cmp, t_chn, t_call, t_bf, t_isi, t_var, c_nil, c_one, o_nil, o_one, l_nil, l_cons, i_val, i_rng1, i_rng2, i_enu, i_zip, s_asg, s_asgs, s_aug, s_exp, s_del, s_retF, s_retT, s_retN, s_ite, s_whl, s_for, s_brk, s_cnt, s_pass, b_nil, b_cons, w_nm, w_un, w_sub, runF, boolA, res, W.toD, W.at, W.sub, isiD, takeA, takeS, takeC, putC, frzA, frzL, takeL, stoL, ST.own, resL, iosOf, fin_c, own, -List.all_map, fz_all, fz_all2, fz_all3, D.isAtom, W.isFz, W.flat, bindT, wipeG, backG, Arg.simple, pureE, pureL, idxA, stepOf, modP, W.setAt, W.setS, setW, popW, isL, isDc, itemsOf, toDs, toDs_fz, toDs_comp, toDs_fun, all_true, eqD_int, eqD_bl, atI_nat, atI_0, atI_1, atI_2, atI_3, ixN4_0, ixN4_1, ixN4_2, ixN4_3, -eqD_int, natD, e1, e2, e3, sl, slm, sm2, en, c2, t2, intsL, some1e, here, gs]
  rw [st1]
  generalize some1 = so at hres hsome ⊢
  generalize here = hr
  cases f with
  | none =>
    subst hres
    simp [f_len_l, f_len_t, f_len_p, f_len_s, f_abs, f_max2, f_min2, f_sorted, f_all, f_int_i, f_int_b, f_list_l, f_list_t, f_tuple_l, f_tuple_t, f_ptuple, f_dict_p, f_lrange, d_neg, d_not, d_add_i, d_add_l, d_add_t, d_add_p, d_sub, d_mul_i, d_fdiv, d_mod, d_pow, d_eq, d_ne, d_lt_i, d_lt_t, d_le, d_gt, d_ge, d_in, d_nin, d_is_nn, d_is_in, d_is_ln, d_is_tn, d_ix_l, d_ix_t, d_ix_p, d_ix_s, d_sl_l, d_sl_t, d_sl_p, q_var, q_cst, q_glo, q_un, q_bin, q_cmp, q_chn, q_and, q_or, q_ite, q_idx, q_slc, q_tup, q_lst, q_dic, q_call, q_bf, q_isi, q_get, q_app, q_ext, q_popL, q_popA, q_comp, turn_eq, t_not, t_and, t_or, t_cmp, t_chn, t_call, t_bf, t_isi, t_var, c_nil, c_one, o_nil, o_one, l_nil, l_cons, i_val, i_rng1, i_rng2, i_enu, i_zip, s_asg, s_asgs, s_aug, s_exp, s_del, s_retF, s_retT, s_retN, s_ite, s_whl, s_for, s_brk, s_cnt, s_pass, b_nil, b_cons, w_nm, w_un, w_sub, runF, boolA, res, W.toD, W.at, W.sub, isiD, takeA, takeS, takeC, putC, frzA, frzL, takeL, stoL, ST.own, resL, iosOf, fin_c, own, -List.all_map, fz_all, fz_all2, fz_all3, D.isAtom, W.isFz, W.flat, bindT, wipeG, backG, Arg.simple, pureE, pureL, idxA, stepOf, modP, W.setAt, W.setS, setW, popW, isL, isDc, itemsOf, toDs, toDs_fz, toDs_comp, toDs_fun, all_true, eqD_int, eqD_bl, atI_nat, atI_0, atI_1, atI_2, atI_3, ixN4_0, ixN4_1, ixN4_2, ixN4_3, layG, foundD, intsL]
  | some l =>
    subst hres
    have hz := compQ_all1 (F := callF Pm fu (n + 3)) (ow := [13, 14]) (t := .cons (.nm 13) (.cons (.nm 14) .nil)) (oe := false) (e := .ite (.cmp .eq (.var 6) (.cst (.int 0))) (.bf .min2 (.cons (.var 13) (.cons (.var 14) .nil))) (.bf .max2 (.cons (.var 13) (.cons (.var 14) .nil)))) (g := layG w2 m es hh told kind (some l) x lay (some (.fz (natD s))) (some (.fz (.int hr))) (some (.fz (natsL dd))) (some (.fz (intsL so)))) (fun p : Int × Int => .tup [.int p.1, .int p.2]) (fun p => .fz (.int (op kb p.1 p.2))) (xs := l.zip so) (fun p hp => by
      have en := eqD_int (i := kind) (j := 0)
      rw [hkb] at en
      cases kb <;> simp [f_len_l, f_len_t, f_len_p, f_len_s, f_abs, f_max2, f_min2, f_sorted, f_all, f_int_i, f_int_b, f_list_l, f_list_t, f_tuple_l, f_tuple_t, f_ptuple, f_dict_p, f_lrange, d_neg, d_not, d_add_i, d_add_l, d_add_t, d_add_p, d_sub, d_mul_i, d_fdiv, d_mod, d_pow, d_eq, d_ne, d_lt_i, d_lt_t, d_le, d_gt, d_ge, d_in, d_nin, d_is_nn, d_is_in, d_is_ln, d_is_tn, d_ix_l, d_ix_t, d_ix_p, d_ix_s, d_sl_l, d_sl_t, d_sl_p, q_var, q_cst, q_glo, q_un, q_bin, q_cmp, q_chn, q_and, q_or, q_ite, q_idx, q_slc, q_tup, q_lst, q_dic, q_call, q_bf, q_isi, q_get, q_app, q_ext, q_popL, q_popA, q_comp, turn_eq, t_not, t_and, t_or, t_cmp, t_chn, t_call, t_bf, t_isi, t_var, c_nil, c_one, o_nil, o_one, l_nil, l_cons, i_val, i_rng1, i_rng2, i_enu, i_zip, s_asg, s_asgs, s_aug, s_exp, s_del, s_retF, s_retT, s_retN, s_ite, s_whl, s_for, s_brk, s_cnt, s_pass, b_nil, b_cons, w_nm, w_un, w_sub, runF, boolA, res, W.toD, W.at, W.sub, isiD, takeA, takeS, takeC, putC, frzA, frzL, takeL, stoL, ST.own, resL, iosOf, fin_c, own, -List.all_map, fz_all, fz_all2, fz_all3, D.isAtom, W.isFz, W.flat, bindT, wipeG, backG, Arg.simple, pureE, pureL, idxA, stepOf, modP, W.setAt, W.setS, setW, popW, isL, isDc, itemsOf, toDs, toDs_fz, toDs_comp, toDs_fun, all_true, eqD_int, eqD_bl, atI_nat, atI_0, atI_1, atI_2, atI_3, ixN4_0, ixN4_1, ixN4_2, ixN4_3, -eqD_int, layG, en, op])
    have pm := pair_map D.int D.int l so
    have tz : toDs ((l.zip so).map fun p => W.fz (.int (op kb p.1 p.2))) = ((l.zip so).map fun p => op kb p.1 p.2).map .int := by
      rw [toDs_map, List.map_map]; rfl
    have slz : slk (min l.length so.length) = true := slk_ok (by have := hsome.len; omega)
    simp only [layG, foundD, intsL] at hz ⊢
    simp [f_len_l, f_len_t, f_len_p, f_len_s, f_abs, f_max2, f_min2, f_sorted, f_all, f_int_i, f_int_b, f_list_l, f_list_t, f_tuple_l, f_tuple_t, f_ptuple, f_dict_p, f_lrange, d_neg, d_not, d_add_i, d_add_l, d_add_t, d_add_p, d_sub, d_mul_i, d_fdiv, d_mod, d_pow, d_eq, d_ne, d_lt_i, d_lt_t, d_le, d_gt, d_ge, d_in, d_nin, d_is_nn, d_is_in, d_is_ln, d_is_tn, d_ix_l, d_ix_t, d_ix_p, d_ix_s, d_sl_l, d_sl_t, d_sl_p, q_var, q_cst, q_glo, q_un, q_bin, q_cmp, q_chn, q_and, q_or, q_ite, q_idx, q_slc, q_tup, q_lst, q_dic, q_call, q_bf, q_isi, q_get, q_app, q_ext, q_popL, q_popA, q_comp, turn_eq, t_not, t_and, t_or, t_cmp, t_chn, t_call, t_bf, t_isi, t_var, c_nil, c_one, o_nil, o_one, l_nil, l_cons, i_val, i_rng1, i_rng2, i_enu, i_zip, s_asg, s_asgs, s_aug, s_exp, s_del, s_retF, s_retT, s_retN, s_ite, s_whl, s_for, s_brk, s_cnt, s_pass, b_nil, b_cons, w_nm, w_un, w_sub, runF, boolA, res, W.toD, W.at, W.sub, isiD, takeA, takeS, takeC, putC, frzA, frzL, takeL, stoL, ST.own, resL, iosOf, fin_c, own, -List.all_map, fz_all, fz_all2, fz_all3, D.isAtom, W.isFz, W.flat, bindT, wipeG, backG, Arg.simple, pureE, pureL, idxA, stepOf, modP, W.setAt, W.setS, setW, popW, isL, isDc, itemsOf, toDs, toDs_fz, toDs_comp, toDs_fun, all_true, eqD_int, eqD_bl, atI_nat, atI_0, atI_1, atI_2, atI_3, ixN4_0, ixN4_1, ixN4_2, ixN4_3, hz, pm, tz, slz]
end K08
end PF
end

section
set_option Elab.async false
set_option linter.all false
set_option maxRecDepth 100000
set_option maxHeartbeats 2000000
namespace PF
open PySem L2 K08
theorem intsL_inj {a b : List Int} (h : intsT a = intsT b) : a = b := by
  have h : a.map D.int = b.map D.int := D.tup.inj h
  have k := intsOf_map a
  rw [h, intsOf_map b] at k
  exact (Option.some.inj k).symm
namespace K08
variable {fu n : Nat}
def layB2 : IB := .cons (.asg (.nm 4 false) (.call 19 [.io, .val] (.cons (.var 0) (.cons (.call 29 [.val, .val] (.cons (.var 1) (.cons (.var 4) .nil))) .nil)))) .nil
/-- one deed drawn -/
theorem deed_ok {w : W} {m : Nat} {es : List (Nat × Nat)} {hh B : Int} {told : List Nat} {l : List Int} (h : RowOk w) (wo : WebOk m es) (ht : IsDist m es 0 told) (f : Fil m es hh told B l) :
    ∃ (ks : List (List Int)) (w' : W) (k : List Int), callF Pm fu (n + 3) 29 [.fz (webD m es), .fz (intsT l)] = some (.fz (.lst (ks.map intsT)), []) ∧ callF Pm fu (n + 3) 19 [w, .fz (.lst (ks.map intsT))] = some (.fz (intsT k), [w']) ∧ RowOk w' ∧ Fil m es hh told (B + 2) k := by
  obtain ⟨ks, e1, hk, hks⟩ := next_ok (fu := fu) (n := n) wo f.len
  have ne : ks ≠ [] := by
    have hl := f.len
    have hp := wo.pos
    obtain ⟨v, hv, lo⟩ := low_one l (by omega)
    intro q
    have : l.set v (l.getD v 0 + 2) ∈ ks := (hks _).mpr (.inl ⟨v, ⟨by omega, fun u a => by have := lo u (by have := (wo.rng.adj a).2; omega); omega⟩, rfl⟩)
    rw [q] at this
    cases this
  obtain ⟨d, w', e2, hd, hw⟩ := pick_ok (fu := fu) (n := n + 1) h (ds := ks.map intsT) (by simpa using ne) (by rw [List.length_map]; omega)
  obtain ⟨k, hk, rfl⟩ := List.mem_map.mp hd
  refine ⟨ks, w', k, e1, e2, hw, ?_⟩
  rcases (hks k).mp hk with ⟨v, ⟨hv, lo⟩, rfl⟩ | ⟨v, ⟨hv, lo⟩, rfl⟩
  · exact fil_up wo ht f hv lo
  · exact fil_down wo ht f hv lo
theorem laying_ok {w : W} {m : Nat} {es : List (Nat × Nat)} {hh : Int} (h : RowOk w) (wo : WebOk m es) (hfu : 41 < fu) (h1 : 0 ≤ hh) (h2 : hh ≤ 1) :
    ∃ l w' told, callF Pm fu (n + 4) 30 [w, .fz (webD m es), .fz (.int hh)] = some (.fz (intsT l), [w']) ∧ RowOk w' ∧ IsDist m es 0 told ∧ Fil m es hh told 108 l := by
  have hm := wo.most
  have wd : webD m es = .tup [natD m, .tup (es.map hedgeD)] := rfl
  obtain ⟨told, e0, ht⟩ := far_ok (fu := fu) (n := n + 1) (s := 0) wo.rng wo.conn wo.len (by omega) (by have := wo.pos; omega) (by omega)
  obtain ⟨kind, w1, e1, hk, hw1⟩ := taken_lit (fu := fu) (n := n + 2) h 2 2 rfl (by omega) (by omega)
  obtain ⟨q, w2, e2, hq, hw2⟩ := taken_lit (fu := fu) (n := n + 2) hw1 3 3 rfl (by omega) (by omega)
  obtain ⟨g1, f1, w3, fo, x, a, b, c, d, rfl, hw3, hsome, hfo⟩ := forQ_inv (F := callF Pm fu (n + 3)) (fu := fu) (t := .nm 3) (b := layB1) (ds := (List.range (1 + q)).map fun i => D.int (i : Nat)) (g := layG w2 m es hh told (kind : Nat) none none none none none none none)
    (fun i g => ∃ (w' : W) (fo : Option (List Int)) (x a b c d : Option W), g = layG w' m es hh told (kind : Nat) fo x none a b c d ∧ RowOk w' ∧ (0 < i → fo ≠ none) ∧ ∀ l, fo = some l → Fil m es hh told 100 l)
    ⟨w2, none, none, none, none, none, none, rfl, hw2, by simp, fun _ q => by cases q⟩
    (by
      rintro i y g hy ⟨w', fo, x, a, b, c, d, rfl, hw', _, hfo⟩
      obtain ⟨w4, l, a', b', c', d', e, hw4, hl⟩ := lay_step (fu := fu) (n := n) (kind := (kind : Nat)) (f := fo) (x := some (.fz y)) (lay := none) (a := a) (b := b) (c := c) (d := d) hw' wo hfu ht h1 h2 hfo
      exact ⟨_, e, w4, some l, _, a', b', c', d', rfl, hw4, (fun _ q => by cases q), (fun k hk => by cases hk; exact hl)⟩)
  have hfo1 : ∃ l, fo = some l := by
    cases fo with
    | none => exact absurd rfl (hsome (by simp; omega))
    | some l => exact ⟨l, rfl⟩
  obtain ⟨l1, rfl⟩ := hfo1
  have fl1 := hfo l1 rfl
  obtain ⟨q2, w4, e4, hq2, hw4⟩ := taken_lit (fu := fu) (n := n + 2) hw3 5 5 rfl (by omega) (by omega)
  obtain ⟨g2, f2, w5, l, x2, rfl, hw5, fl⟩ := forQ_inv (F := callF Pm fu (n + 3)) (fu := fu) (t := .nm 3) (b := layB2) (ds := (List.range q2).map fun i => D.int (i : Nat)) (g := layG w4 m es hh told (kind : Nat) (some l1) x (some (.fz (intsT l1))) a b c d)
    (fun i g => ∃ (w' : W) (l : List Int) (x : Option W), g = layG w' m es hh told (kind : Nat) (some l1) x (some (.fz (intsT l))) a b c d ∧ RowOk w' ∧ Fil m es hh told (100 + 2 * (i : Int)) l)
    ⟨w4, l1, x, rfl, hw4, by simpa using fl1⟩
    (by
      rintro i y g hy ⟨w', l, x, rfl, hw', hl⟩
      obtain ⟨ks, w6, k, e5, e6, hw6, hk⟩ := deed_ok (fu := fu) (n := n) hw' wo ht hl
      refine ⟨layG w6 m es hh told (kind : Nat) (some l1) (some (.fz y)) (some (.fz (intsT k))) a b c d, ?_, w6, k, some (.fz y), rfl, hw6, ?_⟩
      · simp [f_len_l, f_len_t, f_len_p, f_len_s, f_abs, f_max2, f_min2, f_sorted, f_all, f_int_i, f_int_b, f_list_l, f_list_t, f_tuple_l, f_tuple_t, f_ptuple, f_dict_p, f_lrange, d_neg, d_not, d_add_i, d_add_l, d_add_t, d_add_p, d_sub, d_mul_i, d_fdiv, d_mod, d_pow, d_eq, d_ne, d_lt_i, d_lt_t, d_le, d_gt, d_ge, d_in, d_nin, d_is_nn, d_is_in, d_is_ln, d_is_tn, d_ix_l, d_ix_t, d_ix_p, d_ix_s, d_sl_l, d_sl_t, d_sl_p, q_var, q_cst, q_glo, q_un, q_bin, q_cmp, q_chn, q_and, q_or, q_ite, q_idx, q_slc, q_tup, q_lst, q_dic, q_call, q_bf, q_isi, q_get, q_app, q_ext, q_popL, q_popA, q_comp, turn_eq, t_not, t_and, t_or, t_cmp, t_chn, t_call, t_bf, t_isi, t_var, c_nil, c_one, o_nil, o_one, l_nil, l_cons, i_val, i_rng1, i_rng2, i_enu, i_zip, s_asg, s_asgs, s_aug, s_exp, s_del, s_retF, s_retT, s_retN, s_ite, s_whl, s_for, s_brk, s_cnt, s_pass, b_nil, b_cons, w_nm, w_un, w_sub, runF, boolA, res, W.toD, W.at, W.sub, isiD, takeA, takeS, takeC, putC, frzA, frzL, takeL, stoL, ST.own, resL, iosOf, fin_c, own, -List.all_map, fz_all, fz_all2, fz_all3, D.isAtom, W.isFz, W.flat, bindT, wipeG, backG, Arg.simple, pureE, pureL, idxA, stepOf, modP, W.setAt, W.setS, setW, popW, isL, isDc, itemsOf, toDs, toDs_fz, toDs_comp, toDs_fun, all_true, eqD_int, eqD_bl, atI_nat, atI_0, atI_1, atI_2, atI_3, ixN4_0, ixN4_1, ixN4_2, ixN4_3, layB2, layG, e5, e6]
      · have : 100 + 2 * ((i + 1 : Nat) : Int) = 100 + 2 * (i : Int) + 2 := by omega
        rw [this]
        exact hk)
  rw [List.length_map, List.length_range] at fl
  have fl : Fil m es hh told 108 l := ⟨fl.len, fl.par, fl.near, fun v hv => by have := fl.bd v hv; omega⟩
  refine ⟨l, w5, told, ?_, hw5, ht, fl⟩
  have r1 := rng_nat (k := 1 + q) (by omega)
  have r2 := rng_nat (k := q2) (by omega)
  have cast : ((1 + q : Nat) : Int) = 1 + (q : Int) := by omega
  have cast2 : (1 + (q : Int)).toNat = 1 + q := by omega
  rw [show natD 0 = D.int 0 from rfl] at e0
  rw [call_eq pm_30]
  simp only [layG, foundD, layB1, layB2, natD, natsL, intsL, intsT, cast] at e0 e1 e2 e4 f1 f2 r1 ⊢
  simp [f_len_l, f_len_t, f_len_p, f_len_s, f_abs, f_max2, f_min2, f_sorted, f_all, f_int_i, f_int_b, f_list_l, f_list_t, f_tuple_l, f_tuple_t, f_ptuple, f_dict_p, f_lrange, d_neg, d_not, d_add_i, d_add_l, d_add_t, d_add_p, d_sub, d_mul_i, d_fdiv, d_mod, d_pow, d_eq, d_ne, d_lt_i, d_lt_t, d_le, d_gt, d_ge, d_in, d_nin, d_is_nn, d_is_in, d_is_ln, d_is_tn, d_ix_l, d_ix_t, d_ix_p, d_ix_s, d_sl_l, d_sl_t, d_sl_p, q_var, q_cst, q_glo, q_un, q_bin, q_cmp, q_chn, q_and, q_or, q_ite, q_idx, q_slc, q_tup, q_lst, q_dic, q_call, q_bf, q_isi, q_get, q_app, q_ext, q_popL, q_popA, q_comp, turn_eq, t_not, t_and, t_or, t_cmp, t_chn, t_call, t_bf, t_isi, t_var, c_nil, c_one, o_nil, o_one, l_nil, l_cons, i_val, i_rng1, i_rng2, i_enu, i_zip, s_asg, s_asgs, s_aug, s_exp, s_del, s_retF, s_retT, s_retN, s_ite, s_whl, s_for, s_brk, s_cnt, s_pass, b_nil, b_cons, w_nm, w_un, w_sub, runF, boolA, res, W.toD, W.at, W.sub, isiD, takeA, takeS, takeC, putC, frzA, frzL, takeL, stoL, ST.own, resL, iosOf, fin_c, own, -List.all_map, fz_all, fz_all2, fz_all3, D.isAtom, W.isFz, W.flat, bindT, wipeG, backG, Arg.simple, pureE, pureL, idxA, stepOf, modP, W.setAt, W.setS, setW, popW, isL, isDc, itemsOf, toDs, toDs_fz, toDs_comp, toDs_fun, all_true, eqD_int, eqD_bl, atI_nat, atI_0, atI_1, atI_2, atI_3, ixN4_0, ixN4_1, ixN4_2, ixN4_3, f_30, e0, e1, e2, e4, f1, f2, r1, r2, cast2]
theorem first_ok {w : W} {m : Nat} {es : List (Nat × Nat)} (h : RowOk w) (wo : WebOk m es) (hfu : 41 < fu) :
    ∃ l w', callF Pm fu (n + 5) 31 [w, .fz (webD m es)] = some (.fz (intsT l), [w']) ∧ RowOk w' ∧ LayOk m es 200 l := by
  obtain ⟨k, w1, e1, hk, hw1⟩ := taken_lit (fu := fu) (n := n + 3) h 2 2 rfl (by omega) (by omega)
  by_cases c : k = 0
  · subst c
    obtain ⟨hh, w2, e2, hq, hw2⟩ := taken_lit (fu := fu) (n := n + 3) hw1 2 2 rfl (by omega) (by omega)
    obtain ⟨l, w3, told, e3, hw3, ht, fl⟩ := laying_ok (fu := fu) (n := n) (hh := (hh : Nat)) hw2 wo hfu (by omega) (by omega)
    have lo := fl.lay wo ht
    refine ⟨l, w3, ?_, hw3, lo.len, fun x hx => ?_, lo.step⟩
    · rw [call_eq pm_31]
      simp [f_len_l, f_len_t, f_len_p, f_len_s, f_abs, f_max2, f_min2, f_sorted, f_all, f_int_i, f_int_b, f_list_l, f_list_t, f_tuple_l, f_tuple_t, f_ptuple, f_dict_p, f_lrange, d_neg, d_not, d_add_i, d_add_l, d_add_t, d_add_p, d_sub, d_mul_i, d_fdiv, d_mod, d_pow, d_eq, d_ne, d_lt_i, d_lt_t, d_le, d_gt, d_ge, d_in, d_nin, d_is_nn, d_is_in, d_is_ln, d_is_tn, d_ix_l, d_ix_t, d_ix_p, d_ix_s, d_sl_l, d_sl_t, d_sl_p, q_var, q_cst, q_glo, q_un, q_bin, q_cmp, q_chn, q_and, q_or, q_ite, q_idx, q_slc, q_tup, q_lst, q_dic, q_call, q_bf, q_isi, q_get, q_app, q_ext, q_popL, q_popA, q_comp, turn_eq, t_not, t_and, t_or, t_cmp, t_chn, t_call, t_bf, t_isi, t_var, c_nil, c_one, o_nil, o_one, l_nil, l_cons, i_val, i_rng1, i_rng2, i_enu, i_zip, s_asg, s_asgs, s_aug, s_exp, s_del, s_retF, s_retT, s_retN, s_ite, s_whl, s_for, s_brk, s_cnt, s_pass, b_nil, b_cons, w_nm, w_un, w_sub, runF, boolA, res, W.toD, W.at, W.sub, isiD, takeA, takeS, takeC, putC, frzA, frzL, takeL, stoL, ST.own, resL, iosOf, fin_c, own, -List.all_map, fz_all, fz_all2, fz_all3, D.isAtom, W.isFz, W.flat, bindT, wipeG, backG, Arg.simple, pureE, pureL, idxA, stepOf, modP, W.setAt, W.setS, setW, popW, isL, isDc, itemsOf, toDs, toDs_fz, toDs_comp, toDs_fun, all_true, eqD_int, eqD_bl, atI_nat, atI_0, atI_1, atI_2, atI_3, ixN4_0, ixN4_1, ixN4_2, ixN4_3, f_31, e1, e2, e3]
    · have := lo.low x hx
      omega
  · have hm := wo.most
    obtain ⟨told, e2, ht⟩ := far_ok (fu := fu) (n := n + 2) (s := 0) wo.rng wo.conn wo.len (by omega) (by have := wo.pos; omega) (by omega)
    have slm : slk told.length = true := slk_ok (by rw [ht.len]; omega)
    have hg : ∀ v, v < m → (told.map fun (k : Nat) => (k : Int).fmod 2).getD v 0 = ((told.getD v 0 : Nat) : Int).fmod 2 := fun v hv => by
      have hv : v < told.length := by rw [ht.len]; exact hv
      rw [getI (by simpa using hv), getN hv]
      simp
    refine ⟨told.map fun (k : Nat) => (k : Int).fmod 2, w1, ?_, hw1, by simp [ht.len], fun x hx => ?_, fun p hp => ?_⟩
    · have c1 := compQ_all1 (F := callF Pm fu (n + 4)) (ow := [2]) (t := .nm 2) (oe := false) (e := .bin .mod (.var 2) (.cst (.int 2))) (g := [some w1, some (.fz (webD m es)), none]) natD (fun k => .fz (.int ((k : Int).fmod 2))) (xs := told) (fun k hk => by simp [f_len_l, f_len_t, f_len_p, f_len_s, f_abs, f_max2, f_min2, f_sorted, f_all, f_int_i, f_int_b, f_list_l, f_list_t, f_tuple_l, f_tuple_t, f_ptuple, f_dict_p, f_lrange, d_neg, d_not, d_add_i, d_add_l, d_add_t, d_add_p, d_sub, d_mul_i, d_fdiv, d_mod, d_pow, d_eq, d_ne, d_lt_i, d_lt_t, d_le, d_gt, d_ge, d_in, d_nin, d_is_nn, d_is_in, d_is_ln, d_is_tn, d_ix_l, d_ix_t, d_ix_p, d_ix_s, d_sl_l, d_sl_t, d_sl_p, q_var, q_cst, q_glo, q_un, q_bin, q_cmp, q_chn, q_and, q_or, q_ite, q_idx, q_slc, q_tup, q_lst, q_dic, q_call, q_bf, q_isi, q_get, q_app, q_ext, q_popL, q_popA, q_comp, turn_eq, t_not, t_and, t_or, t_cmp, t_chn, t_call, t_bf, t_isi, t_var, c_nil, c_one, o_nil, o_one, l_nil, l_cons, i_val, i_rng1, i_rng2, i_enu, i_zip, s_asg, s_asgs, s_aug, s_exp, s_del, s_retF, s_retT, s_retN, s_ite, s_whl, s_for, s_brk, s_cnt, s_pass, b_nil, b_cons, w_nm, w_un, w_sub, runF, boolA, res, W.toD, W.at, W.sub, isiD, takeA, takeS, takeC, putC, frzA, frzL, takeL, stoL, ST.own, resL, iosOf, fin_c, own, -List.all_map, fz_all, fz_all2, fz_all3, D.isAtom, W.isFz, W.flat, bindT, wipeG, backG, Arg.simple, pureE, pureL, idxA, stepOf, modP, W.setAt, W.setS, setW, popW, isL, isDc, itemsOf, toDs, toDs_fz, toDs_comp, toDs_fun, all_true, eqD_int, eqD_bl, atI_nat, atI_0, atI_1, atI_2, atI_3, ixN4_0, ixN4_1, ixN4_2, ixN4_3, natD])
      have t1 : toDs (told.map fun (k : Nat) => W.fz (.int ((k : Int).fmod 2))) = (told.map fun (k : Nat) => (k : Int).fmod 2).map .int := by
        rw [toDs_map, List.map_map]; rfl
      rw [show natD 0 = D.int 0 from rfl] at e2
      rw [call_eq pm_31]
      simp only [natsL, natD, intsT] at e2 c1 ⊢
      simp [f_len_l, f_len_t, f_len_p, f_len_s, f_abs, f_max2, f_min2, f_sorted, f_all, f_int_i, f_int_b, f_list_l, f_list_t, f_tuple_l, f_tuple_t, f_ptuple, f_dict_p, f_lrange, d_neg, d_not, d_add_i, d_add_l, d_add_t, d_add_p, d_sub, d_mul_i, d_fdiv, d_mod, d_pow, d_eq, d_ne, d_lt_i, d_lt_t, d_le, d_gt, d_ge, d_in, d_nin, d_is_nn, d_is_in, d_is_ln, d_is_tn, d_ix_l, d_ix_t, d_ix_p, d_ix_s, d_sl_l, d_sl_t, d_sl_p, q_var, q_cst, q_glo, q_un, q_bin, q_cmp, q_chn, q_and, q_or, q_ite, q_idx, q_slc, q_tup, q_lst, q_dic, q_call, q_bf, q_isi, q_get, q_app, q_ext, q_popL, q_popA, q_comp, turn_eq, t_not, t_and, t_or, t_cmp, t_chn, t_call, t_bf, t_isi, t_var, c_nil, c_one, o_nil, o_one, l_nil, l_cons, i_val, i_rng1, i_rng2, i_enu, i_zip, s_asg, s_asgs, s_aug, s_exp, s_del, s_retF, s_retT, s_retN, s_ite, s_whl, s_for, s_brk, s_cnt, s_pass, b_nil, b_cons, w_nm, w_un, w_sub, runF, boolA, res, W.toD, W.at, W.sub, isiD, takeA, takeS, takeC, putC, frzA, frzL, takeL, stoL, ST.own, resL, iosOf, fin_c, own, -List.all_map, fz_all, fz_all2, fz_all3, D.isAtom, W.isFz, W.flat, bindT, wipeG, backG, Arg.simple, pureE, pureL, idxA, stepOf, modP, W.setAt, W.setS, setW, popW, isL, isDc, itemsOf, toDs, toDs_fz, toDs_comp, toDs_fun, all_true, eqD_int, eqD_bl, atI_nat, atI_0, atI_1, atI_2, atI_3, ixN4_0, ixN4_1, ixN4_2, ixN4_3, f_31, e1, e2, c, c1, slm, t1]
    · obtain ⟨k, _, rfl⟩ := List.mem_map.mp hx
      rw [Int.fmod_eq_emod_of_nonneg _ (by omega)]
      omega
    · rw [hg p.1 (wo.rng.adj (.inl hp)).1, hg p.2 (wo.rng.adj (.inl hp)).2, Int.fmod_eq_emod_of_nonneg _ (by omega), Int.fmod_eq_emod_of_nonneg _ (by omega)]
      have := wo.par ht (u := p.1) (v := p.2) (.inl hp)
      omega
end K08
end PF
end

section
set_option Elab.async false
set_option linter.all false
set_option maxRecDepth 100000
set_option maxHeartbeats 2000000
namespace PF
open PySem L2 K08
theorem dist_tri {m es s t d e} (h : IsDist m es s d) (k : IsDist m es t e) (r : Rng m es) : ∀ (j x : Nat), x < m → e.getD x 0 = j → d.getD t 0 ≤ d.getD x 0 + j := by
  intro j
  induction j with
  | zero =>
    intro x hx q
    rw [k.zero hx q]
    omega
  | succ j ih =>
    intro x hx q
    have ne : x ≠ t := fun c => by rw [c, k.src] at q; cases q
    obtain ⟨u, a, q2⟩ := k.back x hx ne
    have := ih u (r.adj a).1 (by omega)
    have := h.step x u a.symm
    omega
theorem dist_symm {m es s t d e} (r : Rng m es) (h : IsDist m es s d) (k : IsDist m es t e) : d.getD t 0 = e.getD s 0 := by
  have h1 := dist_tri h k r _ s h.lt rfl
  have h2 := dist_tri k h r _ t k.lt rfl
  rw [h.src] at h1
  rw [k.src] at h2
  omega
theorem sort_up (l : List Nat) (nd : l.Nodup) : ∃ r : List Nat, sortD (l.map natD) = some (r.map natD) ∧ r.Perm l ∧ r.Pairwise (· < ·) := by
  have e : (l.map natD) = (l.map fun (k : Nat) => (k : Int)).map .int := by rw [List.map_map]; rfl
  have h1 : sortD (l.map natD) = some ((isort (fun a b => decide (a ≤ b)) (l.map fun (k : Nat) => (k : Int))).map .int) := by
    rw [e]
    unfold sortD
    rw [intsOf_map]
  rw [isort_map (fun (k : Nat) => (k : Int)) l, List.map_map] at h1
  refine ⟨_, h1, isort_perm l, ?_⟩
  have hs := isort_sorted (le := fun a b : Nat => decide ((a : Int) ≤ (b : Int))) (fun a b h => decide_eq_true (by have := of_decide_eq_false h; omega)) (fun a b c h1 h2 => decide_eq_true (by have := of_decide_eq_true h1; have := of_decide_eq_true h2; omega)) l
  have nd' := (isort_perm (le := fun a b : Nat => decide ((a : Int) ≤ (b : Int))) l).nodup_iff.mpr nd
  generalize isort (fun a b : Nat => decide ((a : Int) ≤ (b : Int))) l = k at hs nd'
  exact (hs.and nd').imp fun {a b} h => by
    have := of_decide_eq_true h.1
    have := h.2
    omega
theorem lay_far {m es B l s d} (lo : LayOk m es B l) (r : Rng m es) (hd : IsDist m es s d) : ∀ (j v : Nat), v < m → d.getD v 0 = j → l.getD v 0 ≤ l.getD s 0 + (j : Nat) := by
  intro j
  induction j with
  | zero =>
    intro v hv q
    rw [hd.zero hv q]
    omega
  | succ j ih =>
    intro v hv q
    have ne : v ≠ s := fun c => by rw [c, hd.src] at q; cases q
    obtain ⟨u, a, q2⟩ := hd.back v hv ne
    have := ih u (r.adj a).1 (by omega)
    have := lo.adj a
    omega
theorem pot_le (K : Nat) : ∀ (r l : List Int), (∀ v, v < l.length → v < r.length → r.getD v 0 - l.getD v 0 ≤ K) → pot r l ≤ K * l.length
  | [], [], _ => Nat.zero_le _
  | [], _ :: _, _ => Nat.zero_le _
  | _ :: _, [], _ => Nat.zero_le _
  | a :: r, b :: l, h => by
    have h0 : a - b ≤ K := h 0 (by simp) (by simp)
    have ih := pot_le K r l fun v h1 h2 => h (v + 1) (by simpa using h1) (by simpa using h2)
    show (a - b).toNat + pot r l ≤ K * (l.length + 1)
    rw [Nat.mul_succ]
    omega
/-- stops at a first laying -/
structure StopsAt (m : Nat) (l : List Int) (st : List (Nat × Int)) : Prop where
  some : st ≠ []
  sort : st.Pairwise fun p q => p.1 < q.1
  ok : ∀ p ∈ st, p.1 < m ∧ l.getD p.1 0 ≤ p.2 ∧ p.2 ≤ 300 ∧ (p.2 - l.getD p.1 0) % 2 = 0
theorem StopsAt.stops {m l st} (h : StopsAt m l st) : StopsOk m l st := ⟨h.some, h.sort, fun p hp => by
  have := h.ok p hp
  exact ⟨this.1, this.2.1, by omega, this.2.2.2⟩⟩
namespace K08
variable {fu n : Nat}
theorem rest_any {m : Nat} {es : List (Nat × Nat)} {st : List (Nat × Int)} {l : List Int} (w : WebOk m es) (h6 : m ≤ 6) (hfu : m < fu) (lo : LayOk m es 200 l) (h : StopsAt m l st) :
    ∃ r, IsHeld m es st r ∧ callF Pm fu (n + 3) 32 [.fz (webD m es), .fz (intsT l), .fz (stopsD st)] = some (.fz (intsT r), []) := by
  obtain ⟨r, _, hr⟩ := held_of_ok (fu := fu) (n := n) (first := intsT l) w hfu (fun p hp => (h.ok p hp).1) h.some
  have lb : ∀ v, v < m → -200 ≤ l.getD v 0 ∧ l.getD v 0 ≤ 200 := fun v hv => by
    have hv' : v < l.length := by rw [lo.len]; exact hv
    rw [getI hv']
    exact lo.low _ (List.getElem_mem hv')
  have rb : ∀ v, v < m → r.getD v 0 ≤ 306 := fun v hv => by
    obtain ⟨p, hp, d, hd, e⟩ := (hr.2 v hv).eq
    have := h.ok p hp
    have := hd.lt_n w.rng hv
    omega
  refine ⟨r, hr, rest_ok w hfu hr ⟨lo.len, fun u v a => lo.adj a, fun v hv => ?_, fun p hp => (h.ok p hp).2.2.2⟩ h.sort (by have := h.stops.len; omega) (fun v hv => by have := rb v hv; omega) ?_⟩
  · obtain ⟨p, hp, d, hd, e⟩ := (hr.2 v hv).eq
    have := h.ok p hp
    have := lay_far lo w.rng hd _ v hv rfl
    omega
  · have := pot_le 506 r l fun v h1 h2 => by
      have hv : v < m := by rw [← lo.len]; exact h1
      have := lb v hv
      have := rb v hv
      omega
    rw [lo.len] at this
    omega
end K08
end PF
end

section
set_option Elab.async false
set_option linter.all false
set_option maxRecDepth 100000
set_option maxHeartbeats 4000000
namespace PF
open PySem L2 K08
namespace K08
variable {fu n : Nat}
def stopE : IE := .tup false (.cons (.var 12) (.cons (.bin .add (.idx (.var 3) (.var 12)) (.bin .mul (.cst (.int 2)) (.call 18 [.io, .val] (.cons (.var 1) (.cons (.cst (.int 5)) .nil))))) .nil))
theorem stops_comp {w : W} {first : List Int} {names : List Nat} {a b c : Option W} (h : RowOk w) (hn : ∀ v ∈ names, v < first.length) :
    ∃ (st : List (Nat × Int)) (w' : W), compQ (callF Pm fu (n + 1)) [12] (.nm 12) .nil false stopE (names.map natD) [a, some w, b, some (.fz (intsT first)), c, none, none, none, none, none, none, none, none, none] = some (st.map fun p => .fz (stopD p), [a, some w', b, some (.fz (intsT first)), c, none, none, none, none, none, none, none, none, none]) ∧ RowOk w' ∧ st.map (·.1) = names ∧ ∀ p ∈ st, ∃ k : Nat, k < 5 ∧ p.2 = first.getD p.1 0 + 2 * (k : Int) := by
  obtain ⟨acc, g, e, st, w', rfl, rfl, hw', hs, hst⟩ := compQ_inv (F := callF Pm fu (n + 1)) (ow := [12]) (t := .nm 12) (cs := .nil) (oe := false) (e := stopE) (ds := names.map natD) (g := [a, some w, b, some (.fz (intsT first)), c, none, none, none, none, none, none, none, none, none])
    (fun i acc g => ∃ (st : List (Nat × Int)) (w' : W), acc = (st.map fun p => .fz (stopD p)) ∧ g = [a, some w', b, some (.fz (intsT first)), c, none, none, none, none, none, none, none, none, none] ∧ RowOk w' ∧ st.map (·.1) = names.take i ∧ ∀ p ∈ st, ∃ k : Nat, k < 5 ∧ p.2 = first.getD p.1 0 + 2 * (k : Int))
    ⟨[], w, rfl, rfl, h, rfl, by simp⟩
    (by
      rintro i d acc g hd ⟨st, w1, rfl, rfl, hw1, hs, hst⟩
      rw [List.getElem?_map, Option.map_eq_some_iff] at hd
      obtain ⟨v, hv, rfl⟩ := hd
      have hvl := hn v (List.mem_of_getElem? hv)
      obtain ⟨k, w2, e, hk, hw2⟩ := taken_lit (fu := fu) (n := n) hw1 5 5 rfl (by omega) (by omega)
      have sm2 : small64 2 = true := by decide
      refine ⟨some (.fz (stopD (v, first.getD v 0 + 2 * (k : Int)))), [a, some w2, b, some (.fz (intsT first)), c, none, none, none, none, none, none, none, none, none], ?_, st ++ [(v, first.getD v 0 + 2 * (k : Int))], w2, ?_, rfl, hw2, ?_, ?_⟩
      · simp [f_len_l, f_len_t, f_len_p, f_len_s, f_abs, f_max2, f_min2, f_sorted, f_all, f_int_i, f_int_b, f_list_l, f_list_t, f_tuple_l, f_tuple_t, f_ptuple, f_dict_p, f_lrange, d_neg, d_not, d_add_i, d_add_l, d_add_t, d_add_p, d_sub, d_mul_i, d_fdiv, d_mod, d_pow, d_eq, d_ne, d_lt_i, d_lt_t, d_le, d_gt, d_ge, d_in, d_nin, d_is_nn, d_is_in, d_is_ln, d_is_tn, d_ix_l, d_ix_t, d_ix_p, d_ix_s, d_sl_l, d_sl_t, d_sl_p, q_var, q_cst, q_glo, q_un, q_bin, q_cmp, q_chn, q_and, q_or, q_ite, q_idx, q_slc, q_tup, q_lst, q_dic, q_call, q_bf, q_isi, q_get, q_app, q_ext, q_popL, q_popA, q_comp, turn_eq, t_not, t_and, t_or, t_cmp, t_chn, t_call, t_bf, t_isi, t_var, c_nil, c_one, o_nil, o_one, l_nil, l_cons, i_val, i_rng1, i_rng2, i_enu, i_zip, s_asg, s_asgs, s_aug, s_exp, s_del, s_retF, s_retT, s_retN, s_ite, s_whl, s_for, s_brk, s_cnt, s_pass, b_nil, b_cons, w_nm, w_un, w_sub, runF, boolA, res, W.toD, W.at, W.sub, isiD, takeA, takeS, takeC, putC, frzA, frzL, takeL, stoL, ST.own, resL, iosOf, fin_c, own, -List.all_map, fz_all, fz_all2, fz_all3, D.isAtom, W.isFz, W.flat, bindT, wipeG, backG, Arg.simple, pureE, pureL, idxA, stepOf, modP, W.setAt, W.setS, setW, popW, isL, isDc, itemsOf, toDs, toDs_fz, toDs_comp, toDs_fun, all_true, eqD_int, eqD_bl, atI_nat, atI_0, atI_1, atI_2, atI_3, ixN4_0, ixN4_1, ixN4_2, ixN4_3, stopE, intsT, natD, e, hvl, sm2, slk_ok, stopD]
      · simp
      · rw [List.map_append, hs, List.take_add_one, hv]
        rfl
      · intro p hp
        rcases List.mem_append.mp hp with hp | hp
        · exact hst p hp
        · have : p = (v, first.getD v 0 + 2 * (k : Int)) := by simpa using hp
          subst this
          exact ⟨k, hk, rfl⟩)
  rw [List.length_map, List.take_length] at hs
  exact ⟨st, w', e, hw', hs, hst⟩
def aloneC : IE := .cmp .eq (.idx (.call 32 [.val, .val, .val] (.cons (.var 2) (.cons (.var 3) (.cons (.tup true (.cons (.tup false (.cons (.var 12) (.cons (.var 13) .nil))) .nil)) .nil)))) (.var 7)) (.idx (.var 6) (.var 7))
theorem alone_comp {m v : Nat} {es : List (Nat × Nat)} {far : List Nat} {st : List (Nat × Int)} {l r : List Int} {a b c : Option W} (w : WebOk m es) (h6 : m ≤ 6) (hfu : m < fu) (lo : LayOk m es 200 l) (h : StopsAt m l st) (hv : v < m) (hd : IsDist m es v far) (hr : r.length = m) :
    compQ (callF Pm fu (n + 3)) [12, 13] (.cons (.nm 12) (.cons (.nm 13) .nil)) (.cons aloneC .nil) false (.var 12) (st.map stopD) [a, b, some (.fz (webD m es)), some (.fz (intsT l)), c, some (.fz (stopsD st)), some (.fz (intsT r)), some (.fz (natD v)), none, none, none, none, none, none]
      = some ((st.filter fun p => decide (p.2 + (far.getD p.1 0 : Nat) = r.getD v 0)).map fun p => .fz (natD p.1), [a, b, some (.fz (webD m es)), some (.fz (intsT l)), c, some (.fz (stopsD st)), some (.fz (intsT r)), some (.fz (natD v)), none, none, none, none, none, none]) := by
  refine compQ_map1 stopD (fun p => decide (p.2 + (far.getD p.1 0 : Nat) = r.getD v 0)) (fun p => .fz (natD p.1)) fun p hp => ?_
  obtain ⟨r1, hr1, e⟩ := rest_any (fu := fu) (n := n) (st := [p]) w h6 hfu lo ⟨by simp, by simp, fun q hq => by
    have : q = p := by simpa using hq
    subst this
    exact h.ok q hp⟩
  have ev : r1.getD v 0 = p.2 + (far.getD p.1 0 : Nat) := by
    obtain ⟨q, hq, d, hd', e9⟩ := (hr1.2 v hv).eq
    have : q = p := by simpa using hq
    subst this
    rw [e9, dist_symm w.rng hd' hd]
  have v1 : v < r1.length := by rw [hr1.1]; exact hv
  have v2 : v < r.length := by rw [hr]; exact hv
  have g1 := getI v1
  have g2 := getI v2
  rw [← ev, g1, g2]
  simp only [stopsD, List.map_cons, List.map_nil, stopD, natD, intsT] at e ⊢
  by_cases c : r1[v] = r[v]
  · simp [f_len_l, f_len_t, f_len_p, f_len_s, f_abs, f_max2, f_min2, f_sorted, f_all, f_int_i, f_int_b, f_list_l, f_list_t, f_tuple_l, f_tuple_t, f_ptuple, f_dict_p, f_lrange, d_neg, d_not, d_add_i, d_add_l, d_add_t, d_add_p, d_sub, d_mul_i, d_fdiv, d_mod, d_pow, d_eq, d_ne, d_lt_i, d_lt_t, d_le, d_gt, d_ge, d_in, d_nin, d_is_nn, d_is_in, d_is_ln, d_is_tn, d_ix_l, d_ix_t, d_ix_p, d_ix_s, d_sl_l, d_sl_t, d_sl_p, q_var, q_cst, q_glo, q_un, q_bin, q_cmp, q_chn, q_and, q_or, q_ite, q_idx, q_slc, q_tup, q_lst, q_dic, q_call, q_bf, q_isi, q_get, q_app, q_ext, q_popL, q_popA, q_comp, turn_eq, t_not, t_and, t_or, t_cmp, t_chn, t_call, t_bf, t_isi, t_var, c_nil, c_one, o_nil, o_one, l_nil, l_cons, i_val, i_rng1, i_rng2, i_enu, i_zip, s_asg, s_asgs, s_aug, s_exp, s_del, s_retF, s_retT, s_retN, s_ite, s_whl, s_for, s_brk, s_cnt, s_pass, b_nil, b_cons, w_nm, w_un, w_sub, runF, boolA, res, W.toD, W.at, W.sub, isiD, takeA, takeS, takeC, putC, frzA, frzL, takeL, stoL, ST.own, resL, iosOf, fin_c, own, -List.all_map, fz_all, fz_all2, fz_all3, D.isAtom, W.isFz, W.flat, bindT, wipeG, backG, Arg.simple, pureE, pureL, idxA, stepOf, modP, W.setAt, W.setS, setW, popW, isL, isDc, itemsOf, toDs, toDs_fz, toDs_comp, toDs_fun, all_true, eqD_int, eqD_bl, atI_nat, atI_0, atI_1, atI_2, atI_3, ixN4_0, ixN4_1, ixN4_2, ixN4_3, aloneC, e, v1, v2, c, slk_ok]
  · simp [f_len_l, f_len_t, f_len_p, f_len_s, f_abs, f_max2, f_min2, f_sorted, f_all, f_int_i, f_int_b, f_list_l, f_list_t, f_tuple_l, f_tuple_t, f_ptuple, f_dict_p, f_lrange, d_neg, d_not, d_add_i, d_add_l, d_add_t, d_add_p, d_sub, d_mul_i, d_fdiv, d_mod, d_pow, d_eq, d_ne, d_lt_i, d_lt_t, d_le, d_gt, d_ge, d_in, d_nin, d_is_nn, d_is_in, d_is_ln, d_is_tn, d_ix_l, d_ix_t, d_ix_p, d_ix_s, d_sl_l, d_sl_t, d_sl_p, q_var, q_cst, q_glo, q_un, q_bin, q_cmp, q_chn, q_and, q_or, q_ite, q_idx, q_slc, q_tup, q_lst, q_dic, q_call, q_bf, q_isi, q_get, q_app, q_ext, q_popL, q_popA, q_comp, turn_eq, t_not, t_and, t_or, t_cmp, t_chn, t_call, t_bf, t_isi, t_var, c_nil, c_one, o_nil, o_one, l_nil, l_cons, i_val, i_rng1, i_rng2, i_enu, i_zip, s_asg, s_asgs, s_aug, s_exp, s_del, s_retF, s_retT, s_retN, s_ite, s_whl, s_for, s_brk, s_cnt, s_pass, b_nil, b_cons, w_nm, w_un, w_sub, runF, boolA, res, W.toD, W.at, W.sub, isiD, takeA, takeS, takeC, putC, frzA, frzL, takeL, stoL, ST.own, resL, iosOf, fin_c, own, -List.all_map, fz_all, fz_all2, fz_all3, D.isAtom, W.isFz, W.flat, bindT, wipeG, backG, Arg.simple, pureE, pureL, idxA, stepOf, modP, W.setAt, W.setS, setW, popW, isL, isDc, itemsOf, toDs, toDs_fz, toDs_comp, toDs_fun, all_true, eqD_int, eqD_bl, atI_nat, atI_0, atI_1, atI_2, atI_3, ixN4_0, ixN4_1, ixN4_2, ixN4_3, aloneC, e, v1, v2, c, slk_ok]
theorem idle_comp {m : Nat} {st : List (Nat × Int)} {l r : List Int} {a b c d e0 f g h' : Option W} (h : StopsAt m l st) (hr : r.length = m) :
    compQ (callF Pm fu (n + 3)) [12, 13] (.cons (.nm 12) (.cons (.nm 13) .nil)) (.cons (.cmp .lt (.idx (.var 6) (.var 12)) (.var 13)) .nil) false (.var 12) (st.map stopD) [a, b, c, d, e0, f, some (.fz (intsT r)), g, h', none, none, none, none, none]
      = some ((st.filter fun p => decide (r.getD p.1 0 < p.2)).map fun p => .fz (natD p.1), [a, b, c, d, e0, f, some (.fz (intsT r)), g, h', none, none, none, none, none]) := by
  refine compQ_map1 stopD (fun p => decide (r.getD p.1 0 < p.2)) (fun p => .fz (natD p.1)) fun p hp => ?_
  have v2 : p.1 < r.length := by rw [hr]; exact (h.ok p hp).1
  have g2 := getI v2
  simp only [stopD, natD, intsT]
  rw [g2]
  by_cases c : r[p.1] < p.2
  · simp [f_len_l, f_len_t, f_len_p, f_len_s, f_abs, f_max2, f_min2, f_sorted, f_all, f_int_i, f_int_b, f_list_l, f_list_t, f_tuple_l, f_tuple_t, f_ptuple, f_dict_p, f_lrange, d_neg, d_not, d_add_i, d_add_l, d_add_t, d_add_p, d_sub, d_mul_i, d_fdiv, d_mod, d_pow, d_eq, d_ne, d_lt_i, d_lt_t, d_le, d_gt, d_ge, d_in, d_nin, d_is_nn, d_is_in, d_is_ln, d_is_tn, d_ix_l, d_ix_t, d_ix_p, d_ix_s, d_sl_l, d_sl_t, d_sl_p, q_var, q_cst, q_glo, q_un, q_bin, q_cmp, q_chn, q_and, q_or, q_ite, q_idx, q_slc, q_tup, q_lst, q_dic, q_call, q_bf, q_isi, q_get, q_app, q_ext, q_popL, q_popA, q_comp, turn_eq, t_not, t_and, t_or, t_cmp, t_chn, t_call, t_bf, t_isi, t_var, c_nil, c_one, o_nil, o_one, l_nil, l_cons, i_val, i_rng1, i_rng2, i_enu, i_zip, s_asg, s_asgs, s_aug, s_exp, s_del, s_retF, s_retT, s_retN, s_ite, s_whl, s_for, s_brk, s_cnt, s_pass, b_nil, b_cons, w_nm, w_un, w_sub, runF, boolA, res, W.toD, W.at, W.sub, isiD, takeA, takeS, takeC, putC, frzA, frzL, takeL, stoL, ST.own, resL, iosOf, fin_c, own, -List.all_map, fz_all, fz_all2, fz_all3, D.isAtom, W.isFz, W.flat, bindT, wipeG, backG, Arg.simple, pureE, pureL, idxA, stepOf, modP, W.setAt, W.setS, setW, popW, isL, isDc, itemsOf, toDs, toDs_fz, toDs_comp, toDs_fun, all_true, eqD_int, eqD_bl, atI_nat, atI_0, atI_1, atI_2, atI_3, ixN4_0, ixN4_1, ixN4_2, ixN4_3, v2, c, slk_ok]
  · simp [f_len_l, f_len_t, f_len_p, f_len_s, f_abs, f_max2, f_min2, f_sorted, f_all, f_int_i, f_int_b, f_list_l, f_list_t, f_tuple_l, f_tuple_t, f_ptuple, f_dict_p, f_lrange, d_neg, d_not, d_add_i, d_add_l, d_add_t, d_add_p, d_sub, d_mul_i, d_fdiv, d_mod, d_pow, d_eq, d_ne, d_lt_i, d_lt_t, d_le, d_gt, d_ge, d_in, d_nin, d_is_nn, d_is_in, d_is_ln, d_is_tn, d_ix_l, d_ix_t, d_ix_p, d_ix_s, d_sl_l, d_sl_t, d_sl_p, q_var, q_cst, q_glo, q_un, q_bin, q_cmp, q_chn, q_and, q_or, q_ite, q_idx, q_slc, q_tup, q_lst, q_dic, q_call, q_bf, q_isi, q_get, q_app, q_ext, q_popL, q_popA, q_comp, turn_eq, t_not, t_and, t_or, t_cmp, t_chn, t_call, t_bf, t_isi, t_var, c_nil, c_one, o_nil, o_one, l_nil, l_cons, i_val, i_rng1, i_rng2, i_enu, i_zip, s_asg, s_asgs, s_aug, s_exp, s_del, s_retF, s_retT, s_retN, s_ite, s_whl, s_for, s_brk, s_cnt, s_pass, b_nil, b_cons, w_nm, w_un, w_sub, runF, boolA, res, W.toD, W.at, W.sub, isiD, takeA, takeS, takeC, putC, frzA, frzL, takeL, stoL, ST.own, resL, iosOf, fin_c, own, -List.all_map, fz_all, fz_all2, fz_all3, D.isAtom, W.isFz, W.flat, bindT, wipeG, backG, Arg.simple, pureE, pureL, idxA, stepOf, modP, W.setAt, W.setS, setW, popW, isL, isDc, itemsOf, toDs, toDs_fz, toDs_comp, toDs_fun, all_true, eqD_int, eqD_bl, atI_nat, atI_0, atI_1, atI_2, atI_3, ixN4_0, ixN4_1, ixN4_2, ixN4_3, v2, c, slk_ok]
def spareB : IB := .cons (.asg (.nm 11 false) (.bin .addP (.slc (.var 5) .nil (.cons (.var 10) .nil)) (.slc (.var 5) (.cons (.bin .add (.var 10) (.cst (.int 1))) .nil) .nil))) <|
    .cons (.ite (.and (.cmp .ne (.var 11) (.tup false .nil)) (.cmp .eq (.call 32 [.val, .val, .val] (.cons (.var 2) (.cons (.var 3) (.cons (.var 11) .nil)))) (.var 6))) (.cons (.exp (.app false (.var 9) (.idx (.idx (.var 5) (.var 10)) (.cst (.int 0))))) <|
      .nil) .nil) <|
    .nil
theorem spare_loop {m : Nat} {es : List (Nat × Nat)} {st : List (Nat × Int)} {l r : List Int} {a b c d e0 : Option W} (w : WebOk m es) (h6 : m ≤ 6) (hfu : m < fu) (lo : LayOk m es 200 l) (h : StopsAt m l st) (hr : IsHeld m es st r) (nd : Nat → Bool) (hn : ∀ i, i < st.length → (nd i = true ↔ Needless m es st r i)) :
    ∃ x y, forQ (callF Pm fu (n + 3)) fu (.nm 10) spareB ((List.range st.length).map fun i => D.int (i : Nat)) [a, b, some (.fz (webD m es)), some (.fz (intsT l)), c, some (.fz (stopsD st)), some (.fz (intsT r)), d, e0, some (.lst []), none, none, none, none]
      = some (.nx [a, b, some (.fz (webD m es)), some (.fz (intsT l)), c, some (.fz (stopsD st)), some (.fz (intsT r)), d, e0, some (.lst (((List.range st.length).filter nd).map fun i => .fz (natD (st.getD i (0, 0)).1))), x, y, none, none]) := by
  have hsl : st.length ≤ m := h.stops.len
  obtain ⟨g, e, x, y, rfl⟩ := forQ_inv (F := callF Pm fu (n + 3)) (fu := fu) (t := .nm 10) (b := spareB) (ds := (List.range st.length).map fun i => D.int (i : Nat)) (g := [a, b, some (.fz (webD m es)), some (.fz (intsT l)), c, some (.fz (stopsD st)), some (.fz (intsT r)), d, e0, some (.lst []), none, none, none, none])
    (fun i g => ∃ x y, g = [a, b, some (.fz (webD m es)), some (.fz (intsT l)), c, some (.fz (stopsD st)), some (.fz (intsT r)), d, e0, some (.lst (((List.range i).filter nd).map fun i => .fz (natD (st.getD i (0, 0)).1))), x, y, none, none])
    ⟨none, none, rfl⟩
    (by
      rintro i q g hq ⟨x, y, rfl⟩
      have hi : i < st.length := by
        have := (List.getElem?_eq_some_iff.mp hq).1
        simpa using this
      have hq : q = natD i := by
        rw [List.getElem?_map, List.getElem?_range hi] at hq
        exact (Option.some.inj hq).symm
      subst hq
      have gs : st.getD i (0, 0) = st[i] := by simp [hi]
      have k1 := cut_to (st.map stopD) i
      have k2 := cut_from (st.map stopD) (i + 1)
      have k2' : cutD (st.map stopD) (some ((i : Int) + 1)) none = (st.map stopD).drop (i + 1) := k2
      have hle2 : (st.map stopD).take i ++ (st.map stopD).drop (i + 1) = (less st i).map stopD := by simp [less]
      have sl2 : slk (min i st.length + (st.length - (i + 1))) = true := slk_ok (by omega)
      have en := stops_nil (less st i)
      obtain ⟨out, hout⟩ : ∃ out : List W, out = ((List.range i).filter nd).map fun i => .fz (natD (st.getD i (0, 0)).1) := ⟨_, rfl⟩
      have hol : out.length ≤ i := by
        rw [hout, List.length_map]
        exact Nat.le_trans (List.length_filter_le _ _) (by simp)
      have aa := app_ok (y := .fz (natD st[i].1)) (ws := out) (by omega)
      have nx : (((List.range (i + 1)).filter nd).map fun i => W.fz (natD (st.getD i (0, 0)).1)) = if nd i = true then out ++ [.fz (natD st[i].1)] else out := by
        rw [List.range_succ, List.filter_append, List.map_append, ← hout]
        by_cases q : nd i = true
        · rw [if_pos q]
          simp [q, gs, hi]
        · rw [if_neg q]
          simp [q]
      have gx : (st.map stopD)[i]? = some (stopD st[i]) := by simp [hi]
      refine ⟨[a, b, some (.fz (webD m es)), some (.fz (intsT l)), c, some (.fz (stopsD st)), some (.fz (intsT r)), d, e0, some (.lst (((List.range (i + 1)).filter nd).map fun i => .fz (natD (st.getD i (0, 0)).1))), some (.fz (natD i)), some (.fz (stopsD (less st i))), none, none], ?_, _, _, rfl⟩
      rw [nx, ← hout]
      by_cases c0 : less st i = []
      · rw [decide_eq_true c0] at en
        have hnd : nd i = false := by
          cases q : nd i with
          | false => rfl
          | true => exact absurd c0 ((hn i hi).mp q).1
        simp only [stopsD, natD] at en ⊢
        simp [f_len_l, f_len_t, f_len_p, f_len_s, f_abs, f_max2, f_min2, f_sorted, f_all, f_int_i, f_int_b, f_list_l, f_list_t, f_tuple_l, f_tuple_t, f_ptuple, f_dict_p, f_lrange, d_neg, d_not, d_add_i, d_add_l, d_add_t, d_add_p, d_sub, d_mul_i, d_fdiv, d_mod, d_pow, d_eq, d_ne, d_lt_i, d_lt_t, d_le, d_gt, d_ge, d_in, d_nin, d_is_nn, d_is_in, d_is_ln, d_is_tn, d_ix_l, d_ix_t, d_ix_p, d_ix_s, d_sl_l, d_sl_t, d_sl_p, q_var, q_cst, q_glo, q_un, q_bin, q_cmp, q_chn, q_and, q_or, q_ite, q_idx, q_slc, q_tup, q_lst, q_dic, q_call, q_bf, q_isi, q_get, q_app, q_ext, q_popL, q_popA, q_comp, turn_eq, t_not, t_and, t_or, t_cmp, t_chn, t_call, t_bf, t_isi, t_var, c_nil, c_one, o_nil, o_one, l_nil, l_cons, i_val, i_rng1, i_rng2, i_enu, i_zip, s_asg, s_asgs, s_aug, s_exp, s_del, s_retF, s_retT, s_retN, s_ite, s_whl, s_for, s_brk, s_cnt, s_pass, b_nil, b_cons, w_nm, w_un, w_sub, runF, boolA, res, W.toD, W.at, W.sub, isiD, takeA, takeS, takeC, putC, frzA, frzL, takeL, stoL, ST.own, resL, iosOf, fin_c, own, -List.all_map, fz_all, fz_all2, fz_all3, D.isAtom, W.isFz, W.flat, bindT, wipeG, backG, Arg.simple, pureE, pureL, idxA, stepOf, modP, W.setAt, W.setS, setW, popW, isL, isDc, itemsOf, toDs, toDs_fz, toDs_comp, toDs_fun, all_true, eqD_int, eqD_bl, atI_nat, atI_0, atI_1, atI_2, atI_3, ixN4_0, ixN4_1, ixN4_2, ixN4_3, spareB, k1, k2', sl2, hle2, en, slk_ok, hnd]
      · rw [decide_eq_false c0] at en
        obtain ⟨r2, h4, e4⟩ := rest_any (fu := fu) (n := n) (st := less st i) w h6 hfu lo ⟨c0, by
          refine h.sort.sublist ?_
          have := List.take_append_drop i st
          conv => rhs; rw [← this]
          refine List.Sublist.append_left ?_ _
          rw [← List.drop_drop]
          exact List.drop_sublist _ _, fun p hp => h.ok p (mem_less hp)⟩
        have ei := eq_intsT r2 r
        have hnd : nd i = decide (r2 = r) := by
          rw [Bool.eq_iff_iff, hn i hi, decide_eq_true_eq]
          constructor
          · intro q; exact h4.uniq q.2
          · intro q; subst q; exact ⟨c0, h4⟩
        by_cases c1 : r2 = r
        · rw [decide_eq_true c1] at ei hnd
          simp only [stopsD, natD, stopD] at en e4 k1 k2' hle2 aa gx ⊢
          simp [f_len_l, f_len_t, f_len_p, f_len_s, f_abs, f_max2, f_min2, f_sorted, f_all, f_int_i, f_int_b, f_list_l, f_list_t, f_tuple_l, f_tuple_t, f_ptuple, f_dict_p, f_lrange, d_neg, d_not, d_add_i, d_add_l, d_add_t, d_add_p, d_sub, d_mul_i, d_fdiv, d_mod, d_pow, d_eq, d_ne, d_lt_i, d_lt_t, d_le, d_gt, d_ge, d_in, d_nin, d_is_nn, d_is_in, d_is_ln, d_is_tn, d_ix_l, d_ix_t, d_ix_p, d_ix_s, d_sl_l, d_sl_t, d_sl_p, q_var, q_cst, q_glo, q_un, q_bin, q_cmp, q_chn, q_and, q_or, q_ite, q_idx, q_slc, q_tup, q_lst, q_dic, q_call, q_bf, q_isi, q_get, q_app, q_ext, q_popL, q_popA, q_comp, turn_eq, t_not, t_and, t_or, t_cmp, t_chn, t_call, t_bf, t_isi, t_var, c_nil, c_one, o_nil, o_one, l_nil, l_cons, i_val, i_rng1, i_rng2, i_enu, i_zip, s_asg, s_asgs, s_aug, s_exp, s_del, s_retF, s_retT, s_retN, s_ite, s_whl, s_for, s_brk, s_cnt, s_pass, b_nil, b_cons, w_nm, w_un, w_sub, runF, boolA, res, W.toD, W.at, W.sub, isiD, takeA, takeS, takeC, putC, frzA, frzL, takeL, stoL, ST.own, resL, iosOf, fin_c, own, -List.all_map, fz_all, fz_all2, fz_all3, D.isAtom, W.isFz, W.flat, bindT, wipeG, backG, Arg.simple, pureE, pureL, idxA, stepOf, modP, W.setAt, W.setS, setW, popW, isL, isDc, itemsOf, toDs, toDs_fz, toDs_comp, toDs_fun, all_true, eqD_int, eqD_bl, atI_nat, atI_0, atI_1, atI_2, atI_3, ixN4_0, ixN4_1, ixN4_2, ixN4_3, spareB, k1, k2', sl2, hle2, en, slk_ok, hnd, e4, ei, aa, gx, hi, stopD, natD]
        · rw [decide_eq_false c1] at ei hnd
          simp only [stopsD, natD, stopD] at en e4 k1 k2' hle2 ⊢
          simp [f_len_l, f_len_t, f_len_p, f_len_s, f_abs, f_max2, f_min2, f_sorted, f_all, f_int_i, f_int_b, f_list_l, f_list_t, f_tuple_l, f_tuple_t, f_ptuple, f_dict_p, f_lrange, d_neg, d_not, d_add_i, d_add_l, d_add_t, d_add_p, d_sub, d_mul_i, d_fdiv, d_mod, d_pow, d_eq, d_ne, d_lt_i, d_lt_t, d_le, d_gt, d_ge, d_in, d_nin, d_is_nn, d_is_in, d_is_ln, d_is_tn, d_ix_l, d_ix_t, d_ix_p, d_ix_s, d_sl_l, d_sl_t, d_sl_p, q_var, q_cst, q_glo, q_un, q_bin, q_cmp, q_chn, q_and, q_or, q_ite, q_idx, q_slc, q_tup, q_lst, q_dic, q_call, q_bf, q_isi, q_get, q_app, q_ext, q_popL, q_popA, q_comp, turn_eq, t_not, t_and, t_or, t_cmp, t_chn, t_call, t_bf, t_isi, t_var, c_nil, c_one, o_nil, o_one, l_nil, l_cons, i_val, i_rng1, i_rng2, i_enu, i_zip, s_asg, s_asgs, s_aug, s_exp, s_del, s_retF, s_retT, s_retN, s_ite, s_whl, s_for, s_brk, s_cnt, s_pass, b_nil, b_cons, w_nm, w_un, w_sub, runF, boolA, res, W.toD, W.at, W.sub, isiD, takeA, takeS, takeC, putC, frzA, frzL, takeL, stoL, ST.own, resL, iosOf, fin_c, own, -List.all_map, fz_all, fz_all2, fz_all3, D.isAtom, W.isFz, W.flat, bindT, wipeG, backG, Arg.simple, pureE, pureL, idxA, stepOf, modP, W.setAt, W.setS, setW, popW, isL, isDc, itemsOf, toDs, toDs_fz, toDs_comp, toDs_fun, all_true, eqD_int, eqD_bl, atI_nat, atI_0, atI_1, atI_2, atI_3, ixN4_0, ixN4_1, ixN4_2, ixN4_3, spareB, k1, k2', sl2, hle2, en, slk_ok, hnd, e4, ei])
  rw [List.length_map, List.length_range] at e
  exact ⟨x, y, e⟩
end K08
end PF
end

section
set_option Elab.async false
set_option linter.all false
set_option maxRecDepth 100000
set_option maxHeartbeats 4000000
namespace PF
open PySem L2 K08
namespace K08
variable {fu n : Nat}
theorem law_ok (ns : List Int) (hfu : 41 < fu) : callF Pm fu (n + 20) 33 [.fz (.scr ns)] = some (.fz (.bl true), []) := by
  have hw0 : RowOk (.lst [.fz (.scr ns), .fz (.int 0), .fz (.int 5608), .fz (.int 0)]) := ⟨ns, 0, 5608, 0, rfl, by decide, by decide⟩
  obtain ⟨m, es, w1, e1, wo, hm, _, hw1⟩ := web_ok (fu := fu) (n := n + 15) (M := 6) hw0 (by omega) (by omega) hfu
  have hm40 := wo.most
  have hm1 := wo.pos
  obtain ⟨l, w2, e2, hw2, lo⟩ := first_ok (fu := fu) (n := n + 14) hw1 wo hfu
  obtain ⟨mx, w3, e3, hp, hw3⟩ := mixed_nat (fu := fu) (n := n + 17) hw2 (l0 := List.range m) (by simp; omega)
  have hmxl : mx.length = m := by
    have := hp.length_eq
    simpa using this
  obtain ⟨mm, hmm, hmm1, hmm2⟩ : ∃ mm : Nat, (if (m : Int) < 4 then (m : Int) else 4) = (mm : Int) ∧ 1 ≤ mm ∧ mm ≤ 4 := by
    by_cases c : m < 4
    · exact ⟨m, by rw [if_pos (by omega)], by omega, by omega⟩
    · exact ⟨4, by rw [if_neg (by omega)]; rfl, by omega, by omega⟩
  obtain ⟨q, w4, e4, hq, hw4⟩ := taken_nat (fu := fu) (n := n + 18) hw3 hmm1 (by omega)
  have ndm : mx.Nodup := hp.nodup_iff.mpr List.nodup_range
  obtain ⟨nm, e5, hnp, hns⟩ := sort_up (mx.take (1 + q)) (ndm.sublist (List.take_sublist _ _))
  have hnl : ∀ v ∈ nm, v < m := fun v hv => List.mem_range.mp (hp.mem_iff.mp (List.mem_of_mem_take (hnp.mem_iff.mp hv)))
  obtain ⟨st, w5, e6, hw5, hst1, hst2⟩ := stops_comp (fu := fu) (n := n + 18) (first := l) (names := nm) (a := some (.fz (.scr ns))) (b := some (.fz (webD m es))) (c := some (.fz (natsL nm))) hw4 (fun v hv => by rw [lo.len]; exact hnl v hv)
  have lb : ∀ v, v < m → -200 ≤ l.getD v 0 ∧ l.getD v 0 ≤ 200 := fun v hv => by
    have hv' : v < l.length := by rw [lo.len]; exact hv
    rw [getI hv']
    exact lo.low _ (List.getElem_mem hv')
  have sat : StopsAt m l st := by
    refine ⟨fun c => ?_, ?_, fun p hp => ?_⟩
    · rw [c] at hst1
      have h1 := congrArg List.length hst1
      rw [hnp.length_eq, List.length_take] at h1
      simp at h1
      omega
    · rw [← hst1, List.pairwise_map] at hns
      exact hns
    · have hv := hnl p.1 (by rw [← hst1]; exact List.mem_map_of_mem hp)
      obtain ⟨k, hk, e⟩ := hst2 p hp
      have := lb p.1 hv
      exact ⟨hv, by omega, by omega, by omega⟩
  obtain ⟨r, hr, e7⟩ := rest_any (fu := fu) (n := n + 16) wo hm (by omega) lo sat
  have lo6 : LayOk m es 1000000 l := ⟨lo.len, fun x hx => by have := lo.low x hx; omega, lo.step⟩
  have hfm : m < fu := by omega
  have e8 := held_ok (fu := fu) (n := n + 11) wo lo6 sat.stops hfm hr
  have e9 := alike_ints (fu := fu) (n := n + 17) r (by rw [hr.1]; omega)
  obtain ⟨v, w6, e10, hv, hw6⟩ := taken_nat (fu := fu) (n := n + 18) hw5 hm1 (by omega)
  obtain ⟨far, _, hd⟩ := reach_ok (fu := fu) (n := n) (s := v) wo.rng wo.conn wo.len (by omega) hv hfm
  have e11 := alone_comp (fu := fu) (n := n + 16) (a := some (.fz (.scr ns))) (b := some w6) (c := some (.fz (natsL nm))) wo hm hfm lo sat hv hd hr.1
  have e12 := holders_ok (fu := fu) (n := n + 11) wo lo6 sat.stops hfm hr hv hd
  have sl0 : st.length ≤ m := sat.stops.len
  have al : ∀ k : List Nat, k.length ≤ 1000 → callF Pm fu (n + 19) 20 [.fz (.tup (k.map natD)), .fz (.tup (k.map natD))] = some (.fz (.bl true), []) := fun k hk => by
    have := alike_ints (fu := fu) (n := n + 17) (k.map fun (k : Nat) => (k : Int)) (by rw [List.length_map]; omega)
    rw [← natsT_ints] at this
    exact this
  have e13 := al ((st.filter fun p => decide (p.2 + (far.getD p.1 0 : Nat) = r.getD v 0)).map (·.1)) (by rw [List.length_map]; have := List.length_filter_le (fun p => decide (p.2 + (far.getD p.1 0 : Nat) = r.getD v 0)) st; omega)
  have e14 := idle_ok (fu := fu) (n := n + 11) wo lo6 sat.stops hfm hr
  have e15 := al ((st.filter fun p => decide (r.getD p.1 0 < p.2)).map (·.1)) (by rw [List.length_map]; have := List.length_filter_le (fun p => decide (r.getD p.1 0 < p.2)) st; omega)
  obtain ⟨nd, hn⟩ : ∃ nd : Nat → Bool, ∀ i, nd i = true ↔ Needless m es st r i := by
    refine ⟨fun i => @decide (Needless m es st r i) (Classical.propDecidable _), fun i => ?_⟩
    exact @decide_eq_true_iff _ (Classical.propDecidable _)
  have e16 := needless_ok (fu := fu) (n := n + 11) wo lo6 sat.stops hfm hr nd fun i _ => hn i
  obtain ⟨k1, k2, e17⟩ := spare_loop (fu := fu) (n := n + 16) (a := some (.fz (.scr ns))) (b := some w6) (c := some (.fz (natsL nm))) (d := some (.fz (natD v))) (e0 := some (.fz (natsL ((st.filter fun p => decide (p.2 + (far.getD p.1 0 : Nat) = r.getD v 0)).map (·.1))))) wo hm hfm lo sat hr nd fun i _ => hn i
  have e18 := al (((List.range st.length).filter nd).map fun i => (st.getD i (0, 0)).1) (by rw [List.length_map]; have := List.length_filter_le nd (List.range st.length); simp at this; omega)
  have e19 := idle_comp (n := n + 16) (fu := fu) (a := some (.fz (.scr ns))) (b := some w6) (c := some (.fz (webD m es))) (d := some (.fz (intsT l))) (e0 := some (.fz (natsL nm))) (f := some (.fz (stopsD st))) (g := some (.fz (natD v))) (h' := some (.fz (natsL ((st.filter fun p => decide (p.2 + (far.getD p.1 0 : Nat) = r.getD v 0)).map (·.1))))) sat hr.1
  generalize hA : (st.filter fun p => decide (p.2 + (far.getD p.1 0 : Nat) = r.getD v 0)) = A at e11 e12 e13 e17 e19
  generalize hB : (st.filter fun p => decide (r.getD p.1 0 < p.2)) = B at e14 e15 e19
  generalize hC : (List.range st.length).filter nd = C at e16 e17 e18
  have slr : slk (min 4 4) = true := by decide
  have lr : absLe (m : Int) 10000 = true := absLe_of (by omega)
  have cutm := cut_to (mx.map natD) (1 + q)
  have cutm2 : cutD (mx.map natD) none (some (1 + (q : Int))) = (mx.map natD).take (1 + q) := by
    have : (1 + (q : Int)) = ((1 + q : Nat) : Int) := by omega
    rw [this]
    exact cutm
  rw [← List.map_take] at cutm2
  have sn : slk nm.length = true := slk_ok (by rw [hnp.length_eq, List.length_take]; omega)
  have ss : slk st.length = true := slk_ok (by omega)
  have rs := rng_nat (k := st.length) (by omega)
  have wd : webD m es = .tup [natD m, .tup (es.map hedgeD)] := rfl
  have ll : (List.range m).map natD = (List.range m).map fun i => D.int (i : Nat) := rfl
  rw [ll] at e3
  have e13 : callF Pm fu (n + 19) 20 [.fz (.tup (A.map fun p => natD p.1)), .fz (.tup (A.map fun p => natD p.1))] = some (.fz (.bl true), []) := by
    rw [List.map_map] at e13; exact e13
  have e15 : callF Pm fu (n + 19) 20 [.fz (.tup (B.map fun p => natD p.1)), .fz (.tup (B.map fun p => natD p.1))] = some (.fz (.bl true), []) := by
    rw [List.map_map] at e15; exact e15
  have e18 : callF Pm fu (n + 19) 20 [.fz (.tup (C.map fun i => natD (st.getD i (0, 0)).1)), .fz (.tup (C.map fun i => natD (st.getD i (0, 0)).1))] = some (.fz (.bl true), []) := by
    rw [List.map_map] at e18; exact e18
  have e9 : callF Pm fu (n + 19) 20 [.fz (intsT r), .fz (intsT r)] = some (.fz (.bl true), []) := e9
  have hA2 : natsL (A.map (·.1)) = .lst (A.map fun p => natD p.1) := by
    unfold natsL
    rw [List.map_map]; rfl
  rw [hA2] at e17 e19
  have hix : ixD (webD m es) (.int 0) = some (.int (m : Nat)) := rfl
  have e1 : callF Pm fu (n + 15 + 4) 23 [W.lst [W.fz (D.scr ns), W.fz (D.int 0), W.fz (D.int 5608), W.fz (D.int 0)], W.fz (D.int 6)] = some (W.fz (webD m es), [w1]) := e1
  rw [call_eq pm_33]
  simp only [natsL, natD, stopE] at e5 e6
  simp only [stopsD] at e7 e8 e11 e12 e14 e16 e17 e19
  simp only [natsL, natD, aloneC] at e10 e11 e12 e13 e14 e15
  simp only [natsL, natD, spareB] at e16 e17 e18 e19
  simp only [List.getD_eq_getElem?_getD] at e18
  simp [f_len_l, f_len_t, f_len_p, f_len_s, f_abs, f_max2, f_min2, f_sorted, f_all, f_int_i, f_int_b, f_list_l, f_list_t, f_tuple_l, f_tuple_t, f_ptuple, f_dict_p, f_lrange, d_neg, d_not, d_add_i, d_add_l, d_add_t, d_add_p, d_sub, d_mul_i, d_fdiv, d_mod, d_pow, d_eq, d_ne, d_lt_i, d_lt_t, d_le, d_gt, d_ge, d_in, d_nin, d_is_nn, d_is_in, d_is_ln, d_is_tn, d_ix_l, d_ix_t, d_ix_p, d_ix_s, d_sl_l, d_sl_t, d_sl_p, q_var, q_cst, q_glo, q_un, q_bin, q_cmp, q_chn, q_and, q_or, q_ite, q_idx, q_slc, q_tup, q_lst, q_dic, q_call, q_bf, q_isi, q_get, q_app, q_ext, q_popL, q_popA, q_comp, turn_eq, t_not, t_and, t_or, t_cmp, t_chn, t_call, t_bf, t_isi, t_var, c_nil, c_one, o_nil, o_one, l_nil, l_cons, i_val, i_rng1, i_rng2, i_enu, i_zip, s_asg, s_asgs, s_aug, s_exp, s_del, s_retF, s_retT, s_retN, s_ite, s_whl, s_for, s_brk, s_cnt, s_pass, b_nil, b_cons, w_nm, w_un, w_sub, runF, boolA, res, W.toD, W.at, W.sub, isiD, takeA, takeS, takeC, putC, frzA, frzL, takeL, stoL, ST.own, resL, iosOf, fin_c, own, -List.all_map, fz_all, fz_all2, fz_all3, D.isAtom, W.isFz, W.flat, bindT, wipeG, backG, Arg.simple, pureE, pureL, idxA, stepOf, modP, W.setAt, W.setS, setW, popW, isL, isDc, itemsOf, toDs, toDs_fz, toDs_comp, toDs_fun, all_true, eqD_int, eqD_bl, atI_nat, atI_0, atI_1, atI_2, atI_3, ixN4_0, ixN4_1, ixN4_2, ixN4_3, -List.map_take, f_33, e1, e2, e3, e4, e5, e6, e7, e8, e9, e10, e11, e12, e13, e14, e15, e16, e17, e18, e19, hix, hmm, lr, cutm2, sn, ss, rs, slk_ok, natD]
end K08
end PF
end
set_option maxRecDepth 100000
set_option maxHeartbeats 0
namespace PF
section
open PySem PySem.Spec PyProof.Rows L2 RZ
namespace K08
theorem chk_0 : defC L d_0 = true := by decide +kernel
theorem chk_1 : defC L d_1 = true := by decide +kernel
theorem chk_2 : defC L d_2 = true := by decide +kernel
theorem chk_3 : defC L d_3 = true := by decide +kernel
theorem chk_4 : defC L d_4 = true := by decide +kernel
theorem chk_5 : defC L d_5 = true := by decide +kernel
theorem chk_6 : defC L d_6 = true := by decide +kernel
theorem chk_7 : defC L d_7 = true := by decide +kernel
theorem chk_8 : defC L d_8 = true := by decide +kernel
theorem chk_9 : defC L d_9 = true := by decide +kernel
theorem chk_10 : defC L d_10 = true := by decide +kernel
theorem chk_11 : defC L d_11 = true := by decide +kernel
theorem chk_12 : defC L d_12 = true := by decide +kernel
theorem chk_13 : defC L d_13 = true := by decide +kernel
theorem chk_14 : defC L d_14 = true := by decide +kernel
theorem chk_15 : defC L d_15 = true := by decide +kernel
theorem chk_16 : defC L d_16 = true := by decide +kernel
theorem chk_17 : defC L d_17 = true := by decide +kernel
theorem chk_18 : defC L d_18 = true := by decide +kernel
theorem chk_19 : defC L d_19 = true := by decide +kernel
theorem chk_20 : defC L d_20 = true := by decide +kernel
theorem chk_21 : defC L d_21 = true := by decide +kernel
theorem chk_22 : defC L d_22 = true := by decide +kernel
theorem chk_23 : defC L d_23 = true := by decide +kernel
theorem chk_24 : defC L d_24 = true := by decide +kernel
theorem chk_25 : defC L d_25 = true := by decide +kernel
theorem chk_26 : defC L d_26 = true := by decide +kernel
theorem chk_27 : defC L d_27 = true := by decide +kernel
theorem chk_28 : defC L d_28 = true := by decide +kernel
theorem chk_29 : defC L d_29 = true := by decide +kernel
theorem chk_30 : defC L d_30 = true := by decide +kernel
theorem chk_31 : defC L d_31 = true := by decide +kernel
theorem chk_32 : defC L d_32 = true := by decide +kernel
theorem chk_33 : defC L d_33 = true := by decide +kernel
theorem bnd_0 : BindOk d_0 := fun _ _ _ _ _ _ us hl => match us, hl with | [_], _ => rfl
theorem bnd_1 : BindOk d_1 := fun _ _ _ _ _ _ us hl => match us, hl with | [_, _, _], _ => rfl
theorem bnd_2 : BindOk d_2 := fun _ _ _ _ _ _ us hl => match us, hl with | [_, _], _ => rfl
theorem bnd_3 : BindOk d_3 := fun _ _ _ _ _ _ us hl => match us, hl with | [_], _ => rfl
theorem bnd_4 : BindOk d_4 := fun _ _ _ _ _ _ us hl => match us, hl with | [_, _], _ => rfl
theorem bnd_5 : BindOk d_5 := fun _ _ _ _ _ _ us hl => match us, hl with | [_], _ => rfl
theorem bnd_6 : BindOk d_6 := fun _ _ _ _ _ _ us hl => match us, hl with | [_], _ => rfl
theorem bnd_7 : BindOk d_7 := fun _ _ _ _ _ _ us hl => match us, hl with | [_, _], _ => rfl
theorem bnd_8 : BindOk d_8 := fun _ _ _ _ _ _ us hl => match us, hl with | [_, _], _ => rfl
theorem bnd_9 : BindOk d_9 := fun _ _ _ _ _ _ us hl => match us, hl with | [_, _], _ => rfl
theorem bnd_10 : BindOk d_10 := fun _ _ _ _ _ _ us hl => match us, hl with | [_, _], _ => rfl
theorem bnd_11 : BindOk d_11 := fun _ _ _ _ _ _ us hl => match us, hl with | [_, _, _], _ => rfl
theorem bnd_12 : BindOk d_12 := fun _ _ _ _ _ _ us hl => match us, hl with | [_, _, _], _ => rfl
theorem bnd_13 : BindOk d_13 := fun _ _ _ _ _ _ us hl => match us, hl with | [_, _, _], _ => rfl
theorem bnd_14 : BindOk d_14 := fun _ _ _ _ _ _ us hl => match us, hl with | [_, _, _], _ => rfl
theorem bnd_15 : BindOk d_15 := fun _ _ _ _ _ _ us hl => match us, hl with | [_, _, _, _], _ => rfl
theorem bnd_16 : BindOk d_16 := fun _ _ _ _ _ _ us hl => match us, hl with | [_, _, _], _ => rfl
theorem bnd_17 : BindOk d_17 := fun _ _ _ _ _ _ us hl => match us, hl with | [_, _, _], _ => rfl
theorem bnd_18 : BindOk d_18 := fun _ _ _ _ _ _ us hl => match us, hl with | [_, _], _ => rfl
theorem bnd_19 : BindOk d_19 := fun _ _ _ _ _ _ us hl => match us, hl with | [_, _], _ => rfl
theorem bnd_20 : BindOk d_20 := fun _ _ _ _ _ _ us hl => match us, hl with | [_, _], _ => rfl
theorem bnd_21 : BindOk d_21 := fun _ _ _ _ _ _ us hl => match us, hl with | [_, _], _ => rfl
theorem bnd_22 : BindOk d_22 := fun _ _ _ _ _ _ us hl => match us, hl with | [_, _], _ => rfl
theorem bnd_23 : BindOk d_23 := fun _ _ _ _ _ _ us hl => match us, hl with | [_, _], _ => rfl
theorem bnd_24 : BindOk d_24 := fun _ _ _ _ _ _ us hl => match us, hl with | [_], _ => rfl
theorem bnd_25 : BindOk d_25 := fun _ _ _ _ _ _ us hl => match us, hl with | [_, _], _ => rfl
theorem bnd_26 : BindOk d_26 := fun _ _ _ _ _ _ us hl => match us, hl with | [_, _], _ => rfl
theorem bnd_27 : BindOk d_27 := fun _ _ _ _ _ _ us hl => match us, hl with | [_, _], _ => rfl
theorem bnd_28 : BindOk d_28 := fun _ _ _ _ _ _ us hl => match us, hl with | [_, _, _], _ => rfl
theorem bnd_29 : BindOk d_29 := fun _ _ _ _ _ _ us hl => match us, hl with | [_, _], _ => rfl
theorem bnd_30 : BindOk d_30 := fun _ _ _ _ _ _ us hl => match us, hl with | [_, _, _], _ => rfl
theorem bnd_31 : BindOk d_31 := fun _ _ _ _ _ _ us hl => match us, hl with | [_, _], _ => rfl
theorem bnd_32 : BindOk d_32 := fun _ _ _ _ _ _ us hl => match us, hl with | [_, _, _], _ => rfl
theorem bnd_33 : BindOk d_33 := fun _ _ _ _ _ _ us hl => match us, hl with | [_], _ => rfl
theorem all_mem {p : DefI → Prop} {l : List DefI} (h : ∀ d ∈ l, p d) : ∀ d ∈ l, p d := h
theorem ok_all : ∀ d ∈ L.defs, defC L d = true := by
  unfold L
  simp only [List.forall_mem_cons]
  exact ⟨chk_0, chk_1, chk_2, chk_3, chk_4, chk_5, chk_6, chk_7, chk_8, chk_9, chk_10, chk_11, chk_12, chk_13, chk_14, chk_15, chk_16, chk_17, chk_18, chk_19, chk_20, chk_21, chk_22, chk_23, chk_24, chk_25, chk_26, chk_27, chk_28, chk_29, chk_30, chk_31, chk_32, chk_33, fun _ h => by cases h⟩
theorem bd_all : ∀ d ∈ L.defs, BindOk d := by
  unfold L
  simp only [List.forall_mem_cons]
  exact ⟨bnd_0, bnd_1, bnd_2, bnd_3, bnd_4, bnd_5, bnd_6, bnd_7, bnd_8, bnd_9, bnd_10, bnd_11, bnd_12, bnd_13, bnd_14, bnd_15, bnd_16, bnd_17, bnd_18, bnd_19, bnd_20, bnd_21, bnd_22, bnd_23, bnd_24, bnd_25, bnd_26, bnd_27, bnd_28, bnd_29, bnd_30, bnd_31, bnd_32, bnd_33, fun _ h => by cases h⟩
theorem pm_all : ∀ d ∈ L.defs, Pm d.id = some d.fn := by
  unfold L
  simp only [List.forall_mem_cons]
  exact ⟨rfl, rfl, rfl, rfl, rfl, rfl, rfl, rfl, rfl, rfl, rfl, rfl, rfl, rfl, rfl, rfl, rfl, rfl, rfl, rfl, rfl, rfl, rfl, rfl, rfl, rfl, rfl, rfl, rfl, rfl, rfl, rfl, rfl, rfl, fun _ h => by cases h⟩
def loose_0 : List PySem.Str := ["NetError", "BadWeb", "BadPlace", "BadLaying", "BadStops", "MOST_PLACES", "MOST_HEIGHT", "is_int", "is_in", "is_pair", "nears_of", "reach_of", "is_web_of", "need_web", "need_place", "is_laying_of", "need_laying", "need_first", "are_stops", "need_stops", "held_of", "held", "holders", "idle_stops", "needless_stops", "_law_taken", "_law_pick", "_law_alike", "_law_mixed", "_law_tree"]
def loose_1 : List PySem.Str := ["_law_web", "_law_nears", "_law_far", "_law_lows", "_law_highs", "_law_changed", "_law_next", "_law_laying", "_law_first", "_law_rest"]
def loose : List PySem.Str := loose_0 ++ loose_1
abbrev R : PySem.W.OpenRow := PySem.W.OpenLaw.row PySem.Challenge.rw_liftnets_k08_whole_stops
abbrev hk : PySem.W.Hook := He.hookD 4 (faL L) (fnL L)
def ob (s : PySem.W.SharedT) : He.AlD := He.obsDG 4 (faL L) (fnL L) (HandSHeadRun.getT s)
theorem ob_eq (s : PySem.W.SharedT) : ob s = hk.obs s.abs := He.obsDG_eq (HandSHeadRun.getT_eq s)
theorem run (w : World) : HandSHeadRun.RunEq R (PySem.W.view R.prog [44]) hk ob 4000 loose w := by
  intro os
  kernel_rfl

theorem pure_law (ns : List Int) (h : ns.length ≤ 63) : callF Pm 1000 60 33 [.fz (.scr ns)] = some (.fz (.bl true), []) := law_ok (n := 40) ns (by decide)
end K08
end
end PF
open PySem PySem.W PySem.Calls PyProof.Rows
theorem PySem.Challenge.cw_liftnets_k08_whole_stops_holds : PySem.Challenge.rw_liftnets_k08_whole_stops.Holds := by
  w_on; o_law
  refine HandSHeadRun.head_any (r := OpenLaw.row PySem.Challenge.rw_liftnets_k08_whole_stops) (q := view (OpenLaw.row PySem.Challenge.rw_liftnets_k08_whole_stops).prog [44]) (H := PF.K08.hk) (ob := PF.K08.ob) (M := 4000) (loose := PF.K08.loose) (d := HandSHeadRun.topDef (OpenLaw.row PySem.Challenge.rw_liftnets_k08_whole_stops).prog 44) (kwd := []) PF.K08.ob_eq
    (by kernel_rfl) (fun s => by kernel_rfl) PF.K08.run (by kernel_rfl) (by kernel_rfl) (by kernel_rfl) (by rfl) (by first | assumption | decide +kernel) (by decide +kernel) ⟨rfl, rfl, rfl, rfl, rfl, by decide +kernel⟩ ?hw ?hc
  case hw => w_witness2
  case hc =>
    refine L2.walk_ofE (l := PySem.Challenge.rw_liftnets_k08_whole_stops) (n := 63) (k := 60) (x := "script") (CX := L2.CX0) rfl (by decide) (by kernel_rfl) ⟨rfl, by decide, by decide⟩ ?F (fun _ _ _ _ z => z)
    intro w mg fa h Y G hmg0
    obtain ⟨K, KX, c⟩ := Y
    have hmg : mg ("law" : PySem.Str) = some (.ref fa) := by
      have e : (HandSHeadRun.topDef (OpenLaw.row PySem.Challenge.rw_liftnets_k08_whole_stops).prog 44).name = ("law" : PySem.Str) := by kernel_rfl
      rw [← e]
      exact hmg0
    have fc := PF.facts_of KX G c
    have hl : PF.K08.d_33 ∈ PF.K08.L.defs := by
      unfold PF.K08.L
      simp
    obtain ⟨fa', fd, F, hm⟩ := fc.defs _ hl
    have e : fa' = fa := by
      have hm : mg ("law" : PySem.Str) = some (.ref fa') := hm
      rw [hmg] at hm
      cases hm
      rfl
    subst e
    have b := L2.FunD.bindsA (ps := ["script"]) F PF.K08.bnd_33
    exact ⟨K, fd, PF.spC K (PF.callF PF.K08.Pm 1000 60) 33 [.val], KX, fun s v => b s [v] rfl, fun H a ns hl _ hS => PF.law_sp hS (PF.K08.pure_law ns hl) _, fun base _ _ => PF.link PF.K08.ok_all PF.K08.bd_all PF.K08.pm_all fc 60 PF.K08.d_33 hl fa' fd F⟩
