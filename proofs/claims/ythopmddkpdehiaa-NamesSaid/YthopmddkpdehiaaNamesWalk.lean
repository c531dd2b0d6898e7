import Derived.Test.YthopmddkpdehiaaSLTop
import Derived.Test.YthopmddkpdehiaaRows
namespace Go.Proofs.Ythopmddkpdehiaa.names
open Go Go.SL
theorem num_spec (n : Int) (K : Hl) : Sp Try.prog 4 [i64 n] K [] (Val (i64 n) K) := by
  refine spec_of Try.func4 rfl rfl rfl rfl fun F w => ?_
  refine t_seq ?_
  refine t_region ?_
  refine ol_ev (ev_assign rfl) rfl ?_
  refine ol_nil ?_
  refine d_next ?_
  refine t_seq ?_
  refine t_region ?_
  refine ol_ev (ev_move rfl) rfl ?_
  refine ol_ev (ev_assign rfl) rfl ?_
  refine ol_nil ?_
  refine d_next ?_
  refine t_ret ?_
  refine d_ret1 rfl rfl (Hl.le_refl _) ?_
  exact ⟨rfl, rfl, rfl⟩
theorem names_spec (K : Hl) : Sp Try.prog 3 [] K [] (Val (.bool true) K) := by
  refine spec_of Try.func3 rfl rfl rfl rfl fun F w => ?_
  refine t_seq ?_
  refine t_region ?_
  refine ol_ev (ev_assign rfl) rfl ?_
  refine ol_nil ?_
  refine d_next ?_
  refine t_seq ?_
  refine t_region ?_
  refine ol_ev (ev_assign rfl) rfl ?_
  refine ol_nil ?_
  refine d_next ?_
  refine t_seq ?_
  refine t_region ?_
  refine ol_ev (ev_assign rfl) rfl ?_
  refine ol_nil ?_
  refine d_next ?_
  refine t_seq ?_
  refine t_region ?_
  refine ol_ev (ev_assign rfl) rfl ?_
  refine ol_nil ?_
  refine d_next ?_
  refine t_seq ?_
  refine t_region ?_
  refine ol_ev (ev_assign rfl) rfl ?_
  refine ol_nil ?_
  refine d_next ?_
  refine t_seq ?_
  refine t_region ?_
  refine ol_ev (ev_assign rfl) rfl ?_
  refine ol_nil ?_
  refine d_next ?_
  refine t_seq ?_
  refine t_region ?_
  refine ol_ev (ev_assign rfl) rfl ?_
  refine ol_nil ?_
  refine d_next ?_
  refine t_seq ?_
  refine t_region ?_
  refine ol_ev (ev_assign rfl) rfl ?_
  refine ol_nil ?_
  refine d_next ?_
  refine t_seq ?_
  refine t_region ?_
  refine ol_ev (ev_assign rfl) rfl ?_
  refine ol_nil ?_
  refine d_next ?_
  refine t_seq ?_
  refine t_region ?_
  refine ol_ev (ev_assign rfl) rfl ?_
  refine ol_nil ?_
  refine d_next ?_
  refine t_seq ?_
  refine t_region ?_
  refine ol_ev (ev_assign rfl) rfl ?_
  refine ol_nil ?_
  refine d_next ?_
  refine t_seq ?_
  refine t_region ?_
  refine ol_ev (ev_assign rfl) rfl ?_
  refine ol_nil ?_
  refine d_next ?_
  refine t_seq ?_
  refine t_region ?_
  refine ol_ev (ev_assign rfl) rfl ?_
  refine ol_nil ?_
  refine d_next ?_
  refine t_seq ?_
  refine t_region ?_
  refine ol_ev (ev_assign rfl) rfl ?_
  refine ol_nil ?_
  refine d_next ?_
  refine t_seq ?_
  refine t_region ?_
  refine ol_ev (ev_assign rfl) rfl ?_
  refine ol_nil ?_
  refine d_next ?_
  refine t_seq ?_
  refine t_region ?_
  refine ol_ev (ev_assign rfl) rfl ?_
  refine ol_nil ?_
  refine d_next ?_
  refine t_seq ?_
  refine t_region ?_
  refine ol_ev (ev_assign rfl) rfl ?_
  refine ol_nil ?_
  refine d_next ?_
  refine t_seq ?_
  refine t_region ?_
  refine ol_ev (ev_assign rfl) rfl ?_
  refine ol_nil ?_
  refine d_next ?_
  refine t_seq ?_
  refine t_if0 rfl ?_
  refine t_skip ?_
  refine d_next ?_
  refine t_seq ?_
  refine t_if0 rfl ?_
  refine t_skip ?_
  refine d_next ?_
  refine t_seq ?_
  refine t_if0 rfl ?_
  refine t_skip ?_
  refine d_next ?_
  refine t_seq ?_
  refine t_if0 rfl ?_
  refine t_skip ?_
  refine d_next ?_
  refine t_seq ?_
  refine t_if0 rfl ?_
  refine t_skip ?_
  refine d_next ?_
  refine t_seq ?_
  refine t_if0 rfl ?_
  refine t_skip ?_
  refine d_next ?_
  refine t_seq ?_
  refine t_region ?_
  refine ol_ev (ev_move rfl) rfl ?_
  refine ol_callv rfl rfl (num_spec _ _) rfl ?_
  refine ol_ev (ev_eqlT rfl rfl rfl) rfl ?_
  refine ol_ev (ev_move rfl) rfl ?_
  refine ol_on rfl rfl ?_
  refine ol_ev (ev_move rfl) rfl ?_
  refine ol_on rfl rfl ?_
  refine ol_callv rfl rfl (num_spec _ _) rfl ?_
  refine ol_on rfl rfl ?_
  refine ol_ev (ev_eqlT rfl rfl rfl) rfl ?_
  refine ol_ev (ev_pick1 rfl rfl) rfl ?_
  refine ol_ev (ev_move rfl) rfl ?_
  refine ol_on rfl rfl ?_
  refine ol_ev (ev_move rfl) rfl ?_
  refine ol_on rfl rfl ?_
  refine ol_callv rfl rfl (num_spec _ _) rfl ?_
  refine ol_on rfl rfl ?_
  refine ol_ev (ev_eqlT rfl rfl rfl) rfl ?_
  refine ol_ev (ev_pick1 rfl rfl) rfl ?_
  refine ol_ev (ev_move rfl) rfl ?_
  refine ol_on rfl rfl ?_
  refine ol_ev (ev_move rfl) rfl ?_
  refine ol_on rfl rfl ?_
  refine ol_callv rfl rfl (num_spec _ _) rfl ?_
  refine ol_on rfl rfl ?_
  refine ol_ev (ev_eqlT rfl rfl rfl) rfl ?_
  refine ol_ev (ev_pick1 rfl rfl) rfl ?_
  refine ol_ev (ev_move rfl) rfl ?_
  refine ol_on rfl rfl ?_
  refine ol_ev (ev_move rfl) rfl ?_
  refine ol_on rfl rfl ?_
  refine ol_callv rfl rfl (num_spec _ _) rfl ?_
  refine ol_on rfl rfl ?_
  refine ol_ev (ev_eqlT rfl rfl rfl) rfl ?_
  refine ol_ev (ev_pick1 rfl rfl) rfl ?_
  refine ol_ev (ev_move rfl) rfl ?_
  refine ol_on rfl rfl ?_
  refine ol_ev (ev_move rfl) rfl ?_
  refine ol_on rfl rfl ?_
  refine ol_callv rfl rfl (num_spec _ _) rfl ?_
  refine ol_on rfl rfl ?_
  refine ol_ev (ev_eqlT rfl rfl rfl) rfl ?_
  refine ol_ev (ev_pick1 rfl rfl) rfl ?_
  refine ol_ev (ev_move rfl) rfl ?_
  refine ol_on rfl rfl ?_
  refine ol_ev (ev_move rfl) rfl ?_
  refine ol_on rfl rfl ?_
  refine ol_callv rfl rfl (num_spec _ _) rfl ?_
  refine ol_on rfl rfl ?_
  refine ol_ev (ev_eqlT rfl rfl rfl) rfl ?_
  refine ol_ev (ev_pick1 rfl rfl) rfl ?_
  refine ol_ev (ev_move rfl) rfl ?_
  refine ol_on rfl rfl ?_
  refine ol_ev (ev_move rfl) rfl ?_
  refine ol_on rfl rfl ?_
  refine ol_callv rfl rfl (num_spec _ _) rfl ?_
  refine ol_on rfl rfl ?_
  refine ol_ev (ev_eqlT rfl rfl rfl) rfl ?_
  refine ol_ev (ev_pick1 rfl rfl) rfl ?_
  refine ol_ev (ev_move rfl) rfl ?_
  refine ol_on rfl rfl ?_
  refine ol_ev (ev_move rfl) rfl ?_
  refine ol_on rfl rfl ?_
  refine ol_callv rfl rfl (num_spec _ _) rfl ?_
  refine ol_on rfl rfl ?_
  refine ol_ev (ev_eqlT rfl rfl rfl) rfl ?_
  refine ol_ev (ev_pick1 rfl rfl) rfl ?_
  refine ol_ev (ev_move rfl) rfl ?_
  refine ol_on rfl rfl ?_
  refine ol_ev (ev_move rfl) rfl ?_
  refine ol_on rfl rfl ?_
  refine ol_callv rfl rfl (num_spec _ _) rfl ?_
  refine ol_on rfl rfl ?_
  refine ol_ev (ev_eqlT rfl rfl rfl) rfl ?_
  refine ol_ev (ev_pick1 rfl rfl) rfl ?_
  refine ol_ev (ev_move rfl) rfl ?_
  refine ol_on rfl rfl ?_
  refine ol_ev (ev_move rfl) rfl ?_
  refine ol_on rfl rfl ?_
  refine ol_callv rfl rfl (num_spec _ _) rfl ?_
  refine ol_on rfl rfl ?_
  refine ol_ev (ev_eqlT rfl rfl rfl) rfl ?_
  refine ol_ev (ev_pick1 rfl rfl) rfl ?_
  refine ol_ev (ev_move rfl) rfl ?_
  refine ol_on rfl rfl ?_
  refine ol_ev (ev_move rfl) rfl ?_
  refine ol_on rfl rfl ?_
  refine ol_callv rfl rfl (num_spec _ _) rfl ?_
  refine ol_on rfl rfl ?_
  refine ol_ev (ev_eqlT rfl rfl rfl) rfl ?_
  refine ol_ev (ev_pick1 rfl rfl) rfl ?_
  refine ol_ev (ev_move rfl) rfl ?_
  refine ol_on rfl rfl ?_
  refine ol_ev (ev_move rfl) rfl ?_
  refine ol_on rfl rfl ?_
  refine ol_callv rfl rfl (num_spec _ _) rfl ?_
  refine ol_on rfl rfl ?_
  refine ol_ev (ev_eqlT rfl rfl rfl) rfl ?_
  refine ol_ev (ev_pick1 rfl rfl) rfl ?_
  refine ol_ev (ev_move rfl) rfl ?_
  refine ol_on rfl rfl ?_
  refine ol_ev (ev_move rfl) rfl ?_
  refine ol_on rfl rfl ?_
  refine ol_callv rfl rfl (num_spec _ _) rfl ?_
  refine ol_on rfl rfl ?_
  refine ol_ev (ev_eqlT rfl rfl rfl) rfl ?_
  refine ol_ev (ev_pick1 rfl rfl) rfl ?_
  refine ol_ev (ev_move rfl) rfl ?_
  refine ol_on rfl rfl ?_
  refine ol_ev (ev_move rfl) rfl ?_
  refine ol_on rfl rfl ?_
  refine ol_callv rfl rfl (num_spec _ _) rfl ?_
  refine ol_on rfl rfl ?_
  refine ol_ev (ev_eqlT rfl rfl rfl) rfl ?_
  refine ol_ev (ev_pick1 rfl rfl) rfl ?_
  refine ol_ev (ev_move rfl) rfl ?_
  refine ol_on rfl rfl ?_
  refine ol_ev (ev_move rfl) rfl ?_
  refine ol_on rfl rfl ?_
  refine ol_callv rfl rfl (num_spec _ _) rfl ?_
  refine ol_on rfl rfl ?_
  refine ol_ev (ev_eqlT rfl rfl rfl) rfl ?_
  refine ol_ev (ev_pick1 rfl rfl) rfl ?_
  refine ol_ev (ev_move rfl) rfl ?_
  refine ol_on rfl rfl ?_
  refine ol_ev (ev_move rfl) rfl ?_
  refine ol_on rfl rfl ?_
  refine ol_callv rfl rfl (num_spec _ _) rfl ?_
  refine ol_on rfl rfl ?_
  refine ol_ev (ev_eqlT rfl rfl rfl) rfl ?_
  refine ol_ev (ev_pick1 rfl rfl) rfl ?_
  refine ol_ev (ev_assign rfl) rfl ?_
  refine ol_nil ?_
  refine d_next ?_
  refine t_ret ?_
  refine d_ret1 rfl rfl (Hl.le_refl _) ?_
  exact ⟨rfl, rfl, rfl⟩
end Go.Proofs.Ythopmddkpdehiaa.names
