import PyProof.Rows.All
import Wide.All
import OpenK.AllK
import Wide.FinOn
import PySem.Challenge.RW_pq0295_01
open PySem PySem.W PyProof.Rows
set_option Elab.async true
set_option maxRecDepth 100000
set_option maxHeartbeats 0
namespace Mine
/- names held: no twin of these is laid, so that the compiled file stays small -/
theorem hd.tw12901994302517312135 : True := trivial
theorem hd.tw17429513623812275283 : True := trivial
theorem hd.tw212345690472687942 : True := trivial
theorem hd.tw13280443560766958183 : True := trivial
theorem hd.tw1589133516308662214 : True := trivial
theorem hd.tw3196399650302076718 : True := trivial
theorem hd.tw7526368328331116154 : True := trivial
theorem hd.tw7891253978561527248 : True := trivial
theorem hd.tw5363116716869082496 : True := trivial
theorem hd.tw16091413853298234908 : True := trivial
theorem hd.tw12307468782608717224 : True := trivial
theorem hd.tw11034497122203965937 : True := trivial
theorem hd.tw4182648748547736412 : True := trivial
theorem hd.tw15508949281206285077 : True := trivial
theorem hd.tw13483081372092288885 : True := trivial
theorem hd.tw5247051413645994129 : True := trivial
theorem hd.tw14859038896228082724 : True := trivial
theorem hd.tw9908193460736022307 : True := trivial
theorem hd.tw17076082267592564974 : True := trivial
theorem hd.tw7494724483528729301 : True := trivial
theorem hd.tw2274498078352570744 : True := trivial
theorem hd.tw18176940659606848779 : True := trivial
theorem hd.tw15616948245753086127 : True := trivial
theorem hd.tw6726342588429418155 : True := trivial
theorem hd.tw14400467628812073631 : True := trivial
theorem hd.tw18358800413957953924 : True := trivial
theorem hd.tw7028611270464810887 : True := trivial
theorem hd.tw6755925336976613232 : True := trivial
theorem hd.tw6136932545381038964 : True := trivial
theorem hd.tw9557236495431379559 : True := trivial
theorem hd.tw13038990169509382042 : True := trivial
theorem hd.tw1197925565968671727 : True := trivial
theorem hd.tw6965799899956892507 : True := trivial
theorem hd.tw8047900516022102942 : True := trivial
theorem hd.tw16919406825032445293 : True := trivial
theorem hd.tw14984183105004643987 : True := trivial
theorem hd.tw8134915037123179040 : True := trivial
theorem hd.tw8356816923877370021 : True := trivial
theorem hd.tw1241404454085649124 : True := trivial
theorem hd.tw9155422001095189878 : True := trivial
theorem hd.tw1882180444382439491 : True := trivial
theorem hd.tw12273058598527411343 : True := trivial
theorem hd.tw12521463284412890351 : True := trivial
theorem hd.tw7525542149764818722 : True := trivial
theorem hd.tw11054480109507316185 : True := trivial
theorem hd.tw4367231431732253908 : True := trivial
theorem hd.tw8960069828448710407 : True := trivial
theorem hd.tw18268791191939849864 : True := trivial
theorem hd.tw1712922718373300912 : True := trivial
theorem hd.tw9398405308114057262 : True := trivial
theorem hd.tw7854228177987924090 : True := trivial
theorem hd.tw10543509907540572799 : True := trivial
theorem hd.tw17394231825005217808 : True := trivial
theorem hd.tw3694398316872202419 : True := trivial
theorem hd.tw11249132867342737325 : True := trivial
theorem hd.tw16722109127936396110 : True := trivial
theorem hd.tw845060206244984605 : True := trivial
theorem hd.tw2101469004524951375 : True := trivial
theorem hd.tw15042006015671813226 : True := trivial
theorem hd.tw5513025101015932971 : True := trivial
theorem hd.tw7578210074245671484 : True := trivial
theorem hd.tw2930668341846507884 : True := trivial
theorem hd.tw7354087734392854552 : True := trivial
theorem hd.tw1043307727769730188 : True := trivial
theorem hd.tw13066319289922817542 : True := trivial
theorem hd.tw15411387601460861337 : True := trivial
theorem hd.tw8071622481548722988 : True := trivial
theorem hd.tw16772102934027710169 : True := trivial
theorem hd.tw10727248033764811480 : True := trivial
theorem hd.tw4159134105002834734 : True := trivial
theorem hd.tw4111692666942324129 : True := trivial
theorem hd.tw12614811148066621264 : True := trivial
theorem hd.tw3219085151875037572 : True := trivial
theorem hd.tw15615537253650120727 : True := trivial
theorem hd.tw1088296927520436173 : True := trivial
theorem hd.tw11389486352061984695 : True := trivial
theorem hd.tw17975533764899295144 : True := trivial
theorem hd.tw1299046323782801668 : True := trivial
theorem hd.tw6438293893037913957 : True := trivial
theorem hd.tw11754176132448286083 : True := trivial
theorem hd.tw7598622570094877466 : True := trivial
theorem hd.tw7746578258024575070 : True := trivial
theorem hd.tw12602439190401603521 : True := trivial
theorem hd.tw2167537188350426706 : True := trivial
theorem hd.tw8081886968326746073 : True := trivial
theorem hd.tw7296583596125217682 : True := trivial
theorem hd.tw162610821266807592 : True := trivial
theorem hd.tw10614716105012338702 : True := trivial
theorem hd.tw4068527845204499245 : True := trivial
theorem hd.tw7369741819223213686 : True := trivial
theorem hd.tw2708950531961675432 : True := trivial
theorem hd.tw18103420901670897651 : True := trivial
theorem hd.tw15179676742415161110 : True := trivial
theorem hd.tw185848376630758926 : True := trivial
theorem hd.tw3443669649825651883 : True := trivial
theorem hd.tw8664936974563722654 : True := trivial
theorem hd.tw17420951861521290806 : True := trivial
theorem hd.tw16456969618363192440 : True := trivial
theorem hd.tw1409312971732116557 : True := trivial
theorem hd.tw10491609206876299696 : True := trivial
theorem hd.tw2442259710966052079 : True := trivial
theorem hd.tw11801993109049149486 : True := trivial
theorem hd.tw9459050058782445324 : True := trivial
theorem hd.tw1848646778235469078 : True := trivial
theorem hd.tw16155205043701107222 : True := trivial
theorem hd.tw14768889098011018680 : True := trivial
theorem hd.tw15967140613478806237 : True := trivial
theorem hd.tw12744807935193187038 : True := trivial
theorem hd.tw5987830557187376847 : True := trivial
theorem hd.tw1535757262459896012 : True := trivial
theorem hd.tw14176624398918483544 : True := trivial
theorem hd.tw17903497710992402801 : True := trivial
theorem hd.tw6882427118574961969 : True := trivial
theorem hd.tw10752148897807903841 : True := trivial
theorem hd.tw3452082135128663414 : True := trivial
theorem hd.tw9330943631129107780 : True := trivial
theorem hd.tw10788059911547816233 : True := trivial
theorem hd.tw2739504486584576224 : True := trivial
theorem hd.tw16502264421070913907 : True := trivial
theorem hd.tw1331086792558400476 : True := trivial
theorem hd.tw3704167492566942397 : True := trivial
theorem hd.tw14553816603554493358 : True := trivial
theorem hd.tw14892549342360969540 : True := trivial
theorem hd.tw15320221400302559415 : True := trivial
theorem hd.tw13181700845877081190 : True := trivial
theorem hd.tw9406673726873002282 : True := trivial
theorem hd.tw1865391376527767206 : True := trivial
theorem hd.tw3197672655068363509 : True := trivial
theorem hd.tw15367242080415987702 : True := trivial
theorem hd.tw16345102440705955213 : True := trivial
theorem hd.tw5167245352685981253 : True := trivial
theorem hd.tw262745018181394680 : True := trivial
theorem hd.tw5174551420813472067 : True := trivial
theorem hd.tw10170382586518783626 : True := trivial
theorem hd.tw15422856539912107476 : True := trivial
theorem hd.tw3759623122121258479 : True := trivial
theorem hd.tw12685813987229840507 : True := trivial
theorem hd.tw6407587892757256292 : True := trivial
theorem hd.tw12715402060735579648 : True := trivial
theorem hd.tw12575139184659369484 : True := trivial
theorem hd.tw4971549296188076032 : True := trivial
theorem hd.tw13566260322249332789 : True := trivial
theorem hd.tw1666387254794493845 : True := trivial
theorem hd.tw5433107678231618845 : True := trivial
theorem hd.tw10792051664901133789 : True := trivial
theorem hd.tw9271970288684553227 : True := trivial
theorem hd.tw6411954120941647267 : True := trivial
theorem hd.tw4702841417184801058 : True := trivial
theorem hd.tw4115565904173853331 : True := trivial
theorem hd.tw920214292312260371 : True := trivial
theorem hd.tw4993660671451451078 : True := trivial
theorem hd.tw5148922909946612681 : True := trivial
theorem hd.tw3008623586974134963 : True := trivial
theorem hd.tw11631947586910100387 : True := trivial
theorem hd.tw1413172679324656950 : True := trivial
theorem hd.tw5190246844813560578 : True := trivial
theorem hd.tw22551697357593593 : True := trivial
theorem hd.tw8184699220007379433 : True := trivial
theorem hd.tw6924109203229866365 : True := trivial
theorem hd.tw5416991563250132298 : True := trivial
theorem hd.tw18293732401869909652 : True := trivial
theorem hd.tw2502866573005156581 : True := trivial
theorem hd.tw8226494294326810461 : True := trivial
theorem hd.tw13225837485096350037 : True := trivial
theorem hd.tw9427301549700849589 : True := trivial
theorem hd.tw16781597205703756006 : True := trivial
theorem hd.tw10216474801634566288 : True := trivial
theorem hd.tw6818987989461384207 : True := trivial
theorem hd.tw7152984921513172624 : True := trivial
theorem hd.tw8538877666451538035 : True := trivial
theorem hd.tw17258206423299326598 : True := trivial
theorem hd.tw12271959270614036898 : True := trivial
theorem hd.tw15987713032478767096 : True := trivial
theorem hd.tw11631869004601391166 : True := trivial
theorem hd.tw16868993833207775613 : True := trivial
theorem hd.tw2040990291671593033 : True := trivial
theorem hd.tw190519026028168232 : True := trivial
theorem hd.tw16357263729072622229 : True := trivial
theorem hd.tw8493152586797012548 : True := trivial
theorem hd.tw17948085552500728524 : True := trivial
theorem hd.tw17491317419825422843 : True := trivial
theorem hd.tw11917015161858427179 : True := trivial
theorem hd.tw15578025631644234493 : True := trivial
theorem hd.tw13642289790063256904 : True := trivial
theorem hd.tw13122850982685727845 : True := trivial
theorem hd.tw14103535550066685397 : True := trivial
theorem hd.tw5318216170032084099 : True := trivial
theorem hd.tw15683763237869141255 : True := trivial
theorem hd.tw6264232113106981867 : True := trivial
theorem hd.tw189712035060473897 : True := trivial
theorem hd.tw3530705653197291679 : True := trivial
theorem hd.tw6931407450589930559 : True := trivial
theorem hd.tw5715356086224469760 : True := trivial
theorem hd.tw17577478241444706838 : True := trivial
theorem hd.tw12268275109542032366 : True := trivial
theorem hd.tw14598272352848978880 : True := trivial
theorem hd.tw16171809288044610508 : True := trivial
theorem hd.tw728884934406724761 : True := trivial
theorem hd.tw7927469264209771579 : True := trivial
theorem hd.tw15103106377680225435 : True := trivial
theorem hd.tw8934143017859847078 : True := trivial
theorem hd.tw1699103778626983548 : True := trivial
theorem hd.tw10458740792067480800 : True := trivial
theorem hd.tw8683856772340465682 : True := trivial
theorem hd.tw8652628183442184457 : True := trivial
theorem hd.tw5366084841770067474 : True := trivial
theorem hd.tw15279998641719260112 : True := trivial
theorem hd.tw2304311442786299043 : True := trivial
theorem hd.tw8428860471423672150 : True := trivial
theorem hd.tw1847840615245081061 : True := trivial
theorem hd.tw6804821044290156842 : True := trivial
theorem hd.tw4990156530697904881 : True := trivial
theorem hd.tw5036846961687405229 : True := trivial
theorem hd.tw14667805832236412624 : True := trivial
theorem hd.tw14462709497994964445 : True := trivial
theorem hd.tw4856431653887292112 : True := trivial
theorem hd.tw17252143746492648416 : True := trivial
theorem hd.tw16211521421427940678 : True := trivial
theorem hd.tw15083628210047938546 : True := trivial
theorem hd.tw15527848837575444561 : True := trivial
theorem hd.tw18175329361295489469 : True := trivial
theorem hd.tw2799067240506288376 : True := trivial
theorem hd.tw10781468475247234061 : True := trivial
theorem hd.tw5608270528595127837 : True := trivial
theorem hd.tw15910714762333108613 : True := trivial
theorem hd.tw3919010098100093602 : True := trivial
theorem hd.tw1600037746751723098 : True := trivial
theorem hd.tw16649331688326792143 : True := trivial
theorem hd.tw16259696140248634718 : True := trivial
theorem hd.tw11912922877643110818 : True := trivial
theorem hd.tw11778180911958503814 : True := trivial
theorem hd.tw13994979335412520660 : True := trivial
theorem hd.tw8112040973832200146 : True := trivial
theorem hd.tw7512474625130614241 : True := trivial
theorem hd.tw10784824025267889561 : True := trivial
theorem hd.tw10012880186880212623 : True := trivial
theorem hd.tw4086058157674990017 : True := trivial
theorem hd.tw13770079208771991547 : True := trivial
theorem hd.tw4523669819894539328 : True := trivial
theorem hd.tw2114630138375439770 : True := trivial
theorem hd.tw519851828213033955 : True := trivial
theorem hd.tw8671608845466749128 : True := trivial
theorem hd.tw758273949599710562 : True := trivial
theorem hd.tw6898005170327248138 : True := trivial
theorem hd.tw8959176491354863721 : True := trivial
theorem hd.tw1097998534492414930 : True := trivial
theorem hd.tw1118553966540926140 : True := trivial
theorem hd.tw7080932558258925280 : True := trivial
theorem hd.tw5629675986466331604 : True := trivial
theorem hd.tw3922637787740509324 : True := trivial
theorem hd.tw9763420282994701918 : True := trivial
theorem hd.tw10738003575532504788 : True := trivial
theorem hd.tw16694946328126371552 : True := trivial
theorem hd.tw3493717111155160527 : True := trivial
theorem hd.tw2845679848157327705 : True := trivial
theorem hd.tw7031273417212677730 : True := trivial
theorem hd.tw18343703819029505601 : True := trivial
theorem hd.tw10905682514733158466 : True := trivial
theorem hd.tw12394076208661396346 : True := trivial
theorem hd.tw14091984216438838776 : True := trivial
theorem hd.tw8191903926673212241 : True := trivial
theorem hd.tw16794629799341752650 : True := trivial
theorem hd.tw6320253292602491972 : True := trivial
theorem hd.tw9421340871869096474 : True := trivial
theorem hd.tw13365295217650922812 : True := trivial
theorem hd.tw8589211134812392127 : True := trivial
theorem hd.tw8770205317985620760 : True := trivial
theorem hd.tw14294001040229213422 : True := trivial
theorem hd.tw12023040214023829324 : True := trivial
theorem hd.tw16853341256802265648 : True := trivial
theorem hd.tw8413245114658323648 : True := trivial
theorem hd.tw14029546391885035639 : True := trivial
theorem hd.tw6305734824756694309 : True := trivial
theorem hd.tw13919464512627920130 : True := trivial
theorem hd.tw16473244170626142550 : True := trivial
theorem hd.tw6082411064634330575 : True := trivial
theorem hd.tw5245234834050458271 : True := trivial
theorem hd.tw7628163234616463944 : True := trivial
theorem hd.tw13903934854276604550 : True := trivial
theorem hd.tw17628472586750557451 : True := trivial
theorem hd.tw11136197038861592535 : True := trivial
theorem hd.tw4851647983119433812 : True := trivial
theorem hd.tw18166333605607142505 : True := trivial
theorem hd.tw12373568994912964417 : True := trivial
theorem hd.tw1954109241102656831 : True := trivial
theorem hd.tw17588044629489971554 : True := trivial
theorem hd.tw6123773746684550334 : True := trivial
theorem hd.tw13866372431405929976 : True := trivial
theorem hd.tw7289634563603522867 : True := trivial
theorem hd.tw7914949630228597729 : True := trivial
theorem hd.tw13220430256171166289 : True := trivial
theorem hd.tw17330945745186091897 : True := trivial
theorem hd.tw7023726343779634624 : True := trivial
theorem hd.tw5130813555471234732 : True := trivial
theorem hd.tw13132618709999183898 : True := trivial
theorem hd.tw17919194246423945575 : True := trivial
theorem hd.tw2323474266016966308 : True := trivial
theorem hd.tw14457593812595234344 : True := trivial
theorem hd.tw17895171251205151618 : True := trivial
theorem hd.tw16640546478005224243 : True := trivial
theorem hd.tw4225703048834024713 : True := trivial
theorem hd.tw307737655149646647 : True := trivial
theorem hd.tw2658526732547218105 : True := trivial
theorem hd.tw663384727985864361 : True := trivial
theorem hd.tw5282504435634884242 : True := trivial
theorem hd.tw17989097746536338734 : True := trivial
theorem hd.tw17471934795394947791 : True := trivial
theorem hd.tw6944254716217146218 : True := trivial
theorem hd.tw7366208706002141716 : True := trivial
theorem hd.tw4654797750381630734 : True := trivial
theorem hd.tw14137390275340422267 : True := trivial
theorem hd.tw7698358502638924378 : True := trivial
theorem hd.tw3571134770919094901 : True := trivial
theorem hd.tw11117797201346649052 : True := trivial
theorem hd.tw9077708301081682751 : True := trivial
theorem hd.tw14685462170515437407 : True := trivial
theorem hd.tw5716766192118558609 : True := trivial
theorem hd.tw13285133528070534704 : True := trivial
theorem hd.tw16178712458983371728 : True := trivial
theorem hd.tw14560493823538711346 : True := trivial
theorem hd.tw13217827037086042188 : True := trivial
theorem hd.tw12936449754285732098 : True := trivial
theorem hd.tw12131494931117144662 : True := trivial
theorem hd.tw17311223219408574766 : True := trivial
theorem hd.tw15043168886218598503 : True := trivial
theorem hd.tw12365273913586936263 : True := trivial
theorem hd.tw1359830224848277088 : True := trivial
theorem hd.tw2608437505485318709 : True := trivial
theorem hd.tw5054737718236178183 : True := trivial
theorem hd.tw17377529257436501650 : True := trivial
theorem hd.tw17454471701868102899 : True := trivial
theorem hd.tw732345407407602841 : True := trivial
theorem hd.tw2715645830499865399 : True := trivial
theorem hd.tw17491280204586788870 : True := trivial
theorem hd.tw15463257786427224491 : True := trivial
theorem hd.tw16858285156579221889 : True := trivial
theorem hd.tw6547078798241139092 : True := trivial
theorem hd.tw12070654863422294720 : True := trivial
theorem hd.tw5388632664720090651 : True := trivial
theorem hd.tw5511420028821071320 : True := trivial
theorem hd.tw8801323125487838256 : True := trivial
theorem hd.tw13532847315355080253 : True := trivial
theorem hd.tw128412058910260475 : True := trivial
theorem hd.tw13855946660403688772 : True := trivial
theorem hd.tw9617658007855726926 : True := trivial
theorem hd.tw4478964076566166474 : True := trivial
theorem hd.tw4292457097857839397 : True := trivial
theorem hd.tw7379015992945566340 : True := trivial
theorem hd.tw5363564295841288755 : True := trivial
theorem hd.tw10523690957637341471 : True := trivial
theorem hd.tw17542962492245011380 : True := trivial
theorem hd.tw9702936160620672325 : True := trivial
theorem hd.tw8273930003744585626 : True := trivial
theorem hd.tw13431754692932380062 : True := trivial
theorem hd.tw11713075325732132258 : True := trivial
theorem hd.tw13289513938125300765 : True := trivial
theorem hd.tw6957150274394394060 : True := trivial
theorem hd.tw8311610187620527757 : True := trivial
theorem hd.tw17673860158736603733 : True := trivial
theorem hd.tw4272726840584523970 : True := trivial
theorem hd.tw5549315172176941698 : True := trivial
theorem hd.tw6442067068224118133 : True := trivial
theorem hd.tw12414669353804360901 : True := trivial
theorem hd.tw17330132731328240911 : True := trivial
theorem hd.tw17711083657039698284 : True := trivial
theorem hd.tw5505005885091257285 : True := trivial
theorem hd.tw16007149819294483003 : True := trivial
theorem hd.tw3941438180925939637 : True := trivial
theorem hd.tw6196171512934965099 : True := trivial
theorem hd.tw9449672872311958731 : True := trivial
theorem hd.tw2448417245163862455 : True := trivial
theorem hd.tw3646829019195819677 : True := trivial
theorem hd.tw12459740579856956213 : True := trivial
theorem hd.tw6060742912462422084 : True := trivial
theorem hd.tw7292484366425897655 : True := trivial
theorem hd.tw14705683404202351889 : True := trivial
theorem hd.tw13363553139645760527 : True := trivial
theorem hd.tw11465210709893060100 : True := trivial
theorem hd.tw17312999752573914782 : True := trivial
theorem hd.tw3480954088277226078 : True := trivial
theorem hd.tw14060154772996877548 : True := trivial
theorem hd.tw9430268157657104642 : True := trivial
theorem hd.tw10678649693572172417 : True := trivial
theorem hd.tw6761669909254768831 : True := trivial
theorem hd.tw16477043939570097188 : True := trivial
theorem hd.tw10583446816852156582 : True := trivial
theorem hd.tw10264135568141901301 : True := trivial
theorem hd.tw4402725079659364252 : True := trivial
theorem hd.tw8977307856219701671 : True := trivial
theorem hd.tw11162318198679636149 : True := trivial
theorem hd.tw2783992281797965187 : True := trivial
theorem hd.tw6819123309680001836 : True := trivial
theorem hd.tw18394873898091527117 : True := trivial
theorem hd.tw11402939732021071671 : True := trivial
theorem hd.tw6308581086252854402 : True := trivial
theorem hd.tw6906073325868019850 : True := trivial
theorem hd.tw12870888531099404533 : True := trivial
theorem hd.tw11893437276241958245 : True := trivial
theorem hd.tw701787995468756871 : True := trivial
theorem hd.tw7880807054014371918 : True := trivial
theorem hd.tw10424393626065333798 : True := trivial
theorem hd.tw442638132926106271 : True := trivial
theorem hd.tw17672654358674132775 : True := trivial
theorem hd.tw3429492842335990350 : True := trivial
theorem hd.tw413680288568028460 : True := trivial
theorem hd.tw13293453174229064190 : True := trivial
theorem hd.tw3109861748172591687 : True := trivial
theorem hd.tw9783614193127449063 : True := trivial
theorem hd.tw17087091549796120035 : True := trivial
theorem hd.tw15642763164714097627 : True := trivial
theorem hd.tw3789350110615891812 : True := trivial
theorem hd.tw6276725880618359904 : True := trivial
theorem hd.tw8381844023166312768 : True := trivial
theorem hd.tw8228950375871286339 : True := trivial
theorem hd.tw5635641802508607975 : True := trivial
theorem hd.tw12949589719889679912 : True := trivial
theorem hd.tw17979112520590173179 : True := trivial
theorem hd.tw15152743547302097792 : True := trivial
theorem hd.tw3795277891434052102 : True := trivial
theorem hd.tw5781342201191254626 : True := trivial
theorem hd.tw14478148883734587675 : True := trivial
theorem hd.tw16920754564084929960 : True := trivial
theorem hd.tw7610815399733428385 : True := trivial
theorem hd.tw15615420239508185596 : True := trivial
theorem hd.tw14438451200097066615 : True := trivial
theorem hd.tw825126770350376351 : True := trivial
theorem hd.tw978945382295711627 : True := trivial
theorem hd.tw8343274005884668182 : True := trivial
theorem hd.tw7854111351294004744 : True := trivial
theorem hd.tw5902613922787404954 : True := trivial
theorem hd.tw12647368939536790636 : True := trivial
theorem hd.tw5238241317806426387 : True := trivial
theorem hd.tw11652457597714270106 : True := trivial
theorem hd.tw991583007596301734 : True := trivial
theorem hd.tw11663481321943121269 : True := trivial
theorem hd.tw6990203504111849199 : True := trivial
theorem hd.tw6767318904944593275 : True := trivial
theorem hd.tw7752767780024739350 : True := trivial
theorem hd.tw14004260572845733393 : True := trivial
theorem hd.tw1194904439430580092 : True := trivial
theorem hd.tw395138700845864316 : True := trivial
theorem hd.tw17054507655720011243 : True := trivial
theorem hd.tw15948780112781908787 : True := trivial
theorem hd.tw9657781627882305391 : True := trivial
theorem hd.tw17070941380808615275 : True := trivial
theorem hd.tw4363365295628954845 : True := trivial
theorem hd.tw7628703163842673926 : True := trivial
theorem hd.tw1781861727890032366 : True := trivial
theorem hd.tw3434918251397683217 : True := trivial
theorem hd.tw5292301768408028288 : True := trivial
theorem hd.tw432457690288141553 : True := trivial
theorem hd.tw6186238094035137676 : True := trivial
theorem hd.tw14955159897011116063 : True := trivial
theorem hd.tw7540741092611519060 : True := trivial
theorem hd.tw8479784124755550697 : True := trivial
theorem hd.tw12092154237167983948 : True := trivial
theorem hd.tw8457440626546761165 : True := trivial
theorem hd.tw1439246655266547700 : True := trivial
theorem hd.tw15199589371867527261 : True := trivial
theorem hd.tw10203026625882799534 : True := trivial
theorem hd.tw17925215291927510665 : True := trivial
theorem hd.tw2000490053193787569 : True := trivial
theorem hd.tw11256106856564762260 : True := trivial
theorem hd.tw17183224562656869120 : True := trivial
theorem hd.tw12399718760709695909 : True := trivial
theorem hd.tw14745743045033390146 : True := trivial
theorem hd.tw18219297243305740317 : True := trivial
theorem hd.tw6545403380812914513 : True := trivial
theorem hd.tw11213053971927718326 : True := trivial
theorem hd.tw4383666589626881386 : True := trivial
theorem hd.tw9013056391748086436 : True := trivial
theorem hd.tw1563692795949630186 : True := trivial
theorem hd.tw8684328023851190084 : True := trivial
theorem hd.tw6469175993241445255 : True := trivial
theorem hd.tw15529170255622000948 : True := trivial
theorem hd.tw12591134339009171964 : True := trivial
theorem hd.tw6164396464334811476 : True := trivial
theorem hd.tw7519716089354478335 : True := trivial
theorem hd.tw6184460063843016694 : True := trivial
theorem hd.tw3350930974749635488 : True := trivial
theorem hd.tw11551083187376567056 : True := trivial
theorem hd.tw13531707123254989501 : True := trivial
theorem hd.tw15595854959937240912 : True := trivial
theorem hd.tw6578402527460240241 : True := trivial
theorem hd.tw12994019391074448376 : True := trivial
theorem hd.tw16412773359747925120 : True := trivial
theorem hd.tw3484992998616243462 : True := trivial
theorem hd.tw5567388512258382067 : True := trivial
theorem hd.tw15852365999677673905 : True := trivial
theorem hd.tw6868836192036940282 : True := trivial
theorem hd.tw9277588360372424766 : True := trivial
theorem hd.tw6449127861642672459 : True := trivial
theorem hd.tw2284436838669742495 : True := trivial
theorem hd.tw8716120427605611371 : True := trivial
theorem hd.tw5732804406350252772 : True := trivial
theorem hd.tw2782273408667855022 : True := trivial
theorem hd.tw12173100003817136821 : True := trivial
theorem hd.tw6998783941825042932 : True := trivial
theorem hd.tw9132557439983319658 : True := trivial
theorem hd.tw10603584201595350602 : True := trivial
theorem hd.tw2457190517430149469 : True := trivial
theorem hd.tw12832683148521936107 : True := trivial
theorem hd.tw10144816814625151507 : True := trivial
theorem hd.tw12769127236821124696 : True := trivial
theorem hd.tw12588582704262371052 : True := trivial
theorem hd.tw10507497572311344420 : True := trivial
theorem hd.tw16053994301053490033 : True := trivial
theorem hd.tw17001982702790524580 : True := trivial
theorem hd.tw9990345226319884068 : True := trivial
theorem hd.tw13931416462566266981 : True := trivial
theorem hd.tw7523672394736509286 : True := trivial
theorem hd.tw1011335219593555734 : True := trivial
theorem hd.tw10015985780204595560 : True := trivial
theorem hd.tw11587034568685482758 : True := trivial
theorem hd.tw4642405928176397000 : True := trivial
theorem hd.tw10465514089279642386 : True := trivial
theorem hd.tw12393119488966705847 : True := trivial
theorem hd.tw3451239065008710300 : True := trivial
theorem hd.tw12337632362937886050 : True := trivial
theorem hd.tw7317836474542784337 : True := trivial
theorem hd.tw13518370688599389936 : True := trivial
theorem hd.tw2781682124601125471 : True := trivial
theorem hd.tw10844753989422098599 : True := trivial
theorem hd.tw17696971302532935780 : True := trivial
theorem hd.tw5978321128707920903 : True := trivial
theorem hd.tw7382370116671421104 : True := trivial
theorem hd.tw11079593142295127227 : True := trivial
theorem hd.tw464777395874653626 : True := trivial
theorem hd.tw18185175575083235020 : True := trivial
theorem hd.tw6838551448383532254 : True := trivial
theorem hd.tw2595994805191909183 : True := trivial
theorem hd.tw13267510147771200024 : True := trivial
theorem hd.tw10949625832625181284 : True := trivial
theorem hd.tw17714235663813219645 : True := trivial
theorem hd.tw11672842613191775419 : True := trivial
theorem hd.tw17650839729002327288 : True := trivial
theorem hd.tw6038821095411175016 : True := trivial
theorem hd.tw16240987189780228909 : True := trivial
theorem hd.tw13638418597567726942 : True := trivial
theorem hd.tw6184208073178115725 : True := trivial
theorem hd.tw18293851220164018083 : True := trivial
theorem hd.tw16432713993328977331 : True := trivial
theorem hd.tw6830512106363814048 : True := trivial
theorem hd.tw13277076834127875243 : True := trivial
theorem hd.tw4172343393113369950 : True := trivial
theorem hd.tw9499510787657705874 : True := trivial
theorem hd.tw876933089483189297 : True := trivial
theorem hd.tw13321331477185743149 : True := trivial
theorem hd.tw12677348761684209422 : True := trivial
theorem hd.tw11011131195910976488 : True := trivial
theorem hd.tw11319097763535126812 : True := trivial
theorem hd.tw9228397985900620932 : True := trivial
theorem hd.tw10806950440038215891 : True := trivial
theorem hd.tw4065347644161347641 : True := trivial
theorem hd.tw8015326511298524721 : True := trivial
theorem hd.tw3309697970292668127 : True := trivial
theorem hd.tw11953376511379268794 : True := trivial
theorem hd.tw4015398097383911347 : True := trivial
theorem hd.tw17950676927832955104 : True := trivial
theorem hd.tw16302227732802510677 : True := trivial
theorem hd.tw9555612238305686254 : True := trivial
theorem hd.tw14906377314874228009 : True := trivial
theorem hd.tw12058812876911547015 : True := trivial
theorem hd.tw1580110805410547442 : True := trivial
theorem hd.tw9533747618267967006 : True := trivial
theorem hd.tw5009564483982726761 : True := trivial
theorem hd.tw9170477692918782315 : True := trivial
theorem hd.tw7355570028127101125 : True := trivial
theorem hd.tw2068664650715991707 : True := trivial
theorem hd.tw10743916045514856203 : True := trivial
theorem hd.tw13409441903868389331 : True := trivial
theorem hd.tw12350410155528471161 : True := trivial
theorem hd.tw1425423193147277237 : True := trivial
theorem hd.tw9577689765879766989 : True := trivial
theorem hd.tw13029831319620015485 : True := trivial
theorem hd.tw7120233287515763914 : True := trivial
theorem hd.tw17574625026820762457 : True := trivial
theorem hd.tw4478177076189095293 : True := trivial
theorem hd.tw11709330566771433103 : True := trivial
theorem hd.tw14960593345356199642 : True := trivial
theorem hd.tw7191455744419660376 : True := trivial
theorem hd.tw6759412095888398321 : True := trivial
theorem hd.tw14567429538950270057 : True := trivial
theorem hd.tw9566141503761928105 : True := trivial
theorem hd.tw17562767543260142214 : True := trivial
theorem hd.tw2391449824757734642 : True := trivial
theorem hd.tw6423634429210846174 : True := trivial
theorem hd.tw1005483496087919985 : True := trivial
theorem hd.tw15368132723985388332 : True := trivial
theorem hd.tw13609717118414637909 : True := trivial
theorem hd.tw6820862383352777685 : True := trivial
theorem hd.tw1129884963351977449 : True := trivial
theorem hd.tw4377701919642642989 : True := trivial
theorem hd.tw15673258824015622330 : True := trivial
theorem hd.tw16904818350239718627 : True := trivial
theorem hd.tw11251137523995926341 : True := trivial
theorem hd.tw9345676750909349944 : True := trivial
theorem hd.tw16157073509204512506 : True := trivial
theorem hd.tw15675198926951892251 : True := trivial
theorem hd.tw13790719812936386609 : True := trivial
theorem hd.tw11364443708160879001 : True := trivial
theorem hd.tw12239354291974867115 : True := trivial
theorem hd.tw1836080755315867724 : True := trivial
theorem hd.tw11905163887095721015 : True := trivial
theorem hd.tw8965841893048198262 : True := trivial
theorem hd.tw13047593935725612058 : True := trivial
theorem hd.tw16945582573551092051 : True := trivial
theorem hd.tw9184186324627900627 : True := trivial
theorem hd.tw8727321023445011275 : True := trivial
theorem hd.tw11399449904127653305 : True := trivial
theorem hd.tw5278057926702712004 : True := trivial
theorem hd.tw17325209927041812611 : True := trivial
theorem hd.tw17843490464661113860 : True := trivial
theorem hd.tw12070051907170230399 : True := trivial
theorem hd.tw12861998865439983172 : True := trivial
theorem hd.tw12940713784782232206 : True := trivial
theorem hd.tw11319892378374348655 : True := trivial
theorem hd.tw16936136154773448436 : True := trivial
theorem hd.tw15207398651663016943 : True := trivial
theorem hd.tw8609351116199087170 : True := trivial
theorem hd.tw7540655947842036084 : True := trivial
theorem hd.tw10111801491309104144 : True := trivial
theorem hd.tw18093812233618175256 : True := trivial
theorem hd.tw4819202231147424091 : True := trivial
theorem hd.tw11128854368766332075 : True := trivial
theorem hd.tw2216850387143573719 : True := trivial
theorem hd.tw11513968764499736323 : True := trivial
theorem hd.tw16011055738799735888 : True := trivial
theorem hd.tw7068711184596962023 : True := trivial
theorem hd.tw8317466277049474617 : True := trivial
theorem hd.tw18322514126500204803 : True := trivial
theorem hd.tw1506431575118746342 : True := trivial
theorem hd.tw12629568148972539762 : True := trivial
theorem hd.tw1147470481896660410 : True := trivial
theorem hd.tw4136554803537287180 : True := trivial
theorem hd.tw8458067239894703972 : True := trivial
theorem hd.tw2329189449893159454 : True := trivial
theorem hd.tw17379287091283010612 : True := trivial
theorem hd.tw11660266114150955751 : True := trivial
theorem hd.tw526207354791536317 : True := trivial
theorem hd.tw9960721518486171458 : True := trivial
theorem hd.tw16828841361933241965 : True := trivial
theorem hd.tw9983995961361265002 : True := trivial
theorem hd.tw1588505670450824345 : True := trivial
theorem hd.tw6140570298594658328 : True := trivial
theorem hd.tw1800889605409440832 : True := trivial
theorem hd.tw2327210489368252092 : True := trivial
theorem hd.tw1382963296337349011 : True := trivial
theorem hd.tw9731375825926819010 : True := trivial
theorem hd.tw9325612240067072397 : True := trivial
theorem hd.tw7085514621470718492 : True := trivial
theorem hd.tw5480042469492414594 : True := trivial
theorem hd.tw12487502673411948298 : True := trivial
theorem hd.tw7372000682148998216 : True := trivial
theorem hd.tw15166520500009309586 : True := trivial
theorem hd.tw9673543361469618366 : True := trivial
theorem hd.tw16634568088961857937 : True := trivial
theorem hd.tw5373601922739893978 : True := trivial
theorem hd.tw8269573656231971908 : True := trivial
theorem hd.tw17739348878880393726 : True := trivial
theorem hd.tw4282304852377368616 : True := trivial
theorem hd.tw3350844169311001129 : True := trivial
theorem hd.tw12050417470231563642 : True := trivial
theorem hd.tw12590977762386282803 : True := trivial
theorem hd.tw243823211424636713 : True := trivial
theorem hd.tw9153386212771759811 : True := trivial
theorem hd.tw4297731678662094536 : True := trivial
theorem hd.tw3673020696563887462 : True := trivial
theorem hd.tw8053944837975664402 : True := trivial
theorem hd.tw18163647496604598072 : True := trivial
theorem hd.tw14852329139284432860 : True := trivial
theorem hd.tw4449123307109862055 : True := trivial
theorem hd.tw7534799579077118603 : True := trivial
theorem hd.tw368366308016060594 : True := trivial
theorem hd.tw6482722132109649516 : True := trivial
theorem hd.tw17213754286329925777 : True := trivial
theorem hd.tw10292235466723388172 : True := trivial
theorem hd.tw10601615944963115059 : True := trivial
theorem hd.tw11032806212648032379 : True := trivial
theorem hd.tw7676003278276379012 : True := trivial
theorem hd.tw8268277133935991078 : True := trivial
theorem hd.tw13368278939475635651 : True := trivial
theorem hd.tw3404104791013757517 : True := trivial
theorem hd.tw13372043803930879067 : True := trivial
theorem hd.tw12112201142124510154 : True := trivial
theorem hd.tw8117029840178788049 : True := trivial
theorem hd.tw12631932088317031055 : True := trivial
theorem hd.tw8789358453043137523 : True := trivial
theorem hd.tw5343241284826551009 : True := trivial
theorem hd.tw15833661619300960221 : True := trivial
theorem hd.tw16056359734778111409 : True := trivial
theorem hd.tw2788664435532181463 : True := trivial
theorem hd.tw15416985209724490359 : True := trivial
theorem hd.tw14492701947808656938 : True := trivial
theorem hd.tw7153062008950511462 : True := trivial
theorem hd.tw3953601041324332601 : True := trivial
theorem hd.tw13893168526513508166 : True := trivial
theorem hd.tw13217225542625558698 : True := trivial
theorem hd.tw10404513684093684653 : True := trivial
theorem hd.tw11210553801493137410 : True := trivial
theorem hd.tw14896477498954680388 : True := trivial
theorem hd.tw10030107230732127627 : True := trivial
theorem hd.tw15220180469806662145 : True := trivial
theorem hd.tw12127338746724423809 : True := trivial
theorem hd.tw461538923250603899 : True := trivial
theorem hd.tw17606422857730326317 : True := trivial
theorem hd.tw922143313871775805 : True := trivial
theorem hd.tw10919297434634762262 : True := trivial
theorem hd.tw6394381022753523788 : True := trivial
theorem hd.tw3182187488490625086 : True := trivial
theorem hd.tw9496365245306024149 : True := trivial
theorem hd.tw7763873220885509757 : True := trivial
theorem hd.tw8879563391730754479 : True := trivial
theorem hd.tw16684818696116721337 : True := trivial
theorem hd.tw2480057099694739299 : True := trivial
theorem hd.tw18103342009636024947 : True := trivial
theorem hd.tw17599816209265215132 : True := trivial
theorem hd.tw16029623286316568529 : True := trivial
theorem hd.tw8516288146210602744 : True := trivial
theorem hd.tw14620637471214046174 : True := trivial
theorem hd.tw6982297934935202809 : True := trivial
theorem hd.tw9244321171653502345 : True := trivial
theorem hd.tw11151547217846952531 : True := trivial
theorem hd.tw7492773218913965947 : True := trivial
theorem hd.tw2195365466389143174 : True := trivial
theorem hd.tw1760603350576429475 : True := trivial
theorem hd.tw9386895884608548742 : True := trivial
theorem hd.tw881544763273948857 : True := trivial
theorem hd.tw3085183777334472315 : True := trivial
theorem hd.tw15687388767607454252 : True := trivial
theorem hd.tw3259873300814134281 : True := trivial
theorem hd.tw16006246977917349235 : True := trivial
theorem hd.tw4494801613693538912 : True := trivial
theorem hd.tw9298403506768410418 : True := trivial
theorem hd.tw7082855905992002993 : True := trivial
theorem hd.tw11375277706881905925 : True := trivial
theorem hd.tw4643362625855044894 : True := trivial
theorem hd.tw697623264460660564 : True := trivial
theorem hd.tw6785817131721698500 : True := trivial
theorem hd.tw6291416237084387574 : True := trivial
theorem hd.tw2051048951616859547 : True := trivial
theorem hd.tw1792636949448641307 : True := trivial
theorem hd.tw2315301623876862497 : True := trivial
theorem hd.tw8025032847418708242 : True := trivial
theorem hd.tw402640490398009360 : True := trivial
theorem hd.tw4014540891139286612 : True := trivial
theorem hd.tw17986969038992634876 : True := trivial
theorem hd.tw280609765759037681 : True := trivial
theorem hd.tw9073681462420916055 : True := trivial
theorem hd.tw7270182246851987180 : True := trivial
theorem hd.tw7721951785955056133 : True := trivial
theorem hd.tw8587404781116728655 : True := trivial
theorem hd.tw5592360268479517082 : True := trivial
theorem hd.tw5138769234217329475 : True := trivial
theorem hd.tw14772383043592177042 : True := trivial
theorem hd.tw26425463804135960 : True := trivial
theorem hd.tw7541792107247259296 : True := trivial
theorem hd.tw6293948785866598258 : True := trivial
theorem hd.tw15344866539931968096 : True := trivial
theorem hd.tw6555240042291301478 : True := trivial
theorem hd.tw18264374347568628810 : True := trivial
theorem hd.tw4315991029959535628 : True := trivial
theorem hd.tw2867327485932766208 : True := trivial
theorem hd.tw13783031573616600631 : True := trivial
theorem hd.tw14980023328507725902 : True := trivial
theorem hd.tw1610171440888473627 : True := trivial
theorem hd.tw16194383521188589630 : True := trivial
theorem hd.tw9748044761591592747 : True := trivial
theorem hd.tw18241275227582772068 : True := trivial
theorem hd.tw6046454685291232161 : True := trivial
theorem hd.tw6627881031435992008 : True := trivial
theorem hd.tw2134215046882385847 : True := trivial
theorem hd.tw10847404155465417027 : True := trivial
theorem hd.tw1033889070964956483 : True := trivial
theorem hd.tw5976792059365374437 : True := trivial
theorem hd.tw13466754112058979494 : True := trivial
theorem hd.tw8990313861142287110 : True := trivial
theorem hd.tw8068729725432388964 : True := trivial
theorem hd.tw17901334829092211166 : True := trivial
theorem hd.tw16299908979028503884 : True := trivial
theorem hd.tw2887051446865420828 : True := trivial
theorem hd.tw14439243815434019604 : True := trivial
theorem hd.tw5562173858411828344 : True := trivial
theorem hd.tw16713699803418581334 : True := trivial
theorem hd.tw7754304195085646258 : True := trivial
theorem hd.tw16332348944364537037 : True := trivial
theorem hd.tw7510230149288206974 : True := trivial
theorem hd.tw2252305205657439004 : True := trivial
theorem hd.tw9719896912496429819 : True := trivial
theorem hd.tw13315533130655954831 : True := trivial
theorem hd.tw10024716035694756283 : True := trivial
theorem hd.tw13342606739435360313 : True := trivial
theorem hd.tw4706079058837389440 : True := trivial
theorem hd.tw10246146449241189800 : True := trivial
theorem hd.tw3828038474966422129 : True := trivial
theorem hd.tw15610959940260225430 : True := trivial
theorem hd.tw8545014587354053640 : True := trivial
theorem hd.tw17387473266821786944 : True := trivial
theorem hd.tw7654286748164834634 : True := trivial
theorem hd.tw257007361410690125 : True := trivial
theorem hd.tw2855845756224970109 : True := trivial
theorem hd.tw4817003022231809500 : True := trivial
theorem hd.tw17681399029576232318 : True := trivial
theorem hd.tw9741134391959003819 : True := trivial
theorem hd.tw2295870552580634182 : True := trivial
theorem hd.tw14353793391729792155 : True := trivial
theorem hd.tw5657824000916062451 : True := trivial
theorem hd.tw10860895700388868024 : True := trivial
theorem hd.tw10525666975642140466 : True := trivial
theorem hd.tw10879034167726328663 : True := trivial
theorem hd.tw15048261121198461528 : True := trivial
theorem hd.tw10117440562283002822 : True := trivial
theorem hd.tw13330244855972007585 : True := trivial
theorem hd.tw3442329435671937591 : True := trivial
theorem hd.tw9641152695372364146 : True := trivial
theorem hd.tw226724450230711188 : True := trivial
theorem hd.tw8004679753235328684 : True := trivial
theorem hd.tw1452849714261714991 : True := trivial
theorem hd.tw6615107907471364465 : True := trivial
theorem hd.tw18291419657060728153 : True := trivial
theorem hd.tw4021928978595405253 : True := trivial
theorem hd.tw16154546982801380032 : True := trivial
theorem hd.tw17902569758825723728 : True := trivial
theorem hd.tw15643275761693703936 : True := trivial
theorem hd.tw541196102884509978 : True := trivial
theorem hd.tw17130151131035750659 : True := trivial
theorem hd.tw6528754448969337418 : True := trivial
theorem hd.tw10258999931320997221 : True := trivial
theorem hd.tw4870687313549177768 : True := trivial
theorem hd.tw17893044597097874663 : True := trivial
theorem hd.tw9358357245981991732 : True := trivial
theorem hd.tw9131607905817354932 : True := trivial
theorem hd.tw6598312636042714100 : True := trivial
theorem hd.tw15946388913382835224 : True := trivial
theorem hd.tw16970440968685349367 : True := trivial
theorem hd.tw17447410573909459338 : True := trivial
theorem hd.tw12659318050587179527 : True := trivial
theorem hd.tw4360684699965382250 : True := trivial
theorem hd.tw4138081844389336918 : True := trivial
theorem hd.tw5505332120971382143 : True := trivial
theorem hd.tw13929354066492186541 : True := trivial
theorem hd.tw2951005344575393816 : True := trivial
theorem hd.tw15813434630575017362 : True := trivial
theorem hd.tw1997569388931296116 : True := trivial
theorem hd.tw1149152698703075698 : True := trivial
theorem hd.tw17466917591949315430 : True := trivial
/-- a mark, to hold a name -/
inductive Mark : Type | here
def Held {α : Type} (_ : α) : Prop := True
/-- the head: it lays the top's objects (hd.heap_1_39, hd.view_1_40) and shows the top piece by piece (hd._proof_1_k); law_all below takes the pieces up -/
theorem hd : ∃ T : Prop, T → PySem.Challenge.rw_pq0295_01.Holds := by
  apply Exists.intro
  intro walk
  have b : True := trivial
  have c : True := trivial
  have m : Mark := ?m
  rcases b with (b : Held (?m : Mark))
  rcases c with (c : Held (?m : Mark))
  clear m
  w_on
  o_law
  k_head
  (case hw => w_witness2)
  exact walk
  exact Mark.here
set_option Elab.async false
open PySem.Calls PySem.Spec
/-- who calls, in one word -/
structure Cal where
  dp : Nat
  un : Nat
  gd : Option (List Code)
  cn : Str
  cs : Scope
  a : Addr
  ccd : Value
  cl : List (Str × Addr)
  outer : List Env
abbrev calA (c : Cal) (L : Addr) : Around := ktrTop c.dp c.un c.gd c.cn c.cs L c.a c.ccd c.cl c.outer
/-- a call of the text's function at f, within a def's frame: what it hands back and what the ledger is behind it -/
def Ct (prog : Program) (w : World) (mean : ExcName → Option Value) (mg mb : Str → Option Value) (f : Addr) (dq : Nat) (news : List (Addr × Obj)) (vs : List Value) (Post : Value → List (Addr × Obj) → Prop) : Prop :=
  ∀ (c : Cal) (A₀ : Around) (base h₀ : Heap) (L : Addr) (m : Str → Option Value) (hp : Heap) (g : Array GenState) (d : Drawn) (tk : Nat) (os : OsState) (Q E : Value → Shared → Prop),
    Below A₀ base c.outer h₀ → Fr h₀ L hp m → (Mine.hd.heap_1_39 w.params).In h₀ → News h₀ L hp news → Top Mine.hd.view_1_40 (looseW Mine.hd.view_1_40 [Str.ofString "ParseState"]) mean mg mb h₀ → c.cs.kind = .function →
    c.dp + dq < recursionLimit → c.un + 8 * dq + 8 < cLine →
    (∀ (v : Value) (news' : List (Addr × Obj)) (h' : Heap) (tk' : Nat), Fr h₀ L h' m → News h₀ L h' news' → Post v news' → Q v ⟨h', g, d, tk', os⟩) →
    wpAny (model prog w) (calA c L) (call (.ref f) vs) Q E ⟨hp, g, d, tk, os⟩

section
variable {prog : Program} {w : World} {mean : ExcName → Option Value} {mg mb : Str → Option Value}
theorem Ct.use {f : Addr} {dq : Nat} {news : List (Addr × Obj)} {vs : List Value} {Post : Value → List (Addr × Obj) → Prop}
    {dp un : Nat} {gd : Option (List Code)} {cn : Str} {cs : Scope} {a : Addr} {ccd : Value} {cl : List (Str × Addr)} {outer : List Env} {A₀ : Around} {base h₀ : Heap} {L : Addr} {m : Str → Option Value} {s : Shared} {Q E : Value → Shared → Prop}
    (C : Ct prog w mean mg mb f dq news vs Post) (B : Below A₀ base outer h₀) (F : Fr h₀ L s.heap m) (X : (Mine.hd.heap_1_39 w.params).In h₀) (N : News h₀ L s.heap news) (T : Top Mine.hd.view_1_40 (looseW Mine.hd.view_1_40 [Str.ofString "ParseState"]) mean mg mb h₀) (hk : cs.kind = .function)
    (hd : dp + dq < recursionLimit) (hu : un + 8 * dq + 8 < cLine)
    (k : ∀ (v : Value) (news' : List (Addr × Obj)) (h' : Heap) (tk' : Nat), Fr h₀ L h' m → News h₀ L h' news' → Post v news' → Q v { s with heap := h', toks := tk' }) :
    wpAny (model prog w) (ktrTop dp un gd cn cs L a ccd cl outer) (call (.ref f) vs) Q E s := C ⟨dp, un, gd, cn, cs, a, ccd, cl, outer⟩ A₀ base h₀ L m s.heap s.gens s.drawn s.toks s.os Q E B F X N T hk hd hu k
end

/-- the row of text, in the ledger -/
def ViewIn (news : List (Addr × Obj)) (v : Addr) (ns : List Int) : Prop :=
  ∃ (vd l : Addr) (vs : List Value) (c n : Nat) (h1 h2 : Int) (t1 t2 t3 : Tok), (v, instObj 658 vd) ∈ news ∧ (vd, dictOf [⟨h1, .str (Str.ofString "codes") t1, .ref l⟩, ⟨h2, .str (Str.ofString "place") t2, .int 1 t3⟩] n) ∈ news ∧ (l, listOf vs.toArray c) ∈ news ∧ IntsAre vs ns ∧ ns.length < 2 ^ 62

/-- a syntax without flags, in the ledger -/
def SynIn (news : List (Addr × Obj)) (y : Addr) (kd : String) : Prop :=
  ∃ (yd : Addr) (n : Nat) (h1 h2 h3 : Int) (t1 t2 t3 t4 t5 : Tok) (mv : Value), (y, instObj 144 yd) ∈ news ∧ (yd, dictOf [⟨h1, .str (Str.ofString "kind") t1, .str (Str.ofString kd) t4⟩, ⟨h2, .str (Str.ofString "match") t2, mv⟩, ⟨h3, .str (Str.ofString "flags") t3, .str (Str.ofString "") t5⟩] n) ∈ news

/-- the signs that the texts are made of -/
def Alpha (c : Int) : Prop := c = 10 ∨ c = 32 ∨ c = 40 ∨ c = 41 ∨ (97 ≤ c ∧ c ≤ 102) ∨ c = 120
/-- the kind of a sign in the table -/
def kindOf (c : Int) : String := if c = 10 then ">" else if c = 32 then " " else if c = 40 then "(" else if c = 41 then ")" else "w"

/-- the table, in the ledger -/
def TabIn (prog : Program) (w : World) (news : List (Addr × Obj)) (t : Addr) : Prop :=
  ∃ (td r t2 td2 r2 : Addr) (n n2 : Nat) (h1 h2 h3 h4 : Int) (k1 k2 k3 k4 : Tok) (o o2 : Obj) (kvs kvs2 : List (Int × Value)),
    (t, instObj 225 td) ∈ news ∧ (td, dictOf [⟨h1, .str (Str.ofString "parent") k1, .ref t2⟩, ⟨h2, .str (Str.ofString "rows") k2, .ref r⟩] n) ∈ news ∧
    (t2, instObj 225 td2) ∈ news ∧ (td2, dictOf [⟨h3, .str (Str.ofString "parent") k3, .none⟩, ⟨h4, .str (Str.ofString "rows") k4, .ref r2⟩] n2) ∈ news ∧
    (r, o) ∈ news ∧ (r2, o2) ∈ news ∧ o.IsDictOf (intKind prog w) kvs ∧ o2.IsDictOf (intKind prog w) kvs2 ∧ (r == sysModules) = false ∧ (r2 == sysModules) = false ∧
    (∃ y, valueAt kvs 10 = some (.ref y) ∧ SynIn news y ">") ∧ (∀ c, Alpha c → c ≠ 10 → valueAt kvs c = none ∧ ∃ y, valueAt kvs2 c = some (.ref y) ∧ SynIn news y (kindOf c))

theorem ViewIn.elim {C : Prop} {news : List (Addr × Obj)} {v : Addr} {ns : List Int} (V : ViewIn news v ns) (h : ∀ (vd l : Addr) (vs : List Value) (c n : Nat) (h1 h2 : Int) (t1 t2 t3 : Tok), (v, instObj 658 vd) ∈ news → (vd, dictOf [⟨h1, .str (Str.ofString "codes") t1, .ref l⟩, ⟨h2, .str (Str.ofString "place") t2, .int 1 t3⟩] n) ∈ news → (l, listOf vs.toArray c) ∈ news → IntsAre vs ns → ns.length < 2 ^ 62 → C) : C := by
  obtain ⟨vd, l, vs, c, n, h1, h2, t1, t2, t3, p1, p2, p3, p4, p5⟩ := V
  exact h vd l vs c n h1 h2 t1 t2 t3 p1 p2 p3 p4 p5
theorem SynIn.elim {C : Prop} {news : List (Addr × Obj)} {y : Addr} {kd : String} (V : SynIn news y kd) (h : ∀ (yd : Addr) (n : Nat) (h1 h2 h3 : Int) (t1 t2 t3 t4 t5 : Tok) (mv : Value), (y, instObj 144 yd) ∈ news → (yd, dictOf [⟨h1, .str (Str.ofString "kind") t1, .str (Str.ofString kd) t4⟩, ⟨h2, .str (Str.ofString "match") t2, mv⟩, ⟨h3, .str (Str.ofString "flags") t3, .str (Str.ofString "") t5⟩] n) ∈ news → C) : C := by
  obtain ⟨yd, n, h1, h2, h3, t1, t2, t3, t4, t5, mv, p1, p2⟩ := V
  exact h yd n h1 h2 h3 t1 t2 t3 t4 t5 mv p1 p2
theorem TabIn.elim {C : Prop} {prog : Program} {w : World} {news : List (Addr × Obj)} {t : Addr} (V : TabIn prog w news t) (h : ∀ (td r t2 td2 r2 : Addr) (n n2 : Nat) (h1 h2 h3 h4 : Int) (k1 k2 k3 k4 : Tok) (o o2 : Obj) (kvs kvs2 : List (Int × Value)), (t, instObj 225 td) ∈ news → (td, dictOf [⟨h1, .str (Str.ofString "parent") k1, .ref t2⟩, ⟨h2, .str (Str.ofString "rows") k2, .ref r⟩] n) ∈ news → (t2, instObj 225 td2) ∈ news → (td2, dictOf [⟨h3, .str (Str.ofString "parent") k3, .none⟩, ⟨h4, .str (Str.ofString "rows") k4, .ref r2⟩] n2) ∈ news → (r, o) ∈ news → (r2, o2) ∈ news → o.IsDictOf (intKind prog w) kvs → o2.IsDictOf (intKind prog w) kvs2 → (r == sysModules) = false → (r2 == sysModules) = false → (∃ y, valueAt kvs 10 = some (.ref y) ∧ SynIn news y ">") → (∀ c, Alpha c → c ≠ 10 → valueAt kvs c = none ∧ ∃ y, valueAt kvs2 c = some (.ref y) ∧ SynIn news y (kindOf c)) → C) : C := by
  obtain ⟨td, r, t2, td2, r2, n, n2, h1, h2, h3, h4, k1, k2, k3, k4, o, o2, kvs, kvs2, p1, p2, p3, p4, p5, p6, p7, p8, p9, p10, p11, p12⟩ := V
  exact h td r t2 td2 r2 n n2 h1 h2 h3 h4 k1 k2 k3 k4 o o2 kvs kvs2 p1 p2 p3 p4 p5 p6 p7 p8 p9 p10 p11 p12
/-- the goal as one letter, while a hypothesis is taken apart -/
theorem goal_gen {G : Prop} (h : ∀ G' : Prop, (G → G') → G') : G := h G id
def codeAt (ns : List Int) (p : Int) : Int := if 1 ≤ p ∧ p < 1 + ns.length then ns.getD (p - 1).toNat 0 else -1
/-- room for frames and units, without a search -/
theorem room_lt {X dp e N : Nat} (h : dp + e < N) (k : Nat) (hX : X = dp + k) (hle : Nat.ble k e = true) : X < N := by
  have := Nat.le_of_ble_eq_true hle
  omega
theorem unit_lt {U c un e c0 N : Nat} (h : un + e + c0 < N) (k : Nat) (hU : U = un + k) (hle : Nat.ble (k + c) (e + c0) = true) : U + c < N := by
  have := Nat.le_of_ble_eq_true hle
  omega
theorem unit_lt2 {U V c un e c0 N : Nat} (h : un + e + c0 < N) (k : Nat) (hU : U = un + k) (hle : Nat.ble (k + V + c) (e + c0) = true) : U + V + c < N := by
  have := Nat.le_of_ble_eq_true hle
  omega
theorem lt_ble {a b : Nat} (h : Nat.ble (a + 1) b = true) : a < b := Nat.le_of_ble_eq_true h
section
local macro_rules | `(tactic| walk_at $s:str) => `(tactic| k_extra $s)
local macro_rules | `(tactic| cell_step) => `(tactic| (refine wpAny_call ?_; k_dflt cell_enter; k_steps))
local macro_rules | `(tactic| ktn_open) => `(tactic| first | exact List.mem_cons_self | ktr_member | (refine' List.mem_cons_of_mem _ ?_; ktn_open))
local macro_rules | `(tactic| k_mem) => `(tactic| (ktn_open; done))
local macro_rules | `(tactic| k_room) => `(tactic| ktr_room)
local macro_rules | `(tactic| is_list) => `(tactic| exact News.isList (by k_asm) (by k_mem))
local macro_rules | `(tactic| k_all) => `(tactic| first | assumption | exact List.forall_mem_nil _ | (refine' List.forall_mem_cons.mpr ⟨?a, ?b⟩; (case a => k_ne); (case b => k_all)))
local macro_rules | `(tactic| units_room) => `(tactic| ktr_units)
local macro_rules | `(tactic| ktr_room) => `(tactic| k_extra "mroom")
local macro_rules | `(tactic| ktr_units) => `(tactic| k_extra "munits")
local macro_rules | `(tactic| k_ne) => `(tactic| k_extra "mne")
variable {prog : Program} {w : World} {mean : ExcName → Option Value} {mg mb : Str → Option Value}
example : True := by
  k_with_none
  w_top off
  exact trivial
example : True := by
  k_with "mroom" => with_unfolding_all first | ((rename (_ + _ < recursionLimit) => hZq7); first | exact room_lt hZq7 0 rfl rfl | exact room_lt hZq7 1 rfl rfl | exact room_lt hZq7 2 rfl rfl | exact room_lt hZq7 3 rfl rfl | exact room_lt hZq7 4 rfl rfl | exact room_lt hZq7 5 rfl rfl | exact room_lt hZq7 6 rfl rfl | exact room_lt hZq7 7 rfl rfl | exact room_lt hZq7 8 rfl rfl | exact room_lt hZq7 9 rfl rfl | exact room_lt hZq7 10 rfl rfl | exact room_lt hZq7 11 rfl rfl | exact room_lt hZq7 12 rfl rfl | exact room_lt hZq7 13 rfl rfl | exact room_lt hZq7 14 rfl rfl | exact room_lt hZq7 15 rfl rfl) | exact lt_ble rfl | fail "mroom"
  exact trivial
example : True := by
  k_with "munits" => with_unfolding_all first | ((rename (_ + _ + _ < cLine) => hZq7); first | exact unit_lt2 hZq7 0 rfl rfl | exact unit_lt2 hZq7 3 rfl rfl | exact unit_lt2 hZq7 6 rfl rfl | exact unit_lt2 hZq7 9 rfl rfl | exact unit_lt2 hZq7 12 rfl rfl | exact unit_lt hZq7 0 rfl rfl | exact unit_lt hZq7 3 rfl rfl | exact unit_lt hZq7 6 rfl rfl | exact unit_lt hZq7 9 rfl rfl | exact unit_lt hZq7 12 rfl rfl) | exact lt_ble rfl | fail "munits"
  exact trivial
example : True := by
  k_with "mne" => (refine neN ?_; (try dsimp only); first | assumption | exact Ne.symm (by assumption) | exact Nat.ne_of_lt (by assumption) | exact Nat.ne_of_gt (by assumption) | fail "mne")
  exact trivial
theorem news_tl {h₀ h : Heap} {L : Addr} {a : Addr × Obj} {l : List (Addr × Obj)} (N : News h₀ L h (a :: l)) : News h₀ L h l := fun p hp => N p (.tail _ hp)
theorem ViewIn.mono {l l' : List (Addr × Obj)} {v : Addr} {ns : List Int} (V : ViewIn l v ns) (h : ∀ p ∈ l, p ∈ l') : ViewIn l' v ns := by
  refine ViewIn.elim V ?_; intro vd l vs c n h1 h2 t1 t2 t3 m1 m2 m3 hI hl; clear V
  exact ⟨vd, l, vs, c, n, h1, h2, t1, t2, t3, h _ m1, h _ m2, h _ m3, hI, hl⟩
theorem SynIn.mono {l l' : List (Addr × Obj)} {y : Addr} {kd : String} (Y : SynIn l y kd) (h : ∀ p ∈ l, p ∈ l') : SynIn l' y kd := by
  refine SynIn.elim Y ?_; intro yd n h1 h2 h3 t1 t2 t3 t4 t5 mv m1 m2; clear Y
  exact ⟨yd, n, h1, h2, h3, t1, t2, t3, t4, t5, mv, h _ m1, h _ m2⟩
theorem TabIn.mono {prog : Program} {w : World} {l l' : List (Addr × Obj)} {t : Addr} (V : TabIn prog w l t) (h : ∀ p ∈ l, p ∈ l') : TabIn prog w l' t := by
  refine TabIn.elim V ?_; intro td r t2 td2 r2 n n2 h1 h2 h3 h4 k1 k2 k3 k4 o o2 kvs kvs2 m1 m2 m3 m4 m5 m6 d1 d2 e1 e2 hy0 hc; obtain ⟨y, hy, hy2⟩ := hy0; clear V
  exact ⟨td, r, t2, td2, r2, n, n2, h1, h2, h3, h4, k1, k2, k3, k4, o, o2, kvs, kvs2, h _ m1, h _ m2, h _ m3, h _ m4, h _ m5, h _ m6, d1, d2, e1, e2, ⟨y, hy, hy2.mono h⟩,
    fun c ha hn => let ⟨q, y, hy, hy2⟩ := hc c ha hn; ⟨q, y, hy, hy2.mono h⟩⟩
def Kd (kd : String) : Prop := kd = ">" ∨ kd = " " ∨ kd = "(" ∨ kd = ")" ∨ kd = "w"
theorem kd_of (c : Int) : Kd (kindOf c) := by unfold kindOf Kd; (repeat' split) <;> simp
theorem code_at {news : List (Addr × Obj)} {v : Addr} {ns : List Int} {p : Int} {t : Tok} (V : ViewIn news v ns) (hp : -(2^62) < p ∧ p < 2 ^ 62) :
    Ct prog w mean mg mb 655 1 news [.ref v, .int p t] (fun r news' => news' = news ∧ ∃ t', r = .int (codeAt ns p) t') := by
  refine ViewIn.elim V ?_; intro vd l vs c n h1 h2 t1 t2 t3 m1 m2 m3 hI hl; clear V
  intro c00 A₀ base h₀ L m sHp sGn sDr sTk sOs Q E B F X N T hk hd hu hret
  cell_step
  all_goals (refine hret _ _ _ _ ?e1 ?e2 ⟨rfl, ktn_int ?_⟩; (case e1 => k_asm); (case e2 => k_asm); unfold codeAt; first | rw [if_neg (by omega)] | rw [if_pos (by omega)])

theorem view_end {news : List (Addr × Obj)} {v : Addr} {ns : List Int} (V : ViewIn news v ns) :
    Ct prog w mean mg mb 648 1 news [.ref v] (fun r news' => news' = news ∧ ∃ t', r = .int (1 + ns.length) t') := by
  refine ViewIn.elim V ?_; intro vd l vs c n h1 h2 t1 t2 t3 m1 m2 m3 hI hl; clear V
  intro c00 A₀ base h₀ L m sHp sGn sDr sTk sOs Q E B F X N T hk hd hu hret
  cell_step
  all_goals (refine hret _ _ _ _ ?e1 ?e2 ⟨rfl, _, rfl⟩; (case e1 => k_asm); (case e2 => k_asm))
theorem view_begin {news : List (Addr × Obj)} {v : Addr} {ns : List Int} (V : ViewIn news v ns) :
    Ct prog w mean mg mb 641 1 news [.ref v] (fun r news' => news' = news ∧ ∃ t', r = .int 1 t') := by
  refine ViewIn.elim V ?_; intro vd l vs c n h1 h2 t1 t2 t3 m1 m2 m3 hI hl; clear V
  intro c00 A₀ base h₀ L m sHp sGn sDr sTk sOs Q E B F X N T hk hd hu hret
  cell_step
  all_goals (refine hret _ _ _ _ ?e1 ?e2 ⟨rfl, _, rfl⟩; (case e1 => k_asm); (case e2 => k_asm))
theorem syn_has {news : List (Addr × Obj)} {y : Addr} {kd : String} {fl : Str} {t : Tok} (Y : SynIn news y kd) (hf : (Builtin.Str.occurrences (Str.ofString "") fl 0 (Str.ofString "").length 1).isEmpty = true) :
    Ct prog w mean mg mb 120 1 news [.ref y, .str fl t] (fun r news' => news' = news ∧ r = .bool false) := by
  refine SynIn.elim Y ?_; intro yd n h1 h2 h3 t1 t2 t3 t4 t5 mv m1 m2; clear Y
  intro c00 A₀ base h₀ L m sHp sGn sDr sTk sOs Q E B F X N T hk hd hu hret
  cell_step
  all_goals (refine hret _ _ _ _ ?e1 ?e2 ⟨rfl, by rw [hf]; rfl⟩; (case e1 => k_asm); (case e2 => k_asm))
theorem syn_isEscape {news : List (Addr × Obj)} {y : Addr} {kd : String} (Y : SynIn news y kd) (hk : Kd kd) :
    Ct prog w mean mg mb 127 1 news [.ref y] (fun r news' => news' = news ∧ r = .bool false) := by
  have k1 : (Str.ofString kd == Str.ofString "\\") = false := by rcases hk with rfl | rfl | rfl | rfl | rfl <;> decide
  have k2 : (Str.ofString kd == Str.ofString "/") = false := by rcases hk with rfl | rfl | rfl | rfl | rfl <;> decide
  refine SynIn.elim Y ?_; intro yd n h1 h2 h3 t1 t2 t3 t4 t5 mv m1 m2; clear Y
  intro c00 A₀ base h₀ L m sHp sGn sDr sTk sOs Q E B F X N T hk hd hu hret
  cell_step
  all_goals (first | (rw [k2]; refine hret _ _ _ _ ?e1 ?e2 ⟨rfl, rfl⟩; (case e1 => k_asm); (case e2 => k_asm)) | (simp_all; done))
theorem syn_isWord {news : List (Addr × Obj)} {y : Addr} {kd : String} (Y : SynIn news y kd) (hk : Kd kd) :
    Ct prog w mean mg mb 134 1 news [.ref y] (fun r news' => news' = news ∧ r = .bool (kd == "w")) := by
  have k1 : (Str.ofString kd == Str.ofString "w") = (kd == "w") := by rcases hk with rfl | rfl | rfl | rfl | rfl <;> decide
  have k2 : (Str.ofString kd == Str.ofString "_") = false := by rcases hk with rfl | rfl | rfl | rfl | rfl <;> decide
  refine SynIn.elim Y ?_; intro yd n h1 h2 h3 t1 t2 t3 t4 t5 mv m1 m2; clear Y
  intro c00 A₀ base h₀ L m sHp sGn sDr sTk sOs Q E B F X N T hk hd hu hret
  cell_step
  · rw [k1]; refine hret _ _ _ _ ?e1 ?e2 ⟨rfl, rfl⟩; (case e1 => k_asm); (case e2 => k_asm)
  · refine hret _ _ _ _ ?e1 ?e2 ⟨rfl, ?_⟩; (case e1 => k_asm); (case e2 => k_asm)
    (rename (Str.ofString kd == Str.ofString "w") = false => q)
    rw [k2, ← k1, q]
theorem syn_isWordB {news : List (Addr × Obj)} {y : Addr} {kd : String} {b : Bool} (Y : SynIn news y kd) (hk : Kd kd) (hb : (kd == "w") = b) :
    Ct prog w mean mg mb 134 1 news [.ref y] (fun r news' => news' = news ∧ r = .bool b) := hb ▸ syn_isWord Y hk
example : True := by
  k_with_none
  w_top off
  exact trivial
example : True := by
  k_with "mroom" => with_unfolding_all first | ((rename (_ + _ < recursionLimit) => hZq7); first | exact room_lt hZq7 0 rfl rfl | exact room_lt hZq7 1 rfl rfl | exact room_lt hZq7 2 rfl rfl | exact room_lt hZq7 3 rfl rfl | exact room_lt hZq7 4 rfl rfl | exact room_lt hZq7 5 rfl rfl | exact room_lt hZq7 6 rfl rfl | exact room_lt hZq7 7 rfl rfl | exact room_lt hZq7 8 rfl rfl | exact room_lt hZq7 9 rfl rfl | exact room_lt hZq7 10 rfl rfl | exact room_lt hZq7 11 rfl rfl | exact room_lt hZq7 12 rfl rfl | exact room_lt hZq7 13 rfl rfl | exact room_lt hZq7 14 rfl rfl | exact room_lt hZq7 15 rfl rfl) | exact lt_ble rfl | fail "mroom"
  exact trivial
example : True := by
  k_with "munits" => with_unfolding_all first | ((rename (_ + _ + _ < cLine) => hZq7); first | exact unit_lt2 hZq7 0 rfl rfl | exact unit_lt2 hZq7 3 rfl rfl | exact unit_lt2 hZq7 6 rfl rfl | exact unit_lt2 hZq7 9 rfl rfl | exact unit_lt2 hZq7 12 rfl rfl | exact unit_lt hZq7 0 rfl rfl | exact unit_lt hZq7 3 rfl rfl | exact unit_lt hZq7 6 rfl rfl | exact unit_lt hZq7 9 rfl rfl | exact unit_lt hZq7 12 rfl rfl) | exact lt_ble rfl | fail "munits"
  exact trivial
example : True := by
  k_with "mne" => (refine neN ?_; (try dsimp only); first | assumption | exact Ne.symm (by assumption) | exact Nat.ne_of_lt (by assumption) | exact Nat.ne_of_gt (by assumption) | fail "mne")
  exact trivial
example : True := by
  k_with "getMethod ref" => (k_here; refine' kdg_method (knd := intKind _ _) ?kN ?kp ?kd ?_; (case kN => k_asm); (case kp => k_mem); (case kd => assumption); k_whole)
  exact trivial
example : True := by
  k_with "call builtin:dict.get" => (k_here; refine' kdg_get2 (knd := intKind _ _) ?kN ?kp ?kd ?kl (intKind_is _ _ _ _) _ ?kv ?_; (case kN => k_asm); (case kp => k_mem); (case kd => assumption); (case kl => assumption); (case kv => assumption); k_whole; (try dsimp only [Option.getD]))
  exact trivial
/-- SyntaxTable.own: nothing there -/
theorem own_none {news : List (Addr × Obj)} {t td r : Addr} {n : Nat} {h1 h2 : Int} {k1 k2 tc : Tok} {pv : Value} {o : Obj} {kvs : List (Int × Value)} {c : Int}
    (m1 : (t, instObj 225 td) ∈ news) (m2 : (td, dictOf [⟨h1, .str (Str.ofString "parent") k1, pv⟩, ⟨h2, .str (Str.ofString "rows") k2, .ref r⟩] n) ∈ news) (m3 : (r, o) ∈ news) (d1 : o.IsDictOf (intKind prog w) kvs) (e1 : (r == sysModules) = false)
    (hv : valueAt kvs c = none) : Ct prog w mean mg mb 201 1 news [.ref t, .int c tc] (fun r news' => news' = news ∧ r = .none) := by
  intro c00 A₀ base h₀ L m sHp sGn sDr sTk sOs Q E B F X N T hk hd hu hret
  cell_step
  all_goals (refine hret _ _ _ _ ?e1 ?e2 ⟨rfl, rfl⟩; (case e1 => k_asm); (case e2 => k_asm))
theorem own_some {news : List (Addr × Obj)} {t td r y : Addr} {n : Nat} {h1 h2 : Int} {k1 k2 tc : Tok} {pv : Value} {o : Obj} {kvs : List (Int × Value)} {c : Int} {kd : String}
    (m1 : (t, instObj 225 td) ∈ news) (m2 : (td, dictOf [⟨h1, .str (Str.ofString "parent") k1, pv⟩, ⟨h2, .str (Str.ofString "rows") k2, .ref r⟩] n) ∈ news) (m3 : (r, o) ∈ news) (d1 : o.IsDictOf (intKind prog w) kvs) (e1 : (r == sysModules) = false)
    (hv : valueAt kvs c = some (.ref y)) (Y : SynIn news y kd) (hk : Kd kd) : Ct prog w mean mg mb 201 1 news [.ref t, .int c tc] (fun r news' => news' = news ∧ r = .ref y) := by
  have k1 : (Str.ofString kd == Str.ofString "@") = false := by rcases hk with rfl | rfl | rfl | rfl | rfl <;> decide
  refine SynIn.elim Y ?_; intro yd n h1 h2 h3 t1 t2 t3 t4 t5 mv m1 m2; clear Y
  intro c00 A₀ base h₀ L m sHp sGn sDr sTk sOs Q E B F X N T hk hd hu hret
  cell_step
  all_goals (first | (refine hret _ _ _ _ ?e1 ?e2 ⟨rfl, rfl⟩; (case e1 => k_asm); (case e2 => k_asm)) | (simp_all; done) | trace_state)
example : True := by
  k_with_none
  w_top off
  exact trivial
example : True := by
  k_with "mroom" => with_unfolding_all first | ((rename (_ + _ < recursionLimit) => hZq7); first | exact room_lt hZq7 0 rfl rfl | exact room_lt hZq7 1 rfl rfl | exact room_lt hZq7 2 rfl rfl | exact room_lt hZq7 3 rfl rfl | exact room_lt hZq7 4 rfl rfl | exact room_lt hZq7 5 rfl rfl | exact room_lt hZq7 6 rfl rfl | exact room_lt hZq7 7 rfl rfl | exact room_lt hZq7 8 rfl rfl | exact room_lt hZq7 9 rfl rfl | exact room_lt hZq7 10 rfl rfl | exact room_lt hZq7 11 rfl rfl | exact room_lt hZq7 12 rfl rfl | exact room_lt hZq7 13 rfl rfl | exact room_lt hZq7 14 rfl rfl | exact room_lt hZq7 15 rfl rfl) | exact lt_ble rfl | fail "mroom"
  exact trivial
example : True := by
  k_with "munits" => with_unfolding_all first | ((rename (_ + _ + _ < cLine) => hZq7); first | exact unit_lt2 hZq7 0 rfl rfl | exact unit_lt2 hZq7 3 rfl rfl | exact unit_lt2 hZq7 6 rfl rfl | exact unit_lt2 hZq7 9 rfl rfl | exact unit_lt2 hZq7 12 rfl rfl | exact unit_lt hZq7 0 rfl rfl | exact unit_lt hZq7 3 rfl rfl | exact unit_lt hZq7 6 rfl rfl | exact unit_lt hZq7 9 rfl rfl | exact unit_lt hZq7 12 rfl rfl) | exact lt_ble rfl | fail "munits"
  exact trivial
example : True := by
  k_with "mne" => (refine neN ?_; (try dsimp only); first | assumption | exact Ne.symm (by assumption) | exact Nat.ne_of_lt (by assumption) | exact Nat.ne_of_gt (by assumption) | fail "mne")
  exact trivial
example : True := by
  k_with "call ref" => (k_here; (with_reducible show wpAny _ _ (PySem.call (Value.ref 201) _) _ _ _); k_dflt (refine' Ct.use (own_none ?m1 ?m2 ?m3 ?d1 ?e1 ?hv) ?kB ?kF ?kX ?kN ?kT ?kk ?kd ?ku ?_; (case kB => k_asm); (case kF => k_asm); (case kX => k_asm); (case kN => first | k_asm | exact news_tl (by k_asm) | exact news_tl (news_tl (by k_asm))); (case kT => k_asm); (case kk => first | exact rfl | assumption); (case m1 => k_mem); (case m2 => k_mem); (case m3 => k_mem); (case d1 => assumption); (case e1 => assumption); (case hv => assumption); (case kd => ktr_room); (case ku => ktr_units); k_whole); intro v9 n9 h9 tk9 F9 N9 p9; obtain ⟨e9, p9⟩ := p9; (have e9 := e9.symm); subst e9; subst p9; (try dsimp only); (try k_sweep))
  exact trivial
example : True := by
  k_with "call ref" => (k_here; (with_reducible show wpAny _ _ (PySem.call (Value.ref 201) _) _ _ _); k_dflt (refine' Ct.use (own_some ?m1 ?m2 ?m3 ?d1 ?e1 ?hv ?hY ?hK) ?kB ?kF ?kX ?kN ?kT ?kk ?kd ?ku ?_; (case kB => k_asm); (case kF => k_asm); (case kX => k_asm); (case kN => first | k_asm | exact news_tl (by k_asm) | exact news_tl (news_tl (by k_asm))); (case kT => k_asm); (case kk => first | exact rfl | assumption); (case m1 => k_mem); (case m2 => k_mem); (case m3 => k_mem); (case d1 => assumption); (case e1 => assumption); (case hv => assumption); (case hY => assumption); (case hK => assumption); (case kd => ktr_room); (case ku => ktr_units); k_whole); intro v9 n9 h9 tk9 F9 N9 p9; obtain ⟨e9, p9⟩ := p9; (have e9 := e9.symm); subst e9; subst p9; (try dsimp only); (try k_sweep))
  exact trivial
example : True := by
  k_with "exec While Compare cons nil" => (k_here; k_dflt (refine whl_start 100 ?_))
  exact trivial
theorem tab_at {news bs : List (Addr × Obj)} {t : Addr} {c : Int} {tc : Tok} (V : TabIn prog w bs t) (hb : ∀ q ∈ bs, q ∈ news) (hc : Alpha c) :
    Ct prog w mean mg mb 208 2 news [.ref t, .int c tc] (fun r news' => news' = news ∧ ∃ y, r = .ref y ∧ SynIn bs y (kindOf c)) := by
  refine TabIn.elim V ?_; intro td r t2 td2 r2 n n2 h1 h2 h3 h4 k1 k2 k3 k4 o o2 kvs kvs2 m1 m2 m3 m4 m5 m6 d1 d2 e1 e2 hyx hcs; obtain ⟨y0, hy0, hyY⟩ := hyx; clear V
  have hK := kd_of c
  replace m1 := hb _ m1
  replace m2 := hb _ m2
  replace m3 := hb _ m3
  replace m4 := hb _ m4
  replace m5 := hb _ m5
  replace m6 := hb _ m6
  by_cases h10 : c = 10
  · subst h10
    intro c00 A₀ base h₀ L m sHp sGn sDr sTk sOs Q E B F X N T hk hd hu hret
    have hK' : Kd ">" := .inl rfl
    have hyN := hyY.mono hb
    cell_step
    all_goals (first | (refine hret _ _ _ _ ?e1 ?e2 ⟨rfl, _, rfl, hyY⟩; (case e1 => k_asm); (case e2 => k_asm)) | trace_state)
  · obtain ⟨hn1, y, hn2, hY⟩ := hcs c hc h10
    clear hcs
    have hyN := hY.mono hb
    intro c00 A₀ base h₀ L m sHp sGn sDr sTk sOs Q E B F X N T hk hd hu hret
    cell_step
    all_goals (first | (refine hret _ _ _ _ ?e1 ?e2 ⟨rfl, _, rfl, hY⟩; (case e1 => k_asm); (case e2 => k_asm)) | trace_state)
example : True := by
  k_with_none
  w_top off
  exact trivial
example : True := by
  k_with "mroom" => with_unfolding_all first | ((rename (_ + _ < recursionLimit) => hZq7); first | exact room_lt hZq7 0 rfl rfl | exact room_lt hZq7 1 rfl rfl | exact room_lt hZq7 2 rfl rfl | exact room_lt hZq7 3 rfl rfl | exact room_lt hZq7 4 rfl rfl | exact room_lt hZq7 5 rfl rfl | exact room_lt hZq7 6 rfl rfl | exact room_lt hZq7 7 rfl rfl | exact room_lt hZq7 8 rfl rfl | exact room_lt hZq7 9 rfl rfl | exact room_lt hZq7 10 rfl rfl | exact room_lt hZq7 11 rfl rfl | exact room_lt hZq7 12 rfl rfl | exact room_lt hZq7 13 rfl rfl | exact room_lt hZq7 14 rfl rfl | exact room_lt hZq7 15 rfl rfl) | exact lt_ble rfl | fail "mroom"
  exact trivial
example : True := by
  k_with "munits" => with_unfolding_all first | ((rename (_ + _ + _ < cLine) => hZq7); first | exact unit_lt2 hZq7 0 rfl rfl | exact unit_lt2 hZq7 3 rfl rfl | exact unit_lt2 hZq7 6 rfl rfl | exact unit_lt2 hZq7 9 rfl rfl | exact unit_lt2 hZq7 12 rfl rfl | exact unit_lt hZq7 0 rfl rfl | exact unit_lt hZq7 3 rfl rfl | exact unit_lt hZq7 6 rfl rfl | exact unit_lt hZq7 9 rfl rfl | exact unit_lt hZq7 12 rfl rfl) | exact lt_ble rfl | fail "munits"
  exact trivial
example : True := by
  k_with "mne" => (refine neN ?_; (try dsimp only); first | assumption | exact Ne.symm (by assumption) | exact Nat.ne_of_lt (by assumption) | exact Nat.ne_of_gt (by assumption) | fail "mne")
  exact trivial
example : True := by
  k_with "call ref" => (k_here; (with_reducible show wpAny _ _ (PySem.call (Value.ref 655) _) _ _ _); k_dflt (refine' Ct.use (code_at ?hV ?hp) ?kB ?kF ?kX ?kN ?kT ?kk ?kd ?ku ?_; (case kB => k_asm); (case kF => k_asm); (case kX => k_asm); (case kN => first | k_asm | exact news_tl (by k_asm) | exact news_tl (news_tl (by k_asm))); (case kT => k_asm); (case kk => first | exact rfl | assumption); (case hV => (first | assumption | (refine ViewIn.mono (by assumption) ?_; (intro p9 hp9; first | exact hp9 | exact .tail _ hp9 | exact .tail _ (.tail _ hp9) | exact .tail _ (.tail _ (.tail _ hp9)) | exact .tail _ (.tail _ (.tail _ (.tail _ hp9))) | exact .tail _ (.tail _ (.tail _ (.tail _ (.tail _ hp9)))) | exact .tail _ (.tail _ (.tail _ (.tail _ (.tail _ (.tail _ hp9))))) | exact .tail _ (.tail _ (.tail _ (.tail _ (.tail _ (.tail _ (.tail _ hp9)))))))))); (case hp => (first | assumption | (constructor <;> omega))); (case kd => ktr_room); (case ku => ktr_units); k_whole); intro v9 n9 h9 tk9 F9 N9 p9; obtain ⟨e9, t9, p9⟩ := p9; (have e9 := e9.symm); subst e9; subst p9; (try dsimp only); (try k_sweep))
  exact trivial
example : True := by
  k_with "call ref" => (k_here; (with_reducible show wpAny _ _ (PySem.call (Value.ref 208) _) _ _ _); k_dflt (refine' Ct.use (tab_at ?hV ?hb ?hA) ?kB ?kF ?kX ?kN ?kT ?kk ?kd ?ku ?_; (case kB => k_asm); (case kF => k_asm); (case kX => k_asm); (case kN => first | k_asm | exact news_tl (by k_asm) | exact news_tl (news_tl (by k_asm))); (case kT => k_asm); (case kk => first | exact rfl | assumption); (case hV => assumption); (case hb => first | assumption | exact fun _ h9 => h9 | ((intro p9 hp9; first | exact hp9 | exact .tail _ hp9 | exact .tail _ (.tail _ hp9) | exact .tail _ (.tail _ (.tail _ hp9)) | exact .tail _ (.tail _ (.tail _ (.tail _ hp9))) | exact .tail _ (.tail _ (.tail _ (.tail _ (.tail _ hp9)))) | exact .tail _ (.tail _ (.tail _ (.tail _ (.tail _ (.tail _ hp9))))) | exact .tail _ (.tail _ (.tail _ (.tail _ (.tail _ (.tail _ (.tail _ hp9))))))))); (case hA => assumption); (case kd => ktr_room); (case ku => ktr_units); k_whole); intro v9 n9 h9 tk9 F9 N9 p9; refine goal_gen ?_; intro GG9 kGG9; obtain ⟨e9, y9, p9, hY9⟩ := p9; refine kGG9 ?_; clear kGG9 GG9; (have e9 := e9.symm); subst e9; subst p9; (try dsimp only); (try k_sweep))
  exact trivial
theorem codeAt_mem {ns : List Int} {p : Int} (h : 1 ≤ p ∧ p < 1 + ns.length) : codeAt ns p ∈ ns := by
  unfold codeAt; rw [if_pos h]
  have : (p - 1).toNat < ns.length := by omega
  rw [List.getD_eq_getElem?_getD, List.getElem?_eq_getElem this]
  exact List.getElem_mem this
theorem alpha_nonneg {c : Int} (h : Alpha c) : 0 ≤ c := by unfold Alpha at h; omega
theorem codeAt_out {ns : List Int} {p : Int} (h : ¬ (1 ≤ p ∧ p < 1 + ns.length)) : codeAt ns p = -1 := by unfold codeAt; rw [if_neg h]
theorem syntax_at_in {news bs : List (Addr × Obj)} {v t : Addr} {ns : List Int} {p : Int} {tp : Tok} (V : ViewIn bs v ns) (Tb : TabIn prog w bs t) (hb : ∀ q ∈ bs, q ∈ news) (hal : ∀ x ∈ ns, Alpha x) (hin : 1 ≤ p ∧ p < 1 + ns.length) (hp : -(2^62) < p ∧ p < 2 ^ 62) :
    Ct prog w mean mg mb 278 3 news [.ref v, .ref t, .int p tp] (fun r news' => news' = news ∧ ∃ y, r = .ref y ∧ SynIn bs y (kindOf (codeAt ns p))) := by
  have hA := hal _ (codeAt_mem hin)
  have h0 := alpha_nonneg hA
  clear hal hin
  have V' := V.mono hb
  have Tb' := Tb.mono hb
  refine ViewIn.elim V' ?_; intro vd vl vvs vc vn vh1 vh2 vt1 vt2 vt3 vm1 vm2 vx3 vx4 vx5; clear vx3 vx4 vx5
  refine TabIn.elim Tb' ?_; intro td tr tt2 ttd2 tr2 tn tn2 th1 th2 th3 th4 tk1 tk2 tk3 tk4 to to2 tkvs tkvs2 tm1 tm2 tx3 tx4 tx5 tx6 tx7 tx8 tx9 txa txb txc; clear tx3 tx4 tx5 tx6 tx7 tx8 tx9 txa txb txc
  clear Tb'
  intro c00 A₀ base h₀ L m sHp sGn sDr sTk sOs Q E B F X N T hk hd hu hret
  cell_step
  all_goals (first | (refine hret _ _ _ _ ?e1 ?e2 ⟨rfl, _, rfl, ?e3⟩; (case e1 => k_asm); (case e2 => k_asm); (case e3 => assumption)) | trace_state)
theorem syntax_at_out {news : List (Addr × Obj)} {v t : Addr} {ns : List Int} {p : Int} {tp : Tok} (V : ViewIn news v ns) (Tb : TabIn prog w news t) (hin : ¬ (1 ≤ p ∧ p < 1 + ns.length)) (hp : -(2^62) < p ∧ p < 2 ^ 62) :
    Ct prog w mean mg mb 278 3 news [.ref v, .ref t, .int p tp] (fun r news' => news' = news ∧ r = .none) := by
  have hA := codeAt_out hin
  clear hin
  refine ViewIn.elim V ?_; intro vd vl vvs vc vn vh1 vh2 vt1 vt2 vt3 vm1 vm2 vx3 vx4 vx5; clear vx3 vx4 vx5
  refine TabIn.elim Tb ?_; intro td tr tt2 ttd2 tr2 tn tn2 th1 th2 th3 th4 tk1 tk2 tk3 tk4 to to2 tkvs tkvs2 tm1 tm2 tx3 tx4 tx5 tx6 tx7 tx8 tx9 txa txb txc; clear tx3 tx4 tx5 tx6 tx7 tx8 tx9 txa txb txc
  intro c00 A₀ base h₀ L m sHp sGn sDr sTk sOs Q E B F X N T hk hd hu hret
  cell_step
  all_goals (first | (refine hret _ _ _ _ ?e1 ?e2 ⟨rfl, rfl⟩; (case e1 => k_asm); (case e2 => k_asm)) | trace_state)
example : True := by
  k_with_none
  w_top off
  exact trivial
example : True := by
  k_with "mroom" => with_unfolding_all first | ((rename (_ + _ < recursionLimit) => hZq7); first | exact room_lt hZq7 0 rfl rfl | exact room_lt hZq7 1 rfl rfl | exact room_lt hZq7 2 rfl rfl | exact room_lt hZq7 3 rfl rfl | exact room_lt hZq7 4 rfl rfl | exact room_lt hZq7 5 rfl rfl | exact room_lt hZq7 6 rfl rfl | exact room_lt hZq7 7 rfl rfl | exact room_lt hZq7 8 rfl rfl | exact room_lt hZq7 9 rfl rfl | exact room_lt hZq7 10 rfl rfl | exact room_lt hZq7 11 rfl rfl | exact room_lt hZq7 12 rfl rfl | exact room_lt hZq7 13 rfl rfl | exact room_lt hZq7 14 rfl rfl | exact room_lt hZq7 15 rfl rfl) | exact lt_ble rfl | fail "mroom"
  exact trivial
example : True := by
  k_with "munits" => with_unfolding_all first | ((rename (_ + _ + _ < cLine) => hZq7); first | exact unit_lt2 hZq7 0 rfl rfl | exact unit_lt2 hZq7 3 rfl rfl | exact unit_lt2 hZq7 6 rfl rfl | exact unit_lt2 hZq7 9 rfl rfl | exact unit_lt2 hZq7 12 rfl rfl | exact unit_lt hZq7 0 rfl rfl | exact unit_lt hZq7 3 rfl rfl | exact unit_lt hZq7 6 rfl rfl | exact unit_lt hZq7 9 rfl rfl | exact unit_lt hZq7 12 rfl rfl) | exact lt_ble rfl | fail "munits"
  exact trivial
example : True := by
  k_with "mne" => (refine neN ?_; (try dsimp only); first | assumption | exact Ne.symm (by assumption) | exact Nat.ne_of_lt (by assumption) | exact Nat.ne_of_gt (by assumption) | fail "mne")
  exact trivial
example : True := by
  k_with "call ref" => (k_here; (with_reducible show wpAny _ _ (PySem.call (Value.ref 655) _) _ _ _); k_dflt (refine' Ct.use (code_at ?hV ?hp) ?kB ?kF ?kX ?kN ?kT ?kk ?kd ?ku ?_; (case kB => k_asm); (case kF => k_asm); (case kX => k_asm); (case kN => first | k_asm | exact news_tl (by k_asm) | exact news_tl (news_tl (by k_asm))); (case kT => k_asm); (case kk => first | exact rfl | assumption); (case hV => (first | assumption | (refine ViewIn.mono (by assumption) ?_; (intro p9 hp9; first | exact hp9 | exact .tail _ hp9 | exact .tail _ (.tail _ hp9) | exact .tail _ (.tail _ (.tail _ hp9)) | exact .tail _ (.tail _ (.tail _ (.tail _ hp9))) | exact .tail _ (.tail _ (.tail _ (.tail _ (.tail _ hp9)))) | exact .tail _ (.tail _ (.tail _ (.tail _ (.tail _ (.tail _ hp9))))) | exact .tail _ (.tail _ (.tail _ (.tail _ (.tail _ (.tail _ (.tail _ hp9)))))))))); (case hp => (first | assumption | (constructor <;> omega))); (case kd => ktr_room); (case ku => ktr_units); k_whole); intro v9 n9 h9 tk9 F9 N9 p9; obtain ⟨e9, t9, p9⟩ := p9; (have e9 := e9.symm); subst e9; subst p9; (try dsimp only); (try k_sweep))
  exact trivial
example : True := by
  k_with "call ref" => (k_here; (with_reducible show wpAny _ _ (PySem.call (Value.ref 278) _) _ _ _); k_dflt (refine' Ct.use (syntax_at_in ?hV ?hT ?hb ?hal ?hin ?hp) ?kB ?kF ?kX ?kN ?kT ?kk ?kd ?ku ?_; (case kB => k_asm); (case kF => k_asm); (case kX => k_asm); (case kN => first | k_asm | exact news_tl (by k_asm) | exact news_tl (news_tl (by k_asm))); (case kT => k_asm); (case kk => first | exact rfl | assumption); (case hV => assumption); (case hT => assumption); (case hb => first | assumption | exact fun _ h9 => h9 | ((intro p9 hp9; first | exact hp9 | exact .tail _ hp9 | exact .tail _ (.tail _ hp9) | exact .tail _ (.tail _ (.tail _ hp9)) | exact .tail _ (.tail _ (.tail _ (.tail _ hp9))) | exact .tail _ (.tail _ (.tail _ (.tail _ (.tail _ hp9)))) | exact .tail _ (.tail _ (.tail _ (.tail _ (.tail _ (.tail _ hp9))))) | exact .tail _ (.tail _ (.tail _ (.tail _ (.tail _ (.tail _ (.tail _ hp9))))))))); (case hal => assumption); (case hin => (first | assumption | (constructor <;> omega))); (case hp => (first | assumption | (constructor <;> omega))); (case kd => ktr_room); (case ku => ktr_units); k_whole); intro v9 n9 h9 tk9 F9 N9 p9; refine goal_gen ?_; intro GG9 kGG9; obtain ⟨e9, y9, p9, hY9⟩ := p9; refine kGG9 ?_; clear kGG9 GG9; (have e9 := e9.symm); subst e9; subst p9; (have hZ9 := hY9.mono (by first | assumption | exact fun _ h9 => h9 | ((intro p9 hp9; first | exact hp9 | exact .tail _ hp9 | exact .tail _ (.tail _ hp9) | exact .tail _ (.tail _ (.tail _ hp9)) | exact .tail _ (.tail _ (.tail _ (.tail _ hp9))) | exact .tail _ (.tail _ (.tail _ (.tail _ (.tail _ hp9)))) | exact .tail _ (.tail _ (.tail _ (.tail _ (.tail _ (.tail _ hp9))))) | exact .tail _ (.tail _ (.tail _ (.tail _ (.tail _ (.tail _ (.tail _ hp9)))))))))); (unfold SynIn at hZ9); (obtain ⟨yd9, yn9, yh1, yh2, yh3, yt1, yt2, yt3, yt4, yt5, ymv, ym1, ym2⟩ := hZ9); (try dsimp only); (try k_sweep))
  exact trivial
example : True := by
  k_with "call ref" => (k_here; (with_reducible show wpAny _ _ (PySem.call (Value.ref 278) _) _ _ _); k_dflt (refine' Ct.use (syntax_at_out ?hV ?hT ?hin ?hp) ?kB ?kF ?kX ?kN ?kT ?kk ?kd ?ku ?_; (case kB => k_asm); (case kF => k_asm); (case kX => k_asm); (case kN => first | k_asm | exact news_tl (by k_asm) | exact news_tl (news_tl (by k_asm))); (case kT => k_asm); (case kk => first | exact rfl | assumption); (case hV => (first | assumption | (refine ViewIn.mono (by assumption) ?_; (intro p9 hp9; first | exact hp9 | exact .tail _ hp9 | exact .tail _ (.tail _ hp9) | exact .tail _ (.tail _ (.tail _ hp9)) | exact .tail _ (.tail _ (.tail _ (.tail _ hp9))) | exact .tail _ (.tail _ (.tail _ (.tail _ (.tail _ hp9)))) | exact .tail _ (.tail _ (.tail _ (.tail _ (.tail _ (.tail _ hp9))))) | exact .tail _ (.tail _ (.tail _ (.tail _ (.tail _ (.tail _ (.tail _ hp9)))))))))); (case hT => (first | assumption | (refine TabIn.mono (by assumption) ?_; (intro p9 hp9; first | exact hp9 | exact .tail _ hp9 | exact .tail _ (.tail _ hp9) | exact .tail _ (.tail _ (.tail _ hp9)) | exact .tail _ (.tail _ (.tail _ (.tail _ hp9))) | exact .tail _ (.tail _ (.tail _ (.tail _ (.tail _ hp9)))) | exact .tail _ (.tail _ (.tail _ (.tail _ (.tail _ (.tail _ hp9))))) | exact .tail _ (.tail _ (.tail _ (.tail _ (.tail _ (.tail _ (.tail _ hp9)))))))))); (case hin => omega); (case hp => (first | assumption | (constructor <;> omega))); (case kd => ktr_room); (case ku => ktr_units); k_whole); intro v9 n9 h9 tk9 F9 N9 p9; obtain ⟨e9, p9⟩ := p9; (have e9 := e9.symm); subst e9; subst p9; (try dsimp only); (try k_sweep))
  exact trivial
example : True := by
  k_with "call ref" => (k_here; (with_reducible show wpAny _ _ (PySem.call (Value.ref 120) _) _ _ _); k_dflt (refine' Ct.use (syn_has ?hY ?hf) ?kB ?kF ?kX ?kN ?kT ?kk ?kd ?ku ?_; (case kB => k_asm); (case kF => k_asm); (case kX => k_asm); (case kN => first | k_asm | exact news_tl (by k_asm) | exact news_tl (news_tl (by k_asm))); (case kT => k_asm); (case kk => first | exact rfl | assumption); (case hY => (first | assumption | (refine SynIn.mono (by assumption) ?_; (intro p9 hp9; first | exact hp9 | exact .tail _ hp9 | exact .tail _ (.tail _ hp9) | exact .tail _ (.tail _ (.tail _ hp9)) | exact .tail _ (.tail _ (.tail _ (.tail _ hp9))) | exact .tail _ (.tail _ (.tail _ (.tail _ (.tail _ hp9)))) | exact .tail _ (.tail _ (.tail _ (.tail _ (.tail _ (.tail _ hp9))))) | exact .tail _ (.tail _ (.tail _ (.tail _ (.tail _ (.tail _ (.tail _ hp9)))))))))); (case hf => decide +kernel); (case kd => ktr_room); (case ku => ktr_units); k_whole); intro v9 n9 h9 tk9 F9 N9 p9; obtain ⟨e9, p9⟩ := p9; (have e9 := e9.symm); subst e9; subst p9; (try dsimp only); (try k_sweep))
  exact trivial
theorem kd_ne {kd x : String} (hk : Kd kd) (h : (Str.ofString ">" == Str.ofString x) = false ∧ (Str.ofString " " == Str.ofString x) = false ∧ (Str.ofString "(" == Str.ofString x) = false ∧ (Str.ofString ")" == Str.ofString x) = false ∧ (Str.ofString "w" == Str.ofString x) = false) : (Str.ofString kd == Str.ofString x) = false := by
  obtain ⟨a, b, c, d, e⟩ := h
  rcases hk with rfl | rfl | rfl | rfl | rfl <;> assumption
theorem begin_mark {news : List (Addr × Obj)} {v t : Addr} {ns : List Int} {p : Int} {tp : Tok} (V : ViewIn news v ns) (Tb : TabIn prog w news t) (hal : ∀ x ∈ ns, Alpha x) (hin : 1 ≤ p ∧ p < 1 + ns.length) (hp : -(2^62) < p ∧ p < 2 ^ 61) :
    Ct prog w mean mg mb 292 4 news [.ref v, .ref t, .int p tp] (fun r news' => news' = news ∧ r = .none) := by
  have kb := kd_ne (x := "<") (kd_of (codeAt ns p)) (by decide +kernel)
  have kc := kd_ne (x := "!") (kd_of (codeAt ns p)) (by decide +kernel)
  refine ViewIn.elim V ?_; intro vd vl vvs vc vn vh1 vh2 vt1 vt2 vt3 vm1 vm2 vx3 vx4 vx5; clear vx3 vx4 vx5
  refine TabIn.elim Tb ?_; intro td tr tt2 ttd2 tr2 tn tn2 th1 th2 th3 th4 tk1 tk2 tk3 tk4 to to2 tkvs tkvs2 tm1 tm2 tx3 tx4 tx5 tx6 tx7 tx8 tx9 txa txb txc; clear tx3 tx4 tx5 tx6 tx7 tx8 tx9 txa txb txc
  by_cases hin2 : p + 1 < 1 + ns.length
  · intro c00 A₀ base h₀ L m sHp sGn sDr sTk sOs Q E B F X N T hk hd hu hret
    cell_step
    all_goals (first | (refine hret _ _ _ _ ?e1 ?e2 ⟨rfl, rfl⟩; (case e1 => k_asm); (case e2 => first | k_asm | (refine cb_drop (by k_asm) ?_; (intro p9 hp9; first | exact hp9 | exact .tail _ hp9 | exact .tail _ (.tail _ hp9) | exact .tail _ (.tail _ (.tail _ hp9)) | exact .tail _ (.tail _ (.tail _ (.tail _ hp9))) | exact .tail _ (.tail _ (.tail _ (.tail _ (.tail _ hp9)))))))) | trace_state)
  · intro c00 A₀ base h₀ L m sHp sGn sDr sTk sOs Q E B F X N T hk hd hu hret
    cell_step
    all_goals (first | (refine hret _ _ _ _ ?e1 ?e2 ⟨rfl, rfl⟩; (case e1 => k_asm); (case e2 => first | k_asm | (refine cb_drop (by k_asm) ?_; (intro p9 hp9; first | exact hp9 | exact .tail _ hp9 | exact .tail _ (.tail _ hp9) | exact .tail _ (.tail _ (.tail _ hp9)) | exact .tail _ (.tail _ (.tail _ (.tail _ hp9))) | exact .tail _ (.tail _ (.tail _ (.tail _ (.tail _ hp9)))))))) | trace_state)
example : True := by
  k_with_none
  w_top off
  exact trivial
example : True := by
  k_with "mroom" => with_unfolding_all first | ((rename (_ + _ < recursionLimit) => hZq7); first | exact room_lt hZq7 0 rfl rfl | exact room_lt hZq7 1 rfl rfl | exact room_lt hZq7 2 rfl rfl | exact room_lt hZq7 3 rfl rfl | exact room_lt hZq7 4 rfl rfl | exact room_lt hZq7 5 rfl rfl | exact room_lt hZq7 6 rfl rfl | exact room_lt hZq7 7 rfl rfl | exact room_lt hZq7 8 rfl rfl | exact room_lt hZq7 9 rfl rfl | exact room_lt hZq7 10 rfl rfl | exact room_lt hZq7 11 rfl rfl | exact room_lt hZq7 12 rfl rfl | exact room_lt hZq7 13 rfl rfl | exact room_lt hZq7 14 rfl rfl | exact room_lt hZq7 15 rfl rfl) | exact lt_ble rfl | fail "mroom"
  exact trivial
example : True := by
  k_with "munits" => with_unfolding_all first | ((rename (_ + _ + _ < cLine) => hZq7); first | exact unit_lt2 hZq7 0 rfl rfl | exact unit_lt2 hZq7 3 rfl rfl | exact unit_lt2 hZq7 6 rfl rfl | exact unit_lt2 hZq7 9 rfl rfl | exact unit_lt2 hZq7 12 rfl rfl | exact unit_lt hZq7 0 rfl rfl | exact unit_lt hZq7 3 rfl rfl | exact unit_lt hZq7 6 rfl rfl | exact unit_lt hZq7 9 rfl rfl | exact unit_lt hZq7 12 rfl rfl) | exact lt_ble rfl | fail "munits"
  exact trivial
example : True := by
  k_with "mne" => (refine neN ?_; (try dsimp only); first | assumption | exact Ne.symm (by assumption) | exact Nat.ne_of_lt (by assumption) | exact Nat.ne_of_gt (by assumption) | fail "mne")
  exact trivial
example : True := by
  k_with "call ref" => (k_here; (with_reducible show wpAny _ _ (PySem.call (Value.ref 127) _) _ _ _); k_dflt (refine' Ct.use (syn_isEscape ?hY ?hK) ?kB ?kF ?kX ?kN ?kT ?kk ?kd ?ku ?_; (case kB => k_asm); (case kF => k_asm); (case kX => k_asm); (case kN => first | k_asm | exact news_tl (by k_asm) | exact news_tl (news_tl (by k_asm))); (case kT => k_asm); (case kk => first | exact rfl | assumption); (case hY => (first | assumption | (refine SynIn.mono (by assumption) ?_; (intro p9 hp9; first | exact hp9 | exact .tail _ hp9 | exact .tail _ (.tail _ hp9) | exact .tail _ (.tail _ (.tail _ hp9)) | exact .tail _ (.tail _ (.tail _ (.tail _ hp9))) | exact .tail _ (.tail _ (.tail _ (.tail _ (.tail _ hp9)))) | exact .tail _ (.tail _ (.tail _ (.tail _ (.tail _ (.tail _ hp9))))) | exact .tail _ (.tail _ (.tail _ (.tail _ (.tail _ (.tail _ (.tail _ hp9)))))))))); (case hK => assumption); (case kd => ktr_room); (case ku => ktr_units); k_whole); intro v9 n9 h9 tk9 F9 N9 p9; obtain ⟨e9, p9⟩ := p9; (have e9 := e9.symm); subst e9; subst p9; (try dsimp only); (try k_sweep))
  exact trivial
example : True := by
  k_with "call ref" => (k_here; (with_reducible show wpAny _ _ (PySem.call (Value.ref 134) _) _ _ _); k_dflt (refine' Ct.use (syn_isWord ?hY ?hK) ?kB ?kF ?kX ?kN ?kT ?kk ?kd ?ku ?_; (case kB => k_asm); (case kF => k_asm); (case kX => k_asm); (case kN => first | k_asm | exact news_tl (by k_asm) | exact news_tl (news_tl (by k_asm))); (case kT => k_asm); (case kk => first | exact rfl | assumption); (case hY => (first | assumption | (refine SynIn.mono (by assumption) ?_; (intro p9 hp9; first | exact hp9 | exact .tail _ hp9 | exact .tail _ (.tail _ hp9) | exact .tail _ (.tail _ (.tail _ hp9)) | exact .tail _ (.tail _ (.tail _ (.tail _ hp9))) | exact .tail _ (.tail _ (.tail _ (.tail _ (.tail _ hp9)))) | exact .tail _ (.tail _ (.tail _ (.tail _ (.tail _ (.tail _ hp9))))) | exact .tail _ (.tail _ (.tail _ (.tail _ (.tail _ (.tail _ (.tail _ hp9)))))))))); (case hK => assumption); (case kd => ktr_room); (case ku => ktr_units); k_whole); intro v9 n9 h9 tk9 F9 N9 p9; obtain ⟨e9, p9⟩ := p9; (have e9 := e9.symm); subst e9; subst p9; (try dsimp only); (try k_sweep))
  exact trivial
def WordOk (wo : Value) : Prop := wo = .none ∨ ∃ i t, wo = .int i t
/-- the dict of a Walk outside of strings and comments -/
def WalkD (od : Obj) (v t : Addr) (p : Int) (ol : Addr) : Prop :=
  ∃ (h : Nat → Int) (k : Nat → Tok) (bl le : Int) (wh wo : Value) (a1 a2 a3 a4 a5 a6 : Tok), od = dictOf [⟨h 1, .str (Str.ofString "view") (k 1), .ref v⟩, ⟨h 2, .str (Str.ofString "table") (k 2), .ref t⟩, ⟨h 3, .str (Str.ofString "place") (k 3), .int p a1⟩, ⟨h 4, .str (Str.ofString "opens") (k 4), .ref ol⟩, ⟨h 5, .str (Str.ofString "below") (k 5), .int bl a2⟩, ⟨h 6, .str (Str.ofString "least") (k 6), .int le a3⟩, ⟨h 7, .str (Str.ofString "whole") (k 7), wh⟩, ⟨h 8, .str (Str.ofString "word") (k 8), wo⟩, ⟨h 9, .str (Str.ofString "string") (k 9), .none⟩, ⟨h 10, .str (Str.ofString "comment") (k 10), .int 0 a4⟩, ⟨h 11, .str (Str.ofString "style") (k 11), .str (Str.ofString "") a5⟩, ⟨h 12, .str (Str.ofString "nests") (k 12), .bool false⟩, ⟨h 13, .str (Str.ofString "start") (k 13), .none⟩, ⟨h 14, .str (Str.ofString "quoted") (k 14), .bool false⟩, ⟨h 15, .str (Str.ofString "half") (k 15), .str (Str.ofString "") a6⟩] 15 ∧ WordOk wo
theorem WalkD.mk' {h : Nat → Int} {k : Nat → Tok} {v t ol : Addr} {p bl le : Int} {wh wo : Value} {a1 a2 a3 a4 a5 a6 : Tok} (hw : WordOk wo) : WalkD (dictOf [⟨h 1, .str (Str.ofString "view") (k 1), .ref v⟩, ⟨h 2, .str (Str.ofString "table") (k 2), .ref t⟩, ⟨h 3, .str (Str.ofString "place") (k 3), .int p a1⟩, ⟨h 4, .str (Str.ofString "opens") (k 4), .ref ol⟩, ⟨h 5, .str (Str.ofString "below") (k 5), .int bl a2⟩, ⟨h 6, .str (Str.ofString "least") (k 6), .int le a3⟩, ⟨h 7, .str (Str.ofString "whole") (k 7), wh⟩, ⟨h 8, .str (Str.ofString "word") (k 8), wo⟩, ⟨h 9, .str (Str.ofString "string") (k 9), .none⟩, ⟨h 10, .str (Str.ofString "comment") (k 10), .int 0 a4⟩, ⟨h 11, .str (Str.ofString "style") (k 11), .str (Str.ofString "") a5⟩, ⟨h 12, .str (Str.ofString "nests") (k 12), .bool false⟩, ⟨h 13, .str (Str.ofString "start") (k 13), .none⟩, ⟨h 14, .str (Str.ofString "quoted") (k 14), .bool false⟩, ⟨h 15, .str (Str.ofString "half") (k 15), .str (Str.ofString "") a6⟩] 15) v t p ol :=
  ⟨h, k, bl, le, wh, wo, a1, a2, a3, a4, a5, a6, rfl, hw⟩
theorem WalkD.elim {C : Prop} {od : Obj} {v t : Addr} {p : Int} {ol : Addr} (W : WalkD od v t p ol) (h9 : ∀ (h : Nat → Int) (k : Nat → Tok) (bl le : Int) (wh wo : Value) (a1 a2 a3 a4 a5 a6 : Tok), od = dictOf [⟨h 1, .str (Str.ofString "view") (k 1), .ref v⟩, ⟨h 2, .str (Str.ofString "table") (k 2), .ref t⟩, ⟨h 3, .str (Str.ofString "place") (k 3), .int p a1⟩, ⟨h 4, .str (Str.ofString "opens") (k 4), .ref ol⟩, ⟨h 5, .str (Str.ofString "below") (k 5), .int bl a2⟩, ⟨h 6, .str (Str.ofString "least") (k 6), .int le a3⟩, ⟨h 7, .str (Str.ofString "whole") (k 7), wh⟩, ⟨h 8, .str (Str.ofString "word") (k 8), wo⟩, ⟨h 9, .str (Str.ofString "string") (k 9), .none⟩, ⟨h 10, .str (Str.ofString "comment") (k 10), .int 0 a4⟩, ⟨h 11, .str (Str.ofString "style") (k 11), .str (Str.ofString "") a5⟩, ⟨h 12, .str (Str.ofString "nests") (k 12), .bool false⟩, ⟨h 13, .str (Str.ofString "start") (k 13), .none⟩, ⟨h 14, .str (Str.ofString "quoted") (k 14), .bool false⟩, ⟨h 15, .str (Str.ofString "half") (k 15), .str (Str.ofString "") a6⟩] 15 → WordOk wo → C) : C := by
  obtain ⟨h, k, bl, le, wh, wo, a1, a2, a3, a4, a5, a6, e, hw⟩ := W
  exact h9 h k bl le wh wo a1 a2 a3 a4 a5 a6 e hw
theorem ints_app {vs us : List Value} {ns ms : List Int} (h : IntsAre vs ns) (h' : IntsAre us ms) : IntsAre (vs ++ us) (ns ++ ms) := by
  induction h with
  | nil => exact h'
  | cons n t _ ih => exact .cons n t ih
theorem end_word {rest : List (Addr × Obj)} {wk wd ol v t : Addr} {od : Obj} {os : List Value} {c : Nat} {p : Int} (W : WalkD od v t p ol) (e1 : @Ne Nat wk wd) (e2 : @Ne Nat wk ol) (e3 : @Ne Nat wd ol) (r1 : ∀ q ∈ rest, q.1 ≠ wd) (r2 : ∀ q ∈ rest, q.1 ≠ ol) :
    Ct prog w mean mg mb 348 1 ((wk, instObj 449 wd) :: (wd, od) :: (ol, listOf os.toArray c) :: rest) [.ref wk] (fun r news' => r = .none ∧ ∃ od', news' = (wk, instObj 449 wd) :: (wd, od') :: (ol, listOf os.toArray c) :: rest ∧ WalkD od' v t p ol) := by
  (refine WalkD.elim W ?_; intro whh wkk wbl wle wwh wwo wa1 wa2 wa3 wa4 wa5 wa6 weq hwo; clear W); subst weq
  rcases hwo with rfl | ⟨wi, wt, rfl⟩
  all_goals (
    intro c00 A₀ base h₀ L m sHp sGn sDr sTk sOs Q E B F X N T hk hd hu hret
    cell_step
    all_goals (refine' hret _ _ _ _ ?e1 ?e2 ?e3; (case e1 => k_asm); (case e2 => first | k_asm | (refine cb_drop (by k_asm) ?_; (intro p9 hp9; first | exact hp9 | exact .tail _ hp9 | exact .tail _ (.tail _ hp9) | exact .tail _ (.tail _ (.tail _ hp9)) | exact .tail _ (.tail _ (.tail _ (.tail _ hp9))) | exact .tail _ (.tail _ (.tail _ (.tail _ (.tail _ hp9)))) | exact .tail _ (.tail _ (.tail _ (.tail _ (.tail _ (.tail _ hp9))))) | exact .tail _ (.tail _ (.tail _ (.tail _ (.tail _ (.tail _ (.tail _ hp9))))))))); (case e3 => refine ⟨rfl, _, rfl, (WalkD.mk' ?wo)⟩; ((case wo => first | assumption | exact .inl rfl | exact .inr ⟨_, _, rfl⟩)))))
theorem by_kind_word {rest : List (Addr × Obj)} {wk wd ol v t y : Addr} {od : Obj} {os : List Value} {is : List Int} {c : Nat} {p : Int} (Y : SynIn rest y "w") (W : WalkD od v t p ol) (hI : IntsAre os is) (e1 : @Ne Nat wk wd) (e2 : @Ne Nat wk ol) (e3 : @Ne Nat wd ol) (r1 : ∀ q ∈ rest, q.1 ≠ wd) (r2 : ∀ q ∈ rest, q.1 ≠ ol) :
    Ct prog w mean mg mb 439 13 ((wk, instObj 449 wd) :: (wd, od) :: (ol, listOf os.toArray c) :: rest) [.ref wk, .ref y] (fun r news' => r = .none ∧ ∃ od' os' is' c', news' = (wk, instObj 449 wd) :: (wd, od') :: (ol, listOf os'.toArray c') :: rest ∧ WalkD od' v t p ol ∧ IntsAre os' is' ∧ is'.length = is.length) := by
  have hK : Kd "w" := by simp [Kd]
  refine SynIn.elim Y ?_; intro yd9 yn9 yh1 yh2 yh3 yt1 yt2 yt3 yt4 yt5 ymv ym1 ym2
  (refine WalkD.elim W ?_; intro whh wkk wbl wle wwh wwo wa1 wa2 wa3 wa4 wa5 wa6 weq hwo; clear W); subst weq
  rcases hwo with rfl | ⟨wi, wt, rfl⟩
  all_goals (
    intro c00 A₀ base h₀ L m sHp sGn sDr sTk sOs Q E B F X N T hk hd hu hret
    cell_step
    all_goals (refine' hret _ _ _ _ ?e1 ?e2 ?e3; (case e1 => k_asm); (case e2 => first | k_asm | (refine cb_drop (by k_asm) ?_; (intro p9 hp9; first | exact hp9 | exact .tail _ hp9 | exact .tail _ (.tail _ hp9) | exact .tail _ (.tail _ (.tail _ hp9)) | exact .tail _ (.tail _ (.tail _ (.tail _ hp9))) | exact .tail _ (.tail _ (.tail _ (.tail _ (.tail _ hp9)))) | exact .tail _ (.tail _ (.tail _ (.tail _ (.tail _ (.tail _ hp9))))) | exact .tail _ (.tail _ (.tail _ (.tail _ (.tail _ (.tail _ (.tail _ hp9))))))))); (case e3 => refine ⟨rfl, _, _, _, _, rfl, (WalkD.mk' ?wo), hI, rfl⟩; ((case wo => first | assumption | exact .inl rfl | exact .inr ⟨_, _, rfl⟩)))))
example : True := by
  k_with_none
  w_top off
  exact trivial
example : True := by
  k_with "mroom" => with_unfolding_all first | ((rename (_ + _ < recursionLimit) => hZq7); first | exact room_lt hZq7 0 rfl rfl | exact room_lt hZq7 1 rfl rfl | exact room_lt hZq7 2 rfl rfl | exact room_lt hZq7 3 rfl rfl | exact room_lt hZq7 4 rfl rfl | exact room_lt hZq7 5 rfl rfl | exact room_lt hZq7 6 rfl rfl | exact room_lt hZq7 7 rfl rfl | exact room_lt hZq7 8 rfl rfl | exact room_lt hZq7 9 rfl rfl | exact room_lt hZq7 10 rfl rfl | exact room_lt hZq7 11 rfl rfl | exact room_lt hZq7 12 rfl rfl | exact room_lt hZq7 13 rfl rfl | exact room_lt hZq7 14 rfl rfl | exact room_lt hZq7 15 rfl rfl) | exact lt_ble rfl | fail "mroom"
  exact trivial
example : True := by
  k_with "munits" => with_unfolding_all first | ((rename (_ + _ + _ < cLine) => hZq7); first | exact unit_lt2 hZq7 0 rfl rfl | exact unit_lt2 hZq7 3 rfl rfl | exact unit_lt2 hZq7 6 rfl rfl | exact unit_lt2 hZq7 9 rfl rfl | exact unit_lt2 hZq7 12 rfl rfl | exact unit_lt hZq7 0 rfl rfl | exact unit_lt hZq7 3 rfl rfl | exact unit_lt hZq7 6 rfl rfl | exact unit_lt hZq7 9 rfl rfl | exact unit_lt hZq7 12 rfl rfl) | exact lt_ble rfl | fail "munits"
  exact trivial
example : True := by
  k_with "mne" => (refine neN ?_; (try dsimp only); first | assumption | exact Ne.symm (by assumption) | exact Nat.ne_of_lt (by assumption) | exact Nat.ne_of_gt (by assumption) | fail "mne")
  exact trivial
example : True := by
  k_with "call ref" => (k_here; (with_reducible show wpAny _ _ (PySem.call (Value.ref 127) _) _ _ _); k_dflt (refine' Ct.use (syn_isEscape ?hY ?hK) ?kB ?kF ?kX ?kN ?kT ?kk ?kd ?ku ?_; (case kB => k_asm); (case kF => k_asm); (case kX => k_asm); (case kN => first | k_asm | exact news_tl (by k_asm) | exact news_tl (news_tl (by k_asm))); (case kT => k_asm); (case kk => first | exact rfl | assumption); (case hY => (first | assumption | (refine SynIn.mono (by assumption) ?_; (intro p9 hp9; first | exact hp9 | exact .tail _ hp9 | exact .tail _ (.tail _ hp9) | exact .tail _ (.tail _ (.tail _ hp9)) | exact .tail _ (.tail _ (.tail _ (.tail _ hp9))) | exact .tail _ (.tail _ (.tail _ (.tail _ (.tail _ hp9)))) | exact .tail _ (.tail _ (.tail _ (.tail _ (.tail _ (.tail _ hp9))))) | exact .tail _ (.tail _ (.tail _ (.tail _ (.tail _ (.tail _ (.tail _ hp9)))))))))); (case hK => assumption); (case kd => ktr_room); (case ku => ktr_units); k_whole); intro v9 n9 h9 tk9 F9 N9 p9; obtain ⟨e9, p9⟩ := p9; (have e9 := e9.symm); subst e9; subst p9; (try dsimp only); (try k_sweep))
  exact trivial
example : True := by
  k_with "call ref" => (k_here; (with_reducible show wpAny _ _ (PySem.call (Value.ref 134) _) _ _ _); k_dflt (refine' Ct.use (syn_isWord ?hY ?hK) ?kB ?kF ?kX ?kN ?kT ?kk ?kd ?ku ?_; (case kB => k_asm); (case kF => k_asm); (case kX => k_asm); (case kN => first | k_asm | exact news_tl (by k_asm) | exact news_tl (news_tl (by k_asm))); (case kT => k_asm); (case kk => first | exact rfl | assumption); (case hY => (first | assumption | (refine SynIn.mono (by assumption) ?_; (intro p9 hp9; first | exact hp9 | exact .tail _ hp9 | exact .tail _ (.tail _ hp9) | exact .tail _ (.tail _ (.tail _ hp9)) | exact .tail _ (.tail _ (.tail _ (.tail _ hp9))) | exact .tail _ (.tail _ (.tail _ (.tail _ (.tail _ hp9)))) | exact .tail _ (.tail _ (.tail _ (.tail _ (.tail _ (.tail _ hp9))))) | exact .tail _ (.tail _ (.tail _ (.tail _ (.tail _ (.tail _ (.tail _ hp9)))))))))); (case hK => assumption); (case kd => ktr_room); (case ku => ktr_units); k_whole); intro v9 n9 h9 tk9 F9 N9 p9; obtain ⟨e9, p9⟩ := p9; (have e9 := e9.symm); subst e9; subst p9; (try dsimp only); (try k_sweep))
  exact trivial
example : True := by
  k_with "call ref" => (k_here; (with_reducible show wpAny _ _ (PySem.call (Value.ref 348) _) _ _ _); k_dflt (refine' Ct.use (end_word ?hW ?q1 ?q2 ?q3 ?q4 ?q5) ?kB ?kF ?kX ?kN ?kT ?kk ?kd ?ku ?_; (case kB => k_asm); (case kF => k_asm); (case kX => k_asm); (case kN => first | k_asm | exact news_tl (by k_asm) | exact news_tl (news_tl (by k_asm))); (case kT => k_asm); (case kk => first | exact rfl | assumption); (case hW => exact WalkD.mk' (by first | assumption | exact .inl rfl | exact .inr ⟨_, _, rfl⟩)); (case q1 => (first | assumption | omega)); (case q2 => (first | assumption | omega)); (case q3 => (first | assumption | omega)); (case q4 => assumption); (case q5 => assumption); (case kd => ktr_room); (case ku => ktr_units); k_whole); intro v9 n9 h9 tk9 F9 N9 p9; refine goal_gen ?_; intro GG9 kGG9; obtain ⟨p8, od9, e9, W9⟩ := p9; refine kGG9 ?_; clear kGG9 GG9; subst p8; subst e9; (refine WalkD.elim W9 ?_; intro whh wkk wbl wle wwh wwo wa1 wa2 wa3 wa4 wa5 wa6 weq hwo; clear W9); subst weq; (try dsimp only); (try k_sweep))
  exact trivial
example : True := by
  k_with "call builtin:list.append" => (k_here; k_dflt (show wpAny _ _ (PySem.call (Value.builtin _) [Value.ref _, _]) _ _ _); k_dflt (refine' append_K ?k1 ?k2 ?k3 ?_ ?z; (case k1 => k_asm); (case k2 => k_asm); (case k3 => k_upd); (case z => size_fits); k_whole); intro h' F' N'; (try k_sweep))
  exact trivial
theorem by_kind_blank {rest : List (Addr × Obj)} {wk wd ol v t y : Addr} {od : Obj} {os : List Value} {is : List Int} {c : Nat} {p : Int} {kd : String} (hkd : kd = ">" ∨ kd = " ") (Y : SynIn rest y kd) (W : WalkD od v t p ol) (hI : IntsAre os is) (e1 : @Ne Nat wk wd) (e2 : @Ne Nat wk ol) (e3 : @Ne Nat wd ol) (r1 : ∀ q ∈ rest, q.1 ≠ wd) (r2 : ∀ q ∈ rest, q.1 ≠ ol) :
    Ct prog w mean mg mb 439 13 ((wk, instObj 449 wd) :: (wd, od) :: (ol, listOf os.toArray c) :: rest) [.ref wk, .ref y] (fun r news' => r = .none ∧ ∃ od' os' is' c', news' = (wk, instObj 449 wd) :: (wd, od') :: (ol, listOf os'.toArray c') :: rest ∧ WalkD od' v t p ol ∧ IntsAre os' is' ∧ is'.length = is.length) := by
  have hK : Kd kd := by rcases hkd with rfl | rfl <;> simp [Kd]
  have n0 : (kd == "w") = false := by rcases hkd with rfl | rfl <;> decide
  have n1 : (Str.ofString kd == Str.ofString "(") = false := by rcases hkd with rfl | rfl <;> decide
  have n2 : (Str.ofString kd == Str.ofString ")") = false := by rcases hkd with rfl | rfl <;> decide
  have n3 : (Str.ofString kd == Str.ofString "\"") = false := by rcases hkd with rfl | rfl <;> decide
  have n4 : (Str.ofString kd == Str.ofString "|") = false := by rcases hkd with rfl | rfl <;> decide
  have n5 : (Str.ofString kd == Str.ofString "'") = false := by rcases hkd with rfl | rfl <;> decide
  refine SynIn.elim Y ?_; intro yd9 yn9 yh1 yh2 yh3 yt1 yt2 yt3 yt4 yt5 ymv ym1 ym2
  (refine WalkD.elim W ?_; intro whh wkk wbl wle wwh wwo wa1 wa2 wa3 wa4 wa5 wa6 weq hwo; clear W); subst weq
  clear hkd
  intro c00 A₀ base h₀ L m sHp sGn sDr sTk sOs Q E B F X N T hk hd hu hret
  cell_step
  all_goals (refine' hret _ _ _ _ ?e1 ?e2 ?e3; (case e1 => k_asm); (case e2 => first | k_asm | (refine cb_drop (by k_asm) ?_; (intro p9 hp9; first | exact hp9 | exact .tail _ hp9 | exact .tail _ (.tail _ hp9) | exact .tail _ (.tail _ (.tail _ hp9)) | exact .tail _ (.tail _ (.tail _ (.tail _ hp9))) | exact .tail _ (.tail _ (.tail _ (.tail _ (.tail _ hp9)))) | exact .tail _ (.tail _ (.tail _ (.tail _ (.tail _ (.tail _ hp9))))) | exact .tail _ (.tail _ (.tail _ (.tail _ (.tail _ (.tail _ (.tail _ hp9))))))))); (case e3 => refine ⟨rfl, _, _, _, _, rfl, (WalkD.mk' ?wo), hI, rfl⟩; ((case wo => first | assumption | exact .inl rfl | exact .inr ⟨_, _, rfl⟩))))
theorem by_kind_open {rest : List (Addr × Obj)} {wk wd ol v t y : Addr} {od : Obj} {os : List Value} {is : List Int} {c : Nat} {p : Int} (Y : SynIn rest y "(") (W : WalkD od v t p ol) (hI : IntsAre os is) (hlen : is.length < 2 ^ 20) (e1 : @Ne Nat wk wd) (e2 : @Ne Nat wk ol) (e3 : @Ne Nat wd ol) (r1 : ∀ q ∈ rest, q.1 ≠ wd) (r2 : ∀ q ∈ rest, q.1 ≠ ol) :
    Ct prog w mean mg mb 439 13 ((wk, instObj 449 wd) :: (wd, od) :: (ol, listOf os.toArray c) :: rest) [.ref wk, .ref y] (fun r news' => r = .none ∧ ∃ od' os' is' c', news' = (wk, instObj 449 wd) :: (wd, od') :: (ol, listOf os'.toArray c') :: rest ∧ WalkD od' v t p ol ∧ IntsAre os' is' ∧ is'.length = is.length + 1) := by
  have hK : Kd "(" := by simp [Kd]
  refine SynIn.elim Y ?_; intro yd9 yn9 yh1 yh2 yh3 yt1 yt2 yt3 yt4 yt5 ymv ym1 ym2
  (refine WalkD.elim W ?_; intro whh wkk wbl wle wwh wwo wa1 wa2 wa3 wa4 wa5 wa6 weq hwo; clear W); subst weq
  intro c00 A₀ base h₀ L m sHp sGn sDr sTk sOs Q E B F X N T hk hd hu hret
  cell_step
  all_goals ((try (rename News _ _ _ _ => nE; simp only [List.push_toArray] at nE)); (refine' hret _ _ _ _ ?e1 ?e2 ?e3; (case e1 => k_asm); (case e2 => first | k_asm | (refine cb_drop (by k_asm) ?_; (intro p9 hp9; first | exact hp9 | exact .tail _ hp9 | exact .tail _ (.tail _ hp9) | exact .tail _ (.tail _ (.tail _ hp9)) | exact .tail _ (.tail _ (.tail _ (.tail _ hp9))) | exact .tail _ (.tail _ (.tail _ (.tail _ (.tail _ hp9)))) | exact .tail _ (.tail _ (.tail _ (.tail _ (.tail _ (.tail _ hp9))))) | exact .tail _ (.tail _ (.tail _ (.tail _ (.tail _ (.tail _ (.tail _ hp9))))))))); (case e3 => refine ⟨rfl, _, _, _, _, rfl, (WalkD.mk' ?wo), ints_app hI (.cons _ _ .nil), List.length_append⟩; ((case wo => first | assumption | exact .inl rfl | exact .inr ⟨_, _, rfl⟩)))))
example : True := by
  k_with_none
  w_top off
  exact trivial
example : True := by
  k_with "mroom" => with_unfolding_all first | ((rename (_ + _ < recursionLimit) => hZq7); first | exact room_lt hZq7 0 rfl rfl | exact room_lt hZq7 1 rfl rfl | exact room_lt hZq7 2 rfl rfl | exact room_lt hZq7 3 rfl rfl | exact room_lt hZq7 4 rfl rfl | exact room_lt hZq7 5 rfl rfl | exact room_lt hZq7 6 rfl rfl | exact room_lt hZq7 7 rfl rfl | exact room_lt hZq7 8 rfl rfl | exact room_lt hZq7 9 rfl rfl | exact room_lt hZq7 10 rfl rfl | exact room_lt hZq7 11 rfl rfl | exact room_lt hZq7 12 rfl rfl | exact room_lt hZq7 13 rfl rfl | exact room_lt hZq7 14 rfl rfl | exact room_lt hZq7 15 rfl rfl) | exact lt_ble rfl | fail "mroom"
  exact trivial
example : True := by
  k_with "munits" => with_unfolding_all first | ((rename (_ + _ + _ < cLine) => hZq7); first | exact unit_lt2 hZq7 0 rfl rfl | exact unit_lt2 hZq7 3 rfl rfl | exact unit_lt2 hZq7 6 rfl rfl | exact unit_lt2 hZq7 9 rfl rfl | exact unit_lt2 hZq7 12 rfl rfl | exact unit_lt hZq7 0 rfl rfl | exact unit_lt hZq7 3 rfl rfl | exact unit_lt hZq7 6 rfl rfl | exact unit_lt hZq7 9 rfl rfl | exact unit_lt hZq7 12 rfl rfl) | exact lt_ble rfl | fail "munits"
  exact trivial
example : True := by
  k_with "mne" => (refine neN ?_; (try dsimp only); first | assumption | exact Ne.symm (by assumption) | exact Nat.ne_of_lt (by assumption) | exact Nat.ne_of_gt (by assumption) | fail "mne")
  exact trivial
example : True := by
  k_with "call ref" => (k_here; (with_reducible show wpAny _ _ (PySem.call (Value.ref 127) _) _ _ _); k_dflt (refine' Ct.use (syn_isEscape ?hY ?hK) ?kB ?kF ?kX ?kN ?kT ?kk ?kd ?ku ?_; (case kB => k_asm); (case kF => k_asm); (case kX => k_asm); (case kN => first | k_asm | exact news_tl (by k_asm) | exact news_tl (news_tl (by k_asm))); (case kT => k_asm); (case kk => first | exact rfl | assumption); (case hY => (first | assumption | (refine SynIn.mono (by assumption) ?_; (intro p9 hp9; first | exact hp9 | exact .tail _ hp9 | exact .tail _ (.tail _ hp9) | exact .tail _ (.tail _ (.tail _ hp9)) | exact .tail _ (.tail _ (.tail _ (.tail _ hp9))) | exact .tail _ (.tail _ (.tail _ (.tail _ (.tail _ hp9)))) | exact .tail _ (.tail _ (.tail _ (.tail _ (.tail _ (.tail _ hp9))))) | exact .tail _ (.tail _ (.tail _ (.tail _ (.tail _ (.tail _ (.tail _ hp9)))))))))); (case hK => assumption); (case kd => ktr_room); (case ku => ktr_units); k_whole); intro v9 n9 h9 tk9 F9 N9 p9; obtain ⟨e9, p9⟩ := p9; (have e9 := e9.symm); subst e9; subst p9; (try dsimp only); (try k_sweep))
  exact trivial
example : True := by
  k_with "call ref" => (k_here; (with_reducible show wpAny _ _ (PySem.call (Value.ref 134) _) _ _ _); k_dflt (refine' Ct.use (syn_isWord ?hY ?hK) ?kB ?kF ?kX ?kN ?kT ?kk ?kd ?ku ?_; (case kB => k_asm); (case kF => k_asm); (case kX => k_asm); (case kN => first | k_asm | exact news_tl (by k_asm) | exact news_tl (news_tl (by k_asm))); (case kT => k_asm); (case kk => first | exact rfl | assumption); (case hY => (first | assumption | (refine SynIn.mono (by assumption) ?_; (intro p9 hp9; first | exact hp9 | exact .tail _ hp9 | exact .tail _ (.tail _ hp9) | exact .tail _ (.tail _ (.tail _ hp9)) | exact .tail _ (.tail _ (.tail _ (.tail _ hp9))) | exact .tail _ (.tail _ (.tail _ (.tail _ (.tail _ hp9)))) | exact .tail _ (.tail _ (.tail _ (.tail _ (.tail _ (.tail _ hp9))))) | exact .tail _ (.tail _ (.tail _ (.tail _ (.tail _ (.tail _ (.tail _ hp9)))))))))); (case hK => assumption); (case kd => ktr_room); (case ku => ktr_units); k_whole); intro v9 n9 h9 tk9 F9 N9 p9; obtain ⟨e9, p9⟩ := p9; (have e9 := e9.symm); subst e9; subst p9; (try dsimp only); (try k_sweep))
  exact trivial
example : True := by
  k_with "call ref" => (k_here; (with_reducible show wpAny _ _ (PySem.call (Value.ref 348) _) _ _ _); k_dflt (refine' Ct.use (end_word ?hW ?q1 ?q2 ?q3 ?q4 ?q5) ?kB ?kF ?kX ?kN ?kT ?kk ?kd ?ku ?_; (case kB => k_asm); (case kF => k_asm); (case kX => k_asm); (case kN => first | k_asm | exact news_tl (by k_asm) | exact news_tl (news_tl (by k_asm))); (case kT => k_asm); (case kk => first | exact rfl | assumption); (case hW => exact WalkD.mk' (by first | assumption | exact .inl rfl | exact .inr ⟨_, _, rfl⟩)); (case q1 => (first | assumption | omega)); (case q2 => (first | assumption | omega)); (case q3 => (first | assumption | omega)); (case q4 => assumption); (case q5 => assumption); (case kd => ktr_room); (case ku => ktr_units); k_whole); intro v9 n9 h9 tk9 F9 N9 p9; refine goal_gen ?_; intro GG9 kGG9; obtain ⟨p8, od9, e9, W9⟩ := p9; refine kGG9 ?_; clear kGG9 GG9; subst p8; subst e9; (refine WalkD.elim W9 ?_; intro whh wkk wbl wle wwh wwo wa1 wa2 wa3 wa4 wa5 wa6 weq hwo; clear W9); subst weq; (try dsimp only); (try k_sweep))
  exact trivial
example : True := by
  k_with "call builtin:list.pop" => (k_here; k_dflt (refine' kpa_pop ?F ?N ?U ?i ?l ?z ?_; (case F => k_asm); (case N => k_asm); (case U => k_upd); (case i => assumption); (case l => assumption); (case z => assumption)); (intro h' t' F' N' hI'))
  exact trivial
theorem by_kind_close {rest : List (Addr × Obj)} {wk wd ol v t y : Addr} {od : Obj} {os : List Value} {is : List Int} {c : Nat} {p : Int} (Y : SynIn rest y ")") (W : WalkD od v t p ol) (hI : IntsAre os is) (hlen : is.length < 2 ^ 20) (e1 : @Ne Nat wk wd) (e2 : @Ne Nat wk ol) (e3 : @Ne Nat wd ol) (r1 : ∀ q ∈ rest, q.1 ≠ wd) (r2 : ∀ q ∈ rest, q.1 ≠ ol) :
    Ct prog w mean mg mb 439 13 ((wk, instObj 449 wd) :: (wd, od) :: (ol, listOf os.toArray c) :: rest) [.ref wk, .ref y] (fun r news' => r = .none ∧ ∃ od' os' is' c', news' = (wk, instObj 449 wd) :: (wd, od') :: (ol, listOf os'.toArray c') :: rest ∧ WalkD od' v t p ol ∧ IntsAre os' is' ∧ is'.length ≤ is.length) := by
  have hK : Kd ")" := by simp [Kd]
  refine SynIn.elim Y ?_; intro yd9 yn9 yh1 yh2 yh3 yt1 yt2 yt3 yt4 yt5 ymv ym1 ym2
  (refine WalkD.elim W ?_; intro whh wkk wbl wle wwh wwo wa1 wa2 wa3 wa4 wa5 wa6 weq hwo; clear W); subst weq
  rcases List.eq_nil_or_concat is with rfl | ⟨is0, x, rfl⟩
  · cases hI
    intro c00 A₀ base h₀ L m sHp sGn sDr sTk sOs Q E B F X N T hk hd hu hret
    cell_step
    all_goals (refine' hret _ _ _ _ ?e1 ?e2 ?e3; (case e1 => k_asm); (case e2 => exact cb_drop (by k_asm) (fun _ h9 => List.mem_cons_of_mem _ h9)); (case e3 => refine ⟨rfl, _, _, _, _, rfl, (WalkD.mk' ?wo), .nil, Nat.le_refl _⟩; ((case wo => first | assumption | exact .inl rfl | exact .inr ⟨_, _, rfl⟩))))
  · rw [List.concat_eq_append] at hI hlen ⊢
    have hne : decide (is0 ++ [x] = []) = false := by simp
    have hll := IntsAre.length hI
    have hl0 : 0 < os.length := by rw [hll, List.length_append, List.length_singleton]; omega
    have hz0 : os.length ≤ sizeLine := by rw [hll, sizeLine_eq]; omega
    have hdl : (is0 ++ [x]).dropLast.length ≤ (is0 ++ [x]).length := by simp
    intro c00 A₀ base h₀ L m sHp sGn sDr sTk sOs Q E B F X N T hk hd hu hret
    cell_step
    all_goals (refine' hret _ _ _ _ ?e1 ?e2 ?e3; (case e1 => k_asm); (case e2 => exact cb_drop (by k_asm) (fun _ h9 => List.mem_cons_of_mem _ h9)); (case e3 => refine ⟨rfl, _, _, _, _, rfl, (WalkD.mk' ?wo), by assumption, hdl⟩; ((case wo => first | assumption | exact .inl rfl | exact .inr ⟨_, _, rfl⟩))))
example : True := by
  k_with_none
  w_top off
  exact trivial
example : True := by
  k_with "mroom" => with_unfolding_all first | ((rename (_ + _ < recursionLimit) => hZq7); first | exact room_lt hZq7 0 rfl rfl | exact room_lt hZq7 1 rfl rfl | exact room_lt hZq7 2 rfl rfl | exact room_lt hZq7 3 rfl rfl | exact room_lt hZq7 4 rfl rfl | exact room_lt hZq7 5 rfl rfl | exact room_lt hZq7 6 rfl rfl | exact room_lt hZq7 7 rfl rfl | exact room_lt hZq7 8 rfl rfl | exact room_lt hZq7 9 rfl rfl | exact room_lt hZq7 10 rfl rfl | exact room_lt hZq7 11 rfl rfl | exact room_lt hZq7 12 rfl rfl | exact room_lt hZq7 13 rfl rfl | exact room_lt hZq7 14 rfl rfl | exact room_lt hZq7 15 rfl rfl) | exact lt_ble rfl | fail "mroom"
  exact trivial
example : True := by
  k_with "munits" => with_unfolding_all first | ((rename (_ + _ + _ < cLine) => hZq7); first | exact unit_lt2 hZq7 0 rfl rfl | exact unit_lt2 hZq7 3 rfl rfl | exact unit_lt2 hZq7 6 rfl rfl | exact unit_lt2 hZq7 9 rfl rfl | exact unit_lt2 hZq7 12 rfl rfl | exact unit_lt hZq7 0 rfl rfl | exact unit_lt hZq7 3 rfl rfl | exact unit_lt hZq7 6 rfl rfl | exact unit_lt hZq7 9 rfl rfl | exact unit_lt hZq7 12 rfl rfl) | exact lt_ble rfl | fail "munits"
  exact trivial
example : True := by
  k_with "mne" => (refine neN ?_; (try dsimp only); first | assumption | exact Ne.symm (by assumption) | exact Nat.ne_of_lt (by assumption) | exact Nat.ne_of_gt (by assumption) | fail "mne")
  exact trivial
/-- what a step does to the number of open brackets -/
def Grew (kd : String) (is is' : List Int) : Prop := if kd = "(" then is'.length = is.length + 1 else is'.length ≤ is.length
theorem by_kind {rest : List (Addr × Obj)} {wk wd ol v t y : Addr} {od : Obj} {os : List Value} {is : List Int} {c : Nat} {p : Int} {kd : String} (Y : SynIn rest y kd) (hK : Kd kd) (W : WalkD od v t p ol) (hI : IntsAre os is) (hlen : is.length < 2 ^ 20) (e1 : @Ne Nat wk wd) (e2 : @Ne Nat wk ol) (e3 : @Ne Nat wd ol) (r1 : ∀ q ∈ rest, q.1 ≠ wd) (r2 : ∀ q ∈ rest, q.1 ≠ ol) :
    Ct prog w mean mg mb 439 13 ((wk, instObj 449 wd) :: (wd, od) :: (ol, listOf os.toArray c) :: rest) [.ref wk, .ref y] (fun r news' => r = .none ∧ ∃ od' os' is' c', news' = (wk, instObj 449 wd) :: (wd, od') :: (ol, listOf os'.toArray c') :: rest ∧ WalkD od' v t p ol ∧ IntsAre os' is' ∧ Grew kd is is') := by
  have mono : ∀ {P P' : Value → List (Addr × Obj) → Prop}, Ct prog w mean mg mb 439 13 ((wk, instObj 449 wd) :: (wd, od) :: (ol, listOf os.toArray c) :: rest) [.ref wk, .ref y] P → (∀ r n, P r n → P' r n) → Ct prog w mean mg mb 439 13 ((wk, instObj 449 wd) :: (wd, od) :: (ol, listOf os.toArray c) :: rest) [.ref wk, .ref y] P' := by
    intro P P' C h c00 A₀ base h₀ L m sHp sGn sDr sTk sOs Q E B F X N T hk hd hu hret
    exact C _ _ _ _ _ _ _ _ _ _ _ _ _ B F X N T hk hd hu fun v n h' tk F' N' p => hret v n h' tk F' N' (h v n p)
  rcases hK with rfl | rfl | rfl | rfl | rfl
  · exact mono (by_kind_blank (.inl rfl) Y W hI e1 e2 e3 r1 r2) (by rintro r n ⟨a, od', os', is', c', b, c, d, e⟩; exact ⟨a, od', os', is', c', b, c, d, by unfold Grew; rw [if_neg (by decide)]; omega⟩)
  · exact mono (by_kind_blank (.inr rfl) Y W hI e1 e2 e3 r1 r2) (by rintro r n ⟨a, od', os', is', c', b, c, d, e⟩; exact ⟨a, od', os', is', c', b, c, d, by unfold Grew; rw [if_neg (by decide)]; omega⟩)
  · exact mono (by_kind_open Y W hI hlen e1 e2 e3 r1 r2) (by rintro r n ⟨a, od', os', is', c', b, c, d, e⟩; exact ⟨a, od', os', is', c', b, c, d, by unfold Grew; rw [if_pos rfl]; exact e⟩)
  · exact mono (by_kind_close Y W hI hlen e1 e2 e3 r1 r2) (by rintro r n ⟨a, od', os', is', c', b, c, d, e⟩; exact ⟨a, od', os', is', c', b, c, d, by unfold Grew; rw [if_neg (by decide)]; exact e⟩)
  · exact mono (by_kind_word Y W hI e1 e2 e3 r1 r2) (by rintro r n ⟨a, od', os', is', c', b, c, d, e⟩; exact ⟨a, od', os', is', c', b, c, d, by unfold Grew; rw [if_neg (by decide)]; omega⟩)
example : True := by
  k_with_none
  w_top off
  exact trivial
example : True := by
  k_with "mroom" => with_unfolding_all first | ((rename (_ + _ < recursionLimit) => hZq7); first | exact room_lt hZq7 0 rfl rfl | exact room_lt hZq7 1 rfl rfl | exact room_lt hZq7 2 rfl rfl | exact room_lt hZq7 3 rfl rfl | exact room_lt hZq7 4 rfl rfl | exact room_lt hZq7 5 rfl rfl | exact room_lt hZq7 6 rfl rfl | exact room_lt hZq7 7 rfl rfl | exact room_lt hZq7 8 rfl rfl | exact room_lt hZq7 9 rfl rfl | exact room_lt hZq7 10 rfl rfl | exact room_lt hZq7 11 rfl rfl | exact room_lt hZq7 12 rfl rfl | exact room_lt hZq7 13 rfl rfl | exact room_lt hZq7 14 rfl rfl | exact room_lt hZq7 15 rfl rfl) | exact lt_ble rfl | fail "mroom"
  exact trivial
example : True := by
  k_with "munits" => with_unfolding_all first | ((rename (_ + _ + _ < cLine) => hZq7); first | exact unit_lt2 hZq7 0 rfl rfl | exact unit_lt2 hZq7 3 rfl rfl | exact unit_lt2 hZq7 6 rfl rfl | exact unit_lt2 hZq7 9 rfl rfl | exact unit_lt2 hZq7 12 rfl rfl | exact unit_lt hZq7 0 rfl rfl | exact unit_lt hZq7 3 rfl rfl | exact unit_lt hZq7 6 rfl rfl | exact unit_lt hZq7 9 rfl rfl | exact unit_lt hZq7 12 rfl rfl) | exact lt_ble rfl | fail "munits"
  exact trivial
example : True := by
  k_with "mne" => (refine neN ?_; (try dsimp only); first | assumption | exact Ne.symm (by assumption) | exact Nat.ne_of_lt (by assumption) | exact Nat.ne_of_gt (by assumption) | fail "mne")
  exact trivial
example : True := by
  k_with "call ref" => (k_here; (with_reducible show wpAny _ _ (PySem.call (Value.ref 292) _) _ _ _); k_dflt (refine' Ct.use (begin_mark ?hV ?hT ?hal ?hin ?hp) ?kB ?kF ?kX ?kN ?kT ?kk ?kd ?ku ?_; (case kB => k_asm); (case kF => k_asm); (case kX => k_asm); (case kN => first | k_asm | exact news_tl (by k_asm) | exact news_tl (news_tl (by k_asm))); (case kT => k_asm); (case kk => first | exact rfl | assumption); (case hV => (first | assumption | (refine ViewIn.mono (by assumption) ?_; (intro p9 hp9; first | exact hp9 | exact .tail _ hp9 | exact .tail _ (.tail _ hp9) | exact .tail _ (.tail _ (.tail _ hp9)) | exact .tail _ (.tail _ (.tail _ (.tail _ hp9))) | exact .tail _ (.tail _ (.tail _ (.tail _ (.tail _ hp9)))) | exact .tail _ (.tail _ (.tail _ (.tail _ (.tail _ (.tail _ hp9))))) | exact .tail _ (.tail _ (.tail _ (.tail _ (.tail _ (.tail _ (.tail _ hp9)))))))))); (case hT => (first | assumption | (refine TabIn.mono (by assumption) ?_; (intro p9 hp9; first | exact hp9 | exact .tail _ hp9 | exact .tail _ (.tail _ hp9) | exact .tail _ (.tail _ (.tail _ hp9)) | exact .tail _ (.tail _ (.tail _ (.tail _ hp9))) | exact .tail _ (.tail _ (.tail _ (.tail _ (.tail _ hp9)))) | exact .tail _ (.tail _ (.tail _ (.tail _ (.tail _ (.tail _ hp9))))) | exact .tail _ (.tail _ (.tail _ (.tail _ (.tail _ (.tail _ (.tail _ hp9)))))))))); (case hal => assumption); (case hin => (first | assumption | (constructor <;> omega))); (case hp => (first | assumption | (constructor <;> omega))); (case kd => ktr_room); (case ku => ktr_units); k_whole); intro v9 n9 h9 tk9 F9 N9 p9; obtain ⟨e9, p9⟩ := p9; (have e9 := e9.symm); subst e9; subst p9; (try dsimp only); (try k_sweep))
  exact trivial
example : True := by
  k_with "call ref" => (k_here; (with_reducible show wpAny _ _ (PySem.call (Value.ref 278) _) _ _ _); k_dflt (refine' Ct.use (syntax_at_in ?hV ?hT ?hb ?hal ?hin ?hp) ?kB ?kF ?kX ?kN ?kT ?kk ?kd ?ku ?_; (case kB => k_asm); (case kF => k_asm); (case kX => k_asm); (case kN => first | k_asm | exact news_tl (by k_asm) | exact news_tl (news_tl (by k_asm))); (case kT => k_asm); (case kk => first | exact rfl | assumption); (case hV => assumption); (case hT => assumption); (case hb => first | assumption | exact fun _ h9 => h9 | ((intro p9 hp9; first | exact hp9 | exact .tail _ hp9 | exact .tail _ (.tail _ hp9) | exact .tail _ (.tail _ (.tail _ hp9)) | exact .tail _ (.tail _ (.tail _ (.tail _ hp9))) | exact .tail _ (.tail _ (.tail _ (.tail _ (.tail _ hp9)))) | exact .tail _ (.tail _ (.tail _ (.tail _ (.tail _ (.tail _ hp9))))) | exact .tail _ (.tail _ (.tail _ (.tail _ (.tail _ (.tail _ (.tail _ hp9))))))))); (case hal => assumption); (case hin => (first | assumption | (constructor <;> omega))); (case hp => (first | assumption | (constructor <;> omega))); (case kd => ktr_room); (case ku => ktr_units); k_whole); intro v9 n9 h9 tk9 F9 N9 p9; refine goal_gen ?_; intro GG9 kGG9; obtain ⟨e9, y9, p9, hY9⟩ := p9; refine kGG9 ?_; clear kGG9 GG9; (have e9 := e9.symm); subst e9; subst p9; (have hZ9 := hY9.mono (by first | assumption | exact fun _ h9 => h9 | ((intro p9 hp9; first | exact hp9 | exact .tail _ hp9 | exact .tail _ (.tail _ hp9) | exact .tail _ (.tail _ (.tail _ hp9)) | exact .tail _ (.tail _ (.tail _ (.tail _ hp9))) | exact .tail _ (.tail _ (.tail _ (.tail _ (.tail _ hp9)))) | exact .tail _ (.tail _ (.tail _ (.tail _ (.tail _ (.tail _ hp9))))) | exact .tail _ (.tail _ (.tail _ (.tail _ (.tail _ (.tail _ (.tail _ hp9)))))))))); (unfold SynIn at hZ9); (obtain ⟨yd9, yn9, yh1, yh2, yh3, yt1, yt2, yt3, yt4, yt5, ymv, ym1, ym2⟩ := hZ9); (try dsimp only); (try k_sweep))
  exact trivial
example : True := by
  k_with "call ref" => (k_here; (with_reducible show wpAny _ _ (PySem.call (Value.ref 120) _) _ _ _); k_dflt (refine' Ct.use (syn_has ?hY ?hf) ?kB ?kF ?kX ?kN ?kT ?kk ?kd ?ku ?_; (case kB => k_asm); (case kF => k_asm); (case kX => k_asm); (case kN => first | k_asm | exact news_tl (by k_asm) | exact news_tl (news_tl (by k_asm))); (case kT => k_asm); (case kk => first | exact rfl | assumption); (case hY => (first | assumption | (refine SynIn.mono (by assumption) ?_; (intro p9 hp9; first | exact hp9 | exact .tail _ hp9 | exact .tail _ (.tail _ hp9) | exact .tail _ (.tail _ (.tail _ hp9)) | exact .tail _ (.tail _ (.tail _ (.tail _ hp9))) | exact .tail _ (.tail _ (.tail _ (.tail _ (.tail _ hp9)))) | exact .tail _ (.tail _ (.tail _ (.tail _ (.tail _ (.tail _ hp9))))) | exact .tail _ (.tail _ (.tail _ (.tail _ (.tail _ (.tail _ (.tail _ hp9)))))))))); (case hf => decide +kernel); (case kd => ktr_room); (case ku => ktr_units); k_whole); intro v9 n9 h9 tk9 F9 N9 p9; obtain ⟨e9, p9⟩ := p9; (have e9 := e9.symm); subst e9; subst p9; (try dsimp only); (try k_sweep))
  exact trivial
example : True := by
  k_with "call ref" => (k_here; (with_reducible show wpAny _ _ (PySem.call (Value.ref 439) _) _ _ _); k_dflt (refine' Ct.use (by_kind ?hY ?hK ?hW ?hI ?hl ?q1 ?q2 ?q3 ?q4 ?q5) ?kB ?kF ?kX ?kN ?kT ?kk ?kd ?ku ?_; (case kB => k_asm); (case kF => k_asm); (case kX => k_asm); (case kN => first | k_asm | exact news_tl (by k_asm) | exact news_tl (news_tl (by k_asm))); (case kT => k_asm); (case kk => first | exact rfl | assumption); (case hY => assumption); (case hK => exact kd_of _); (case hW => exact WalkD.mk' (by first | assumption | exact .inl rfl | exact .inr ⟨_, _, rfl⟩)); (case hI => assumption); (case hl => assumption); (case q1 => (first | assumption | omega)); (case q2 => (first | assumption | omega)); (case q3 => (first | assumption | omega)); (case q4 => assumption); (case q5 => assumption); (case kd => ktr_room); (case ku => ktr_units); k_whole); intro v9 n9 h9 tk9 F9 N9 p9; refine goal_gen ?_; intro GG9 kGG9; obtain ⟨p8, od9, os9, is9, c9, e9, W9, hI9, hG9⟩ := p9; refine kGG9 ?_; clear kGG9 GG9; subst p8; subst e9; (refine WalkD.elim W9 ?_; intro whh wkk wbl wle wwh wwo wa1 wa2 wa3 wa4 wa5 wa6 weq hwo; clear W9); subst weq; (try dsimp only); (try k_sweep))
  exact trivial
theorem step_plain {rest : List (Addr × Obj)} {wk wd ol v t : Addr} {od : Obj} {os : List Value} {is : List Int} {c : Nat} {p : Int}{ns : List Int} (V : ViewIn rest v ns) (Tb : TabIn prog w rest t) (hal : ∀ x ∈ ns, Alpha x) (hin : 1 ≤ p ∧ p < 1 + ns.length) (hp : -(2^62) < p ∧ p < 2 ^ 61) {tlim : Tok} {lim : Int} (W : WalkD od v t p ol) (hI : IntsAre os is) (hlen : is.length < 2 ^ 20) (e1 : @Ne Nat wk wd) (e2 : @Ne Nat wk ol) (e3 : @Ne Nat wd ol) (r1 : ∀ q ∈ rest, q.1 ≠ wd) (r2 : ∀ q ∈ rest, q.1 ≠ ol) :
    Ct prog w mean mg mb 432 14 ((wk, instObj 449 wd) :: (wd, od) :: (ol, listOf os.toArray c) :: rest) [.ref wk, .int lim tlim] (fun r news' => r = .none ∧ ∃ od' os' is' c', news' = (wk, instObj 449 wd) :: (wd, od') :: (ol, listOf os'.toArray c') :: rest ∧ WalkD od' v t (p + 1) ol ∧ IntsAre os' is' ∧ Grew (kindOf (codeAt ns p)) is is') := by
  refine ViewIn.elim V ?_; intro vd vl vvs vc vn vh1 vh2 vt1 vt2 vt3 vm1 vm2 vx3 vx4 vx5; clear vx3 vx4 vx5
  refine TabIn.elim Tb ?_; intro td tr tt2 ttd2 tr2 tn tn2 th1 th2 th3 th4 tk1 tk2 tk3 tk4 to to2 tkvs tkvs2 tm1 tm2 tx3 tx4 tx5 tx6 tx7 tx8 tx9 txa txb txc; clear tx3 tx4 tx5 tx6 tx7 tx8 tx9 txa txb txc
  (refine WalkD.elim W ?_; intro whh wkk wbl wle wwh wwo wa1 wa2 wa3 wa4 wa5 wa6 weq hwo; clear W); subst weq
  intro c00 A₀ base h₀ L m sHp sGn sDr sTk sOs Q E B F X N T hk hd hu hret
  cell_step
  all_goals (refine' hret _ _ _ _ ?e1 ?e2 ?e3; (case e1 => k_asm); (case e2 => first | k_asm | (refine cb_drop (by k_asm) ?_; (intro p9 hp9; first | exact hp9 | exact .tail _ hp9 | exact .tail _ (.tail _ hp9) | exact .tail _ (.tail _ (.tail _ hp9)) | exact .tail _ (.tail _ (.tail _ (.tail _ hp9))) | exact .tail _ (.tail _ (.tail _ (.tail _ (.tail _ hp9)))) | exact .tail _ (.tail _ (.tail _ (.tail _ (.tail _ (.tail _ hp9))))) | exact .tail _ (.tail _ (.tail _ (.tail _ (.tail _ (.tail _ (.tail _ hp9))))))))); (case e3 => refine ⟨rfl, _, _, _, _, rfl, (WalkD.mk' ?wo), by assumption, by assumption⟩; ((case wo => first | assumption | exact .inl rfl | exact .inr ⟨_, _, rfl⟩))))
example : True := by
  k_with_none
  w_top off
  exact trivial
example : True := by
  k_with "mroom" => with_unfolding_all first | ((rename (_ + _ < recursionLimit) => hZq7); first | exact room_lt hZq7 0 rfl rfl | exact room_lt hZq7 1 rfl rfl | exact room_lt hZq7 2 rfl rfl | exact room_lt hZq7 3 rfl rfl | exact room_lt hZq7 4 rfl rfl | exact room_lt hZq7 5 rfl rfl | exact room_lt hZq7 6 rfl rfl | exact room_lt hZq7 7 rfl rfl | exact room_lt hZq7 8 rfl rfl | exact room_lt hZq7 9 rfl rfl | exact room_lt hZq7 10 rfl rfl | exact room_lt hZq7 11 rfl rfl | exact room_lt hZq7 12 rfl rfl | exact room_lt hZq7 13 rfl rfl | exact room_lt hZq7 14 rfl rfl | exact room_lt hZq7 15 rfl rfl) | exact lt_ble rfl | fail "mroom"
  exact trivial
example : True := by
  k_with "munits" => with_unfolding_all first | ((rename (_ + _ + _ < cLine) => hZq7); first | exact unit_lt2 hZq7 0 rfl rfl | exact unit_lt2 hZq7 3 rfl rfl | exact unit_lt2 hZq7 6 rfl rfl | exact unit_lt2 hZq7 9 rfl rfl | exact unit_lt2 hZq7 12 rfl rfl | exact unit_lt hZq7 0 rfl rfl | exact unit_lt hZq7 3 rfl rfl | exact unit_lt hZq7 6 rfl rfl | exact unit_lt hZq7 9 rfl rfl | exact unit_lt hZq7 12 rfl rfl) | exact lt_ble rfl | fail "munits"
  exact trivial
example : True := by
  k_with "mne" => (refine neN ?_; (try dsimp only); first | assumption | exact Ne.symm (by assumption) | exact Nat.ne_of_lt (by assumption) | exact Nat.ne_of_gt (by assumption) | fail "mne")
  exact trivial
example : True := by
  k_with "call ref" => (k_here; (with_reducible show wpAny _ _ (PySem.call (Value.ref 432) _) _ _ _); k_dflt (refine' Ct.use (step_plain ?V ?Tb ?hal ?hin ?hp ?hW ?hI ?hl ?q1 ?q2 ?q3 ?q4 ?q5) ?kB ?kF ?kX ?kN ?kT ?kk ?kd ?ku ?_; (case kB => k_asm); (case kF => k_asm); (case kX => k_asm); (case kN => first | k_asm | exact news_tl (by k_asm) | exact news_tl (news_tl (by k_asm))); (case kT => k_asm); (case kk => first | exact rfl | assumption); (case V => (first | assumption | (refine ViewIn.mono (by assumption) ?_; (intro p9 hp9; first | exact hp9 | exact .tail _ hp9 | exact .tail _ (.tail _ hp9) | exact .tail _ (.tail _ (.tail _ hp9)) | exact .tail _ (.tail _ (.tail _ (.tail _ hp9))) | exact .tail _ (.tail _ (.tail _ (.tail _ (.tail _ hp9)))) | exact .tail _ (.tail _ (.tail _ (.tail _ (.tail _ (.tail _ hp9))))) | exact .tail _ (.tail _ (.tail _ (.tail _ (.tail _ (.tail _ (.tail _ hp9)))))))))); (case Tb => (first | assumption | (refine TabIn.mono (by assumption) ?_; (intro p9 hp9; first | exact hp9 | exact .tail _ hp9 | exact .tail _ (.tail _ hp9) | exact .tail _ (.tail _ (.tail _ hp9)) | exact .tail _ (.tail _ (.tail _ (.tail _ hp9))) | exact .tail _ (.tail _ (.tail _ (.tail _ (.tail _ hp9)))) | exact .tail _ (.tail _ (.tail _ (.tail _ (.tail _ (.tail _ hp9))))) | exact .tail _ (.tail _ (.tail _ (.tail _ (.tail _ (.tail _ (.tail _ hp9)))))))))); (case hal => assumption); (case hin => (first | assumption | (constructor <;> omega))); (case hp => (first | assumption | (constructor <;> omega))); (case hW => exact WalkD.mk' (by first | assumption | exact .inl rfl | exact .inr ⟨_, _, rfl⟩)); (case hI => assumption); (case hl => assumption); (case q1 => (first | assumption | omega)); (case q2 => (first | assumption | omega)); (case q3 => (first | assumption | omega)); (case q4 => assumption); (case q5 => assumption); (case kd => ktr_room); (case ku => ktr_units); k_whole); intro v9 n9 h9 tk9 F9 N9 p9; refine goal_gen ?_; intro GG9 kGG9; obtain ⟨p8, od9, os9, is9, c9, e9, W9, hI9, hG9⟩ := p9; refine kGG9 ?_; clear kGG9 GG9; subst p8; subst e9; (refine WalkD.elim W9 ?_; intro whh wkk wbl wle wwh wwo wa1 wa2 wa3 wa4 wa5 wa6 weq hwo; clear W9); subst weq; (try dsimp only); (try k_sweep))
  exact trivial
theorem step_whole {rest : List (Addr × Obj)} {wk wd ol v t : Addr} {od : Obj} {os : List Value} {is : List Int} {c : Nat} {p : Int}{ns : List Int} (V : ViewIn rest v ns) (Tb : TabIn prog w rest t) (hal : ∀ x ∈ ns, Alpha x) (hin : 1 ≤ p ∧ p < 1 + ns.length) (hp : -(2^62) < p ∧ p < 2 ^ 61) {tlim : Tok} {lim : Int} (W : WalkD od v t p ol) (hI : IntsAre os is) (hlen : is.length < 2 ^ 20) (e1 : @Ne Nat wk wd) (e2 : @Ne Nat wk ol) (e3 : @Ne Nat wd ol) (r1 : ∀ q ∈ rest, q.1 ≠ wd) (r2 : ∀ q ∈ rest, q.1 ≠ ol) :
    Ct prog w mean mg mb 446 15 ((wk, instObj 449 wd) :: (wd, od) :: (ol, listOf os.toArray c) :: rest) [.ref wk, .int lim tlim] (fun r news' => r = .none ∧ ∃ od' os' is' c', news' = (wk, instObj 449 wd) :: (wd, od') :: (ol, listOf os'.toArray c') :: rest ∧ WalkD od' v t (p + 1) ol ∧ IntsAre os' is' ∧ Grew (kindOf (codeAt ns p)) is is') := by
  refine ViewIn.elim V ?_; intro vd vl vvs vc vn vh1 vh2 vt1 vt2 vt3 vm1 vm2 vx3 vx4 vx5; clear vx3 vx4 vx5
  refine TabIn.elim Tb ?_; intro td tr tt2 ttd2 tr2 tn tn2 th1 th2 th3 th4 tk1 tk2 tk3 tk4 to to2 tkvs tkvs2 tm1 tm2 tx3 tx4 tx5 tx6 tx7 tx8 tx9 txa txb txc; clear tx3 tx4 tx5 tx6 tx7 tx8 tx9 txa txb txc
  (refine WalkD.elim W ?_; intro whh wkk wbl wle wwh wwo wa1 wa2 wa3 wa4 wa5 wa6 weq hwo; clear W); subst weq
  intro c00 A₀ base h₀ L m sHp sGn sDr sTk sOs Q E B F X N T hk hd hu hret
  cell_step
  all_goals (refine' hret _ _ _ _ ?e1 ?e2 ?e3; (case e1 => k_asm); (case e2 => first | k_asm | (refine cb_drop (by k_asm) ?_; (intro p9 hp9; first | exact hp9 | exact .tail _ hp9 | exact .tail _ (.tail _ hp9) | exact .tail _ (.tail _ (.tail _ hp9)) | exact .tail _ (.tail _ (.tail _ (.tail _ hp9))) | exact .tail _ (.tail _ (.tail _ (.tail _ (.tail _ hp9)))) | exact .tail _ (.tail _ (.tail _ (.tail _ (.tail _ (.tail _ hp9))))) | exact .tail _ (.tail _ (.tail _ (.tail _ (.tail _ (.tail _ (.tail _ hp9))))))))); (case e3 => refine ⟨rfl, _, _, _, _, rfl, (WalkD.mk' ?wo), by assumption, by assumption⟩; ((case wo => first | assumption | exact .inl rfl | exact .inr ⟨_, _, rfl⟩))))
example : True := by
  k_with_none
  w_top off
  exact trivial
example : True := by
  k_with "mroom" => with_unfolding_all first | ((rename (_ + _ < recursionLimit) => hZq7); first | exact room_lt hZq7 0 rfl rfl | exact room_lt hZq7 1 rfl rfl | exact room_lt hZq7 2 rfl rfl | exact room_lt hZq7 3 rfl rfl | exact room_lt hZq7 4 rfl rfl | exact room_lt hZq7 5 rfl rfl | exact room_lt hZq7 6 rfl rfl | exact room_lt hZq7 7 rfl rfl | exact room_lt hZq7 8 rfl rfl | exact room_lt hZq7 9 rfl rfl | exact room_lt hZq7 10 rfl rfl | exact room_lt hZq7 11 rfl rfl | exact room_lt hZq7 12 rfl rfl | exact room_lt hZq7 13 rfl rfl | exact room_lt hZq7 14 rfl rfl | exact room_lt hZq7 15 rfl rfl) | exact lt_ble rfl | fail "mroom"
  exact trivial
example : True := by
  k_with "munits" => with_unfolding_all first | ((rename (_ + _ + _ < cLine) => hZq7); first | exact unit_lt2 hZq7 0 rfl rfl | exact unit_lt2 hZq7 3 rfl rfl | exact unit_lt2 hZq7 6 rfl rfl | exact unit_lt2 hZq7 9 rfl rfl | exact unit_lt2 hZq7 12 rfl rfl | exact unit_lt hZq7 0 rfl rfl | exact unit_lt hZq7 3 rfl rfl | exact unit_lt hZq7 6 rfl rfl | exact unit_lt hZq7 9 rfl rfl | exact unit_lt hZq7 12 rfl rfl) | exact lt_ble rfl | fail "munits"
  exact trivial
example : True := by
  k_with "mne" => (refine neN ?_; (try dsimp only); first | assumption | exact Ne.symm (by assumption) | exact Nat.ne_of_lt (by assumption) | exact Nat.ne_of_gt (by assumption) | fail "mne")
  exact trivial
section
variable {A : Around} {E : Value → Shared → Prop} {Q : Flow → Shared → Prop} {s : Shared} {env : Env} {h₀ : Heap} {L : Addr}
/-- a turn's end: the ledger and the word hold of a smaller state -/
def SEnd0 {σ : Type} (h₀ : Heap) (L : Addr) (s : Shared) (stored : List Str) (m₀ : Str → Option Value) (size : σ → Nat) (led : σ → List (Addr × Obj)) (I : σ → Prop) (d : σ) (s₂ : Shared) : Prop :=
  ∃ h' tk m' d', s₂ = { s with heap := h', toks := tk } ∧ Fr h₀ L h' m' ∧ News h₀ L h' (led d') ∧ I d' ∧ size d' < size d ∧ ∀ x, stored.contains x = false → m' x = m₀ x
def SEnd1 {σ : Type} (h₀ : Heap) (L : Addr) (s : Shared) (z : Str) (stored : List Str) (m₀ : Str → Option Value) (size : σ → Nat) (led : σ → List (Addr × Obj)) (val : σ → Int) (I : σ → Prop) (d : σ) (s₂ : Shared) : Prop :=
  ∃ h' tk m' d' ta, s₂ = { s with heap := h', toks := tk } ∧ Fr h₀ L h' m' ∧ News h₀ L h' (led d') ∧ m' z = some (.int (val d') ta) ∧ I d' ∧ size d' < size d ∧ ∀ x, x ≠ z → stored.contains x = false → m' x = m₀ x
def SPost (Q : Flow → Shared → Prop) (End : Shared → Prop) (f : Flow) (s₂ : Shared) : Prop :=
  match f with
  | .ret v => Q (.ret v) s₂
  | .brk => Q .next s₂
  | _ => End s₂
theorem SEnd0.intro {σ : Type} {stored : List Str} {m₀ m' : Str → Option Value} {size : σ → Nat} {led : σ → List (Addr × Obj)} {I : σ → Prop} {d d' : σ} {h' : Heap} {tk : Nat}
    (F : Fr h₀ L h' m') (N : News h₀ L h' (led d')) (hI : I d') (hs : size d' < size d) (hm : ∀ x, stored.contains x = false → m' x = m₀ x) : SEnd0 h₀ L s stored m₀ size led I d { s with heap := h', toks := tk } :=
  ⟨h', tk, m', d', rfl, F, N, hI, hs, hm⟩
theorem SEnd1.intro {σ : Type} {z : Str} {stored : List Str} {m₀ m' : Str → Option Value} {size : σ → Nat} {led : σ → List (Addr × Obj)} {val : σ → Int} {I : σ → Prop} {d d' : σ} {h' : Heap} {tk : Nat} {ta : Tok}
    (F : Fr h₀ L h' m') (N : News h₀ L h' (led d')) (hz : m' z = some (.int (val d') ta)) (hI : I d') (hs : size d' < size d) (hm : ∀ x, x ≠ z → stored.contains x = false → m' x = m₀ x) : SEnd1 h₀ L s z stored m₀ size led val I d { s with heap := h', toks := tk } :=
  ⟨h', tk, m', d', ta, rfl, F, N, hz, hI, hs, hm⟩
theorem whS0 {σ : Type} {test : Expr} {body : List Stmt} {pos : Pos} {m₀ : Str → Option Value} {news : List (Addr × Obj)} (stored : List Str) (size : σ → Nat) (led : σ → List (Addr × Obj)) (I : σ → Prop) (d₀ : σ)
    (F : Fr h₀ L s.heap m₀) (N : News h₀ L s.heap news) (hn : ∀ p ∈ led d₀, p ∈ news) (hi : I d₀)
    (turn : ∀ d (u : Str → Option Value) h tk, I d → Fr h₀ L h (fun x => if stored.contains x then u x else m₀ x) → News h₀ L h (led d) →
      wpAny (model prog w) A (isTrue test env (eval test env)) (fun b s₂ =>
        if b = true then wpAny (model prog w) A (execs body env) (SPost Q (SEnd0 h₀ L s stored m₀ size led I d)) E s₂ else Q .next s₂) E { s with heap := h, toks := tk })
    (hE : PassesOwn (model prog w) A env E := by passes_own) :
    wpAny (model prog w) A (exec (.While test body [] pos) env) Q E s := by
  refine While_inv2 (fun n m nx => ∃ d, nx = led d ∧ size d = n ∧ I d ∧ ∀ x, stored.contains x = false → m x = m₀ x) F (fun p hp => N p (hn p hp)) ⟨d₀, rfl, rfl, hi, fun _ _ => rfl⟩ ?_ hE
  rintro n m₁ nx h tk F₁ N₁ ⟨d, rfl, rfl, hI, hm⟩
  have e : (fun x => if stored.contains x then m₁ x else m₀ x) = m₁ := by
    funext x
    cases h9 : stored.contains x with
    | true => simp
    | false => simp only [Bool.false_eq_true, if_false]; exact (hm x h9).symm
  refine wpAny_mono (turn d m₁ h tk hI (by rw [e]; exact F₁) N₁) (fun b s₂ p => ?_) fun _ _ x => x
  cases b with
  | false => simpa using p
  | true =>
    simp only [if_true] at p ⊢
    refine wpAny_mono p (fun f s₃ q => ?_) fun _ _ x => x
    cases f with
    | ret v => exact q
    | brk => exact q
    | next => obtain ⟨h', tk', m', d', rfl, F', N', hI', hs, hm'⟩ := q; exact ⟨h', tk', m', _, size d', rfl, F', N', hs, d', rfl, rfl, hI', hm'⟩
    | cont => obtain ⟨h', tk', m', d', rfl, F', N', hI', hs, hm'⟩ := q; exact ⟨h', tk', m', _, size d', rfl, F', N', hs, d', rfl, rfl, hI', hm'⟩
theorem whS1 {σ : Type} {test : Expr} {body : List Stmt} {pos : Pos} {m₀ : Str → Option Value} {news : List (Addr × Obj)} {t₀ : Tok} (z : Str) (stored : List Str) (size : σ → Nat) (led : σ → List (Addr × Obj)) (val : σ → Int) (I : σ → Prop) (d₀ : σ)
    (F : Fr h₀ L s.heap m₀) (N : News h₀ L s.heap news) (hz : m₀ z = some (.int (val d₀) t₀)) (hn : ∀ p ∈ led d₀, p ∈ news) (hi : I d₀)
    (turn : ∀ d ta (u : Str → Option Value) h tk, I d → Fr h₀ L h (fun x => if x = z then some (.int (val d) ta) else if stored.contains x then u x else m₀ x) → News h₀ L h (led d) →
      wpAny (model prog w) A (isTrue test env (eval test env)) (fun b s₂ =>
        if b = true then wpAny (model prog w) A (execs body env) (SPost Q (SEnd1 h₀ L s z stored m₀ size led val I d)) E s₂ else Q .next s₂) E { s with heap := h, toks := tk })
    (hE : PassesOwn (model prog w) A env E := by passes_own) :
    wpAny (model prog w) A (exec (.While test body [] pos) env) Q E s := by
  refine While_inv2 (fun n m nx => ∃ d ta, nx = led d ∧ size d = n ∧ I d ∧ m z = some (.int (val d) ta) ∧ ∀ x, x ≠ z → stored.contains x = false → m x = m₀ x) F (fun p hp => N p (hn p hp)) ⟨d₀, t₀, rfl, rfl, hi, hz, fun _ _ _ => rfl⟩ ?_ hE
  rintro n m₁ nx h tk F₁ N₁ ⟨d, ta, rfl, rfl, hI, hv, hm⟩
  have e : (fun x => if x = z then some (Value.int (val d) ta) else if stored.contains x then m₁ x else m₀ x) = m₁ := by
    funext x
    by_cases h1 : x = z
    · subst h1; simp [hv]
    · simp only [if_neg h1]
      cases h9 : stored.contains x with
      | true => simp
      | false => simp only [Bool.false_eq_true, if_false]; exact (hm x h1 h9).symm
  refine wpAny_mono (turn d ta m₁ h tk hI (by rw [e]; exact F₁) N₁) (fun b s₂ p => ?_) fun _ _ x => x
  cases b with
  | false => simpa using p
  | true =>
    simp only [if_true] at p ⊢
    refine wpAny_mono p (fun f s₃ q => ?_) fun _ _ x => x
    cases f with
    | ret v => exact q
    | brk => exact q
    | next => obtain ⟨h', tk', m', d', ta', rfl, F', N', hv', hI', hs, hm'⟩ := q; exact ⟨h', tk', m', _, size d', rfl, F', N', hs, d', ta', rfl, rfl, hI', hv', hm'⟩
    | cont => obtain ⟨h', tk', m', d', ta', rfl, F', N', hv', hI', hs, hm'⟩ := q; exact ⟨h', tk', m', _, size d', rfl, F', N', hs, d', ta', rfl, rfl, hI', hv', hm'⟩
end
example : True := by
  k_with_none
  w_top off
  exact trivial
example : True := by
  k_with "mroom" => with_unfolding_all first | ((rename (_ + _ < recursionLimit) => hZq7); first | exact room_lt hZq7 0 rfl rfl | exact room_lt hZq7 1 rfl rfl | exact room_lt hZq7 2 rfl rfl | exact room_lt hZq7 3 rfl rfl | exact room_lt hZq7 4 rfl rfl | exact room_lt hZq7 5 rfl rfl | exact room_lt hZq7 6 rfl rfl | exact room_lt hZq7 7 rfl rfl | exact room_lt hZq7 8 rfl rfl | exact room_lt hZq7 9 rfl rfl | exact room_lt hZq7 10 rfl rfl | exact room_lt hZq7 11 rfl rfl | exact room_lt hZq7 12 rfl rfl | exact room_lt hZq7 13 rfl rfl | exact room_lt hZq7 14 rfl rfl | exact room_lt hZq7 15 rfl rfl) | exact lt_ble rfl | fail "mroom"
  exact trivial
example : True := by
  k_with "munits" => with_unfolding_all first | ((rename (_ + _ + _ < cLine) => hZq7); first | exact unit_lt2 hZq7 0 rfl rfl | exact unit_lt2 hZq7 3 rfl rfl | exact unit_lt2 hZq7 6 rfl rfl | exact unit_lt2 hZq7 9 rfl rfl | exact unit_lt2 hZq7 12 rfl rfl | exact unit_lt hZq7 0 rfl rfl | exact unit_lt hZq7 3 rfl rfl | exact unit_lt hZq7 6 rfl rfl | exact unit_lt hZq7 9 rfl rfl | exact unit_lt hZq7 12 rfl rfl) | exact lt_ble rfl | fail "munits"
  exact trivial
example : True := by
  k_with "mne" => (refine neN ?_; (try dsimp only); first | assumption | exact Ne.symm (by assumption) | exact Nat.ne_of_lt (by assumption) | exact Nat.ne_of_gt (by assumption) | fail "mne")
  exact trivial
example : True := by
  k_with "call ref" => (k_here; (with_reducible show wpAny _ _ (PySem.call (Value.ref 655) _) _ _ _); k_dflt (refine' Ct.use (code_at ?hV ?hp) ?kB ?kF ?kX ?kN ?kT ?kk ?kd ?ku ?_; (case kB => k_asm); (case kF => k_asm); (case kX => k_asm); (case kN => first | k_asm | exact news_tl (by k_asm) | exact news_tl (news_tl (by k_asm))); (case kT => k_asm); (case kk => first | exact rfl | assumption); (case hV => (first | assumption | (refine ViewIn.mono (by assumption) ?_; (intro p9 hp9; first | exact hp9 | exact .tail _ hp9 | exact .tail _ (.tail _ hp9) | exact .tail _ (.tail _ (.tail _ hp9)) | exact .tail _ (.tail _ (.tail _ (.tail _ hp9))) | exact .tail _ (.tail _ (.tail _ (.tail _ (.tail _ hp9)))) | exact .tail _ (.tail _ (.tail _ (.tail _ (.tail _ (.tail _ hp9))))) | exact .tail _ (.tail _ (.tail _ (.tail _ (.tail _ (.tail _ (.tail _ hp9)))))))))); (case hp => (first | assumption | (constructor <;> omega))); (case kd => ktr_room); (case ku => ktr_units); k_whole); intro v9 n9 h9 tk9 F9 N9 p9; obtain ⟨e9, t9, p9⟩ := p9; (have e9 := e9.symm); subst e9; subst p9; (try dsimp only); (try k_sweep))
  exact trivial
example : True := by
  k_with "exec While Compare cons nil" => (k_here; (rename Fr _ _ _ _ => lF'); (rename News _ _ _ _ => lN'); (with_unfolding_all (refine' whS1 (Str.ofString "at") [] (fun a : Int => (2 + ns.length - a).toNat) (fun _ => news) (fun a => a) (fun a => p ≤ a ∧ a ≤ 1 + ns.length ∧ ∀ j, p ≤ j → j < a → codeAt ns j = 9 ∨ codeAt ns j = 32) p lF' lN' (by rfl) ?ln ?li ?lt)); (case ln => k_sub); (case li => (exact ⟨Int.le_refl _, by omega, fun j h1 h2 => absurd h1 (by omega)⟩)); (case' lt => (intro d' ta' u' h' tk' hI' F' N'; clear lF' lN'; (try dsimp only at hI' F' N'); (try k_fold))))
  exact trivial
example : True := by
  k_with "SEnd1" => (refine SEnd1.intro (d' := d' + 1) (by assumption) (by (first | k_asm | (refine cb_drop (by k_asm) ?_; (intro p9 hp9; first | exact hp9 | exact .tail _ hp9 | exact .tail _ (.tail _ hp9) | exact .tail _ (.tail _ (.tail _ hp9)) | exact .tail _ (.tail _ (.tail _ (.tail _ hp9))) | exact .tail _ (.tail _ (.tail _ (.tail _ (.tail _ hp9)))) | exact .tail _ (.tail _ (.tail _ (.tail _ (.tail _ (.tail _ hp9))))) | exact .tail _ (.tail _ (.tail _ (.tail _ (.tail _ (.tail _ (.tail _ hp9)))))))) | (refine cb_drop (by k_asm) ?_; k_sub))) (by with_unfolding_all rfl) (by exact (lb_next hI' (by assumption)).1) (by exact (lb_next hI' (by assumption)).2) (by (intro z h1 h3; first | (simp [h1]; done) | (simp only [List.contains_cons, List.contains_nil, Bool.or_false, Bool.or_eq_false_iff, beq_eq_false_iff_ne, ne_eq] at h3; simp [h1, h3]; done))))
  exact trivial
example : True := by
  k_with "SPost" => (dsimp only [SPost])
  exact trivial
theorem lb_code {ns : List Int} {d : Int} : (([9, 32].any fun x => x == codeAt ns d) = true) ↔ (codeAt ns d = 9 ∨ codeAt ns d = 32) := by
  simp only [List.any_cons, List.any_nil, Bool.or_false, Bool.or_eq_true, beq_iff_eq]
  constructor <;> (rintro (h | h) <;> simp [← h])
theorem lb_next {ns : List Int} {p d : Int} (hI : p ≤ d ∧ d ≤ 1 + ns.length ∧ ∀ j, p ≤ j → j < d → codeAt ns j = 9 ∨ codeAt ns j = 32) (h : ([9, 32].any fun x => x == codeAt ns d) = true) :
    (p ≤ d + 1 ∧ d + 1 ≤ 1 + ns.length ∧ ∀ j, p ≤ j → j < d + 1 → codeAt ns j = 9 ∨ codeAt ns j = 32) ∧ (2 + (ns.length : Int) - (d + 1)).toNat < (2 + (ns.length : Int) - d).toNat := by
  rw [lb_code] at h
  obtain ⟨h1, h2, h3⟩ := hI
  have hlt : d < 1 + ns.length := by
    by_cases q : 1 ≤ d ∧ d < 1 + ns.length
    · exact q.2
    · rw [codeAt_out q] at h; omega
  refine ⟨⟨by omega, by omega, fun j j1 j2 => ?_⟩, by omega⟩
  by_cases e : j = d
  · rw [e]; exact h
  · exact h3 j j1 (by omega)
theorem lb_end {ns : List Int} {p d : Int} {tk : Tok} (hI : p ≤ d ∧ d ≤ 1 + ns.length ∧ ∀ j, p ≤ j → j < d → codeAt ns j = 9 ∨ codeAt ns j = 32) (h : ([9, 32].any fun x => x == codeAt ns d) = false) {r : Int} (hr : r = if codeAt ns d = 10 then d + 1 else p) :
    ∃ a t', p ≤ a ∧ (∀ j, p ≤ j → j < a → codeAt ns j = 9 ∨ codeAt ns j = 32) ∧ ¬ (codeAt ns a = 9 ∨ codeAt ns a = 32) ∧ Value.int r tk = .int (if codeAt ns a = 10 then a + 1 else p) t' :=
  ⟨d, tk, hI.1, hI.2.2, by rw [← lb_code, h]; simp, by rw [hr]⟩
theorem line_behind {news : List (Addr × Obj)} {v : Addr} {ns : List Int} {p : Int} {t : Tok} (V : ViewIn news v ns) (hp : 1 ≤ p ∧ p ≤ 1 + ns.length) (hl : ns.length < 2 ^ 20) :
    Ct prog w mean mg mb 614 2 news [.ref v, .int p t] (fun r news' => news' = news ∧ ∃ a t', p ≤ a ∧ (∀ j, p ≤ j → j < a → codeAt ns j = 9 ∨ codeAt ns j = 32) ∧ ¬ (codeAt ns a = 9 ∨ codeAt ns a = 32) ∧ r = .int (if codeAt ns a = 10 then a + 1 else p) t') := by
  refine ViewIn.elim V ?_; intro vd vl vvs vc vn vh1 vh2 vt1 vt2 vt3 vm1 vm2 vx3 vx4 vx5; clear vx3 vx4 vx5
  intro c00 A₀ base h₀ L m sHp sGn sDr sTk sOs Q E B F X N T hk hd hu hret
  cell_step
  all_goals (first | (refine' hret _ news _ _ ?e1 ?e2 ?e3; (case e1 => k_asm); (case e3 => refine ⟨rfl, lb_end hI' (by assumption) ?lr⟩; (case lr => first | (rw [if_pos (by assumption)]; done) | (rw [if_neg (by assumption)]; done))); (case e2 => first | k_asm | (refine cb_drop (by k_asm) ?_; (intro p9 hp9; first | exact hp9 | exact .tail _ hp9 | exact .tail _ (.tail _ hp9) | exact .tail _ (.tail _ (.tail _ hp9)) | exact .tail _ (.tail _ (.tail _ (.tail _ hp9))) | exact .tail _ (.tail _ (.tail _ (.tail _ (.tail _ hp9)))) | exact .tail _ (.tail _ (.tail _ (.tail _ (.tail _ (.tail _ hp9))))) | exact .tail _ (.tail _ (.tail _ (.tail _ (.tail _ (.tail _ (.tail _ hp9)))))))) | (refine cb_drop (by k_asm) ?_; k_sub))) | trace_state)
example : True := by
  k_with_none
  w_top off
  exact trivial
example : True := by
  k_with "mroom" => with_unfolding_all first | ((rename (_ + _ < recursionLimit) => hZq7); first | exact room_lt hZq7 0 rfl rfl | exact room_lt hZq7 1 rfl rfl | exact room_lt hZq7 2 rfl rfl | exact room_lt hZq7 3 rfl rfl | exact room_lt hZq7 4 rfl rfl | exact room_lt hZq7 5 rfl rfl | exact room_lt hZq7 6 rfl rfl | exact room_lt hZq7 7 rfl rfl | exact room_lt hZq7 8 rfl rfl | exact room_lt hZq7 9 rfl rfl | exact room_lt hZq7 10 rfl rfl | exact room_lt hZq7 11 rfl rfl | exact room_lt hZq7 12 rfl rfl | exact room_lt hZq7 13 rfl rfl | exact room_lt hZq7 14 rfl rfl | exact room_lt hZq7 15 rfl rfl) | exact lt_ble rfl | fail "mroom"
  exact trivial
example : True := by
  k_with "munits" => with_unfolding_all first | ((rename (_ + _ + _ < cLine) => hZq7); first | exact unit_lt2 hZq7 0 rfl rfl | exact unit_lt2 hZq7 3 rfl rfl | exact unit_lt2 hZq7 6 rfl rfl | exact unit_lt2 hZq7 9 rfl rfl | exact unit_lt2 hZq7 12 rfl rfl | exact unit_lt hZq7 0 rfl rfl | exact unit_lt hZq7 3 rfl rfl | exact unit_lt hZq7 6 rfl rfl | exact unit_lt hZq7 9 rfl rfl | exact unit_lt hZq7 12 rfl rfl) | exact lt_ble rfl | fail "munits"
  exact trivial
example : True := by
  k_with "mne" => (refine neN ?_; (try dsimp only); first | assumption | exact Ne.symm (by assumption) | exact Nat.ne_of_lt (by assumption) | exact Nat.ne_of_gt (by assumption) | fail "mne")
  exact trivial
theorem ne_of_lts {news : List (Addr × Obj)} {x : Addr} (l : ∀ p ∈ news, p.1 < x) : ∀ p ∈ news, p.1 ≠ x := fun p hp => Nat.ne_of_lt (l p hp)
theorem ne_of_lts2 {news : List (Addr × Obj)} {x d : Addr} (l : ∀ p ∈ news, p.1 < d) (h : d < x) : ∀ p ∈ news, p.1 ≠ x := fun p hp => Nat.ne_of_lt (Nat.lt_trans (l p hp) h)
theorem news_rot {h₀ h : Heap} {L : Addr} {a b c : Addr × Obj} {rest : List (Addr × Obj)} (N : News h₀ L h (c :: a :: b :: rest)) : News h₀ L h (a :: b :: c :: rest) := fun p hp => N p (by simp only [List.mem_cons] at hp ⊢; rcases hp with h | h | h | h <;> simp [h])
theorem cons_ne {a x : Addr} {o : Obj} {rest : List (Addr × Obj)} (h : @Ne Nat a x) (h2 : ∀ q ∈ rest, q.1 ≠ x) : ∀ q ∈ (a, o) :: rest, q.1 ≠ x := fun q hq => by rcases List.mem_cons.mp hq with rfl | hq; exact h; exact h2 q hq
theorem lts_split {a x : Addr} {o : Obj} {rest : List (Addr × Obj)} (l : ∀ p ∈ (a, o) :: rest, p.1 < x) : @LT.lt Nat _ a x ∧ ∀ p ∈ rest, p.1 < x := ⟨l _ (.head _), fun p hp => l p (.tail _ hp)⟩
theorem ne_of_lt2 {x d : Addr} (h : d < x) : @Ne Nat x d := Nat.ne_of_gt h
theorem genTok {α : Type} {M : Model} {A : Around} {t : Sem α} {Q : α → Shared → Prop} {E : Value → Shared → Prop} {hp : Heap} {g : Array GenState} {d : Drawn} {os : OsState} {tk : Nat} (h : ∀ tk' : Nat, wpAny M A t Q E ⟨hp, g, d, tk', os⟩) : wpAny M A t Q E ⟨hp, g, d, tk, os⟩ := h tk
theorem tupK {K : Frag} {h₀ h : Heap} {L a : Addr} {m : Str → Option Value} {items : Array Value} {n : Nat} (X : K.In h₀) (F : Fr h₀ L h m) (e : List.lookup a K = some ({ cls := .type "tuple", data := .seq items n } : Obj)) : IsTup h a items :=
  ⟨_, F.keep _ _ (X _ _ e), rfl, n, rfl⟩
/-- the dict of a fresh ParseState -/
def PsD (od : Obj) : Prop := ∃ (h : Nat → Int) (k : Nat → Tok) (a1 a2 a3 a4 a5 : Tok), od = dictOf [⟨h 1, .str (Str.ofString "opens") (k 1), .ref 29⟩, ⟨h 2, .str (Str.ofString "below") (k 2), .int 0 a1⟩, ⟨h 3, .str (Str.ofString "least") (k 3), .int 0 a2⟩, ⟨h 4, .str (Str.ofString "whole") (k 4), .none⟩, ⟨h 5, .str (Str.ofString "word") (k 5), .none⟩, ⟨h 6, .str (Str.ofString "string") (k 6), .none⟩, ⟨h 7, .str (Str.ofString "comment") (k 7), .int 0 a3⟩, ⟨h 8, .str (Str.ofString "style") (k 8), .str (Str.ofString "") a4⟩, ⟨h 9, .str (Str.ofString "nests") (k 9), .bool false⟩, ⟨h 10, .str (Str.ofString "start") (k 10), .none⟩, ⟨h 11, .str (Str.ofString "quoted") (k 11), .bool false⟩, ⟨h 12, .str (Str.ofString "half") (k 12), .str (Str.ofString "") a5⟩] 12
theorem PsD.mk0 {h1 h2 h3 h4 h5 h6 h7 h8 h9 h10 h11 h12 : Int} {k1 k2 k3 k4 k5 k6 k7 k8 k9 k10 k11 k12 : Tok} {a1 a2 a3 a4 a5 : Tok} : PsD (dictOf [⟨h1, .str (Str.ofString "opens") k1, .ref 29⟩, ⟨h2, .str (Str.ofString "below") k2, .int 0 a1⟩, ⟨h3, .str (Str.ofString "least") k3, .int 0 a2⟩, ⟨h4, .str (Str.ofString "whole") k4, .none⟩, ⟨h5, .str (Str.ofString "word") k5, .none⟩, ⟨h6, .str (Str.ofString "string") k6, .none⟩, ⟨h7, .str (Str.ofString "comment") k7, .int 0 a3⟩, ⟨h8, .str (Str.ofString "style") k8, .str (Str.ofString "") a4⟩, ⟨h9, .str (Str.ofString "nests") k9, .bool false⟩, ⟨h10, .str (Str.ofString "start") k10, .none⟩, ⟨h11, .str (Str.ofString "quoted") k11, .bool false⟩, ⟨h12, .str (Str.ofString "half") k12, .str (Str.ofString "") a5⟩] 12) :=
  ⟨fun i => [h1, h2, h3, h4, h5, h6, h7, h8, h9, h10, h11, h12].getD (i - 1) 0, fun i => [k1, k2, k3, k4, k5, k6, k7, k8, k9, k10, k11, k12].getD (i - 1) 0, a1, a2, a3, a4, a5, rfl⟩
theorem WalkD.mk0 {h1 h2 h3 h4 h5 h6 h7 h8 h9 h10 h11 h12 h13 h14 h15 : Int} {k1 k2 k3 k4 k5 k6 k7 k8 k9 k10 k11 k12 k13 k14 k15 : Tok} {v t ol : Addr} {p bl le : Int} {wh wo : Value} {a1 a2 a3 a4 a5 a6 : Tok} (hw : WordOk wo) : WalkD (dictOf [⟨h1, .str (Str.ofString "view") k1, .ref v⟩, ⟨h2, .str (Str.ofString "table") k2, .ref t⟩, ⟨h3, .str (Str.ofString "place") k3, .int p a1⟩, ⟨h4, .str (Str.ofString "opens") k4, .ref ol⟩, ⟨h5, .str (Str.ofString "below") k5, .int bl a2⟩, ⟨h6, .str (Str.ofString "least") k6, .int le a3⟩, ⟨h7, .str (Str.ofString "whole") k7, wh⟩, ⟨h8, .str (Str.ofString "word") k8, wo⟩, ⟨h9, .str (Str.ofString "string") k9, .none⟩, ⟨h10, .str (Str.ofString "comment") k10, .int 0 a4⟩, ⟨h11, .str (Str.ofString "style") k11, .str (Str.ofString "") a5⟩, ⟨h12, .str (Str.ofString "nests") k12, .bool false⟩, ⟨h13, .str (Str.ofString "start") k13, .none⟩, ⟨h14, .str (Str.ofString "quoted") k14, .bool false⟩, ⟨h15, .str (Str.ofString "half") k15, .str (Str.ofString "") a6⟩] 15) v t p ol :=
  ⟨fun i => [h1, h2, h3, h4, h5, h6, h7, h8, h9, h10, h11, h12, h13, h14, h15].getD (i - 1) 0, fun i => [k1, k2, k3, k4, k5, k6, k7, k8, k9, k10, k11, k12, k13, k14, k15].getD (i - 1) 0, bl, le, wh, wo, a1, a2, a3, a4, a5, a6, rfl, hw⟩
example : True := by
  k_with_none
  w_top off
  exact trivial
example : True := by
  k_with "mroom" => with_unfolding_all first | ((rename (_ + _ < recursionLimit) => hZq7); first | exact room_lt hZq7 0 rfl rfl | exact room_lt hZq7 1 rfl rfl | exact room_lt hZq7 2 rfl rfl | exact room_lt hZq7 3 rfl rfl | exact room_lt hZq7 4 rfl rfl | exact room_lt hZq7 5 rfl rfl | exact room_lt hZq7 6 rfl rfl | exact room_lt hZq7 7 rfl rfl | exact room_lt hZq7 8 rfl rfl | exact room_lt hZq7 9 rfl rfl | exact room_lt hZq7 10 rfl rfl | exact room_lt hZq7 11 rfl rfl | exact room_lt hZq7 12 rfl rfl | exact room_lt hZq7 13 rfl rfl | exact room_lt hZq7 14 rfl rfl | exact room_lt hZq7 15 rfl rfl) | exact lt_ble rfl | fail "mroom"
  exact trivial
example : True := by
  k_with "munits" => with_unfolding_all first | ((rename (_ + _ + _ < cLine) => hZq7); first | exact unit_lt2 hZq7 0 rfl rfl | exact unit_lt2 hZq7 3 rfl rfl | exact unit_lt2 hZq7 6 rfl rfl | exact unit_lt2 hZq7 9 rfl rfl | exact unit_lt2 hZq7 12 rfl rfl | exact unit_lt hZq7 0 rfl rfl | exact unit_lt hZq7 3 rfl rfl | exact unit_lt hZq7 6 rfl rfl | exact unit_lt hZq7 9 rfl rfl | exact unit_lt hZq7 12 rfl rfl) | exact lt_ble rfl | fail "munits"
  exact trivial
example : True := by
  k_with "mne" => (refine neN ?_; (try dsimp only); first | assumption | exact Ne.symm (by assumption) | exact Nat.ne_of_lt (by assumption) | exact Nat.ne_of_gt (by assumption) | fail "mne")
  exact trivial
example : True := by
  k_with "call ref" => (k_here; (with_reducible show wpAny _ _ (PySem.call (Value.ref 68) _) _ _ _); k_dflt (refine' call_cls ?k1 ?k2 ?k3 ?k4 ?k5 ?k6 ?_; (case k1 => k_asm); (case k2 => k_asm); (case k3 => k_asm); (case k4 => k_is); (case k5 => k_is); (case k6 => k_is); k_whole; intro ps pd h' F' N' l1 l2; (have lx1 := ne_of_lts l1); (have lx2 := ne_of_lts2 l1 l2); (have lx3 := ne_of_lt2 l2); (try k_sweep);  (refine' code_def (binds := [(Str.ofString "self", Value.ref ps), (Str.ofString "opens", Value.ref 29), (Str.ofString "below", Value.int 0 208), (Str.ofString "least", Value.int 0 209), (Str.ofString "whole", Value.none), (Str.ofString "word", Value.none), (Str.ofString "string", Value.none), (Str.ofString "comment", Value.int 0 210), (Str.ofString "style", Value.str (Str.ofString "") 211), (Str.ofString "nests", Value.bool false), (Str.ofString "start", Value.none), (Str.ofString "quoted", Value.bool false), (Str.ofString "half", Value.str (Str.ofString "") 212)]) ?k1 ?k2 ?k3 ?k4 ?k5 ?kA ?kF ?kK ?k6 ?k7 ?k8 ?k9 ?kB ?_ ?c2 ?c3 ?c4 ?c5; (case kA => exact rfl); (case kF => exact rfl); (case kK => first | exact rfl | assumption); (case k1 => k_asm); (case k2 => k_asm); (case k3 => k_asm); (case k4 => k_asm); (case k5 => k_asm); (case k6 => k_is); (case k7 => k_is); (case k8 => ktr_room); (case k9 => first | exact BindsTo.of_eq rfl | exact binds_K (by k_in) rfl (by k_is) rfl rfl rfl); (case c5 => decide); (case kB => exact locs rfl); (case c2 => exact rfl); (case c3 => exact rfl); (case c4 => exact rfl); k_whole; intro g' L' h' FG' F' N' B' X' T'; (try dsimp only); (try k_lift B'); (try k_fold))))
  exact trivial
example : True := by
  k_with "setAttr ref" => (k_here; refine genTok ?_; intro tk7; k_dflt (refine' set_dict ?k1 ?k2 ?k3 ?k4 ?k5 ?k6 ?k7 ?k8 ?k9 ?k10 ?k11 ?k12 ?k13 ?_; (case k1 => k_asm); (case k2 => k_asm); (case k3 => k_asm); (case k4 => k_inst); (case k5 => exact rfl); (case k6 => k_is); (case k7 => k_is); (case k8 => k_is); (case k9 => k_is); (case k10 => k_get); (case k11 => k_put); (case k12 => k_upd); (case k13 => exact Nat.le_of_ble_eq_true rfl); k_whole); intro h' F' N'; (try dsimp only at N'); (try k_sweep))
  exact trivial
theorem parse_state {news : List (Addr × Obj)} :
    Ct prog w mean mg mb 68 3 news [] (fun r news' => ∃ ps pd od, r = .ref ps ∧ news' = (ps, instObj 68 pd) :: (pd, od) :: news ∧ PsD od) := by
  intro c00 A₀ base h₀ L m sHp sGn sDr sTk sOs Q E B F X N T hk hd hu hret
  k_steps
  all_goals (first | (refine' hret _ _ _ _ ?e1 ?e2 ?e3; (case e1 => k_asm); (case e2 => k_asm); (case e3 => exact ⟨_, _, _, rfl, rfl, PsD.mk0⟩)) | trace_state)
example : True := by
  k_with_none
  w_top off
  exact trivial
example : True := by
  k_with "mroom" => with_unfolding_all first | ((rename (_ + _ < recursionLimit) => hZq7); first | exact room_lt hZq7 0 rfl rfl | exact room_lt hZq7 1 rfl rfl | exact room_lt hZq7 2 rfl rfl | exact room_lt hZq7 3 rfl rfl | exact room_lt hZq7 4 rfl rfl | exact room_lt hZq7 5 rfl rfl | exact room_lt hZq7 6 rfl rfl | exact room_lt hZq7 7 rfl rfl | exact room_lt hZq7 8 rfl rfl | exact room_lt hZq7 9 rfl rfl | exact room_lt hZq7 10 rfl rfl | exact room_lt hZq7 11 rfl rfl | exact room_lt hZq7 12 rfl rfl | exact room_lt hZq7 13 rfl rfl | exact room_lt hZq7 14 rfl rfl | exact room_lt hZq7 15 rfl rfl) | exact lt_ble rfl | fail "mroom"
  exact trivial
example : True := by
  k_with "munits" => with_unfolding_all first | ((rename (_ + _ + _ < cLine) => hZq7); first | exact unit_lt2 hZq7 0 rfl rfl | exact unit_lt2 hZq7 3 rfl rfl | exact unit_lt2 hZq7 6 rfl rfl | exact unit_lt2 hZq7 9 rfl rfl | exact unit_lt2 hZq7 12 rfl rfl | exact unit_lt hZq7 0 rfl rfl | exact unit_lt hZq7 3 rfl rfl | exact unit_lt hZq7 6 rfl rfl | exact unit_lt hZq7 9 rfl rfl | exact unit_lt hZq7 12 rfl rfl) | exact lt_ble rfl | fail "munits"
  exact trivial
example : True := by
  k_with "mne" => (refine neN ?_; (try dsimp only); first | assumption | exact Ne.symm (by assumption) | exact Nat.ne_of_lt (by assumption) | exact Nat.ne_of_gt (by assumption) | fail "mne")
  exact trivial
example : True := by
  k_with "call ref" => (k_here; (with_reducible show wpAny _ _ (PySem.call (Value.ref 449) _) _ _ _); k_dflt (refine' call_cls ?k1 ?k2 ?k3 ?k4 ?k5 ?k6 ?_; (case k1 => k_asm); (case k2 => k_asm); (case k3 => k_asm); (case k4 => k_is); (case k5 => k_is); (case k6 => k_is); k_whole; intro wk wd h' F' N' l1 l2; (have lx1 := ne_of_lts l1); (have lx2 := ne_of_lts2 l1 l2); (have lx3 := ne_of_lt2 l2); (try k_sweep); (have ly1 := lts_split l1); (have ly2 := lts_split ly1.2); (have ly3 := ly1.1); (have ly4 := ly2.1); (have ly5 := ne_of_lts ly2.2); (refine' code_def (binds := [(Str.ofString "self", Value.ref wk), (Str.ofString "view", Value.ref v), (Str.ofString "table", Value.ref t), (Str.ofString "place", Value.int p tp), (Str.ofString "state", Value.ref ps)]) ?k1 ?k2 ?k3 ?k4 ?k5 ?kA ?kF ?kK ?k6 ?k7 ?k8 ?k9 ?kB ?_ ?c2 ?c3 ?c4 ?c5; (case kA => exact rfl); (case kF => exact rfl); (case kK => first | exact rfl | assumption); (case k1 => k_asm); (case k2 => k_asm); (case k3 => k_asm); (case k4 => k_asm); (case k5 => k_asm); (case k6 => k_is); (case k7 => k_is); (case k8 => ktr_room); (case k9 => first | exact BindsTo.of_eq rfl | exact binds_K (by k_in) rfl (by k_is) rfl rfl rfl); (case c5 => decide); (case kB => exact locs rfl); (case c2 => exact rfl); (case c3 => exact rfl); (case c4 => exact rfl); k_whole; intro g' L' h' FG' F' N' B' X' T'; (try dsimp only); (try k_lift B'); (try k_fold))))
  exact trivial
example : True := by
  k_with "setAttr ref" => (k_here; refine genTok ?_; intro tk7; k_dflt (refine' set_dict ?k1 ?k2 ?k3 ?k4 ?k5 ?k6 ?k7 ?k8 ?k9 ?k10 ?k11 ?k12 ?k13 ?_; (case k1 => k_asm); (case k2 => k_asm); (case k3 => k_asm); (case k4 => k_inst); (case k5 => exact rfl); (case k6 => k_is); (case k7 => k_is); (case k8 => k_is); (case k9 => k_is); (case k10 => k_get); (case k11 => k_put); (case k12 => k_upd); (case k13 => exact Nat.le_of_ble_eq_true rfl); k_whole); intro h' F' N'; (try dsimp only at N'); (try k_sweep))
  exact trivial
example : True := by
  k_with "call type:list" => (k_here; (with_reducible show wpAny _ _ (call (Value.type _) [Value.ref _]) _ _ _); (with_unfolding_all (refine' list_copyKT ?k1 ?k2 (tupK ?kX ?kF ?kL) ?_ ?z; (case k1 => k_asm); (case k2 => k_asm); (case kX => k_asm); (case kF => k_asm); (case kL => k_is); (case z => decide); k_whole)); intro ol' c' h' F' N' l1; (have lz1 := lts_split l1); (have lz2 := lts_split lz1.2); (have lz3 := lz1.1); (have lz4 := lz2.1); (have lx4 := ne_of_lts lz2.2); (try k_sweep))
  exact trivial
theorem walk_new {news : List (Addr × Obj)} {ps pd v t : Addr} {pdo : Obj} {p : Int} {tp : Tok} (hP : PsD pdo) :
    Ct prog w mean mg mb 449 3 ((ps, instObj 68 pd) :: (pd, pdo) :: news) [.ref v, .ref t, .int p tp, .ref ps] (fun r news' => ∃ wk wd ol od c, r = .ref wk ∧ news' = (wk, instObj 449 wd) :: (wd, od) :: (ol, listOf #[] c) :: (ps, instObj 68 pd) :: (pd, pdo) :: news ∧ WalkD od v t p ol ∧
      @Ne Nat wk wd ∧ @Ne Nat wk ol ∧ @Ne Nat wd ol ∧ (∀ q ∈ (ps, instObj 68 pd) :: (pd, pdo) :: news, q.1 ≠ wd) ∧ (∀ q ∈ (ps, instObj 68 pd) :: (pd, pdo) :: news, q.1 ≠ ol)) := by
  obtain ⟨ph, pk, b1, b2, b3, b4, b5, peq⟩ := hP; subst peq
  intro c00 A₀ base h₀ L m sHp sGn sDr sTk sOs Q E B F X N T hk hd hu hret
  k_steps
  all_goals (first | (refine' hret _ _ _ _ ?e1 ?e2 ?e3; (case e1 => k_asm); (case e2 => exact news_rot (by k_asm)); (case e3 => exact ⟨_, _, _, _, _, rfl, rfl, WalkD.mk0 (.inl rfl), lx3, (ne_of_lt2 lz3).symm, (ne_of_lt2 lz4).symm, lx1, lx4⟩)) | trace_state)
example : True := by
  k_with_none
  w_top off
  exact trivial
example : True := by
  k_with "mroom" => with_unfolding_all first | ((rename (_ + _ < recursionLimit) => hZq7); first | exact room_lt hZq7 0 rfl rfl | exact room_lt hZq7 1 rfl rfl | exact room_lt hZq7 2 rfl rfl | exact room_lt hZq7 3 rfl rfl | exact room_lt hZq7 4 rfl rfl | exact room_lt hZq7 5 rfl rfl | exact room_lt hZq7 6 rfl rfl | exact room_lt hZq7 7 rfl rfl | exact room_lt hZq7 8 rfl rfl | exact room_lt hZq7 9 rfl rfl | exact room_lt hZq7 10 rfl rfl | exact room_lt hZq7 11 rfl rfl | exact room_lt hZq7 12 rfl rfl | exact room_lt hZq7 13 rfl rfl | exact room_lt hZq7 14 rfl rfl | exact room_lt hZq7 15 rfl rfl) | exact lt_ble rfl | fail "mroom"
  exact trivial
example : True := by
  k_with "munits" => with_unfolding_all first | ((rename (_ + _ + _ < cLine) => hZq7); first | exact unit_lt2 hZq7 0 rfl rfl | exact unit_lt2 hZq7 3 rfl rfl | exact unit_lt2 hZq7 6 rfl rfl | exact unit_lt2 hZq7 9 rfl rfl | exact unit_lt2 hZq7 12 rfl rfl | exact unit_lt hZq7 0 rfl rfl | exact unit_lt hZq7 3 rfl rfl | exact unit_lt hZq7 6 rfl rfl | exact unit_lt hZq7 9 rfl rfl | exact unit_lt hZq7 12 rfl rfl) | exact lt_ble rfl | fail "munits"
  exact trivial
example : True := by
  k_with "mne" => (refine neN ?_; (try dsimp only); first | assumption | exact Ne.symm (by assumption) | exact Nat.ne_of_lt (by assumption) | exact Nat.ne_of_gt (by assumption) | fail "mne")
  exact trivial
example : True := by
  k_with "call ref" => (k_here; (with_reducible show wpAny _ _ (PySem.call (Value.ref 655) _) _ _ _); k_dflt (refine' Ct.use (code_at ?hV ?hp) ?kB ?kF ?kX ?kN ?kT ?kk ?kd ?ku ?_; (case kB => k_asm); (case kF => k_asm); (case kX => k_asm); (case kN => first | k_asm | exact news_tl (by k_asm) | exact news_tl (news_tl (by k_asm))); (case kT => k_asm); (case kk => first | exact rfl | assumption); (case hV => (first | assumption | (refine ViewIn.mono (by assumption) ?_; (intro p9 hp9; first | exact hp9 | exact .tail _ hp9 | exact .tail _ (.tail _ hp9) | exact .tail _ (.tail _ (.tail _ hp9)) | exact .tail _ (.tail _ (.tail _ (.tail _ hp9))) | exact .tail _ (.tail _ (.tail _ (.tail _ (.tail _ hp9)))) | exact .tail _ (.tail _ (.tail _ (.tail _ (.tail _ (.tail _ hp9))))) | exact .tail _ (.tail _ (.tail _ (.tail _ (.tail _ (.tail _ (.tail _ hp9)))))))))); (case hp => (first | assumption | (constructor <;> omega))); (case kd => ktr_room); (case ku => ktr_units); k_whole); intro v9 n9 h9 tk9 F9 N9 p9; obtain ⟨e9, t9, p9⟩ := p9; (have e9 := e9.symm); subst e9; subst p9; (try dsimp only); (try k_sweep))
  exact trivial
example : True := by
  k_with "call ref" => (k_here; (with_reducible show wpAny _ _ (PySem.call (Value.ref 648) _) _ _ _); k_dflt (refine' Ct.use (view_end ?hV) ?kB ?kF ?kX ?kN ?kT ?kk ?kd ?ku ?_; (case kB => k_asm); (case kF => k_asm); (case kX => k_asm); (case kN => first | k_asm | exact news_tl (by k_asm) | exact news_tl (news_tl (by k_asm))); (case kT => k_asm); (case kk => first | exact rfl | assumption); (case hV => (first | assumption | (refine ViewIn.mono (by assumption) ?_; (intro p9 hp9; first | exact hp9 | exact .tail _ hp9 | exact .tail _ (.tail _ hp9) | exact .tail _ (.tail _ (.tail _ hp9)) | exact .tail _ (.tail _ (.tail _ (.tail _ hp9))) | exact .tail _ (.tail _ (.tail _ (.tail _ (.tail _ hp9)))) | exact .tail _ (.tail _ (.tail _ (.tail _ (.tail _ (.tail _ hp9))))) | exact .tail _ (.tail _ (.tail _ (.tail _ (.tail _ (.tail _ (.tail _ hp9)))))))))); (case kd => ktr_room); (case ku => ktr_units); k_whole); intro v9 n9 h9 tk9 F9 N9 p9; obtain ⟨e9, t9, p9⟩ := p9; (have e9 := e9.symm); subst e9; subst p9; (try dsimp only); (try k_sweep))
  exact trivial
example : True := by
  k_with "call ref" => (k_here; (with_reducible show wpAny _ _ (PySem.call (Value.ref 641) _) _ _ _); k_dflt (refine' Ct.use (view_begin ?hV) ?kB ?kF ?kX ?kN ?kT ?kk ?kd ?ku ?_; (case kB => k_asm); (case kF => k_asm); (case kX => k_asm); (case kN => first | k_asm | exact news_tl (by k_asm) | exact news_tl (news_tl (by k_asm))); (case kT => k_asm); (case kk => first | exact rfl | assumption); (case hV => (first | assumption | (refine ViewIn.mono (by assumption) ?_; (intro p9 hp9; first | exact hp9 | exact .tail _ hp9 | exact .tail _ (.tail _ hp9) | exact .tail _ (.tail _ (.tail _ hp9)) | exact .tail _ (.tail _ (.tail _ (.tail _ hp9))) | exact .tail _ (.tail _ (.tail _ (.tail _ (.tail _ hp9)))) | exact .tail _ (.tail _ (.tail _ (.tail _ (.tail _ (.tail _ hp9))))) | exact .tail _ (.tail _ (.tail _ (.tail _ (.tail _ (.tail _ (.tail _ hp9)))))))))); (case kd => ktr_room); (case ku => ktr_units); k_whole); intro v9 n9 h9 tk9 F9 N9 p9; obtain ⟨e9, t9, p9⟩ := p9; (have e9 := e9.symm); subst e9; subst p9; (try dsimp only); (try k_sweep))
  exact trivial
example : True := by
  k_with "call ref" => (k_here; (with_reducible show wpAny _ _ (PySem.call (Value.ref 446) _) _ _ _); k_dflt (refine' Ct.use (step_whole ?V ?Tb ?hal ?hin ?hp ?hW ?hI ?hl ?q1 ?q2 ?q3 ?q4 ?q5) ?kB ?kF ?kX ?kN ?kT ?kk ?kd ?ku ?_; (case kB => k_asm); (case kF => k_asm); (case kX => k_asm); (case kN => first | k_asm | exact news_tl (by k_asm) | exact news_tl (news_tl (by k_asm))); (case kT => k_asm); (case kk => first | exact rfl | assumption); (case V => (first | assumption | (refine ViewIn.mono (by assumption) ?_; (intro p9 hp9; first | exact hp9 | exact .tail _ hp9 | exact .tail _ (.tail _ hp9) | exact .tail _ (.tail _ (.tail _ hp9)) | exact .tail _ (.tail _ (.tail _ (.tail _ hp9))) | exact .tail _ (.tail _ (.tail _ (.tail _ (.tail _ hp9)))) | exact .tail _ (.tail _ (.tail _ (.tail _ (.tail _ (.tail _ hp9))))) | exact .tail _ (.tail _ (.tail _ (.tail _ (.tail _ (.tail _ (.tail _ hp9)))))))))); (case Tb => (first | assumption | (refine TabIn.mono (by assumption) ?_; (intro p9 hp9; first | exact hp9 | exact .tail _ hp9 | exact .tail _ (.tail _ hp9) | exact .tail _ (.tail _ (.tail _ hp9)) | exact .tail _ (.tail _ (.tail _ (.tail _ hp9))) | exact .tail _ (.tail _ (.tail _ (.tail _ (.tail _ hp9)))) | exact .tail _ (.tail _ (.tail _ (.tail _ (.tail _ (.tail _ hp9))))) | exact .tail _ (.tail _ (.tail _ (.tail _ (.tail _ (.tail _ (.tail _ hp9)))))))))); (case hal => assumption); (case hin => (first | assumption | (constructor <;> omega))); (case hp => (first | assumption | (constructor <;> omega))); (case hW => exact WalkD.mk' (by first | assumption | exact .inl rfl | exact .inr ⟨_, _, rfl⟩)); (case hI => assumption); (case hl => assumption); (case q1 => (first | assumption | omega)); (case q2 => (first | assumption | omega)); (case q3 => (first | assumption | omega)); (case q4 => first | assumption | exact cons_ne (by assumption) (by assumption)); (case q5 => first | assumption | exact cons_ne (by assumption) (by assumption)); (case kd => ktr_room); (case ku => ktr_units); k_whole); intro v9 n9 h9 tk9 F9 N9 p9; refine goal_gen ?_; intro GG9 kGG9; obtain ⟨p8, od9, os9, is9, c9, e9, W9, hI9, hG9⟩ := p9; refine kGG9 ?_; clear kGG9 GG9; subst p8; subst e9; (refine WalkD.elim W9 ?_; intro whh wkk wbl wle wwh wwo wa1 wa2 wa3 wa4 wa5 wa6 weq hwo; clear W9); subst weq; (have hlen9 := grew_len hG9 (by omega)); (try dsimp only); (try k_sweep))
  exact trivial
example : True := by
  k_with "call ref" => (k_here; (with_reducible show wpAny _ _ (PySem.call (Value.ref 68) _) _ _ _); k_dflt (refine' Ct.use (parse_state ) ?kB ?kF ?kX ?kN ?kT ?kk ?kd ?ku ?_; (case kB => k_asm); (case kF => k_asm); (case kX => k_asm); (case kN => first | k_asm | exact news_tl (by k_asm) | exact news_tl (news_tl (by k_asm))); (case kT => k_asm); (case kk => first | exact rfl | assumption);  (case kd => ktr_room); (case ku => ktr_units); k_whole); intro v9 n9 h9 tk9 F9 N9 p9; refine goal_gen ?_; intro GG9 kGG9; obtain ⟨ps, pd, pdo, p8, e9, hP9⟩ := p9; refine kGG9 ?_; clear kGG9 GG9; subst p8; subst e9; (try dsimp only); (try k_sweep))
  exact trivial
example : True := by
  k_with "call ref" => (k_here; (with_reducible show wpAny _ _ (PySem.call (Value.ref 449) _) _ _ _); k_dflt (refine' Ct.use (walk_new ?hP) ?kB ?kF ?kX ?kN ?kT ?kk ?kd ?ku ?_; (case kB => k_asm); (case kF => k_asm); (case kX => k_asm); (case kN => first | k_asm | exact news_tl (by k_asm) | exact news_tl (news_tl (by k_asm))); (case kT => k_asm); (case kk => first | exact rfl | assumption); (case hP => assumption); (case kd => ktr_room); (case ku => ktr_units); k_whole); intro v9 n9 h9 tk9 F9 N9 p9; refine goal_gen ?_; intro GG9 kGG9; obtain ⟨wk, wd, ol, od, wc, p8, e9, W9, w1, w2, w3, w4, w5⟩ := p9; refine kGG9 ?_; clear kGG9 GG9; subst p8; subst e9; (try dsimp only); (try k_sweep))
  exact trivial
example : True := by
  k_with "newList" => (k_here; k_dflt (refine' newList_K ?k1 ?k2 ?_; (case k1 => k_asm); (case k2 => k_asm); k_whole); intro fl h' F' N' l1; (have lf1 := ne_of_lts l1); (try k_sweep))
  exact trivial
example : True := by
  k_with "exec While Compare cons nil" => (k_here; (rename Fr _ _ _ _ => lF'); (rename News _ _ _ _ => lN'); (with_unfolding_all (refine' whS0 [Str.ofString "place", Str.ofString "many"] (fun d : Int × Obj × List Value × List Int × Nat × List Value × List Int × Nat => (1 + ns.length - d.1).toNat) (fun d => (wk, instObj 449 wd) :: (wd, d.2.1) :: (ol, listOf d.2.2.1.toArray d.2.2.2.2.1) :: (fl, listOf d.2.2.2.2.2.1.toArray d.2.2.2.2.2.2.2) :: news) (fun d => 1 ≤ d.1 ∧ d.1 ≤ 1 + ns.length ∧ WalkD d.2.1 v t d.1 ol ∧ IntsAre d.2.2.1 d.2.2.2.1 ∧ (d.2.2.2.1.length : Int) < d.1 ∧ IntsAre d.2.2.2.2.2.1 d.2.2.2.2.2.2.1 ∧ d.2.2.2.2.2.2.1 = startsTo ns (d.1 - 1).toNat) (1, od, [], [], wc, [], [], 0) lF' lN' ?ln ?li ?lt)); (case ln => (intro p9 hp9; (dsimp only at hp9); (simp only [List.mem_cons] at hp9 ⊢); (rcases hp9 with h | h | h | h | h <;> simp [h]))); (case li => exact ⟨by omega, by omega, W9, .nil, by simp, .nil, rfl⟩); (case' lt => (intro d' u' h' tk' hI' F' N'; clear lF' lN'; obtain ⟨pp, od1, os1, is1, c1, fs1, fi1, cf1⟩ := d'; (dsimp only at hI' N'); refine goal_gen ?_; intro GG9 kGG9; obtain ⟨i1, i2, i3, i4, i5, i6, i7⟩ := hI'; refine kGG9 ?_; clear kGG9 GG9; clear W9; (have hlen := len_small i2 i5 hl); (have z1 := (lts_split l1)); (have z2 := (lts_split z1.2)); (have z3 := (lts_split z2.2)); (have z4 := ne_of_lt2 z2.1); (have z8 := ne_of_lts (lts_split (lts_split z3.2).2).2); (have z9 := z1.1); (have z10 := z2.1); (have z11 := z3.1); (have hfl9 := starts_small i2 hl i7); (have z5 := ne_of_lt2 z3.1); (have z6 := fun q hq => w4 q (.tail _ (.tail _ hq))); (have z7 := fun q hq => w5 q (.tail _ (.tail _ hq))); (refine WalkD.elim i3 ?_; intro whh wkk wbl wle wwh wwo wa1 wa2 wa3 wa4 wa5 wa6 weq hwo; clear i3); subst weq; (try dsimp only at F' N'); (try k_fold))))
  exact trivial
example : True := by
  k_with "SPost" => (dsimp only [SPost])
  exact trivial
example : True := by
  k_with "SEnd0" => ((try (rename News _ _ _ _ => nE; simp only [List.push_toArray] at nE)); first | (refine' SEnd0.intro (d' := (pp + 1, _, os9, is9, _, fs1 ++ [Value.int pp _], fi1 ++ [pp], _)) (by assumption) ?sN ?sI ?sM ?sS; (case sN => ((try dsimp only); (first | k_asm | (refine cb_drop (by k_asm) ?_; (intro p9 hp9; first | exact hp9 | exact .tail _ hp9 | exact .tail _ (.tail _ hp9) | exact .tail _ (.tail _ (.tail _ hp9)) | exact .tail _ (.tail _ (.tail _ (.tail _ hp9))) | exact .tail _ (.tail _ (.tail _ (.tail _ (.tail _ hp9)))) | exact .tail _ (.tail _ (.tail _ (.tail _ (.tail _ (.tail _ hp9))))) | exact .tail _ (.tail _ (.tail _ (.tail _ (.tail _ (.tail _ (.tail _ hp9)))))))) | (refine cb_drop (by k_asm) ?_; k_sub)))); (case sI => exact ⟨by omega, by omega, WalkD.mk' (by assumption), by assumption, grew_lt hG9 i5, ints_app i6 (.cons _ _ .nil), by first | exact ds_yes i1 i7 hG9 (by assumption) (.inl (by assumption)) | exact ds_yes i1 i7 hG9 (by assumption) (.inr (by assumption))⟩); (case sM => ((try dsimp only); omega)); (case sS => (intro z h3; first | rfl | (simp only [List.contains_cons, List.contains_nil, Bool.or_false, Bool.or_eq_false_iff, beq_eq_false_iff_ne, ne_eq] at h3; simp [h3]; done)))) | (refine' SEnd0.intro (d' := (pp + 1, _, os9, is9, _, fs1, fi1, _)) (by assumption) ?sN ?sI ?sM ?sS; (case sN => ((try dsimp only); (first | k_asm | (refine cb_drop (by k_asm) ?_; (intro p9 hp9; first | exact hp9 | exact .tail _ hp9 | exact .tail _ (.tail _ hp9) | exact .tail _ (.tail _ (.tail _ hp9)) | exact .tail _ (.tail _ (.tail _ (.tail _ hp9))) | exact .tail _ (.tail _ (.tail _ (.tail _ (.tail _ hp9)))) | exact .tail _ (.tail _ (.tail _ (.tail _ (.tail _ (.tail _ hp9))))) | exact .tail _ (.tail _ (.tail _ (.tail _ (.tail _ (.tail _ (.tail _ hp9)))))))) | (refine cb_drop (by k_asm) ?_; k_sub)))); (case sI => exact ⟨by omega, by omega, WalkD.mk' (by assumption), by assumption, grew_lt hG9 i5, i6, by first | exact ds_no i1 i7 hG9 (fun _ => ⟨by assumption, by assumption⟩) | exact ds_no i1 i7 hG9 (fun h => absurd h (by assumption))⟩); (case sM => ((try dsimp only); omega)); (case sS => (intro z h3; first | rfl | (simp only [List.contains_cons, List.contains_nil, Bool.or_false, Bool.or_eq_false_iff, beq_eq_false_iff_ne, ne_eq] at h3; simp [h3]; done)))))
  exact trivial
example : True := by
  k_with "call builtin:list.append" => (k_here; k_dflt (show wpAny _ _ (PySem.call (Value.builtin _) [Value.ref _, _]) _ _ _); k_dflt (refine' append_K ?k1 ?k2 ?k3 ?_ ?z; (case k1 => k_asm); (case k2 => k_asm); (case k3 => k_upd); (case z => size_fits); k_whole); intro h' F' N'; (try k_sweep))
  exact trivial
theorem grew_len {kd : String} {is is' : List Int} (h : Grew kd is is') (hl : is.length + 1 < 2 ^ 20) : is'.length < 2 ^ 20 := by unfold Grew at h; split at h <;> omega
/-- a definition begins at place p (counted from 1) -/
abbrev IsStart (ns : List Int) (p : Int) : Prop := codeAt ns p = 40 ∧ (p = 1 ∨ codeAt ns (p - 1) = 10)
def startsTo (ns : List Int) : Nat → List Int
  | 0 => []
  | k + 1 => startsTo ns k ++ if IsStart ns (k + 1) then [(k : Int) + 1] else []
theorem kind_open {c : Int} : kindOf c = "(" ↔ c = 40 := by
  unfold kindOf
  constructor
  · intro h
    by_cases h1 : c = 10
    · rw [if_pos h1] at h; exact absurd h (by decide)
    rw [if_neg h1] at h
    by_cases h2 : c = 32
    · rw [if_pos h2] at h; exact absurd h (by decide)
    rw [if_neg h2] at h
    by_cases h3 : c = 40
    · exact h3
    rw [if_neg h3] at h
    split at h <;> exact absurd h (by decide)
  · rintro rfl; rfl
theorem grew_lt {kd : String} {is is' : List Int} {p : Int} (h : Grew kd is is') (hl : (is.length : Int) < p) : (is'.length : Int) < p + 1 := by unfold Grew at h; split at h <;> omega
theorem starts_step {ns : List Int} {p : Int} (h1 : 1 ≤ p) : startsTo ns (p + 1 - 1).toNat = startsTo ns (p - 1).toNat ++ if IsStart ns p then [p] else [] := by
  have e : (p + 1 - 1).toNat = (p - 1).toNat + 1 := by omega
  have e2 : (((p - 1).toNat : Nat) : Int) + 1 = p := by omega
  rw [e, startsTo, e2]
theorem ds_yes {ns fi is is' : List Int} {p : Int} (h1 : 1 ≤ p) (h7 : fi = startsTo ns (p - 1).toNat) (hG : Grew (kindOf (codeAt ns p)) is is') (hl : (is.length : Int) < is'.length) (h : p = 1 ∨ codeAt ns (p - 1) = 10) : fi ++ [p] = startsTo ns (p + 1 - 1).toNat := by
  have hk : codeAt ns p = 40 := by
    unfold Grew at hG
    split at hG
    · next q => exact kind_open.mp q
    · omega
  rw [starts_step h1, h7, if_pos ⟨hk, h⟩]
theorem ds_no {ns fi is is' : List Int} {p : Int} (h1 : 1 ≤ p) (h7 : fi = startsTo ns (p - 1).toNat) (hG : Grew (kindOf (codeAt ns p)) is is') (h : (is.length : Int) < is'.length → p ≠ 1 ∧ codeAt ns (p - 1) ≠ 10) : fi = startsTo ns (p + 1 - 1).toNat := by
  have hn : ¬ IsStart ns p := by
    rintro ⟨hk, hb⟩
    unfold Grew at hG
    rw [if_pos (kind_open.mpr hk)] at hG
    obtain ⟨a, b⟩ := h (by omega)
    rcases hb with hb | hb
    · exact a hb
    · exact b hb
  rw [starts_step h1, if_neg hn, List.append_nil, h7]
theorem ds_end {ns fi : List Int} {fs : List Value} {p : Int} (h2 : p ≤ 1 + ns.length) (h : ¬ p < 1 + ns.length) (h6 : IntsAre fs fi) (h7 : fi = startsTo ns (p - 1).toNat) : IntsAre fs (startsTo ns ns.length) := by
  have e : (p - 1).toNat = ns.length := by omega
  rw [e] at h7; rw [← h7]; exact h6
theorem starts_len (ns : List Int) : ∀ k, (startsTo ns k).length ≤ k
  | 0 => Nat.le_refl _
  | k + 1 => by
    have := starts_len ns k
    unfold startsTo
    rw [List.length_append]
    split
    · rw [List.length_singleton]; omega
    · rw [List.length_nil]; omega
theorem starts_small {ns fi : List Int} {p : Int} (h1 : p ≤ 1 + ns.length) (h3 : ns.length < 2 ^ 20) (h : fi = startsTo ns (p - 1).toNat) : fi.length < 2 ^ 20 := by
  have := starts_len ns (p - 1).toNat
  rw [h]; omega
theorem len_small {is : List Int} {p : Int} {n : Nat} (h1 : p ≤ 1 + n) (h2 : (is.length : Int) < p) (h3 : n < 2 ^ 20) : is.length < 2 ^ 20 := by omega
theorem defun_starts {news : List (Addr × Obj)} {v t : Addr} {ns : List Int} (V : ViewIn news v ns) (Tb : TabIn prog w news t) (hal : ∀ x ∈ ns, Alpha x) (hl : ns.length < 2 ^ 20) :
    Ct prog w mean mg mb 607 16 news [.ref v, .ref t] (fun r news' => ∃ fl fs cf, r = .ref fl ∧ news' = (fl, listOf fs.toArray cf) :: news ∧ IntsAre fs (startsTo ns ns.length)) := by
  refine ViewIn.elim V ?_; intro vd vl vvs vc vn vh1 vh2 vt1 vt2 vt3 vm1 vm2 vx3 vx4 vx5; clear vx3 vx4 vx5
  refine TabIn.elim Tb ?_; intro td tr tt2 ttd2 tr2 tn tn2 th1 th2 th3 th4 tk1 tk2 tk3 tk4 to to2 tkvs tkvs2 tm1 tm2 tx3 tx4 tx5 tx6 tx7 tx8 tx9 txa txb txc; clear tx3 tx4 tx5 tx6 tx7 tx8 tx9 txa txb txc
  intro c00 A₀ base h₀ L m sHp sGn sDr sTk sOs Q E B F X N T hk hd hu hret
  refine wpAny_call ?_
  k_dflt (refine' code_def (binds := [(Str.ofString "view", Value.ref v), (Str.ofString "table", Value.ref t)]) ?k1 ?k2 ?k3 ?k4 ?k5 ?kA ?kF ?kK ?k6 ?k7 ?k8 ?k9 ?kB ?_ ?c2 ?c3 ?c4 ?c5; (case kA => exact rfl); (case kF => exact rfl); (case kK => first | exact rfl | assumption); (case k1 => k_asm); (case k2 => k_asm); (case k3 => k_asm); (case k4 => k_asm); (case k5 => k_asm); (case k6 => k_is); (case k7 => k_is); (case k8 => ktr_room); (case k9 => first | exact BindsTo.of_eq rfl | exact binds_K (by k_in) rfl (by k_is) rfl rfl rfl); (case c5 => decide); (case kB => exact locs rfl); (case c2 => exact rfl); (case c3 => exact rfl); (case c4 => exact rfl); k_whole; intro g' L' h' FG' F' N' B' X' T'; (try dsimp only); (try k_lift B'); (try k_fold))
  k_steps

  all_goals (first | (refine' hret _ ((fl, listOf fs1.toArray cf1) :: news) _ _ ?e1 ?e2 ⟨fl, fs1, cf1, rfl, rfl, ds_end i2 (by assumption) i6 i7⟩; (case e1 => k_asm); (case e2 => first | exact cb_drop (by k_asm) (by k_sub) | exact news_tl (news_tl (news_tl (by k_asm))))) | trace_state)
example : True := by
  k_with_none
  w_top off
  exact trivial
example : True := by
  k_with "mroom" => with_unfolding_all first | ((rename (_ + _ < recursionLimit) => hZq7); first | exact room_lt hZq7 0 rfl rfl | exact room_lt hZq7 1 rfl rfl | exact room_lt hZq7 2 rfl rfl | exact room_lt hZq7 3 rfl rfl | exact room_lt hZq7 4 rfl rfl | exact room_lt hZq7 5 rfl rfl | exact room_lt hZq7 6 rfl rfl | exact room_lt hZq7 7 rfl rfl | exact room_lt hZq7 8 rfl rfl | exact room_lt hZq7 9 rfl rfl | exact room_lt hZq7 10 rfl rfl | exact room_lt hZq7 11 rfl rfl | exact room_lt hZq7 12 rfl rfl | exact room_lt hZq7 13 rfl rfl | exact room_lt hZq7 14 rfl rfl | exact room_lt hZq7 15 rfl rfl) | exact lt_ble rfl | fail "mroom"
  exact trivial
example : True := by
  k_with "munits" => with_unfolding_all first | ((rename (_ + _ + _ < cLine) => hZq7); first | exact unit_lt2 hZq7 0 rfl rfl | exact unit_lt2 hZq7 3 rfl rfl | exact unit_lt2 hZq7 6 rfl rfl | exact unit_lt2 hZq7 9 rfl rfl | exact unit_lt2 hZq7 12 rfl rfl | exact unit_lt hZq7 0 rfl rfl | exact unit_lt hZq7 3 rfl rfl | exact unit_lt hZq7 6 rfl rfl | exact unit_lt hZq7 9 rfl rfl | exact unit_lt hZq7 12 rfl rfl) | exact lt_ble rfl | fail "munits"
  exact trivial
example : True := by
  k_with "mne" => (refine neN ?_; (try dsimp only); first | assumption | exact Ne.symm (by assumption) | exact Nat.ne_of_lt (by assumption) | exact Nat.ne_of_gt (by assumption) | fail "mne")
  exact trivial
example : True := by
  k_with "call ref" => (k_here; (with_reducible show wpAny _ _ (PySem.call (Value.ref 519) _) _ _ _); k_dflt (refine' call_cls ?k1 ?k2 ?k3 ?k4 ?k5 ?k6 ?_; (case k1 => k_asm); (case k2 => k_asm); (case k3 => k_asm); (case k4 => k_is); (case k5 => k_is); (case k6 => k_is); k_whole; intro sc sd h' F' N' l1 l2; (have lx1 := ne_of_lts l1); (have lx2 := ne_of_lts2 l1 l2); (have lx3 := ne_of_lt2 l2); (try k_sweep);  (refine' code_def (binds := [(Str.ofString "self", Value.ref sc), (Str.ofString "view", Value.ref v), (Str.ofString "table", Value.ref t), (Str.ofString "place", Value.int p tp), (Str.ofString "depth", Value.int 0 td), (Str.ofString "is_expression", Value.bool true)]) ?k1 ?k2 ?k3 ?k4 ?k5 ?kA ?kF ?kK ?k6 ?k7 ?k8 ?k9 ?kB ?_ ?c2 ?c3 ?c4 ?c5; (case kA => exact rfl); (case kF => exact rfl); (case kK => first | exact rfl | assumption); (case k1 => k_asm); (case k2 => k_asm); (case k3 => k_asm); (case k4 => k_asm); (case k5 => k_asm); (case k6 => k_is); (case k7 => k_is); (case k8 => ktr_room); (case k9 => first | exact BindsTo.of_eq rfl | exact binds_K (by k_in) rfl (by k_is) rfl rfl rfl); (case c5 => decide); (case kB => exact locs rfl); (case c2 => exact rfl); (case c3 => exact rfl); (case c4 => exact rfl); k_whole; intro g' L' h' FG' F' N' B' X' T'; (try dsimp only); (try k_lift B'); (try k_fold))))
  exact trivial
example : True := by
  k_with "setAttr ref" => (k_here; refine genTok ?_; intro tk7; k_dflt (refine' set_dict ?k1 ?k2 ?k3 ?k4 ?k5 ?k6 ?k7 ?k8 ?k9 ?k10 ?k11 ?k12 ?k13 ?_; (case k1 => k_asm); (case k2 => k_asm); (case k3 => k_asm); (case k4 => k_inst); (case k5 => exact rfl); (case k6 => k_is); (case k7 => k_is); (case k8 => k_is); (case k9 => k_is); (case k10 => k_get); (case k11 => k_put); (case k12 => k_upd); (case k13 => exact Nat.le_of_ble_eq_true rfl); k_whole); intro h' F' N'; (try dsimp only at N'); (try k_sweep))
  exact trivial
/-- the dict of a Scan in an expression -/
def ScanD (od : Obj) (v t : Addr) (p dep g : Int) (dn : Bool) : Prop :=
  ∃ (h : Nat → Int) (k : Nat → Tok) (a1 a2 a3 a4 : Tok), od = dictOf [⟨h 1, .str (Str.ofString "view") (k 1), .ref v⟩, ⟨h 2, .str (Str.ofString "table") (k 2), .ref t⟩, ⟨h 3, .str (Str.ofString "place") (k 3), .int p a1⟩, ⟨h 4, .str (Str.ofString "depth") (k 4), .int dep a2⟩, ⟨h 5, .str (Str.ofString "least") (k 5), .int 0 a3⟩, ⟨h 6, .str (Str.ofString "good") (k 6), .int g a4⟩, ⟨h 7, .str (Str.ofString "is_expression") (k 7), .bool true⟩, ⟨h 8, .str (Str.ofString "is_paired") (k 8), .bool false⟩, ⟨h 9, .str (Str.ofString "is_done") (k 9), .bool dn⟩] 9
theorem ScanD.mk' {h : Nat → Int} {k : Nat → Tok} {v t : Addr} {p dep g : Int} {dn : Bool} {a1 a2 a3 a4 : Tok} : ScanD (dictOf [⟨h 1, .str (Str.ofString "view") (k 1), .ref v⟩, ⟨h 2, .str (Str.ofString "table") (k 2), .ref t⟩, ⟨h 3, .str (Str.ofString "place") (k 3), .int p a1⟩, ⟨h 4, .str (Str.ofString "depth") (k 4), .int dep a2⟩, ⟨h 5, .str (Str.ofString "least") (k 5), .int 0 a3⟩, ⟨h 6, .str (Str.ofString "good") (k 6), .int g a4⟩, ⟨h 7, .str (Str.ofString "is_expression") (k 7), .bool true⟩, ⟨h 8, .str (Str.ofString "is_paired") (k 8), .bool false⟩, ⟨h 9, .str (Str.ofString "is_done") (k 9), .bool dn⟩] 9) v t p dep g dn := ⟨h, k, a1, a2, a3, a4, rfl⟩
theorem ScanD.elim {C : Prop} {od : Obj} {v t : Addr} {p dep g : Int} {dn : Bool} (S : ScanD od v t p dep g dn) (h9 : ∀ (h : Nat → Int) (k : Nat → Tok) (a1 a2 a3 a4 : Tok), od = dictOf [⟨h 1, .str (Str.ofString "view") (k 1), .ref v⟩, ⟨h 2, .str (Str.ofString "table") (k 2), .ref t⟩, ⟨h 3, .str (Str.ofString "place") (k 3), .int p a1⟩, ⟨h 4, .str (Str.ofString "depth") (k 4), .int dep a2⟩, ⟨h 5, .str (Str.ofString "least") (k 5), .int 0 a3⟩, ⟨h 6, .str (Str.ofString "good") (k 6), .int g a4⟩, ⟨h 7, .str (Str.ofString "is_expression") (k 7), .bool true⟩, ⟨h 8, .str (Str.ofString "is_paired") (k 8), .bool false⟩, ⟨h 9, .str (Str.ofString "is_done") (k 9), .bool dn⟩] 9 → C) : C := by
  obtain ⟨h, k, a1, a2, a3, a4, e⟩ := S
  exact h9 h k a1 a2 a3 a4 e
theorem ScanD.mk0 {h1 h2 h3 h4 h5 h6 h7 h8 h9 : Int} {k1 k2 k3 k4 k5 k6 k7 k8 k9 : Tok} {v t : Addr} {p dep g : Int} {dn : Bool} {a1 a2 a3 a4 : Tok} : ScanD (dictOf [⟨h1, .str (Str.ofString "view") k1, .ref v⟩, ⟨h2, .str (Str.ofString "table") k2, .ref t⟩, ⟨h3, .str (Str.ofString "place") k3, .int p a1⟩, ⟨h4, .str (Str.ofString "depth") k4, .int dep a2⟩, ⟨h5, .str (Str.ofString "least") k5, .int 0 a3⟩, ⟨h6, .str (Str.ofString "good") k6, .int g a4⟩, ⟨h7, .str (Str.ofString "is_expression") k7, .bool true⟩, ⟨h8, .str (Str.ofString "is_paired") k8, .bool false⟩, ⟨h9, .str (Str.ofString "is_done") k9, .bool dn⟩] 9) v t p dep g dn :=
  ⟨fun i => [h1, h2, h3, h4, h5, h6, h7, h8, h9].getD (i - 1) 0, fun i => [k1, k2, k3, k4, k5, k6, k7, k8, k9].getD (i - 1) 0, a1, a2, a3, a4, rfl⟩
theorem scan_new {news : List (Addr × Obj)} {v t : Addr} {p : Int} {tp td : Tok} :
    Ct prog w mean mg mb 519 3 news [.ref v, .ref t, .int p tp, .int 0 td, .bool true] (fun r news' => ∃ sc sd od, r = .ref sc ∧ news' = (sc, instObj 519 sd) :: (sd, od) :: news ∧ ScanD od v t p 0 p false ∧ @Ne Nat sc sd ∧ (∀ q ∈ news, q.1 ≠ sd)) := by
  intro c00 A₀ base h₀ L m sHp sGn sDr sTk sOs Q E B F X N T hk hd hu hret
  k_steps
  all_goals (first | (refine' hret _ _ _ _ ?e1 ?e2 ?e3; (case e1 => k_asm); (case e2 => k_asm); (case e3 => exact ⟨_, _, _, rfl, rfl, ScanD.mk0, lx3, lx1⟩)) | trace_state)
example : True := by
  k_with_none
  w_top off
  exact trivial
example : True := by
  k_with "mroom" => with_unfolding_all first | ((rename (_ + _ < recursionLimit) => hZq7); first | exact room_lt hZq7 0 rfl rfl | exact room_lt hZq7 1 rfl rfl | exact room_lt hZq7 2 rfl rfl | exact room_lt hZq7 3 rfl rfl | exact room_lt hZq7 4 rfl rfl | exact room_lt hZq7 5 rfl rfl | exact room_lt hZq7 6 rfl rfl | exact room_lt hZq7 7 rfl rfl | exact room_lt hZq7 8 rfl rfl | exact room_lt hZq7 9 rfl rfl | exact room_lt hZq7 10 rfl rfl | exact room_lt hZq7 11 rfl rfl | exact room_lt hZq7 12 rfl rfl | exact room_lt hZq7 13 rfl rfl | exact room_lt hZq7 14 rfl rfl | exact room_lt hZq7 15 rfl rfl) | exact lt_ble rfl | fail "mroom"
  exact trivial
example : True := by
  k_with "munits" => with_unfolding_all first | ((rename (_ + _ + _ < cLine) => hZq7); first | exact unit_lt2 hZq7 0 rfl rfl | exact unit_lt2 hZq7 3 rfl rfl | exact unit_lt2 hZq7 6 rfl rfl | exact unit_lt2 hZq7 9 rfl rfl | exact unit_lt2 hZq7 12 rfl rfl | exact unit_lt hZq7 0 rfl rfl | exact unit_lt hZq7 3 rfl rfl | exact unit_lt hZq7 6 rfl rfl | exact unit_lt hZq7 9 rfl rfl | exact unit_lt hZq7 12 rfl rfl) | exact lt_ble rfl | fail "munits"
  exact trivial
example : True := by
  k_with "mne" => (refine neN ?_; (try dsimp only); first | assumption | exact Ne.symm (by assumption) | exact Nat.ne_of_lt (by assumption) | exact Nat.ne_of_gt (by assumption) | fail "mne")
  exact trivial
theorem scan_deeper {rest : List (Addr × Obj)} {sc sd v t : Addr} {od : Obj} {p dep g : Int} {dn : Bool} (S : ScanD od v t p dep g dn) (hd0 : 0 ≤ dep ∧ dep < 2 ^ 20) (e1 : @Ne Nat sc sd) (r1 : ∀ q ∈ rest, q.1 ≠ sd) :
    Ct prog w mean mg mb 502 1 ((sc, instObj 519 sd) :: (sd, od) :: rest) [.ref sc] (fun r news' => r = .none ∧ ∃ od', news' = (sc, instObj 519 sd) :: (sd, od') :: rest ∧ ScanD od' v t p (dep + 1) g (dep + 1 == 0)) := by
  (refine ScanD.elim S ?_; intro shh skk sa1 sa2 sa3 sa4 seq); subst seq
  intro c00 A₀ base h₀ L m sHp sGn sDr sTk sOs Q E B F X N T hk hd hu hret
  refine wpAny_call ?_
  k_dflt (refine' code_def (binds := [(Str.ofString "self", Value.ref sc)]) ?k1 ?k2 ?k3 ?k4 ?k5 ?kA ?kF ?kK ?k6 ?k7 ?k8 ?k9 ?kB ?_ ?c2 ?c3 ?c4 ?c5; (case kA => exact rfl); (case kF => exact rfl); (case kK => first | exact rfl | assumption); (case k1 => k_asm); (case k2 => k_asm); (case k3 => k_asm); (case k4 => k_asm); (case k5 => k_asm); (case k6 => k_is); (case k7 => k_is); (case k8 => ktr_room); (case k9 => first | exact BindsTo.of_eq rfl | exact binds_K (by k_in) rfl (by k_is) rfl rfl rfl); (case c5 => decide); (case kB => exact locs rfl); (case c2 => exact rfl); (case c3 => exact rfl); (case c4 => exact rfl); k_whole; intro g' L' h' FG' F' N' B' X' T'; (try dsimp only); (try k_lift B'); (try k_fold))
  k_steps

  all_goals (first | (exfalso; omega) | (refine' hret _ _ _ _ ?e1 ?e2 ?e3; (case e1 => k_asm); (case e2 => first | k_asm | (refine cb_drop (by k_asm) ?_; (intro p9 hp9; first | exact hp9 | exact .tail _ hp9 | exact .tail _ (.tail _ hp9) | exact .tail _ (.tail _ (.tail _ hp9)) | exact .tail _ (.tail _ (.tail _ (.tail _ hp9))) | exact .tail _ (.tail _ (.tail _ (.tail _ (.tail _ hp9)))) | exact .tail _ (.tail _ (.tail _ (.tail _ (.tail _ (.tail _ hp9))))) | exact .tail _ (.tail _ (.tail _ (.tail _ (.tail _ (.tail _ (.tail _ hp9))))))))); (case e3 => refine ⟨rfl, _, rfl, ScanD.mk'⟩; skip)) | trace_state)
theorem scan_shallower {rest : List (Addr × Obj)} {sc sd v t : Addr} {od : Obj} {p dep g : Int} {dn : Bool} {e : Int} {te : Tok} (S : ScanD od v t p dep g dn) (hd0 : 1 ≤ dep ∧ dep < 2 ^ 20) (e1 : @Ne Nat sc sd) (r1 : ∀ q ∈ rest, q.1 ≠ sd) :
    Ct prog w mean mg mb 509 1 ((sc, instObj 519 sd) :: (sd, od) :: rest) [.ref sc, .int e te] (fun r news' => r = .none ∧ ∃ od', news' = (sc, instObj 519 sd) :: (sd, od') :: rest ∧ ScanD od' v t p (dep - 1) g (dep - 1 == 0)) := by
  (refine ScanD.elim S ?_; intro shh skk sa1 sa2 sa3 sa4 seq); subst seq
  intro c00 A₀ base h₀ L m sHp sGn sDr sTk sOs Q E B F X N T hk hd hu hret
  refine wpAny_call ?_
  k_dflt (refine' code_def (binds := [(Str.ofString "self", Value.ref sc), (Str.ofString "end", Value.int e te)]) ?k1 ?k2 ?k3 ?k4 ?k5 ?kA ?kF ?kK ?k6 ?k7 ?k8 ?k9 ?kB ?_ ?c2 ?c3 ?c4 ?c5; (case kA => exact rfl); (case kF => exact rfl); (case kK => first | exact rfl | assumption); (case k1 => k_asm); (case k2 => k_asm); (case k3 => k_asm); (case k4 => k_asm); (case k5 => k_asm); (case k6 => k_is); (case k7 => k_is); (case k8 => ktr_room); (case k9 => first | exact BindsTo.of_eq rfl | exact binds_K (by k_in) rfl (by k_is) rfl rfl rfl); (case c5 => decide); (case kB => exact locs rfl); (case c2 => exact rfl); (case c3 => exact rfl); (case c4 => exact rfl); k_whole; intro g' L' h' FG' F' N' B' X' T'; (try dsimp only); (try k_lift B'); (try k_fold))
  k_steps

  all_goals (first | (exfalso; omega) | (refine' hret _ _ _ _ ?e1 ?e2 ?e3; (case e1 => k_asm); (case e2 => first | k_asm | (refine cb_drop (by k_asm) ?_; (intro p9 hp9; first | exact hp9 | exact .tail _ hp9 | exact .tail _ (.tail _ hp9) | exact .tail _ (.tail _ (.tail _ hp9)) | exact .tail _ (.tail _ (.tail _ (.tail _ hp9))) | exact .tail _ (.tail _ (.tail _ (.tail _ (.tail _ hp9)))) | exact .tail _ (.tail _ (.tail _ (.tail _ (.tail _ (.tail _ hp9))))) | exact .tail _ (.tail _ (.tail _ (.tail _ (.tail _ (.tail _ (.tail _ hp9))))))))); (case e3 => refine ⟨rfl, _, rfl, ScanD.mk'⟩; skip)) | trace_state)
example : True := by
  k_with_none
  w_top off
  exact trivial
example : True := by
  k_with "mroom" => with_unfolding_all first | ((rename (_ + _ < recursionLimit) => hZq7); first | exact room_lt hZq7 0 rfl rfl | exact room_lt hZq7 1 rfl rfl | exact room_lt hZq7 2 rfl rfl | exact room_lt hZq7 3 rfl rfl | exact room_lt hZq7 4 rfl rfl | exact room_lt hZq7 5 rfl rfl | exact room_lt hZq7 6 rfl rfl | exact room_lt hZq7 7 rfl rfl | exact room_lt hZq7 8 rfl rfl | exact room_lt hZq7 9 rfl rfl | exact room_lt hZq7 10 rfl rfl | exact room_lt hZq7 11 rfl rfl | exact room_lt hZq7 12 rfl rfl | exact room_lt hZq7 13 rfl rfl | exact room_lt hZq7 14 rfl rfl | exact room_lt hZq7 15 rfl rfl) | exact lt_ble rfl | fail "mroom"
  exact trivial
example : True := by
  k_with "munits" => with_unfolding_all first | ((rename (_ + _ + _ < cLine) => hZq7); first | exact unit_lt2 hZq7 0 rfl rfl | exact unit_lt2 hZq7 3 rfl rfl | exact unit_lt2 hZq7 6 rfl rfl | exact unit_lt2 hZq7 9 rfl rfl | exact unit_lt2 hZq7 12 rfl rfl | exact unit_lt hZq7 0 rfl rfl | exact unit_lt hZq7 3 rfl rfl | exact unit_lt hZq7 6 rfl rfl | exact unit_lt hZq7 9 rfl rfl | exact unit_lt hZq7 12 rfl rfl) | exact lt_ble rfl | fail "munits"
  exact trivial
example : True := by
  k_with "mne" => (refine neN ?_; (try dsimp only); first | assumption | exact Ne.symm (by assumption) | exact Nat.ne_of_lt (by assumption) | exact Nat.ne_of_gt (by assumption) | fail "mne")
  exact trivial
example : True := by
  k_with "call ref" => (k_here; (with_reducible show wpAny _ _ (PySem.call (Value.ref 502) _) _ _ _); k_dflt (refine' Ct.use (scan_deeper ?hS ?hd0 ?q1 ?q2) ?kB ?kF ?kX ?kN ?kT ?kk ?kd ?ku ?_; (case kB => k_asm); (case kF => k_asm); (case kX => k_asm); (case kN => first | k_asm | exact news_tl (by k_asm) | exact news_tl (news_tl (by k_asm))); (case kT => k_asm); (case kk => first | exact rfl | assumption); (case hS => exact ScanD.mk'); (case hd0 => (constructor <;> omega)); (case q1 => (first | assumption | omega)); (case q2 => assumption); (case kd => ktr_room); (case ku => ktr_units); k_whole); intro v9 n9 h9 tk9 F9 N9 p9; refine goal_gen ?_; intro GG9 kGG9; obtain ⟨p8, od9, e9, S9⟩ := p9; refine kGG9 ?_; clear kGG9 GG9; subst p8; subst e9; (refine ScanD.elim S9 ?_; intro shh skk sa1 sa2 sa3 sa4 seq); subst seq; (try dsimp only); (try k_sweep))
  exact trivial
example : True := by
  k_with "call ref" => (k_here; (with_reducible show wpAny _ _ (PySem.call (Value.ref 509) _) _ _ _); k_dflt (refine' Ct.use (scan_shallower ?hS ?hd0 ?q1 ?q2) ?kB ?kF ?kX ?kN ?kT ?kk ?kd ?ku ?_; (case kB => k_asm); (case kF => k_asm); (case kX => k_asm); (case kN => first | k_asm | exact news_tl (by k_asm) | exact news_tl (news_tl (by k_asm))); (case kT => k_asm); (case kk => first | exact rfl | assumption); (case hS => exact ScanD.mk'); (case hd0 => (constructor <;> omega)); (case q1 => (first | assumption | omega)); (case q2 => assumption); (case kd => ktr_room); (case ku => ktr_units); k_whole); intro v9 n9 h9 tk9 F9 N9 p9; refine goal_gen ?_; intro GG9 kGG9; obtain ⟨p8, od9, e9, S9⟩ := p9; refine kGG9 ?_; clear kGG9 GG9; subst p8; subst e9; (refine ScanD.elim S9 ?_; intro shh skk sa1 sa2 sa3 sa4 seq); subst seq; (try dsimp only); (try k_sweep))
  exact trivial
def sdelta (kd : String) : Int := if kd = "(" then 1 else if kd = ")" then -1 else 0
theorem done_iff {d e : Int} (h : e = d) : ((d == 0) = true ↔ e = 0) := by rw [h]; simp
theorem take_kind {rest : List (Addr × Obj)} {sc sd v t : Addr} {od : Obj} {p dep g : Int} {kd : String} {k1 k2 k3 : Tok} (S : ScanD od v t p dep g false) (hkd : kd = ">" ∨ kd = " " ∨ kd = "(" ∨ kd = ")") (hd0 : 0 ≤ dep ∧ dep < 2 ^ 20) (hd1 : 1 ≤ dep ∨ kd = "(") (e1 : @Ne Nat sc sd) (r1 : ∀ q ∈ rest, q.1 ≠ sd) :
    Ct prog w mean mg mb 551 3 ((sc, instObj 519 sd) :: (sd, od) :: rest) [.ref sc, .str (Str.ofString kd) k1, .str (Str.ofString "(") k2, .str (Str.ofString ")") k3]
      (fun r news' => r = .none ∧ ∃ od' dn', news' = (sc, instObj 519 sd) :: (sd, od') :: rest ∧ ScanD od' v t p (dep + sdelta kd) g dn' ∧ (dn' = true ↔ dep + sdelta kd = 0)) := by
  (refine ScanD.elim S ?_; intro shh skk sa1 sa2 sa3 sa4 seq); subst seq
  have sd1 : sdelta "(" = 1 := rfl
  have sd2 : sdelta ")" = -1 := rfl
  have sd3 : sdelta " " = 0 := rfl
  have sd4 : sdelta ">" = 0 := rfl
  rcases hkd with rfl | rfl | rfl | rfl
  all_goals (simp only [reduceCtorEq, String.reduceEq, or_false, or_true] at hd1)
  · intro c00 A₀ base h₀ L m sHp sGn sDr sTk sOs Q E B F X N T hk hd hu hret
    refine wpAny_call ?_
    k_dflt (refine' code_def (binds := [(Str.ofString "scan", Value.ref sc), (Str.ofString "kind", Value.str (Str.ofString ">") k1), (Str.ofString "opens", Value.str (Str.ofString "(") k2), (Str.ofString "closes", Value.str (Str.ofString ")") k3)]) ?k1 ?k2 ?k3 ?k4 ?k5 ?kA ?kF ?kK ?k6 ?k7 ?k8 ?k9 ?kB ?_ ?c2 ?c3 ?c4 ?c5; (case kA => exact rfl); (case kF => exact rfl); (case kK => first | exact rfl | assumption); (case k1 => k_asm); (case k2 => k_asm); (case k3 => k_asm); (case k4 => k_asm); (case k5 => k_asm); (case k6 => k_is); (case k7 => k_is); (case k8 => ktr_room); (case k9 => first | exact BindsTo.of_eq rfl | exact binds_K (by k_in) rfl (by k_is) rfl rfl rfl); (case c5 => decide); (case kB => exact locs rfl); (case c2 => exact rfl); (case c3 => exact rfl); (case c4 => exact rfl); k_whole; intro g' L' h' FG' F' N' B' X' T'; (try dsimp only); (try k_lift B'); (try k_fold))
    k_steps
    all_goals (first | (refine' hret _ _ _ _ ?e1 ?e2 ?e3; (case e1 => k_asm); (case e2 => first | k_asm | (refine cb_drop (by k_asm) ?_; (intro p9 hp9; first | exact hp9 | exact .tail _ hp9 | exact .tail _ (.tail _ hp9) | exact .tail _ (.tail _ (.tail _ hp9)) | exact .tail _ (.tail _ (.tail _ (.tail _ hp9))) | exact .tail _ (.tail _ (.tail _ (.tail _ (.tail _ hp9)))) | exact .tail _ (.tail _ (.tail _ (.tail _ (.tail _ (.tail _ hp9))))) | exact .tail _ (.tail _ (.tail _ (.tail _ (.tail _ (.tail _ (.tail _ hp9))))))))); (case e3 => refine ⟨rfl, _, false, rfl, ?sA, ?sB⟩; (case sA => first | (rw [sd3, Int.add_zero]; exact ScanD.mk') | (rw [sd4, Int.add_zero]; exact ScanD.mk')); (case sB => first | (rw [sd3]; simp; omega) | (rw [sd4]; simp; omega)))) | trace_state)
  · intro c00 A₀ base h₀ L m sHp sGn sDr sTk sOs Q E B F X N T hk hd hu hret
    refine wpAny_call ?_
    k_dflt (refine' code_def (binds := [(Str.ofString "scan", Value.ref sc), (Str.ofString "kind", Value.str (Str.ofString " ") k1), (Str.ofString "opens", Value.str (Str.ofString "(") k2), (Str.ofString "closes", Value.str (Str.ofString ")") k3)]) ?k1 ?k2 ?k3 ?k4 ?k5 ?kA ?kF ?kK ?k6 ?k7 ?k8 ?k9 ?kB ?_ ?c2 ?c3 ?c4 ?c5; (case kA => exact rfl); (case kF => exact rfl); (case kK => first | exact rfl | assumption); (case k1 => k_asm); (case k2 => k_asm); (case k3 => k_asm); (case k4 => k_asm); (case k5 => k_asm); (case k6 => k_is); (case k7 => k_is); (case k8 => ktr_room); (case k9 => first | exact BindsTo.of_eq rfl | exact binds_K (by k_in) rfl (by k_is) rfl rfl rfl); (case c5 => decide); (case kB => exact locs rfl); (case c2 => exact rfl); (case c3 => exact rfl); (case c4 => exact rfl); k_whole; intro g' L' h' FG' F' N' B' X' T'; (try dsimp only); (try k_lift B'); (try k_fold))
    k_steps
    all_goals (first | (refine' hret _ _ _ _ ?e1 ?e2 ?e3; (case e1 => k_asm); (case e2 => first | k_asm | (refine cb_drop (by k_asm) ?_; (intro p9 hp9; first | exact hp9 | exact .tail _ hp9 | exact .tail _ (.tail _ hp9) | exact .tail _ (.tail _ (.tail _ hp9)) | exact .tail _ (.tail _ (.tail _ (.tail _ hp9))) | exact .tail _ (.tail _ (.tail _ (.tail _ (.tail _ hp9)))) | exact .tail _ (.tail _ (.tail _ (.tail _ (.tail _ (.tail _ hp9))))) | exact .tail _ (.tail _ (.tail _ (.tail _ (.tail _ (.tail _ (.tail _ hp9))))))))); (case e3 => refine ⟨rfl, _, false, rfl, ?sA, ?sB⟩; (case sA => first | (rw [sd3, Int.add_zero]; exact ScanD.mk') | (rw [sd4, Int.add_zero]; exact ScanD.mk')); (case sB => first | (rw [sd3]; simp; omega) | (rw [sd4]; simp; omega)))) | trace_state)
  · intro c00 A₀ base h₀ L m sHp sGn sDr sTk sOs Q E B F X N T hk hd hu hret
    refine wpAny_call ?_
    k_dflt (refine' code_def (binds := [(Str.ofString "scan", Value.ref sc), (Str.ofString "kind", Value.str (Str.ofString "(") k1), (Str.ofString "opens", Value.str (Str.ofString "(") k2), (Str.ofString "closes", Value.str (Str.ofString ")") k3)]) ?k1 ?k2 ?k3 ?k4 ?k5 ?kA ?kF ?kK ?k6 ?k7 ?k8 ?k9 ?kB ?_ ?c2 ?c3 ?c4 ?c5; (case kA => exact rfl); (case kF => exact rfl); (case kK => first | exact rfl | assumption); (case k1 => k_asm); (case k2 => k_asm); (case k3 => k_asm); (case k4 => k_asm); (case k5 => k_asm); (case k6 => k_is); (case k7 => k_is); (case k8 => ktr_room); (case k9 => first | exact BindsTo.of_eq rfl | exact binds_K (by k_in) rfl (by k_is) rfl rfl rfl); (case c5 => decide); (case kB => exact locs rfl); (case c2 => exact rfl); (case c3 => exact rfl); (case c4 => exact rfl); k_whole; intro g' L' h' FG' F' N' B' X' T'; (try dsimp only); (try k_lift B'); (try k_fold))
    k_steps
    all_goals (first | (refine' hret _ _ _ _ ?e1 ?e2 ?e3; (case e1 => k_asm); (case e2 => first | k_asm | (refine cb_drop (by k_asm) ?_; (intro p9 hp9; first | exact hp9 | exact .tail _ hp9 | exact .tail _ (.tail _ hp9) | exact .tail _ (.tail _ (.tail _ hp9)) | exact .tail _ (.tail _ (.tail _ (.tail _ hp9))) | exact .tail _ (.tail _ (.tail _ (.tail _ (.tail _ hp9)))) | exact .tail _ (.tail _ (.tail _ (.tail _ (.tail _ (.tail _ hp9))))) | exact .tail _ (.tail _ (.tail _ (.tail _ (.tail _ (.tail _ (.tail _ hp9))))))))); (case e3 => refine ⟨rfl, _, (dep + 1 == 0), rfl, ?sA, ?sB⟩; (case sA => rw [sd1]; exact ScanD.mk'); (case sB => rw [sd1]; exact done_iff rfl))) | trace_state)
  · intro c00 A₀ base h₀ L m sHp sGn sDr sTk sOs Q E B F X N T hk hd hu hret
    refine wpAny_call ?_
    k_dflt (refine' code_def (binds := [(Str.ofString "scan", Value.ref sc), (Str.ofString "kind", Value.str (Str.ofString ")") k1), (Str.ofString "opens", Value.str (Str.ofString "(") k2), (Str.ofString "closes", Value.str (Str.ofString ")") k3)]) ?k1 ?k2 ?k3 ?k4 ?k5 ?kA ?kF ?kK ?k6 ?k7 ?k8 ?k9 ?kB ?_ ?c2 ?c3 ?c4 ?c5; (case kA => exact rfl); (case kF => exact rfl); (case kK => first | exact rfl | assumption); (case k1 => k_asm); (case k2 => k_asm); (case k3 => k_asm); (case k4 => k_asm); (case k5 => k_asm); (case k6 => k_is); (case k7 => k_is); (case k8 => ktr_room); (case k9 => first | exact BindsTo.of_eq rfl | exact binds_K (by k_in) rfl (by k_is) rfl rfl rfl); (case c5 => decide); (case kB => exact locs rfl); (case c2 => exact rfl); (case c3 => exact rfl); (case c4 => exact rfl); k_whole; intro g' L' h' FG' F' N' B' X' T'; (try dsimp only); (try k_lift B'); (try k_fold))
    k_steps
    all_goals (first | (refine' hret _ _ _ _ ?e1 ?e2 ?e3; (case e1 => k_asm); (case e2 => first | k_asm | (refine cb_drop (by k_asm) ?_; (intro p9 hp9; first | exact hp9 | exact .tail _ hp9 | exact .tail _ (.tail _ hp9) | exact .tail _ (.tail _ (.tail _ hp9)) | exact .tail _ (.tail _ (.tail _ (.tail _ hp9))) | exact .tail _ (.tail _ (.tail _ (.tail _ (.tail _ hp9)))) | exact .tail _ (.tail _ (.tail _ (.tail _ (.tail _ (.tail _ hp9))))) | exact .tail _ (.tail _ (.tail _ (.tail _ (.tail _ (.tail _ (.tail _ hp9))))))))); (case e3 => refine ⟨rfl, _, (dep - 1 == 0), rfl, ?sA, ?sB⟩; (case sA => rw [sd2, ← Int.sub_eq_add_neg]; exact ScanD.mk'); (case sB => rw [sd2, ← Int.sub_eq_add_neg]; exact done_iff rfl))) | trace_state)
example : True := by
  k_with_none
  w_top off
  exact trivial
example : True := by
  k_with "mroom" => with_unfolding_all first | ((rename (_ + _ < recursionLimit) => hZq7); first | exact room_lt hZq7 0 rfl rfl | exact room_lt hZq7 1 rfl rfl | exact room_lt hZq7 2 rfl rfl | exact room_lt hZq7 3 rfl rfl | exact room_lt hZq7 4 rfl rfl | exact room_lt hZq7 5 rfl rfl | exact room_lt hZq7 6 rfl rfl | exact room_lt hZq7 7 rfl rfl | exact room_lt hZq7 8 rfl rfl | exact room_lt hZq7 9 rfl rfl | exact room_lt hZq7 10 rfl rfl | exact room_lt hZq7 11 rfl rfl | exact room_lt hZq7 12 rfl rfl | exact room_lt hZq7 13 rfl rfl | exact room_lt hZq7 14 rfl rfl | exact room_lt hZq7 15 rfl rfl) | exact lt_ble rfl | fail "mroom"
  exact trivial
example : True := by
  k_with "munits" => with_unfolding_all first | ((rename (_ + _ + _ < cLine) => hZq7); first | exact unit_lt2 hZq7 0 rfl rfl | exact unit_lt2 hZq7 3 rfl rfl | exact unit_lt2 hZq7 6 rfl rfl | exact unit_lt2 hZq7 9 rfl rfl | exact unit_lt2 hZq7 12 rfl rfl | exact unit_lt hZq7 0 rfl rfl | exact unit_lt hZq7 3 rfl rfl | exact unit_lt hZq7 6 rfl rfl | exact unit_lt hZq7 9 rfl rfl | exact unit_lt hZq7 12 rfl rfl) | exact lt_ble rfl | fail "munits"
  exact trivial
example : True := by
  k_with "mne" => (refine neN ?_; (try dsimp only); first | assumption | exact Ne.symm (by assumption) | exact Nat.ne_of_lt (by assumption) | exact Nat.ne_of_gt (by assumption) | fail "mne")
  exact trivial
example : True := by
  k_with "call ref" => (k_here; (with_reducible show wpAny _ _ (PySem.call (Value.ref 292) _) _ _ _); k_dflt (refine' Ct.use (begin_mark ?hV ?hT ?hal ?hin ?hp) ?kB ?kF ?kX ?kN ?kT ?kk ?kd ?ku ?_; (case kB => k_asm); (case kF => k_asm); (case kX => k_asm); (case kN => first | k_asm | exact news_tl (by k_asm) | exact news_tl (news_tl (by k_asm))); (case kT => k_asm); (case kk => first | exact rfl | assumption); (case hV => (first | assumption | (refine ViewIn.mono (by assumption) ?_; (intro p9 hp9; first | exact hp9 | exact .tail _ hp9 | exact .tail _ (.tail _ hp9) | exact .tail _ (.tail _ (.tail _ hp9)) | exact .tail _ (.tail _ (.tail _ (.tail _ hp9))) | exact .tail _ (.tail _ (.tail _ (.tail _ (.tail _ hp9)))) | exact .tail _ (.tail _ (.tail _ (.tail _ (.tail _ (.tail _ hp9))))) | exact .tail _ (.tail _ (.tail _ (.tail _ (.tail _ (.tail _ (.tail _ hp9)))))))))); (case hT => (first | assumption | (refine TabIn.mono (by assumption) ?_; (intro p9 hp9; first | exact hp9 | exact .tail _ hp9 | exact .tail _ (.tail _ hp9) | exact .tail _ (.tail _ (.tail _ hp9)) | exact .tail _ (.tail _ (.tail _ (.tail _ hp9))) | exact .tail _ (.tail _ (.tail _ (.tail _ (.tail _ hp9)))) | exact .tail _ (.tail _ (.tail _ (.tail _ (.tail _ (.tail _ hp9))))) | exact .tail _ (.tail _ (.tail _ (.tail _ (.tail _ (.tail _ (.tail _ hp9)))))))))); (case hal => assumption); (case hin => (first | assumption | (constructor <;> omega))); (case hp => (first | assumption | (constructor <;> omega))); (case kd => ktr_room); (case ku => ktr_units); k_whole); intro v9 n9 h9 tk9 F9 N9 p9; obtain ⟨e9, p9⟩ := p9; (have e9 := e9.symm); subst e9; subst p9; (try dsimp only); (try k_sweep))
  exact trivial
example : True := by
  k_with "call ref" => (k_here; (with_reducible show wpAny _ _ (PySem.call (Value.ref 278) _) _ _ _); k_dflt (refine' Ct.use (syntax_at_in ?hV ?hT ?hb ?hal ?hin ?hp) ?kB ?kF ?kX ?kN ?kT ?kk ?kd ?ku ?_; (case kB => k_asm); (case kF => k_asm); (case kX => k_asm); (case kN => first | k_asm | exact news_tl (by k_asm) | exact news_tl (news_tl (by k_asm))); (case kT => k_asm); (case kk => first | exact rfl | assumption); (case hV => assumption); (case hT => assumption); (case hb => first | assumption | exact fun _ h9 => h9 | ((intro p9 hp9; first | exact hp9 | exact .tail _ hp9 | exact .tail _ (.tail _ hp9) | exact .tail _ (.tail _ (.tail _ hp9)) | exact .tail _ (.tail _ (.tail _ (.tail _ hp9))) | exact .tail _ (.tail _ (.tail _ (.tail _ (.tail _ hp9)))) | exact .tail _ (.tail _ (.tail _ (.tail _ (.tail _ (.tail _ hp9))))) | exact .tail _ (.tail _ (.tail _ (.tail _ (.tail _ (.tail _ (.tail _ hp9))))))))); (case hal => assumption); (case hin => (first | assumption | (constructor <;> omega))); (case hp => (first | assumption | (constructor <;> omega))); (case kd => ktr_room); (case ku => ktr_units); k_whole); intro v9 n9 h9 tk9 F9 N9 p9; refine goal_gen ?_; intro GG9 kGG9; obtain ⟨e9, y9, p9, hY9⟩ := p9; refine kGG9 ?_; clear kGG9 GG9; (have e9 := e9.symm); subst e9; subst p9; (have hZ9 := hY9.mono (by first | assumption | exact fun _ h9 => h9 | ((intro p9 hp9; first | exact hp9 | exact .tail _ hp9 | exact .tail _ (.tail _ hp9) | exact .tail _ (.tail _ (.tail _ hp9)) | exact .tail _ (.tail _ (.tail _ (.tail _ hp9))) | exact .tail _ (.tail _ (.tail _ (.tail _ (.tail _ hp9)))) | exact .tail _ (.tail _ (.tail _ (.tail _ (.tail _ (.tail _ hp9))))) | exact .tail _ (.tail _ (.tail _ (.tail _ (.tail _ (.tail _ (.tail _ hp9)))))))))); (unfold SynIn at hZ9); (obtain ⟨yd9, yn9, yh1, yh2, yh3, yt1, yt2, yt3, yt4, yt5, ymv, ym1, ym2⟩ := hZ9); (try dsimp only); (try k_sweep))
  exact trivial
example : True := by
  k_with "call ref" => (k_here; (with_reducible show wpAny _ _ (PySem.call (Value.ref 120) _) _ _ _); k_dflt (refine' Ct.use (syn_has ?hY ?hf) ?kB ?kF ?kX ?kN ?kT ?kk ?kd ?ku ?_; (case kB => k_asm); (case kF => k_asm); (case kX => k_asm); (case kN => first | k_asm | exact news_tl (by k_asm) | exact news_tl (news_tl (by k_asm))); (case kT => k_asm); (case kk => first | exact rfl | assumption); (case hY => (first | assumption | (refine SynIn.mono (by assumption) ?_; (intro p9 hp9; first | exact hp9 | exact .tail _ hp9 | exact .tail _ (.tail _ hp9) | exact .tail _ (.tail _ (.tail _ hp9)) | exact .tail _ (.tail _ (.tail _ (.tail _ hp9))) | exact .tail _ (.tail _ (.tail _ (.tail _ (.tail _ hp9)))) | exact .tail _ (.tail _ (.tail _ (.tail _ (.tail _ (.tail _ hp9))))) | exact .tail _ (.tail _ (.tail _ (.tail _ (.tail _ (.tail _ (.tail _ hp9)))))))))); (case hf => decide +kernel); (case kd => ktr_room); (case ku => ktr_units); k_whole); intro v9 n9 h9 tk9 F9 N9 p9; obtain ⟨e9, p9⟩ := p9; (have e9 := e9.symm); subst e9; subst p9; (try dsimp only); (try k_sweep))
  exact trivial
example : True := by
  k_with "call ref" => (k_here; (with_reducible show wpAny _ _ (PySem.call (Value.ref 127) _) _ _ _); k_dflt (refine' Ct.use (syn_isEscape ?hY ?hK) ?kB ?kF ?kX ?kN ?kT ?kk ?kd ?ku ?_; (case kB => k_asm); (case kF => k_asm); (case kX => k_asm); (case kN => first | k_asm | exact news_tl (by k_asm) | exact news_tl (news_tl (by k_asm))); (case kT => k_asm); (case kk => first | exact rfl | assumption); (case hY => (first | assumption | (refine SynIn.mono (by assumption) ?_; (intro p9 hp9; first | exact hp9 | exact .tail _ hp9 | exact .tail _ (.tail _ hp9) | exact .tail _ (.tail _ (.tail _ hp9)) | exact .tail _ (.tail _ (.tail _ (.tail _ hp9))) | exact .tail _ (.tail _ (.tail _ (.tail _ (.tail _ hp9)))) | exact .tail _ (.tail _ (.tail _ (.tail _ (.tail _ (.tail _ hp9))))) | exact .tail _ (.tail _ (.tail _ (.tail _ (.tail _ (.tail _ (.tail _ hp9)))))))))); (case hK => assumption); (case kd => ktr_room); (case ku => ktr_units); k_whole); intro v9 n9 h9 tk9 F9 N9 p9; obtain ⟨e9, p9⟩ := p9; (have e9 := e9.symm); subst e9; subst p9; (try dsimp only); (try k_sweep))
  exact trivial
example : True := by
  k_with "call ref" => (k_here; (with_reducible show wpAny _ _ (PySem.call (Value.ref 134) _) _ _ _); k_dflt (refine' Ct.use (syn_isWordB ?hY ?hK ?hb) ?kB ?kF ?kX ?kN ?kT ?kk ?kd ?ku ?_; (case kB => k_asm); (case kF => k_asm); (case kX => k_asm); (case kN => first | k_asm | exact news_tl (by k_asm) | exact news_tl (news_tl (by k_asm))); (case kT => k_asm); (case kk => first | exact rfl | assumption); (case hY => (first | assumption | (refine SynIn.mono (by assumption) ?_; (intro p9 hp9; first | exact hp9 | exact .tail _ hp9 | exact .tail _ (.tail _ hp9) | exact .tail _ (.tail _ (.tail _ hp9)) | exact .tail _ (.tail _ (.tail _ (.tail _ hp9))) | exact .tail _ (.tail _ (.tail _ (.tail _ (.tail _ hp9)))) | exact .tail _ (.tail _ (.tail _ (.tail _ (.tail _ (.tail _ hp9))))) | exact .tail _ (.tail _ (.tail _ (.tail _ (.tail _ (.tail _ (.tail _ hp9)))))))))); (case hK => assumption); (case hb => assumption); (case kd => ktr_room); (case ku => ktr_units); k_whole); intro v9 n9 h9 tk9 F9 N9 p9; obtain ⟨e9, p9⟩ := p9; (have e9 := e9.symm); subst e9; subst p9; (try dsimp only); (try k_sweep))
  exact trivial
example : True := by
  k_with "call ref" => (k_here; (with_reducible show wpAny _ _ (PySem.call (Value.ref 551) _) _ _ _); k_dflt (refine' Ct.use (take_kind ?hS ?hkd ?hd0 ?hd1 ?q1 ?q2) ?kB ?kF ?kX ?kN ?kT ?kk ?kd ?ku ?_; (case kB => k_asm); (case kF => k_asm); (case kX => k_asm); (case kN => first | k_asm | exact news_tl (by k_asm) | exact news_tl (news_tl (by k_asm))); (case kT => k_asm); (case kk => first | exact rfl | assumption); (case hS => exact ScanD.mk'); (case hkd => assumption); (case hd0 => (first | assumption | (constructor <;> omega))); (case hd1 => assumption); (case q1 => (first | assumption | omega)); (case q2 => assumption); (case kd => ktr_room); (case ku => ktr_units); k_whole); intro v9 n9 h9 tk9 F9 N9 p9; refine goal_gen ?_; intro GG9 kGG9; obtain ⟨p8, od9, dn9, e9, S9, hdn9⟩ := p9; refine kGG9 ?_; clear kGG9 GG9; subst p8; subst e9; (refine ScanD.elim S9 ?_; intro shh skk sa1 sa2 sa3 sa4 seq); subst seq; (try dsimp only); (try k_sweep))
  exact trivial
theorem kd_rest {kd : String} (h : Kd kd) (h2 : kd ≠ "w") : kd = ">" ∨ kd = " " ∨ kd = "(" ∨ kd = ")" := by
  rcases h with h | h | h | h | h
  · exact .inl h
  · exact .inr (.inl h)
  · exact .inr (.inr (.inl h))
  · exact .inr (.inr (.inr h))
  · exact absurd h h2
theorem step_forward {rest : List (Addr × Obj)} {sc sd v t : Addr} {od : Obj} {p dep g : Int} {ns : List Int} (V : ViewIn rest v ns) (Tb : TabIn prog w rest t) (hal : ∀ x ∈ ns, Alpha x) (hin : 1 ≤ p ∧ p < 1 + ns.length) (hp : -(2^62) < p ∧ p < 2 ^ 61) (S : ScanD od v t p dep g false) (hd0 : 0 ≤ dep ∧ dep < 2 ^ 20) (hd1 : 1 ≤ dep ∨ kindOf (codeAt ns p) = "(") (e1 : @Ne Nat sc sd) (r1 : ∀ q ∈ rest, q.1 ≠ sd) :
    Ct prog w mean mg mb 544 6 ((sc, instObj 519 sd) :: (sd, od) :: rest) [.ref sc] (fun r news' => r = .none ∧ ∃ od' dn', news' = (sc, instObj 519 sd) :: (sd, od') :: rest ∧ ScanD od' v t (p + 1) (dep + sdelta (kindOf (codeAt ns p))) g dn' ∧ (dn' = true ↔ dep + sdelta (kindOf (codeAt ns p)) = 0)) := by
  refine ViewIn.elim V ?_; intro vd vl vvs vc vn vh1 vh2 vt1 vt2 vt3 vm1 vm2 vx3 vx4 vx5; clear vx3 vx4 vx5
  refine TabIn.elim Tb ?_; intro td tr tt2 ttd2 tr2 tn tn2 th1 th2 th3 th4 tk1 tk2 tk3 tk4 to to2 tkvs tkvs2 tm1 tm2 tx3 tx4 tx5 tx6 tx7 tx8 tx9 txa txb txc; clear tx3 tx4 tx5 tx6 tx7 tx8 tx9 txa txb txc
  (refine ScanD.elim S ?_; intro shh skk sa1 sa2 sa3 sa4 seq); subst seq
  have hK := kd_of (codeAt ns p)
  have n3 := kd_ne (x := "\"") hK (by decide +kernel)
  have n4 := kd_ne (x := "|") hK (by decide +kernel)
  by_cases hw : kindOf (codeAt ns p) = "w"
  · have hw1 : (kindOf (codeAt ns p) == "w") = true := by rw [hw]; rfl
    have hd2 : 1 ≤ dep := by rcases hd1 with h | h; exact h; rw [hw] at h; exact absurd h (by decide)
    have hd3 : (dep == 0) = false := by simp; omega
    have sdw : sdelta (kindOf (codeAt ns p)) = 0 := by rw [hw]; rfl
    intro c00 A₀ base h₀ L m sHp sGn sDr sTk sOs Q E B F X N T hk hd hu hret
    refine wpAny_call ?_
    k_dflt (refine' code_def (binds := [(Str.ofString "scan", Value.ref sc)]) ?k1 ?k2 ?k3 ?k4 ?k5 ?kA ?kF ?kK ?k6 ?k7 ?k8 ?k9 ?kB ?_ ?c2 ?c3 ?c4 ?c5; (case kA => exact rfl); (case kF => exact rfl); (case kK => first | exact rfl | assumption); (case k1 => k_asm); (case k2 => k_asm); (case k3 => k_asm); (case k4 => k_asm); (case k5 => k_asm); (case k6 => k_is); (case k7 => k_is); (case k8 => ktr_room); (case k9 => first | exact BindsTo.of_eq rfl | exact binds_K (by k_in) rfl (by k_is) rfl rfl rfl); (case c5 => decide); (case kB => exact locs rfl); (case c2 => exact rfl); (case c3 => exact rfl); (case c4 => exact rfl); k_whole; intro g' L' h' FG' F' N' B' X' T'; (try dsimp only); (try k_lift B'); (try k_fold))
    k_steps

    all_goals (first | (refine' hret _ _ _ _ ?e1 ?e2 ?e3; (case e1 => k_asm); (case e2 => exact news_tl (by k_asm)); (case e3 => refine ⟨rfl, _, false, rfl, ?sA, ?sB⟩; (case sA => rw [sdw, Int.add_zero]; exact ScanD.mk'); (case sB => rw [sdw]; simp; omega))) | trace_state)
  · have hw1 : (kindOf (codeAt ns p) == "w") = false := by simpa using hw
    have hkd := kd_rest hK hw
    intro c00 A₀ base h₀ L m sHp sGn sDr sTk sOs Q E B F X N T hk hd hu hret
    refine wpAny_call ?_
    k_dflt (refine' code_def (binds := [(Str.ofString "scan", Value.ref sc)]) ?k1 ?k2 ?k3 ?k4 ?k5 ?kA ?kF ?kK ?k6 ?k7 ?k8 ?k9 ?kB ?_ ?c2 ?c3 ?c4 ?c5; (case kA => exact rfl); (case kF => exact rfl); (case kK => first | exact rfl | assumption); (case k1 => k_asm); (case k2 => k_asm); (case k3 => k_asm); (case k4 => k_asm); (case k5 => k_asm); (case k6 => k_is); (case k7 => k_is); (case k8 => ktr_room); (case k9 => first | exact BindsTo.of_eq rfl | exact binds_K (by k_in) rfl (by k_is) rfl rfl rfl); (case c5 => decide); (case kB => exact locs rfl); (case c2 => exact rfl); (case c3 => exact rfl); (case c4 => exact rfl); k_whole; intro g' L' h' FG' F' N' B' X' T'; (try dsimp only); (try k_lift B'); (try k_fold))
    k_steps

    all_goals (first | (refine' hret _ _ _ _ ?e1 ?e2 ?e3; (case e1 => k_asm); (case e2 => first | k_asm | (refine cb_drop (by k_asm) ?_; (intro p9 hp9; first | exact hp9 | exact .tail _ hp9 | exact .tail _ (.tail _ hp9) | exact .tail _ (.tail _ (.tail _ hp9)) | exact .tail _ (.tail _ (.tail _ (.tail _ hp9))) | exact .tail _ (.tail _ (.tail _ (.tail _ (.tail _ hp9)))) | exact .tail _ (.tail _ (.tail _ (.tail _ (.tail _ (.tail _ hp9))))) | exact .tail _ (.tail _ (.tail _ (.tail _ (.tail _ (.tail _ (.tail _ hp9))))))))); (case e3 => refine ⟨rfl, _, _, rfl, ScanD.mk', hdn9⟩; skip)) | trace_state)
example : True := by
  k_with_none
  w_top off
  exact trivial
example : True := by
  k_with "mroom" => with_unfolding_all first | ((rename (_ + _ < recursionLimit) => hZq7); first | exact room_lt hZq7 0 rfl rfl | exact room_lt hZq7 1 rfl rfl | exact room_lt hZq7 2 rfl rfl | exact room_lt hZq7 3 rfl rfl | exact room_lt hZq7 4 rfl rfl | exact room_lt hZq7 5 rfl rfl | exact room_lt hZq7 6 rfl rfl | exact room_lt hZq7 7 rfl rfl | exact room_lt hZq7 8 rfl rfl | exact room_lt hZq7 9 rfl rfl | exact room_lt hZq7 10 rfl rfl | exact room_lt hZq7 11 rfl rfl | exact room_lt hZq7 12 rfl rfl | exact room_lt hZq7 13 rfl rfl | exact room_lt hZq7 14 rfl rfl | exact room_lt hZq7 15 rfl rfl) | exact lt_ble rfl | fail "mroom"
  exact trivial
example : True := by
  k_with "munits" => with_unfolding_all first | ((rename (_ + _ + _ < cLine) => hZq7); first | exact unit_lt2 hZq7 0 rfl rfl | exact unit_lt2 hZq7 3 rfl rfl | exact unit_lt2 hZq7 6 rfl rfl | exact unit_lt2 hZq7 9 rfl rfl | exact unit_lt2 hZq7 12 rfl rfl | exact unit_lt hZq7 0 rfl rfl | exact unit_lt hZq7 3 rfl rfl | exact unit_lt hZq7 6 rfl rfl | exact unit_lt hZq7 9 rfl rfl | exact unit_lt hZq7 12 rfl rfl) | exact lt_ble rfl | fail "munits"
  exact trivial
example : True := by
  k_with "mne" => (refine neN ?_; (try dsimp only); first | assumption | exact Ne.symm (by assumption) | exact Nat.ne_of_lt (by assumption) | exact Nat.ne_of_gt (by assumption) | fail "mne")
  exact trivial
example : True := by
  k_with "exec While" => (k_here; (rename Fr _ _ _ _ => lF'); (rename News _ _ _ _ => lN'); (with_unfolding_all (refine' whS0 [] (fun d : List Value × List Int × Nat => d.2.1.length) (fun d => (dk, listOf #[.ref kl, .int mx tm] en) :: (kl, listOf d.1.toArray d.2.2) :: rest) (fun d => IntsAre d.1 d.2.1 ∧ (∀ x ∈ d.2.1, 0 ≤ x) ∧ d.2.1.length ≤ 63) (cv, ci, kn) lF' lN' ?ln ?li ?lt)); (case ln => k_sub); (case li => exact ⟨hI, hpos, hlen⟩); (case' lt => (intro d' u' h' tk' hI' F' N'; clear lF' lN'; obtain ⟨cv1, ci1, kn1⟩ := d'; (dsimp only at hI' N'); refine goal_gen ?_; intro GG9 kGG9; obtain ⟨i1, i2, i3⟩ := hI'; refine kGG9 ?_; clear kGG9 GG9; (rcases i1 with _ | @⟨x1, xt1, cvr, cr1, ir1⟩) <;> (try (have hz9 := cons_small ir1 i3 (Value.int x1 xt1))); (try dsimp only at F' N'); (try k_fold))))
  exact trivial
example : True := by
  k_with "SPost" => (dsimp only [SPost])
  exact trivial
example : True := by
  k_with "subscriptTail" => (k_here; (with_reducible show wpAny _ _ (subscriptTail _ _ (Value.ref _) (Value.int _ _)) _ _ _); k_dflt (refine' ksa_sub ?N ?m ?i ?h0 ?h1 ?hf ?_; (case N => k_asm); (case m => k_mem); (case i => exact IntsAre.cons _ _ (by assumption)); (case h0 => decide); (case h1 => simp); (case hf => decide); k_whole); intro ti9; (try simp only [Int.toNat_zero, List.getD_cons_zero]))
  exact trivial
example : True := by
  k_with "call builtin:list.pop" => (k_here; k_dflt (refine' kl_popAt ?F ?N ?f ?k ?e ?U ?z ?_; (case F => k_asm); (case N => k_asm); (case U => k_upd); (case f => rfl); (case k => exact seq0 _); (case e => rfl); (case z => exact hz9)); kl_rest)
  exact trivial
example : True := by
  k_with "SEnd0" => ((refine' SEnd0.intro (d' := (cvr, cr1, kn1 + 1)) (by assumption) ?sN ?sI ?sM ?sS; (case sN => ((try dsimp only); (first | k_asm | (refine cb_drop (by k_asm) ?_; (intro p9 hp9; first | exact hp9 | exact .tail _ hp9 | exact .tail _ (.tail _ hp9) | exact .tail _ (.tail _ (.tail _ hp9)) | exact .tail _ (.tail _ (.tail _ (.tail _ hp9))) | exact .tail _ (.tail _ (.tail _ (.tail _ (.tail _ hp9)))) | exact .tail _ (.tail _ (.tail _ (.tail _ (.tail _ (.tail _ hp9))))) | exact .tail _ (.tail _ (.tail _ (.tail _ (.tail _ (.tail _ (.tail _ hp9)))))))) | (refine cb_drop (by k_asm) ?_; k_sub)))); (case sI => exact ⟨ir1, fun y hy => i2 y (List.mem_cons_of_mem _ hy), by (try dsimp only); (simp only [List.length_cons] at i3); omega⟩); (case sM => (simp)); (case sS => (intro z h3; first | rfl | (simp only [List.contains_cons, List.contains_nil, Bool.or_false, Bool.or_eq_false_iff, beq_eq_false_iff_ne, ne_eq] at h3; simp [h3]; done)))))
  exact trivial
theorem fm_lo {a k : Int} (h : 0 < k) : 0 ≤ a.fmod k := Int.fmod_nonneg_of_pos a h
theorem fm_hi {a k : Int} (h : 0 < k) : a.fmod k < k := Int.fmod_lt_of_pos a h
theorem seq0 (n : Nat) : seqIndex? 0 (n + 1) = some 0 := by simp [seqIndex?] <;> omega
theorem cons_small {vs : List Value} {ns : List Int} {x : Int} (h : IntsAre vs ns) (hl : (x :: ns).length ≤ 63) (y : Value) : (y :: vs).toArray.toList.length ≤ sizeLine := by
  have := h.length
  rw [sizeLine_eq]
  simp only [List.length_cons] at hl ⊢
  omega
theorem law_draw {rest : List (Addr × Obj)} {dk kl : Addr} {cv : List Value} {ci : List Int} {kn en : Nat} {mx k : Int} {tm tk : Tok} (hI : IntsAre cv ci) (hpos : ∀ x ∈ ci, 0 ≤ x) (hlen : ci.length ≤ 63) (hm : 0 ≤ mx ∧ mx < 2147483647) (hk1 : 1 ≤ k ∧ k ≤ 1000)
    (e1 : @Ne Nat dk kl) (r1 : ∀ q ∈ rest, q.1 ≠ dk) (r2 : ∀ q ∈ rest, q.1 ≠ kl) :
    Ct prog w mean mg mb 674 10 ((dk, listOf #[.ref kl, .int mx tm] en) :: (kl, listOf cv.toArray kn) :: rest) [.ref dk, .int k tk] (fun r news' => ∃ i t, r = .int i t ∧ 0 ≤ i ∧ i < k ∧ ∃ (cv' : List Value) (ci' : List Int) (kn' en' : Nat) (mx' : Int) (tm' : Tok), news' = (dk, listOf #[.ref kl, .int mx' tm'] en') :: (kl, listOf cv'.toArray kn') :: rest ∧ IntsAre cv' ci' ∧ (∀ x ∈ ci', 0 ≤ x) ∧ ci'.length ≤ 63 ∧ 0 ≤ mx' ∧ mx' < 2147483647) := by
  intro c00 A₀ base h₀ L m sHp sGn sDr sTk sOs Q E B F X N T hk hd hu hret
  refine wpAny_call ?_
  k_dflt (refine' code_def (binds := [(Str.ofString "_law_deck_here", Value.ref dk), (Str.ofString "_law_many", Value.int k tk)]) ?k1 ?k2 ?k3 ?k4 ?k5 ?kA ?kF ?kK ?k6 ?k7 ?k8 ?k9 ?kB ?_ ?c2 ?c3 ?c4 ?c5; (case kA => exact rfl); (case kF => exact rfl); (case kK => first | exact rfl | assumption); (case k1 => k_asm); (case k2 => k_asm); (case k3 => k_asm); (case k4 => k_asm); (case k5 => k_asm); (case k6 => k_is); (case k7 => k_is); (case k8 => ktr_room); (case k9 => first | exact BindsTo.of_eq rfl | exact binds_K (by k_in) rfl (by k_is) rfl rfl rfl); (case c5 => decide); (case kB => exact locs rfl); (case c2 => exact rfl); (case c3 => exact rfl); (case c4 => exact rfl); k_whole; intro g' L' h' FG' F' N' B' X' T'; (try dsimp only); (try k_lift B'); (try k_fold))
  k_steps

  all_goals (first | exact absurd ‹decide (x1 :: cr1 = []) = true› (by simp) | (refine' hret _ _ _ _ ?e1 ?e2 ?e3; (case e1 => k_asm); (case e2 => exact news_tl (news_tl (by k_asm))); (case e3 => exact ⟨_, _, rfl, fm_lo (by omega), fm_hi (by omega), [], [], kn1, en, _, _, rfl, .nil, (by simp), (by simp), fm_lo (by omega), fm_hi (by omega)⟩)) | (refine' hret _ _ _ _ ?e1 ?e2 ?e3; (case e1 => k_asm); (case e2 => exact news_tl (news_tl (by k_asm))); (case e3 => exact ⟨_, _, rfl, fm_lo (by omega), fm_hi (by omega), _ :: cvr, _ :: cr1, kn1, en, mx, tm, rfl, .cons _ _ ir1, List.forall_mem_cons.mpr ⟨Int.fdiv_nonneg (i2 _ List.mem_cons_self) (by omega), fun y hy => i2 y (List.mem_cons_of_mem _ hy)⟩, i3, hm.1, hm.2⟩)) | trace_state)
example : True := by
  k_with_none
  w_top off
  exact trivial
example : True := by
  k_with "mroom" => with_unfolding_all first | ((rename (_ + _ < recursionLimit) => hZq7); first | exact room_lt hZq7 0 rfl rfl | exact room_lt hZq7 1 rfl rfl | exact room_lt hZq7 2 rfl rfl | exact room_lt hZq7 3 rfl rfl | exact room_lt hZq7 4 rfl rfl | exact room_lt hZq7 5 rfl rfl | exact room_lt hZq7 6 rfl rfl | exact room_lt hZq7 7 rfl rfl | exact room_lt hZq7 8 rfl rfl | exact room_lt hZq7 9 rfl rfl | exact room_lt hZq7 10 rfl rfl | exact room_lt hZq7 11 rfl rfl | exact room_lt hZq7 12 rfl rfl | exact room_lt hZq7 13 rfl rfl | exact room_lt hZq7 14 rfl rfl | exact room_lt hZq7 15 rfl rfl) | exact lt_ble rfl | fail "mroom"
  exact trivial
example : True := by
  k_with "munits" => with_unfolding_all first | ((rename (_ + _ + _ < cLine) => hZq7); first | exact unit_lt2 hZq7 0 rfl rfl | exact unit_lt2 hZq7 3 rfl rfl | exact unit_lt2 hZq7 6 rfl rfl | exact unit_lt2 hZq7 9 rfl rfl | exact unit_lt2 hZq7 12 rfl rfl | exact unit_lt hZq7 0 rfl rfl | exact unit_lt hZq7 3 rfl rfl | exact unit_lt hZq7 6 rfl rfl | exact unit_lt hZq7 9 rfl rfl | exact unit_lt hZq7 12 rfl rfl) | exact lt_ble rfl | fail "munits"
  exact trivial
example : True := by
  k_with "mne" => (refine neN ?_; (try dsimp only); first | assumption | exact Ne.symm (by assumption) | exact Nat.ne_of_lt (by assumption) | exact Nat.ne_of_gt (by assumption) | fail "mne")
  exact trivial
example : True := by
  k_with "call ref" => (k_here; (with_reducible show wpAny _ _ (PySem.call (Value.ref 674) _) _ _ _); k_dflt (refine' Ct.use (law_draw ?hI ?hpos ?hlen ?hm ?hk ?q1 ?q2 ?q3) ?kB ?kF ?kX ?kN ?kT ?kk ?kd ?ku ?_; (case kB => k_asm); (case kF => k_asm); (case kX => k_asm); (case kN => first | k_asm | exact news_tl (by k_asm) | exact news_tl (news_tl (by k_asm))); (case kT => k_asm); (case kk => first | exact rfl | assumption); (case hI => assumption); (case hpos => assumption); (case hlen => assumption); (case hm => assumption); (case hk => (first | assumption | (constructor <;> omega))); (case q1 => assumption); (case q2 => first | assumption | exact cons_ne (by assumption) (by assumption)); (case q3 => first | assumption | exact cons_ne (by assumption) (by assumption)); (case kd => ktr_room); (case ku => ktr_units); k_whole); intro v9 n9 h9 tk9 F9 N9 p9; refine goal_gen ?_; intro GG9 kGG9; obtain ⟨i9, it9, p8, dlo9, dhi9, cv9, ci9, kn9, en9, mx9, tm9, e9, hI9, hpos9, hlen9, hm9, hm9b⟩ := p9; refine kGG9 ?_; clear kGG9 GG9; subst p8; subst e9; (have hmm9 := And.intro hm9 hm9b); (try dsimp only); (try k_sweep))
  exact trivial
example : True := by
  k_with "subscriptTail" => (k_here; (with_reducible show wpAny _ _ (subscriptTail _ _ (Value.ref _) (Value.int _ _)) _ _ _); k_dflt (refine' item_mem ?k1 ?k2 ?k3 ?k4 ?_ ?k6; (case k1 => is_list); (case k2 => assumption); (case k3 => first | assumption | omega); (case k4 => omega); (case k6 => with_unfolding_all rfl); k_whole); intro vi9 hvi9)
  exact trivial
example : True := by
  k_with "call builtin:len" => (k_here; (with_reducible show wpAny _ _ (call (Value.builtin "len") [Value.ref _]) _ _ _); k_dflt (refine' len_list ?k1 ?k2 ?_; (case k1 => is_list); (case k2 => simp only [List.size_toArray]; omega); k_whole); (try simp only [List.size_toArray]))
  exact trivial
/-- a row of the texts: short, of the signs of Alpha -/
def RowText (s : Str) : Prop := s.length ≤ 7 ∧ ∀ c ∈ s.cps.toList, Alpha (c : Int)
theorem item_mem {A : Around} {E : Value → Shared → Prop} {s : Shared} {value slice : PySem.Expr} {l : Addr} {vs : List Value} {k : Int} {u : Tok} {Q : Value → Shared → Prop} (hl : s.heap.IsList l vs.toArray) (h0 : 0 ≤ k) (h1 : k < vs.length) (hhi : k < 2 ^ 63)
    (h : ∀ v, v ∈ vs → Q v s)
    (hs : subscripted slice false (.ref l) (.int k u) = operate [.ref l, .int k u] (getItem (.ref l) (.int k u)) := by with_unfolding_all rfl) :
    wpAny (model prog w) A (subscriptTail value slice (.ref l) (.int k u)) Q E s := by
  have hlt : k.toNat < vs.length := by omega
  exact item_litK hl h0 hhi (List.getElem?_eq_getElem hlt) (h _ (List.getElem_mem hlt)) hs
theorem law_one {rest : List (Addr × Obj)} {dk kl lr : Addr} {cv ivs : List Value} {ci : List Int} {kn en ic : Nat} {mx : Int} {tm : Tok} (hI : IntsAre cv ci) (hpos : ∀ x ∈ ci, 0 ≤ x) (hlen : ci.length ≤ 63) (hm : 0 ≤ mx ∧ mx < 2147483647) 
    (e1 : @Ne Nat dk kl) (r1 : ∀ q ∈ rest, q.1 ≠ dk) (r2 : ∀ q ∈ rest, q.1 ≠ kl) (hlr : (lr, listOf ivs.toArray ic) ∈ rest) (hl1 : 1 ≤ ivs.length ∧ ivs.length ≤ 1000) (hiv : ∀ v ∈ ivs, ∃ s t, v = .str s t ∧ RowText s) :
    Ct prog w mean mg mb 681 11 ((dk, listOf #[.ref kl, .int mx tm] en) :: (kl, listOf cv.toArray kn) :: rest) [.ref dk, .ref lr] (fun r news' => (∃ s t, r = .str s t ∧ RowText s) ∧ ∃ (cv' : List Value) (ci' : List Int) (kn' en' : Nat) (mx' : Int) (tm' : Tok), news' = (dk, listOf #[.ref kl, .int mx' tm'] en') :: (kl, listOf cv'.toArray kn') :: rest ∧ IntsAre cv' ci' ∧ (∀ x ∈ ci', 0 ≤ x) ∧ ci'.length ≤ 63 ∧ 0 ≤ mx' ∧ mx' < 2147483647) := by
  have hl2 : 1 ≤ (ivs.length : Int) ∧ (ivs.length : Int) ≤ 1000 := by omega
  intro c00 A₀ base h₀ L m sHp sGn sDr sTk sOs Q E B F X N T hk hd hu hret
  refine wpAny_call ?_
  k_dflt (refine' code_def (binds := [(Str.ofString "_law_deck_here", Value.ref dk), (Str.ofString "_law_items", Value.ref lr)]) ?k1 ?k2 ?k3 ?k4 ?k5 ?kA ?kF ?kK ?k6 ?k7 ?k8 ?k9 ?kB ?_ ?c2 ?c3 ?c4 ?c5; (case kA => exact rfl); (case kF => exact rfl); (case kK => first | exact rfl | assumption); (case k1 => k_asm); (case k2 => k_asm); (case k3 => k_asm); (case k4 => k_asm); (case k5 => k_asm); (case k6 => k_is); (case k7 => k_is); (case k8 => ktr_room); (case k9 => first | exact BindsTo.of_eq rfl | exact binds_K (by k_in) rfl (by k_is) rfl rfl rfl); (case c5 => decide); (case kB => exact locs rfl); (case c2 => exact rfl); (case c3 => exact rfl); (case c4 => exact rfl); k_whole; intro g' L' h' FG' F' N' B' X' T'; (try dsimp only); (try k_lift B'); (try k_fold))
  k_steps

  all_goals (first | (refine' hret _ _ _ _ ?e1 ?e2 ?e3; (case e1 => k_asm); (case e2 => k_asm); (case e3 => exact ⟨hiv _ (by assumption), cv9, ci9, kn9, en9, mx9, tm9, rfl, hI9, hpos9, hlen9, hm9, hm9b⟩)) | trace_state)
example : True := by
  k_with_none
  w_top off
  exact trivial
example : True := by
  k_with "mroom" => with_unfolding_all first | ((rename (_ + _ < recursionLimit) => hZq7); first | exact room_lt hZq7 0 rfl rfl | exact room_lt hZq7 1 rfl rfl | exact room_lt hZq7 2 rfl rfl | exact room_lt hZq7 3 rfl rfl | exact room_lt hZq7 4 rfl rfl | exact room_lt hZq7 5 rfl rfl | exact room_lt hZq7 6 rfl rfl | exact room_lt hZq7 7 rfl rfl | exact room_lt hZq7 8 rfl rfl | exact room_lt hZq7 9 rfl rfl | exact room_lt hZq7 10 rfl rfl | exact room_lt hZq7 11 rfl rfl | exact room_lt hZq7 12 rfl rfl | exact room_lt hZq7 13 rfl rfl | exact room_lt hZq7 14 rfl rfl | exact room_lt hZq7 15 rfl rfl) | exact lt_ble rfl | fail "mroom"
  exact trivial
example : True := by
  k_with "munits" => with_unfolding_all first | ((rename (_ + _ + _ < cLine) => hZq7); first | exact unit_lt2 hZq7 0 rfl rfl | exact unit_lt2 hZq7 3 rfl rfl | exact unit_lt2 hZq7 6 rfl rfl | exact unit_lt2 hZq7 9 rfl rfl | exact unit_lt2 hZq7 12 rfl rfl | exact unit_lt hZq7 0 rfl rfl | exact unit_lt hZq7 3 rfl rfl | exact unit_lt hZq7 6 rfl rfl | exact unit_lt hZq7 9 rfl rfl | exact unit_lt hZq7 12 rfl rfl) | exact lt_ble rfl | fail "munits"
  exact trivial
example : True := by
  k_with "mne" => (refine neN ?_; (try dsimp only); first | assumption | exact Ne.symm (by assumption) | exact Nat.ne_of_lt (by assumption) | exact Nat.ne_of_gt (by assumption) | fail "mne")
  exact trivial
def tdelta (i : Str) : Int := if (i == Str.ofString "(") = true then 1 else if (i == Str.ofString ")") = true then -1 else 0
/-- the balance of the first n signs from st (counted from 0) -/
def tbal (x : Str) (st : Int) : Nat → Int
  | 0 => 0
  | n + 1 => tbal x st n + tdelta (Txt.item x (st + n))
theorem td1 {i : Str} (h : (i == Str.ofString "(") = true) : tdelta i = 1 := by unfold tdelta; rw [if_pos h]
theorem td2 {i : Str} (h : (i == Str.ofString "(") = false) (h2 : (i == Str.ofString ")") = true) : tdelta i = -1 := by unfold tdelta; rw [if_neg (by simp [h]), if_pos h2]
theorem td3 {i : Str} (h : (i == Str.ofString "(") = false) (h2 : (i == Str.ofString ")") = false) : tdelta i = 0 := by unfold tdelta; rw [if_neg (by simp [h]), if_neg (by simp [h2])]
def LeInv (x : Str) (st : Int) (n : Nat) (d : Int) : Prop := d = tbal x st n ∧ ∀ k, 1 ≤ k → k ≤ n → tbal x st k ≠ 0
theorem le_start (x : Str) (st : Int) : LeInv x st 0 0 := ⟨rfl, fun k h1 h2 => absurd h1 (by omega)⟩
theorem le_bal {x : Str} {st kN d e : Int} {n : Nat} (h : LeInv x st n d) (hk : kN = st + n) (he : tdelta (Txt.item x kN) = e) : tbal x st (n + 1) = d + e := by
  rw [tbal, ← hk, he, h.1]
theorem le_next {x : Str} {st kN d e : Int} {pre : List Int} (h : LeInv x st pre.length d) (hk : kN = st + pre.length) (he : tdelta (Txt.item x kN) = e) (hne : d + e ≠ 0) : LeInv x st (pre ++ [kN]).length (d + e) := by
  rw [List.length_append, List.length_singleton]
  have hb := le_bal h hk he
  refine ⟨hb.symm, fun k k1 k2 => ?_⟩
  by_cases q : k = pre.length + 1
  · rw [q, hb]; exact hne
  · exact h.2 k k1 (by omega)
/-- what _law_end tells -/
def LawEnd (x : Str) (st : Int) (r : Value) : Prop :=
  (∃ (n : Nat) (t : Tok), 1 ≤ n ∧ st + n ≤ x.length ∧ tbal x st n = 0 ∧ (∀ k, 1 ≤ k → k < n → tbal x st k ≠ 0) ∧ r = .int (st + n) t) ∨ ((∀ k : Nat, 1 ≤ k → st + k ≤ x.length → tbal x st k ≠ 0) ∧ r = .none)
theorem le_found {x : Str} {st kN d e : Int} {pre : List Int} {t : Tok} (h : LeInv x st pre.length d) (hk : kN = st + pre.length) (hlt : pre.length < ((x.length : Int) - st).toNat) (he : tdelta (Txt.item x kN) = e) (h0 : d + e = 0) : LawEnd x st (.int (kN + 1) t) := by
  have hb := le_bal h hk he
  refine .inl ⟨pre.length + 1, t, by omega, by omega, by rw [hb, h0], fun k k1 k2 => h.2 k k1 (by omega), by rw [hk]; congr 1; omega⟩
theorem le_none {x : Str} {st d : Int} (hst : 0 ≤ st ∧ st ≤ x.length) (h : LeInv x st (rangeKs st ((x.length : Int) - st).toNat).length d) : LawEnd x st .none := by
  rw [rangeKs_length] at h
  exact .inr ⟨fun k k1 k2 => h.2 k k1 (by omega), rfl⟩
theorem law_end {news : List (Addr × Obj)} {x : Str} {st : Int} {tx ts : Tok} (hst : 0 ≤ st ∧ st ≤ x.length) (hx : x.length ≤ 100) :
    Ct prog w mean mg mb 688 2 news [.str x tx, .int st ts] (fun r news' => news' = news ∧ LawEnd x st r) := by
  intro c00 A₀ base h₀ L m sHp sGn sDr sTk sOs Q E B F X N T hk hd hu hret
  k_with "pyIter ref" => k_state (fun (pre : List Int) (d : Int) => LeInv x st pre.length d) "_law_deep"
  k_with "state" => k_dflt (first | exact le_start x st | exact le_next (by assumption) kEq (td1 (by assumption)) (by assumption) | exact le_next (by assumption) kEq (td2 (by assumption) (by assumption)) (by assumption) | exact le_next (by assumption) kEq (td3 (by assumption) (by assumption)) (by assumption))
  refine wpAny_call ?_
  k_dflt (refine' code_def (binds := [(Str.ofString "_law_text", Value.str x tx), (Str.ofString "_law_start", Value.int st ts)]) ?k1 ?k2 ?k3 ?k4 ?k5 ?kA ?kF ?kK ?k6 ?k7 ?k8 ?k9 ?kB ?_ ?c2 ?c3 ?c4 ?c5; (case kA => exact rfl); (case kF => exact rfl); (case kK => first | exact rfl | assumption); (case k1 => k_asm); (case k2 => k_asm); (case k3 => k_asm); (case k4 => k_asm); (case k5 => k_asm); (case k6 => k_is); (case k7 => k_is); (case k8 => ktr_room); (case k9 => first | exact BindsTo.of_eq rfl | exact binds_K (by k_in) rfl (by k_is) rfl rfl rfl); (case c5 => decide); (case kB => exact locs rfl); (case c2 => exact rfl); (case c3 => exact rfl); (case c4 => exact rfl); k_whole; intro g' L' h' FG' F' N' B' X' T'; (try dsimp only); (try k_lift B'); (try k_fold))
  k_steps

  all_goals (first | (refine' hret _ news _ _ ?e1 ?e2 ?e3; (case e1 => k_asm); (case e3 => refine ⟨rfl, ?le⟩; (case le => first | exact le_found (by assumption) kEq kLt (td1 (by assumption)) (by assumption) | exact le_found (by assumption) kEq kLt (td2 (by assumption) (by assumption)) (by assumption) | exact le_found (by assumption) kEq kLt (td3 (by assumption) (by assumption)) (by assumption) | exact le_none hst (by assumption))); (case e2 => first | k_asm | (refine cb_drop (by k_asm) ?_; (intro p9 hp9; first | exact hp9 | exact .tail _ hp9 | exact .tail _ (.tail _ hp9) | exact .tail _ (.tail _ (.tail _ hp9)) | exact .tail _ (.tail _ (.tail _ (.tail _ hp9))) | exact .tail _ (.tail _ (.tail _ (.tail _ (.tail _ hp9)))) | exact .tail _ (.tail _ (.tail _ (.tail _ (.tail _ (.tail _ hp9))))) | exact .tail _ (.tail _ (.tail _ (.tail _ (.tail _ (.tail _ (.tail _ hp9)))))))) | (refine cb_drop (by k_asm) ?_; k_sub))) | trace_state)
example : True := by
  k_with_none
  w_top off
  exact trivial
example : True := by
  k_with "mroom" => with_unfolding_all first | ((rename (_ + _ < recursionLimit) => hZq7); first | exact room_lt hZq7 0 rfl rfl | exact room_lt hZq7 1 rfl rfl | exact room_lt hZq7 2 rfl rfl | exact room_lt hZq7 3 rfl rfl | exact room_lt hZq7 4 rfl rfl | exact room_lt hZq7 5 rfl rfl | exact room_lt hZq7 6 rfl rfl | exact room_lt hZq7 7 rfl rfl | exact room_lt hZq7 8 rfl rfl | exact room_lt hZq7 9 rfl rfl | exact room_lt hZq7 10 rfl rfl | exact room_lt hZq7 11 rfl rfl | exact room_lt hZq7 12 rfl rfl | exact room_lt hZq7 13 rfl rfl | exact room_lt hZq7 14 rfl rfl | exact room_lt hZq7 15 rfl rfl) | exact lt_ble rfl | fail "mroom"
  exact trivial
example : True := by
  k_with "munits" => with_unfolding_all first | ((rename (_ + _ + _ < cLine) => hZq7); first | exact unit_lt2 hZq7 0 rfl rfl | exact unit_lt2 hZq7 3 rfl rfl | exact unit_lt2 hZq7 6 rfl rfl | exact unit_lt2 hZq7 9 rfl rfl | exact unit_lt2 hZq7 12 rfl rfl | exact unit_lt hZq7 0 rfl rfl | exact unit_lt hZq7 3 rfl rfl | exact unit_lt hZq7 6 rfl rfl | exact unit_lt hZq7 9 rfl rfl | exact unit_lt hZq7 12 rfl rfl) | exact lt_ble rfl | fail "munits"
  exact trivial
example : True := by
  k_with "mne" => (refine neN ?_; (try dsimp only); first | assumption | exact Ne.symm (by assumption) | exact Nat.ne_of_lt (by assumption) | exact Nat.ne_of_gt (by assumption) | fail "mne")
  exact trivial
example : True := by
  k_with "call ref" => (k_here; (with_reducible show wpAny _ _ (PySem.call (Value.ref 225) _) _ _ _); k_dflt (refine' call_cls ?k1 ?k2 ?k3 ?k4 ?k5 ?k6 ?_; (case k1 => k_asm); (case k2 => k_asm); (case k3 => k_asm); (case k4 => k_is); (case k5 => k_is); (case k6 => k_is); k_whole; intro tt td h' F' N' l1 l2; (have lx1 := ne_of_lts l1); (have lx2 := ne_of_lts2 l1 l2); (have lx3 := ne_of_lt2 l2); (try k_sweep);  (refine' code_def (binds := [(Str.ofString "self", Value.ref tt), (Str.ofString "parent", pv)]) ?k1 ?k2 ?k3 ?k4 ?k5 ?kA ?kF ?kK ?k6 ?k7 ?k8 ?k9 ?kB ?_ ?c2 ?c3 ?c4 ?c5; (case kA => exact rfl); (case kF => exact rfl); (case kK => first | exact rfl | assumption); (case k1 => k_asm); (case k2 => k_asm); (case k3 => k_asm); (case k4 => k_asm); (case k5 => k_asm); (case k6 => k_is); (case k7 => k_is); (case k8 => ktr_room); (case k9 => first | exact BindsTo.of_eq rfl | exact binds_K (by k_in) rfl (by k_is) rfl rfl rfl); (case c5 => decide); (case kB => exact locs rfl); (case c2 => exact rfl); (case c3 => exact rfl); (case c4 => exact rfl); k_whole; intro g' L' h' FG' F' N' B' X' T'; (try dsimp only); (try k_lift B'); (try k_fold))))
  exact trivial
example : True := by
  k_with "setAttr ref" => (k_here; refine genTok ?_; intro tk7; k_dflt (refine' set_dict ?k1 ?k2 ?k3 ?k4 ?k5 ?k6 ?k7 ?k8 ?k9 ?k10 ?k11 ?k12 ?k13 ?_; (case k1 => k_asm); (case k2 => k_asm); (case k3 => k_asm); (case k4 => k_inst); (case k5 => exact rfl); (case k6 => k_is); (case k7 => k_is); (case k8 => k_is); (case k9 => k_is); (case k10 => k_get); (case k11 => k_put); (case k12 => k_upd); (case k13 => exact Nat.le_of_ble_eq_true rfl); k_whole); intro h' F' N'; (try dsimp only at N'); (try k_sweep))
  exact trivial
theorem table_new {news : List (Addr × Obj)} {pv : Value} :
    Ct prog w mean mg mb 225 3 news [pv] (fun r news' => ∃ (y yd rr : Addr) (o : Obj) (n : Nat) (h1 h2 : Int) (k1 k2 : Tok), r = .ref y ∧ news' = (rr, o) :: (y, instObj 225 yd) :: (yd, dictOf [⟨h1, .str (Str.ofString "parent") k1, pv⟩, ⟨h2, .str (Str.ofString "rows") k2, .ref rr⟩] n) :: news ∧ o.IsDictOf (intKind prog w) [] ∧ (rr == sysModules) = false ∧ (∀ q ∈ news, q.1 < yd) ∧ @LT.lt Nat _ yd y ∧ @LT.lt Nat _ y rr) := by
  intro c00 A₀ base h₀ L m sHp sGn sDr sTk sOs Q E B F X N T hk hd hu hret
  k_steps
  all_goals (first | (refine' hret _ _ _ _ ?e1 ?e2 ?e3; (case e1 => k_asm); (case e2 => k_asm); (case e3 => exact ⟨_, _, _, _, _, _, _, _, _, rfl, rfl, by assumption, by assumption, l1, l2, (by (rename _ ∧ _ => hq9); exact hq9.1)⟩)) | trace_state)
example : True := by
  k_with_none
  w_top off
  exact trivial
example : True := by
  k_with "mroom" => with_unfolding_all first | ((rename (_ + _ < recursionLimit) => hZq7); first | exact room_lt hZq7 0 rfl rfl | exact room_lt hZq7 1 rfl rfl | exact room_lt hZq7 2 rfl rfl | exact room_lt hZq7 3 rfl rfl | exact room_lt hZq7 4 rfl rfl | exact room_lt hZq7 5 rfl rfl | exact room_lt hZq7 6 rfl rfl | exact room_lt hZq7 7 rfl rfl | exact room_lt hZq7 8 rfl rfl | exact room_lt hZq7 9 rfl rfl | exact room_lt hZq7 10 rfl rfl | exact room_lt hZq7 11 rfl rfl | exact room_lt hZq7 12 rfl rfl | exact room_lt hZq7 13 rfl rfl | exact room_lt hZq7 14 rfl rfl | exact room_lt hZq7 15 rfl rfl) | exact lt_ble rfl | fail "mroom"
  exact trivial
example : True := by
  k_with "munits" => with_unfolding_all first | ((rename (_ + _ + _ < cLine) => hZq7); first | exact unit_lt2 hZq7 0 rfl rfl | exact unit_lt2 hZq7 3 rfl rfl | exact unit_lt2 hZq7 6 rfl rfl | exact unit_lt2 hZq7 9 rfl rfl | exact unit_lt2 hZq7 12 rfl rfl | exact unit_lt hZq7 0 rfl rfl | exact unit_lt hZq7 3 rfl rfl | exact unit_lt hZq7 6 rfl rfl | exact unit_lt hZq7 9 rfl rfl | exact unit_lt hZq7 12 rfl rfl) | exact lt_ble rfl | fail "munits"
  exact trivial
example : True := by
  k_with "mne" => (refine neN ?_; (try dsimp only); first | assumption | exact Ne.symm (by assumption) | exact Nat.ne_of_lt (by assumption) | exact Nat.ne_of_gt (by assumption) | fail "mne")
  exact trivial
example : True := by
  k_with "call ref" => (k_here; (with_reducible show wpAny _ _ (PySem.call (Value.ref 225) _) _ _ _); k_dflt (refine' call_cls ?k1 ?k2 ?k3 ?k4 ?k5 ?k6 ?_; (case k1 => k_asm); (case k2 => k_asm); (case k3 => k_asm); (case k4 => k_is); (case k5 => k_is); (case k6 => k_is); k_whole; intro tt td h' F' N' l1 l2; (have lx1 := ne_of_lts l1); (have lx2 := ne_of_lts2 l1 l2); (have lx3 := ne_of_lt2 l2); (try k_sweep);  (refine' code_def (binds := [(Str.ofString "self", Value.ref tt), (Str.ofString "parent", Value.none)]) ?k1 ?k2 ?k3 ?k4 ?k5 ?kA ?kF ?kK ?k6 ?k7 ?k8 ?k9 ?kB ?_ ?c2 ?c3 ?c4 ?c5; (case kA => exact rfl); (case kF => exact rfl); (case kK => first | exact rfl | assumption); (case k1 => k_asm); (case k2 => k_asm); (case k3 => k_asm); (case k4 => k_asm); (case k5 => k_asm); (case k6 => k_is); (case k7 => k_is); (case k8 => ktr_room); (case k9 => first | exact BindsTo.of_eq rfl | exact binds_K (by k_in) rfl (by k_is) rfl rfl rfl); (case c5 => decide); (case kB => exact locs rfl); (case c2 => exact rfl); (case c3 => exact rfl); (case c4 => exact rfl); k_whole; intro g' L' h' FG' F' N' B' X' T'; (try dsimp only); (try k_lift B'); (try k_fold))))
  exact trivial
example : True := by
  k_with "setAttr ref" => (k_here; refine genTok ?_; intro tk7; k_dflt (refine' set_dict ?k1 ?k2 ?k3 ?k4 ?k5 ?k6 ?k7 ?k8 ?k9 ?k10 ?k11 ?k12 ?k13 ?_; (case k1 => k_asm); (case k2 => k_asm); (case k3 => k_asm); (case k4 => k_inst); (case k5 => exact rfl); (case k6 => k_is); (case k7 => k_is); (case k8 => k_is); (case k9 => k_is); (case k10 => k_get); (case k11 => k_put); (case k12 => k_upd); (case k13 => exact Nat.le_of_ble_eq_true rfl); k_whole); intro h' F' N'; (try dsimp only at N'); (try k_sweep))
  exact trivial
theorem table_new0 {news : List (Addr × Obj)} :
    Ct prog w mean mg mb 225 3 news [] (fun r news' => ∃ (y yd rr : Addr) (o : Obj) (n : Nat) (h1 h2 : Int) (k1 k2 : Tok), r = .ref y ∧ news' = (rr, o) :: (y, instObj 225 yd) :: (yd, dictOf [⟨h1, .str (Str.ofString "parent") k1, .none⟩, ⟨h2, .str (Str.ofString "rows") k2, .ref rr⟩] n) :: news ∧ o.IsDictOf (intKind prog w) [] ∧ (rr == sysModules) = false ∧ (∀ q ∈ news, q.1 < yd) ∧ @LT.lt Nat _ yd y ∧ @LT.lt Nat _ y rr) := by
  intro c00 A₀ base h₀ L m sHp sGn sDr sTk sOs Q E B F X N T hk hd hu hret
  k_steps
  all_goals (first | (refine' hret _ _ _ _ ?e1 ?e2 ?e3; (case e1 => k_asm); (case e2 => k_asm); (case e3 => exact ⟨_, _, _, _, _, _, _, _, _, rfl, rfl, by assumption, by assumption, l1, l2, (by (rename _ ∧ _ => hq9); exact hq9.1)⟩)) | trace_state)
example : True := by
  k_with_none
  w_top off
  exact trivial
example : True := by
  k_with "mroom" => with_unfolding_all first | ((rename (_ + _ < recursionLimit) => hZq7); first | exact room_lt hZq7 0 rfl rfl | exact room_lt hZq7 1 rfl rfl | exact room_lt hZq7 2 rfl rfl | exact room_lt hZq7 3 rfl rfl | exact room_lt hZq7 4 rfl rfl | exact room_lt hZq7 5 rfl rfl | exact room_lt hZq7 6 rfl rfl | exact room_lt hZq7 7 rfl rfl | exact room_lt hZq7 8 rfl rfl | exact room_lt hZq7 9 rfl rfl | exact room_lt hZq7 10 rfl rfl | exact room_lt hZq7 11 rfl rfl | exact room_lt hZq7 12 rfl rfl | exact room_lt hZq7 13 rfl rfl | exact room_lt hZq7 14 rfl rfl | exact room_lt hZq7 15 rfl rfl) | exact lt_ble rfl | fail "mroom"
  exact trivial
example : True := by
  k_with "munits" => with_unfolding_all first | ((rename (_ + _ + _ < cLine) => hZq7); first | exact unit_lt2 hZq7 0 rfl rfl | exact unit_lt2 hZq7 3 rfl rfl | exact unit_lt2 hZq7 6 rfl rfl | exact unit_lt2 hZq7 9 rfl rfl | exact unit_lt2 hZq7 12 rfl rfl | exact unit_lt hZq7 0 rfl rfl | exact unit_lt hZq7 3 rfl rfl | exact unit_lt hZq7 6 rfl rfl | exact unit_lt hZq7 9 rfl rfl | exact unit_lt hZq7 12 rfl rfl) | exact lt_ble rfl | fail "munits"
  exact trivial
example : True := by
  k_with "mne" => (refine neN ?_; (try dsimp only); first | assumption | exact Ne.symm (by assumption) | exact Nat.ne_of_lt (by assumption) | exact Nat.ne_of_gt (by assumption) | fail "mne")
  exact trivial
/-- the object at e bears this dict -/
def DictAt (e : Addr) (d : Option Addr) (h : Heap) : Prop := ∃ o, h.objs[e]? = some o ∧ o.dict = d
theorem DictAt.of {e : Addr} {h : Heap} {o : Obj} (x : h.get? e = some o) : DictAt e o.dict h := by
  unfold Heap.get? at x
  split at x
  · cases x
  · exact ⟨o, x, rfl⟩
theorem DictAt.get {e : Addr} {d : Option Addr} {h : Heap} {o : Obj} (x : DictAt e d h) (y : h.get? e = some o) : o.dict = d := by
  obtain ⟨o', a, b⟩ := x
  unfold Heap.get? at y
  split at y
  · cases y
  · rw [a] at y; cases y; exact b
/-- a tree that turns no object's dict -/
def KD {α : Type} : Sem α → Prop
  | .pure _ => True
  | .raise _ => True
  | .unsupported _ => True
  | .finish _ => True
  | .rule _ k => KD (k ())
  | .at _ k => KD (k ())
  | .load _ _ k => ∀ o, KD (k o)
  | .update _ _ f k => (∀ o, (f o).dict = o.dict) ∧ KD (k ())
  | .alloc _ k => ∀ a, KD (k a)
  | .stack k => ∀ l, KD (k l)
  | _ => False
theorem KD.bind {α β : Type} {f : α → Sem β} : ∀ {m : Sem α}, KD m → (∀ a, KD (f a)) → KD (m.bind f) := by
  intro m
  induction m <;> intro h hf <;> first | exact hf _ | trivial | exact h.elim | skip
  case rule ih => exact ih _ h hf
  case «at» ih => exact ih _ h hf
  case load ih => exact fun o => ih _ (h o) hf
  case update ih => exact ⟨h.1, ih _ h.2 hf⟩
  case alloc ih => exact fun o => ih _ (h o) hf
  case stack ih => exact fun o => ih _ (h o) hf
theorem KD.bind' {α β : Type} {f : α → Sem β} {m : Sem α} (h : KD m) (hf : ∀ a, KD (f a)) : KD (m >>= f) := KD.bind h hf
theorem DictAt.update {e a : Addr} {d : Option Addr} {h : Heap} {f : Obj → Obj} (x : DictAt e d h) (hf : ∀ o, (f o).dict = o.dict) : DictAt e d (h.update a f) := by
  obtain ⟨o, p, q⟩ := x
  obtain ⟨objs, l⟩ := h
  show ∃ o, (objs.modify a f)[e]? = some o ∧ _
  rw [Array.getElem?_modify]
  split
  · rw [show objs[e]? = some o from p]; exact ⟨_, rfl, (hf o).trans q⟩
  · exact ⟨o, p, q⟩
theorem DictAt.push {e : Addr} {d : Option Addr} {h : Heap} {n : Obj} (x : DictAt e d h) : DictAt e d (h.push n) := by
  obtain ⟨o, p, q⟩ := x
  obtain ⟨objs, l⟩ := h
  refine ⟨o, ?_, q⟩
  show (objs.push n)[e]? = some o
  rw [Array.getElem?_push_lt (Array.getElem?_eq_some_iff.mp p).1]
  exact congrArg some (Array.getElem?_eq_some_iff.mp p).2
theorem KD.wp {α : Type} {M : Model} {Γ : PySem.Ctx} {Q : α → Pos → Shared → Prop} {E : Value → Pos → Shared → Prop} {e : Addr} {d : Option Addr} : ∀ {t : Sem α} {p : Pos} {s : Shared}, KD t → DictAt e d s.heap → Sem.wp M Γ t Q E p s →
    Sem.wp M Γ t (fun a p s => Q a p s ∧ DictAt e d s.heap) (fun a p s => E a p s ∧ DictAt e d s.heap) p s := by
  intro t
  induction t <;> intro p s k x h <;> simp only [Sem.wp] at h ⊢ <;> first | exact ⟨h, x⟩ | exact h.elim | exact k.elim | skip
  case rule ih => exact ih _ k x h
  case «at» ih => exact ih _ k x h
  case load ih => obtain ⟨o, a, h⟩ := h; exact ⟨o, a, ih _ (k o) x h⟩
  case update ih => exact ⟨h.1, ih _ k.2 (x.update k.1) h.2⟩
  case alloc ih => exact ih _ (k _) x.push h
  case stack ih => exact ih _ (k _) x h
theorem KD.any {α : Type} {M : Model} {A : Around} {Q : α → Shared → Prop} {E : Value → Shared → Prop} {t : Sem α} {s : Shared} {e : Addr} {d : Option Addr} (k : KD t) (x : DictAt e d s.heap) (h : wpAny M A t Q E s) :
    wpAny M A t (fun a s => Q a s ∧ DictAt e d s.heap) (fun a s => E a s ∧ DictAt e d s.heap) s := fun Γ p hΓ => KD.wp k x (h Γ p hΓ)
theorem mapFields_dict (f : Array Value → Array Value) (o : Obj) : (o.mapFields f).dict = o.dict := by obtain ⟨_, _, d, _⟩ := o; cases d <;> rfl
theorem kd_field (v : Value) (i : Nat) : KD (field v i) := by
  unfold field
  refine KD.bind' ?_ fun vs => ?_
  · unfold fieldsOf
    split
    · refine KD.bind' (fun o => trivial) fun o => ?_
      split <;> trivial
    · trivial
  · split <;> trivial
theorem kd_setField (v : Value) (i : Nat) (x : Value) : KD (setField v i x) := by
  unfold setField
  split
  · unfold updateField
    refine KD.bind' (fun o => trivial) fun o => ?_
    split
    · split
      · exact ⟨mapFields_dict _, trivial⟩
      · trivial
    · trivial
  · trivial
theorem kd_setFlight (e : Value) (f : Option Addr) : KD (setFlight e f) := by
  unfold setFlight
  refine KD.bind' (kd_field _ _) fun t => ?_
  split
  · exact kd_setField _ _ _
  · trivial
theorem kd_newFields (t : String) (vs : List Value) : KD (newFields t vs) := by
  unfold newFields newObj
  dsimp only
  split
  · trivial
  · exact fun a => trivial
theorem kd_ready : ∀ l : List Env, KD (readyFrames l)
  | [] => trivial
  | env :: outer => by
    unfold readyFrames
    split
    · refine KD.bind' (fun o => trivial) fun o => ?_
      split
      · trivial
      · refine KD.bind' ?_ fun b => KD.bind' ?_ fun v => KD.bind' ⟨fun _ => rfl, trivial⟩ fun _ => kd_ready outer
        · unfold behindIsImport
          split
          · trivial
          · split
            · trivial
            · exact KD.bind' (kd_field _ _) fun _ => trivial
        · unfold keptBack
          split
          · split
            · trivial
            · exact KD.bind' (KD.bind' (fun _ => trivial) fun _ => trivial) fun _ => trivial
          · trivial
    · trivial
theorem kd_frameOf (env : Env) : KD (PySem.frameOf env) := by
  unfold PySem.frameOf frameEnvs
  refine KD.bind' (KD.bind' (fun _ => trivial) fun _ => trivial) fun l => KD.bind' ?_ fun r => ?_
  · unfold frameObject
    split
    · trivial
    · exact KD.bind' (kd_ready _) fun _ => trivial
  · split <;> trivial
theorem kd_entry (e head : Value) (env : Env) (f : Addr) (b : Bool) (r : Value) : KD (do let a ← PySem.frameOf env; let pl ← entryPlaceOf f b; let b ← EntryCells.newEntry head a .none r .none pl; setField e 1 b) :=
  KD.bind' (kd_frameOf _) fun a => KD.bind' (by unfold entryPlaceOf; refine KD.bind' (fun _ => trivial) fun l => ?_; split <;> trivial) fun pl => KD.bind' (by unfold EntryCells.newEntry; exact kd_newFields _ _) fun v => kd_setField _ _ _
theorem kd_noteFrame (e : Value) (env : Env) : KD (noteFrame e env) := by
  unfold noteFrame
  split
  · refine KD.bind' (kd_field _ _) fun head => ?_
    dsimp only
    split
    · refine KD.bind' (kd_field _ _) fun x => ?_
      split
      · trivial
      · exact KD.bind' (kd_setField _ _ _) fun _ => kd_entry _ _ _ _ _ _
    · exact kd_entry _ _ _ _ _ _
  · trivial
theorem kd_leaving (env : Env) (e : Value) : KD (leaving env e) := KD.bind' (kd_noteFrame _ _) fun _ => kd_setFlight _ _
example : True := by
  k_with_none
  w_top off
  exact trivial
example : True := by
  k_with "mroom" => with_unfolding_all first | ((rename (_ + _ < recursionLimit) => hZq7); first | exact room_lt hZq7 0 rfl rfl | exact room_lt hZq7 1 rfl rfl | exact room_lt hZq7 2 rfl rfl | exact room_lt hZq7 3 rfl rfl | exact room_lt hZq7 4 rfl rfl | exact room_lt hZq7 5 rfl rfl | exact room_lt hZq7 6 rfl rfl | exact room_lt hZq7 7 rfl rfl | exact room_lt hZq7 8 rfl rfl | exact room_lt hZq7 9 rfl rfl | exact room_lt hZq7 10 rfl rfl | exact room_lt hZq7 11 rfl rfl | exact room_lt hZq7 12 rfl rfl | exact room_lt hZq7 13 rfl rfl | exact room_lt hZq7 14 rfl rfl | exact room_lt hZq7 15 rfl rfl) | exact lt_ble rfl | fail "mroom"
  exact trivial
example : True := by
  k_with "munits" => with_unfolding_all first | ((rename (_ + _ + _ < cLine) => hZq7); first | exact unit_lt2 hZq7 0 rfl rfl | exact unit_lt2 hZq7 3 rfl rfl | exact unit_lt2 hZq7 6 rfl rfl | exact unit_lt2 hZq7 9 rfl rfl | exact unit_lt2 hZq7 12 rfl rfl | exact unit_lt hZq7 0 rfl rfl | exact unit_lt hZq7 3 rfl rfl | exact unit_lt hZq7 6 rfl rfl | exact unit_lt hZq7 9 rfl rfl | exact unit_lt hZq7 12 rfl rfl) | exact lt_ble rfl | fail "munits"
  exact trivial
example : True := by
  k_with "mne" => (refine neN ?_; (try dsimp only); first | assumption | exact Ne.symm (by assumption) | exact Nat.ne_of_lt (by assumption) | exact Nat.ne_of_gt (by assumption) | fail "mne")
  exact trivial
/-- a LispSignal in flight, as the frame L sees it -/
def Rz (base h₀ : Heap) (L : Addr) (m : Str → Option Value) (frames : List Env) (news : List (Addr × Obj)) (e : Addr) (h' : Heap) : Prop :=
  h'.Ns L m ∧ h₀.UpToSlots h' ∧ ∃ (B : Heap) (a0 : Value) (D : Addr) (od : Obj) (mE : Str → Option Value) (ts : Tok), base.StaysIn B ∧ (∀ b o, h₀.get? b = some o → b ∉ frames.filterMap (·.frame) → B.get? b = some o) ∧
    (∀ q ∈ news, B.get? q.1 = some q.2) ∧ Heap.FlyingW B frames e (.ref 96) a0 h' ∧ DictAt e (some D) h' ∧ B.get? D = some od ∧ base.get? D = none ∧ LCg.NsObj od mE ∧ mE (Str.ofString "symbol") = some (.str (Str.ofString "scan-error") ts)
theorem Rz.mono {base h₀ : Heap} {L : Addr} {m : Str → Option Value} {frames : List Env} {nw news : List (Addr × Obj)} {e : Addr} {h' : Heap} (R : Rz base h₀ L m frames nw e h') (hs : ∀ q ∈ news, q ∈ nw) : Rz base h₀ L m frames news e h' := by
  obtain ⟨a, b, B, a0, D, od, mE, ts, st, gB, nB, r⟩ := R
  exact ⟨a, b, B, a0, D, od, mE, ts, st, gB, fun q hq => nB q (hs q hq), r⟩
theorem none_base {base g : Heap} (k : base.StaysIn g) {b : Addr} (e : g.get? b = none) : base.get? b = none := by
  cases q : base.get? b with
  | none => rfl
  | some o => have := k b o q; rw [e] at this; cases this
theorem none_keeps {h h' : Heap} (k : ∀ b o, h.get? b = some o → h'.get? b = some o) {b : Addr} (e : h'.get? b = none) : h.get? b = none := by
  cases q : h.get? b with
  | none => rfl
  | some o => have := k b o q; rw [e] at this; cases this
theorem frame_self {g h : Heap} {L : Addr} {m : Str → Option Value} (F : Fr g L h m) : g.get? L = none := by
  cases q : g.get? L with
  | none => rfl
  | some o => exact absurd (Nat.lt_of_lt_of_le (Heap.lt_size q) F.above) (Nat.lt_irrefl _)
theorem frame_mem {name : Str} {scope : Scope} {L a b : Addr} {cd : Value} {outer : List Env} (hm : b ∈ (envOf name scope L a cd :: outer).filterMap (·.frame)) : b = L ∨ b ∈ outer.filterMap (·.frame) := by
  obtain ⟨env, he, hf⟩ := List.mem_filterMap.mp hm
  rcases List.mem_cons.mp he with rfl | he
  · exact .inl (Option.some.inj hf).symm
  · exact .inr (List.mem_filterMap.mpr ⟨env, he, hf⟩)
section
variable {M : Model} {A : Around} {E : Value → Shared → Prop} {s' : Shared} {base g hm h₀ : Heap} {outer : List Env} {L L' a e : Addr} {m m' : Str → Option Value} {name : Str} {scope : Scope} {cd : Value} {Q : Unit → Shared → Prop} {nw news : List (Addr × Obj)}
/-- it leaves the frame that raised it -/
theorem leave_first {oe od : Obj} {D t : Addr} {mE : Str → Option Value} {ts : Tok} (K : Below A base outer g) (F : Fr g L' s'.heap m') (N : News g L' s'.heap nw) (he : (e, oe) ∈ nw) (hD : (D, od) ∈ nw)
    (hc : oe.cls = .ref 96) (hd : oe.dict = some D) (hdat : oe.data = .fields #[.ref t, .none, .none, .none, .bool false, .none]) (hod : LCg.NsObj od mE) (hsy : mE (Str.ofString "symbol") = some (.str (Str.ofString "scan-error") ts)) (hDe : @Ne Nat e D)
    (FG : Fr h₀ L g m) (hn : ∀ q ∈ news, q ∈ nw) (hne : ∀ q ∈ news, q.1 ≠ e) (hk : scope.kind = .function)
    (hQ : ∀ h', Rz base h₀ L m outer news e h' → Q () { s' with heap := h' }) :
    wpAny M (A.deeper (envOf name scope L' a cd)) (leaving (envOf name scope L' a cd) (.ref e)) Q E s' := by
  have K' := K.push (name := name) (a := a) (cd := cd) F hk
  have ze := N _ he
  have zD := N _ hD
  have inF : ∀ env ∈ (envOf name scope L' a cd :: outer), ∀ b, env.frame = some b → b ∈ e :: (envOf name scope L' a cd :: outer).filterMap (·.frame) := fun env h b hb => .tail _ (List.mem_filterMap.mpr ⟨env, h, hb⟩)
  have apart : ∀ {b : Addr}, b ≠ e → b ∉ (envOf name scope L' a cd :: outer).filterMap (·.frame) → b ∉ e :: (envOf name scope L' a cd :: outer).filterMap (·.frame) := fun h1 h2 h => (List.mem_cons.mp h).elim h1 h2
  have outerIn : ∀ b ∈ outer.filterMap (·.frame), ∃ o, g.get? b = some o := fun b hb => let ⟨o, ho, _⟩ := (K.frames.mem hb).2; ⟨o, ho⟩
  have ledB : ∀ q ∈ nw, q.1 ≠ e → (hideAll s'.heap (e :: (envOf name scope L' a cd :: outer).filterMap (·.frame))).get? q.1 = some q.2 := fun q hq h1 => hideAll_get _ (N q hq).1 (apart h1 fun hm' => (frame_mem hm').elim (N q hq).2.1 fun hb => by
    obtain ⟨o, ho⟩ := outerIn _ hb
    rw [(N q hq).2.2] at ho; cases ho)
  have gB : ∀ b o, g.get? b = some o → b ∉ outer.filterMap (·.frame) → (hideAll s'.heap (e :: (envOf name scope L' a cd :: outer).filterMap (·.frame))).get? b = some o := fun b o q hb =>
    hideAll_get _ (F.keep b o q) (apart (fun z => by rw [z, ze.2.2] at q; cases q) fun hm' => (frame_mem hm').elim (fun z => by rw [z, frame_self F] at q; cases q) hb)
  have st : base.StaysIn (hideAll s'.heap (e :: (envOf name scope L' a cd :: outer).filterMap (·.frame))) := fun b o q => gB b o (K.stays b o q) fun hb => by rw [(K.frames.mem hb).1] at q; cases q
  refine wpAny_mono (KD.any (kd_leaving _ _) (hd ▸ DictAt.of ze.1) (wpAny_leaving_firstW (base := hideAll s'.heap (e :: (envOf name scope L' a cd :: outer).filterMap (·.frame))) (a0 := .ref t)
    (Q := fun _ s'' => ∃ h', s'' = { s' with heap := h' } ∧ Heap.LeftW (hideAll s'.heap (e :: (envOf name scope L' a cd :: outer).filterMap (·.frame))) (envOf name scope L' a cd :: outer) e oe.cls (.ref t) s'.heap h') (E := E)
    K'.stack (funFrames_hide K'.frames inF) rfl ze.1 (fun b o q => of_hideAll _ q) (hideAll_none _ (.head _)) hdat rfl rfl fun h' hL => ⟨h', rfl, hL⟩)) ?_ fun _ _ q => q.1
  rintro _ s'' ⟨⟨h', rfl, k1, ⟨_, _, k2⟩, k3, k4⟩, hdA⟩
  rw [hc] at k3
  have up : g.UpToSlots h' := (Heap.UpToSlots.of_keeps F.keep).trans k4
  exact hQ h' ⟨up.ns FG.ns, (Heap.UpToSlots.of_keeps FG.keep).trans up, _, .ref t, D, od, mE, ts, st, fun b o q hb => gB b o (FG.keep b o q) hb, fun q hq => ledB q (hn q hq) (hne q hq), ⟨k1, hideAll_none _ (.head _), k2, k3⟩, hdA,
    ledB _ hD hDe.symm, none_base K.stays zD.2.2, hod, hsy⟩
/-- it leaves a frame that it came through -/
theorem leave_next {env : Env} (K : Below A base outer g) (R : Rz base g L' m' (env :: outer) nw e s'.heap) (hf : env.frame = some L') (hL : g.get? L' = none) (FG : Fr h₀ L g m) (hn : ∀ q ∈ news, q ∈ nw)
    (hQ : ∀ h', Rz base h₀ L m outer news e h' → Q () { s' with heap := h' }) :
    wpAny M (A.deeper env) (leaving env (.ref e)) Q E s' := by
  obtain ⟨_, up, B, a0, D, od, mE, ts, st, gB, nB, hfl, hdA, hD, hD0, hod, hsy⟩ := R
  refine wpAny_mono (KD.any (kd_leaving _ _) hdA (wpAny_leaves_onW (Q := fun _ s'' => ∃ h', s'' = { s' with heap := h' } ∧ Heap.FlyingW B outer e (.ref 96) a0 h' ∧ s'.heap.UpToSlots h') (E := E) (Around.frames_deeper K.stack) hf hfl fun h' x1 x2 => ⟨h', rfl, x1, x2⟩)) ?_ fun _ _ q => q.1
  rintro _ s'' ⟨⟨h', rfl, x1, x2⟩, hdA'⟩
  have up' := up.trans x2
  refine hQ h' ⟨up'.ns FG.ns, (Heap.UpToSlots.of_keeps FG.keep).trans up', B, a0, D, od, mE, ts, st, fun b o q hb => gB b o (FG.keep b o q) fun hm' => ?_, fun q hq => nB q (hn q hq), x1, hdA', hD, hD0, hod, hsy⟩
  obtain ⟨env', he, hf'⟩ := List.mem_filterMap.mp hm'
  rcases List.mem_cons.mp he with rfl | he
  · rw [hf] at hf'
    have := FG.keep b o q
    rw [← Option.some.inj hf', hL] at this; cases this
  · exact hb (List.mem_filterMap.mpr ⟨env', he, hf'⟩)
end
example : True := by
  k_with_none
  w_top off
  exact trivial
example : True := by
  k_with "mroom" => with_unfolding_all first | ((rename (_ + _ < recursionLimit) => hZq7); first | exact room_lt hZq7 0 rfl rfl | exact room_lt hZq7 1 rfl rfl | exact room_lt hZq7 2 rfl rfl | exact room_lt hZq7 3 rfl rfl | exact room_lt hZq7 4 rfl rfl | exact room_lt hZq7 5 rfl rfl | exact room_lt hZq7 6 rfl rfl | exact room_lt hZq7 7 rfl rfl | exact room_lt hZq7 8 rfl rfl | exact room_lt hZq7 9 rfl rfl | exact room_lt hZq7 10 rfl rfl | exact room_lt hZq7 11 rfl rfl | exact room_lt hZq7 12 rfl rfl | exact room_lt hZq7 13 rfl rfl | exact room_lt hZq7 14 rfl rfl | exact room_lt hZq7 15 rfl rfl) | exact lt_ble rfl | fail "mroom"
  exact trivial
example : True := by
  k_with "munits" => with_unfolding_all first | ((rename (_ + _ + _ < cLine) => hZq7); first | exact unit_lt2 hZq7 0 rfl rfl | exact unit_lt2 hZq7 3 rfl rfl | exact unit_lt2 hZq7 6 rfl rfl | exact unit_lt2 hZq7 9 rfl rfl | exact unit_lt2 hZq7 12 rfl rfl | exact unit_lt hZq7 0 rfl rfl | exact unit_lt hZq7 3 rfl rfl | exact unit_lt hZq7 6 rfl rfl | exact unit_lt hZq7 9 rfl rfl | exact unit_lt hZq7 12 rfl rfl) | exact lt_ble rfl | fail "munits"
  exact trivial
example : True := by
  k_with "mne" => (refine neN ?_; (try dsimp only); first | assumption | exact Ne.symm (by assumption) | exact Nat.ne_of_lt (by assumption) | exact Nat.ne_of_gt (by assumption) | fail "mne")
  exact trivial
abbrev excO (t : Addr) (d : Option Addr) : Obj := { cls := .ref 96, dict := d, data := .fields #[.ref t, .none, .none, .none, .bool false, .none] }
noncomputable def sigMap (P : Params) (name : Str) : Option Value := match (Mine.hd.heap_1_39 P).lookup 95 with
  | some ⟨_, _, .dict es _, _⟩ => nsFind es name
  | _ => none
section
variable {prog : Program} {w : World} {A : Around} {E : Value → Shared → Prop} {s : Shared} {h₀ h : Heap} {L e t : Addr} {m : Str → Option Value} {rest : List (Addr × Obj)} {name : Str} {v : Value}
theorem sig_cls (X : (Mine.hd.heap_1_39 w.params).In h) : ∃ k0 k1 k2 k3 k5, h.get? 96 = some (excClassObj (Str.ofString "LispSignal") (Str.ofString "LispSignal") 96 95 [.type "Exception"] [.type "Exception", .type "BaseException", .type "object"] true [] [] false none none k0 k1 k2 k3 k5 "Exception.__new__") :=
  ⟨_, _, _, _, _, X 96 _ (by rfl)⟩
theorem sig_ns (X : (Mine.hd.heap_1_39 w.params).In h) : h.Ns 95 (sigMap w.params) := by
  refine ⟨_, _, _, X 95 _ (by rfl), rfl, ?_, fun _ => rfl⟩
  intro e he
  simp only [List.mem_toArray, List.mem_cons, List.not_mem_nil, or_false] at he
  rcases he with rfl | rfl | rfl | rfl | rfl | rfl <;> exact ⟨_, _, rfl⟩
theorem sig_init : sigMap w.params "__init__" = some (.ref 93) := by rfl
theorem sig_sa : sigMap w.params "__setattr__" = none := by rfl
theorem sig_symbol : sigMap w.params "symbol" = none := by rfl
theorem sig_data : sigMap w.params "data" = none := by rfl
theorem sa_open {B sa owner : String} {bm : List Value} {hp : Heap} {g : Array GenState} {d : Drawn} {tk : Nat} {os : OsState} {nm q : Str} {C N x : Addr} {bs : List Value} {sn : List Str} {sub : List Value} {ab : Bool} {col : Option Bool} {dd : Option Addr} {k0 k1 k2 k3 k5 : Option Value} {newId : String} {o : Obj} {nameV : Value} {R : Result → Shared → Prop}
    (SF : StoreFacts B bm sa owner) (hC : hp.get? C = some (excClassObj nm q C N bs bm true sn sub ab col dd k0 k1 k2 k3 k5 newId)) (hx : hp.get? x = some o) (hc : o.cls = .ref C)
    (h : wpAny (model prog w) A.in1 (Builtin.«object.__setattr__» ⟨[.ref x, nameV, v], []⟩) (fun fin s' => match fin with | .done f => R (.ok f) s' | .again c' => c'.quiet = true ∧ codeAny (model prog w) A c' R s') (fun e s' => R (.error e) s') ⟨hp, g, d, tk, os⟩) :
    codeAny (model prog w) A (.call (.builtin sa) ⟨[.ref x, nameV, v], []⟩) R ⟨hp, g, d, tk, os⟩ :=
  codeAny_call_builtin SF.slot.plain SF.entry (wpAny_check_sa SF hC hx hc h)
theorem set_sig1 (F : Fr h₀ L s.heap m) (X : (Mine.hd.heap_1_39 w.params).In h₀) (N : News h₀ L s.heap ((e, excO t none) :: rest)) (hna : sigMap w.params name = none) (hB : typeLookup (.type "Exception") name = pure none) (he : ∀ p ∈ rest, p.1 ≠ e)
    {Q : Unit → Shared → Prop} (k : ∀ (D : Addr) (kt : Tok) h' tk, Fr h₀ L h' m → News h₀ L h' ((D, dictOf [⟨PyData.keyHash w.params name, .str name kt, v⟩] 1) :: (e, excO t (some D)) :: rest) → @Ne Nat e D → (∀ p ∈ rest, p.1 ≠ D) → s.heap.get? D = none → Q () { s with heap := h', toks := tk }) :
    wpAny (model prog w) A (setAttr (.ref e) name v) Q E s := by
  have XH := X.keeps F.keep
  obtain ⟨k0, k1, k2, k3, k5, hC⟩ := sig_cls XH
  have hn := sig_ns XH
  have hx := (N _ (.head _)).1
  have SF := PySem.F.store_Exception
  have I : InstAt s.heap e (excO t none) 96 none := ⟨hx, rfl, rfl, trivial⟩
  refine set_plain XH I (by k_is) ?_
  obtain ⟨hp, g, d, tk, os⟩ := s
  refine sa_open SF hC hx rfl ?_
  have hpass := SF.passes (.ref e)
  have F1 := F.push emptyDict
  have N1 := N.push F emptyDict
  have hxs : e ≠ hp.objs.size := Nat.ne_of_lt (Heap.lt_size hx)
  have hrs : ∀ p ∈ rest, p.1 ≠ hp.objs.size := fun p hp' => Nat.ne_of_lt (Heap.lt_size (N p (.tail _ hp')).1)
  obtain ⟨F2, N2⟩ := news_upd (f := fun o : Obj => { cls := o.cls, dict := some hp.objs.size, data := o.data, slots := o.slots }) (pre := [(hp.objs.size, emptyDict)]) (post := rest) F1 N1 (fun p hp' => by rw [List.mem_singleton.mp hp']; exact hxs.symm) he rfl rfl
  have D2 := (N2 _ (.head _)).1
  have e1 : Obj.putName name (PyData.keyHash w.params name) (.str name (tk + 1)) v emptyDict = dictOf [⟨PyData.keyHash w.params name, .str name (tk + 1), v⟩] 1 := putName_dict name _ _ _ [] 0
  obtain ⟨F3, N3⟩ := news_upd (f := Obj.putName name (PyData.keyHash w.params name) (.str name (tk + 1)) v) (pre := []) (post := (e, excO t (some hp.objs.size)) :: rest) F2 N2 (fun p hp' => nomatch hp') (fun p hp' => by
    rcases List.mem_cons.mp hp' with rfl | hp'
    · exact hxs
    · exact hrs p hp') e1 rfl
  rw [osa_eq, refuse_eq]
  repeat (first | (rw [refuseLoop_ref, hpass]) | with_reducible refine wpAny_loadPart_at hx ?_ | with_reducible refine wpAny_mroOf_exc hC ?_ | (with_reducible refine wpAny_typeLookup_exc hC hn SF.mro hB ?_; rw [hna]) | wp_step)
  refine wpAny_askSetting (wpAny_pure (wpAny_bind (wpAny_mkText (wpAny_bind (wpAny_loadPart D2 ?_)))))
  refine wpAny_updatePart D2 (wpAny_bind (wpAny_lookBehind (N3 _ (.head _)).1 (pastItsLine_dict (show 1 ≤ sizeLine + 1 from Nat.le_add_left _ _)) (wpAny_pure ?_)))
  exact k _ _ _ _ F3 N3 hxs hrs (Heap.get?_none_of_le (Nat.le_refl _))
theorem set_sig2 {D : Addr} {es : List DictEntry} {n : Nat} (F : Fr h₀ L s.heap m) (X : (Mine.hd.heap_1_39 w.params).In h₀) (N : News h₀ L s.heap ((D, dictOf es n) :: (e, excO t (some D)) :: rest)) (hna : sigMap w.params name = none) (hB : typeLookup (.type "Exception") name = pure none)
    (he : @Ne Nat e D) (hr : ∀ p ∈ rest, p.1 ≠ D) (hl : aRefKeyMayBeTheName name es.toArray = false) (hz : ∀ kt, (putL name (PyData.keyHash w.params name) (.str name kt) v es).length ≤ 1000)
    {Q : Unit → Shared → Prop} (k : ∀ (kt : Tok) h' tk, Fr h₀ L h' m → News h₀ L h' ((D, dictOf (putL name (PyData.keyHash w.params name) (.str name kt) v es) (putN name es n)) :: (e, excO t (some D)) :: rest) → Q () { s with heap := h', toks := tk }) :
    wpAny (model prog w) A (setAttr (.ref e) name v) Q E s := by
  have XH := X.keeps F.keep
  obtain ⟨k0, k1, k2, k3, k5, hC⟩ := sig_cls XH
  have hn := sig_ns XH
  have hD := (N _ (.head _)).1
  have hx := (N _ (.tail _ (.head _))).1
  have SF := PySem.F.store_Exception
  have I : InstAt s.heap e (excO t (some D)) 96 (some (dictOf es n)) := ⟨hx, rfl, rfl, hD⟩
  refine set_plain XH I (by k_is) ?_
  obtain ⟨hp, g, d, tk, os⟩ := s
  refine sa_open SF hC hx rfl ?_
  have hpass := SF.passes (.ref e)
  obtain ⟨F3, N3⟩ := news_upd (f := Obj.putName name (PyData.keyHash w.params name) (.str name (tk + 1)) v) (pre := []) (post := (e, excO t (some D)) :: rest) F N (fun p hp' => nomatch hp') (fun p hp' => by
    rcases List.mem_cons.mp hp' with rfl | hp'
    · exact he
    · exact hr p hp') (putName_dict name _ _ _ es n) rfl
  rw [osa_eq, refuse_eq]
  iterate 38 (first | (rw [refuseLoop_ref, hpass]) | with_reducible refine wpAny_loadPart_at hx ?_ | with_reducible refine wpAny_mroOf_exc hC ?_ | (with_reducible refine wpAny_typeLookup_exc hC hn SF.mro hB ?_; rw [hna]) | wp_step)
  show wpAny _ _ (Builtin.ObjectAttr.storeInDict D (.str name tk) name v) _ _ _
  unfold Builtin.ObjectAttr.storeInDict Builtin.ObjectAttr.newKeyGuard nsSet
  refine wpAny_bind (wpAny_pure (wpAny_bind (wpAny_bind (wpAny_bind (wpAny_askSetting (wpAny_pure (wpAny_bind (wpAny_mkText (wpAny_bind (wpAny_loadPart hD ?_))))))))))
  dsimp only
  rw [hl]
  simp only [Bool.false_eq_true, if_false]
  refine wpAny_updatePart hD (wpAny_bind (wpAny_lookBehind (N3 _ (.head _)).1 (pastItsLine_dict (by rw [List.size_toArray, sizeLine_eq]; have := hz (tk + 1); omega)) (wpAny_pure ?_)))
  exact k _ _ _ F3 N3
theorem ga_open {B : String} {bm : List Value} {hp : Heap} {g : Array GenState} {d : Drawn} {tk kt : Nat} {os : OsState} {nm q : Str} {C N x : Addr} {bs : List Value} {hdct : Bool} {sn : List Str} {sub : List Value} {ab : Bool} {col : Option Bool} {dd : Option Addr} {k0 k1 k2 k3 k5 : Option Value} {newId : String} {o : Obj} {R : Result → Shared → Prop}
    (FB : ExcAttrBase B bm) (hC : hp.get? C = some (excClassObj nm q C N bs bm hdct sn sub ab col dd k0 k1 k2 k3 k5 newId)) (hx : hp.get? x = some o) (hc : o.cls = .ref C)
    (h : wpAny (model prog w) A.in1 (Builtin.«object.__getattribute__» ⟨[.ref x, .str name kt], []⟩) (fun fin s' => match fin with | .done f => R (.ok f) s' | .again c' => c'.quiet = true ∧ codeAny (model prog w) A c' R s') (fun e s' => R (.error e) s') ⟨hp, g, d, tk, os⟩) :
    codeAny (model prog w) A (.call (.builtin "BaseException.__getattribute__") ⟨[.ref x, .str name kt], []⟩) R ⟨hp, g, d, tk, os⟩ :=
  codeAny_call_builtin FB.ga.plain F.entry_bexc_ga (wpAny_check_ga_own FB hC .base hx hc h)
theorem ga_entry {B : String} {bm : List Value} {hp : Heap} {g : Array GenState} {d : Drawn} {tk kt : Nat} {os : OsState} {nm q : Str} {C N x D : Addr} {bs : List Value} {sn : List Str} {sub : List Value} {ab : Bool} {col : Option Bool} {dd : Option Addr} {k0 k1 k2 k3 k5 : Option Value} {newId : String} {o : Obj} {vs : Array Value} {mN mE : Str → Option Value} {Q : Fin → Shared → Prop}
    (FB : ExcAttrBase B bm) (hC : hp.get? C = some (excClassObj nm q C N bs bm true sn sub ab col dd k0 k1 k2 k3 k5 newId)) (hn : hp.Ns N mN) (hna : mN name = none) (hB : typeLookup (.type B) name = pure none) (hx : hp.get? x = some o) (hc : o.cls = .ref C) (hd : o.data = .fields vs) (hdi : o.dict = some D) (hD : hp.Ns D mE) (hv : mE name = some v)
    (hq : Q (.done (.ret v)) ⟨hp, g, d, tk, os⟩) :
    wpAny (model prog w) A (Builtin.«object.__getattribute__» ⟨[.ref x, .str name kt], []⟩) Q E ⟨hp, g, d, tk, os⟩ := by
  unfold Builtin.«object.__getattribute__»
  repeat (first | (with_reducible refine wpAny_loadPart_at hx ?_; rw [hc]) | (with_reducible refine wpAny_typeLookup_exc hC hn FB.mro hB ?_; rw [hna]) | wp_step)
  rw [hd]
  dsimp only
  unfold instanceDict
  repeat (first | (with_reducible refine wpAny_loadPart_at hx ?_; rw [hc]) | with_reducible refine wpAny_loadPart_at hC ?_ | wp_step)
  rw [hdi]
  dsimp only
  repeat (first | (with_reducible refine wpAny_nsGet hD ?_; rw [hv]) | wp_step)
  exact hq
theorem ga_attr {B : String} {bm : List Value} {hp : Heap} {g : Array GenState} {d : Drawn} {tk : Nat} {os : OsState} {nm q : Str} {C N x D : Addr} {bs : List Value} {sn : List Str} {sub : List Value} {ab : Bool} {col : Option Bool} {dd : Option Addr} {k0 k1 k2 k3 k5 : Option Value} {newId : String} {o : Obj} {vs : Array Value} {mN mE : Str → Option Value} {Q : Value → Shared → Prop} {expr : Bool}
    (FB : ExcAttrBase B bm) (hC : hp.get? C = some (excClassObj nm q C N bs bm true sn sub ab col dd k0 k1 k2 k3 k5 newId)) (hn : hp.Ns N mN) (hga : mN "__getattribute__" = none) (hgh : mN "__getattr__" = none) (hna : mN name = none) (hB : typeLookup (.type B) name = pure none) (hx : hp.get? x = some o) (hc : o.cls = .ref C) (hd : o.data = .fields vs) (hdi : o.dict = some D) (hD : hp.Ns D mE) (hv : mE name = some v) (hh : handedOut v = pure v)
    (hq : Q v ⟨hp, g, d, tk + 1, os⟩) :
    wpAny (model prog w) A (getAttr (.ref x) name expr) Q E ⟨hp, g, d, tk, os⟩ := by
  have f3 := FB.ga.bind (.ref x)
  have hx0 : (expr && onTheHeap (Value.builtin "BaseException.__getattribute__")) = false := by cases expr <;> rfl
  have hx2 : (Value.builtin "BaseException.__getattribute__" == Value.builtin "object.__getattribute__") = false := by decide +kernel
  have hx1 : (onTheHeap (Value.ref C) && Value.builtin "BaseException.__getattribute__" == Value.builtin "object.__getattribute__") = false := by rw [hx2]; rfl
  unfold getAttr getAttrBy
  repeat (any_goals (first | assumption | (with_reducible refine wpAny_loadPart_at hx ?_; rw [hc]) | (with_reducible refine wpAny_typeLookup_exc hC hn FB.mro FB.ga.lookup ?_; rw [hga]) | (with_reducible refine wpAny_typeLookup_exc hC hn FB.mro FB.noGetattr ?_; rw [hgh]) | wp_step))
  refine ga_open FB hC hx hc (ga_entry FB hC hn hna hB hx hc hd hdi hD hv ?_)
  show wpAny _ _ (handedOut v) _ _ _
  rw [hh]
  exact wpAny_pure hq
/-- the symbol of a LispSignal is read -/
theorem sig_symbol_read {oe od : Obj} {D : Addr} {mE : Str → Option Value} {ts : Tok} {vs : Array Value} {x : Str} {Q : Value → Shared → Prop} {expr : Bool} (F : Fr h₀ L s.heap m) (X : (Mine.hd.heap_1_39 w.params).In h₀) (N : News h₀ L s.heap rest) (h1 : (e, oe) ∈ rest) (h2 : (D, od) ∈ rest) (hc : oe.cls = .ref 96) (hd : oe.data = .fields vs) (hdi : oe.dict = some D)
    (hD : LCg.NsObj od mE) (hv : mE (Str.ofString "symbol") = some (.str x ts)) (hq : Q (.str x ts) { s with toks := s.toks + 1 }) :
    wpAny (model prog w) A (getAttr (.ref e) (Str.ofString "symbol") expr) Q E s := by
  have XH := X.keeps F.keep
  obtain ⟨k0, k1, k2, k3, k5, hC⟩ := sig_cls XH
  have hn := sig_ns XH
  obtain ⟨hp, g, d, tk, os⟩ := s
  exact ga_attr PySem.F.attrBase_Exception hC hn rfl rfl rfl (by rw [typeLookup_type, builtinLookup_eq_fast]; kernel_rfl) (N _ h1).1 hc hd hdi (hD.ns (N _ h2).1) hv rfl hq
end
example : True := by
  k_with_none
  w_top off
  exact trivial
example : True := by
  k_with "mroom" => with_unfolding_all first | ((rename (_ + _ < recursionLimit) => hZq7); first | exact room_lt hZq7 0 rfl rfl | exact room_lt hZq7 1 rfl rfl | exact room_lt hZq7 2 rfl rfl | exact room_lt hZq7 3 rfl rfl | exact room_lt hZq7 4 rfl rfl | exact room_lt hZq7 5 rfl rfl | exact room_lt hZq7 6 rfl rfl | exact room_lt hZq7 7 rfl rfl | exact room_lt hZq7 8 rfl rfl | exact room_lt hZq7 9 rfl rfl | exact room_lt hZq7 10 rfl rfl | exact room_lt hZq7 11 rfl rfl | exact room_lt hZq7 12 rfl rfl | exact room_lt hZq7 13 rfl rfl | exact room_lt hZq7 14 rfl rfl | exact room_lt hZq7 15 rfl rfl) | exact lt_ble rfl | fail "mroom"
  exact trivial
example : True := by
  k_with "munits" => with_unfolding_all first | ((rename (_ + _ + _ < cLine) => hZq7); first | exact unit_lt2 hZq7 0 rfl rfl | exact unit_lt2 hZq7 3 rfl rfl | exact unit_lt2 hZq7 6 rfl rfl | exact unit_lt2 hZq7 9 rfl rfl | exact unit_lt2 hZq7 12 rfl rfl | exact unit_lt hZq7 0 rfl rfl | exact unit_lt hZq7 3 rfl rfl | exact unit_lt hZq7 6 rfl rfl | exact unit_lt hZq7 9 rfl rfl | exact unit_lt hZq7 12 rfl rfl) | exact lt_ble rfl | fail "munits"
  exact trivial
example : True := by
  k_with "mne" => (refine neN ?_; (try dsimp only); first | assumption | exact Ne.symm (by assumption) | exact Nat.ne_of_lt (by assumption) | exact Nat.ne_of_gt (by assumption) | fail "mne")
  exact trivial
example : True := by
  k_with "setAttr ref" => (k_here; k_dflt (refine' set_sig1 ?F ?X ?N ?na ?B ?he ?_; (case F => k_asm); (case X => k_asm); (case N => k_asm); (case na => exact rfl); (case B => (rw [typeLookup_type, builtinLookup_eq_fast]; kernel_rfl)); (case he => assumption); k_whole); intro D' kt' h' tk' F' N' sd1 sd2 sd3)
  exact trivial
example : True := by
  k_with "setAttr ref" => (k_here; k_dflt (refine' set_sig2 ?F ?X ?N ?na ?B ?he ?hr ?hl ?hz ?_; (case F => k_asm); (case X => k_asm); (case N => k_asm); (case na => exact rfl); (case B => (rw [typeLookup_type, builtinLookup_eq_fast]; kernel_rfl)); (case he => assumption); (case hr => assumption); (case hl => exact rfl); (case hz => (intro _; exact Nat.le_of_ble_eq_true rfl)); k_whole); intro kt2' h' tk' F' N')
  exact trivial
/-- a call of the text's function at f that may raise a LispSignal: where it may, PR holds -/
def CtR (prog : Program) (w : World) (mean : ExcName → Option Value) (mg mb : Str → Option Value) (f : Addr) (dq : Nat) (news : List (Addr × Obj)) (vs : List Value) (Post : Value → List (Addr × Obj) → Prop) (PR : Prop) : Prop :=
  ∀ (c : Cal) (A₀ : Around) (base h₀ : Heap) (L : Addr) (m : Str → Option Value) (hp : Heap) (g : Array GenState) (d : Drawn) (tk : Nat) (os : OsState) (Q E : Value → Shared → Prop),
    Below A₀ base c.outer h₀ → Fr h₀ L hp m → (Mine.hd.heap_1_39 w.params).In h₀ → News h₀ L hp news → Top Mine.hd.view_1_40 (looseW Mine.hd.view_1_40 [Str.ofString "ParseState"]) mean mg mb h₀ → c.cs.kind = .function →
    c.dp + dq < recursionLimit → c.un + 8 * dq + 8 < cLine →
    (∀ (v : Value) (news' : List (Addr × Obj)) (h' : Heap) (tk' : Nat), Fr h₀ L h' m → News h₀ L h' news' → Post v news' → Q v ⟨h', g, d, tk', os⟩) →
    (∀ (e : Addr) (h' : Heap) (tk' : Nat), PR → Rz base h₀ L m (envX c.cn c.cs L c.a c.ccd c.cl :: c.outer) news e h' → E (.ref e) ⟨h', g, d, tk', os⟩) →
    wpAny (model prog w) (calA c L) (call (.ref f) vs) Q E ⟨hp, g, d, tk, os⟩
theorem CtR.use {f : Addr} {dq : Nat} {news : List (Addr × Obj)} {vs : List Value} {Post : Value → List (Addr × Obj) → Prop} {PR : Prop}
    {dp un : Nat} {gd : Option (List Code)} {cn : Str} {cs : Scope} {a : Addr} {ccd : Value} {cl : List (Str × Addr)} {outer : List Env} {A₀ : Around} {base h₀ : Heap} {L : Addr} {m : Str → Option Value} {s : Shared} {Q E : Value → Shared → Prop}
    (C : CtR prog w mean mg mb f dq news vs Post PR) (B : Below A₀ base outer h₀) (F : Fr h₀ L s.heap m) (X : (Mine.hd.heap_1_39 w.params).In h₀) (N : News h₀ L s.heap news) (T : Top Mine.hd.view_1_40 (looseW Mine.hd.view_1_40 [Str.ofString "ParseState"]) mean mg mb h₀) (hk : cs.kind = .function)
    (hd : dp + dq < recursionLimit) (hu : un + 8 * dq + 8 < cLine)
    (k : ∀ (v : Value) (news' : List (Addr × Obj)) (h' : Heap) (tk' : Nat), Fr h₀ L h' m → News h₀ L h' news' → Post v news' → Q v { s with heap := h', toks := tk' })
    (kr : ∀ (e : Addr) (h' : Heap) (tk' : Nat), PR → Rz base h₀ L m (envX cn cs L a ccd cl :: outer) news e h' → E (.ref e) { s with heap := h', toks := tk' }) :
    wpAny (model prog w) (ktrTop dp un gd cn cs L a ccd cl outer) (call (.ref f) vs) Q E s := C ⟨dp, un, gd, cn, cs, a, ccd, cl, outer⟩ A₀ base h₀ L m s.heap s.gens s.drawn s.toks s.os Q E B F X N T hk hd hu k kr
theorem call_sig {dp un : Nat} {gd : Option (List Code)} {cn : Str} {cs : Scope} {a : Addr} {ccd : Value} {cl : List (Str × Addr)} {outer : List Env} {A₀ : Around} {base h₀ : Heap} {L : Addr} {m : Str → Option Value} {s : Shared} {Q E : Value → Shared → Prop} {nw : List (Addr × Obj)} {ts : Tok} {dv : Value}
    (B : Below A₀ base outer h₀) (F : Fr h₀ L s.heap m) (X : (Mine.hd.heap_1_39 w.params).In h₀) (N : News h₀ L s.heap nw) (T : Top Mine.hd.view_1_40 (looseW Mine.hd.view_1_40 [Str.ofString "ParseState"]) mean mg mb h₀) (hk : cs.kind = .function)
    (hd : dp + 3 < recursionLimit) (hu : un + 32 < cLine)
    (k : ∀ (e t D : Addr) (h1 h2 : Int) (k1 k2 : Tok) (h' : Heap) (tk' : Nat), Fr h₀ L h' m → News h₀ L h' ((D, dictOf [⟨h1, .str (Str.ofString "symbol") k1, .str (Str.ofString "scan-error") ts⟩, ⟨h2, .str (Str.ofString "data") k2, dv⟩] 2) :: (e, excO t (some D)) :: nw) → @Ne Nat e D → (∀ p ∈ nw, p.1 ≠ e) → Q (.ref e) { s with heap := h', toks := tk' }) :
    wpAny (model prog w) (ktrTop dp un gd cn cs L a ccd cl outer) (call (.ref 96) [.str (Str.ofString "scan-error") ts, dv]) Q E s := by
  have XH := X.keeps F.keep
  obtain ⟨c0, c1, c2, c3, c5, hC⟩ := sig_cls XH
  have hn := sig_ns XH
  obtain ⟨hp, g, d, tk, os⟩ := s
  refine wpAny_call_exc_init PySem.F.excBase_Exception hC hn sig_init (XH 93 _ (by rfl)) rfl ?_ (show 2 ≤ sizeLine by rw [sizeLine_eq]; omega)
  intro h1 e hm
  obtain ⟨t, he, htn, ht⟩ := hm.there
  have F' : Fr h₀ L h1 m := F.keeps hm.keeps
  have N1 : News h₀ L h1 nw := fun p hp' => ⟨hm.keeps _ _ (N p hp').1, (N p hp').2⟩
  have he0 : h₀.get? e = none := none_keeps F.keep hm.new
  have heL : e ≠ L := fun z => by obtain ⟨o, _, _, ho, _⟩ := F.ns; rw [← z, hm.new] at ho; cases ho
  have N' : News h₀ L h1 ((e, excO t none) :: nw) := fun p hp' => by
    rcases List.mem_cons.mp hp' with rfl | hp'
    · exact ⟨he, heL, he0⟩
    · exact N1 p hp'
  have hne : ∀ p ∈ nw, p.1 ≠ e := fun p hp' z => by have := (N p hp').1; rw [z, hm.new] at this; cases this
  clear N1 N hn hC XH
  refine wpAny_call ?_
  k_dflt (refine' code_def (binds := [(Str.ofString "self", Value.ref e), (Str.ofString "symbol", Value.str (Str.ofString "scan-error") ts), (Str.ofString "data", dv)]) ?k1 ?k2 ?k3 ?k4 ?k5 ?kA ?kF ?kK ?k6 ?k7 ?k8 ?k9 ?kB ?_ ?c2 ?c3 ?c4 ?c5; (case kA => exact rfl); (case kF => exact rfl); (case kK => first | exact rfl | assumption); (case k1 => k_asm); (case k2 => k_asm); (case k3 => k_asm); (case k4 => k_asm); (case k5 => k_asm); (case k6 => k_is); (case k7 => k_is); (case k8 => ktr_room); (case k9 => first | exact BindsTo.of_eq rfl | exact binds_K (by k_in) rfl (by k_is) rfl rfl rfl); (case c5 => decide); (case kB => exact locs rfl); (case c2 => exact rfl); (case c3 => exact rfl); (case c4 => exact rfl); k_whole; intro g' L' h' FG' F' N' B' X' T'; (try dsimp only); (try k_lift B'); (try k_fold))
  k_steps

  exact k e t D' _ _ _ _ h' _ (by assumption) (by with_unfolding_all assumption) sd1 hne
example : True := by
  k_with_none
  w_top off
  exact trivial
example : True := by
  k_with "mroom" => with_unfolding_all first | ((rename (_ + _ < recursionLimit) => hZq7); first | exact room_lt hZq7 0 rfl rfl | exact room_lt hZq7 1 rfl rfl | exact room_lt hZq7 2 rfl rfl | exact room_lt hZq7 3 rfl rfl | exact room_lt hZq7 4 rfl rfl | exact room_lt hZq7 5 rfl rfl | exact room_lt hZq7 6 rfl rfl | exact room_lt hZq7 7 rfl rfl | exact room_lt hZq7 8 rfl rfl | exact room_lt hZq7 9 rfl rfl | exact room_lt hZq7 10 rfl rfl | exact room_lt hZq7 11 rfl rfl | exact room_lt hZq7 12 rfl rfl | exact room_lt hZq7 13 rfl rfl | exact room_lt hZq7 14 rfl rfl | exact room_lt hZq7 15 rfl rfl) | exact lt_ble rfl | fail "mroom"
  exact trivial
example : True := by
  k_with "munits" => with_unfolding_all first | ((rename (_ + _ + _ < cLine) => hZq7); first | exact unit_lt2 hZq7 0 rfl rfl | exact unit_lt2 hZq7 3 rfl rfl | exact unit_lt2 hZq7 6 rfl rfl | exact unit_lt2 hZq7 9 rfl rfl | exact unit_lt2 hZq7 12 rfl rfl | exact unit_lt hZq7 0 rfl rfl | exact unit_lt hZq7 3 rfl rfl | exact unit_lt hZq7 6 rfl rfl | exact unit_lt hZq7 9 rfl rfl | exact unit_lt hZq7 12 rfl rfl) | exact lt_ble rfl | fail "munits"
  exact trivial
example : True := by
  k_with "mne" => (refine neN ?_; (try dsimp only); first | assumption | exact Ne.symm (by assumption) | exact Nat.ne_of_lt (by assumption) | exact Nat.ne_of_gt (by assumption) | fail "mne")
  exact trivial
/-- what a raise asks of its value -/
def SigR (w : World) (E : Value → Shared → Prop) (v : Value) (s₁ : Shared) : Prop :=
  ∃ (e t : Addr) (d : Option Addr), v = .ref e ∧ (Mine.hd.heap_1_39 w.params).In s₁.heap ∧ s₁.heap.get? e = some (excO t d) ∧ E (.ref e) s₁
theorem SigR.mk {E : Value → Shared → Prop} {h₀ : Heap} {L e t : Addr} {d : Option Addr} {m : Str → Option Value} {nw : List (Addr × Obj)} {s₁ : Shared} (F : Fr h₀ L s₁.heap m) (X : (Mine.hd.heap_1_39 w.params).In h₀) (N : News h₀ L s₁.heap nw) (he : (e, excO t d) ∈ nw) (hE : E (.ref e) s₁) :
    SigR w E (.ref e) s₁ := ⟨e, t, d, rfl, X.keeps F.keep, (N _ he).1, hE⟩
theorem raise_sig {A : Around} {E : Value → Shared → Prop} {s : Shared} {env : Env} {x : Expr} {pos : Pos} {Q : Flow → Shared → Prop} (hh : A.handled = none) (h : wpAny (model prog w) A (eval x env) (SigR w E) E s) :
    wpAny (model prog w) A (exec (.Raise (some x) none pos) env) Q E s := by
  show wpAny _ A (do standAt pos; raiseStmt env (some (do let v ← eval x env; standAt pos; pure v)) none) Q E s
  refine wpAny_bind (wpAny_standAt ?_)
  unfold raiseStmt
  dsimp only
  refine wpAny_bind (wpAny_bind (wpAny_mono h (fun v s₁ h₁ => wpAny_bind (wpAny_standAt (wpAny_pure ?_))) fun _ _ x => x))
  obtain ⟨e, t, d, rfl, X, he, hE⟩ := h₁
  obtain ⟨c0, c1, c2, c3, c5, hC⟩ := sig_cls X
  have hcB : (Value.ref 96 :: [Value.type "Exception", .type "BaseException", .type "object"]).contains (.type "BaseException") = true := by decide +kernel
  obtain ⟨hp, g, dr, tk, os⟩ := s₁
  repeat (first | with_reducible refine wpAny_loadPart_at he ?_ | with_reducible refine wpAny_loadPart_at hC ?_ | (with_reducible refine wpAny_isSubtype_exc hC ?_; rw [hcB]) | wp_step)
  exact wpAny_raiseNew_none hh hE
example : True := by
  k_with_none
  w_top off
  exact trivial
example : True := by
  k_with "mroom" => with_unfolding_all first | ((rename (_ + _ < recursionLimit) => hZq7); first | exact room_lt hZq7 0 rfl rfl | exact room_lt hZq7 1 rfl rfl | exact room_lt hZq7 2 rfl rfl | exact room_lt hZq7 3 rfl rfl | exact room_lt hZq7 4 rfl rfl | exact room_lt hZq7 5 rfl rfl | exact room_lt hZq7 6 rfl rfl | exact room_lt hZq7 7 rfl rfl | exact room_lt hZq7 8 rfl rfl | exact room_lt hZq7 9 rfl rfl | exact room_lt hZq7 10 rfl rfl | exact room_lt hZq7 11 rfl rfl | exact room_lt hZq7 12 rfl rfl | exact room_lt hZq7 13 rfl rfl | exact room_lt hZq7 14 rfl rfl | exact room_lt hZq7 15 rfl rfl) | exact lt_ble rfl | fail "mroom"
  exact trivial
example : True := by
  k_with "munits" => with_unfolding_all first | ((rename (_ + _ + _ < cLine) => hZq7); first | exact unit_lt2 hZq7 0 rfl rfl | exact unit_lt2 hZq7 3 rfl rfl | exact unit_lt2 hZq7 6 rfl rfl | exact unit_lt2 hZq7 9 rfl rfl | exact unit_lt2 hZq7 12 rfl rfl | exact unit_lt hZq7 0 rfl rfl | exact unit_lt hZq7 3 rfl rfl | exact unit_lt hZq7 6 rfl rfl | exact unit_lt hZq7 9 rfl rfl | exact unit_lt hZq7 12 rfl rfl) | exact lt_ble rfl | fail "munits"
  exact trivial
example : True := by
  k_with "mne" => (refine neN ?_; (try dsimp only); first | assumption | exact Ne.symm (by assumption) | exact Nat.ne_of_lt (by assumption) | exact Nat.ne_of_gt (by assumption) | fail "mne")
  exact trivial
example : True := by
  k_with "exec Raise some none" => (k_here; k_dflt (refine raise_sig rfl ?_))
  exact trivial
example : True := by
  k_with "call ref" => (k_here; (with_reducible show wpAny _ _ (PySem.call (Value.ref 96) _) _ _ _); k_dflt (refine' call_sig ?kB ?kF ?kX ?kN ?kT ?kk ?kd ?ku ?_; (case kB => k_asm); (case kF => k_asm); (case kX => k_asm); (case kN => k_asm); (case kT => k_asm); (case kk => first | exact rfl | assumption); (case kd => ktr_room); (case ku => ktr_units); k_whole); intro e9 t9 D9 sh1 sh2 sk1 sk2 h' tk' F' N' se1 se2; (try dsimp only))
  exact trivial
example : True := by
  k_with "SigR" => (refine' SigR.mk ?F ?X ?N ?he ?_; (case F => k_asm); (case X => k_asm); (case N => k_asm); (case he => k_mem))
  exact trivial
example : True := by
  k_with "leaving ref" => (k_here; refine' leave_first' ?K ?F ?N ?hDe ?FG ?hn ?hne ?hk ?_; (case K => assumption); (case F => k_asm); (case N => k_asm); (case hDe => assumption); (case FG => assumption); (case hk => exact rfl); (case hne => assumption); (case hn => (intro p9 hp9; first | exact hp9 | exact .tail _ hp9 | exact .tail _ (.tail _ hp9) | exact .tail _ (.tail _ (.tail _ hp9)) | exact .tail _ (.tail _ (.tail _ (.tail _ hp9))) | exact .tail _ (.tail _ (.tail _ (.tail _ (.tail _ hp9)))) | exact .tail _ (.tail _ (.tail _ (.tail _ (.tail _ (.tail _ hp9))))) | exact .tail _ (.tail _ (.tail _ (.tail _ (.tail _ (.tail _ (.tail _ hp9)))))))); k_whole; intro h' R'; (try dsimp only))
  exact trivial
theorem sig_dict {h1 h2 : Int} {k1 k2 ts : Tok} {dv : Value} : ∃ mE, LCg.NsObj (dictOf [⟨h1, .str (Str.ofString "symbol") k1, .str (Str.ofString "scan-error") ts⟩, ⟨h2, .str (Str.ofString "data") k2, dv⟩] 2) mE ∧ mE (Str.ofString "symbol") = some (.str (Str.ofString "scan-error") ts) := by
  refine ⟨_, ⟨_, _, rfl, ?_, fun _ => rfl⟩, rfl⟩
  intro e he
  simp only [List.mem_toArray, List.mem_cons, List.not_mem_nil, or_false] at he
  rcases he with rfl | rfl <;> exact ⟨_, _, rfl⟩
theorem leave_first' {M : Model} {A : Around} {E : Value → Shared → Prop} {s' : Shared} {base g h₀ : Heap} {outer : List Env} {L L' a e t D : Addr} {m m' : Str → Option Value} {name : Str} {scope : Scope} {cd : Value} {Q : Unit → Shared → Prop} {nw news : List (Addr × Obj)} {h1 h2 : Int} {k1 k2 ts : Tok} {dv : Value}
    (K : Below A base outer g) (F : Fr g L' s'.heap m') (N : News g L' s'.heap ((D, dictOf [⟨h1, .str (Str.ofString "symbol") k1, .str (Str.ofString "scan-error") ts⟩, ⟨h2, .str (Str.ofString "data") k2, dv⟩] 2) :: (e, excO t (some D)) :: nw)) (hDe : @Ne Nat e D)
    (FG : Fr h₀ L g m) (hn : ∀ q ∈ news, q ∈ nw) (hne : ∀ q ∈ nw, q.1 ≠ e) (hk : scope.kind = .function)
    (hQ : ∀ h', Rz base h₀ L m outer news e h' → Q () { s' with heap := h' }) :
    wpAny M (A.deeper (envOf name scope L' a cd)) (leaving (envOf name scope L' a cd) (.ref e)) Q E s' := by
  obtain ⟨mE, x, y⟩ := sig_dict (h1 := h1) (h2 := h2) (k1 := k1) (k2 := k2) (ts := ts) (dv := dv)
  exact leave_first K F N (.tail _ (.head _)) (.head _) rfl rfl rfl x y hDe FG (fun q hq => .tail _ (.tail _ (hn q hq))) (fun q hq => hne q (hn q hq)) hk hQ
theorem scan_lost {rest : List (Addr × Obj)} {sc sd v t : Addr} {od : Obj} {p dep g : Int} {dn : Bool} (S : ScanD od v t p dep g dn) (e1 : @Ne Nat sc sd) (r1 : ∀ q ∈ rest, q.1 ≠ sd) :
    CtR prog w mean mg mb 495 4 ((sc, instObj 519 sd) :: (sd, od) :: rest) [.ref sc] (fun _ _ => False) True := by
  (refine ScanD.elim S ?_; intro shh skk sa1 sa2 sa3 sa4 seq); subst seq
  intro c00 A₀ base h₀ L m sHp sGn sDr sTk sOs Q E B F X N T hk hd hu hret hra
  refine wpAny_call ?_
  k_dflt (refine' code_def (binds := [(Str.ofString "self", Value.ref sc)]) ?k1 ?k2 ?k3 ?k4 ?k5 ?kA ?kF ?kK ?k6 ?k7 ?k8 ?k9 ?kB ?_ ?c2 ?c3 ?c4 ?c5; (case kA => exact rfl); (case kF => exact rfl); (case kK => first | exact rfl | assumption); (case k1 => k_asm); (case k2 => k_asm); (case k3 => k_asm); (case k4 => k_asm); (case k5 => k_asm); (case k6 => k_is); (case k7 => k_is); (case k8 => ktr_room); (case k9 => first | exact BindsTo.of_eq rfl | exact binds_K (by k_in) rfl (by k_is) rfl rfl rfl); (case c5 => decide); (case kB => exact locs rfl); (case c2 => exact rfl); (case c3 => exact rfl); (case c4 => exact rfl); k_whole; intro g' L' h' FG' F' N' B' X' T'; (try dsimp only); (try k_lift B'); (try k_fold))
  k_steps

  exact hra _ _ _ trivial (R'.mono (by (intro p9 hp9; first | exact hp9 | exact .tail _ hp9 | exact .tail _ (.tail _ hp9) | exact .tail _ (.tail _ (.tail _ hp9)) | exact .tail _ (.tail _ (.tail _ (.tail _ hp9))) | exact .tail _ (.tail _ (.tail _ (.tail _ (.tail _ hp9)))) | exact .tail _ (.tail _ (.tail _ (.tail _ (.tail _ (.tail _ hp9))))) | exact .tail _ (.tail _ (.tail _ (.tail _ (.tail _ (.tail _ (.tail _ hp9)))))))))
example : True := by
  k_with_none
  w_top off
  exact trivial
example : True := by
  k_with "mroom" => with_unfolding_all first | ((rename (_ + _ < recursionLimit) => hZq7); first | exact room_lt hZq7 0 rfl rfl | exact room_lt hZq7 1 rfl rfl | exact room_lt hZq7 2 rfl rfl | exact room_lt hZq7 3 rfl rfl | exact room_lt hZq7 4 rfl rfl | exact room_lt hZq7 5 rfl rfl | exact room_lt hZq7 6 rfl rfl | exact room_lt hZq7 7 rfl rfl | exact room_lt hZq7 8 rfl rfl | exact room_lt hZq7 9 rfl rfl | exact room_lt hZq7 10 rfl rfl | exact room_lt hZq7 11 rfl rfl | exact room_lt hZq7 12 rfl rfl | exact room_lt hZq7 13 rfl rfl | exact room_lt hZq7 14 rfl rfl | exact room_lt hZq7 15 rfl rfl) | exact lt_ble rfl | fail "mroom"
  exact trivial
example : True := by
  k_with "munits" => with_unfolding_all first | ((rename (_ + _ + _ < cLine) => hZq7); first | exact unit_lt2 hZq7 0 rfl rfl | exact unit_lt2 hZq7 3 rfl rfl | exact unit_lt2 hZq7 6 rfl rfl | exact unit_lt2 hZq7 9 rfl rfl | exact unit_lt2 hZq7 12 rfl rfl | exact unit_lt hZq7 0 rfl rfl | exact unit_lt hZq7 3 rfl rfl | exact unit_lt hZq7 6 rfl rfl | exact unit_lt hZq7 9 rfl rfl | exact unit_lt hZq7 12 rfl rfl) | exact lt_ble rfl | fail "munits"
  exact trivial
example : True := by
  k_with "mne" => (refine neN ?_; (try dsimp only); first | assumption | exact Ne.symm (by assumption) | exact Nat.ne_of_lt (by assumption) | exact Nat.ne_of_gt (by assumption) | fail "mne")
  exact trivial
example : True := by
  k_with "call ref" => (k_here; (with_reducible show wpAny _ _ (PySem.call (Value.ref 648) _) _ _ _); k_dflt (refine' Ct.use (view_end ?hV) ?kB ?kF ?kX ?kN ?kT ?kk ?kd ?ku ?_; (case kB => k_asm); (case kF => k_asm); (case kX => k_asm); (case kN => first | k_asm | exact news_tl (by k_asm) | exact news_tl (news_tl (by k_asm))); (case kT => k_asm); (case kk => first | exact rfl | assumption); (case hV => (first | assumption | (refine ViewIn.mono (by assumption) ?_; (intro p9 hp9; first | exact hp9 | exact .tail _ hp9 | exact .tail _ (.tail _ hp9) | exact .tail _ (.tail _ (.tail _ hp9)) | exact .tail _ (.tail _ (.tail _ (.tail _ hp9))) | exact .tail _ (.tail _ (.tail _ (.tail _ (.tail _ hp9)))) | exact .tail _ (.tail _ (.tail _ (.tail _ (.tail _ (.tail _ hp9))))) | exact .tail _ (.tail _ (.tail _ (.tail _ (.tail _ (.tail _ (.tail _ hp9)))))))))); (case kd => ktr_room); (case ku => ktr_units); k_whole); intro v9 n9 h9 tk9 F9 N9 p9; obtain ⟨e9, t9, p9⟩ := p9; (have e9 := e9.symm); subst e9; subst p9; (try dsimp only); (try k_sweep))
  exact trivial
example : True := by
  k_with "call ref" => (k_here; (with_reducible show wpAny _ _ (PySem.call (Value.ref 519) _) _ _ _); k_dflt (refine' Ct.use (scan_new ) ?kB ?kF ?kX ?kN ?kT ?kk ?kd ?ku ?_; (case kB => k_asm); (case kF => k_asm); (case kX => k_asm); (case kN => first | k_asm | exact news_tl (by k_asm) | exact news_tl (news_tl (by k_asm))); (case kT => k_asm); (case kk => first | exact rfl | assumption);  (case kd => ktr_room); (case ku => ktr_units); k_whole); intro v9 n9 h9 tk9 F9 N9 p9; refine goal_gen ?_; intro GG9 kGG9; obtain ⟨sc, sd, od, p8, e9, S9, sc1, sc2⟩ := p9; refine kGG9 ?_; clear kGG9 GG9; subst p8; subst e9; (try dsimp only); (try k_sweep))
  exact trivial
example : True := by
  k_with "exec While Compare cons nil" => (k_here; (rename Fr _ _ _ _ => lF'); (rename News _ _ _ _ => lN'); (with_unfolding_all (refine' whS0 [] (fun d : Int × Obj × Int × Int => (1 + ns.length - d.1).toNat) (fun d => (sc, instObj 519 sd) :: (sd, d.2.1) :: news) (fun d => p ≤ d.1 ∧ d.1 ≤ 1 + ns.length ∧ ScanD d.2.1 v t d.1 d.2.2.1 d.2.2.2 false ∧ FoInv ns p d.1 d.2.2.1) (p, od, 0, p) lF' lN' ?ln ?li ?lt)); (case ln => k_sub); (case li => exact ⟨Int.le_refl _, by omega, S9, fo_start⟩); (case' lt => (intro d' u' h' tk' hI' F' N'; clear lF' lN'; obtain ⟨pp, od1, dep, gg⟩ := d'; (dsimp only at hI' N'); refine goal_gen ?_; intro GG9 kGG9; obtain ⟨i1, i2, i3, i4⟩ := hI'; refine kGG9 ?_; clear kGG9 GG9; clear S9; (have fd := fo_dep i4); (have fh := fo_hd1 hs i4); (have fp := fo_pos i4); (unfold ScanD at i3); (refine ScanD.elim i3 ?_; intro shh skk sa1 sa2 sa3 sa4 seq); subst seq; (try dsimp only at F' N'); (try k_fold))))
  exact trivial
example : True := by
  k_with "call ref" => (k_here; (with_reducible show wpAny _ _ (PySem.call (Value.ref 544) _) _ _ _); k_dflt (refine' Ct.use (step_forward ?V ?Tb ?hal ?hin ?hp ?hS ?hd0 ?hd1 ?q1 ?q2) ?kB ?kF ?kX ?kN ?kT ?kk ?kd ?ku ?_; (case kB => k_asm); (case kF => k_asm); (case kX => k_asm); (case kN => first | k_asm | exact news_tl (by k_asm) | exact news_tl (news_tl (by k_asm))); (case kT => k_asm); (case kk => first | exact rfl | assumption); (case hS => exact ScanD.mk'); (case V => (first | assumption | (refine ViewIn.mono (by assumption) ?_; (intro p9 hp9; first | exact hp9 | exact .tail _ hp9 | exact .tail _ (.tail _ hp9) | exact .tail _ (.tail _ (.tail _ hp9)) | exact .tail _ (.tail _ (.tail _ (.tail _ hp9))) | exact .tail _ (.tail _ (.tail _ (.tail _ (.tail _ hp9)))) | exact .tail _ (.tail _ (.tail _ (.tail _ (.tail _ (.tail _ hp9))))) | exact .tail _ (.tail _ (.tail _ (.tail _ (.tail _ (.tail _ (.tail _ hp9)))))))))); (case Tb => (first | assumption | (refine TabIn.mono (by assumption) ?_; (intro p9 hp9; first | exact hp9 | exact .tail _ hp9 | exact .tail _ (.tail _ hp9) | exact .tail _ (.tail _ (.tail _ hp9)) | exact .tail _ (.tail _ (.tail _ (.tail _ hp9))) | exact .tail _ (.tail _ (.tail _ (.tail _ (.tail _ hp9)))) | exact .tail _ (.tail _ (.tail _ (.tail _ (.tail _ (.tail _ hp9))))) | exact .tail _ (.tail _ (.tail _ (.tail _ (.tail _ (.tail _ (.tail _ hp9)))))))))); (case hal => assumption); (case hin => (constructor <;> omega)); (case hp => (constructor <;> omega)); (case hd0 => (first | assumption | (constructor <;> omega))); (case hd1 => assumption); (case q1 => (first | assumption | omega)); (case q2 => assumption); (case kd => ktr_room); (case ku => ktr_units); k_whole); intro v9 n9 h9 tk9 F9 N9 p9; refine goal_gen ?_; intro GG9 kGG9; obtain ⟨p8, od9, dn9, e9, S9, hdn9⟩ := p9; refine kGG9 ?_; clear kGG9 GG9; subst p8; subst e9; (refine ScanD.elim S9 ?_; intro shh skk sa1 sa2 sa3 sa4 seq); subst seq; (try dsimp only); (try k_sweep))
  exact trivial
example : True := by
  k_with "SPost" => (dsimp only [SPost])
  exact trivial
example : True := by
  k_with "SEnd0" => ((have hz9 := fo_not hdn9 (by assumption)); (have hb9 : dn9 = false := by assumption); subst hb9; first | (refine' SEnd0.intro (d' := (pp + 1, _, dep + sdelta (kindOf (codeAt ns pp)), gg)) (by assumption) ?sN ?sI ?sM ?sS; (case sN => ((try dsimp only); (first | k_asm | (refine cb_drop (by k_asm) ?_; (intro p9 hp9; first | exact hp9 | exact .tail _ hp9 | exact .tail _ (.tail _ hp9) | exact .tail _ (.tail _ (.tail _ hp9)) | exact .tail _ (.tail _ (.tail _ (.tail _ hp9))) | exact .tail _ (.tail _ (.tail _ (.tail _ (.tail _ hp9)))) | exact .tail _ (.tail _ (.tail _ (.tail _ (.tail _ (.tail _ hp9))))) | exact .tail _ (.tail _ (.tail _ (.tail _ (.tail _ (.tail _ (.tail _ hp9)))))))) | (refine cb_drop (by k_asm) ?_; k_sub)))); (case sI => ((try dsimp only); exact ⟨by omega, by omega, ScanD.mk', fo_next hs i4 hz9⟩)); (case sM => ((try dsimp only); omega)); (case sS => (intro z h3; first | rfl | (simp only [List.contains_cons, List.contains_nil, Bool.or_false, Bool.or_eq_false_iff, beq_eq_false_iff_ne, ne_eq] at h3; simp [h3]; done)))) | (refine' SEnd0.intro (d' := (pp + 1, _, dep + sdelta (kindOf (codeAt ns pp)), pp)) (by assumption) ?sN ?sI ?sM ?sS; (case sN => ((try dsimp only); (first | k_asm | (refine cb_drop (by k_asm) ?_; (intro p9 hp9; first | exact hp9 | exact .tail _ hp9 | exact .tail _ (.tail _ hp9) | exact .tail _ (.tail _ (.tail _ hp9)) | exact .tail _ (.tail _ (.tail _ (.tail _ hp9))) | exact .tail _ (.tail _ (.tail _ (.tail _ (.tail _ hp9)))) | exact .tail _ (.tail _ (.tail _ (.tail _ (.tail _ (.tail _ hp9))))) | exact .tail _ (.tail _ (.tail _ (.tail _ (.tail _ (.tail _ (.tail _ hp9)))))))) | (refine cb_drop (by k_asm) ?_; k_sub)))); (case sI => ((try dsimp only); exact ⟨by omega, by omega, ScanD.mk', fo_next hs i4 hz9⟩)); (case sM => ((try dsimp only); omega)); (case sS => (intro z h3; first | rfl | (simp only [List.contains_cons, List.contains_nil, Bool.or_false, Bool.or_eq_false_iff, beq_eq_false_iff_ne, ne_eq] at h3; simp [h3]; done)))))
  exact trivial
example : True := by
  k_with "call ref" => (focus (k_here; (with_reducible show wpAny _ _ (PySem.call (Value.ref 495) _) _ _ _); k_dflt (refine' CtR.use (scan_lost ?hS ?q1 ?q2) ?kB ?kF ?kX ?kN ?kT ?kk ?kd ?ku ?_ ?_; (case kB => k_asm); (case kF => k_asm); (case kX => k_asm); (case kN => first | k_asm | exact news_tl (by k_asm) | exact news_tl (news_tl (by k_asm))); (case kT => k_asm); (case kk => first | exact rfl | assumption); (case hS => exact ScanD.mk'); (case q1 => (first | assumption | omega)); (case q2 => assumption); (case kd => ktr_room); (case ku => ktr_units); k_whole); rotate_left; (intro e9 h9 tk9 pr9 R9; (try dsimp only)); rotate_left; (intro v9 n9 h9 tk9 F9 N9 p9; exact p9.elim; (try dsimp only); (try k_sweep))))
  exact trivial
example : True := by
  k_with "leaving ref" => (k_here; k_dflt (refine' leave_next ?K ?R ?hf ?hL ?FG ?hn ?_; (case K => assumption); (case R => assumption); (case hf => exact rfl); (case hL => exact frame_self (by assumption)); (case FG => assumption); (case hn => exact fun _ h9 => h9); k_whole); intro h' R'; (try dsimp only))
  exact trivial
/-- the balance of the first n signs of the text from place p -/
def dTo (ns : List Int) (p : Int) : Nat → Int
  | 0 => 0
  | k + 1 => dTo ns p k + sdelta (kindOf (codeAt ns (p + k)))
def FoInv (ns : List Int) (p q dep : Int) : Prop := ∃ k : Nat, q = p + k ∧ dep = dTo ns p k ∧ ∀ j, 1 ≤ j → j ≤ k → 1 ≤ dTo ns p j
def ScanFound (ns : List Int) (p : Int) (r : Value) : Prop := ∃ (n : Nat) (t : Tok), 1 ≤ n ∧ p + n ≤ 1 + ns.length ∧ dTo ns p n = 0 ∧ (∀ k, 1 ≤ k → k < n → dTo ns p k ≠ 0) ∧ r = .int (p + n) t
def NoEnd (ns : List Int) (p : Int) : Prop := ∀ k : Nat, 1 ≤ k → p + k ≤ 1 + ns.length → dTo ns p k ≠ 0
theorem sdelta_le (kd : String) : -1 ≤ sdelta kd ∧ sdelta kd ≤ 1 := by unfold sdelta; split <;> (try split) <;> omega
theorem dTo_le (ns : List Int) (p : Int) : ∀ k : Nat, dTo ns p k ≤ k
  | 0 => Int.le_refl _
  | k + 1 => by
    have := dTo_le ns p k
    have := (sdelta_le (kindOf (codeAt ns (p + k)))).2
    rw [dTo]; omega
theorem fo_start {ns : List Int} {p : Int} : FoInv ns p p 0 := ⟨0, by omega, rfl, fun j h1 h2 => absurd h1 (by omega)⟩
theorem fo_dep {ns : List Int} {p q dep : Int} (h : FoInv ns p q dep) : 0 ≤ dep ∧ dep ≤ q - p := by
  obtain ⟨k, rfl, rfl, h⟩ := h
  refine ⟨?_, by have := dTo_le ns p k; omega⟩
  cases k with
  | zero => exact Int.le_refl _
  | succ k => have := h (k + 1) (by omega) (by omega); omega
theorem fo_hd1 {ns : List Int} {p q dep : Int} (hs : kindOf (codeAt ns p) = "(") (h : FoInv ns p q dep) : 1 ≤ dep ∨ kindOf (codeAt ns q) = "(" := by
  obtain ⟨k, rfl, rfl, h⟩ := h
  cases k with
  | zero => right; rw [show p + ((0 : Nat) : Int) = p by omega]; exact hs
  | succ k => exact .inl (h (k + 1) (by omega) (by omega))
theorem fo_step {ns : List Int} {p q dep : Int} (hs : kindOf (codeAt ns p) = "(") (h : FoInv ns p q dep) : 0 ≤ dep + sdelta (kindOf (codeAt ns q)) := by
  rcases fo_hd1 hs h with h1 | h1
  · have := (sdelta_le (kindOf (codeAt ns q))).1; omega
  · have := (fo_dep h).1
    rw [h1, show sdelta "(" = 1 from rfl]; omega
theorem fo_next {ns : List Int} {p q dep : Int} (hs : kindOf (codeAt ns p) = "(") (h : FoInv ns p q dep) (hne : dep + sdelta (kindOf (codeAt ns q)) ≠ 0) : FoInv ns p (q + 1) (dep + sdelta (kindOf (codeAt ns q))) := by
  have h0 := fo_step hs h
  obtain ⟨k, rfl, rfl, h⟩ := h
  refine ⟨k + 1, by omega, rfl, fun j h1 h2 => ?_⟩
  by_cases e : j = k + 1
  · rw [e, dTo]; omega
  · exact h j h1 (by omega)
theorem fo_end {ns : List Int} {p q dep : Int} {t : Tok} (h : FoInv ns p q dep) (hq : q < 1 + ns.length) (h0 : dep + sdelta (kindOf (codeAt ns q)) = 0) : ScanFound ns p (.int (q + 1) t) := by
  obtain ⟨k, rfl, rfl, h⟩ := h
  exact ⟨k + 1, t, by omega, by omega, h0, fun j h1 h2 => by have := h j h1 (by omega); omega, by congr 1; omega⟩
theorem fo_none {ns : List Int} {p q dep : Int} (h : FoInv ns p q dep) (hq : ¬ q < 1 + ns.length) : NoEnd ns p := by
  obtain ⟨k, rfl, rfl, h⟩ := h
  intro j h1 h2
  have := h j h1 (by omega)
  omega
theorem fo_pos {ns : List Int} {p q dep : Int} (h : FoInv ns p q dep) : q = p ∨ 1 ≤ dep := by
  obtain ⟨k, rfl, rfl, h⟩ := h
  cases k with
  | zero => left; omega
  | succ k => exact .inr (h (k + 1) (by omega) (by omega))
theorem fo_not {b : Bool} {d : Int} (h : b = true ↔ d = 0) (hb : b = false) : d ≠ 0 := fun z => by rw [h.mpr z] at hb; cases hb
theorem forward_one {news : List (Addr × Obj)} {v t : Addr} {p : Int} {tp tq : Tok} {ns : List Int} (V : ViewIn news v ns) (Tb : TabIn prog w news t) (hal : ∀ x ∈ ns, Alpha x) (hl : ns.length < 2 ^ 20) (hin : 1 ≤ p ∧ p < 1 + ns.length) (hs : kindOf (codeAt ns p) = "(") :
    CtR prog w mean mg mb 558 8 news [.ref v, .ref t, .int p tp, .int 0 tq, .bool true] (fun r news' => news' = news ∧ ScanFound ns p r) (NoEnd ns p) := by
  refine ViewIn.elim V ?_; intro vd vl vvs vc vn vh1 vh2 vt1 vt2 vt3 vm1 vm2 vx3 vx4 vx5; clear vx3 vx4 vx5
  refine TabIn.elim Tb ?_; intro td tr tt2 ttd2 tr2 tn tn2 th1 th2 th3 th4 tk1 tk2 tk3 tk4 to to2 tkvs tkvs2 tm1 tm2 tx3 tx4 tx5 tx6 tx7 tx8 tx9 txa txb txc; clear tx3 tx4 tx5 tx6 tx7 tx8 tx9 txa txb txc
  intro c00 A₀ base h₀ L m sHp sGn sDr sTk sOs Q E B F X N T hk hd hu hret hra
  refine wpAny_call ?_
  k_dflt (refine' code_def (binds := [(Str.ofString "view", Value.ref v), (Str.ofString "table", Value.ref t), (Str.ofString "at", Value.int p tp), (Str.ofString "depth", Value.int 0 tq), (Str.ofString "is_expression", Value.bool true)]) ?k1 ?k2 ?k3 ?k4 ?k5 ?kA ?kF ?kK ?k6 ?k7 ?k8 ?k9 ?kB ?_ ?c2 ?c3 ?c4 ?c5; (case kA => exact rfl); (case kF => exact rfl); (case kK => first | exact rfl | assumption); (case k1 => k_asm); (case k2 => k_asm); (case k3 => k_asm); (case k4 => k_asm); (case k5 => k_asm); (case k6 => k_is); (case k7 => k_is); (case k8 => ktr_room); (case k9 => first | exact BindsTo.of_eq rfl | exact binds_K (by k_in) rfl (by k_is) rfl rfl rfl); (case c5 => decide); (case kB => exact locs rfl); (case c2 => exact rfl); (case c3 => exact rfl); (case c4 => exact rfl); k_whole; intro g' L' h' FG' F' N' B' X' T'; (try dsimp only); (try k_lift B'); (try k_fold))
  k_steps

  all_goals (first
    | (exfalso; omega)
    | exact hra _ _ _ (fo_none i4 (by assumption)) (R'.mono (by (intro p9 hp9; first | exact hp9 | exact .tail _ hp9 | exact .tail _ (.tail _ hp9) | exact .tail _ (.tail _ (.tail _ hp9)) | exact .tail _ (.tail _ (.tail _ (.tail _ hp9))) | exact .tail _ (.tail _ (.tail _ (.tail _ (.tail _ hp9)))) | exact .tail _ (.tail _ (.tail _ (.tail _ (.tail _ (.tail _ hp9))))) | exact .tail _ (.tail _ (.tail _ (.tail _ (.tail _ (.tail _ (.tail _ hp9)))))))))
    | (refine' hret _ news _ _ ?e1 ?e2 ⟨rfl, fo_end i4 (by omega) (hdn9.mp (by assumption))⟩; (case e1 => k_asm); (case e2 => exact news_tl (news_tl (by k_asm))))
    | trace_state)
example : True := by
  k_with_none
  w_top off
  exact trivial
example : True := by
  k_with "mroom" => with_unfolding_all first | ((rename (_ + _ < recursionLimit) => hZq7); first | exact room_lt hZq7 0 rfl rfl | exact room_lt hZq7 1 rfl rfl | exact room_lt hZq7 2 rfl rfl | exact room_lt hZq7 3 rfl rfl | exact room_lt hZq7 4 rfl rfl | exact room_lt hZq7 5 rfl rfl | exact room_lt hZq7 6 rfl rfl | exact room_lt hZq7 7 rfl rfl | exact room_lt hZq7 8 rfl rfl | exact room_lt hZq7 9 rfl rfl | exact room_lt hZq7 10 rfl rfl | exact room_lt hZq7 11 rfl rfl | exact room_lt hZq7 12 rfl rfl | exact room_lt hZq7 13 rfl rfl | exact room_lt hZq7 14 rfl rfl | exact room_lt hZq7 15 rfl rfl) | exact lt_ble rfl | fail "mroom"
  exact trivial
example : True := by
  k_with "munits" => with_unfolding_all first | ((rename (_ + _ + _ < cLine) => hZq7); first | exact unit_lt2 hZq7 0 rfl rfl | exact unit_lt2 hZq7 3 rfl rfl | exact unit_lt2 hZq7 6 rfl rfl | exact unit_lt2 hZq7 9 rfl rfl | exact unit_lt2 hZq7 12 rfl rfl | exact unit_lt hZq7 0 rfl rfl | exact unit_lt hZq7 3 rfl rfl | exact unit_lt hZq7 6 rfl rfl | exact unit_lt hZq7 9 rfl rfl | exact unit_lt hZq7 12 rfl rfl) | exact lt_ble rfl | fail "munits"
  exact trivial
example : True := by
  k_with "mne" => (refine neN ?_; (try dsimp only); first | assumption | exact Ne.symm (by assumption) | exact Nat.ne_of_lt (by assumption) | exact Nat.ne_of_gt (by assumption) | fail "mne")
  exact trivial
example : True := by
  k_with "call ref" => (focus (k_here; (with_reducible show wpAny _ _ (PySem.call (Value.ref 558) _) _ _ _); k_dflt (refine' CtR.use (forward_one ?V ?Tb ?hal ?hl ?hin ?hs) ?kB ?kF ?kX ?kN ?kT ?kk ?kd ?ku ?_ ?_; (case kB => k_asm); (case kF => k_asm); (case kX => k_asm); (case kN => first | k_asm | exact news_tl (by k_asm) | exact news_tl (news_tl (by k_asm))); (case kT => k_asm); (case kk => first | exact rfl | assumption); (case V => (first | assumption | (refine ViewIn.mono (by assumption) ?_; (intro p9 hp9; first | exact hp9 | exact .tail _ hp9 | exact .tail _ (.tail _ hp9) | exact .tail _ (.tail _ (.tail _ hp9)) | exact .tail _ (.tail _ (.tail _ (.tail _ hp9))) | exact .tail _ (.tail _ (.tail _ (.tail _ (.tail _ hp9)))) | exact .tail _ (.tail _ (.tail _ (.tail _ (.tail _ (.tail _ hp9))))) | exact .tail _ (.tail _ (.tail _ (.tail _ (.tail _ (.tail _ (.tail _ hp9)))))))))); (case Tb => (first | assumption | (refine TabIn.mono (by assumption) ?_; (intro p9 hp9; first | exact hp9 | exact .tail _ hp9 | exact .tail _ (.tail _ hp9) | exact .tail _ (.tail _ (.tail _ hp9)) | exact .tail _ (.tail _ (.tail _ (.tail _ hp9))) | exact .tail _ (.tail _ (.tail _ (.tail _ (.tail _ hp9)))) | exact .tail _ (.tail _ (.tail _ (.tail _ (.tail _ (.tail _ hp9))))) | exact .tail _ (.tail _ (.tail _ (.tail _ (.tail _ (.tail _ (.tail _ hp9)))))))))); (case hal => assumption); (case hl => assumption); (case hin => (first | assumption | (constructor <;> omega))); (case hs => assumption); (case kd => ktr_room); (case ku => ktr_units); k_whole); rotate_left; (intro e9 h9 tk9 pr9 R9; (try dsimp only)); rotate_left; (intro v9 n9 h9 tk9 F9 N9 p9; obtain ⟨e9, hF9⟩ := p9; (have e9 := e9.symm); subst e9; (unfold ScanFound at hF9); obtain ⟨n9, t9, f1, f2, f3, f4, g9⟩ := hF9; subst g9; (try dsimp only); (try k_sweep))))
  exact trivial
example : True := by
  k_with "exec While BoolOp cons nil" => (k_here; k_dflt (refine whl_start 100 ?_))
  exact trivial
example : True := by
  k_with "leaving ref" => (k_here; k_dflt (refine' leave_next ?K ?R ?hf ?hL ?FG ?hn ?_; (case K => assumption); (case R => assumption); (case hf => exact rfl); (case hL => exact frame_self (by assumption)); (case FG => assumption); (case hn => exact fun _ h9 => h9); k_whole); intro h' R'; (try dsimp only))
  exact trivial
theorem scan_by {news : List (Addr × Obj)} {v t : Addr} {p : Int} {ns : List Int} (V : ViewIn news v ns) (Tb : TabIn prog w news t) (hal : ∀ x ∈ ns, Alpha x) (hl : ns.length < 2 ^ 20) (hin : 1 ≤ p ∧ p < 1 + ns.length) (hs : kindOf (codeAt ns p) = "(") {tp tq tc : Tok} :
    CtR prog w mean mg mb 593 9 news [.ref v, .ref t, .int p tp, .int 1 tc, .int 0 tq, .bool true] (fun r news' => news' = news ∧ ScanFound ns p r) (NoEnd ns p) := by
  refine ViewIn.elim V ?_; intro vd vl vvs vc vn vh1 vh2 vt1 vt2 vt3 vm1 vm2 vx3 vx4 vx5; clear vx3 vx4 vx5
  refine TabIn.elim Tb ?_; intro td tr tt2 ttd2 tr2 tn tn2 th1 th2 th3 th4 tk1 tk2 tk3 tk4 to to2 tkvs tkvs2 tm1 tm2 tx3 tx4 tx5 tx6 tx7 tx8 tx9 txa txb txc; clear tx3 tx4 tx5 tx6 tx7 tx8 tx9 txa txb txc
  intro c00 A₀ base h₀ L m sHp sGn sDr sTk sOs Q E B F X N T hk hd hu hret hra
  refine wpAny_call ?_
  k_dflt (refine' code_def (binds := [(Str.ofString "view", Value.ref v), (Str.ofString "table", Value.ref t), (Str.ofString "at", Value.int p tp), (Str.ofString "count", Value.int 1 tc), (Str.ofString "depth", Value.int 0 tq), (Str.ofString "is_expression", Value.bool true)]) ?k1 ?k2 ?k3 ?k4 ?k5 ?kA ?kF ?kK ?k6 ?k7 ?k8 ?k9 ?kB ?_ ?c2 ?c3 ?c4 ?c5; (case kA => exact rfl); (case kF => exact rfl); (case kK => first | exact rfl | assumption); (case k1 => k_asm); (case k2 => k_asm); (case k3 => k_asm); (case k4 => k_asm); (case k5 => k_asm); (case k6 => k_is); (case k7 => k_is); (case k8 => ktr_room); (case k9 => first | exact BindsTo.of_eq rfl | exact binds_K (by k_in) rfl (by k_is) rfl rfl rfl); (case c5 => decide); (case kB => exact locs rfl); (case c2 => exact rfl); (case c3 => exact rfl); (case c4 => exact rfl); k_whole; intro g' L' h' FG' F' N' B' X' T'; (try dsimp only); (try k_lift B'); (try k_fold))
  k_steps
  all_goals (first
    | exact hra _ _ _ (by assumption) (R'.mono (by (intro p9 hp9; first | exact hp9 | exact .tail _ hp9 | exact .tail _ (.tail _ hp9) | exact .tail _ (.tail _ (.tail _ hp9)) | exact .tail _ (.tail _ (.tail _ (.tail _ hp9))) | exact .tail _ (.tail _ (.tail _ (.tail _ (.tail _ hp9)))) | exact .tail _ (.tail _ (.tail _ (.tail _ (.tail _ (.tail _ hp9))))) | exact .tail _ (.tail _ (.tail _ (.tail _ (.tail _ (.tail _ (.tail _ hp9)))))))))
    | (refine' hret _ _ _ _ ?e1 ?e2 ⟨rfl, n9, t9, f1, f2, f3, f4, rfl⟩; (case e1 => k_asm); (case e2 => k_asm))
    | trace_state)
example : True := by
  k_with_none
  w_top off
  exact trivial
example : True := by
  k_with "mroom" => with_unfolding_all first | ((rename (_ + _ < recursionLimit) => hZq7); first | exact room_lt hZq7 0 rfl rfl | exact room_lt hZq7 1 rfl rfl | exact room_lt hZq7 2 rfl rfl | exact room_lt hZq7 3 rfl rfl | exact room_lt hZq7 4 rfl rfl | exact room_lt hZq7 5 rfl rfl | exact room_lt hZq7 6 rfl rfl | exact room_lt hZq7 7 rfl rfl | exact room_lt hZq7 8 rfl rfl | exact room_lt hZq7 9 rfl rfl | exact room_lt hZq7 10 rfl rfl | exact room_lt hZq7 11 rfl rfl | exact room_lt hZq7 12 rfl rfl | exact room_lt hZq7 13 rfl rfl | exact room_lt hZq7 14 rfl rfl | exact room_lt hZq7 15 rfl rfl) | exact lt_ble rfl | fail "mroom"
  exact trivial
example : True := by
  k_with "munits" => with_unfolding_all first | ((rename (_ + _ + _ < cLine) => hZq7); first | exact unit_lt2 hZq7 0 rfl rfl | exact unit_lt2 hZq7 3 rfl rfl | exact unit_lt2 hZq7 6 rfl rfl | exact unit_lt2 hZq7 9 rfl rfl | exact unit_lt2 hZq7 12 rfl rfl | exact unit_lt hZq7 0 rfl rfl | exact unit_lt hZq7 3 rfl rfl | exact unit_lt hZq7 6 rfl rfl | exact unit_lt hZq7 9 rfl rfl | exact unit_lt hZq7 12 rfl rfl) | exact lt_ble rfl | fail "munits"
  exact trivial
example : True := by
  k_with "mne" => (refine neN ?_; (try dsimp only); first | assumption | exact Ne.symm (by assumption) | exact Nat.ne_of_lt (by assumption) | exact Nat.ne_of_gt (by assumption) | fail "mne")
  exact trivial
example : True := by
  k_with "call ref" => (focus (k_here; (with_reducible show wpAny _ _ (PySem.call (Value.ref 593) _) _ _ _); k_dflt (refine' CtR.use (scan_by ?V ?Tb ?hal ?hl ?hin ?hs) ?kB ?kF ?kX ?kN ?kT ?kk ?kd ?ku ?_ ?_; (case kB => k_asm); (case kF => k_asm); (case kX => k_asm); (case kN => first | k_asm | exact news_tl (by k_asm) | exact news_tl (news_tl (by k_asm))); (case kT => k_asm); (case kk => first | exact rfl | assumption); (case V => (first | assumption | (refine ViewIn.mono (by assumption) ?_; (intro p9 hp9; first | exact hp9 | exact .tail _ hp9 | exact .tail _ (.tail _ hp9) | exact .tail _ (.tail _ (.tail _ hp9)) | exact .tail _ (.tail _ (.tail _ (.tail _ hp9))) | exact .tail _ (.tail _ (.tail _ (.tail _ (.tail _ hp9)))) | exact .tail _ (.tail _ (.tail _ (.tail _ (.tail _ (.tail _ hp9))))) | exact .tail _ (.tail _ (.tail _ (.tail _ (.tail _ (.tail _ (.tail _ hp9)))))))))); (case Tb => (first | assumption | (refine TabIn.mono (by assumption) ?_; (intro p9 hp9; first | exact hp9 | exact .tail _ hp9 | exact .tail _ (.tail _ hp9) | exact .tail _ (.tail _ (.tail _ hp9)) | exact .tail _ (.tail _ (.tail _ (.tail _ hp9))) | exact .tail _ (.tail _ (.tail _ (.tail _ (.tail _ hp9)))) | exact .tail _ (.tail _ (.tail _ (.tail _ (.tail _ (.tail _ hp9))))) | exact .tail _ (.tail _ (.tail _ (.tail _ (.tail _ (.tail _ (.tail _ hp9)))))))))); (case hal => assumption); (case hl => assumption); (case hin => (first | assumption | (constructor <;> omega))); (case hs => assumption); (case kd => ktr_room); (case ku => ktr_units); k_whole); rotate_left; (intro e9 h9 tk9 pr9 R9; (try dsimp only)); rotate_left; (intro v9 n9 h9 tk9 F9 N9 p9; obtain ⟨e9, hF9⟩ := p9; (have e9 := e9.symm); subst e9; (unfold ScanFound at hF9); obtain ⟨n9, t9, f1, f2, f3, f4, g9⟩ := hF9; subst g9; (try dsimp only); (try k_sweep))))
  exact trivial
example : True := by
  k_with "leaving ref" => (k_here; k_dflt (refine' leave_next ?K ?R ?hf ?hL ?FG ?hn ?_; (case K => assumption); (case R => assumption); (case hf => exact rfl); (case hL => exact frame_self (by assumption)); (case FG => assumption); (case hn => exact fun _ h9 => h9); k_whole); intro h' R'; (try dsimp only))
  exact trivial
theorem scan_sexps {news : List (Addr × Obj)} {v t : Addr} {p : Int} {ns : List Int} (V : ViewIn news v ns) (Tb : TabIn prog w news t) (hal : ∀ x ∈ ns, Alpha x) (hl : ns.length < 2 ^ 20) (hin : 1 ≤ p ∧ p < 1 + ns.length) (hs : kindOf (codeAt ns p) = "(") {tp tc : Tok} :
    CtR prog w mean mg mb 600 10 news [.ref v, .ref t, .int p tp, .int 1 tc] (fun r news' => news' = news ∧ ScanFound ns p r) (NoEnd ns p) := by
  refine ViewIn.elim V ?_; intro vd vl vvs vc vn vh1 vh2 vt1 vt2 vt3 vm1 vm2 vx3 vx4 vx5; clear vx3 vx4 vx5
  refine TabIn.elim Tb ?_; intro td tr tt2 ttd2 tr2 tn tn2 th1 th2 th3 th4 tk1 tk2 tk3 tk4 to to2 tkvs tkvs2 tm1 tm2 tx3 tx4 tx5 tx6 tx7 tx8 tx9 txa txb txc; clear tx3 tx4 tx5 tx6 tx7 tx8 tx9 txa txb txc
  intro c00 A₀ base h₀ L m sHp sGn sDr sTk sOs Q E B F X N T hk hd hu hret hra
  refine wpAny_call ?_
  k_dflt (refine' code_def (binds := [(Str.ofString "view", Value.ref v), (Str.ofString "table", Value.ref t), (Str.ofString "at", Value.int p tp), (Str.ofString "count", Value.int 1 tc)]) ?k1 ?k2 ?k3 ?k4 ?k5 ?kA ?kF ?kK ?k6 ?k7 ?k8 ?k9 ?kB ?_ ?c2 ?c3 ?c4 ?c5; (case kA => exact rfl); (case kF => exact rfl); (case kK => first | exact rfl | assumption); (case k1 => k_asm); (case k2 => k_asm); (case k3 => k_asm); (case k4 => k_asm); (case k5 => k_asm); (case k6 => k_is); (case k7 => k_is); (case k8 => ktr_room); (case k9 => first | exact BindsTo.of_eq rfl | exact binds_K (by k_in) rfl (by k_is) rfl rfl rfl); (case c5 => decide); (case kB => exact locs rfl); (case c2 => exact rfl); (case c3 => exact rfl); (case c4 => exact rfl); k_whole; intro g' L' h' FG' F' N' B' X' T'; (try dsimp only); (try k_lift B'); (try k_fold))
  k_steps
  all_goals (first
    | exact hra _ _ _ (by assumption) (R'.mono (by (intro p9 hp9; first | exact hp9 | exact .tail _ hp9 | exact .tail _ (.tail _ hp9) | exact .tail _ (.tail _ (.tail _ hp9)) | exact .tail _ (.tail _ (.tail _ (.tail _ hp9))) | exact .tail _ (.tail _ (.tail _ (.tail _ (.tail _ hp9)))) | exact .tail _ (.tail _ (.tail _ (.tail _ (.tail _ (.tail _ hp9))))) | exact .tail _ (.tail _ (.tail _ (.tail _ (.tail _ (.tail _ (.tail _ hp9)))))))))
    | (refine' hret _ _ _ _ ?e1 ?e2 ⟨rfl, n9, t9, f1, f2, f3, f4, rfl⟩; (case e1 => k_asm); (case e2 => k_asm))
    | trace_state)
example : True := by
  k_with_none
  w_top off
  exact trivial
example : True := by
  k_with "mroom" => with_unfolding_all first | ((rename (_ + _ < recursionLimit) => hZq7); first | exact room_lt hZq7 0 rfl rfl | exact room_lt hZq7 1 rfl rfl | exact room_lt hZq7 2 rfl rfl | exact room_lt hZq7 3 rfl rfl | exact room_lt hZq7 4 rfl rfl | exact room_lt hZq7 5 rfl rfl | exact room_lt hZq7 6 rfl rfl | exact room_lt hZq7 7 rfl rfl | exact room_lt hZq7 8 rfl rfl | exact room_lt hZq7 9 rfl rfl | exact room_lt hZq7 10 rfl rfl | exact room_lt hZq7 11 rfl rfl | exact room_lt hZq7 12 rfl rfl | exact room_lt hZq7 13 rfl rfl | exact room_lt hZq7 14 rfl rfl | exact room_lt hZq7 15 rfl rfl) | exact lt_ble rfl | fail "mroom"
  exact trivial
example : True := by
  k_with "munits" => with_unfolding_all first | ((rename (_ + _ + _ < cLine) => hZq7); first | exact unit_lt2 hZq7 0 rfl rfl | exact unit_lt2 hZq7 3 rfl rfl | exact unit_lt2 hZq7 6 rfl rfl | exact unit_lt2 hZq7 9 rfl rfl | exact unit_lt2 hZq7 12 rfl rfl | exact unit_lt hZq7 0 rfl rfl | exact unit_lt hZq7 3 rfl rfl | exact unit_lt hZq7 6 rfl rfl | exact unit_lt hZq7 9 rfl rfl | exact unit_lt hZq7 12 rfl rfl) | exact lt_ble rfl | fail "munits"
  exact trivial
example : True := by
  k_with "mne" => (refine neN ?_; (try dsimp only); first | assumption | exact Ne.symm (by assumption) | exact Nat.ne_of_lt (by assumption) | exact Nat.ne_of_gt (by assumption) | fail "mne")
  exact trivial
def TurnEnd (h₀ : Heap) (L : Addr) (m : Str → Option Value) (s₁ : Shared) (led : List (Addr × Obj)) (P : Value → Prop) (y : Value) (s₂ : Shared) : Prop :=
  ∃ h' tk, s₂ = { s₁ with heap := h', toks := tk } ∧ Fr h₀ L h' m ∧ News h₀ L h' led ∧ P y
theorem TurnEnd.intro {h₀ : Heap} {L : Addr} {m : Str → Option Value} {s₁ : Shared} {led : List (Addr × Obj)} {P : Value → Prop} {y : Value} {h' : Heap} {tk : Nat} (F : Fr h₀ L h' m) (N : News h₀ L h' led) (p : P y) : TurnEnd h₀ L m s₁ led P y { s₁ with heap := h', toks := tk } := ⟨h', tk, rfl, F, N, p⟩
theorem off3_all {I C D : Addr} {l : List (Addr × Obj)} (h : LCg.Off3 I C D l) : (∀ p ∈ l, p.1 ≠ I) ∧ (∀ p ∈ l, p.1 ≠ C) ∧ ∀ p ∈ l, p.1 ≠ D := ⟨fun p hp => (h.mem p hp).1, fun p hp => (h.mem p hp).2.1, fun p hp => (h.mem p hp).2.2⟩
theorem off1_all {D : Addr} : ∀ {l : List (Addr × Obj)}, LCg.Off1 D l → ∀ p ∈ l, p.1 ≠ D
  | [], _, _, h => nomatch h
  | _ :: _, x, p, h => by
    rcases List.mem_cons.mp h with rfl | h
    · exact x.1
    · exact off1_all x.2 p h
section
variable {A : Around} {s : Shared} {h₀ : Heap} {L : Addr} {m : Str → Option Value} {env : Env}
open LCg LCt in
theorem compT_same {ct elt : Expr} {x : Str} {scope : Scope} {cl : List (Str × Addr)} {S : List (Addr × Obj) → Prop} {P : Nat → Value → Prop} {Fin : List Value → List (Addr × Obj) → Prop} {n : Nat} {news : List (Addr × Obj)} (J : Nat → List Value → Prop) (hS : S news) (h0 : J 0 [])
    (turn : ∀ i ys v I oI C oC D m₂ h tk (E' : Value → Shared → Prop), i < n → J i ys → P i v → NsObj oC m₂ → m₂ x = some v → Fr h₀ L h m → News h₀ L h ((I, oI) :: (C, oC) :: (D, lst ys) :: news) → Off3 I C D news → ((@Ne Nat I C) ∧ (@Ne Nat I D) ∧ (@Ne Nat C D)) →
      wpAny (model prog w) A (isTrue ct (compEnvC scope cl C env) (eval ct (compEnvC scope cl C env))) (fun ok s' => if ok = true then
        wpAny (model prog w) A (eval elt (compEnvC scope cl C env)) (TurnEnd h₀ L m { s with heap := h, toks := tk } ((I, oI) :: (C, oC) :: (D, lst ys) :: news) (fun y => J (i + 1) (ys ++ [y]))) E' s'
        else TurnEnd h₀ L m { s with heap := h, toks := tk } ((I, oI) :: (C, oC) :: (D, lst ys) :: news) (fun _ => J (i + 1) ys) .none s') E' { s with heap := h, toks := tk })
    (fin : ∀ ys, J n ys → Fin ys news) : CompRestT prog w A h₀ L m env ct elt x scope cl s S P Fin n 0 [] news := by
  have gen : ∀ k i ys, i + k = n → J i ys → CompRestT prog w A h₀ L m env ct elt x scope cl s S P Fin k i ys news := by
    intro k
    induction k with
    | zero => intro i ys e hj; exact CompRestT.zero (fin ys (by rw [← show i = n by omega]; exact hj))
    | succ k ih =>
      intro i ys e hj
      refine CompRestT.succ fun v I oI C oC D m₂ h tk E' hp hC hx F N off ne => ?_
      refine wpAny_mono (turn i ys v I oI C oC D m₂ h tk E' (by omega) hj hp hC hx F N off ne) (fun ok s' q => ?_) fun _ _ q => q
      cases ok with
      | true =>
        simp only [if_true] at q ⊢
        refine wpAny_mono q (fun y s₂ z => ?_) fun _ _ q => q
        obtain ⟨h', tk', rfl, F', N', z⟩ := z
        exact ⟨h', tk', news, rfl, F', N', off, hS, ih (i + 1) _ (by omega) z⟩
      | false =>
        simp only [Bool.false_eq_true, if_false] at q ⊢
        obtain ⟨h', tk', rfl, F', N', z⟩ := q
        exact ⟨h', tk', news, rfl, F', N', off, hS, ih (i + 1) _ (by omega) z⟩
  exact gen n 0 [] (by omega) h0
open LCg LCt in
/-- [x for x in ints if test] over a list of the ledger -/
theorem comp_ints {ct elt : Expr} {x : Str} {scope : Scope} {cl : List (Str × Addr)} {Fin : Shared → List Value → List (Addr × Obj) → Prop} {ax : Addr} {vs : List Value} {is : List Int} {k : Nat} {news : List (Addr × Obj)} (q : Int → Bool)
    (hh : A.handled = none) (F : Fr h₀ L s.heap m) (N : News h₀ L s.heap news) (hm : (ax, listOf vs.toArray k) ∈ news) (hI : IntsAre vs is) (hsz : is.length ≤ sizeLine)
    (turn : ∀ (g : Heap) (a : Int) (t : Tok) ys I oI C oC D m₂ h tk (E' : Value → Shared → Prop), a ∈ is → NsObj oC m₂ → m₂ x = some (.int a t) → Fr h₀ L h m → News h₀ L h ((I, oI) :: (C, oC) :: (D, lst ys) :: news) → Off3 I C D news → ((@Ne Nat I C) ∧ (@Ne Nat I D) ∧ (@Ne Nat C D)) →
      wpAny (model prog w) A (isTrue ct (compEnvC scope cl C env) (eval ct (compEnvC scope cl C env))) (fun ok s' => if ok = true then
        wpAny (model prog w) A (eval elt (compEnvC scope cl C env)) (TurnEnd h₀ L m { s with heap := h, toks := tk } ((I, oI) :: (C, oC) :: (D, lst ys) :: news) (fun y => q a = true ∧ ∃ t', y = .int a t')) E' s'
        else TurnEnd h₀ L m { s with heap := h, toks := tk } ((I, oI) :: (C, oC) :: (D, lst ys) :: news) (fun _ => q a = false) .none s') E' { s with heap := h, toks := tk })
    (fin : ∀ (g : Heap) ys, IntsAre ys (is.filter q) → Fin { s with heap := g } ys news) : CompSrcT prog w A h₀ L m env ct elt x scope cl Fin (.ref ax) s := by
  have hlen : vs.toArray.size = is.length := by rw [List.size_toArray, hI.length]
  refine CompSrcT.ledger hh F N hm (by rw [hlen]; exact hsz) fun g => ?_
  rw [hlen]
  refine compT_same (fun i ys => IntsAre ys ((is.take i).filter q)) (.inr ⟨_, hm, rfl, _, rfl⟩) .nil ?_ fun ys hj => fin g ys (by rw [List.take_length] at hj; exact hj)
  intro i ys v I oI C oC D m₂ h tk E' hi hj hp hC hx F' N' off ne
  obtain ⟨t, ht⟩ := hI.get i is[i] (List.getElem?_eq_getElem hi)
  have hv : v = .int is[i] t := by
    have hp' : vs[i]? = some v := by rw [← List.getElem?_toArray]; exact hp
    rw [ht] at hp'; exact (Option.some.inj hp').symm
  subst hv
  have hs : is.take (i + 1) = is.take i ++ [is[i]] := by rw [List.take_add_one, List.getElem?_eq_getElem hi]; rfl
  refine wpAny_mono (turn g is[i] t ys I oI C oC D m₂ h tk E' (List.getElem_mem hi) hC hx F' N' off ne) (fun ok s' z => ?_) fun _ _ z => z
  cases ok with
  | true =>
    simp only [if_true] at z ⊢
    refine wpAny_mono z (fun y s₂ z => ?_) fun _ _ z => z
    obtain ⟨h', tk', rfl, F', N', z, t', rfl⟩ := z
    refine ⟨h', tk', rfl, F', N', ?_⟩
    show IntsAre _ ((is.take (i + 1)).filter q)
    rw [hs, List.filter_append, List.filter_cons, if_pos z, List.filter_nil]
    exact ints_app hj (.cons _ _ .nil)
  | false =>
    simp only [Bool.false_eq_true, if_false] at z ⊢
    obtain ⟨h', tk', rfl, F', N', z⟩ := z
    refine ⟨h', tk', rfl, F', N', ?_⟩
    show IntsAre _ ((is.take (i + 1)).filter q)
    rw [hs, List.filter_append, List.filter_cons, if_neg (by rw [z]; decide), List.filter_nil, List.append_nil]
    exact hj
end
example : True := by
  k_with_none
  w_top off
  exact trivial
example : True := by
  k_with "mroom" => with_unfolding_all first | ((rename (_ + _ < recursionLimit) => hZq7); first | exact room_lt hZq7 0 rfl rfl | exact room_lt hZq7 1 rfl rfl | exact room_lt hZq7 2 rfl rfl | exact room_lt hZq7 3 rfl rfl | exact room_lt hZq7 4 rfl rfl | exact room_lt hZq7 5 rfl rfl | exact room_lt hZq7 6 rfl rfl | exact room_lt hZq7 7 rfl rfl | exact room_lt hZq7 8 rfl rfl | exact room_lt hZq7 9 rfl rfl | exact room_lt hZq7 10 rfl rfl | exact room_lt hZq7 11 rfl rfl | exact room_lt hZq7 12 rfl rfl | exact room_lt hZq7 13 rfl rfl | exact room_lt hZq7 14 rfl rfl | exact room_lt hZq7 15 rfl rfl) | exact lt_ble rfl | fail "mroom"
  exact trivial
example : True := by
  k_with "munits" => with_unfolding_all first | ((rename (_ + _ + _ < cLine) => hZq7); first | exact unit_lt2 hZq7 0 rfl rfl | exact unit_lt2 hZq7 3 rfl rfl | exact unit_lt2 hZq7 6 rfl rfl | exact unit_lt2 hZq7 9 rfl rfl | exact unit_lt2 hZq7 12 rfl rfl | exact unit_lt hZq7 0 rfl rfl | exact unit_lt hZq7 3 rfl rfl | exact unit_lt hZq7 6 rfl rfl | exact unit_lt hZq7 9 rfl rfl | exact unit_lt hZq7 12 rfl rfl) | exact lt_ble rfl | fail "munits"
  exact trivial
example : True := by
  k_with "mne" => (refine neN ?_; (try dsimp only); first | assumption | exact Ne.symm (by assumption) | exact Nat.ne_of_lt (by assumption) | exact Nat.ne_of_gt (by assumption) | fail "mne")
  exact trivial
section
variable {A : Around} {E : Value → Shared → Prop} {s : Shared} {h₀ : Heap} {L : Addr} {m : Str → Option Value} {env : Env} {body : List Stmt} {x : Str} {news : List (Addr × Obj)}
def FEnd (h₀ : Heap) (L : Addr) (s : Shared) (x : Str) (stored : List Str) (m₀ : Str → Option Value) (led : List (Addr × Obj)) (G : Prop) (s₂ : Shared) : Prop :=
  ∃ h' tk m', s₂ = { s with heap := h', toks := tk } ∧ Fr h₀ L h' m' ∧ News h₀ L h' led ∧ G ∧ ∀ z, z ≠ x → stored.contains z = false → m' z = m₀ z
theorem FEnd.intro {stored : List Str} {m₀ m' : Str → Option Value} {led : List (Addr × Obj)} {G : Prop} {h' : Heap} {tk : Nat} (F : Fr h₀ L h' m') (N : News h₀ L h' led) (g : G) (hm : ∀ z, z ≠ x → stored.contains z = false → m' z = m₀ z) : FEnd h₀ L s x stored m₀ led G { s with heap := h', toks := tk } := ⟨h', tk, m', rfl, F, N, g, hm⟩
theorem for_ints {Q : Flow → Shared → Prop} {l : Addr} {vs : List Value} {is : List Int} {nn : Nat} {m₀ : Str → Option Value} (stored : List Str) (P : List Int → Prop) (hh : A.handled = none) (hl : (l, listOf vs.toArray nn) ∈ news) (hi : IntsAre vs is) (F : Fr h₀ env.locals s.heap m₀) (N : News h₀ env.locals s.heap news) (hp : P [])
    (turn : ∀ pre post (n : Int) t (u : Str → Option Value) h tk led, is = pre ++ n :: post → P pre → (∀ q ∈ news, q ∈ led) → Fr h₀ env.locals h (fun y => if y = x then some (.int n t) else if stored.contains y then u y else m₀ y) → News h₀ env.locals h led →
      wpAny (model prog w) A (execs body env) (SPost Q (FEnd h₀ env.locals s x stored m₀ led (P (pre ++ [n])))) E { s with heap := h, toks := tk })
    (done : ∀ (u : Str → Option Value) h tk, P is → Fr h₀ env.locals h (fun y => if y = x then u y else if stored.contains y then u y else m₀ y) → News h₀ env.locals h news → Q .next { s with heap := h, toks := tk }) :
    wpAny (model prog w) A (pyIter (.ref l)) (fun it s₂ => LoopAtV prog w A h₀ env x body Q E it s₂) E s := by
  refine kst_listL (σ := Unit) (fun _ => news) (fun _ => []) (fun _ => True) stored (fun pre _ => P pre) () hh (fun _ => hl) hi F N trivial (fun p hp => nomatch hp) hp ?_ ?_
  · rintro _ pre post n t u h tk own e _ _ _ hP F₁ N₁
    refine wpAny_mono (turn pre post n t u h tk (news ++ own) e hP (fun q hq => List.mem_append_left _ hq) F₁ N₁) (fun f s₂ z => ?_) fun _ _ z => z
    have up : FEnd h₀ env.locals s x stored m₀ (news ++ own) (P (pre ++ [n])) s₂ → InvEndN h₀ env.locals (KstS (fun _ : Unit => news) (fun _ => []) (fun _ => True) x stored m₀ (fun pre _ => P pre) (pre ++ [n])) own (news.map (·.1)) { s with heap := h, toks := tk } s₂ := by
      rintro ⟨h', tk', m', rfl, F', N', g, hm⟩
      exact ⟨h', tk', m', news ++ own, news, rfl, F', N', fun q hq => List.mem_append_left _ hq, fun q hq => List.mem_append_right _ hq, rfl, (), rfl, trivial, (fun p hp => nomatch hp), (fun z h1 _ h3 => hm z h1 h3), g⟩
    cases f with
    | ret v => exact z
    | brk => exact z
    | next => exact up z
    | cont => exact up z
  · rintro _ u h tk _ hP F₁ N₁
    exact done u h tk hP F₁ N₁
theorem tl6 {α : Type} {a b c d e f : α} {l : List α} : ∀ q ∈ l, q ∈ a :: b :: c :: d :: e :: f :: l := fun q hq => by simp [hq]
theorem hd6 {α : Type} {a b c d e f : α} {l : List α} : f ∈ a :: b :: c :: d :: e :: f :: l := by simp
theorem add_ints {l b : Addr} {vs ws : List Value} {is js : List Int} {k1 k2 : Nat} {Q : Value → Shared → Prop} (F : Fr h₀ L s.heap m) (N : News h₀ L s.heap news) (hl : (l, listOf vs.toArray k1) ∈ news) (hb : (b, listOf ws.toArray k2) ∈ news) (hi : IntsAre vs is) (hj : IntsAre ws js)
    (hsz : is.length + js.length ≤ sizeLine)
    (h : ∀ D h', Fr h₀ L h' m → News h₀ L h' ((D, listOf (vs ++ ws).toArray 0) :: news) → IntsAre (vs ++ ws) (is ++ js) → (∀ p ∈ news, p.1 ≠ D) → Q (.ref D) { s with heap := h' }) :
    wpAny (model prog w) A (binaryOp .Add (.ref l) (.ref b)) Q E s :=
  add_lists_ints F N ⟨_, (N _ hl).1, rfl, _, rfl⟩ ⟨_, (N _ hb).1, rfl, _, rfl⟩ hi hj (fun h' F' N' hI => h _ h' F' N' hI fun p hp => Nat.ne_of_lt (Heap.lt_size (N p hp).1)) hsz
end
example : True := by
  k_with_none
  w_top off
  exact trivial
example : True := by
  k_with "mroom" => with_unfolding_all first | ((rename (_ + _ < recursionLimit) => hZq7); first | exact room_lt hZq7 0 rfl rfl | exact room_lt hZq7 1 rfl rfl | exact room_lt hZq7 2 rfl rfl | exact room_lt hZq7 3 rfl rfl | exact room_lt hZq7 4 rfl rfl | exact room_lt hZq7 5 rfl rfl | exact room_lt hZq7 6 rfl rfl | exact room_lt hZq7 7 rfl rfl | exact room_lt hZq7 8 rfl rfl | exact room_lt hZq7 9 rfl rfl | exact room_lt hZq7 10 rfl rfl | exact room_lt hZq7 11 rfl rfl | exact room_lt hZq7 12 rfl rfl | exact room_lt hZq7 13 rfl rfl | exact room_lt hZq7 14 rfl rfl | exact room_lt hZq7 15 rfl rfl) | exact lt_ble rfl | fail "mroom"
  exact trivial
example : True := by
  k_with "munits" => with_unfolding_all first | ((rename (_ + _ + _ < cLine) => hZq7); first | exact unit_lt2 hZq7 0 rfl rfl | exact unit_lt2 hZq7 3 rfl rfl | exact unit_lt2 hZq7 6 rfl rfl | exact unit_lt2 hZq7 9 rfl rfl | exact unit_lt2 hZq7 12 rfl rfl | exact unit_lt hZq7 0 rfl rfl | exact unit_lt hZq7 3 rfl rfl | exact unit_lt hZq7 6 rfl rfl | exact unit_lt hZq7 9 rfl rfl | exact unit_lt hZq7 12 rfl rfl) | exact lt_ble rfl | fail "munits"
  exact trivial
example : True := by
  k_with "mne" => (refine neN ?_; (try dsimp only); first | assumption | exact Ne.symm (by assumption) | exact Nat.ne_of_lt (by assumption) | exact Nat.ne_of_gt (by assumption) | fail "mne")
  exact trivial
example : True := by
  k_with "call ref" => (k_here; (with_reducible show wpAny _ _ (PySem.call (Value.ref 607) _) _ _ _); k_dflt (refine' Ct.use (defun_starts ?V ?Tb ?hal ?hl) ?kB ?kF ?kX ?kN ?kT ?kk ?kd ?ku ?_; (case kB => k_asm); (case kF => k_asm); (case kX => k_asm); (case kN => first | k_asm | exact news_tl (by k_asm) | exact news_tl (news_tl (by k_asm))); (case kT => k_asm); (case kk => first | exact rfl | assumption); (case V => (first | assumption | (refine ViewIn.mono (by assumption) ?_; (intro p9 hp9; first | exact hp9 | exact .tail _ hp9 | exact .tail _ (.tail _ hp9) | exact .tail _ (.tail _ (.tail _ hp9)) | exact .tail _ (.tail _ (.tail _ (.tail _ hp9))) | exact .tail _ (.tail _ (.tail _ (.tail _ (.tail _ hp9)))) | exact .tail _ (.tail _ (.tail _ (.tail _ (.tail _ (.tail _ hp9))))) | exact .tail _ (.tail _ (.tail _ (.tail _ (.tail _ (.tail _ (.tail _ hp9)))))))))); (case Tb => (first | assumption | (refine TabIn.mono (by assumption) ?_; (intro p9 hp9; first | exact hp9 | exact .tail _ hp9 | exact .tail _ (.tail _ hp9) | exact .tail _ (.tail _ (.tail _ hp9)) | exact .tail _ (.tail _ (.tail _ (.tail _ hp9))) | exact .tail _ (.tail _ (.tail _ (.tail _ (.tail _ hp9)))) | exact .tail _ (.tail _ (.tail _ (.tail _ (.tail _ (.tail _ hp9))))) | exact .tail _ (.tail _ (.tail _ (.tail _ (.tail _ (.tail _ (.tail _ hp9)))))))))); (case hal => assumption); (case hl => assumption); (case kd => ktr_room); (case ku => ktr_units); k_whole); intro v9 n9 h9 tk9 F9 N9 p9; refine goal_gen ?_; intro GG9 kGG9; obtain ⟨fl, fs, cf, p8, e9, hfs⟩ := p9; refine kGG9 ?_; clear kGG9 GG9; subst p8; subst e9; (try dsimp only); (try k_sweep))
  exact trivial
example : True := by
  k_with "eval ListComp" => (k_here; ((k_dflt (refine LCt.ListComp_T (F₀ := by k_asm) (by with_unfolding_all rfl) (by decide) (by rfl) (by decide) (by rfl) ?_); k_dflt lct_toSrc)))
  exact trivial
example : True := by
  k_with "CompSrcT" => (focus (k_here; (with_reducible show LCt.CompSrcT _ _ _ _ _ _ _ (Expr.Compare _ [CmpOp.LtE] _ _) _ _ _ _ _ _ _); ((refine' comp_ints (fun a => decide (a ≤ p)) ?ci1 ?ci2 ?ci3 ?ci4 ?ci5 ?ci6 ?_ ?_; (case ci1 => exact rfl); (case ci2 => k_asm); (case ci3 => k_asm); (case ci4 => k_mem); (case ci5 => assumption); (case ci6 => (rw [sizeLine_eq]; first | assumption | omega)); (intro g9 a9 t9 ys9 I9 oI9 C9 oC9 D9 m9 h' tk' E9 ha9 hC9 hx9 F' N' off9 ne9; (obtain ⟨of1, of2, of3⟩ := off3_all off9)); rotate_left; (intro g9 ysA hysA; (try dsimp only)); rotate_left))))
  exact trivial
example : True := by
  k_with "CompSrcT" => (focus (k_here; (with_reducible show LCt.CompSrcT _ _ _ _ _ _ _ (Expr.Compare _ [CmpOp.Gt] _ _) _ _ _ _ _ _ _); ((refine' comp_ints (fun a => decide (p < a)) ?ci1 ?ci2 ?ci3 ?ci4 ?ci5 ?ci6 ?_ ?_; (case ci1 => exact rfl); (case ci2 => k_asm); (case ci3 => k_asm); (case ci4 => k_mem); (case ci5 => assumption); (case ci6 => (rw [sizeLine_eq]; first | assumption | omega)); (intro g9 a9 t9 ys9 I9 oI9 C9 oC9 D9 m9 h' tk' E9 ha9 hC9 hx9 F' N' off9 ne9; (obtain ⟨of1, of2, of3⟩ := off3_all off9)); rotate_left; (intro g9 ysB hysB; (try dsimp only)); rotate_left))))
  exact trivial
example : True := by
  k_with "TurnEnd" => (((refine' TurnEnd.intro ?te1 ?te2 ?te3; (case te1 => k_asm); (case te2 => k_asm); (case te3 => ((try dsimp only); first | exact ⟨decide_eq_true (by assumption), _, rfl⟩ | exact ⟨decide_eq_true (by omega), _, rfl⟩ | exact decide_eq_false (by assumption) | exact decide_eq_false (by omega))))))
  exact trivial
example : True := by
  k_with "FinE" => ((unfold LCg.FinE); intro D' h' tk' F' N' o1'; (have o2' := off1_all o1'); (try dsimp only))
  exact trivial
example : True := by
  k_with "leaving ref" => (k_here; k_dflt (refine' leave_next ?K ?R ?hf ?hL ?FG ?hn ?_; (case K => assumption); (case R => assumption); (case hf => exact rfl); (case hL => exact frame_self (by assumption)); (case FG => assumption); (case hn => exact fun _ h9 => h9); k_whole); intro h' R'; (try dsimp only))
  exact trivial
example : True := by
  k_with "binaryOp Add ref ref" => (k_here; (with_reducible show wpAny _ _ (binaryOp Operator.Add (Value.ref _) (Value.ref _)) _ _ _); k_dflt (refine' add_ints ?ai1 ?ai2 ?ai3 ?ai4 ?ai5 ?ai6 ?ai7 ?_; (case ai1 => k_asm); (case ai2 => k_asm); (case ai3 => k_mem); (case ai4 => k_mem); (case ai5 => assumption); (case ai6 => assumption); (case ai7 => (rw [sizeLine_eq]; exact de_len hsl2)); k_whole); intro sl h' F' N' hsl9 sln; (try dsimp only); (try k_sweep))
  exact trivial
example : True := by
  k_with "exec For" => (k_here; k_dflt (refine For_invV g' (by rfl) (by rfl) ?_))
  exact trivial
example : True := by
  k_with "pyIter ref" => (focus (k_here; (( (with_unfolding_all (refine' for_ints [Str.ofString "end"] (fun pre => ∀ r o, Told ns p r o → Told ns p (pre ++ r) o) ?fi1 ?fi2 ?fi3 ?fi4 ?fi5 ?fi6 ?_ ?_; (case fi4 => k_asm); (case fi5 => k_asm); (case fi1 => exact rfl); (case fi2 => k_mem); (case fi3 => assumption); (case fi6 => exact fun r o h => h))); (intro pre9 post9 st9 ts9 u' h' tk' led9 hL9 hP9 hm9 F' N'; (have hmn : ∀ q ∈ news, q ∈ led9 := fun p9 hp9 => hm9 p9 (tl6 p9 hp9)); (have hc9 := hm9 _ hd6); (have V9 := V.mono hmn); (have Tb9 := Tb.mono hmn); (obtain ⟨hi9, hs9⟩ := de_mem' hL9); (try k_fold)); rotate_left; (intro u' h' tk' hP9 F' N'; (try k_fold)); rotate_left))))
  exact trivial
example : True := by
  k_with "call ref" => (focus (k_here; (with_reducible show wpAny _ _ (PySem.call (Value.ref 600) _) _ _ _); k_dflt (refine' CtR.use (scan_sexps ?V ?Tb ?hal ?hl ?hin ?hs) ?kB ?kF ?kX ?kN ?kT ?kk ?kd ?ku ?_ ?_; (case kB => k_asm); (case kF => k_asm); (case kX => k_asm); (case kN => first | k_asm | exact news_tl (by k_asm) | exact news_tl (news_tl (by k_asm))); (case kT => k_asm); (case kk => first | exact rfl | assumption); (case V => (first | assumption | (refine ViewIn.mono (by assumption) ?_; (intro p9 hp9; first | exact hp9 | exact .tail _ hp9 | exact .tail _ (.tail _ hp9) | exact .tail _ (.tail _ (.tail _ hp9)) | exact .tail _ (.tail _ (.tail _ (.tail _ hp9))) | exact .tail _ (.tail _ (.tail _ (.tail _ (.tail _ hp9)))) | exact .tail _ (.tail _ (.tail _ (.tail _ (.tail _ (.tail _ hp9))))) | exact .tail _ (.tail _ (.tail _ (.tail _ (.tail _ (.tail _ (.tail _ hp9)))))))))); (case Tb => (first | assumption | (refine TabIn.mono (by assumption) ?_; (intro p9 hp9; first | exact hp9 | exact .tail _ hp9 | exact .tail _ (.tail _ hp9) | exact .tail _ (.tail _ (.tail _ hp9)) | exact .tail _ (.tail _ (.tail _ (.tail _ hp9))) | exact .tail _ (.tail _ (.tail _ (.tail _ (.tail _ hp9)))) | exact .tail _ (.tail _ (.tail _ (.tail _ (.tail _ (.tail _ hp9))))) | exact .tail _ (.tail _ (.tail _ (.tail _ (.tail _ (.tail _ (.tail _ hp9)))))))))); (case hal => assumption); (case hl => assumption); (case hin => assumption); (case hs => assumption); (case kd => ktr_room); (case ku => ktr_units); k_whole); rotate_left; (intro e9 h9 tk9 pr9 R9; (try dsimp only)); rotate_left; (intro v9 n9 h9 tk9 F9 N9 p9; obtain ⟨e9, hF9⟩ := p9; (have e9 := e9.symm); subst e9; (unfold ScanFound at hF9); obtain ⟨n9, t9, f1, f2, f3, f4, g9⟩ := hF9; subst g9; (try dsimp only); (try k_sweep))))
  exact trivial
example : True := by
  k_with "call ref" => (k_here; (with_reducible show wpAny _ _ (PySem.call (Value.ref 614) _) _ _ _); k_dflt (refine' Ct.use (line_behind ?V ?hp ?hl) ?kB ?kF ?kX ?kN ?kT ?kk ?kd ?ku ?_; (case kB => k_asm); (case kF => k_asm); (case kX => k_asm); (case kN => first | k_asm | exact news_tl (by k_asm) | exact news_tl (news_tl (by k_asm))); (case kT => k_asm); (case kk => first | exact rfl | assumption); (case V => (first | assumption | (refine ViewIn.mono (by assumption) ?_; (intro p9 hp9; first | exact hp9 | exact .tail _ hp9 | exact .tail _ (.tail _ hp9) | exact .tail _ (.tail _ (.tail _ hp9)) | exact .tail _ (.tail _ (.tail _ (.tail _ hp9))) | exact .tail _ (.tail _ (.tail _ (.tail _ (.tail _ hp9)))) | exact .tail _ (.tail _ (.tail _ (.tail _ (.tail _ (.tail _ hp9))))) | exact .tail _ (.tail _ (.tail _ (.tail _ (.tail _ (.tail _ (.tail _ hp9)))))))))); (case hp => (first | assumption | (constructor <;> omega))); (case hl => assumption); (case kd => ktr_room); (case ku => ktr_units); k_whole); intro v9 n9 h9 tk9 F9 N9 p9; obtain ⟨e9, hl9⟩ := p9; (have e9 := e9.symm); subst e9; obtain ⟨b9, tb9, hb9, g9⟩ := lb_told hl9; subst g9; (try dsimp only); (try k_sweep))
  exact trivial
example : True := by
  k_with "SPost" => (dsimp only [SPost])
  exact trivial
example : True := by
  k_with "FEnd" => (refine' FEnd.intro ?fe1 ?fe2 ?fe3 ?fe4; (case fe1 => k_asm); (case fe2 => k_asm); (case fe3 => exact told_next hP9 ⟨n9, t9, f1, f2, f3, f4, rfl⟩ hb9 (by omega)); (case fe4 => (intro z h1 h3; first | (simp [h1]; done) | (simp only [List.contains_cons, List.contains_nil, Bool.or_false, Bool.or_eq_false_iff, beq_eq_false_iff_ne, ne_eq] at h3; simp [h1, h3]; done))))
  exact trivial
/-- where a line goes on behind the blanks behind place e -/
def LB (ns : List Int) (e b : Int) : Prop := ∃ a, e ≤ a ∧ (∀ j, e ≤ j → j < a → codeAt ns j = 9 ∨ codeAt ns j = 32) ∧ ¬ (codeAt ns a = 9 ∨ codeAt ns a = 32) ∧ b = if codeAt ns a = 10 then a + 1 else e
theorem LB.one {ns : List Int} {e b b' : Int} (h : LB ns e b) (h' : LB ns e b') : b = b' := by
  obtain ⟨a, h1, h2, h3, rfl⟩ := h
  obtain ⟨a', h1', h2', h3', rfl⟩ := h'
  have e : a = a' := by
    rcases Int.lt_trichotomy a a' with q | q | q
    · exact absurd (h2' a h1 q) h3
    · exact q
    · exact absurd (h2 a' h1' q) h3'
  rw [e]
theorem lb_told {ns : List Int} {e : Int} {r : Value} (h : ∃ a t', e ≤ a ∧ (∀ j, e ≤ j → j < a → codeAt ns j = 9 ∨ codeAt ns j = 32) ∧ ¬ (codeAt ns a = 9 ∨ codeAt ns a = 32) ∧ r = .int (if codeAt ns a = 10 then a + 1 else e) t') : ∃ b t', LB ns e b ∧ r = .int b t' := by
  obtain ⟨a, t', h1, h2, h3, h4⟩ := h
  exact ⟨_, t', ⟨a, h1, h2, h3, rfl⟩, h4⟩
inductive Outc where
  | none
  | ret (b : Int)
  | sig
/-- what is told of the definitions that begin at these places -/
inductive Told (ns : List Int) (p : Int) : List Int → Outc → Prop
  | nil : Told ns p [] .none
  | sig {st : Int} {r : List Int} : NoEnd ns st → Told ns p (st :: r) .sig
  | ret {st e b : Int} {t : Tok} {r : List Int} : ScanFound ns st (.int e t) → LB ns e b → p < b → Told ns p (st :: r) (.ret b)
  | next {st e b : Int} {t : Tok} {r : List Int} {o : Outc} : ScanFound ns st (.int e t) → LB ns e b → ¬ p < b → Told ns p r o → Told ns p (st :: r) o
theorem told_next {ns : List Int} {p st e b : Int} {t : Tok} {pre : List Int} (hP : ∀ r o, Told ns p r o → Told ns p (pre ++ r) o) (hf : ScanFound ns st (.int e t)) (hb : LB ns e b) (hn : ¬ p < b) : ∀ r o, Told ns p r o → Told ns p (pre ++ [st] ++ r) o := fun r o h => by
  rw [List.append_assoc]
  exact hP _ _ (.next hf hb hn h)
theorem told_ret {ns : List Int} {p st e b b' : Int} {t : Tok} {pre post L : List Int} (hL : L = pre ++ st :: post) (hP : ∀ r o, Told ns p r o → Told ns p (pre ++ r) o) (hlt : p < b) (hf : ScanFound ns st (.int e t)) (hb : LB ns e b) (hb' : LB ns e b') : Told ns p L (.ret b') := by
  rw [hL, ← hb.one hb']
  exact hP _ _ (.ret hf hb hlt)
theorem told_sig {ns : List Int} {p st : Int} {pre post L : List Int} (hL : L = pre ++ st :: post) (hP : ∀ r o, Told ns p r o → Told ns p (pre ++ r) o) (h : NoEnd ns st) : Told ns p L .sig := by
  rw [hL]
  exact hP _ _ (.sig h)
theorem told_none {ns : List Int} {p : Int} {L : List Int} (hP : ∀ r o, Told ns p r o → Told ns p (L ++ r) o) : Told ns p L .none := by
  have := hP [] .none .nil
  rwa [List.append_nil] at this
theorem mem_starts {ns : List Int} {st : Int} : ∀ {k : Nat}, st ∈ startsTo ns k → 1 ≤ st ∧ st ≤ k ∧ IsStart ns st
  | 0, h => nomatch h
  | k + 1, h => by
    unfold startsTo at h
    rcases List.mem_append.mp h with h | h
    · have := mem_starts h
      exact ⟨this.1, by omega, this.2.2⟩
    · split at h
      · next q => rw [List.mem_singleton.mp h]; exact ⟨by omega, by omega, q⟩
      · cases h
/-- the places that are looked at, in their order -/
def lookAt (ns : List Int) (p : Int) : List Int :=
  List.drop ((List.filter (fun a => decide (a ≤ p)) (startsTo ns ns.length)).length - 1) (List.filter (fun a => decide (a ≤ p)) (startsTo ns ns.length)) ++ List.filter (fun a => decide (p < a)) (startsTo ns ns.length)
theorem de_mem {ns : List Int} {p st : Int} (h : st ∈ lookAt ns p) : (1 ≤ st ∧ st < 1 + ns.length) ∧ kindOf (codeAt ns st) = "(" := by
  have hm : st ∈ startsTo ns ns.length := by
    rcases List.mem_append.mp h with h | h
    · exact (List.mem_filter.mp (List.mem_of_mem_drop h)).1
    · exact (List.mem_filter.mp h).1
  have := mem_starts hm
  exact ⟨⟨this.1, by omega⟩, kind_open.mpr this.2.2.1⟩
theorem de_mem' {ns : List Int} {p st : Int} {pre post : List Int} (h : lookAt ns p = pre ++ st :: post) : (1 ≤ st ∧ st < 1 + ns.length) ∧ kindOf (codeAt ns st) = "(" := de_mem (p := p) (by rw [h]; exact List.mem_append_right _ (.head _))
theorem de_len {l : List Int} {k : Nat} {q r : Int → Bool} (h : l.length ≤ 1048576) : (List.drop k (l.filter q)).length + (l.filter r).length ≤ 16777216 := by
  have h1 := List.length_filter_le q l
  have h2 := List.length_filter_le r l
  have h3 := List.length_drop (i := k) (l := l.filter q)
  omega
theorem defun_end {news : List (Addr × Obj)} {v t : Addr} {p : Int} {tp : Tok} {ns : List Int} (V : ViewIn news v ns) (Tb : TabIn prog w news t) (hal : ∀ x ∈ ns, Alpha x) (hl : ns.length < 2 ^ 20) (hp : 1 ≤ p ∧ p ≤ 1 + ns.length) :
    CtR prog w mean mg mb 619 20 news [.ref v, .ref t, .int p tp] (fun r news' => news' = news ∧ ∃ o, Told ns p (lookAt ns p) o ∧ ((o = .none ∧ r = .none) ∨ ∃ b t', o = .ret b ∧ r = .int b t')) (Told ns p (lookAt ns p) .sig) := by
  have hsl := starts_len ns ns.length
  have hsl2 : (startsTo ns ns.length).length ≤ 1048576 := by omega
  have hsl3 : (startsTo ns ns.length).length ≤ 16777216 := by omega
  refine ViewIn.elim V ?_; intro vd vl vvs vc vn vh1 vh2 vt1 vt2 vt3 vm1 vm2 vx3 vx4 vx5; clear vx3 vx4 vx5
  refine TabIn.elim Tb ?_; intro td tr tt2 ttd2 tr2 tn tn2 th1 th2 th3 th4 tk1 tk2 tk3 tk4 to to2 tkvs tkvs2 tm1 tm2 tx3 tx4 tx5 tx6 tx7 tx8 tx9 txa txb txc; clear tx3 tx4 tx5 tx6 tx7 tx8 tx9 txa txb txc
  intro c00 A₀ base h₀ L m sHp sGn sDr sTk sOs Q E B F X N T hk hd hu hret hra
  refine wpAny_call ?_
  k_dflt (refine' code_defC (binds := [(Str.ofString "view", Value.ref v), (Str.ofString "table", Value.ref t), (Str.ofString "at", Value.int p tp)]) ?k1 ?k2 ?k3 ?k4 ?k5 ?kA ?kF ?kK ?k6 ?k7 ?k8 ?k9 ?kB ?kD ?_ ?c2 ?c3 ?c4; (case kA => exact rfl); (case kF => exact rfl); (case kK => first | exact rfl | assumption); (case k1 => k_asm); (case k2 => k_asm); (case k3 => k_asm); (case k4 => k_asm); (case k5 => k_asm); (case k6 => k_is); (case k7 => k_is); (case k8 => ktr_room); (case k9 => first | exact BindsTo.of_eq rfl | exact binds_K (by k_in) rfl (by k_is) rfl rfl rfl); (case kB => exact rfl); (case kD => decide +kernel); (case c2 => exact rfl); (case c3 => exact rfl); (case c4 => exact rfl); k_whole; intro g' L' h' tk' cells' FG' F' N' Y' B' X' T' l1; (try k_lt l1); k_cells Y'; (try simp only [List.cons_append, List.nil_append] at N'); (try dsimp only); (try k_lift B'); (try k_fold))
  k_steps

  all_goals (first
    | exact hra _ _ _ (told_sig hL9 hP9 (by assumption)) (R'.mono hmn)
    | (refine' hret _ news _ _ ?e1 ?e2 ⟨rfl, _, told_ret hL9 hP9 (by assumption) ⟨n9, t9, f1, f2, f3, f4, rfl⟩ (by assumption) hb9, .inr ⟨_, _, rfl, rfl⟩⟩; (case e1 => k_asm); (case e2 => exact cb_drop (by k_asm) hmn))
    | (refine' hret _ news _ _ ?e1 ?e2 ⟨rfl, _, told_none hP9, .inl ⟨rfl, rfl⟩⟩; (case e1 => k_asm); (case e2 => exact cb_drop (by k_asm) (by (intro p9 hp9; first | exact hp9 | exact .tail _ hp9 | exact .tail _ (.tail _ hp9) | exact .tail _ (.tail _ (.tail _ hp9)) | exact .tail _ (.tail _ (.tail _ (.tail _ hp9))) | exact .tail _ (.tail _ (.tail _ (.tail _ (.tail _ hp9)))) | exact .tail _ (.tail _ (.tail _ (.tail _ (.tail _ (.tail _ hp9))))) | exact .tail _ (.tail _ (.tail _ (.tail _ (.tail _ (.tail _ (.tail _ hp9))))))))))
    | trace_state)
example : True := by
  k_with_none
  w_top off
  exact trivial
example : True := by
  k_with "mroom" => with_unfolding_all first | ((rename (_ + _ < recursionLimit) => hZq7); first | exact room_lt hZq7 0 rfl rfl | exact room_lt hZq7 1 rfl rfl | exact room_lt hZq7 2 rfl rfl | exact room_lt hZq7 3 rfl rfl | exact room_lt hZq7 4 rfl rfl | exact room_lt hZq7 5 rfl rfl | exact room_lt hZq7 6 rfl rfl | exact room_lt hZq7 7 rfl rfl | exact room_lt hZq7 8 rfl rfl | exact room_lt hZq7 9 rfl rfl | exact room_lt hZq7 10 rfl rfl | exact room_lt hZq7 11 rfl rfl | exact room_lt hZq7 12 rfl rfl | exact room_lt hZq7 13 rfl rfl | exact room_lt hZq7 14 rfl rfl | exact room_lt hZq7 15 rfl rfl) | exact lt_ble rfl | fail "mroom"
  exact trivial
example : True := by
  k_with "munits" => with_unfolding_all first | ((rename (_ + _ + _ < cLine) => hZq7); first | exact unit_lt2 hZq7 0 rfl rfl | exact unit_lt2 hZq7 3 rfl rfl | exact unit_lt2 hZq7 6 rfl rfl | exact unit_lt2 hZq7 9 rfl rfl | exact unit_lt2 hZq7 12 rfl rfl | exact unit_lt hZq7 0 rfl rfl | exact unit_lt hZq7 3 rfl rfl | exact unit_lt hZq7 6 rfl rfl | exact unit_lt hZq7 9 rfl rfl | exact unit_lt hZq7 12 rfl rfl) | exact lt_ble rfl | fail "munits"
  exact trivial
example : True := by
  k_with "mne" => (refine neN ?_; (try dsimp only); first | assumption | exact Ne.symm (by assumption) | exact Nat.ne_of_lt (by assumption) | exact Nat.ne_of_gt (by assumption) | fail "mne")
  exact trivial
def TextSrcT (prog : Program) (w : World) (A : Around) (h₀ : Heap) (L : Addr) (m : Str → Option Value) (env : Env) (ct elt : Expr) (x : Str) (scope : Scope) (cl : List (Str × Addr)) (Q : Value → Shared → Prop) (xv : Value) (s₁ : Shared) : Prop :=
  ∃ (xt : Str) (tx : Tok) (news : List (Addr × Obj)), xv = .str xt tx ∧ A.handled = none ∧ Fr h₀ L s₁.heap m ∧ News h₀ L s₁.heap news ∧ xt.cps.size ≤ sizeLine ∧
    ∀ s₂ : Shared, (∃ h, s₂ = { s₁ with heap := h }) → LCt.CompRestT prog w A h₀ L m env ct elt x scope cl s₂ (fun _ => True) (SignAt xt) (LCg.FinE h₀ L m s₂ Q) xt.cps.size 0 [] news
def TextSrcU (prog : Program) (w : World) (A : Around) (h₀ : Heap) (L : Addr) (m : Str → Option Value) (env : Env) (elt : Expr) (x : Str) (scope : Scope) (cl : List (Str × Addr)) (Q : Value → Shared → Prop) (xv : Value) (s₁ : Shared) : Prop :=
  ∃ (xt : Str) (tx : Tok) (news : List (Addr × Obj)), xv = .str xt tx ∧ A.handled = none ∧ Fr h₀ L s₁.heap m ∧ News h₀ L s₁.heap news ∧ xt.cps.size ≤ sizeLine ∧
    ∀ s₂ : Shared, (∃ h, s₂ = { s₁ with heap := h }) → LCg.CompRest prog w A h₀ L m env elt x scope cl s₂ (fun _ => True) (SignAt xt) (LCg.FinE h₀ L m s₂ Q) xt.cps.size 0 [] news
section
variable {A : Around} {E : Value → Shared → Prop} {s : Shared} {h₀ : Heap} {L : Addr} {m : Str → Option Value} {env : Env}
open LCg LCt in
theorem ListComp_ST {ct elt iter : Expr} {x : Str} {px : Pos} {scope : Scope} {cl : List (Str × Addr)} {pos : Pos} {Q : Value → Shared → Prop} (F₀ : Fr h₀ L s.heap m) (hclos : closureFor scope env = pure cl) (hcell : ∀ y ∈ scope.names, y.2 ≠ .cell) (hkind : scope.kind = .function)
    (hnames : ∀ y ∈ scope.names, y.2 = .local → scope.names.lookup y.1 = some .local) (hx : scope.names.lookup x = some .local)
    (h : wpAny (model prog w) A (eval iter env) (TextSrcT prog w A h₀ L m env ct elt x scope cl Q) E s) (hs : ∀ x, foldedSetIterable iter env x = pure x := by intro _; rfl) :
    wpAny (model prog w) A (eval (.ListComp elt [⟨.Name x px, iter, [ct], 0⟩] scope pos) env) Q E s := by
  rw [eval_ListComp]
  refine wpAny_comprehension_free (use := none) rfl hs hclos hkind hnames (wpAny_mono h (fun xv s₁ h₁ => ?_) fun _ _ e => e)
  obtain ⟨xt, tx, news, rfl, hh, F, N, hsz, R⟩ := h₁
  have up : ∀ {ob : Obj} b o, s₁.heap.get? b = some o → (s₁.heap.push ob).get? b = some o := fun b o e => Heap.get?_push_of_some _ e
  cases ha : xt.cps.all (· < 128)
  · refine wpAny_pyIter_wide ha ?_
    refine block_T (Walks.strWide hh s₁.heap.objs.size xt tx) hsz (fun i h st => let ⟨o, e, _⟩ := st; ⟨o, e⟩) (fun i h h' o nw st e e' _ _ _ => ?_) hcell hkind hx ⟨_, Heap.get?_push_size _ rfl, rfl, rfl⟩ (fun b hb => ?_)
      (F.keeps up) (N.grown up) (Nat.ne_of_lt F.ns.lt) (next_is_new F) (fun p hp => Nat.ne_of_lt (Heap.lt_size (N p hp).1)) trivial (R _ ⟨_, rfl⟩) ?_
    · obtain ⟨o', q, r⟩ := st; rw [e] at q; cases q; exact ⟨o, e', r⟩
    · rw [List.mem_singleton.mp hb]
      show s₁.heap.objs.size < (s₁.heap.push _).objs.size
      rw [Heap.size_push]; exact Nat.lt_succ_self _
    · intro D C h tk m' ys news' F' N' o1 hn hC₀ hD₀ hCL hDL hCD offC fin
      refine ⟨m', hn, fun h'' hs'' => fin D h'' tk (F'.change hs'' hCL hC₀) (fun p hp => ?_) o1⟩
      refine ⟨hs''.extBut _ _ ?_ (N' p hp).1, (N' p hp).2⟩
      rcases List.mem_cons.mp hp with rfl | hp
      · exact Ne.symm hCD
      · exact offC p hp
  · refine wpAny_pyIter_ascii ha ?_
    refine block_T (Walks.strAscii hh s₁.heap.objs.size xt tx) hsz (fun i h st => let ⟨o, e, _⟩ := st; ⟨o, e⟩) (fun i h h' o nw st e e' _ _ _ => ?_) hcell hkind hx ⟨_, Heap.get?_push_size _ rfl, rfl, rfl⟩ (fun b hb => ?_)
      (F.keeps up) (N.grown up) (Nat.ne_of_lt F.ns.lt) (next_is_new F) (fun p hp => Nat.ne_of_lt (Heap.lt_size (N p hp).1)) trivial (R _ ⟨_, rfl⟩) ?_
    · obtain ⟨o', q, r⟩ := st; rw [e] at q; cases q; exact ⟨o, e', r⟩
    · rw [List.mem_singleton.mp hb]
      show s₁.heap.objs.size < (s₁.heap.push _).objs.size
      rw [Heap.size_push]; exact Nat.lt_succ_self _
    · intro D C h tk m' ys news' F' N' o1 hn hC₀ hD₀ hCL hDL hCD offC fin
      refine ⟨m', hn, fun h'' hs'' => fin D h'' tk (F'.change hs'' hCL hC₀) (fun p hp => ?_) o1⟩
      refine ⟨hs''.extBut _ _ ?_ (N' p hp).1, (N' p hp).2⟩
      rcases List.mem_cons.mp hp with rfl | hp
      · exact Ne.symm hCD
      · exact offC p hp
open LCg LCt in
theorem ListComp_SU {elt iter : Expr} {x : Str} {px : Pos} {scope : Scope} {cl : List (Str × Addr)} {pos : Pos} {Q : Value → Shared → Prop} (F₀ : Fr h₀ L s.heap m) (hclos : closureFor scope env = pure cl) (hcell : ∀ y ∈ scope.names, y.2 ≠ .cell) (hkind : scope.kind = .function)
    (hnames : ∀ y ∈ scope.names, y.2 = .local → scope.names.lookup y.1 = some .local) (hx : scope.names.lookup x = some .local)
    (h : wpAny (model prog w) A (eval iter env) (TextSrcU prog w A h₀ L m env elt x scope cl Q) E s) (hs : ∀ x, foldedSetIterable iter env x = pure x := by intro _; rfl) :
    wpAny (model prog w) A (eval (.ListComp elt [⟨.Name x px, iter, [], 0⟩] scope pos) env) Q E s := by
  rw [eval_ListComp]
  refine wpAny_comprehension_free (use := none) rfl hs hclos hkind hnames (wpAny_mono h (fun xv s₁ h₁ => ?_) fun _ _ e => e)
  obtain ⟨xt, tx, news, rfl, hh, F, N, hsz, R⟩ := h₁
  have up : ∀ {ob : Obj} b o, s₁.heap.get? b = some o → (s₁.heap.push ob).get? b = some o := fun b o e => Heap.get?_push_of_some _ e
  cases ha : xt.cps.all (· < 128)
  · refine wpAny_pyIter_wide ha ?_
    refine block_U (Walks.strWide hh s₁.heap.objs.size xt tx) hsz (fun i h st => let ⟨o, e, _⟩ := st; ⟨o, e⟩) (fun i h h' o nw st e e' _ _ _ => ?_) hcell hkind hx ⟨_, Heap.get?_push_size _ rfl, rfl, rfl⟩ (fun b hb => ?_)
      (F.keeps up) (N.grown up) (Nat.ne_of_lt F.ns.lt) (next_is_new F) (fun p hp => Nat.ne_of_lt (Heap.lt_size (N p hp).1)) trivial (R _ ⟨_, rfl⟩) ?_
    · obtain ⟨o', q, r⟩ := st; rw [e] at q; cases q; exact ⟨o, e', r⟩
    · rw [List.mem_singleton.mp hb]
      show s₁.heap.objs.size < (s₁.heap.push _).objs.size
      rw [Heap.size_push]; exact Nat.lt_succ_self _
    · intro D C h tk m' ys news' F' N' o1 hn hC₀ hD₀ hCL hDL hCD offC fin
      refine ⟨m', hn, fun h'' hs'' => fin D h'' tk (F'.change hs'' hCL hC₀) (fun p hp => ?_) o1⟩
      refine ⟨hs''.extBut _ _ ?_ (N' p hp).1, (N' p hp).2⟩
      rcases List.mem_cons.mp hp with rfl | hp
      · exact Ne.symm hCD
      · exact offC p hp
  · refine wpAny_pyIter_ascii ha ?_
    refine block_U (Walks.strAscii hh s₁.heap.objs.size xt tx) hsz (fun i h st => let ⟨o, e, _⟩ := st; ⟨o, e⟩) (fun i h h' o nw st e e' _ _ _ => ?_) hcell hkind hx ⟨_, Heap.get?_push_size _ rfl, rfl, rfl⟩ (fun b hb => ?_)
      (F.keeps up) (N.grown up) (Nat.ne_of_lt F.ns.lt) (next_is_new F) (fun p hp => Nat.ne_of_lt (Heap.lt_size (N p hp).1)) trivial (R _ ⟨_, rfl⟩) ?_
    · obtain ⟨o', q, r⟩ := st; rw [e] at q; cases q; exact ⟨o, e', r⟩
    · rw [List.mem_singleton.mp hb]
      show s₁.heap.objs.size < (s₁.heap.push _).objs.size
      rw [Heap.size_push]; exact Nat.lt_succ_self _
    · intro D C h tk m' ys news' F' N' o1 hn hC₀ hD₀ hCL hDL hCD offC fin
      refine ⟨m', hn, fun h'' hs'' => fin D h'' tk (F'.change hs'' hCL hC₀) (fun p hp => ?_) o1⟩
      refine ⟨hs''.extBut _ _ ?_ (N' p hp).1, (N' p hp).2⟩
      rcases List.mem_cons.mp hp with rfl | hp
      · exact Ne.symm hCD
      · exact offC p hp
open LCg LCt in
theorem comp_textT {ct elt : Expr} {x : Str} {scope : Scope} {cl : List (Str × Addr)} {Q : Value → Shared → Prop} {xt : Str} {tx : Tok} {news : List (Addr × Obj)} (J : Nat → List Value → Prop) (hh : A.handled = none) (F : Fr h₀ L s.heap m) (N : News h₀ L s.heap news) (hsz : xt.cps.size ≤ sizeLine) (h0 : J 0 [])
    (turn : ∀ (g : Heap) i ys (c : Nat) t I oI C oC D m₂ h tk (E' : Value → Shared → Prop), i < xt.cps.size → J i ys → xt.cps[i]? = some c → NsObj oC m₂ → m₂ x = some (.str ⟨#[c]⟩ t) → Fr h₀ L h m → News h₀ L h ((I, oI) :: (C, oC) :: (D, lst ys) :: news) → Off3 I C D news → ((@Ne Nat I C) ∧ (@Ne Nat I D) ∧ (@Ne Nat C D)) →
      wpAny (model prog w) A (isTrue ct (compEnvC scope cl C env) (eval ct (compEnvC scope cl C env))) (fun ok s' => if ok = true then
        wpAny (model prog w) A (eval elt (compEnvC scope cl C env)) (TurnEnd h₀ L m { s with heap := h, toks := tk } ((I, oI) :: (C, oC) :: (D, lst ys) :: news) (fun y => J (i + 1) (ys ++ [y]))) E' s'
        else TurnEnd h₀ L m { s with heap := h, toks := tk } ((I, oI) :: (C, oC) :: (D, lst ys) :: news) (fun _ => J (i + 1) ys) .none s') E' { s with heap := h, toks := tk })
    (fin : ∀ (g : Heap) ys, J xt.cps.size ys → FinE h₀ L m { s with heap := g } Q ys news) : TextSrcT prog w A h₀ L m env ct elt x scope cl Q (.str xt tx) s := by
  refine ⟨xt, tx, news, rfl, hh, F, N, hsz, ?_⟩
  rintro s₂ ⟨g, rfl⟩
  refine compT_same J trivial h0 ?_ (fin g)
  rintro i ys v I oI C oC D m₂ h tk E' hi hj ⟨c, t, hc, rfl⟩ hC hx F' N' off ne
  exact turn g i ys c t I oI C oC D m₂ h tk E' hi hj hc hC hx F' N' off ne
open LCg LCt in
/-- a comprehension without a test; what the turns do to the ledger is told by a state -/
theorem compU_state {σ : Type} {elt : Expr} {x : Str} {scope : Scope} {cl : List (Str × Addr)} {S : List (Addr × Obj) → Prop} {P : Nat → Value → Prop} {Fin : List Value → List (Addr × Obj) → Prop} {n : Nat} (Led : σ → List (Addr × Obj)) (J : Nat → List Value → σ → Prop) (c₀ : σ) (hS : ∀ c, S (Led c)) (h0 : J 0 [] c₀)
    (turn : ∀ i ys c v I oI C oC D m₂ h tk (E' : Value → Shared → Prop), i < n → J i ys c → P i v → NsObj oC m₂ → m₂ x = some v → Fr h₀ L h m → News h₀ L h ((I, oI) :: (C, oC) :: (D, lst ys) :: Led c) → Off3 I C D (Led c) → ((@Ne Nat I C) ∧ (@Ne Nat I D) ∧ (@Ne Nat C D)) →
      wpAny (model prog w) A (eval elt (compEnvC scope cl C env)) (fun y s₂ => ∃ c', Off3 I C D (Led c') ∧ TurnEnd h₀ L m { s with heap := h, toks := tk } ((I, oI) :: (C, oC) :: (D, lst ys) :: Led c') (fun y => J (i + 1) (ys ++ [y]) c') y s₂) E' { s with heap := h, toks := tk })
    (fin : ∀ ys c, J n ys c → Fin ys (Led c)) : CompRest prog w A h₀ L m env elt x scope cl s S P Fin n 0 [] (Led c₀) := by
  have gen : ∀ k i ys c, i + k = n → J i ys c → CompRest prog w A h₀ L m env elt x scope cl s S P Fin k i ys (Led c) := by
    intro k
    induction k with
    | zero => intro i ys c e hj; exact CompRest.zero (fin ys c (by rw [← show i = n by omega]; exact hj))
    | succ k ih =>
      intro i ys c e hj
      refine CompRest.succ fun v I oI C oC D m₂ h tk E' hp hC hx F N off ne => ?_
      refine wpAny_mono (turn i ys c v I oI C oC D m₂ h tk E' (by omega) hj hp hC hx F N off ne) (fun y s₂ z => ?_) fun _ _ q => q
      obtain ⟨c', off', h', tk', rfl, F', N', z⟩ := z
      exact ⟨h', tk', Led c', rfl, F', N', off', hS c', ih (i + 1) _ c' (by omega) z⟩
  exact gen n 0 [] c₀ (by omega) h0
open LCg LCt in
theorem comp_textU {elt : Expr} {x : Str} {scope : Scope} {cl : List (Str × Addr)} {Q : Value → Shared → Prop} {xt : Str} {tx : Tok} {news : List (Addr × Obj)} (J : Nat → List Value → Prop) (hh : A.handled = none) (F : Fr h₀ L s.heap m) (N : News h₀ L s.heap news) (hsz : xt.cps.size ≤ sizeLine) (h0 : J 0 [])
    (turn : ∀ (g : Heap) i ys (c : Nat) t I oI C oC D m₂ h tk (E' : Value → Shared → Prop), i < xt.cps.size → J i ys → xt.cps[i]? = some c → NsObj oC m₂ → m₂ x = some (.str ⟨#[c]⟩ t) → Fr h₀ L h m → News h₀ L h ((I, oI) :: (C, oC) :: (D, lst ys) :: news) → Off3 I C D news → ((@Ne Nat I C) ∧ (@Ne Nat I D) ∧ (@Ne Nat C D)) →
      wpAny (model prog w) A (eval elt (compEnvC scope cl C env)) (TurnEnd h₀ L m { s with heap := h, toks := tk } ((I, oI) :: (C, oC) :: (D, lst ys) :: news) (fun y => J (i + 1) (ys ++ [y]))) E' { s with heap := h, toks := tk })
    (fin : ∀ (g : Heap) ys, J xt.cps.size ys → FinE h₀ L m { s with heap := g } Q ys news) : TextSrcU prog w A h₀ L m env elt x scope cl Q (.str xt tx) s := by
  refine ⟨xt, tx, news, rfl, hh, F, N, hsz, ?_⟩
  rintro s₂ ⟨g, rfl⟩
  refine compU_state (σ := Unit) (fun _ => news) (fun i ys _ => J i ys) () (fun _ => trivial) h0 ?_ fun ys _ => fin g ys
  rintro i ys _ v I oI C oC D m₂ h tk E' hi hj ⟨c, t, hc, rfl⟩ hC hx F' N' off ne
  exact wpAny_mono (turn g i ys c t I oI C oC D m₂ h tk E' hi hj hc hC hx F' N' off ne) (fun y s₂ z => ⟨(), off, z⟩) fun _ _ z => z
end
example : True := by
  k_with_none
  w_top off
  exact trivial
example : True := by
  k_with "mroom" => with_unfolding_all first | ((rename (_ + _ < recursionLimit) => hZq7); first | exact room_lt hZq7 0 rfl rfl | exact room_lt hZq7 1 rfl rfl | exact room_lt hZq7 2 rfl rfl | exact room_lt hZq7 3 rfl rfl | exact room_lt hZq7 4 rfl rfl | exact room_lt hZq7 5 rfl rfl | exact room_lt hZq7 6 rfl rfl | exact room_lt hZq7 7 rfl rfl | exact room_lt hZq7 8 rfl rfl | exact room_lt hZq7 9 rfl rfl | exact room_lt hZq7 10 rfl rfl | exact room_lt hZq7 11 rfl rfl | exact room_lt hZq7 12 rfl rfl | exact room_lt hZq7 13 rfl rfl | exact room_lt hZq7 14 rfl rfl | exact room_lt hZq7 15 rfl rfl) | exact lt_ble rfl | fail "mroom"
  exact trivial
example : True := by
  k_with "munits" => with_unfolding_all first | ((rename (_ + _ + _ < cLine) => hZq7); first | exact unit_lt2 hZq7 0 rfl rfl | exact unit_lt2 hZq7 3 rfl rfl | exact unit_lt2 hZq7 6 rfl rfl | exact unit_lt2 hZq7 9 rfl rfl | exact unit_lt2 hZq7 12 rfl rfl | exact unit_lt hZq7 0 rfl rfl | exact unit_lt hZq7 3 rfl rfl | exact unit_lt hZq7 6 rfl rfl | exact unit_lt hZq7 9 rfl rfl | exact unit_lt hZq7 12 rfl rfl) | exact lt_ble rfl | fail "munits"
  exact trivial
example : True := by
  k_with "mne" => (refine neN ?_; (try dsimp only); first | assumption | exact Ne.symm (by assumption) | exact Nat.ne_of_lt (by assumption) | exact Nat.ne_of_gt (by assumption) | fail "mne")
  exact trivial
example : True := by
  k_with "eval ListComp" => (k_here; k_dflt (refine ListComp_ST (by k_asm) (by with_unfolding_all rfl) (by decide) (by rfl) (by decide) (by rfl) ?_))
  exact trivial
example : True := by
  k_with "TextSrcT" => (focus (k_here; (refine' comp_textT (SfJ x) ?ts1 ?ts2 ?ts3 ?ts4 ?ts5 ?_ ?_; (case ts1 => exact rfl); (case ts2 => k_asm); (case ts3 => k_asm); (case ts4 => (rw [sizeLine_eq]; decide)); (case ts5 => exact sf_0)); (intro g9 i9 ys9 c9 t9 I9 oI9 C9 oC9 D9 m9 h' tk' E9 hi9 hj9 hc9 hC9 hx9 F' N' off9 ne9; (obtain ⟨of1, of2, of3⟩ := off3_all off9)); rotate_left; (intro g9 ys9 hj9; obtain ⟨ws9, hw1, hw2, hw3, hw4⟩ := hj9; (have hw5 := sf_tot hw2 hw3)); rotate_left))
  exact trivial
example : True := by
  k_with "FinE" => ((unfold LCg.FinE); intro D' h' tk' F' N' o1'; (have o2' := off1_all o1'); (try dsimp only))
  exact trivial
example : True := by
  k_with "TurnEnd" => (((refine' TurnEnd.intro ?te1 ?te2 ?te3; (case te1 => k_asm); (case te2 => k_asm); (case te3 => ((try dsimp only); first | exact sf_yes hj9 (by assumption) | exact sf_no hj9)))))
  exact trivial
example : True := by
  k_with "call builtin:str.join" => (k_here; (with_reducible show wpAny _ _ (call (Value.builtin "str.join") [Value.str _ _, Value.ref _]) _ _ _); k_dflt (refine' join_list ?j1 ?j2 ?j3 ?_; (case j1 => is_list); (case j2 => exact hw1); (case j3 => exact hw5); k_whole); intro t8 k8)
  exact trivial
/-- the signs told so far -/
def SfJ (x : Str) (i : Nat) (ys : List Value) : Prop := ∃ ws : List Str, StrsAre ys ws ∧ (∀ a ∈ ws, a.length ≤ 1) ∧ ws.length ≤ i ∧ (x = Str.ofString "" → ws = [])
theorem sf_0 {x : Str} : SfJ x 0 [] := ⟨[], .nil, (fun a h => nomatch h), Nat.le_refl _, fun _ => rfl⟩
theorem sf_occ {c : Nat} : (Builtin.Str.occurrences (Str.ofString "") ⟨#[c]⟩ 0 (Str.ofString "").length 1).isEmpty = true := by
  have h := StrLaws.found_one (Str.ofString "") c
  rw [show decide (c ∈ (Str.ofString "").cps.toList) = false from decide_eq_false (fun h => by cases h)] at h
  simpa using h
theorem sf_yes {x : Str} {i c : Nat} {t : Tok} {ys : List Value} (h : SfJ x i ys) (ho : (Builtin.Str.occurrences x ⟨#[c]⟩ 0 x.length 1).isEmpty = false) : SfJ x (i + 1) (ys ++ [.str ⟨#[c]⟩ t]) := by
  obtain ⟨ws, h1, h2, h3, h4⟩ := h
  refine ⟨ws ++ [⟨#[c]⟩], h1.append' (.cons _ _ .nil), fun a ha => ?_, by rw [List.length_append, List.length_singleton]; omega, fun hx => ?_⟩
  · rcases List.mem_append.mp ha with ha | ha
    · exact h2 a ha
    · rw [List.mem_singleton.mp ha]; exact Nat.le_refl _
  · subst hx; rw [sf_occ] at ho; cases ho
theorem sf_no {x : Str} {i : Nat} {ys : List Value} (h : SfJ x i ys) : SfJ x (i + 1) ys := let ⟨ws, h1, h2, h3, h4⟩ := h; ⟨ws, h1, h2, Nat.le_succ_of_le h3, h4⟩
theorem sum_le_len : ∀ {ws : List Str}, (∀ a ∈ ws, a.length ≤ 1) → (ws.map (·.length)).sum ≤ ws.length
  | [], _ => Nat.le_refl _
  | a :: r, h => by
    have := sum_le_len (ws := r) fun b hb => h b (.tail _ hb)
    have := h a (.head _)
    simp only [List.map_cons, List.sum_cons, List.length_cons]; omega
theorem sf_tot {ws : List Str} (h : ∀ a ∈ ws, a.length ≤ 1) (hl : ws.length ≤ (Str.ofString "1234bcnp").cps.size) : (ws.map (·.length)).sum + ws.length * (Str.ofString "").length ≤ 16777216 := by
  have h1 := sum_le_len h
  have h2 : (Str.ofString "1234bcnp").cps.size = 8 := by decide +kernel
  have h3 : (Str.ofString "").length = 0 := rfl
  rw [h3]; omega
theorem sorted_flags {news : List (Addr × Obj)} {x : Str} {t1 : Tok} :
    Ct prog w mean mg mb 153 12 news [.str x t1] (fun r news' => news' = news ∧ ∃ y t', r = .str y t' ∧ (x = Str.ofString "" → y = Str.ofString "")) := by
  intro c00 A₀ base h₀ L m sHp sGn sDr sTk sOs Q E B F X N T hk hd hu hret
  refine wpAny_call ?_
  k_dflt (refine' code_defC (binds := [(Str.ofString "text", Value.str x t1)]) ?k1 ?k2 ?k3 ?k4 ?k5 ?kA ?kF ?kK ?k6 ?k7 ?k8 ?k9 ?kB ?kD ?_ ?c2 ?c3 ?c4; (case kA => exact rfl); (case kF => exact rfl); (case kK => first | exact rfl | assumption); (case k1 => k_asm); (case k2 => k_asm); (case k3 => k_asm); (case k4 => k_asm); (case k5 => k_asm); (case k6 => k_is); (case k7 => k_is); (case k8 => ktr_room); (case k9 => first | exact BindsTo.of_eq rfl | exact binds_K (by k_in) rfl (by k_is) rfl rfl rfl); (case kB => exact rfl); (case kD => decide +kernel); (case c2 => exact rfl); (case c3 => exact rfl); (case c4 => exact rfl); k_whole; intro g' L' h' tk' cells' FG' F' N' Y' B' X' T' l1; (try k_lt l1); k_cells Y'; (try simp only [List.cons_append, List.nil_append] at N'); (try dsimp only); (try k_lift B'); (try k_fold))
  k_steps

  all_goals (first | (refine' hret _ news _ _ ?e1 ?e2 ⟨rfl, _, _, rfl, fun hx => by rw [hw4 hx]; rfl⟩; (case e1 => k_asm); (case e2 => exact news_tl (news_tl (by k_asm)))) | trace_state)
example : True := by
  k_with_none
  w_top off
  exact trivial
example : True := by
  k_with "mroom" => with_unfolding_all first | ((rename (_ + _ < recursionLimit) => hZq7); first | exact room_lt hZq7 0 rfl rfl | exact room_lt hZq7 1 rfl rfl | exact room_lt hZq7 2 rfl rfl | exact room_lt hZq7 3 rfl rfl | exact room_lt hZq7 4 rfl rfl | exact room_lt hZq7 5 rfl rfl | exact room_lt hZq7 6 rfl rfl | exact room_lt hZq7 7 rfl rfl | exact room_lt hZq7 8 rfl rfl | exact room_lt hZq7 9 rfl rfl | exact room_lt hZq7 10 rfl rfl | exact room_lt hZq7 11 rfl rfl | exact room_lt hZq7 12 rfl rfl | exact room_lt hZq7 13 rfl rfl | exact room_lt hZq7 14 rfl rfl | exact room_lt hZq7 15 rfl rfl) | exact lt_ble rfl | fail "mroom"
  exact trivial
example : True := by
  k_with "munits" => with_unfolding_all first | ((rename (_ + _ + _ < cLine) => hZq7); first | exact unit_lt2 hZq7 0 rfl rfl | exact unit_lt2 hZq7 3 rfl rfl | exact unit_lt2 hZq7 6 rfl rfl | exact unit_lt2 hZq7 9 rfl rfl | exact unit_lt2 hZq7 12 rfl rfl | exact unit_lt hZq7 0 rfl rfl | exact unit_lt hZq7 3 rfl rfl | exact unit_lt hZq7 6 rfl rfl | exact unit_lt hZq7 9 rfl rfl | exact unit_lt hZq7 12 rfl rfl) | exact lt_ble rfl | fail "munits"
  exact trivial
example : True := by
  k_with "mne" => (refine neN ?_; (try dsimp only); first | assumption | exact Ne.symm (by assumption) | exact Nat.ne_of_lt (by assumption) | exact Nat.ne_of_gt (by assumption) | fail "mne")
  exact trivial
example : True := by
  k_with "call ref" => (k_here; (with_reducible show wpAny _ _ (PySem.call (Value.ref 144) _) _ _ _); k_dflt (refine' call_cls ?k1 ?k2 ?k3 ?k4 ?k5 ?k6 ?_; (case k1 => k_asm); (case k2 => k_asm); (case k3 => k_asm); (case k4 => k_is); (case k5 => k_is); (case k6 => k_is); k_whole; intro yy yd h' F' N' l1 l2; (have lx1 := ne_of_lts l1); (have lx2 := ne_of_lts2 l1 l2); (have lx3 := ne_of_lt2 l2); (try k_sweep);  (refine' code_def (binds := [(Str.ofString "self", Value.ref yy), (Str.ofString "kind", Value.str kd t1), (Str.ofString "match", mv), (Str.ofString "flags", Value.str fl t2)]) ?k1 ?k2 ?k3 ?k4 ?k5 ?kA ?kF ?kK ?k6 ?k7 ?k8 ?k9 ?kB ?_ ?c2 ?c3 ?c4 ?c5; (case kA => exact rfl); (case kF => exact rfl); (case kK => first | exact rfl | assumption); (case k1 => k_asm); (case k2 => k_asm); (case k3 => k_asm); (case k4 => k_asm); (case k5 => k_asm); (case k6 => k_is); (case k7 => k_is); (case k8 => ktr_room); (case k9 => first | exact BindsTo.of_eq rfl | exact binds_K (by k_in) rfl (by k_is) rfl rfl rfl); (case c5 => decide); (case kB => exact locs rfl); (case c2 => exact rfl); (case c3 => exact rfl); (case c4 => exact rfl); k_whole; intro g' L' h' FG' F' N' B' X' T'; (try dsimp only); (try k_lift B'); (try k_fold))))
  exact trivial
example : True := by
  k_with "setAttr ref" => (k_here; refine genTok ?_; intro tk7; k_dflt (refine' set_dict ?k1 ?k2 ?k3 ?k4 ?k5 ?k6 ?k7 ?k8 ?k9 ?k10 ?k11 ?k12 ?k13 ?_; (case k1 => k_asm); (case k2 => k_asm); (case k3 => k_asm); (case k4 => k_inst); (case k5 => exact rfl); (case k6 => k_is); (case k7 => k_is); (case k8 => k_is); (case k9 => k_is); (case k10 => k_get); (case k11 => k_put); (case k12 => k_upd); (case k13 => exact Nat.le_of_ble_eq_true rfl); k_whole); intro h' F' N'; (try dsimp only at N'); (try k_sweep))
  exact trivial
theorem syntax_fresh {news : List (Addr × Obj)} {kd fl : Str} {t1 t2 : Tok} {mv : Value} :
    Ct prog w mean mg mb 144 3 news [.str kd t1, mv, .str fl t2] (fun r news' => ∃ (y yd : Addr) (n : Nat) (h1 h2 h3 : Int) (k1 k2 k3 : Tok), r = .ref y ∧
      news' = (y, instObj 144 yd) :: (yd, dictOf [⟨h1, .str (Str.ofString "kind") k1, .str kd t1⟩, ⟨h2, .str (Str.ofString "match") k2, mv⟩, ⟨h3, .str (Str.ofString "flags") k3, .str fl t2⟩] n) :: news ∧ (∀ q ∈ news, q.1 < yd) ∧ @LT.lt Nat _ yd y) := by
  intro c00 A₀ base h₀ L m sHp sGn sDr sTk sOs Q E B F X N T hk hd hu hret
  k_steps
  all_goals (first | (refine' hret _ _ _ _ ?e1 ?e2 ?e3; (case e1 => k_asm); (case e2 => k_asm); (case e3 => exact ⟨_, _, _, _, _, _, _, _, _, rfl, rfl, l1, l2⟩)) | trace_state)
example : True := by
  k_with_none
  w_top off
  exact trivial
example : True := by
  k_with "mroom" => with_unfolding_all first | ((rename (_ + _ < recursionLimit) => hZq7); first | exact room_lt hZq7 0 rfl rfl | exact room_lt hZq7 1 rfl rfl | exact room_lt hZq7 2 rfl rfl | exact room_lt hZq7 3 rfl rfl | exact room_lt hZq7 4 rfl rfl | exact room_lt hZq7 5 rfl rfl | exact room_lt hZq7 6 rfl rfl | exact room_lt hZq7 7 rfl rfl | exact room_lt hZq7 8 rfl rfl | exact room_lt hZq7 9 rfl rfl | exact room_lt hZq7 10 rfl rfl | exact room_lt hZq7 11 rfl rfl | exact room_lt hZq7 12 rfl rfl | exact room_lt hZq7 13 rfl rfl | exact room_lt hZq7 14 rfl rfl | exact room_lt hZq7 15 rfl rfl) | exact lt_ble rfl | fail "mroom"
  exact trivial
example : True := by
  k_with "munits" => with_unfolding_all first | ((rename (_ + _ + _ < cLine) => hZq7); first | exact unit_lt2 hZq7 0 rfl rfl | exact unit_lt2 hZq7 3 rfl rfl | exact unit_lt2 hZq7 6 rfl rfl | exact unit_lt2 hZq7 9 rfl rfl | exact unit_lt2 hZq7 12 rfl rfl | exact unit_lt hZq7 0 rfl rfl | exact unit_lt hZq7 3 rfl rfl | exact unit_lt hZq7 6 rfl rfl | exact unit_lt hZq7 9 rfl rfl | exact unit_lt hZq7 12 rfl rfl) | exact lt_ble rfl | fail "munits"
  exact trivial
example : True := by
  k_with "mne" => (refine neN ?_; (try dsimp only); first | assumption | exact Ne.symm (by assumption) | exact Nat.ne_of_lt (by assumption) | exact Nat.ne_of_gt (by assumption) | fail "mne")
  exact trivial
example : True := by
  k_with "eval ListComp" => (k_here; k_dflt (refine ListComp_SU (by k_asm) (by with_unfolding_all rfl) (by decide) (by rfl) (by decide) (by rfl) ?_))
  exact trivial
example : True := by
  k_with "call ref" => (k_here; (with_reducible show wpAny _ _ (PySem.call (Value.ref 153) _) _ _ _); k_dflt (refine' Ct.use (sorted_flags ) ?kB ?kF ?kX ?kN ?kT ?kk ?kd ?ku ?_; (case kB => k_asm); (case kF => k_asm); (case kX => k_asm); (case kN => first | k_asm | exact news_tl (by k_asm) | exact news_tl (news_tl (by k_asm))); (case kT => k_asm); (case kk => first | exact rfl | assumption);  (case kd => ktr_room); (case ku => ktr_units); k_whole); intro v9 n9 h9 tk9 F9 N9 p9; refine goal_gen ?_; intro GG9 kGG9; obtain ⟨e9, y9, t9, p9, hy9⟩ := p9; refine kGG9 ?_; clear kGG9 GG9; (have e9 := e9.symm); subst e9; subst p9; (try dsimp only); (try k_sweep))
  exact trivial
example : True := by
  k_with "FinE" => ((unfold LCg.FinE); intro D' h' tk' F' N' o1'; (have o2' := off1_all o1'); (try dsimp only))
  exact trivial
example : True := by
  k_with "call builtin:str.join" => (k_here; (with_reducible show wpAny _ _ (call (Value.builtin "str.join") [Value.str _ _, Value.ref _]) _ _ _); k_dflt (refine' join_list ?j1 ?j2 ?j3 ?_; (case j1 => is_list); (case j2 => exact hw1); (case j3 => exact hw5); k_whole); intro t8 k8)
  exact trivial
example : True := by
  k_with "call ref" => (k_here; (with_reducible show wpAny _ _ (PySem.call (Value.ref 144) _) _ _ _); k_dflt (refine' Ct.use (syntax_fresh ) ?kB ?kF ?kX ?kN ?kT ?kk ?kd ?ku ?_; (case kB => k_asm); (case kF => k_asm); (case kX => k_asm); (case kN => first | k_asm | exact news_tl (by k_asm) | exact news_tl (news_tl (by k_asm))); (case kT => k_asm); (case kk => first | exact rfl | assumption);  (case kd => ktr_room); (case ku => ktr_units); k_whole); intro v9 n9 h9 tk9 F9 N9 p9; refine goal_gen ?_; intro GG9 kGG9; obtain ⟨yy, yd, yn, yh1, yh2, yh3, yk1, yk2, yk3, p8, e9, yl1, yl2⟩ := p9; refine kGG9 ?_; clear kGG9 GG9; subst p8; subst e9; (try dsimp only); (try k_sweep))
  exact trivial
example : True := by
  k_with "storeName" => (k_here; (with_reducible show wpAny _ _ (storeName _ _ (Value.str _ (Shared.toks _))) _ _ _); (refine genSS ?_; intro t7))
  exact trivial
example : True := by
  k_with "storeName" => (k_here; (with_reducible show wpAny _ _ (storeName _ _ (Value.int _ (Shared.toks _))) _ _ _); (refine genSI ?_; intro t7))
  exact trivial
example : True := by
  k_with "execs cons" => (k_here; (with_reducible show wpAny _ _ (execs (_ :: _) _) _ _ (Shared.mk _ _ _ (_ + _) _)); (refine genTok ?_; intro tk7))
  exact trivial
example : True := by
  k_with "TextSrcU" => (focus (k_here; (refine' comp_textU (RdJ) ?ts1 ?ts2 ?ts3 ?ts4 ?ts5 ?_ ?_; (case ts1 => exact rfl); (case ts2 => k_asm); (case ts3 => k_asm); (case ts4 => exact rd_len (by assumption) hx2); (case ts5 => exact rd_0)); (intro g9 i9 ys9 c9 t9 I9 oI9 C9 oC9 D9 m9 h' tk' E9 hi9 hj9 hc9 hC9 hx9 F' N' off9 ne9; (obtain ⟨of1, of2, of3⟩ := off3_all off9)); rotate_left; (intro g9 ys9 hj9; obtain ⟨bs9, hb1, hb2⟩ := hj9); rotate_left))
  exact trivial
example : True := by
  k_with "TurnEnd" => (((refine' TurnEnd.intro ?te1 ?te2 ?te3; (case te1 => k_asm); (case te2 => k_asm); (case te3 => ((try dsimp only); first | exact rd_true hj9 (rd_in (by assumption)) | exact rd_true hj9 (rd_sp hc9 hFl (by assumption)) | exact rd_true hj9 rfl)))))
  exact trivial
example : True := by
  k_with "call builtin:all" => (k_here; (with_reducible show wpAny _ _ (call (Value.builtin "all") [Value.ref _]) _ _ _); k_dflt (refine' LSm.all_bools ?al1 ?al2 ?al3 ?al4 ?al5 ?_; (case al1 => k_asm); (case al2 => k_asm); (case al3 => exact rfl); (case al4 => is_list); (case al5 => exact hb1); k_whole); intro h' tk' F' N'; rw [hb2])
  exact trivial
theorem genSS {M : Model} {A : Around} {E : Value → Shared → Prop} {Q : Unit → Shared → Prop} {env : Env} {n x : Str} {t : Tok} {s : Shared} (h : ∀ t', wpAny M A (storeName env n (.str x t')) Q E s) : wpAny M A (storeName env n (.str x t)) Q E s := h t
theorem genSI {M : Model} {A : Around} {E : Value → Shared → Prop} {Q : Unit → Shared → Prop} {env : Env} {n : Str} {x : Int} {t : Tok} {s : Shared} (h : ∀ t', wpAny M A (storeName env n (.int x t')) Q E s) : wpAny M A (storeName env n (.int x t)) Q E s := h t
open LSm in
def RdJ (_ : Nat) (ys : List Value) : Prop := ∃ bs : List Bool, BoolsAre ys bs ∧ bs.all id = true
open LSm in
theorem rd_0 : RdJ 0 [] := ⟨[], .nil, rfl⟩
open LSm in
theorem bools_app {vs us : List Value} {bs cs : List Bool} (h : BoolsAre vs bs) (h' : BoolsAre us cs) : BoolsAre (vs ++ us) (bs ++ cs) := by
  induction h with
  | nil => exact h'
  | cons b _ ih => exact .cons b ih
theorem rd_true {i : Nat} {ys : List Value} {b : Bool} (h : RdJ i ys) (hb : b = true) : RdJ (i + 1) (ys ++ [.bool b]) := by
  obtain ⟨bs, h1, h2⟩ := h
  subst hb
  exact ⟨bs ++ [true], bools_app h1 (.cons _ .nil), by rw [List.all_append, h2]; rfl⟩
theorem news_drop3 {h₀ h : Heap} {L : Addr} {a b c : Addr × Obj} {l : List (Addr × Obj)} (N : News h₀ L h (a :: b :: c :: l)) : News h₀ L h (a :: b :: l) := fun p hp => N p (by simp only [List.mem_cons] at hp ⊢; rcases hp with h | h | h <;> simp [h])
theorem rd_len {x : Str} (h : (Txt.slice x (some 2) none).length ≤ x.length) (h8 : x.length ≤ 8) : (Txt.slice x (some 2) none).cps.size ≤ sizeLine := by
  rw [sizeLine_eq]
  exact Nat.le_trans h (by omega)
theorem rd_in {b : Bool} (h : b = false) : (!b) = true := by rw [h]; rfl
theorem rd_sp {x : Str} {i c : Nat} (hc : (Txt.slice x (some 2) none).cps[i]? = some c) (hFl : ∀ c ∈ (Txt.slice x (some 2) none).cps.toList, c ∈ (Str.ofString "1234bcnp").cps.toList ∨ c = 32)
    (ho : (Builtin.Str.occurrences (Str.ofString "1234bcnp") ⟨#[c]⟩ 0 (Str.ofString "1234bcnp").length 1).isEmpty = true) : ((⟨#[c]⟩ : Str) == Str.ofString " ") = true := by
  have hm : c ∈ (Txt.slice x (some 2) none).cps.toList := by
    rw [← Array.getElem?_toList] at hc
    exact List.mem_of_getElem? hc
  rcases hFl c hm with h | h
  · have z := StrLaws.found_one (Str.ofString "1234bcnp") c
    rw [ho, decide_eq_true h] at z; cases z
  · subst h; decide +kernel
/-- what a description tells of the syntax that is made of it -/
def SyDict (x : Str) (dd : Obj) : Prop := ∃ (n : Nat) (h1 h2 h3 : Int) (k1 k2 k3 t1 t2 : Tok) (mv : Value) (fl : Str),
  dd = dictOf [⟨h1, .str (Str.ofString "kind") k1, .str (Txt.item x 0) t1⟩, ⟨h2, .str (Str.ofString "match") k2, mv⟩, ⟨h3, .str (Str.ofString "flags") k3, .str fl t2⟩] n ∧ (Txt.slice x (some 2) none = Str.ofString "" → fl = Str.ofString "")
def SyTold (x : Str) (news : List (Addr × Obj)) (r : Value) (news' : List (Addr × Obj)) : Prop :=
  ∃ (y yd : Addr) (dd : Obj), r = .ref y ∧ news' = (y, instObj 144 yd) :: (yd, dd) :: news ∧ SyDict x dd ∧ (∀ q ∈ news, q.1 < yd) ∧ @LT.lt Nat _ yd y
def SyOk (x : Str) : Prop := 1 ≤ x.length ∧ x.length ≤ 8 ∧ (x == Str.ofString "") = false ∧ (Txt.item x 0 == Str.ofString "-") = false ∧
  (Builtin.Str.occurrences (Str.ofString " w_.()'\"\\/$<>@!|") (Txt.item x 0) 0 (Str.ofString " w_.()'\"\\/$<>@!|").length 1).isEmpty = false ∧ ∀ c ∈ (Txt.slice x (some 2) none).cps.toList, c ∈ (Str.ofString "1234bcnp").cps.toList ∨ c = 32
theorem read_syntax {news : List (Addr × Obj)} {x : Str} {t1 : Tok} (hx : SyOk x) :
    Ct prog w mean mg mb 158 14 news [.str x t1] (SyTold x news) := by
  obtain ⟨hx1, hx2, hx0, hD, hK, hFl⟩ := hx
  have hcase : x.length < 2 ∨ (¬ x.length < 2 ∧ (Txt.item x 1 == Str.ofString " ") = true) ∨ (¬ x.length < 2 ∧ (Txt.item x 1 == Str.ofString " ") = false) := by
    by_cases hA : x.length < 2
    · exact .inl hA
    · cases hB : (Txt.item x 1 == Str.ofString " ")
      · exact .inr (.inr ⟨hA, rfl⟩)
      · exact .inr (.inl ⟨hA, rfl⟩)
  rcases hcase with hA | ⟨hA, hB⟩ | ⟨hA, hB⟩
  all_goals (
    intro c00 A₀ base h₀ L m sHp sGn sDr sTk sOs Q E B F X N T hk hd hu hret
    refine wpAny_call ?_
    k_dflt (refine' code_def (binds := [(Str.ofString "text", Value.str x t1)]) ?k1 ?k2 ?k3 ?k4 ?k5 ?kA ?kF ?kK ?k6 ?k7 ?k8 ?k9 ?kB ?_ ?c2 ?c3 ?c4 ?c5; (case kA => exact rfl); (case kF => exact rfl); (case kK => first | exact rfl | assumption); (case k1 => k_asm); (case k2 => k_asm); (case k3 => k_asm); (case k4 => k_asm); (case k5 => k_asm); (case k6 => k_is); (case k7 => k_is); (case k8 => ktr_room); (case k9 => first | exact BindsTo.of_eq rfl | exact binds_K (by k_in) rfl (by k_is) rfl rfl rfl); (case c5 => decide); (case kB => exact locs rfl); (case c2 => exact rfl); (case c3 => exact rfl); (case c4 => exact rfl); k_whole; intro g' L' h' FG' F' N' B' X' T'; (try dsimp only); (try k_lift B'); (try k_fold))
    k_steps

    all_goals (first | ((rename News _ _ _ _ => nE); (refine hret _ _ _ _ ?e1 (news_drop3 nE) ⟨yy, yd, _, rfl, rfl, ⟨_, _, _, _, _, _, _, _, _, _, _, rfl, hy9⟩, (fun q9 hq9 => yl1 q9 (List.mem_cons_of_mem _ hq9)), yl2⟩; (case e1 => k_asm))) | trace_state))
example : True := by
  k_with_none
  w_top off
  exact trivial
example : True := by
  k_with "mroom" => with_unfolding_all first | ((rename (_ + _ < recursionLimit) => hZq7); first | exact room_lt hZq7 0 rfl rfl | exact room_lt hZq7 1 rfl rfl | exact room_lt hZq7 2 rfl rfl | exact room_lt hZq7 3 rfl rfl | exact room_lt hZq7 4 rfl rfl | exact room_lt hZq7 5 rfl rfl | exact room_lt hZq7 6 rfl rfl | exact room_lt hZq7 7 rfl rfl | exact room_lt hZq7 8 rfl rfl | exact room_lt hZq7 9 rfl rfl | exact room_lt hZq7 10 rfl rfl | exact room_lt hZq7 11 rfl rfl | exact room_lt hZq7 12 rfl rfl | exact room_lt hZq7 13 rfl rfl | exact room_lt hZq7 14 rfl rfl | exact room_lt hZq7 15 rfl rfl) | exact lt_ble rfl | fail "mroom"
  exact trivial
example : True := by
  k_with "munits" => with_unfolding_all first | ((rename (_ + _ + _ < cLine) => hZq7); first | exact unit_lt2 hZq7 0 rfl rfl | exact unit_lt2 hZq7 3 rfl rfl | exact unit_lt2 hZq7 6 rfl rfl | exact unit_lt2 hZq7 9 rfl rfl | exact unit_lt2 hZq7 12 rfl rfl | exact unit_lt hZq7 0 rfl rfl | exact unit_lt hZq7 3 rfl rfl | exact unit_lt hZq7 6 rfl rfl | exact unit_lt hZq7 9 rfl rfl | exact unit_lt hZq7 12 rfl rfl) | exact lt_ble rfl | fail "munits"
  exact trivial
example : True := by
  k_with "mne" => (refine neN ?_; (try dsimp only); first | assumption | exact Ne.symm (by assumption) | exact Nat.ne_of_lt (by assumption) | exact Nat.ne_of_gt (by assumption) | fail "mne")
  exact trivial
/-- what the rows of a table tell of the signs of Alpha -/
def RowsT (f : Int → Option String) (kvs : List (Int × Value)) (news : List (Addr × Obj)) : Prop := ∀ c, Alpha c → (f c = none → valueAt kvs c = none) ∧ ∀ kd, f c = some kd → ∃ y, valueAt kvs c = some (.ref y) ∧ SynIn news y kd
def fillT (f : Int → Option String) (x : Str) (kd : String) : Int → Option String := fun c => if c ∈ KStt.codes x then some kd else f c
def SignsOk (x dsc : Str) (kd : String) : Prop := ∀ c ∈ KStt.codes x, Alpha c → Txt.slice dsc (some 2) none = Str.ofString "" ∧ Txt.item dsc 0 = Str.ofString kd
theorem valueAt_stored (k : Int) (v : Value) (c : Int) : ∀ kvs : List (Int × Value), valueAt (stored kvs k v) c = if c = k then some v else valueAt kvs c := by
  intro kvs
  have hmap : ∀ l : List (Int × Value), valueAt (l.map fun kv => if kv.1 = k then (kv.1, v) else kv) c = if c = k ∧ (l.any (fun kv => kv.1 = k) = true) then some v else valueAt l c := by
    intro l
    induction l with
    | nil => simp [valueAt]
    | cons a r ih =>
      unfold valueAt at ih ⊢
      rw [List.map_cons, List.find?_cons, List.find?_cons, List.any_cons]
      by_cases h1 : a.1 = k
      · by_cases h2 : a.1 = c
        · have h3 : c = k := by rw [← h2, h1]
          simp [h3, h1]
        · have h3 : ¬ c = k := fun e => h2 (by rw [h1, e])
          simp only [h1, if_true, h3, false_and, if_false]
          have h4 : ¬ k = c := fun e => h3 e.symm
          simp only [h4, decide_false]
          rw [ih]
          simp [h3]
      · simp only [h1, if_false, decide_false, Bool.false_or]
        by_cases h2 : a.1 = c
        · have h3 : ¬ c = k := fun e => h1 (by rw [h2, e])
          simp [h2, h3]
        · simp only [h2, decide_false]
          rw [ih]
  unfold stored
  split
  · rename_i h
    rw [hmap]
    simp [h]
  · rename_i h
    unfold valueAt
    rw [List.find?_append]
    by_cases h1 : c = k
    · subst h1
      have : kvs.find? (fun kv => kv.1 = c) = none := by
        rw [List.find?_eq_none]
        intro a ha e
        exact h (List.any_eq_true.mpr ⟨a, ha, e⟩)
      simp [this]
    · have h4 : ¬ k = c := fun e => h1 e.symm
      simp [h1, h4]
/-- the rows so far, filled for the first signs of a text -/
def FillP (kvs : List (Int × Value)) (y : Addr) (pre : List Int) (kvs9 : List (Int × Value)) : Prop := (∀ c, valueAt kvs9 c = if c ∈ pre then some (.ref y) else valueAt kvs c) ∧ kvs9.length ≤ kvs.length + pre.length
theorem fillP_0 {kvs : List (Int × Value)} {y : Addr} : FillP kvs y [] kvs := ⟨fun c => by simp, Nat.le_refl _⟩
theorem fillP_next {kvs kvs9 : List (Int × Value)} {y : Addr} {pre : List Int} {n : Int} (h : FillP kvs y pre kvs9) : FillP kvs y (pre ++ [n]) (stored kvs9 n (.ref y)) := by
  refine ⟨fun c => ?_, ?_⟩
  · rw [valueAt_stored, h.1 c]
    by_cases h1 : c = n <;> by_cases h2 : c ∈ pre <;> simp [h1, h2]
  · have := stored_length_le kvs9 n (.ref y)
    have := h.2
    rw [List.length_append, List.length_singleton]; omega
theorem SyDict.cls {x : Str} {dd : Obj} (h : SyDict x dd) : dd.cls = .type "dict" := by
  obtain ⟨n, a, b, c, k1, k2, k3, t1, t2, mv, fl, rfl, hf⟩ := h
  rfl
theorem SyDict.syn {x : Str} {dd : Obj} {y yd : Addr} {news : List (Addr × Obj)} {kd : String} (h : SyDict x dd) (h1 : Txt.slice x (some 2) none = Str.ofString "") (h2 : Txt.item x 0 = Str.ofString kd) : SynIn ((y, instObj 144 yd) :: (yd, dd) :: news) y kd := by
  obtain ⟨n, a, b, c, k1, k2, k3, t1, t2, mv, fl, rfl, hf⟩ := h
  rw [hf h1, h2]
  exact ⟨yd, n, a, b, c, k1, k2, k3, t1, t2, mv, .head _, .tail _ (.head _)⟩
theorem RowsT.fill {f : Int → Option String} {kvs kvs' : List (Int × Value)} {news : List (Addr × Obj)} {x dsc : Str} {dd : Obj} {y yd : Addr} {kd : String} (h : RowsT f kvs news) (hf : FillP kvs y (KStt.codes x) kvs') (hd : SyDict dsc dd) (hs : SignsOk x dsc kd) :
    RowsT (fillT f x kd) kvs' ((y, instObj 144 yd) :: (yd, dd) :: news) := by
  intro c hc
  obtain ⟨h1, h2⟩ := h c hc
  unfold fillT
  rw [hf.1 c]
  by_cases hm : c ∈ KStt.codes x
  · rw [if_pos hm, if_pos hm]
    refine ⟨fun e => (by cases e), fun kd' e => ?_⟩
    obtain ⟨e1, e2⟩ := hs c hm hc
    have e3 : kd = kd' := Option.some.inj e
    subst e3
    exact ⟨y, rfl, hd.syn e1 e2⟩
  · rw [if_neg hm, if_neg hm]
    refine ⟨h1, fun kd' e => ?_⟩
    obtain ⟨y', e1, e2⟩ := h2 kd' e
    exact ⟨y', e1, e2.mono fun p hp => .tail _ (.tail _ hp)⟩
section
variable {A : Around} {E : Value → Shared → Prop} {s : Shared} {env : Env} {h₀ : Heap} {x : Str} {body : List Stmt} {L : Addr} {m : Str → Option Value} {news rest : List (Addr × Obj)}
/-- a turn of a loop that fills a table is over -/
def FillEnd (prog : Program) (w : World) (h₀ : Heap) (L : Addr) (s : Shared) (x : Str) (m₀ : Str → Option Value) (rr : Addr) (rest9 : List (Addr × Obj)) (P : List (Int × Value) → Prop) (s₂ : Shared) : Prop :=
  ∃ h' tk m' o' kvs', s₂ = { s with heap := h', toks := tk } ∧ Fr h₀ L h' m' ∧ News h₀ L h' ((rr, o') :: rest9) ∧ o'.IsDictOf (intKind prog w) kvs' ∧ P kvs' ∧ ∀ z, z ≠ x → m' z = m₀ z
theorem FillEnd.intro {m₀ m' : Str → Option Value} {rr : Addr} {rest9 : List (Addr × Obj)} {P : List (Int × Value) → Prop} {o' : Obj} {kvs' : List (Int × Value)} {h' : Heap} {tk : Nat} (F : Fr h₀ L h' m') (N : News h₀ L h' ((rr, o') :: rest9)) (hd : o'.IsDictOf (intKind prog w) kvs') (hp : P kvs') (hm : ∀ z, z ≠ x → m' z = m₀ z) :
    FillEnd prog w h₀ L s x m₀ rr rest9 P { s with heap := h', toks := tk } := ⟨h', tk, m', o', kvs', rfl, F, N, hd, hp, hm⟩
theorem for_fill {Q : Flow → Shared → Prop} {xt : Str} {tx : Tok} {m₀ : Str → Option Value} {rr : Addr} {o : Obj} {kvs : List (Int × Value)} (P : List Int → List (Int × Value) → Prop) (hh : A.handled = none) (F : Fr h₀ env.locals s.heap m₀) (N : News h₀ env.locals s.heap ((rr, o) :: rest)) (hd : o.IsDictOf (intKind prog w) kvs) (hr : ∀ q ∈ rest, q.1 ≠ rr) (hp : P [] kvs)
    (turn : ∀ pre post (n : Nat) t h tk o9 kvs9 rest9, KStt.codes xt = pre ++ (n : Int) :: post → P pre kvs9 → o9.IsDictOf (intKind prog w) kvs9 → (∀ q ∈ rest, q ∈ rest9) → (∀ q ∈ rest9, q.1 ≠ rr) → Fr h₀ env.locals h (fun y => if y = x then some (.str ⟨#[n]⟩ t) else m₀ y) → News h₀ env.locals h ((rr, o9) :: rest9) →
      wpAny (model prog w) A (execs body env) (SPost Q (FillEnd prog w h₀ env.locals s x m₀ rr rest9 (P (pre ++ [(n : Int)])))) E { s with heap := h, toks := tk })
    (done : ∀ (u : Str → Option Value) h tk o9 kvs9, P (KStt.codes xt) kvs9 → o9.IsDictOf (intKind prog w) kvs9 → Fr h₀ env.locals h (fun y => if y = x then u y else m₀ y) → News h₀ env.locals h ((rr, o9) :: rest) → Q .next { s with heap := h, toks := tk }) :
    wpAny (model prog w) A (pyIter (.str xt tx)) (fun it s₂ => LoopAtV prog w A h₀ env x body Q E it s₂) E s := by
  refine KStt.kst_text (σ := Obj × List (Int × Value)) (fun c => (rr, c.1) :: rest) (fun _ => []) (fun c => c.1.IsDictOf (intKind prog w) c.2) [] (fun pre c => P pre c.2) (o, kvs) hh F N hd (fun p hp => nomatch hp) hp ?_ ?_
  · rintro ⟨o9, kvs9⟩ pre post n t u h tk own e hoff hd9 hP F₁ N₁
    have hoff' : ∀ q ∈ rest ++ own, q.1 ≠ rr := by
      intro q hq
      rcases List.mem_append.mp hq with hq | hq
      · exact hr q hq
      · exact hoff q hq rr (List.mem_cons_self)
    refine wpAny_mono (turn pre post n t h tk o9 kvs9 (rest ++ own) e hP hd9 (fun q hq => List.mem_append_left _ hq) hoff' F₁ N₁) (fun f s₂ z => ?_) fun _ _ z => z
    have up : FillEnd prog w h₀ env.locals s x m₀ rr (rest ++ own) (P (pre ++ [(n : Int)])) s₂ → InvEndN h₀ env.locals (KstS (fun c : Obj × List (Int × Value) => (rr, c.1) :: rest) (fun _ => []) (fun c => c.1.IsDictOf (intKind prog w) c.2) x [] m₀ (fun pre c => P pre c.2) (pre ++ [(n : Int)])) own (((rr, o) :: rest).map (·.1)) { s with heap := h, toks := tk } s₂ := by
      rintro ⟨h', tk', m', o', kvs', rfl, F', N', hd', g, hm⟩
      exact ⟨h', tk', m', (rr, o') :: (rest ++ own), (rr, o') :: rest, rfl, F', N', fun q hq => List.mem_append_left (as := (rr, o') :: rest) _ hq, fun q hq => List.mem_append_right ((rr, o') :: rest) hq, rfl, (o', kvs'), rfl, hd', (fun p hp => nomatch hp), (fun z h1 _ h3 => hm z h1), g⟩
    cases f with
    | ret v => exact z
    | brk => exact z
    | next => exact up z
    | cont => exact up z
  · rintro ⟨o9, kvs9⟩ u h tk hd9 hP F₁ N₁
    exact done u h tk o9 kvs9 hP hd9 F₁ N₁
end
example : True := by
  k_with_none
  w_top off
  exact trivial
example : True := by
  k_with "mroom" => with_unfolding_all first | ((rename (_ + _ < recursionLimit) => hZq7); first | exact room_lt hZq7 0 rfl rfl | exact room_lt hZq7 1 rfl rfl | exact room_lt hZq7 2 rfl rfl | exact room_lt hZq7 3 rfl rfl | exact room_lt hZq7 4 rfl rfl | exact room_lt hZq7 5 rfl rfl | exact room_lt hZq7 6 rfl rfl | exact room_lt hZq7 7 rfl rfl | exact room_lt hZq7 8 rfl rfl | exact room_lt hZq7 9 rfl rfl | exact room_lt hZq7 10 rfl rfl | exact room_lt hZq7 11 rfl rfl | exact room_lt hZq7 12 rfl rfl | exact room_lt hZq7 13 rfl rfl | exact room_lt hZq7 14 rfl rfl | exact room_lt hZq7 15 rfl rfl) | exact lt_ble rfl | fail "mroom"
  exact trivial
example : True := by
  k_with "munits" => with_unfolding_all first | ((rename (_ + _ + _ < cLine) => hZq7); first | exact unit_lt2 hZq7 0 rfl rfl | exact unit_lt2 hZq7 3 rfl rfl | exact unit_lt2 hZq7 6 rfl rfl | exact unit_lt2 hZq7 9 rfl rfl | exact unit_lt2 hZq7 12 rfl rfl | exact unit_lt hZq7 0 rfl rfl | exact unit_lt hZq7 3 rfl rfl | exact unit_lt hZq7 6 rfl rfl | exact unit_lt hZq7 9 rfl rfl | exact unit_lt hZq7 12 rfl rfl) | exact lt_ble rfl | fail "munits"
  exact trivial
example : True := by
  k_with "mne" => (refine neN ?_; (try dsimp only); first | assumption | exact Ne.symm (by assumption) | exact Nat.ne_of_lt (by assumption) | exact Nat.ne_of_gt (by assumption) | fail "mne")
  exact trivial
example : True := by
  k_with "call ref" => (k_here; (with_reducible show wpAny _ _ (PySem.call (Value.ref 158) _) _ _ _); k_dflt (refine' Ct.use (read_syntax ?hx) ?kB ?kF ?kX ?kN ?kT ?kk ?kd ?ku ?_; (case kB => k_asm); (case kF => k_asm); (case kX => k_asm); (case kN => first | k_asm | exact news_tl (by k_asm) | exact news_tl (news_tl (by k_asm))); (case kT => k_asm); (case kk => first | exact rfl | assumption); (case hx => assumption); (case kd => ktr_room); (case ku => ktr_units); k_whole); intro v9 n9 h9 tk9 F9 N9 p9; unfold SyTold at p9; refine goal_gen ?_; intro GG9 kGG9; obtain ⟨y9, yd9, dd9, e9, p8, sd9, sl9, sl8⟩ := p9; refine kGG9 ?_; clear kGG9 GG9; subst p8; subst e9; (try dsimp only); (try k_sweep))
  exact trivial
example : True := by
  k_with "exec For" => (k_here; k_dflt (refine For_invV g' (by rfl) (by rfl) ?_))
  exact trivial
example : True := by
  k_with "pyIter str" => (focus (k_here; (( (with_unfolding_all (refine' for_fill (fun pre kvs9 => FillP kvs y9 pre kvs9) ?ff1 ?ff2 ?ff3 ?ff4 ?ff5 ?ff6 ?_ ?_; (case ff1 => exact rfl); (case ff2 => k_asm); (case ff3 => ((rename News _ _ _ _ => nE); exact ma_news nE)); (case ff4 => exact hdc); (case ff5 => exact ma_off hr sl9 sl8); (case ff6 => exact fillP_0))); (intro pre9 post9 c9 t9 h' tk' o9 kvs9 rest9 e9 hP9 hd9 hsub9 hoff9 F' N'; (have hm91 := ma_sub hsub9 hT); (have hm92 := ma_sub hsub9 hD); (have hz9 := ma_len hz e9 hP9); (try k_fold)); rotate_left; (intro u' h' tk' o9 kvs9 hP9 hd9 F' N'; (try k_fold)); rotate_left))))
  exact trivial
example : True := by
  k_with "setItem ref int" => (k_here; ((with_reducible show wpAny _ _ (setItem (Value.ref _) (Value.int _ _) (Value.ref _)) _ _ _); k_dflt (refine' kda_set (knd := PySem.intKind _ _) ?sF ?sN ?sU ?sd (intKind_is _ _ _ _) ?sz ?_; (case sF => k_asm); (case sN => k_asm); (case sU => exact .head hoff9); (case sd => exact hd9); (case sz => exact hz9)); intro h' o' F' N' hd'; (try dsimp only at N')))
  exact trivial
example : True := by
  k_with "FillEnd" => ((refine' FillEnd.intro ?fe1 ?fe2 ?fe3 ?fe4 ?fe5; (case fe1 => k_asm); (case fe2 => k_asm); (case fe3 => exact hd'); (case fe4 => exact fillP_next hP9); (case fe5 => intro z9 hz9; first | exact if_neg hz9 | simp [hz9])))
  exact trivial
example : True := by
  k_with "SPost" => (dsimp only [SPost])
  exact trivial
theorem ma_news {h₀ h : Heap} {L : Addr} {a b c : Addr × Obj} {l : List (Addr × Obj)} (N : News h₀ L h (a :: b :: c :: l)) : News h₀ L h (c :: a :: b :: l) := fun p hp => N p (by simp only [List.mem_cons] at hp ⊢; rcases hp with h | h | h | h <;> simp [h])
theorem ma_off {rest : List (Addr × Obj)} {rr y yd : Addr} {o oy dd : Obj} (hr : ∀ q ∈ rest, q.1 ≠ rr) (hl : ∀ q ∈ (rr, o) :: rest, q.1 < yd) (h2 : @LT.lt Nat _ yd y) : ∀ q ∈ (y, oy) :: (yd, dd) :: rest, q.1 ≠ rr := by
  have h1 : @LT.lt Nat _ rr yd := hl _ (.head _)
  intro q hq
  rcases List.mem_cons.mp hq with rfl | hq
  · exact fun e => Nat.lt_irrefl _ (Nat.lt_trans (e ▸ h2) h1)
  · rcases List.mem_cons.mp hq with rfl | hq
    · exact fun e => Nat.lt_irrefl _ (e ▸ h1)
    · exact hr q hq
theorem ma_sub {a b c : Addr × Obj} {rest rest9 : List (Addr × Obj)} (h : ∀ q ∈ a :: b :: rest, q ∈ rest9) (hc : c ∈ rest) : c ∈ rest9 := h _ (.tail _ (.tail _ hc))
theorem ma_len {kvs kvs9 : List (Int × Value)} {x : Str} {y : Addr} {pre post : List Int} {n : Int} (hz : kvs.length + x.length ≤ 1000) (e : KStt.codes x = pre ++ n :: post) (hP : FillP kvs y pre kvs9) : kvs9.length ≤ sizeLine := by
  have h1 : x.length = (pre ++ n :: post).length := by rw [← e, KStt.codes_length]
  rw [List.length_append] at h1
  have := hP.2
  rw [sizeLine_eq]; omega
theorem ma_size {kvs kvs9 : List (Int × Value)} {x : Str} {y : Addr} (hP : FillP kvs y (KStt.codes x) kvs9) : kvs9.length ≤ kvs.length + x.length := by
  have := hP.2
  rwa [KStt.codes_length] at this
theorem modify_all {rest K : List (Addr × Obj)} {t td rr : Addr} {o : Obj} {n : Nat} {h1 h2 : Int} {k1 k2 tx tD : Tok} {pv : Value} {kvs : List (Int × Value)} {f : Int → Option String} {x dsc : Str} {kd : String}
    (hT : (t, instObj 225 td) ∈ rest) (hD : (td, dictOf [⟨h1, .str (Str.ofString "parent") k1, pv⟩, ⟨h2, .str (Str.ofString "rows") k2, .ref rr⟩] n) ∈ rest) (hr : ∀ q ∈ rest, q.1 ≠ rr) (hdc : o.IsDictOf (intKind prog w) kvs) (hK : RowsT f kvs K)
    (hx : SyOk dsc) (hE : SignsOk x dsc kd) (hz : kvs.length + x.length ≤ 1000) :
    Ct prog w mean mg mb 187 16 ((rr, o) :: rest) [.ref t, .str x tx, .str dsc tD] (fun r news' => r = .none ∧ ∃ (y yd : Addr) (dd o' : Obj) (kvs' : List (Int × Value)), news' = (rr, o') :: (y, instObj 144 yd) :: (yd, dd) :: rest ∧ o'.IsDictOf (intKind prog w) kvs' ∧ RowsT (fillT f x kd) kvs' ((y, instObj 144 yd) :: (yd, dd) :: K) ∧ kvs'.length ≤ kvs.length + x.length ∧ (∀ q ∈ (y, instObj 144 yd) :: (yd, dd) :: rest, q.1 ≠ rr) ∧ (∀ q ∈ rest, q.1 < yd) ∧ @LT.lt Nat _ yd y ∧ dd.cls = .type "dict") := by
  intro c00 A₀ base h₀ L m sHp sGn sDr sTk sOs Q E B F X N T hk hd hu hret
  refine wpAny_call ?_
  k_dflt (refine' code_def (binds := [(Str.ofString "self", Value.ref t), (Str.ofString "text", Value.str x tx), (Str.ofString "description", Value.str dsc tD)]) ?k1 ?k2 ?k3 ?k4 ?k5 ?kA ?kF ?kK ?k6 ?k7 ?k8 ?k9 ?kB ?_ ?c2 ?c3 ?c4 ?c5; (case kA => exact rfl); (case kF => exact rfl); (case kK => first | exact rfl | assumption); (case k1 => k_asm); (case k2 => k_asm); (case k3 => k_asm); (case k4 => k_asm); (case k5 => k_asm); (case k6 => k_is); (case k7 => k_is); (case k8 => ktr_room); (case k9 => first | exact BindsTo.of_eq rfl | exact binds_K (by k_in) rfl (by k_is) rfl rfl rfl); (case c5 => decide); (case kB => exact locs rfl); (case c2 => exact rfl); (case c3 => exact rfl); (case c4 => exact rfl); k_whole; intro g' L' h' FG' F' N' B' X' T'; (try dsimp only); (try k_lift B'); (try k_fold))
  k_steps

  all_goals (first | (refine' hret _ _ _ _ ?e1 ?e2 ⟨rfl, _, _, _, _, _, rfl, hd9, hK.fill hP9 sd9 hE, ma_size hP9, ma_off hr sl9 sl8, (fun q9 hq9 => sl9 q9 (List.mem_cons_of_mem _ hq9)), sl8, sd9.cls⟩; (case e1 => k_asm); (case e2 => k_asm)) | trace_state)
example : True := by
  k_with_none
  w_top off
  exact trivial
example : True := by
  k_with "mroom" => with_unfolding_all first | ((rename (_ + _ < recursionLimit) => hZq7); first | exact room_lt hZq7 0 rfl rfl | exact room_lt hZq7 1 rfl rfl | exact room_lt hZq7 2 rfl rfl | exact room_lt hZq7 3 rfl rfl | exact room_lt hZq7 4 rfl rfl | exact room_lt hZq7 5 rfl rfl | exact room_lt hZq7 6 rfl rfl | exact room_lt hZq7 7 rfl rfl | exact room_lt hZq7 8 rfl rfl | exact room_lt hZq7 9 rfl rfl | exact room_lt hZq7 10 rfl rfl | exact room_lt hZq7 11 rfl rfl | exact room_lt hZq7 12 rfl rfl | exact room_lt hZq7 13 rfl rfl | exact room_lt hZq7 14 rfl rfl | exact room_lt hZq7 15 rfl rfl) | exact lt_ble rfl | fail "mroom"
  exact trivial
example : True := by
  k_with "munits" => with_unfolding_all first | ((rename (_ + _ + _ < cLine) => hZq7); first | exact unit_lt2 hZq7 0 rfl rfl | exact unit_lt2 hZq7 3 rfl rfl | exact unit_lt2 hZq7 6 rfl rfl | exact unit_lt2 hZq7 9 rfl rfl | exact unit_lt2 hZq7 12 rfl rfl | exact unit_lt hZq7 0 rfl rfl | exact unit_lt hZq7 3 rfl rfl | exact unit_lt hZq7 6 rfl rfl | exact unit_lt hZq7 9 rfl rfl | exact unit_lt hZq7 12 rfl rfl) | exact lt_ble rfl | fail "munits"
  exact trivial
example : True := by
  k_with "mne" => (refine neN ?_; (try dsimp only); first | assumption | exact Ne.symm (by assumption) | exact Nat.ne_of_lt (by assumption) | exact Nat.ne_of_gt (by assumption) | fail "mne")
  exact trivial
theorem letters_told {news : List (Addr × Obj)} : Ct prog w mean mg mb 236 1 news [] (fun r news' => news' = news ∧ ∃ t, r = .str (Str.ofString "abcdefghijklmnopqrstuvwxyzABCDEFGHIJKLMNOPQRSTUVWXYZ0123456789") t) := by
  intro c00 A₀ base h₀ L m sHp sGn sDr sTk sOs Q E B F X N T hk hd hu hret
  refine wpAny_call ?_
  k_dflt (refine' code_def (binds := []) ?k1 ?k2 ?k3 ?k4 ?k5 ?kA ?kF ?kK ?k6 ?k7 ?k8 ?k9 ?kB ?_ ?c2 ?c3 ?c4 ?c5; (case kA => exact rfl); (case kF => exact rfl); (case kK => first | exact rfl | assumption); (case k1 => k_asm); (case k2 => k_asm); (case k3 => k_asm); (case k4 => k_asm); (case k5 => k_asm); (case k6 => k_is); (case k7 => k_is); (case k8 => ktr_room); (case k9 => first | exact BindsTo.of_eq rfl | exact binds_K (by k_in) rfl (by k_is) rfl rfl rfl); (case c5 => decide); (case kB => exact locs rfl); (case c2 => exact rfl); (case c3 => exact rfl); (case c4 => exact rfl); k_whole; intro g' L' h' FG' F' N' B' X' T'; (try dsimp only); (try k_lift B'); (try k_fold))
  k_steps

  all_goals (first | (refine' hret _ news _ _ ?e1 ?e2 ⟨rfl, _, rfl⟩; (case e1 => k_asm); (case e2 => k_asm)) | trace_state)
example : True := by
  k_with_none
  w_top off
  exact trivial
example : True := by
  k_with "mroom" => with_unfolding_all first | ((rename (_ + _ < recursionLimit) => hZq7); first | exact room_lt hZq7 0 rfl rfl | exact room_lt hZq7 1 rfl rfl | exact room_lt hZq7 2 rfl rfl | exact room_lt hZq7 3 rfl rfl | exact room_lt hZq7 4 rfl rfl | exact room_lt hZq7 5 rfl rfl | exact room_lt hZq7 6 rfl rfl | exact room_lt hZq7 7 rfl rfl | exact room_lt hZq7 8 rfl rfl | exact room_lt hZq7 9 rfl rfl | exact room_lt hZq7 10 rfl rfl | exact room_lt hZq7 11 rfl rfl | exact room_lt hZq7 12 rfl rfl | exact room_lt hZq7 13 rfl rfl | exact room_lt hZq7 14 rfl rfl | exact room_lt hZq7 15 rfl rfl) | exact lt_ble rfl | fail "mroom"
  exact trivial
example : True := by
  k_with "munits" => with_unfolding_all first | ((rename (_ + _ + _ < cLine) => hZq7); first | exact unit_lt2 hZq7 0 rfl rfl | exact unit_lt2 hZq7 3 rfl rfl | exact unit_lt2 hZq7 6 rfl rfl | exact unit_lt2 hZq7 9 rfl rfl | exact unit_lt2 hZq7 12 rfl rfl | exact unit_lt hZq7 0 rfl rfl | exact unit_lt hZq7 3 rfl rfl | exact unit_lt hZq7 6 rfl rfl | exact unit_lt hZq7 9 rfl rfl | exact unit_lt hZq7 12 rfl rfl) | exact lt_ble rfl | fail "munits"
  exact trivial
example : True := by
  k_with "mne" => (refine neN ?_; (try dsimp only); first | assumption | exact Ne.symm (by assumption) | exact Nat.ne_of_lt (by assumption) | exact Nat.ne_of_gt (by assumption) | fail "mne")
  exact trivial
example : True := by
  k_with "call ref" => (k_here; (with_reducible show wpAny _ _ (PySem.call (Value.ref 236) _) _ _ _); k_dflt (refine' Ct.use (letters_told ) ?kB ?kF ?kX ?kN ?kT ?kk ?kd ?ku ?_; (case kB => k_asm); (case kF => k_asm); (case kX => k_asm); (case kN => first | k_asm | exact news_tl (by k_asm) | exact news_tl (news_tl (by k_asm))); (case kT => k_asm); (case kk => first | exact rfl | assumption);  (case kd => ktr_room); (case ku => ktr_units); k_whole); intro v9 n9 h9 tk9 F9 N9 p9; refine goal_gen ?_; intro GG9 kGG9; obtain ⟨p8, t9, e9⟩ := p9; refine kGG9 ?_; clear kGG9 GG9; subst p8; subst e9; (try dsimp only); (try k_sweep))
  exact trivial
example : True := by
  k_with "call ref" => (k_here; (with_reducible show wpAny _ _ (PySem.call (Value.ref 187) _) _ _ _); k_dflt (refine' Ct.use (modify_t0 ?hS ?hr ?hx ?hE ?hz) ?kB ?kF ?kX ?kN ?kT ?kk ?kd ?ku ?_; (case kB => k_asm); (case kF => k_asm); (case kX => k_asm); (case kN => first | k_asm | exact news_tl (by k_asm) | exact news_tl (news_tl (by k_asm))); (case kT => k_asm); (case kk => first | exact rfl | assumption); (case hS => assumption); (case hr => assumption); (case hx => exact sy_of (by kernel_rfl)); (case hE => exact signs_of (by kernel_rfl)); (case hz => exact Nat.le_of_ble_eq_true (by kernel_rfl)); (case kd => ktr_room); (case ku => ktr_units); k_whole); intro v9 n9 h9 tk9 F9 N9 p9; refine goal_gen ?_; intro GG9 kGG9; obtain ⟨e9, o9, tr9, p8, S9, hr9, fr9⟩ := p9; refine kGG9 ?_; clear kGG9 GG9; subst e9; subst p8; (try dsimp only); (try k_sweep))
  exact trivial
example : True := by
  k_with "call ref" => (k_here; (with_reducible show wpAny _ _ (PySem.call (Value.ref 187) _) _ _ _); k_dflt (refine' Ct.use (modify_t5 ?hS ?hr ?hx ?hE ?hz) ?kB ?kF ?kX ?kN ?kT ?kk ?kd ?ku ?_; (case kB => k_asm); (case kF => k_asm); (case kX => k_asm); (case kN => first | k_asm | exact news_tl (by k_asm) | exact news_tl (news_tl (by k_asm))); (case kT => k_asm); (case kk => first | exact rfl | assumption); (case hS => assumption); (case hr => first | assumption | exact hr_cons hO9 (by assumption)); (case hx => exact sy_of (by kernel_rfl)); (case hE => exact signs_of (by kernel_rfl)); (case hz => exact Nat.le_of_ble_eq_true (by kernel_rfl)); (case kd => ktr_room); (case ku => ktr_units); k_whole); intro v9 n9 h9 tk9 F9 N9 p9; refine goal_gen ?_; intro GG9 kGG9; obtain ⟨e9, o9, tr9, p8, S9, hr9, fr9⟩ := p9; refine kGG9 ?_; clear kGG9 GG9; subst e9; subst p8; (have hO8 := off_tr hO9 fr9 o9); clear hO9; (have hO9 := hO8); clear hO8; (try dsimp only); (try k_sweep))
  exact trivial
example : True := by
  k_with "call ref" => (k_here; (with_reducible show wpAny _ _ (PySem.call (Value.ref 225) _) _ _ _); k_dflt (refine' Ct.use (tab_made0 ) ?kB ?kF ?kX ?kN ?kT ?kk ?kd ?ku ?_; (case kB => k_asm); (case kF => k_asm); (case kX => k_asm); (case kN => first | k_asm | exact news_tl (by k_asm) | exact news_tl (news_tl (by k_asm))); (case kT => k_asm); (case kk => first | exact rfl | assumption);  (case kd => ktr_room); (case ku => ktr_units); k_whole); intro v9 n9 h9 tk9 F9 N9 p9; refine goal_gen ?_; intro GG9 kGG9; obtain ⟨tt, td, rr, o9, tn, th1, th2, tk1, tk2, tr9, e9, p8, S9, hsm9, hr9⟩ := p9; refine kGG9 ?_; clear kGG9 GG9; subst e9; subst p8; (try dsimp only); (try k_sweep))
  exact trivial
example : True := by
  k_with "pyIter ref" => (k_here; ((with_reducible show wpAny _ _ (pyIter (Value.ref _)) (fun it s₂ => TurnsAt _ _ _ _ _ _ _ _ _ it s₂) _ _); (rename Fr _ _ _ _ => lF'); (rename News _ _ _ _ => nE); (have hr8 := hr4 nE hr9 (by k_ne) (by k_ne) (by k_ne) (by k_ne)); clear hr9; (have hr9 := hr8); clear hr8; (with_unfolding_all refine' iter_tupTurns ?pt1 lF' (news_r4 nE) ?pt2 ?pt3 ?pt4 ?_; (case pt1 => exact rfl); (case pt2 => exact mem2); (case pt3 => exact rfl); (case pt4 => exact rfl)); clear lF' nE; intro i' l1; (have hO9 := lt_ne l1); (try k_lt l1)))
  exact trivial
example : True := by
  k_with "ItemsRest" => ((first | ((with_unfolding_all refine ItemsRest.val (fun h' tk' F' => ?_)); ktu_objs; (rename News _ _ _ _ => nE); (have N' := news_sw nE); clear nE) | ((with_unfolding_all refine ItemsRest.zero (fun h' tk' F' N' => ?_)); (have N9 := news_d4 N'); clear N'; (have N' := N9); clear N9; (have hr8 := hr_d4 hr9); clear hr9; (have hr9 := hr8); clear hr8)))
  exact trivial
example : True := by
  k_with "UnrEndW" => ((rename News _ _ _ _ => nE); (rename Fr _ _ _ _ => lF'); ((have hr8 := hr_tl hr9); clear hr9; (have hr9 := hr8); clear hr8; with_unfolding_all refine' unrE lF' (news_s1 nE) hO9 ⟨⟨?ue2, trivial⟩, ?_⟩); (case ue2 => (k_mem)))
  exact trivial
theorem Ct.mono {f : Addr} {dq : Nat} {news : List (Addr × Obj)} {vs : List Value} {P Q : Value → List (Addr × Obj) → Prop} (C : Ct prog w mean mg mb f dq news vs P) (h : ∀ r n, P r n → Q r n) : Ct prog w mean mg mb f dq news vs Q :=
  fun c00 A₀ base h₀ L m sHp sGn sDr sTk sOs Q' E B F X N T hk hd hu hret => C c00 A₀ base h₀ L m sHp sGn sDr sTk sOs Q' E B F X N T hk hd hu fun v n' h' tk' F' N' p => hret v n' h' tk' F' N' (h _ _ p)
theorem Ct.turn {f : Addr} {dq : Nat} {news : List (Addr × Obj)} {vs : List Value} {P Q : Value → List (Addr × Obj) → Prop} (C : Ct prog w mean mg mb f dq news vs P) (h : ∀ r n, P r n → ∃ n', (∀ q ∈ n', q ∈ n) ∧ Q r n') : Ct prog w mean mg mb f dq news vs Q :=
  fun c00 A₀ base h₀ L m sHp sGn sDr sTk sOs Q' E B F X N T hk hd hu hret => C c00 A₀ base h₀ L m sHp sGn sDr sTk sOs Q' E B F X N T hk hd hu fun v _ h' tk' F' N' p => let ⟨n'', hs, q⟩ := h _ _ p; hret v n'' h' tk' F' (cb_drop N' hs) q
def kdOf (dsc : Str) : String := String.singleton (Char.ofNat (dsc.cps.getD 0 0))
def NoList (l : List (Addr × Obj)) : Prop := ∀ q ∈ l, q.2.cls ≠ .type "list"
theorem nl_nil : NoList [] := fun _ h => nomatch h
theorem nl_ne {y : Addr} {o : Obj} {l : List (Addr × Obj)} {n : String} (hc : o.cls = .type n) (hn : n ≠ "list") (h : NoList l) : NoList ((y, o) :: l) := List.forall_mem_cons.mpr ⟨(fun (e : o.cls = .type "list") => hn (Value.type.inj (hc.symm.trans e))), h⟩
theorem nl_inst {y d : Addr} {n : Nat} {l : List (Addr × Obj)} (h : NoList l) : NoList ((y, instObj n d) :: l) := List.forall_mem_cons.mpr ⟨(fun e => by cases e), h⟩
theorem nl_dict {y : Addr} {es : List DictEntry} {n : Nat} {l : List (Addr × Obj)} (h : NoList l) : NoList ((y, dictOf es n) :: l) := nl_ne rfl (by decide) h
theorem nl_cls {y : Addr} {o : Obj} {l : List (Addr × Obj)} (hc : o.cls = .type "dict") (h : NoList l) : NoList ((y, o) :: l) := nl_ne hc (by decide) h
theorem is_cls {o : Obj} {kvs : List (Int × Value)} (h : o.IsDictOf (intKind prog w) kvs) : o.cls = .type "dict" := let ⟨_, _, h1, _⟩ := h; h1.1
theorem nl_app {a b : List (Addr × Obj)} (ha : NoList a) (hb : NoList b) : NoList (a ++ b) := fun q hq => (List.mem_append.mp hq).elim (ha q) (hb q)
def syD (x : Str) : Decidable (SyOk x) := by unfold SyOk; infer_instance
def signsD (x dsc : Str) (kd : String) : Decidable (SignsOk x dsc kd) := by unfold SignsOk Alpha; infer_instance
theorem sy_of {x : Str} (h : @decide (SyOk x) (syD x) = true) : SyOk x := @of_decide_eq_true _ (syD x) h
theorem signs_of {x dsc : Str} {kd : String} (h : @decide (SignsOk x dsc kd) (signsD x dsc kd) = true) : SignsOk x dsc kd := @of_decide_eq_true _ (signsD x dsc kd) h
/-- the rows of a table under way, and what was made for it -/
def TblS (prog : Program) (w : World) (f : Int → Option String) (b : Nat) (o : Obj) (tr : List (Addr × Obj)) : Prop := NoList tr ∧ ∃ kvs, o.IsDictOf (intKind prog w) kvs ∧ RowsT f kvs tr ∧ kvs.length ≤ b
theorem mem_mid {α : Type} {q a t d y z : α} {pre tr base : List α} (h : q ∈ a :: (pre ++ (t :: d :: ((y :: z :: tr) ++ base)))) : q ∈ a :: y :: z :: (pre ++ (t :: d :: (tr ++ base))) := by
  simp only [List.mem_cons, List.mem_append] at h ⊢
  rcases h with h | h | h | h | (h | h | h) | h <;> simp [h]
theorem mem_mid2 {α : Type} {q t d y z : α} {pre tr base : List α} (h : q ∈ pre ++ (t :: d :: ((y :: z :: tr) ++ base))) : q ∈ y :: z :: (pre ++ (t :: d :: (tr ++ base))) := by
  simp only [List.mem_cons, List.mem_append] at h ⊢
  rcases h with h | h | h | (h | h | h) | h <;> simp [h]
theorem modify_t {pre : List (Addr × Obj)} {tr base : List (Addr × Obj)} {t td rr : Addr} {o : Obj} {n : Nat} {h1 h2 : Int} {k1 k2 tx tD : Tok} {pv : Value} {f : Int → Option String} {x dsc : Str} {b9 : Nat} (hS : TblS prog w f b9 o tr) (hr : ∀ q ∈ (pre ++ (t, instObj 225 td) :: (td, dictOf [⟨h1, .str (Str.ofString "parent") k1, pv⟩, ⟨h2, .str (Str.ofString "rows") k2, .ref rr⟩] n) :: (tr ++ base)), q.1 ≠ rr)
    (hx : SyOk dsc) (hE : SignsOk x dsc (kdOf dsc)) (hz : b9 + x.length ≤ 1000) :
    Ct prog w mean mg mb 187 16 ((rr, o) :: (pre ++ (t, instObj 225 td) :: (td, dictOf [⟨h1, .str (Str.ofString "parent") k1, pv⟩, ⟨h2, .str (Str.ofString "rows") k2, .ref rr⟩] n) :: (tr ++ base))) [.ref t, .str x tx, .str dsc tD] (fun r news' => r = .none ∧ ∃ o' tr', news' = (rr, o') :: (pre ++ (t, instObj 225 td) :: (td, dictOf [⟨h1, .str (Str.ofString "parent") k1, pv⟩, ⟨h2, .str (Str.ofString "rows") k2, .ref rr⟩] n) :: (tr' ++ base)) ∧ TblS prog w (fillT f x (kdOf dsc)) (b9 + x.length) o' tr' ∧ (∀ q ∈ (pre ++ (t, instObj 225 td) :: (td, dictOf [⟨h1, .str (Str.ofString "parent") k1, pv⟩, ⟨h2, .str (Str.ofString "rows") k2, .ref rr⟩] n) :: (tr' ++ base)), q.1 ≠ rr) ∧ ∀ q ∈ tr', q ∈ tr ∨ ∀ p ∈ pre, p.1 < q.1) := by
  obtain ⟨hn, kvs, hdc, hK, hb⟩ := hS
  refine Ct.turn (modify_all (List.mem_append_right _ (.head _)) (List.mem_append_right _ (.tail _ (.head _))) hr hdc hK hx hE (by omega)) ?_
  rintro r n' ⟨e, y, yd, dd, o', kvs', rfl, g1, g2, g3, g4, g5, g6, g7⟩
  have low : ∀ p ∈ pre, @LT.lt Nat _ p.1 yd := fun p hp => g5 p (List.mem_append_left _ hp)
  refine ⟨_, ?_, e, o', (y, instObj 144 yd) :: (yd, dd) :: tr, rfl, ⟨nl_inst (nl_cls g7 hn), kvs', g1, g2, by omega⟩, ?_, ?_⟩
  · exact fun q hq => mem_mid hq
  · exact fun q hq => g4 q (mem_mid2 hq)
  · intro q hq
    rcases List.mem_cons.mp hq with rfl | hq
    · exact .inr fun p hp => Nat.lt_trans (low p hp) g6
    · rcases List.mem_cons.mp hq with rfl | hq
      · exact .inr low
      · exact .inl hq
theorem modify_t0 {tr base : List (Addr × Obj)} {t td rr : Addr} {o : Obj} {n : Nat} {h1 h2 : Int} {k1 k2 tx tD : Tok} {pv : Value} {f : Int → Option String} {x dsc : Str} {b9 : Nat} (hS : TblS prog w f b9 o tr) (hr : ∀ q ∈ (t, instObj 225 td) :: (td, dictOf [⟨h1, .str (Str.ofString "parent") k1, pv⟩, ⟨h2, .str (Str.ofString "rows") k2, .ref rr⟩] n) :: (tr ++ base), q.1 ≠ rr)
    (hx : SyOk dsc) (hE : SignsOk x dsc (kdOf dsc)) (hz : b9 + x.length ≤ 1000) :
    Ct prog w mean mg mb 187 16 ((rr, o) :: (t, instObj 225 td) :: (td, dictOf [⟨h1, .str (Str.ofString "parent") k1, pv⟩, ⟨h2, .str (Str.ofString "rows") k2, .ref rr⟩] n) :: (tr ++ base)) [.ref t, .str x tx, .str dsc tD] (fun r news' => r = .none ∧ ∃ o' tr', news' = (rr, o') :: (t, instObj 225 td) :: (td, dictOf [⟨h1, .str (Str.ofString "parent") k1, pv⟩, ⟨h2, .str (Str.ofString "rows") k2, .ref rr⟩] n) :: (tr' ++ base) ∧ TblS prog w (fillT f x (kdOf dsc)) (b9 + x.length) o' tr' ∧ (∀ q ∈ (t, instObj 225 td) :: (td, dictOf [⟨h1, .str (Str.ofString "parent") k1, pv⟩, ⟨h2, .str (Str.ofString "rows") k2, .ref rr⟩] n) :: (tr' ++ base), q.1 ≠ rr) ∧ ∀ q ∈ tr', q ∈ tr ∨ ∀ p ∈ ([] : List (Addr × Obj)), p.1 < q.1) := modify_t (pre := []) hS hr hx hE hz
theorem modify_t5 {i a b c d : Addr × Obj} {tr base : List (Addr × Obj)} {t td rr : Addr} {o : Obj} {n : Nat} {h1 h2 : Int} {k1 k2 tx tD : Tok} {pv : Value} {f : Int → Option String} {x dsc : Str} {b9 : Nat} (hS : TblS prog w f b9 o tr) (hr : ∀ q ∈ i :: a :: b :: c :: d :: (t, instObj 225 td) :: (td, dictOf [⟨h1, .str (Str.ofString "parent") k1, pv⟩, ⟨h2, .str (Str.ofString "rows") k2, .ref rr⟩] n) :: (tr ++ base), q.1 ≠ rr)
    (hx : SyOk dsc) (hE : SignsOk x dsc (kdOf dsc)) (hz : b9 + x.length ≤ 1000) :
    Ct prog w mean mg mb 187 16 ((rr, o) :: i :: a :: b :: c :: d :: (t, instObj 225 td) :: (td, dictOf [⟨h1, .str (Str.ofString "parent") k1, pv⟩, ⟨h2, .str (Str.ofString "rows") k2, .ref rr⟩] n) :: (tr ++ base)) [.ref t, .str x tx, .str dsc tD] (fun r news' => r = .none ∧ ∃ o' tr', news' = (rr, o') :: i :: a :: b :: c :: d :: (t, instObj 225 td) :: (td, dictOf [⟨h1, .str (Str.ofString "parent") k1, pv⟩, ⟨h2, .str (Str.ofString "rows") k2, .ref rr⟩] n) :: (tr' ++ base) ∧ TblS prog w (fillT f x (kdOf dsc)) (b9 + x.length) o' tr' ∧ (∀ q ∈ i :: a :: b :: c :: d :: (t, instObj 225 td) :: (td, dictOf [⟨h1, .str (Str.ofString "parent") k1, pv⟩, ⟨h2, .str (Str.ofString "rows") k2, .ref rr⟩] n) :: (tr' ++ base), q.1 ≠ rr) ∧ ∀ q ∈ tr', q ∈ tr ∨ ∀ p ∈ [i, a, b, c, d], p.1 < q.1) := modify_t (pre := [i, a, b, c, d]) hS hr hx hE hz
theorem off_tr {I rr : Addr} {it o : Obj} {a b c d T D : Addr × Obj} {tr tr' base : List (Addr × Obj)} (hO : ∀ p ∈ (rr, o) :: a :: b :: c :: d :: T :: D :: (tr ++ base), p.1 ≠ I) (fr : ∀ q ∈ tr', q ∈ tr ∨ ∀ p ∈ [(I, it), a, b, c, d], p.1 < q.1) (o' : Obj) :
    ∀ p ∈ (rr, o') :: a :: b :: c :: d :: T :: D :: (tr' ++ base), p.1 ≠ I := by
  intro p hp
  have up : ∀ q ∈ a :: b :: c :: d :: T :: D :: (tr ++ base), q.1 ≠ I := fun q hq => hO q (.tail _ hq)
  rcases List.mem_cons.mp hp with rfl | hp
  · exact hO (rr, o) (.head _)
  · have key : p ∈ a :: b :: c :: d :: T :: D :: (tr ++ base) ∨ p ∈ tr' := by
      simp only [List.mem_cons, List.mem_append] at hp ⊢
      rcases hp with h | h | h | h | h | h | h | h <;> simp [h]
    rcases key with h | h
    · exact up p h
    · rcases fr p h with h | h
      · exact up p (by simp [h])
      · exact (Nat.ne_of_lt (h (I, it) (.head _))).symm
theorem tab_off {rest : List (Addr × Obj)} {rr y yd : Addr} {oy dd : Obj} (hl : ∀ q ∈ rest, q.1 < yd) (h2 : @LT.lt Nat _ yd y) (h3 : @LT.lt Nat _ y rr) : ∀ q ∈ (y, oy) :: (yd, dd) :: rest, q.1 ≠ rr := by
  have h4 : @LT.lt Nat _ yd rr := Nat.lt_trans h2 h3
  intro q hq
  rcases List.mem_cons.mp hq with rfl | hq
  · exact Nat.ne_of_lt h3
  · rcases List.mem_cons.mp hq with rfl | hq
    · exact Nat.ne_of_lt h4
    · exact Nat.ne_of_lt (Nat.lt_trans (hl q hq) h4)
theorem tbl_0 {o : Obj} (h : o.IsDictOf (intKind prog w) []) : TblS prog w (fun _ => none) 0 o [] := ⟨nl_nil, [], h, fun c hc => ⟨fun _ => rfl, fun kd e => by cases e⟩, Nat.le_refl _⟩
theorem tab_made0 {news : List (Addr × Obj)} : Ct prog w mean mg mb 225 3 news [] (fun r news' => ∃ (t td rr : Addr) (o : Obj) (n : Nat) (h1 h2 : Int) (k1 k2 : Tok) (tr : List (Addr × Obj)), r = .ref t ∧ news' = (rr, o) :: (t, instObj 225 td) :: (td, dictOf [⟨h1, .str (Str.ofString "parent") k1, .none⟩, ⟨h2, .str (Str.ofString "rows") k2, .ref rr⟩] n) :: (tr ++ news) ∧ TblS prog w (fun _ => none) 0 o tr ∧ (rr == sysModules) = false ∧ ∀ q ∈ (t, instObj 225 td) :: (td, dictOf [⟨h1, .str (Str.ofString "parent") k1, .none⟩, ⟨h2, .str (Str.ofString "rows") k2, .ref rr⟩] n) :: (tr ++ news), q.1 ≠ rr) := by
  refine Ct.mono table_new0 ?_
  rintro r news' ⟨y, yd, rr, o, n, h1, h2, k1, k2, rfl, rfl, a1, a2, a3, a4, a5⟩
  exact ⟨y, yd, rr, o, n, h1, h2, k1, k2, [], rfl, rfl, tbl_0 a1, a2, tab_off a3 a4 a5⟩
theorem tab_made {news : List (Addr × Obj)} {pv : Value} : Ct prog w mean mg mb 225 3 news [pv] (fun r news' => ∃ (t td rr : Addr) (o : Obj) (n : Nat) (h1 h2 : Int) (k1 k2 : Tok) (tr : List (Addr × Obj)), r = .ref t ∧ news' = (rr, o) :: (t, instObj 225 td) :: (td, dictOf [⟨h1, .str (Str.ofString "parent") k1, pv⟩, ⟨h2, .str (Str.ofString "rows") k2, .ref rr⟩] n) :: (tr ++ news) ∧ TblS prog w (fun _ => none) 0 o tr ∧ (rr == sysModules) = false ∧ ∀ q ∈ (t, instObj 225 td) :: (td, dictOf [⟨h1, .str (Str.ofString "parent") k1, pv⟩, ⟨h2, .str (Str.ofString "rows") k2, .ref rr⟩] n) :: (tr ++ news), q.1 ≠ rr) := by
  refine Ct.mono table_new ?_
  rintro r news' ⟨y, yd, rr, o, n, h1, h2, k1, k2, rfl, rfl, a1, a2, a3, a4, a5⟩
  exact ⟨y, yd, rr, o, n, h1, h2, k1, k2, [], rfl, rfl, tbl_0 a1, a2, tab_off a3 a4 a5⟩
theorem news_sw {h₀ h : Heap} {L : Addr} {a b : Addr × Obj} {l : List (Addr × Obj)} (N : News h₀ L h (a :: b :: l)) : News h₀ L h (b :: a :: l) := fun p hp => N p (by simp only [List.mem_cons] at hp ⊢; rcases hp with h | h | h <;> simp [h])
theorem news_s1 {h₀ h : Heap} {L : Addr} {a b : Addr × Obj} {l : List (Addr × Obj)} (N : News h₀ L h (a :: b :: l)) : News h₀ L h ([b] ++ (a :: l)) := news_sw N
theorem news_r4 {h₀ h : Heap} {L : Addr} {a b c d r : Addr × Obj} {l : List (Addr × Obj)} (N : News h₀ L h (a :: b :: c :: d :: r :: l)) : News h₀ L h (r :: a :: b :: c :: d :: l) := fun p hp => N p (by simp only [List.mem_cons] at hp ⊢; rcases hp with h | h | h | h | h | h <;> simp [h])
theorem news_d4 {h₀ h : Heap} {L : Addr} {a b c d r : Addr × Obj} {l : List (Addr × Obj)} (N : News h₀ L h (r :: a :: b :: c :: d :: l)) : News h₀ L h (r :: l) := fun p hp => N p (by simp only [List.mem_cons] at hp ⊢; rcases hp with h | h <;> simp [h])
theorem hr_cons {I rr : Addr} {it o : Obj} {l : List (Addr × Obj)} (hO : ∀ p ∈ (rr, o) :: l, p.1 ≠ I) (hr : ∀ q ∈ l, q.1 ≠ rr) : ∀ q ∈ (I, it) :: l, q.1 ≠ rr := List.forall_mem_cons.mpr ⟨fun e => hO _ (.head _) e.symm, hr⟩
theorem hr_tl {rr : Addr} {i : Addr × Obj} {l : List (Addr × Obj)} (h : ∀ q ∈ i :: l, q.1 ≠ rr) : ∀ q ∈ l, q.1 ≠ rr := fun p hp => h p (.tail _ hp)
theorem hr_d4 {rr : Addr} {a b c d : Addr × Obj} {l : List (Addr × Obj)} (h : ∀ q ∈ a :: b :: c :: d :: l, q.1 ≠ rr) : ∀ q ∈ l, q.1 ≠ rr := hr_tl (hr_tl (hr_tl (hr_tl h)))
theorem hr4 {h₀ h : Heap} {L rr : Addr} {o : Obj} {a b c d : Addr × Obj} {l : List (Addr × Obj)} (_N : News h₀ L h (a :: b :: c :: d :: (rr, o) :: l)) (hr : ∀ q ∈ l, q.1 ≠ rr) (h1 : a.1 ≠ rr) (h2 : b.1 ≠ rr) (h3 : c.1 ≠ rr) (h4 : d.1 ≠ rr) : ∀ q ∈ a :: b :: c :: d :: l, q.1 ≠ rr :=
  List.forall_mem_cons.mpr ⟨h1, List.forall_mem_cons.mpr ⟨h2, List.forall_mem_cons.mpr ⟨h3, List.forall_mem_cons.mpr ⟨h4, hr⟩⟩⟩⟩
theorem lt_ne {I : Addr} {l : List (Addr × Obj)} (h : ∀ p ∈ l, p.1 < I) : ∀ p ∈ l, p.1 ≠ I := fun p hp => Nat.ne_of_lt (h p hp)
theorem unrE {h₀ h' : Heap} {L : Addr} {its : List (Addr × Obj)} {rest : (Str → Option Value) → List (Addr × Obj) → Prop} {s₁ : Shared} {tk : Nat} {m' : Str → Option Value} {news' : List (Addr × Obj)} {I : Addr} {it : Obj} (F : Fr h₀ L h' m') (N : News h₀ L h' ([(I, it)] ++ news')) (off : ∀ p ∈ news', p.1 ≠ I) (r : rest m' news') :
    UnrEndW h₀ L s₁ [(I, it)] rest { s₁ with heap := h', toks := tk } := ⟨h', tk, m', news', rfl, F, N, fun p hp q hq => by rw [List.mem_singleton.mp hq]; exact off p hp, r⟩
theorem mem2 {α : Type} {a b : α} {l : List α} : b ∈ a :: b :: l := List.mem_cons_of_mem _ List.mem_cons_self
theorem RowsT.to {f g : Int → Option String} {kvs : List (Int × Value)} {K news : List (Addr × Obj)} (h : RowsT f kvs K) (hs : ∀ q ∈ K, q ∈ news) (hf : ∀ c, Alpha c → f c = g c) : RowsT g kvs news := by
  intro c hc
  obtain ⟨h1, h2⟩ := h c hc
  rw [hf c hc] at h1 h2
  refine ⟨h1, fun kd e => ?_⟩
  obtain ⟨y, h3, h4⟩ := h2 kd e
  exact ⟨y, h3, h4.mono hs⟩
def stdF (c : Int) : Option String := if c = 10 then some " " else some (kindOf c)
theorem alpha_all {P : Int → Prop} (h : ∀ c ∈ [(10 : Int), 32, 40, 41, 97, 98, 99, 100, 101, 102, 120], P c) : ∀ c, Alpha c → P c := by
  intro c hc
  refine h c ?_
  unfold Alpha at hc
  rcases hc with rfl | rfl | rfl | rfl | ⟨h1, h2⟩ | rfl
  · decide
  · decide
  · decide
  · decide
  · have h3 : c = 97 ∨ c = 98 ∨ c = 99 ∨ c = 100 ∨ c = 101 ∨ c = 102 := by omega
    rcases h3 with rfl | rfl | rfl | rfl | rfl | rfl <;> decide
  · decide
/-- what standard_table hands back -/
def StdP (prog : Program) (w : World) (news : List (Addr × Obj)) (r : Value) (news' : List (Addr × Obj)) : Prop := ∃ (t td rr : Addr) (o : Obj) (n : Nat) (h1 h2 : Int) (k1 k2 : Tok) (kvs : List (Int × Value)) (tr : List (Addr × Obj)), r = .ref t ∧ news' = tr ++ news ∧ NoList tr ∧ (rr == sysModules) = false ∧ (rr, o) ∈ tr ∧ (t, instObj 225 td) ∈ tr ∧ (td, dictOf [⟨h1, .str (Str.ofString "parent") k1, .none⟩, ⟨h2, .str (Str.ofString "rows") k2, .ref rr⟩] n) ∈ tr ∧ o.IsDictOf (intKind prog w) kvs ∧ RowsT stdF kvs tr
theorem std_end {news tr : List (Addr × Obj)} {t td rr : Addr} {o : Obj} {n : Nat} {h1 h2 : Int} {k1 k2 : Tok} {f : Int → Option String} {b : Nat} (S : TblS prog w f b o tr) (hs : (rr == sysModules) = false) (hf : ∀ c ∈ [(10 : Int), 32, 40, 41, 97, 98, 99, 100, 101, 102, 120], f c = stdF c) :
    StdP prog w news (.ref t) ((rr, o) :: (t, instObj 225 td) :: (td, dictOf [⟨h1, .str (Str.ofString "parent") k1, .none⟩, ⟨h2, .str (Str.ofString "rows") k2, .ref rr⟩] n) :: (tr ++ news)) := by
  obtain ⟨hn, kvs, hd, hR, -⟩ := S
  exact ⟨t, td, rr, o, n, h1, h2, k1, k2, kvs, (rr, o) :: _ :: _ :: tr, rfl, rfl, nl_cls (is_cls hd) (nl_inst (nl_dict hn)), hs, .head _, .tail _ (.head _), .tail _ (.tail _ (.head _)), hd, hR.to (fun _ h => .tail _ (.tail _ (.tail _ h))) (alpha_all hf)⟩
theorem tab_std {news : List (Addr × Obj)} : Ct prog w mean mg mb 243 18 news [] (StdP prog w news) := by
  intro c00 A₀ base h₀ L m sHp sGn sDr sTk sOs Q E B F X N T hk hd hu hret
  refine wpAny_call ?_
  k_dflt (refine' code_def (binds := []) ?k1 ?k2 ?k3 ?k4 ?k5 ?kA ?kF ?kK ?k6 ?k7 ?k8 ?k9 ?kB ?_ ?c2 ?c3 ?c4 ?c5; (case kA => exact rfl); (case kF => exact rfl); (case kK => first | exact rfl | assumption); (case k1 => k_asm); (case k2 => k_asm); (case k3 => k_asm); (case k4 => k_asm); (case k5 => k_asm); (case k6 => k_is); (case k7 => k_is); (case k8 => ktr_room); (case k9 => first | exact BindsTo.of_eq rfl | exact binds_K (by k_in) rfl (by k_is) rfl rfl rfl); (case c5 => decide); (case kB => exact locs rfl); (case c2 => exact rfl); (case c3 => exact rfl); (case c4 => exact rfl); k_whole; intro g' L' h' FG' F' N' B' X' T'; (try dsimp only); (try k_lift B'); (try k_fold))
  k_steps

  all_goals (first | exact ([] : List (Addr × Obj)) | (((rename News _ _ _ _ => nE); (refine' hret _ _ _ _ ?e1 nE (std_end S9 hsm9 ?p6); (case e1 => k_asm); (case p6 => (decide +kernel))))) | trace_state)
example : True := by
  k_with_none
  w_top off
  exact trivial
example : True := by
  k_with "mroom" => with_unfolding_all first | ((rename (_ + _ < recursionLimit) => hZq7); first | exact room_lt hZq7 0 rfl rfl | exact room_lt hZq7 1 rfl rfl | exact room_lt hZq7 2 rfl rfl | exact room_lt hZq7 3 rfl rfl | exact room_lt hZq7 4 rfl rfl | exact room_lt hZq7 5 rfl rfl | exact room_lt hZq7 6 rfl rfl | exact room_lt hZq7 7 rfl rfl | exact room_lt hZq7 8 rfl rfl | exact room_lt hZq7 9 rfl rfl | exact room_lt hZq7 10 rfl rfl | exact room_lt hZq7 11 rfl rfl | exact room_lt hZq7 12 rfl rfl | exact room_lt hZq7 13 rfl rfl | exact room_lt hZq7 14 rfl rfl | exact room_lt hZq7 15 rfl rfl) | exact lt_ble rfl | fail "mroom"
  exact trivial
example : True := by
  k_with "munits" => with_unfolding_all first | ((rename (_ + _ + _ < cLine) => hZq7); first | exact unit_lt2 hZq7 0 rfl rfl | exact unit_lt2 hZq7 3 rfl rfl | exact unit_lt2 hZq7 6 rfl rfl | exact unit_lt2 hZq7 9 rfl rfl | exact unit_lt2 hZq7 12 rfl rfl | exact unit_lt hZq7 0 rfl rfl | exact unit_lt hZq7 3 rfl rfl | exact unit_lt hZq7 6 rfl rfl | exact unit_lt hZq7 9 rfl rfl | exact unit_lt hZq7 12 rfl rfl) | exact lt_ble rfl | fail "munits"
  exact trivial
example : True := by
  k_with "mne" => (refine neN ?_; (try dsimp only); first | assumption | exact Ne.symm (by assumption) | exact Nat.ne_of_lt (by assumption) | exact Nat.ne_of_gt (by assumption) | fail "mne")
  exact trivial
example : True := by
  k_with "call ref" => (k_here; (with_reducible show wpAny _ _ (PySem.call (Value.ref 187) _) _ _ _); k_dflt (refine' Ct.use (modify_t0 ?hS ?hr ?hx ?hE ?hz) ?kB ?kF ?kX ?kN ?kT ?kk ?kd ?ku ?_; (case kB => k_asm); (case kF => k_asm); (case kX => k_asm); (case kN => first | k_asm | exact news_tl (by k_asm) | exact news_tl (news_tl (by k_asm))); (case kT => k_asm); (case kk => first | exact rfl | assumption); (case hS => assumption); (case hr => assumption); (case hx => exact sy_of (by kernel_rfl)); (case hE => exact signs_of (by kernel_rfl)); (case hz => exact Nat.le_of_ble_eq_true (by kernel_rfl)); (case kd => ktr_room); (case ku => ktr_units); k_whole); intro v9 n9 h9 tk9 F9 N9 p9; refine goal_gen ?_; intro GG9 kGG9; obtain ⟨e9, o9, tr9, p8, S9, hr9, fr9⟩ := p9; refine kGG9 ?_; clear kGG9 GG9; subst e9; subst p8; (try dsimp only); (try k_sweep))
  exact trivial
example : True := by
  k_with "call ref" => (k_here; (with_reducible show wpAny _ _ (PySem.call (Value.ref 243) _) _ _ _); k_dflt (refine' Ct.use (tab_std ) ?kB ?kF ?kX ?kN ?kT ?kk ?kd ?ku ?_; (case kB => k_asm); (case kF => k_asm); (case kX => k_asm); (case kN => first | k_asm | exact news_tl (by k_asm) | exact news_tl (news_tl (by k_asm))); (case kT => k_asm); (case kk => first | exact rfl | assumption);  (case kd => ktr_room); (case ku => ktr_units); k_whole); intro v9 n9 h9 tk9 F9 N9 p9; unfold StdP at p9; refine goal_gen ?_; intro GG9 kGG9; obtain ⟨t2, td2, rr2, o2, tn2, th3, th4, tk3, tk4, kvs2, tr2, e9, p8, nl9, hsm2, ms1, ms2, ms3, hd2, hR2⟩ := p9; refine kGG9 ?_; clear kGG9 GG9; subst e9; subst p8; (try dsimp only); (try k_sweep))
  exact trivial
example : True := by
  k_with "call ref" => (k_here; (with_reducible show wpAny _ _ (PySem.call (Value.ref 225) _) _ _ _); k_dflt (refine' Ct.use (tab_made ) ?kB ?kF ?kX ?kN ?kT ?kk ?kd ?ku ?_; (case kB => k_asm); (case kF => k_asm); (case kX => k_asm); (case kN => first | k_asm | exact news_tl (by k_asm) | exact news_tl (news_tl (by k_asm))); (case kT => k_asm); (case kk => first | exact rfl | assumption);  (case kd => ktr_room); (case ku => ktr_units); k_whole); intro v9 n9 h9 tk9 F9 N9 p9; refine goal_gen ?_; intro GG9 kGG9; obtain ⟨tt, td, rr, o9, tn, th1, th2, tk1, tk2, tr9, e9, p8, S9, hsm9, hr9⟩ := p9; refine kGG9 ?_; clear kGG9 GG9; subst e9; subst p8; (try dsimp only); (try k_sweep))
  exact trivial
def lispF (c : Int) : Option String := if c = 10 then some ">" else none
theorem RowsT.mono {f : Int → Option String} {kvs : List (Int × Value)} {K news : List (Addr × Obj)} (h : RowsT f kvs K) (hs : ∀ q ∈ K, q ∈ news) : RowsT f kvs news := h.to hs fun _ _ => rfl
theorem tabIn_of {news : List (Addr × Obj)} {t td r t2 td2 r2 : Addr} {n n2 : Nat} {h1 h2 h3 h4 : Int} {k1 k2 k3 k4 : Tok} {o o2 : Obj} {kvs kvs2 : List (Int × Value)} (m1 : (t, instObj 225 td) ∈ news) (m2 : (td, dictOf [⟨h1, .str (Str.ofString "parent") k1, .ref t2⟩, ⟨h2, .str (Str.ofString "rows") k2, .ref r⟩] n) ∈ news)
    (m3 : (t2, instObj 225 td2) ∈ news) (m4 : (td2, dictOf [⟨h3, .str (Str.ofString "parent") k3, .none⟩, ⟨h4, .str (Str.ofString "rows") k4, .ref r2⟩] n2) ∈ news) (m5 : (r, o) ∈ news) (m6 : (r2, o2) ∈ news) (d1 : o.IsDictOf (intKind prog w) kvs) (d2 : o2.IsDictOf (intKind prog w) kvs2) (e1 : (r == sysModules) = false) (e2 : (r2 == sysModules) = false)
    (R1 : RowsT lispF kvs news) (R2 : RowsT stdF kvs2 news) : TabIn prog w news t := by
  refine ⟨td, r, t2, td2, r2, n, n2, h1, h2, h3, h4, k1, k2, k3, k4, o, o2, kvs, kvs2, m1, m2, m3, m4, m5, m6, d1, d2, e1, e2, (R1 10 (.inl rfl)).2 ">" rfl, fun c hc hn => ⟨(R1 c hc).1 (if_neg hn), ?_⟩⟩
  exact (R2 c hc).2 (kindOf c) (if_neg hn)
/-- what lisp_table hands back -/
def LispP (prog : Program) (w : World) (news : List (Addr × Obj)) (r : Value) (news' : List (Addr × Obj)) : Prop := ∃ (t : Addr) (tr : List (Addr × Obj)), r = .ref t ∧ news' = tr ++ news ∧ NoList tr ∧ TabIn prog w tr t
theorem lisp_end {news tr tr2 : List (Addr × Obj)} {t td rr t2 td2 rr2 : Addr} {o o2 : Obj} {n n2 : Nat} {h1 h2 h3 h4 : Int} {k1 k2 k3 k4 : Tok} {f : Int → Option String} {b : Nat} {kvs2 : List (Int × Value)} (S : TblS prog w f b o tr) (hs : (rr == sysModules) = false) (hf : ∀ c ∈ [(10 : Int), 32, 40, 41, 97, 98, 99, 100, 101, 102, 120], f c = lispF c)
    (nl : NoList tr2) (hs2 : (rr2 == sysModules) = false) (ms1 : (rr2, o2) ∈ tr2) (ms2 : (t2, instObj 225 td2) ∈ tr2) (ms3 : (td2, dictOf [⟨h3, .str (Str.ofString "parent") k3, .none⟩, ⟨h4, .str (Str.ofString "rows") k4, .ref rr2⟩] n2) ∈ tr2) (hd2 : o2.IsDictOf (intKind prog w) kvs2) (hR2 : RowsT stdF kvs2 tr2) :
    LispP prog w news (.ref t) ((rr, o) :: (t, instObj 225 td) :: (td, dictOf [⟨h1, .str (Str.ofString "parent") k1, .ref t2⟩, ⟨h2, .str (Str.ofString "rows") k2, .ref rr⟩] n) :: (tr ++ (tr2 ++ news))) := by
  obtain ⟨hn, kvs, hd, hR, -⟩ := S
  refine ⟨t, ((rr, o) :: (t, instObj 225 td) :: (td, dictOf [⟨h1, .str (Str.ofString "parent") k1, .ref t2⟩, ⟨h2, .str (Str.ofString "rows") k2, .ref rr⟩] n) :: tr) ++ tr2, rfl, ?_, nl_app (nl_cls (is_cls hd) (nl_inst (nl_dict hn))) nl, ?_⟩
  · rw [List.append_assoc]; rfl
  · exact tabIn_of (.tail _ (.head _)) (.tail _ (.tail _ (.head _))) (List.mem_append_right _ ms2) (List.mem_append_right _ ms3) (.head _) (List.mem_append_right _ ms1) hd hd2 hs hs2 (hR.to (fun _ h => List.mem_append_left _ (.tail _ (.tail _ (.tail _ h)))) (alpha_all hf)) (hR2.mono fun q hq => List.mem_append_right _ hq)
theorem lisp_table {news : List (Addr × Obj)} : Ct prog w mean mg mb 250 20 news [] (LispP prog w news) := by
  intro c00 A₀ base h₀ L m sHp sGn sDr sTk sOs Q E B F X N T hk hd hu hret
  refine wpAny_call ?_
  k_dflt (refine' code_def (binds := []) ?k1 ?k2 ?k3 ?k4 ?k5 ?kA ?kF ?kK ?k6 ?k7 ?k8 ?k9 ?kB ?_ ?c2 ?c3 ?c4 ?c5; (case kA => exact rfl); (case kF => exact rfl); (case kK => first | exact rfl | assumption); (case k1 => k_asm); (case k2 => k_asm); (case k3 => k_asm); (case k4 => k_asm); (case k5 => k_asm); (case k6 => k_is); (case k7 => k_is); (case k8 => ktr_room); (case k9 => first | exact BindsTo.of_eq rfl | exact binds_K (by k_in) rfl (by k_is) rfl rfl rfl); (case c5 => decide); (case kB => exact locs rfl); (case c2 => exact rfl); (case c3 => exact rfl); (case c4 => exact rfl); k_whole; intro g' L' h' FG' F' N' B' X' T'; (try dsimp only); (try k_lift B'); (try k_fold))
  k_steps

  all_goals (first | exact ([] : List (Addr × Obj)) | (((rename News _ _ _ _ => nE); (refine' hret _ _ _ _ ?e1 nE (lisp_end S9 hsm9 ?p6 nl9 hsm2 ms1 ms2 ms3 hd2 hR2); (case e1 => k_asm); (case p6 => (decide +kernel))))) | trace_state)
example : True := by
  k_with_none
  w_top off
  exact trivial
example : True := by
  k_with "mroom" => with_unfolding_all first | ((rename (_ + _ < recursionLimit) => hZq7); first | exact room_lt hZq7 0 rfl rfl | exact room_lt hZq7 1 rfl rfl | exact room_lt hZq7 2 rfl rfl | exact room_lt hZq7 3 rfl rfl | exact room_lt hZq7 4 rfl rfl | exact room_lt hZq7 5 rfl rfl | exact room_lt hZq7 6 rfl rfl | exact room_lt hZq7 7 rfl rfl | exact room_lt hZq7 8 rfl rfl | exact room_lt hZq7 9 rfl rfl | exact room_lt hZq7 10 rfl rfl | exact room_lt hZq7 11 rfl rfl | exact room_lt hZq7 12 rfl rfl | exact room_lt hZq7 13 rfl rfl | exact room_lt hZq7 14 rfl rfl | exact room_lt hZq7 15 rfl rfl) | exact lt_ble rfl | fail "mroom"
  exact trivial
example : True := by
  k_with "munits" => with_unfolding_all first | ((rename (_ + _ + _ < cLine) => hZq7); first | exact unit_lt2 hZq7 0 rfl rfl | exact unit_lt2 hZq7 3 rfl rfl | exact unit_lt2 hZq7 6 rfl rfl | exact unit_lt2 hZq7 9 rfl rfl | exact unit_lt2 hZq7 12 rfl rfl | exact unit_lt hZq7 0 rfl rfl | exact unit_lt hZq7 3 rfl rfl | exact unit_lt hZq7 6 rfl rfl | exact unit_lt hZq7 9 rfl rfl | exact unit_lt hZq7 12 rfl rfl) | exact lt_ble rfl | fail "munits"
  exact trivial
example : True := by
  k_with "mne" => (refine neN ?_; (try dsimp only); first | assumption | exact Ne.symm (by assumption) | exact Nat.ne_of_lt (by assumption) | exact Nat.ne_of_gt (by assumption) | fail "mne")
  exact trivial
section
variable {A : Around} {s : Shared} {h₀ : Heap} {L : Addr} {m : Str → Option Value} {env : Env}
/-- 0 .. n-1 -/
def upTo (n : Nat) : List Int := (List.range n).map fun (i : Nat) => (i : Int)
theorem upTo_succ (n : Nat) : upTo (n + 1) = upTo n ++ [(n : Int)] := by unfold upTo; rw [List.range_succ, List.map_append]; rfl
open LCg LCt in
/-- [x for x in range(n) if test] -/
theorem comp_range {ct elt : Expr} {x : Str} {scope : Scope} {cl : List (Str × Addr)} {Fin : Shared → List Value → List (Addr × Obj) → Prop} {r : Addr} {b : Int} {n : Nat} {t u v : Tok} {news : List (Addr × Obj)} (q : Int → Bool)
    (hh : A.handled = none) (F : Fr h₀ L s.heap m) (N : News h₀ L s.heap news) (hr : IsRange s.heap r 0 b 1 t u v) (hb : b = (n : Int)) (hn : n ≤ 1000)
    (turn : ∀ (g : Heap) (i : Nat) (t : Tok) ys I oI C oC D m₂ h tk (E' : Value → Shared → Prop), i < n → NsObj oC m₂ → m₂ x = some (.int (i : Int) t) → Fr h₀ L h m → News h₀ L h ((I, oI) :: (C, oC) :: (D, lst ys) :: news) → Off3 I C D news → ((@Ne Nat I C) ∧ (@Ne Nat I D) ∧ (@Ne Nat C D)) →
      wpAny (model prog w) A (isTrue ct (compEnvC scope cl C env) (eval ct (compEnvC scope cl C env))) (fun ok s' => if ok = true then
        wpAny (model prog w) A (eval elt (compEnvC scope cl C env)) (TurnEnd h₀ L m { s with heap := h, toks := tk } ((I, oI) :: (C, oC) :: (D, lst ys) :: news) (fun y => q i = true ∧ ∃ t', y = .int i t')) E' s'
        else TurnEnd h₀ L m { s with heap := h, toks := tk } ((I, oI) :: (C, oC) :: (D, lst ys) :: news) (fun _ => q i = false) .none s') E' { s with heap := h, toks := tk })
    (fin : ∀ (g : Heap) ys, IntsAre ys ((upTo n).filter q) → Fin { s with heap := g } ys news) : CompSrcT prog w A h₀ L m env ct elt x scope cl Fin (.ref r) s := by
  subst hb
  refine CompSrcT.range hh F N hr (small_one (by omega) (by omega) (by omega) (by omega)) (by rw [rangeSize_nat]) (by rw [sizeLine_eq]; omega) fun g => ?_
  refine compT_same (fun i ys => IntsAre ys ((upTo i).filter q)) trivial .nil ?_ fun ys hj => fin g ys hj
  rintro i ys v I oI C oC D m₂ h tk E' hi hj ⟨t, rfl⟩ hC hx F' N' off ne
  rw [Int.zero_add] at hx
  refine wpAny_mono (turn g i t ys I oI C oC D m₂ h tk E' hi hC hx F' N' off ne) (fun ok s' z => ?_) fun _ _ z => z
  cases ok with
  | true =>
    simp only [if_true] at z ⊢
    refine wpAny_mono z (fun y s₂ z => ?_) fun _ _ z => z
    obtain ⟨h', tk', rfl, F', N', hq, t', rfl⟩ := z
    refine ⟨h', tk', rfl, F', N', ?_⟩
    rw [upTo_succ, List.filter_append, List.filter_cons, if_pos hq, List.filter_nil]
    exact ints_app hj (.cons _ _ .nil)
  | false =>
    simp only [Bool.false_eq_true, if_false] at z ⊢
    obtain ⟨h', tk', e, F', N', hq⟩ := z
    refine ⟨h', tk', e, F', N', ?_⟩
    rw [upTo_succ, List.filter_append, List.filter_cons, if_neg (by rw [hq]; decide)]
    simpa using hj
end
example : True := by
  k_with_none
  w_top off
  exact trivial
example : True := by
  k_with "mroom" => with_unfolding_all first | ((rename (_ + _ < recursionLimit) => hZq7); first | exact room_lt hZq7 0 rfl rfl | exact room_lt hZq7 1 rfl rfl | exact room_lt hZq7 2 rfl rfl | exact room_lt hZq7 3 rfl rfl | exact room_lt hZq7 4 rfl rfl | exact room_lt hZq7 5 rfl rfl | exact room_lt hZq7 6 rfl rfl | exact room_lt hZq7 7 rfl rfl | exact room_lt hZq7 8 rfl rfl | exact room_lt hZq7 9 rfl rfl | exact room_lt hZq7 10 rfl rfl | exact room_lt hZq7 11 rfl rfl | exact room_lt hZq7 12 rfl rfl | exact room_lt hZq7 13 rfl rfl | exact room_lt hZq7 14 rfl rfl | exact room_lt hZq7 15 rfl rfl) | exact lt_ble rfl | fail "mroom"
  exact trivial
example : True := by
  k_with "munits" => with_unfolding_all first | ((rename (_ + _ + _ < cLine) => hZq7); first | exact unit_lt2 hZq7 0 rfl rfl | exact unit_lt2 hZq7 3 rfl rfl | exact unit_lt2 hZq7 6 rfl rfl | exact unit_lt2 hZq7 9 rfl rfl | exact unit_lt2 hZq7 12 rfl rfl | exact unit_lt hZq7 0 rfl rfl | exact unit_lt hZq7 3 rfl rfl | exact unit_lt hZq7 6 rfl rfl | exact unit_lt hZq7 9 rfl rfl | exact unit_lt hZq7 12 rfl rfl) | exact lt_ble rfl | fail "munits"
  exact trivial
example : True := by
  k_with "mne" => (refine neN ?_; (try dsimp only); first | assumption | exact Ne.symm (by assumption) | exact Nat.ne_of_lt (by assumption) | exact Nat.ne_of_gt (by assumption) | fail "mne")
  exact trivial
example : True := by
  k_with "eval ListComp" => (k_here; ((k_dflt (refine LCt.ListComp_T (F₀ := by k_asm) (by with_unfolding_all rfl) (by decide) (by rfl) (by decide) (by rfl) ?_); k_dflt lct_toSrc)))
  exact trivial
example : True := by
  k_with "CompSrcT" => (focus (k_here; (with_reducible show LCt.CompSrcT _ _ _ _ _ _ _ (Expr.BoolOp _ _ _) _ _ _ _ _ _ _); ((k_dflt (refine' comp_range (isSt x) ?ci1 ?ci2 ?ci3 ?ci4 ?ci5 ?ci6 ?_ ?_); (case ci1 => k_dflt (exact rfl)); (case ci2 => k_asm); (case ci3 => k_asm); (case ci4 => assumption); (case ci5 => k_dflt (exact rfl)); (case ci6 => omega); (intro g9 i9 t9 ys9 I9 oI9 C9 oC9 D9 m9 h' tk' E9 hi9 hC9 hx9 F' N' off9 ne9; (have hi8 := up_lt hi9); (obtain ⟨of1, of2, of3⟩ := off3_all off9)); rotate_left; (intro g9 ysD hysD; (try dsimp only)); rotate_left))))
  exact trivial
example : True := by
  k_with "CompSrcT" => (focus (k_here; (with_reducible show LCt.CompSrcT _ _ _ _ _ _ _ (Expr.Compare _ [CmpOp.LtE] _ _) _ _ _ _ _ _ _); ((refine' comp_ints (fun a => decide (a ≤ p)) ?ci1 ?ci2 ?ci3 ?ci4 ?ci5 ?ci6 ?_ ?_; (case ci1 => exact rfl); (case ci2 => k_asm); (case ci3 => k_asm); (case ci4 => k_mem); (case ci5 => assumption); (case ci6 => (rw [sizeLine_eq]; first | assumption | omega)); (intro g9 a9 t9 ys9 I9 oI9 C9 oC9 D9 m9 h' tk' E9 ha9 hC9 hx9 F' N' off9 ne9; (obtain ⟨of1, of2, of3⟩ := off3_all off9)); rotate_left; (intro g9 ysA hysA; (try dsimp only)); rotate_left))))
  exact trivial
example : True := by
  k_with "CompSrcT" => (focus (k_here; (with_reducible show LCt.CompSrcT _ _ _ _ _ _ _ (Expr.Compare _ [CmpOp.Gt] _ _) _ _ _ _ _ _ _); ((refine' comp_ints (fun a => decide (p < a)) ?ci1 ?ci2 ?ci3 ?ci4 ?ci5 ?ci6 ?_ ?_; (case ci1 => exact rfl); (case ci2 => k_asm); (case ci3 => k_asm); (case ci4 => k_mem); (case ci5 => assumption); (case ci6 => (rw [sizeLine_eq]; first | assumption | omega)); (intro g9 a9 t9 ys9 I9 oI9 C9 oC9 D9 m9 h' tk' E9 ha9 hC9 hx9 F' N' off9 ne9; (obtain ⟨of1, of2, of3⟩ := off3_all off9)); rotate_left; (intro g9 ysB hysB; (try dsimp only)); rotate_left))))
  exact trivial
example : True := by
  k_with "TurnEnd" => (((refine' TurnEnd.intro ?te1 ?te2 ?te3; (case te1 => k_asm); (case te2 => k_asm); (case te3 => ((try dsimp only); first | exact ⟨decide_eq_true (by assumption), _, rfl⟩ | exact ⟨decide_eq_true (by omega), _, rfl⟩ | exact decide_eq_false (by assumption) | exact decide_eq_false (by omega) | exact ⟨ist_1 (by assumption) (by assumption), _, rfl⟩ | exact ⟨ist_2 (by assumption) (by assumption), _, rfl⟩ | exact ist_0 (by assumption) | exact ist_3 (by assumption) (by assumption) (by assumption) | (trace_state; fail))))))
  exact trivial
example : True := by
  k_with "FinE" => ((unfold LCg.FinE); intro D' h' tk' F' N' o1'; (have o2' := off1_all o1'); (try dsimp only))
  exact trivial
example : True := by
  k_with "binaryOp Add ref ref" => (k_here; (with_reducible show wpAny _ _ (binaryOp Operator.Add (Value.ref _) (Value.ref _)) _ _ _); k_dflt (refine' add_ints ?ai1 ?ai2 ?ai3 ?ai4 ?ai5 ?ai6 ?ai7 ?_; (case ai1 => k_asm); (case ai2 => k_asm); (case ai3 => k_mem); (case ai4 => k_mem); (case ai5 => assumption); (case ai6 => assumption); (case ai7 => (rw [sizeLine_eq]; exact de_len hsl2)); k_whole); intro sl h' F' N' hsl9 sln; (try dsimp only); (try k_sweep))
  exact trivial
example : True := by
  k_with "exec For" => (k_here; k_dflt (refine For_invV g' (by rfl) (by rfl) ?_))
  exact trivial
example : True := by
  k_with "pyIter ref" => (focus (k_here; (( (with_unfolding_all (refine' for_ints [Str.ofString "_law_end_here", Str.ofString "_law_line"] (fun pre => ∀ r o, DTold x p r o → DTold x p (pre ++ r) o) ?fi1 ?fi2 ?fi3 ?fi4 ?fi5 ?fi6 ?_ ?_; (case fi4 => k_asm); (case fi5 => k_asm); (case fi1 => exact rfl); (case fi2 => k_mem); (case fi3 => assumption); (case fi6 => exact fun r o h => h))))); ((intro pre9 post9 st9 ts9 u' h' tk' led9 hL9 hP9 hm9 F' N')); ((have hdm : 0 ≤ st9 ∧ st9 < x.length := by k_dflt (exact du_mem (x := x) (p := p) hL9))); ((obtain ⟨hi8, hi9⟩ := hdm); (have hc9 := hm9 _ hd6); (have hc8 := hm9 _ hd7); (have hmn : ∀ q ∈ news, q ∈ led9 := fun p9 hp9 => hm9 p9 (tl7 p9 hp9)); (try k_fold); rotate_left; (intro u' h' tk' hP9 F' N'; (try k_fold)); rotate_left)))
  exact trivial
example : True := by
  k_with "call ref" => (k_here; (with_reducible show wpAny _ _ (PySem.call (Value.ref 688) _) _ _ _); k_dflt (refine' Ct.use (law_end ?hst ?hx) ?kB ?kF ?kX ?kN ?kT ?kk ?kd ?ku ?_; (case kB => k_asm); (case kF => k_asm); (case kX => k_asm); (case kN => first | k_asm | exact news_tl (by k_asm) | exact news_tl (news_tl (by k_asm))); (case kT => k_asm); (case kk => first | exact rfl | assumption); (case hst => (first | assumption | (constructor <;> omega))); (case hx => assumption); (case kd => ktr_room); (case ku => ktr_units); k_whole); intro v9 n9 h9 tk9 F9 N9 p9; obtain ⟨e9, le9⟩ := p9; (have e9 := e9.symm); subst e9; (unfold LawEnd at le9); obtain ⟨n9, t9, f1, f2, f3, f4, g9⟩ | ⟨f1, g9⟩ := le9 <;> subst g9; (try dsimp only); (try k_sweep))
  exact trivial
example : True := by
  k_with "SPost" => (dsimp only [SPost])
  exact trivial
example : True := by
  k_with "call builtin:str.strip" => (k_here; ((have hy9 := line_of (by assumption) (by assumption) (by assumption) (by assumption)); (obtain ⟨hy1, hy2⟩ := hy9); (refine SCL.stripChars (hsz := by rw [sizeLine_eq]; omega) ?_); intro t6 k6 hs6))
  exact trivial
example : True := by
  k_with "FEnd" => ((refine' FEnd.intro ?fe1 ?fe2 ?fe3 ?fe4; (case fe1 => k_asm); (case fe2 => first | k_asm | exact news_tl (by k_asm)); (case fe3 => refine d_next hP9 (.inl ⟨n9, t9, f1, f2, f3, f4, rfl⟩) ?_ (by assumption); first | exact ld_yes hy1 (by assumption) (by assumption) | exact ld_no1 hy1 (by assumption) | exact ld_no2 (by assumption)); (case fe4 => (intro z h1 h3; first | (simp [h1]; done) | (simp only [List.contains_cons, List.contains_nil, Bool.or_false, Bool.or_eq_false_iff, beq_eq_false_iff_ne, ne_eq] at h3; simp [h1, h3]; done)))))
  exact trivial
/-- a line begins at place a with a bracket -/
def isSt (x : Str) (a : Int) : Bool := (Txt.item x a == Str.ofString "(") && (decide (a = 0) || (Txt.item x (a - 1) == Str.ofString "\n"))
theorem up_lt {i n : Nat} (h : i < n) : (0 : Int) ≤ (i : Int) ∧ (i : Int) < n := by omega
theorem ist_0 {x : Str} {a : Int} (h : (Txt.item x a == Str.ofString "(") = false) : isSt x a = false := by unfold isSt; rw [h]; rfl
theorem ist_1 {x : Str} {a : Int} (h : (Txt.item x a == Str.ofString "(") = true) (h2 : a = 0) : isSt x a = true := by unfold isSt; rw [h, decide_eq_true h2]; rfl
theorem ist_2 {x : Str} {a : Int} (h : (Txt.item x a == Str.ofString "(") = true) (h2 : (Txt.item x (a - 1) == Str.ofString "\n") = true) : isSt x a = true := by unfold isSt; rw [h, h2]; simp
theorem ist_3 {x : Str} {a : Int} (h : (Txt.item x a == Str.ofString "(") = true) (h0 : ¬ a = 0) (h2 : (Txt.item x (a - 1) == Str.ofString "\n") = false) : isSt x a = false := by unfold isSt; rw [h, h2, decide_eq_false h0]; rfl
def startsD (x : Str) : List Int := (upTo x.length).filter (isSt x)
def lookD (x : Str) (p : Int) : List Int := List.drop ((List.filter (fun a => decide (a ≤ p)) (startsD x)).length - 1) (List.filter (fun a => decide (a ≤ p)) (startsD x)) ++ List.filter (fun a => decide (p < a)) (startsD x)
/-- the rest of the line behind place e -/
def lineD (x : Str) (e : Int) : Str := (Txt.split (Txt.slice x (some e) none) (Str.ofString "\n")).headD (Str.ofString "")
def endsD (x : Str) (e : Int) : Bool := (Txt.stripChars (lineD x e) (Str.ofString " ") == Str.ofString "") && !(Builtin.Str.occurrences (Txt.slice x (some e) none) (Str.ofString "\n") 0 (Txt.slice x (some e) none).length 1).isEmpty
/-- where a text goes on behind the blanks behind place e -/
def LD (x : Str) (e b : Int) : Prop := b = if endsD x e = true then e + (lineD x e).length + 1 else e
theorem line_of {x y : Str} {e : Int} {l : List (Str × Tok)} (h1 : List.map (fun x => x.fst) l = Txt.split (Txt.slice x (some e) none) (Str.ofString "\n")) (h2 : (List.map (fun x => x.fst) l)[Int.toNat 0]? = some y) (h3 : ∀ a ∈ List.map (fun x => x.fst) l, a.length ≤ (Txt.slice x (some e) none).length) (h4 : (Txt.slice x (some e) none).length ≤ x.length) : lineD x e = y ∧ y.length ≤ x.length := by
  refine ⟨?_, Nat.le_trans (h3 y (List.mem_of_getElem? h2)) h4⟩
  unfold lineD
  rw [← h1]
  generalize List.map (fun x => x.fst) l = k at h2
  cases k with
  | nil => cases h2
  | cons a r => exact Option.some.inj h2
inductive DTold (x : Str) (p : Int) : List Int → Outc → Prop
  | nil : DTold x p [] .none
  | sig {st : Int} {r : List Int} : LawEnd x st .none → DTold x p (st :: r) .sig
  | ret {st e b : Int} {t : Tok} {r : List Int} : LawEnd x st (.int e t) → LD x e b → p < b → DTold x p (st :: r) (.ret b)
  | next {st e b : Int} {t : Tok} {r : List Int} {o : Outc} : LawEnd x st (.int e t) → LD x e b → ¬ p < b → DTold x p r o → DTold x p (st :: r) o
theorem ld_yes {x y : Str} {e : Int} (hy : lineD x e = y) (h : (Txt.stripChars y (Str.ofString " ") == Str.ofString "") = true) (h2 : (Builtin.Str.occurrences (Txt.slice x (some e) none) (Str.ofString "\n") 0 (Txt.slice x (some e) none).length 1).isEmpty = false) : LD x e (e + y.length + 1) := by
  unfold LD endsD; rw [hy, h, h2]; rfl
theorem ld_no1 {x y : Str} {e : Int} (hy : lineD x e = y) (h : (Txt.stripChars y (Str.ofString " ") == Str.ofString "") = false) : LD x e e := by
  unfold LD endsD; rw [hy, h]; rfl
theorem ld_no2 {x : Str} {e : Int} (h2 : (Builtin.Str.occurrences (Txt.slice x (some e) none) (Str.ofString "\n") 0 (Txt.slice x (some e) none).length 1).isEmpty = true) : LD x e e := by
  unfold LD endsD; rw [h2]; simp
theorem d_next {x : Str} {p st e b : Int} {t : Tok} {pre : List Int} (hP : ∀ r o, DTold x p r o → DTold x p (pre ++ r) o) (hf : LawEnd x st (.int e t)) (hb : LD x e b) (hn : ¬ p < b) : ∀ r o, DTold x p r o → DTold x p (pre ++ [st] ++ r) o := fun r o h => by
  rw [List.append_assoc]
  exact hP _ _ (.next hf hb hn h)
theorem d_ret {x : Str} {p st e b : Int} {t : Tok} {pre post L : List Int} (hL : L = pre ++ st :: post) (hP : ∀ r o, DTold x p r o → DTold x p (pre ++ r) o) (hlt : p < b) (hf : LawEnd x st (.int e t)) (hb : LD x e b) : DTold x p L (.ret b) := by
  rw [hL]
  exact hP _ _ (.ret hf hb hlt)
theorem d_sig {x : Str} {p st : Int} {pre post L : List Int} (hL : L = pre ++ st :: post) (hP : ∀ r o, DTold x p r o → DTold x p (pre ++ r) o) (h : LawEnd x st .none) : DTold x p L .sig := by
  rw [hL]
  exact hP _ _ (.sig h)
theorem d_none {x : Str} {p : Int} {L : List Int} (hP : ∀ r o, DTold x p r o → DTold x p (L ++ r) o) : DTold x p L .none := by
  have := hP [] .none .nil
  rwa [List.append_nil] at this
theorem tl7 {α : Type} {a b c d e f g : α} {l : List α} : ∀ q ∈ l, q ∈ a :: b :: c :: d :: e :: f :: g :: l := fun q hq => by simp [hq]
theorem hd7 {α : Type} {a b c d e f g : α} {l : List α} : g ∈ a :: b :: c :: d :: e :: f :: g :: l := by simp
theorem du_mem {x : Str} {p st : Int} {pre post : List Int} (h : lookD x p = pre ++ st :: post) : 0 ≤ st ∧ st < x.length := by
  have hm : st ∈ startsD x := by
    have hm0 : st ∈ lookD x p := by rw [h]; exact List.mem_append_right _ (.head _)
    rcases List.mem_append.mp hm0 with h | h
    · exact (List.mem_filter.mp (List.mem_of_mem_drop h)).1
    · exact (List.mem_filter.mp h).1
  have h1 := (List.mem_filter.mp hm).1
  unfold upTo at h1
  obtain ⟨i, h2, rfl⟩ := List.mem_map.mp h1
  have := List.mem_range.mp h2
  omega
theorem starts_lenD (x : Str) : (startsD x).length ≤ x.length := by
  have h := List.length_filter_le (isSt x) (upTo x.length)
  unfold upTo at h
  rwa [List.length_map, List.length_range] at h
theorem law_due {news : List (Addr × Obj)} {x : Str} {p : Int} {tx tp : Tok} (hx : x.length ≤ 100) (hp : 0 ≤ p ∧ p ≤ x.length) :
    Ct prog w mean mg mb 693 8 news [.str x tx, .int p tp] (fun r news' => news' = news ∧ ∃ o, DTold x p (lookD x p) o ∧ ((o = .none ∧ r = .none) ∨ (∃ b t', o = .ret b ∧ r = .int b t') ∨ ∃ t', o = .sig ∧ r = .str (Str.ofString "scan-error") t')) := by
  have hsl := starts_lenD x
  have hsl2 : (startsD x).length ≤ 1048576 := by omega
  have hsl3 : (startsD x).length ≤ 16777216 := by omega
  have hx8 : x.length ≤ 1000 := by omega
  intro c00 A₀ base h₀ L m sHp sGn sDr sTk sOs Q E B F X N T hk hd hu hret
  refine wpAny_call ?_
  k_dflt (refine' code_defC (binds := [(Str.ofString "_law_text", Value.str x tx), (Str.ofString "_law_place", Value.int p tp)]) ?k1 ?k2 ?k3 ?k4 ?k5 ?kA ?kF ?kK ?k6 ?k7 ?k8 ?k9 ?kB ?kD ?_ ?c2 ?c3 ?c4; (case kA => exact rfl); (case kF => exact rfl); (case kK => first | exact rfl | assumption); (case k1 => k_asm); (case k2 => k_asm); (case k3 => k_asm); (case k4 => k_asm); (case k5 => k_asm); (case k6 => k_is); (case k7 => k_is); (case k8 => ktr_room); (case k9 => first | exact BindsTo.of_eq rfl | exact binds_K (by k_in) rfl (by k_is) rfl rfl rfl); (case kB => exact rfl); (case kD => decide +kernel); (case c2 => exact rfl); (case c3 => exact rfl); (case c4 => exact rfl); k_whole; intro g' L' h' tk' cells' FG' F' N' Y' B' X' T' l1; (try k_lt l1); k_cells Y'; (try simp only [List.cons_append, List.nil_append] at N'); (try dsimp only); (try k_lift B'); (try k_fold))
  k_steps

  all_goals (first
    | (refine' hret _ news _ _ ?e1 ?e2 ⟨rfl, _, d_sig hL9 hP9 (.inr ⟨f1, rfl⟩), .inr (.inr ⟨_, rfl, rfl⟩)⟩; (case e1 => k_asm); (case e2 => exact cb_drop (by k_asm) hmn))
    | (refine' hret _ news _ _ ?e1 ?e2 ⟨rfl, _, d_ret hL9 hP9 (by assumption) (.inl ⟨n9, t9, f1, f2, f3, f4, rfl⟩) ?ld, .inr (.inl ⟨_, _, rfl, rfl⟩)⟩; (case e1 => k_asm); (case e2 => exact cb_drop (by k_asm) (fun q hq => List.mem_cons_of_mem _ (hmn q hq))); (case ld => first | exact ld_yes hy1 (by assumption) (by assumption) | exact ld_no1 hy1 (by assumption) | exact ld_no2 (by assumption)))
    | (refine' hret _ news _ _ ?e1 ?e2 ⟨rfl, _, d_none hP9, .inl ⟨rfl, rfl⟩⟩; (case e1 => k_asm); (case e2 => exact cb_drop (by k_asm) (by (intro p9 hp9; first | exact hp9 | exact .tail _ hp9 | exact .tail _ (.tail _ hp9) | exact .tail _ (.tail _ (.tail _ hp9)) | exact .tail _ (.tail _ (.tail _ (.tail _ hp9))) | exact .tail _ (.tail _ (.tail _ (.tail _ (.tail _ hp9)))) | exact .tail _ (.tail _ (.tail _ (.tail _ (.tail _ (.tail _ hp9))))) | exact .tail _ (.tail _ (.tail _ (.tail _ (.tail _ (.tail _ (.tail _ hp9))))))))))
    | trace_state)
example : True := by
  k_with_none
  w_top off
  exact trivial
example : True := by
  k_with "mroom" => with_unfolding_all first | ((rename (_ + _ < recursionLimit) => hZq7); first | exact room_lt hZq7 0 rfl rfl | exact room_lt hZq7 1 rfl rfl | exact room_lt hZq7 2 rfl rfl | exact room_lt hZq7 3 rfl rfl | exact room_lt hZq7 4 rfl rfl | exact room_lt hZq7 5 rfl rfl | exact room_lt hZq7 6 rfl rfl | exact room_lt hZq7 7 rfl rfl | exact room_lt hZq7 8 rfl rfl | exact room_lt hZq7 9 rfl rfl | exact room_lt hZq7 10 rfl rfl | exact room_lt hZq7 11 rfl rfl | exact room_lt hZq7 12 rfl rfl | exact room_lt hZq7 13 rfl rfl | exact room_lt hZq7 14 rfl rfl | exact room_lt hZq7 15 rfl rfl) | exact lt_ble rfl | fail "mroom"
  exact trivial
example : True := by
  k_with "munits" => with_unfolding_all first | ((rename (_ + _ + _ < cLine) => hZq7); first | exact unit_lt2 hZq7 0 rfl rfl | exact unit_lt2 hZq7 3 rfl rfl | exact unit_lt2 hZq7 6 rfl rfl | exact unit_lt2 hZq7 9 rfl rfl | exact unit_lt2 hZq7 12 rfl rfl | exact unit_lt hZq7 0 rfl rfl | exact unit_lt hZq7 3 rfl rfl | exact unit_lt hZq7 6 rfl rfl | exact unit_lt hZq7 9 rfl rfl | exact unit_lt hZq7 12 rfl rfl) | exact lt_ble rfl | fail "munits"
  exact trivial
example : True := by
  k_with "mne" => (refine neN ?_; (try dsimp only); first | assumption | exact Ne.symm (by assumption) | exact Nat.ne_of_lt (by assumption) | exact Nat.ne_of_gt (by assumption) | fail "mne")
  exact trivial
/-- the codes of a text -/
theorem code_item {x : Str} {i : Int} (h0 : 0 ≤ i) (h1 : i < x.length) : ∃ c : Nat, Txt.item x i = ⟨#[c]⟩ ∧ codeAt (KStt.codes x) (i + 1) = c := by
  have hl : i.toNat < x.cps.size := by have : x.length = x.cps.size := rfl; omega
  refine ⟨x.cps[i.toNat], item_meets h0 (Array.getElem?_eq_getElem hl), ?_⟩
  unfold codeAt
  have e : (i + 1 - 1).toNat = i.toNat := by omega
  rw [if_pos ⟨by omega, by rw [KStt.codes_length]; omega⟩, e]
  unfold KStt.codes
  simp [hl]
theorem one_eq {c d : Nat} : ((⟨#[c]⟩ : Str) == ⟨#[d]⟩) = decide ((c : Int) = d) := by
  by_cases h : c = d
  · subst h; simp
  · have h2 : ¬ (c : Int) = d := by omega
    rw [decide_eq_false h2]
    apply beq_eq_false_iff_ne.mpr
    intro e
    have := congrArg (fun z : Str => z.cps.toList) e
    simp at this
    exact h this
theorem nl_one : Str.ofString "\n" = ⟨#[10]⟩ := by decide +kernel
theorem op_one : Str.ofString "(" = ⟨#[40]⟩ := by decide +kernel
theorem cl_one : Str.ofString ")" = ⟨#[41]⟩ := by decide +kernel
theorem item_is {x : Str} {i : Int} (h0 : 0 ≤ i) (h1 : i < x.length) (d : Nat) : (Txt.item x i == ⟨#[d]⟩) = decide (codeAt (KStt.codes x) (i + 1) = d) := by
  obtain ⟨c, e1, e2⟩ := code_item h0 h1
  rw [e1, e2, one_eq]
theorem sdelta_code (c : Int) : sdelta (kindOf c) = if c = 40 then 1 else if c = 41 then -1 else 0 := by
  unfold sdelta kindOf
  by_cases h1 : c = 10
  · subst h1; decide
  · by_cases h2 : c = 32
    · subst h2; decide
    · by_cases h3 : c = 40
      · subst h3; decide
      · by_cases h4 : c = 41
        · subst h4; decide
        · rw [if_neg h1, if_neg h2, if_neg h3, if_neg h4, if_neg h3, if_neg h4]; decide
theorem bal_eq {x : Str} {st : Int} (h0 : 0 ≤ st) : ∀ k : Nat, st + k ≤ x.length → dTo (KStt.codes x) (st + 1) k = tbal x st k
  | 0, _ => rfl
  | k + 1, h => by
    have h1 : st + k < x.length := by omega
    have ih := bal_eq (x := x) h0 k (by omega)
    rw [dTo, tbal, ih, sdelta_code]
    congr 1
    have e : st + 1 + (k : Int) = st + k + 1 := by omega
    unfold tdelta
    have i1 := fun d => item_is (x := x) (i := st + k) (by omega) h1 d
    rw [op_one, cl_one, i1, i1, e]
    simp
theorem start_eq {x : Str} {i : Nat} (h : i < x.length) : IsStart (KStt.codes x) (i + 1) ↔ isSt x i = true := by
  unfold IsStart isSt
  rw [op_one, nl_one, item_is (by omega) (by omega)]
  by_cases h0 : i = 0
  · subst h0; simp
  · rw [item_is (i := (i : Int) - 1) (by omega) (by omega)]
    have e1 : (i : Int) + 1 - 1 = i := by omega
    have e2 : (i : Int) - 1 + 1 = i := by omega
    have e3 : ¬ ((i : Int) + 1 = 1) := by omega
    have e4 : ¬ ((i : Int) = 0) := by omega
    rw [e1, e2]
    simp [e3, h0]
theorem starts_eq {x : Str} : ∀ k : Nat, k ≤ x.length → startsTo (KStt.codes x) k = ((upTo k).filter (isSt x)).map (· + 1)
  | 0, _ => rfl
  | k + 1, h => by
    rw [startsTo, starts_eq k (by omega), upTo_succ, List.filter_append, List.map_append, List.filter_cons]
    congr 1
    by_cases hs : isSt x k = true
    · rw [if_pos ((start_eq (by omega)).mpr hs), if_pos hs]; rfl
    · rw [if_neg (fun z => hs ((start_eq (by omega)).mp z)), if_neg hs]; rfl
theorem look_eq {x : Str} {p : Int} : lookAt (KStt.codes x) (p + 1) = (lookD x p).map (· + 1) := by
  have hs : startsTo (KStt.codes x) (KStt.codes x).length = (startsD x).map (· + 1) := by rw [KStt.codes_length]; exact starts_eq _ (Nat.le_refl _)
  have f1 : List.filter (fun a => decide (a ≤ p + 1)) ((startsD x).map (· + 1)) = (List.filter (fun a => decide (a ≤ p)) (startsD x)).map (· + 1) := by
    rw [List.filter_map]; congr 1; apply List.filter_congr; intro a _; simp
  have f2 : List.filter (fun a => decide (p + 1 < a)) ((startsD x).map (· + 1)) = (List.filter (fun a => decide (p < a)) (startsD x)).map (· + 1) := by
    rw [List.filter_map]; congr 1; apply List.filter_congr; intro a _; simp
  unfold lookAt lookD
  rw [hs, f1, f2, List.map_append, List.map_drop, List.length_map]
example : True := by
  k_with_none
  w_top off
  exact trivial
example : True := by
  k_with "mroom" => with_unfolding_all first | ((rename (_ + _ < recursionLimit) => hZq7); first | exact room_lt hZq7 0 rfl rfl | exact room_lt hZq7 1 rfl rfl | exact room_lt hZq7 2 rfl rfl | exact room_lt hZq7 3 rfl rfl | exact room_lt hZq7 4 rfl rfl | exact room_lt hZq7 5 rfl rfl | exact room_lt hZq7 6 rfl rfl | exact room_lt hZq7 7 rfl rfl | exact room_lt hZq7 8 rfl rfl | exact room_lt hZq7 9 rfl rfl | exact room_lt hZq7 10 rfl rfl | exact room_lt hZq7 11 rfl rfl | exact room_lt hZq7 12 rfl rfl | exact room_lt hZq7 13 rfl rfl | exact room_lt hZq7 14 rfl rfl | exact room_lt hZq7 15 rfl rfl) | exact lt_ble rfl | fail "mroom"
  exact trivial
example : True := by
  k_with "munits" => with_unfolding_all first | ((rename (_ + _ + _ < cLine) => hZq7); first | exact unit_lt2 hZq7 0 rfl rfl | exact unit_lt2 hZq7 3 rfl rfl | exact unit_lt2 hZq7 6 rfl rfl | exact unit_lt2 hZq7 9 rfl rfl | exact unit_lt2 hZq7 12 rfl rfl | exact unit_lt hZq7 0 rfl rfl | exact unit_lt hZq7 3 rfl rfl | exact unit_lt hZq7 6 rfl rfl | exact unit_lt hZq7 9 rfl rfl | exact unit_lt hZq7 12 rfl rfl) | exact lt_ble rfl | fail "munits"
  exact trivial
example : True := by
  k_with "mne" => (refine neN ?_; (try dsimp only); first | assumption | exact Ne.symm (by assumption) | exact Nat.ne_of_lt (by assumption) | exact Nat.ne_of_gt (by assumption) | fail "mne")
  exact trivial
theorem list_ext_eq {x : Str} {l : List Nat} (h : x = ⟨l.toArray⟩) : x.cps.toList = l := by rw [h]
/-- how a text falls at its first line break -/
theorem line_fall (y : Str) : ∃ (ps tl : List Nat), (Txt.split y ⟨#[10]⟩).headD (Str.ofString "") = ⟨ps.toArray⟩ ∧ y.cps.toList = ps ++ tl ∧ 10 ∉ ps ∧ (tl = [] ∨ ∃ r, tl = 10 :: r) := by
  have hj := StrLaws.join_split y ⟨#[10]⟩
  have hf := StrLaws.split_free y 10
  have hp := split_pos y ⟨#[10]⟩
  generalize Txt.split y ⟨#[10]⟩ = l at hj hf hp
  cases l with
  | nil => exact absurd hp (by simp)
  | cons a r =>
    have ha := hf a (.head _)
    refine ⟨a.cps.toList, ?_⟩
    cases r with
    | nil => exact ⟨[], rfl, by rw [List.append_nil, ← hj]; rfl, ha, .inl rfl⟩
    | cons b r =>
      refine ⟨10 :: (Str.join ⟨#[10]⟩ (b :: r)).cps.toList, rfl, ?_, ha, .inr ⟨_, rfl⟩⟩
      rw [← hj]
      show (a ++ ⟨#[10]⟩ ++ Str.join ⟨#[10]⟩ (b :: r)).cps.toList = _
      rw [Str.cps_append, Str.cps_append, Array.toList_append, Array.toList_append]
      simp
theorem empty_len (z : Str) : (z == Str.ofString "") = decide (z.length = 0) := by
  by_cases h : z.length = 0
  · rw [decide_eq_true h]
    have : z = Str.ofString "" := by
      have e : z.cps = #[] := Array.eq_empty_of_size_eq_zero h
      cases z; simp only at e; subst e; rfl
    rw [this]; simp
  · rw [decide_eq_false h]
    apply beq_eq_false_iff_ne.mpr
    intro e; apply h; rw [e]; rfl
theorem sp_one : Str.ofString " " = ⟨#[32]⟩ := by decide +kernel
theorem getD_lt {l : List Nat} {k : Nat} (h : k < l.length) : l.getD k 0 = l[k] := by simp [List.getD, h]
theorem strip_empty {ps : List Nat} : (Txt.stripChars ⟨ps.toArray⟩ (Str.ofString " ") == Str.ofString "") = ps.all (· == 32) := by
  have goes : ∀ c : Nat, (Str.ofString " ").cps.contains c = (c == 32) := fun c => by rw [sp_one]; simp; rfl
  obtain ⟨l1, l2, l3⟩ := lo_facts (Str.ofString " ").cps.contains (⟨ps.toArray⟩ : Str)
  obtain ⟨h1, h2, h3, h4⟩ := hi_facts (Str.ofString " ").cps.contains (⟨ps.toArray⟩ : Str) _ l1
  have hlen : (⟨ps.toArray⟩ : Str).length = ps.length := by simp [Str.length]
  rw [empty_len]
  unfold Txt.stripChars
  rw [PyProof.Rows.stripBy_eq, size_strSub _ _ _ h2]
  generalize stripLo (Str.ofString " ").cps.contains true (⟨ps.toArray⟩ : Str) = lo at *
  generalize stripHi (Str.ofString " ").cps.contains true (⟨ps.toArray⟩ : Str) lo = hi at *
  rw [hlen] at l1 l3 h2 h3
  have hget : ∀ k, k < ps.length → (⟨ps.toArray⟩ : Str).cps.getD k 0 = ps.getD k 0 := fun k hk => by simp [Array.getD, hk]
  by_cases hall : ps.all (· == 32) = true
  · rw [hall]
    apply decide_eq_true
    rcases l3 with l3 | l3
    · omega
    · by_cases hlt : lo < ps.length
      · rw [hget lo hlt, goes, getD_lt hlt] at l3
        have := List.all_eq_true.mp hall _ (List.getElem_mem hlt)
        rw [l3] at this; cases this
      · omega
  · have hf : ps.all (· == 32) = false := by simpa using hall
    rw [hf]
    apply decide_eq_false
    intro h0
    apply hall
    have e : hi = lo := by omega
    rw [List.all_eq_true]
    intro c hc
    obtain ⟨k, hk, rfl⟩ := List.getElem_of_mem hc
    have hk2 : (Str.ofString " ").cps.contains ((⟨ps.toArray⟩ : Str).cps.getD k 0) = true := by
      by_cases q : k < lo
      · exact l2 k q
      · exact h3 k (by omega) hk
    rw [hget k hk, goes, getD_lt hk] at hk2
    exact hk2
example : True := by
  k_with_none
  w_top off
  exact trivial
example : True := by
  k_with "mroom" => with_unfolding_all first | ((rename (_ + _ < recursionLimit) => hZq7); first | exact room_lt hZq7 0 rfl rfl | exact room_lt hZq7 1 rfl rfl | exact room_lt hZq7 2 rfl rfl | exact room_lt hZq7 3 rfl rfl | exact room_lt hZq7 4 rfl rfl | exact room_lt hZq7 5 rfl rfl | exact room_lt hZq7 6 rfl rfl | exact room_lt hZq7 7 rfl rfl | exact room_lt hZq7 8 rfl rfl | exact room_lt hZq7 9 rfl rfl | exact room_lt hZq7 10 rfl rfl | exact room_lt hZq7 11 rfl rfl | exact room_lt hZq7 12 rfl rfl | exact room_lt hZq7 13 rfl rfl | exact room_lt hZq7 14 rfl rfl | exact room_lt hZq7 15 rfl rfl) | exact lt_ble rfl | fail "mroom"
  exact trivial
example : True := by
  k_with "munits" => with_unfolding_all first | ((rename (_ + _ + _ < cLine) => hZq7); first | exact unit_lt2 hZq7 0 rfl rfl | exact unit_lt2 hZq7 3 rfl rfl | exact unit_lt2 hZq7 6 rfl rfl | exact unit_lt2 hZq7 9 rfl rfl | exact unit_lt2 hZq7 12 rfl rfl | exact unit_lt hZq7 0 rfl rfl | exact unit_lt hZq7 3 rfl rfl | exact unit_lt hZq7 6 rfl rfl | exact unit_lt hZq7 9 rfl rfl | exact unit_lt hZq7 12 rfl rfl) | exact lt_ble rfl | fail "munits"
  exact trivial
example : True := by
  k_with "mne" => (refine neN ?_; (try dsimp only); first | assumption | exact Ne.symm (by assumption) | exact Nat.ne_of_lt (by assumption) | exact Nat.ne_of_gt (by assumption) | fail "mne")
  exact trivial
theorem code_drop {x : Str} {e j : Nat} (he : e ≤ x.length) : codeAt (KStt.codes x) ((e : Int) + 1 + j) = match (x.cps.toList.drop e)[j]? with | some c => (c : Int) | none => -1 := by
  have hl : x.length = x.cps.toList.length := by simp [Str.length]
  unfold codeAt
  rw [KStt.codes_length, List.getElem?_drop]
  by_cases h : e + j < x.length
  · have e1 : ((e : Int) + 1 + j - 1).toNat = e + j := by omega
    have h2 : e + j < x.cps.toList.length := by omega
    rw [if_pos (by omega), e1, List.getElem?_eq_getElem h2]
    unfold KStt.codes
    simp only [List.getD, List.getElem?_map, List.getElem?_eq_getElem h2, Option.map_some, Option.getD_some]
  · have h2 : x.cps.toList.length ≤ e + j := by omega
    rw [if_neg (by omega), List.getElem?_eq_none h2]
theorem ends_eq {x : Str} {e : Nat} (he : e ≤ x.length) : ∃ ps tl : List Nat, x.cps.toList.drop e = ps ++ tl ∧ 10 ∉ ps ∧ (tl = [] ∨ ∃ r, tl = 10 :: r) ∧ (lineD x e).length = ps.length ∧ (endsD x e = true ↔ (∀ c ∈ ps, c = 32) ∧ tl ≠ []) := by
  have hy : (Txt.slice x (some (e : Int)) none).cps.toList = x.cps.toList.drop e := by
    rw [slice_from_eq (b := x.length) (by omega) (by omega) rfl]
    have hl : x.length = x.cps.toList.length := by simp [Str.length]
    show (x.cps.toList.drop (e : Int).toNat).take _ = _
    rw [Int.toNat_natCast, List.take_of_length_le]
    rw [List.length_drop]; omega
  obtain ⟨ps, tl, h1, h2, h3, h4⟩ := line_fall (Txt.slice x (some (e : Int)) none)
  refine ⟨ps, tl, by rw [← hy]; exact h2, h3, h4, ?_, ?_⟩
  · unfold lineD; rw [nl_one, h1]; simp [Str.length]
  · unfold endsD lineD
    have hf := StrLaws.found_one (Txt.slice x (some (e : Int)) none) 10
    rw [nl_one, h1, strip_empty, hf, h2]
    rw [Bool.and_eq_true, List.all_eq_true, decide_eq_true_eq]
    constructor
    · rintro ⟨a, b⟩
      refine ⟨fun c hc => by simpa using a c hc, fun e => ?_⟩
      rw [e, List.append_nil] at b
      exact h3 b
    · rintro ⟨a, b⟩
      refine ⟨fun c hc => by simp [a c hc], ?_⟩
      rcases h4 with h4 | ⟨r, h4⟩
      · exact absurd h4 b
      · rw [h4]; simp
theorem ld_eq {x : Str} {e b b' : Int} (hal : ∀ c ∈ KStt.codes x, Alpha c) (h0 : 0 ≤ e) (h1 : e ≤ x.length) (hb : LB (KStt.codes x) (e + 1) b) (hd : LD x e b') : b = b' + 1 := by
  obtain ⟨e, rfl⟩ := Int.eq_ofNat_of_zero_le h0
  have he : e ≤ x.length := by omega
  obtain ⟨ps, tl, g1, g2, g3, g4, g5⟩ := ends_eq he
  obtain ⟨a, a1, a2, a3, a4⟩ := hb
  obtain ⟨i, ei⟩ := Int.eq_ofNat_of_zero_le (show 0 ≤ a - ((e : Int) + 1) by omega)
  have ea : a = (e : Int) + 1 + i := by omega
  subst ea
  have hc : ∀ j : Nat, codeAt (KStt.codes x) ((e : Int) + 1 + j) = match (ps ++ tl)[j]? with | some c => (c : Int) | none => -1 := fun j => by rw [code_drop he, g1]
  have hA : ∀ c ∈ ps ++ tl, Alpha (c : Int) := fun c hc => hal c (by
    unfold KStt.codes
    refine List.mem_map.mpr ⟨c, ?_, rfl⟩
    rw [← g1] at hc
    exact List.mem_of_mem_drop hc)
  unfold LD at hd
  by_cases hE : endsD x e = true
  · obtain ⟨w1, w2⟩ := g5.mp hE
    obtain ⟨r, rfl⟩ : ∃ r, tl = 10 :: r := by rcases g3 with h | h; exact absurd h w2; exact h
    have hn : codeAt (KStt.codes x) ((e : Int) + 1 + ps.length) = 10 := by rw [hc]; simp
    have hi : i = ps.length := by
      rcases Nat.lt_trichotomy i ps.length with q | q | q
      · exfalso
        have hq := hc i
        rw [List.getElem?_append_left q, List.getElem?_eq_getElem q] at hq
        have := w1 _ (List.getElem_mem q)
        rw [this] at hq
        exact a3 (.inr hq)
      · exact q
      · exfalso
        have := a2 ((e : Int) + 1 + ps.length) (by omega) (by omega)
        rw [hn] at this
        omega
    subst hi
    rw [if_pos hE, g4] at hd
    rw [if_pos hn] at a4
    omega
  · rw [if_neg hE] at hd
    have hn : ¬ codeAt (KStt.codes x) ((e : Int) + 1 + i) = 10 := by
      intro hn
      apply hE
      have hq := hc i
      rw [hn] at hq
      have hlt : i < (ps ++ tl).length := by
        rcases Nat.lt_or_ge i (ps ++ tl).length with h | h
        · exact h
        · rw [List.getElem?_eq_none h] at hq; simp at hq
      rw [List.getElem?_eq_getElem hlt] at hq
      have h10 : (ps ++ tl)[i] = 10 := by simp only at hq; omega
      have hge : ps.length ≤ i := by
        rcases Nat.lt_or_ge i ps.length with h | h
        · exfalso; apply g2; rw [← h10, List.getElem_append_left h]; exact List.getElem_mem h
        · exact h
      refine g5.mpr ⟨fun c hcm => ?_, fun ht => ?_⟩
      · obtain ⟨k, hk, rfl⟩ := List.getElem_of_mem hcm
        have hk2 := a2 ((e : Int) + 1 + k) (by omega) (by omega)
        rw [hc k, List.getElem?_append_left hk, List.getElem?_eq_getElem hk] at hk2
        simp only at hk2
        have hAk := hA _ (List.mem_append_left _ (List.getElem_mem hk))
        unfold Alpha at hAk
        omega
      · rw [ht, List.append_nil] at hlt; omega
    rw [if_neg hn] at a4
    omega
example : True := by
  k_with_none
  w_top off
  exact trivial
example : True := by
  k_with "mroom" => with_unfolding_all first | ((rename (_ + _ < recursionLimit) => hZq7); first | exact room_lt hZq7 0 rfl rfl | exact room_lt hZq7 1 rfl rfl | exact room_lt hZq7 2 rfl rfl | exact room_lt hZq7 3 rfl rfl | exact room_lt hZq7 4 rfl rfl | exact room_lt hZq7 5 rfl rfl | exact room_lt hZq7 6 rfl rfl | exact room_lt hZq7 7 rfl rfl | exact room_lt hZq7 8 rfl rfl | exact room_lt hZq7 9 rfl rfl | exact room_lt hZq7 10 rfl rfl | exact room_lt hZq7 11 rfl rfl | exact room_lt hZq7 12 rfl rfl | exact room_lt hZq7 13 rfl rfl | exact room_lt hZq7 14 rfl rfl | exact room_lt hZq7 15 rfl rfl) | exact lt_ble rfl | fail "mroom"
  exact trivial
example : True := by
  k_with "munits" => with_unfolding_all first | ((rename (_ + _ + _ < cLine) => hZq7); first | exact unit_lt2 hZq7 0 rfl rfl | exact unit_lt2 hZq7 3 rfl rfl | exact unit_lt2 hZq7 6 rfl rfl | exact unit_lt2 hZq7 9 rfl rfl | exact unit_lt2 hZq7 12 rfl rfl | exact unit_lt hZq7 0 rfl rfl | exact unit_lt hZq7 3 rfl rfl | exact unit_lt hZq7 6 rfl rfl | exact unit_lt hZq7 9 rfl rfl | exact unit_lt hZq7 12 rfl rfl) | exact lt_ble rfl | fail "munits"
  exact trivial
example : True := by
  k_with "mne" => (refine neN ?_; (try dsimp only); first | assumption | exact Ne.symm (by assumption) | exact Nat.ne_of_lt (by assumption) | exact Nat.ne_of_gt (by assumption) | fail "mne")
  exact trivial
def SameOut : Outc → Outc → Prop
  | .none, .none => True
  | .sig, .sig => True
  | .ret b, .ret b' => b = b' + 1
  | _, _ => False
theorem law_int {x : Str} {st e : Int} {t : Tok} (h : LawEnd x st (.int e t)) : ∃ n : Nat, 1 ≤ n ∧ st + n ≤ x.length ∧ tbal x st n = 0 ∧ (∀ k, 1 ≤ k → k < n → tbal x st k ≠ 0) ∧ e = st + n := by
  rcases h with ⟨n, t', a, b, c, d, e1⟩ | ⟨_, e1⟩
  · exact ⟨n, a, b, c, d, by injection e1⟩
  · cases e1
theorem law_none {x : Str} {st : Int} (h : LawEnd x st .none) : ∀ k : Nat, 1 ≤ k → st + k ≤ x.length → tbal x st k ≠ 0 := by
  rcases h with ⟨n, t', a, b, c, d, e1⟩ | ⟨h, _⟩
  · cases e1
  · exact h
theorem scan_int {x : Str} {st e : Int} {t : Tok} (h0 : 0 ≤ st) (h : ScanFound (KStt.codes x) (st + 1) (.int e t)) : ∃ n : Nat, 1 ≤ n ∧ st + n ≤ x.length ∧ tbal x st n = 0 ∧ (∀ k, 1 ≤ k → k < n → tbal x st k ≠ 0) ∧ e = st + n + 1 := by
  obtain ⟨n, t', a, b, c, d, e1⟩ := h
  rw [KStt.codes_length] at b
  have e2 : e = st + 1 + n := by injection e1
  refine ⟨n, a, by omega, by rw [← bal_eq h0 n (by omega)]; exact c, fun k k1 k2 => by rw [← bal_eq h0 k (by omega)]; exact d k k1 k2, by omega⟩
theorem found_same {x : Str} {st e e' : Int} {t t' : Tok} (h0 : 0 ≤ st) (h : ScanFound (KStt.codes x) (st + 1) (.int e t)) (h' : LawEnd x st (.int e' t')) : e = e' + 1 ∧ 0 ≤ e' ∧ e' ≤ x.length := by
  obtain ⟨n, a, b, c, d, e1⟩ := scan_int h0 h
  obtain ⟨n', a', b', c', d', e1'⟩ := law_int h'
  have : n = n' := by
    rcases Nat.lt_trichotomy n n' with q | q | q
    · exact absurd c (d' n a q)
    · exact q
    · exact absurd c' (d n' a' q)
  subst this
  omega
theorem told_same {x : Str} {p : Int} (hal : ∀ c ∈ KStt.codes x, Alpha c) : ∀ {L : List Int} {o o' : Outc}, (∀ a ∈ L, 0 ≤ a ∧ a < x.length) → Told (KStt.codes x) (p + 1) (L.map (· + 1)) o → DTold x p L o' → SameOut o o' := by
  intro L
  induction L with
  | nil =>
    intro o o' _ h h'
    cases h; cases h'; trivial
  | cons st r ih =>
    intro o o' hL h h'
    have h0 := (hL st (.head _)).1
    have hr := fun (o o' : Outc) => ih (o := o) (o' := o') (fun a ha => hL a (.tail _ ha))
    rw [List.map_cons] at h
    cases h with
    | sig h =>
      cases h' with
      | sig h' => trivial
      | ret f' l' lt' =>
        obtain ⟨n, a, b, c, d, e1⟩ := law_int f'
        refine absurd ?_ (h n a (by rw [KStt.codes_length]; omega))
        rw [bal_eq h0 n (by omega)]; exact c
      | next f' l' lt' t' =>
        obtain ⟨n, a, b, c, d, e1⟩ := law_int f'
        refine absurd ?_ (h n a (by rw [KStt.codes_length]; omega))
        rw [bal_eq h0 n (by omega)]; exact c
    | ret f l lt =>
      cases h' with
      | sig h' =>
        obtain ⟨n, a, b, c, d, e1⟩ := scan_int h0 f
        exact absurd c (law_none h' n a b)
      | ret f' l' lt' =>
        obtain ⟨e1, e2, e3⟩ := found_same h0 f f'
        subst e1
        exact ld_eq hal e2 e3 l l'
      | next f' l' lt' t' =>
        obtain ⟨e1, e2, e3⟩ := found_same h0 f f'
        subst e1
        have := ld_eq hal e2 e3 l l'
        omega
    | next f l lt t =>
      cases h' with
      | sig h' =>
        obtain ⟨n, a, b, c, d, e1⟩ := scan_int h0 f
        exact absurd c (law_none h' n a b)
      | ret f' l' lt' =>
        obtain ⟨e1, e2, e3⟩ := found_same h0 f f'
        subst e1
        have := ld_eq hal e2 e3 l l'
        omega
      | next f' l' lt' t' => exact hr _ _ t t'
theorem law_plain {x : Str} {p : Int} {o o' : Outc} (hal : ∀ c ∈ KStt.codes x, Alpha c) (h : Told (KStt.codes x) (p + 1) (lookAt (KStt.codes x) (p + 1)) o) (h' : DTold x p (lookD x p) o') : SameOut o o' := by
  rw [look_eq] at h
  refine told_same hal (fun a ha => ?_) h h'
  obtain ⟨pre, post, e⟩ := List.append_of_mem ha
  exact du_mem e
example : True := by
  k_with_none
  w_top off
  exact trivial
example : True := by
  k_with "mroom" => with_unfolding_all first | ((rename (_ + _ < recursionLimit) => hZq7); first | exact room_lt hZq7 0 rfl rfl | exact room_lt hZq7 1 rfl rfl | exact room_lt hZq7 2 rfl rfl | exact room_lt hZq7 3 rfl rfl | exact room_lt hZq7 4 rfl rfl | exact room_lt hZq7 5 rfl rfl | exact room_lt hZq7 6 rfl rfl | exact room_lt hZq7 7 rfl rfl | exact room_lt hZq7 8 rfl rfl | exact room_lt hZq7 9 rfl rfl | exact room_lt hZq7 10 rfl rfl | exact room_lt hZq7 11 rfl rfl | exact room_lt hZq7 12 rfl rfl | exact room_lt hZq7 13 rfl rfl | exact room_lt hZq7 14 rfl rfl | exact room_lt hZq7 15 rfl rfl) | exact lt_ble rfl | fail "mroom"
  exact trivial
example : True := by
  k_with "munits" => with_unfolding_all first | ((rename (_ + _ + _ < cLine) => hZq7); first | exact unit_lt2 hZq7 0 rfl rfl | exact unit_lt2 hZq7 3 rfl rfl | exact unit_lt2 hZq7 6 rfl rfl | exact unit_lt2 hZq7 9 rfl rfl | exact unit_lt2 hZq7 12 rfl rfl | exact unit_lt hZq7 0 rfl rfl | exact unit_lt hZq7 3 rfl rfl | exact unit_lt hZq7 6 rfl rfl | exact unit_lt hZq7 9 rfl rfl | exact unit_lt hZq7 12 rfl rfl) | exact lt_ble rfl | fail "munits"
  exact trivial
example : True := by
  k_with "mne" => (refine neN ?_; (try dsimp only); first | assumption | exact Ne.symm (by assumption) | exact Nat.ne_of_lt (by assumption) | exact Nat.ne_of_gt (by assumption) | fail "mne")
  exact trivial
section
variable {A : Around} {s : Shared} {h₀ : Heap} {L : Addr} {m : Str → Option Value} {env : Env}
open LCg LCt in
/-- [f(x) for x in ints] over a list of the ledger -/
theorem comp_map {elt : Expr} {x : Str} {scope : Scope} {cl : List (Str × Addr)} {Fin : Shared → List Value → List (Addr × Obj) → Prop} {ax : Addr} {vs : List Value} {is : List Int} {k : Nat} {news : List (Addr × Obj)} (f : Int → Int)
    (hh : A.handled = none) (F : Fr h₀ L s.heap m) (N : News h₀ L s.heap news) (hm : (ax, listOf vs.toArray k) ∈ news) (hI : IntsAre vs is) (hsz : is.length ≤ sizeLine)
    (turn : ∀ (g : Heap) (a : Int) (t : Tok) ys I oI C oC D m₂ h tk (E' : Value → Shared → Prop), a ∈ is → NsObj oC m₂ → m₂ x = some (.int a t) → Fr h₀ L h m → News h₀ L h ((I, oI) :: (C, oC) :: (D, lst ys) :: news) → Off3 I C D news → ((@Ne Nat I C) ∧ (@Ne Nat I D) ∧ (@Ne Nat C D)) →
      wpAny (model prog w) A (eval elt (compEnvC scope cl C env)) (TurnEnd h₀ L m { s with heap := h, toks := tk } ((I, oI) :: (C, oC) :: (D, lst ys) :: news) (fun y => ∃ t', y = .int (f a) t')) E' { s with heap := h, toks := tk })
    (fin : ∀ (g : Heap) ys, IntsAre ys (is.map f) → Fin { s with heap := g } ys news) : CompSrc prog w A h₀ L m env elt x scope cl Fin (.ref ax) s := by
  have hlen : vs.toArray.size = is.length := by rw [List.size_toArray, hI.length]
  refine CompSrc.ledger hh F N hm (by rw [hlen]; exact hsz) fun g => ?_
  rw [hlen]
  refine compU_state (σ := Unit) (fun _ => news) (fun i ys _ => IntsAre ys ((is.take i).map f)) () (fun _ => .inr ⟨_, hm, rfl, _, rfl⟩) .nil ?_ fun ys _ hj => fin g ys (by rw [List.take_length] at hj; exact hj)
  intro i ys _ v I oI C oC D m₂ h tk E' hi hj hp hC hx F' N' off ne
  obtain ⟨t, ht⟩ := hI.get i is[i] (List.getElem?_eq_getElem hi)
  have hv : v = .int is[i] t := by
    have hp' : vs[i]? = some v := by rw [← List.getElem?_toArray]; exact hp
    rw [ht] at hp'; exact (Option.some.inj hp').symm
  subst hv
  have hs : is.take (i + 1) = is.take i ++ [is[i]] := by rw [List.take_add_one, List.getElem?_eq_getElem hi]; rfl
  refine wpAny_mono (turn g is[i] t ys I oI C oC D m₂ h tk E' (List.getElem_mem hi) hC hx F' N' off ne) (fun y s₂ z => ?_) fun _ _ z => z
  obtain ⟨h', tk', rfl, F', N', t', rfl⟩ := z
  refine ⟨(), off, h', tk', rfl, F', N', ?_⟩
  show IntsAre _ ((is.take (i + 1)).map f)
  rw [hs, List.map_append]
  exact ints_app hj (.cons _ _ .nil)
end
example : True := by
  k_with_none
  w_top off
  exact trivial
example : True := by
  k_with "mroom" => with_unfolding_all first | ((rename (_ + _ < recursionLimit) => hZq7); first | exact room_lt hZq7 0 rfl rfl | exact room_lt hZq7 1 rfl rfl | exact room_lt hZq7 2 rfl rfl | exact room_lt hZq7 3 rfl rfl | exact room_lt hZq7 4 rfl rfl | exact room_lt hZq7 5 rfl rfl | exact room_lt hZq7 6 rfl rfl | exact room_lt hZq7 7 rfl rfl | exact room_lt hZq7 8 rfl rfl | exact room_lt hZq7 9 rfl rfl | exact room_lt hZq7 10 rfl rfl | exact room_lt hZq7 11 rfl rfl | exact room_lt hZq7 12 rfl rfl | exact room_lt hZq7 13 rfl rfl | exact room_lt hZq7 14 rfl rfl | exact room_lt hZq7 15 rfl rfl) | exact lt_ble rfl | fail "mroom"
  exact trivial
example : True := by
  k_with "munits" => with_unfolding_all first | ((rename (_ + _ + _ < cLine) => hZq7); first | exact unit_lt2 hZq7 0 rfl rfl | exact unit_lt2 hZq7 3 rfl rfl | exact unit_lt2 hZq7 6 rfl rfl | exact unit_lt2 hZq7 9 rfl rfl | exact unit_lt2 hZq7 12 rfl rfl | exact unit_lt hZq7 0 rfl rfl | exact unit_lt hZq7 3 rfl rfl | exact unit_lt hZq7 6 rfl rfl | exact unit_lt hZq7 9 rfl rfl | exact unit_lt hZq7 12 rfl rfl) | exact lt_ble rfl | fail "munits"
  exact trivial
example : True := by
  k_with "mne" => (refine neN ?_; (try dsimp only); first | assumption | exact Ne.symm (by assumption) | exact Nat.ne_of_lt (by assumption) | exact Nat.ne_of_gt (by assumption) | fail "mne")
  exact trivial
example : True := by
  k_with "eval ListComp" => (k_here; (with_reducible show wpAny _ _ (eval (Expr.ListComp _ [⟨_, _, [], _⟩] _ _) _) _ _ _); ((k_dflt (refine LCg.ListComp_U (F₀ := by k_asm) (by with_unfolding_all rfl) (by decide) (by rfl) (by decide) (by rfl) ?_); k_dflt lcg_toSrc)))
  exact trivial
example : True := by
  k_with "eval ListComp" => (k_here; (with_reducible show wpAny _ _ (eval (Expr.ListComp _ [⟨_, _, [_], _⟩] _ _) _) _ _ _); ((k_dflt (refine LCt.ListComp_T (F₀ := by k_asm) (by with_unfolding_all rfl) (by decide) (by rfl) (by decide) (by rfl) ?_); k_dflt lct_toSrc)))
  exact trivial
example : True := by
  k_with "CompSrc" => (focus (k_here; ((k_dflt (refine' comp_map (fun a => Int.fmod (if a < 0 then -a else a) (10 ^ Int.toNat 60)) ?ci1 ?ci2 ?ci3 ?ci4 ?ci5 ?ci6 ?_ ?_); (case ci1 => k_dflt (exact rfl)); (case ci2 => k_asm); (case ci3 => k_asm); (case ci4 => k_mem); (case ci5 => assumption); (case ci6 => (rw [sizeLine_eq]; first | assumption | omega)); (intro g9 a9 t9 ys9 I9 oI9 C9 oC9 D9 m9 h' tk' E9 ha9 hC9 hx9 F' N' off9 ne9; (obtain ⟨of1, of2, of3⟩ := off3_all off9)); rotate_left; (intro g9 ysM hysM; (try dsimp only)); rotate_left))))
  exact trivial
example : True := by
  k_with "CompSrcT" => (focus (k_here; (with_reducible show LCt.CompSrcT _ _ _ _ _ _ _ (Expr.Compare _ [CmpOp.GtE] _ _) _ _ _ _ _ _ _); ((refine' comp_ints (fun a => decide (10 ^ Int.toNat 9 ≤ a)) ?ci1 ?ci2 ?ci3 ?ci4 ?ci5 ?ci6 ?_ ?_; (case ci1 => exact rfl); (case ci2 => k_asm); (case ci3 => k_asm); (case ci4 => k_mem); (case ci5 => assumption); (case ci6 => (rw [sizeLine_eq]; first | assumption | omega | (simp only [List.length_map, List.length_take]; omega))); (intro g9 a9 t9 ys9 I9 oI9 C9 oC9 D9 m9 h' tk' E9 ha9 hC9 hx9 F' N' off9 ne9; (obtain ⟨of1, of2, of3⟩ := off3_all off9)); rotate_left; (intro g9 ysQ hysQ; (try dsimp only)); rotate_left))))
  exact trivial
example : True := by
  k_with "TurnEnd" => (((refine' TurnEnd.intro ?te1 ?te2 ?te3; (case te1 => k_asm); (case te2 => k_asm); (case te3 => ((try dsimp only); first | exact ⟨_, rfl⟩ | exact ⟨decide_eq_true (by assumption), _, rfl⟩ | exact ⟨decide_eq_true (by omega), _, rfl⟩ | exact decide_eq_false (by assumption) | exact decide_eq_false (by omega) | (trace_state; exact ⟨_, rfl⟩))))))
  exact trivial
example : True := by
  k_with "FinE" => ((unfold LCg.FinE); intro D' h' tk' F' N' o1'; (have o2' := off1_all o1'); (try dsimp only))
  exact trivial
theorem dk_nn {l : List Int} : ∀ x ∈ l.filter (fun a => decide ((10 : Int) ^ Int.toNat 9 ≤ a)), 0 ≤ x := fun x hx => by
  have h := of_decide_eq_true (List.mem_filter.mp hx).2
  have h2 : (0 : Int) ≤ 10 ^ Int.toNat 9 := by decide
  omega
theorem dk_len {l : List Int} {p : Int → Bool} {f : Int → Int} {k : Nat} (h : l.length ≤ 63) : (((l.take k).map f).filter p).length ≤ 63 := by
  refine Nat.le_trans (List.length_filter_le ..) ?_
  rw [List.length_map, List.length_take]
  omega
theorem drop3 {α : Type} {a b c d e : α} {l : List α} : ∀ q ∈ a :: b :: l, q ∈ a :: b :: c :: d :: e :: l := fun q hq => by
  rcases List.mem_cons.mp hq with rfl | hq
  · exact .head _
  · rcases List.mem_cons.mp hq with rfl | hq
    · exact .tail _ (.head _)
    · exact .tail _ (.tail _ (.tail _ (.tail _ (.tail _ hq))))
theorem law_deck {news : List (Addr × Obj)} {ax : Addr} {vs : List Value} {ns : List Int} (hi : IntsAre vs ns) (hn : ns.length ≤ 63) :
    ∀ (dp un : Nat) (gd : Option (List Code)) (cn : Str) (cs : Scope) (a : Addr) (ccd : Value) (cl : List (Str × Addr)) (outer : List Env) (A₀ : Around) (base h₀ : Heap) (L : Addr) (m : Str → Option Value) (s : Shared) (Q E : Value → Shared → Prop),
    h₀.IsList ax vs.toArray → Below A₀ base outer h₀ → Fr h₀ L s.heap m → (Mine.hd.heap_1_39 w.params).In h₀ → News h₀ L s.heap news → Top Mine.hd.view_1_40 (looseW Mine.hd.view_1_40 [Str.ofString "ParseState"]) mean mg mb h₀ → cs.kind = .function →
    dp + 9 < recursionLimit → un + 8 * 9 + 8 < cLine →
    (∀ (v : Value) (news' : List (Addr × Obj)) (h' : Heap) (tk' : Nat), Fr h₀ L h' m → News h₀ L h' news' → (∃ (dk kl : Addr) (cv : List Value) (ci : List Int) (kn en : Nat) (mx : Int) (tm : Tok), v = .ref dk ∧ news' = (dk, listOf #[.ref kl, .int mx tm] en) :: (kl, listOf cv.toArray kn) :: news ∧ IntsAre cv ci ∧ (∀ x ∈ ci, 0 ≤ x) ∧ ci.length ≤ 63 ∧ 0 ≤ mx ∧ mx < 2147483647 ∧ @Ne Nat dk kl ∧ (∀ q ∈ news, q.1 ≠ dk) ∧ (∀ q ∈ news, q.1 ≠ kl)) → Q v { s with heap := h', toks := tk' }) →
    wpAny (model prog w) (ktrTop dp un gd cn cs L a ccd cl outer) (call (.ref 667) [.ref ax]) Q E s := by
  intro dp un gd cn cs a ccd cl outer A₀ base h₀ L m s Q E hsc B F X N T hk hd hu hret
  have hn2 := hi.length
  k_with "pyIter ref" => k_state (fun (pre : List Int) (d : Int) => 0 ≤ d ∧ d < 2147483647) "_law_mixed"
  k_with "state" => k_dflt (first | exact ⟨by omega, by omega⟩ | exact ⟨fm_lo (by omega), fm_hi (by omega)⟩)
  refine wpAny_call ?_
  k_dflt (refine' code_def (binds := [(Str.ofString "_law_script", Value.ref ax)]) ?k1 ?k2 ?k3 ?k4 ?k5 ?kA ?kF ?kK ?k6 ?k7 ?k8 ?k9 ?kB ?_ ?c2 ?c3 ?c4 ?c5; (case kA => exact rfl); (case kF => exact rfl); (case kK => first | exact rfl | assumption); (case k1 => k_asm); (case k2 => k_asm); (case k3 => k_asm); (case k4 => k_asm); (case k5 => k_asm); (case k6 => k_is); (case k7 => k_is); (case k8 => ktr_room); (case k9 => first | exact BindsTo.of_eq rfl | exact binds_K (by k_in) rfl (by k_is) rfl rfl rfl); (case c5 => decide); (case kB => exact locs rfl); (case c2 => exact rfl); (case c3 => exact rfl); (case c4 => exact rfl); k_whole; intro g' L' h' FG' F' N' B' X' T'; (try dsimp only); (try k_lift B'); (try k_fold))
  have hsc9 := hsc.at (fun o e => FG'.keep _ _ e)
  clear hsc
  k_steps

  all_goals (first | ((rename News _ _ _ _ => nE); (rename _ ∧ _ ∧ _ ∧ _ ∧ AllLt _ _ => lz9); refine' hret _ _ _ _ ?e1 (cb_drop nE drop3) ⟨_, _, _, _, _, _, _, _, rfl, rfl, hysQ, ?nn, ?len, by assumption, by assumption, ?ne, ?o1, ?o2⟩; (case e1 => k_asm); (case nn => exact dk_nn); (case len => exact dk_len hn); (case ne => exact Nat.ne_of_gt lz9.1); (case o1 => exact fun q hq => Nat.ne_of_lt (kst_ltOf lz9.2.2.2.2 q hq)); (case o2 => exact fun q hq => o2' q (.tail _ (.tail _ (.tail _ hq))))) | trace_state)
example : True := by
  k_with_none
  w_top off
  exact trivial
example : True := by
  k_with "mroom" => with_unfolding_all first | ((rename (_ + _ < recursionLimit) => hZq7); first | exact room_lt hZq7 0 rfl rfl | exact room_lt hZq7 1 rfl rfl | exact room_lt hZq7 2 rfl rfl | exact room_lt hZq7 3 rfl rfl | exact room_lt hZq7 4 rfl rfl | exact room_lt hZq7 5 rfl rfl | exact room_lt hZq7 6 rfl rfl | exact room_lt hZq7 7 rfl rfl | exact room_lt hZq7 8 rfl rfl | exact room_lt hZq7 9 rfl rfl | exact room_lt hZq7 10 rfl rfl | exact room_lt hZq7 11 rfl rfl | exact room_lt hZq7 12 rfl rfl | exact room_lt hZq7 13 rfl rfl | exact room_lt hZq7 14 rfl rfl | exact room_lt hZq7 15 rfl rfl) | exact lt_ble rfl | fail "mroom"
  exact trivial
example : True := by
  k_with "munits" => with_unfolding_all first | ((rename (_ + _ + _ < cLine) => hZq7); first | exact unit_lt2 hZq7 0 rfl rfl | exact unit_lt2 hZq7 3 rfl rfl | exact unit_lt2 hZq7 6 rfl rfl | exact unit_lt2 hZq7 9 rfl rfl | exact unit_lt2 hZq7 12 rfl rfl | exact unit_lt hZq7 0 rfl rfl | exact unit_lt hZq7 3 rfl rfl | exact unit_lt hZq7 6 rfl rfl | exact unit_lt hZq7 9 rfl rfl | exact unit_lt hZq7 12 rfl rfl) | exact lt_ble rfl | fail "munits"
  exact trivial
example : True := by
  k_with "mne" => (refine neN ?_; (try dsimp only); first | assumption | exact Ne.symm (by assumption) | exact Nat.ne_of_lt (by assumption) | exact Nat.ne_of_gt (by assumption) | fail "mne")
  exact trivial
section
variable {A : Around} {E : Value → Shared → Prop} {s' : Shared} {h₀ hx : Heap} {L a e : Addr} {m : Str → Option Value} {cn : Str} {cs : Scope} {ccd : Value} {cl : List (Str × Addr)}
  {n : Str} {b₀ : Stmt} {suite : List Stmt} {pos np : Pos} {rest : List ExceptHandler} {Q : Flow → Shared → Prop} {news : List (Addr × Obj)}
/-- a LispSignal in flight is caught by name -/
theorem caught_R (hfr : A.frames = some [envX cn cs L a ccd cl]) (R : Rz h₀ h₀ L m [envX cn cs L a ccd cl] news e s'.heap) (F : Fr h₀ L hx m) (N0 : News h₀ L hx news)
    (X : (Mine.hd.heap_1_39 w.params).In h₀) (T : Top Mine.hd.view_1_40 (looseW Mine.hd.view_1_40 [Str.ofString "ParseState"]) mean mg mb h₀) (ex : nsIn (Mine.hd.heap_1_39 w.params) mainGlobals (Str.ofString "LispSignal") = some (some (.ref 96)))
    (k : ∀ h' tk oe D od mE vs ts, Fr h₀ L h' (fun y => if y = n then some (.ref e) else m y) → News h₀ L h' ((e, oe) :: (D, od) :: news) → oe.cls = .ref 96 → oe.data = .fields vs → oe.dict = some D → LCg.NsObj od mE → mE (Str.ofString "symbol") = some (.str (Str.ofString "scan-error") ts) →
      wpAny (model prog w) (A.mark (some (.ref e))) (execs (b₀ :: suite) (envX cn cs L a ccd cl))
        (fun f s₄ => wpAny (model prog w) A (do bindName (envX cn cs L a ccd cl) n .none; unbindBehindTheSuite (envX cn cs L a ccd cl) n pos) (fun _ s₅ => Q f s₅) E s₄)
        (AsSuiteRaised (model prog w) (A.mark (some (.ref e))) (envX cn cs L a ccd cl) n pos (notedBy (model prog w) (A.mark (some (.ref e))) (envX cn cs L a ccd cl) (cameBackBy (model prog w) A (envX cn cs L a ccd cl) E)))
        { s' with heap := h', toks := tk })
    (hk : cs.kind = .function) (hlo : (envX cn cs L a ccd cl).kindOf n = some .local) (hgl : (envX cn cs L a ccd cl).kindOf (Str.ofString "LispSignal") = some .globalImplicit) :
    wpAny (model prog w) A (noteFrame (.ref e) (envX cn cs L a ccd cl))
      (fun _ s₂ => wpAny (model prog w) A (setFlight (.ref e) none) (fun _ s₃ =>
        wpAny (model prog w) A (handleBy (.ref e) (envX cn cs L a ccd cl) (.ExceptHandler (some (.Name (Str.ofString "LispSignal") np)) (some n) (b₀ :: suite) pos :: rest)) Q E s₃) E s₂) E s' := by
  obtain ⟨ns0, up0, B, a0, D, od, mE, ts, hB, gB, nB, hfl, hdA, hD, hD0, hod, hsy⟩ := R
  have hL : B.get? L = none := by
    obtain ⟨_, ⟨L', _, hf, hn', _⟩, _⟩ := hfl.2.2.1
    obtain rfl : L = L' := Option.some.inj hf
    exact hn'
  refine wpAny_mono (KD.any (kd_noteFrame _ _) hdA (wpAny_looks_onW (Q := fun _ s'' => ∃ h₄, s'' = { s' with heap := h₄ } ∧ Heap.HeldW B [envX cn cs L a ccd cl] e (.ref 96) a0 L h₄ ∧ s'.heap.UpToSlots h₄) (E := E) hfr rfl hfl fun h' x1 x2 => ⟨h', rfl, x1, x2⟩)) ?_ (fun _ _ q => q.1)
  rintro _ s'' ⟨⟨h₄, rfl, hheld₄, hsm₄⟩, dA₄⟩
  refine wpAny_mono (KD.any (kd_setFlight _ _) dA₄ (wpAny_landsW (Q := fun _ s'' => ∃ h₅, s'' = { s' with heap := h₅ } ∧ Heap.FlyingW B [envX cn cs L a ccd cl] e (.ref 96) a0 h₅ ∧ h₄.UpToSlots h₅) (E := E) hheld₄ fun h' x1 x2 => ⟨h', rfl, x1, x2⟩)) ?_ (fun _ _ q => q.1)
  rintro _ s'' ⟨⟨h₅, rfl, hheld, hsm₅'⟩, dA₅⟩
  have hsm₅ := hsm₄.trans hsm₅'
  have F₅ : Fr h₀ L h₅ m := ⟨hsm₅.ns ns0, fun b o q => hheld.1 b o (hB b o q), F.above⟩
  obtain ⟨ob, hob, hobc⟩ := hheld.there
  refine wpAny_handleBy_cons (codeAny_handlers_test (nameX_K F₅ X (topRead_of T) ex ?_ hk hgl (by decide))) (by intro q; cases q)
  obtain ⟨k0, k1, k2, k3, k5, hC⟩ := sig_cls (X.keeps F₅.keep)
  refine wpAny_excMatches_sub_self hC hob hobc (by decide) (codeAny_handlers_suite_as ?_)
  refine wpAny_mono (KD.any (kd_setFlight _ _) dA₅ (lands_againW (Q := fun _ s'' => ∃ h₆, s'' = { s' with heap := h₆ } ∧ Heap.FlyingW B [envX cn cs L a ccd cl] e (.ref 96) a0 h₆ ∧ h₅.UpToSlots h₆) (E := _) hheld fun h' x1 x2 => ⟨h', rfl, x1, x2⟩)) ?_ (fun _ _ q => q.1)
  rintro _ s'' ⟨⟨h₆, rfl, hfl₆, hsm₆⟩, dA₆⟩
  have F₆ : Fr h₀ L h₆ m := ⟨(hsm₅.trans hsm₆).ns ns0, fun b o q => hfl₆.1 b o (hB b o q), F.above⟩
  obtain ⟨oe, ws, hoe, hoec, hoed, hoe0⟩ := hfl₆.first
  have fresh : ∀ {b : Addr}, B.get? b = none → h₀.get? b = none := fun hb => fresh_of_stays hB hb
  have neL : ∀ {b : Addr} {o : Obj}, B.get? b = some o → b ≠ L := fun hb z => by rw [z, hL] at hb; cases hb
  have Nl : News h₀ L h₆ ((D, od) :: news) := fun q hq => by
    rcases List.mem_cons.mp hq with rfl | hq
    · exact ⟨hfl₆.1 _ _ hD, neL hD, hD0⟩
    · exact ⟨hfl₆.1 _ _ (nB q hq), neL (nB q hq), (N0 q hq).2.2⟩
  have N₆ := News.more F₆ Nl hoe (fun es n q => by rw [hoed] at q; cases q) (fresh hfl₆.2.1)
  refine storeX_L F₆ N₆ (fun h₇ F₇ N₇ => ?_) hk hlo
  exact k h₇ _ oe D od mE ws ts F₇ N₇ hoec hoed (dA₆.get hoe) hod hsy
end
example : True := by
  k_with_none
  w_top off
  exact trivial
example : True := by
  k_with "mroom" => with_unfolding_all first | ((rename (_ + _ < recursionLimit) => hZq7); first | exact room_lt hZq7 0 rfl rfl | exact room_lt hZq7 1 rfl rfl | exact room_lt hZq7 2 rfl rfl | exact room_lt hZq7 3 rfl rfl | exact room_lt hZq7 4 rfl rfl | exact room_lt hZq7 5 rfl rfl | exact room_lt hZq7 6 rfl rfl | exact room_lt hZq7 7 rfl rfl | exact room_lt hZq7 8 rfl rfl | exact room_lt hZq7 9 rfl rfl | exact room_lt hZq7 10 rfl rfl | exact room_lt hZq7 11 rfl rfl | exact room_lt hZq7 12 rfl rfl | exact room_lt hZq7 13 rfl rfl | exact room_lt hZq7 14 rfl rfl | exact room_lt hZq7 15 rfl rfl) | exact lt_ble rfl | fail "mroom"
  exact trivial
example : True := by
  k_with "munits" => with_unfolding_all first | ((rename (_ + _ + _ < cLine) => hZq7); first | exact unit_lt2 hZq7 0 rfl rfl | exact unit_lt2 hZq7 3 rfl rfl | exact unit_lt2 hZq7 6 rfl rfl | exact unit_lt2 hZq7 9 rfl rfl | exact unit_lt2 hZq7 12 rfl rfl | exact unit_lt hZq7 0 rfl rfl | exact unit_lt hZq7 3 rfl rfl | exact unit_lt hZq7 6 rfl rfl | exact unit_lt hZq7 9 rfl rfl | exact unit_lt hZq7 12 rfl rfl) | exact lt_ble rfl | fail "munits"
  exact trivial
example : True := by
  k_with "mne" => (refine neN ?_; (try dsimp only); first | assumption | exact Ne.symm (by assumption) | exact Nat.ne_of_lt (by assumption) | exact Nat.ne_of_gt (by assumption) | fail "mne")
  exact trivial
example : True := by
  k_with "call ref" => (k_here; (with_reducible show wpAny _ _ (PySem.call (Value.ref 658) _) _ _ _); k_dflt (refine' call_cls ?k1 ?k2 ?k3 ?k4 ?k5 ?k6 ?_; (case k1 => k_asm); (case k2 => k_asm); (case k3 => k_asm); (case k4 => k_is); (case k5 => k_is); (case k6 => k_is); k_whole; intro tv td h' F' N' l1 l2; (have lx1 := ne_of_lts l1); (have lx2 := ne_of_lts2 l1 l2); (have lx3 := ne_of_lt2 l2); (try k_sweep); (have ly1 := lts_split l1); (have ly3 := ly1.1); (have ly5 := ne_of_lts ly1.2);  (refine' code_def (binds := [(Str.ofString "self", Value.ref tv), (Str.ofString "codes", Value.ref kl), (Str.ofString "place", Value.int 1 1133)]) ?k1 ?k2 ?k3 ?k4 ?k5 ?kA ?kF ?kK ?k6 ?k7 ?k8 ?k9 ?kB ?_ ?c2 ?c3 ?c4 ?c5; (case kA => exact rfl); (case kF => exact rfl); (case kK => first | exact rfl | assumption); (case k1 => k_asm); (case k2 => k_asm); (case k3 => k_asm); (case k4 => k_asm); (case k5 => k_asm); (case k6 => k_is); (case k7 => k_is); (case k8 => ktr_room); (case k9 => first | exact BindsTo.of_eq rfl | exact binds_K (by k_in) rfl (by k_is) rfl rfl rfl); (case c5 => decide); (case kB => exact locs rfl); (case c2 => exact rfl); (case c3 => exact rfl); (case c4 => exact rfl); k_whole; intro g' L' h' FG' F' N' B' X' T'; (try dsimp only); (try k_lift B'); (try k_fold))))
  exact trivial
example : True := by
  k_with "call type:list" => (k_here; (with_reducible show wpAny _ _ (call (Value.type _) [Value.ref _]) _ _ _); (with_unfolding_all (refine' list_copyK ?k1 ?k2 ?k3 ?_ ?z; (case k1 => k_asm); (case k2 => k_asm); (case k3 => is_list); (case z => (rw [sizeLine_eq, List.size_toArray]; omega)); k_whole)); intro ol' c' h' F' N' l1; (have lz1 := lts_split l1); (have lz2 := lts_split lz1.2); (have lz3 := lz1.1); (have lz4 := lz2.1); (try k_sweep))
  exact trivial
example : True := by
  k_with "setAttr ref" => (k_here; refine genTok ?_; intro tk7; k_dflt (refine' set_dict ?k1 ?k2 ?k3 ?k4 ?k5 ?k6 ?k7 ?k8 ?k9 ?k10 ?k11 ?k12 ?k13 ?_; (case k1 => k_asm); (case k2 => k_asm); (case k3 => k_asm); (case k4 => k_inst); (case k5 => exact rfl); (case k6 => k_is); (case k7 => k_is); (case k8 => k_is); (case k9 => k_is); (case k10 => k_get); (case k11 => k_put); (case k12 => k_upd); (case k13 => exact Nat.le_of_ble_eq_true rfl); k_whole); intro h' F' N'; (try dsimp only at N'); (try k_sweep))
  exact trivial
theorem apart3 {a b c : Addr × Obj} {rest : List (Addr × Obj)} (h1 : ∀ p ∈ rest, p.1 ≠ a.1) (h2 : ∀ p ∈ rest, p.1 ≠ b.1) (h3 : ∀ p ∈ rest, p.1 ≠ c.1) : ∀ q ∈ [a, b, c], ∀ p ∈ rest, p.1 ≠ q.1 := by
  intro q hq
  simp only [List.mem_cons, List.not_mem_nil, or_false] at hq
  rcases hq with rfl | rfl | rfl <;> assumption
theorem text_rowA {rest : List (Addr × Obj)} {kl : Addr} {vs : List Value} {ns : List Int} {kc : Nat} (hI : IntsAre vs ns) (hl : ns.length ≤ 1000) :
    Ct prog w mean mg mb 658 3 ((kl, listOf vs.toArray kc) :: rest) [.ref kl] (fun r news' => ∃ tv tr, r = .ref tv ∧ news' = tr ++ (kl, listOf vs.toArray kc) :: rest ∧ ViewIn tr tv ns ∧ ∀ q ∈ tr, ∀ p ∈ (kl, listOf vs.toArray kc) :: rest, p.1 ≠ q.1) := by
  have hvl := hI.length
  intro c00 A₀ base h₀ L m sHp sGn sDr sTk sOs Q E B F X N T hk hd hu hret
  k_steps
  all_goals (first | (refine' hret _ _ _ _ ?e1 ?e2 ?e3; (case e1 => k_asm); (case e2 => k_asm); (case e3 => exact ⟨_, [_, _, _], rfl, rfl, ⟨_, _, vs, _, _, _, _, _, _, _, by k_mem, by k_mem, by k_mem, hI, by omega⟩, apart3 (fun p hp => Nat.ne_of_lt (l1 p (.tail _ (.tail _ hp)))) lx2 lx1⟩)) | trace_state)
example : True := by
  k_with_none
  w_top off
  exact trivial
example : True := by
  k_with "mroom" => with_unfolding_all first | ((rename (_ + _ < recursionLimit) => hZq7); first | exact room_lt hZq7 0 rfl rfl | exact room_lt hZq7 1 rfl rfl | exact room_lt hZq7 2 rfl rfl | exact room_lt hZq7 3 rfl rfl | exact room_lt hZq7 4 rfl rfl | exact room_lt hZq7 5 rfl rfl | exact room_lt hZq7 6 rfl rfl | exact room_lt hZq7 7 rfl rfl | exact room_lt hZq7 8 rfl rfl | exact room_lt hZq7 9 rfl rfl | exact room_lt hZq7 10 rfl rfl | exact room_lt hZq7 11 rfl rfl | exact room_lt hZq7 12 rfl rfl | exact room_lt hZq7 13 rfl rfl | exact room_lt hZq7 14 rfl rfl | exact room_lt hZq7 15 rfl rfl) | exact lt_ble rfl | fail "mroom"
  exact trivial
example : True := by
  k_with "munits" => with_unfolding_all first | ((rename (_ + _ + _ < cLine) => hZq7); first | exact unit_lt2 hZq7 0 rfl rfl | exact unit_lt2 hZq7 3 rfl rfl | exact unit_lt2 hZq7 6 rfl rfl | exact unit_lt2 hZq7 9 rfl rfl | exact unit_lt2 hZq7 12 rfl rfl | exact unit_lt hZq7 0 rfl rfl | exact unit_lt hZq7 3 rfl rfl | exact unit_lt hZq7 6 rfl rfl | exact unit_lt hZq7 9 rfl rfl | exact unit_lt hZq7 12 rfl rfl) | exact lt_ble rfl | fail "munits"
  exact trivial
example : True := by
  k_with "mne" => (refine neN ?_; (try dsimp only); first | assumption | exact Ne.symm (by assumption) | exact Nat.ne_of_lt (by assumption) | exact Nat.ne_of_gt (by assumption) | fail "mne")
  exact trivial
def LineText (s : Str) : Prop := s.length ≤ 8 ∧ ∀ c ∈ s.cps.toList, Alpha (c : Int)
def TextOk (x : Str) : Prop := x.length ≤ 64 ∧ ∀ c ∈ KStt.codes x, Alpha c
theorem line_ok {s : Str} (h : RowText s) : LineText (s ++ Str.ofString "\n") := by
  refine ⟨?_, fun c hc => ?_⟩
  · rw [Str.length_append]
    have := h.1
    have e : (Str.ofString "\n").length = 1 := by decide +kernel
    omega
  · have e : (s ++ Str.ofString "\n").cps.toList = s.cps.toList ++ (Str.ofString "\n").cps.toList := Array.toList_append
    rw [e] at hc
    rcases List.mem_append.mp hc with hc | hc
    · exact h.2 c hc
    · have e2 : (Str.ofString "\n").cps.toList = [10] := by decide +kernel
      rw [e2, List.mem_singleton] at hc
      subst hc; exact .inl rfl
theorem lines_len : ∀ {ws : List Str}, (∀ a ∈ ws, LineText a) → (ws.map (·.length)).sum ≤ 8 * ws.length
  | [], _ => Nat.le_refl _
  | a :: r, h => by
    have := lines_len (ws := r) fun b hb => h b (.tail _ hb)
    have := (h a (.head _)).1
    simp only [List.map_cons, List.sum_cons, List.length_cons]; omega
theorem sep0 : (Str.ofString "").length = 0 := rfl
theorem lines_tot {ws : List Str} (h : ∀ a ∈ ws, LineText a) (hn : ws.length ≤ 8) : (ws.map (·.length)).sum + ws.length * (Str.ofString "").length ≤ 16777216 := by
  have := lines_len h
  rw [sep0]; omega
theorem join_ok {ws : List Str} (h : ∀ a ∈ ws, LineText a) (hn : ws.length ≤ 8) : TextOk (Txt.join (Str.ofString "") ws) := by
  have e : Txt.join (Str.ofString "") ws = Str.join (Str.ofString "") ws := StrLaws.glued_eq_join _ _
  rw [e]
  refine ⟨?_, fun c hc => ?_⟩
  · have h1 := StrLaws.join_length_le (Str.ofString "") ws
    have h2 := lines_len h
    rw [sep0] at h1; omega
  · obtain ⟨k, hk, rfl⟩ := List.mem_map.mp hc
    rcases (mem_join _ k ws).mp hk with ⟨t, ht, hk⟩ | ⟨_, hk⟩
    · exact (h t ht).2 k hk
    · cases hk
theorem slice_ok {x : Str} {l u : Option Int} (h : TextOk x) : TextOk (Txt.slice x l u) := by
  refine ⟨Nat.le_trans (Txt.slice_le x l u) h.1, fun c hc => ?_⟩
  obtain ⟨k, hk, rfl⟩ := List.mem_map.mp hc
  refine h.2 _ (List.mem_map.mpr ⟨k, ?_, rfl⟩)
  unfold Txt.slice at hk
  split at hk
  · exact hk
  · rw [List.toList_toArray] at hk
    obtain ⟨i, _, hi⟩ := List.mem_filterMap.mp hk
    exact Array.mem_toList_iff.mpr (Array.mem_of_getElem? hi)
theorem codes_take {x : Str} {i c : Nat} (h : x.cps[i]? = some c) : (KStt.codes x).take (i + 1) = (KStt.codes x).take i ++ [(c : Int)] := by
  have e : (KStt.codes x)[i]? = some (c : Int) := by
    unfold KStt.codes
    rw [List.getElem?_map, Array.getElem?_toList, h]; rfl
  rw [List.take_add_one, e]; rfl
theorem row_text {s : Str} (h1 : s.length ≤ 7) (h2 : (s.cps.toList.all fun c => c == 10 || c == 32 || c == 40 || c == 41 || (decide (97 ≤ c) && decide (c ≤ 102)) || c == 120) = true) : RowText s := ⟨h1, fun c hc => by
  have h := List.all_eq_true.mp h2 c hc
  simp only [Bool.or_eq_true, beq_iff_eq, Bool.and_eq_true, decide_eq_true_eq] at h
  rcases h with ((((h | h) | h) | h) | h) | h
  · exact .inl (congrArg Int.ofNat h)
  · exact .inr (.inl (congrArg Int.ofNat h))
  · exact .inr (.inr (.inl (congrArg Int.ofNat h)))
  · exact .inr (.inr (.inr (.inl (congrArg Int.ofNat h))))
  · exact .inr (.inr (.inr (.inr (.inl ⟨Int.ofNat_le.mpr h.1, Int.ofNat_le.mpr h.2⟩))))
  · exact .inr (.inr (.inr (.inr (.inr (congrArg Int.ofNat h)))))⟩
example : True := by
  k_with_none
  w_top off
  exact trivial
example : True := by
  k_with "mroom" => with_unfolding_all first | ((rename (_ + _ < recursionLimit) => hZq7); first | exact room_lt hZq7 0 rfl rfl | exact room_lt hZq7 1 rfl rfl | exact room_lt hZq7 2 rfl rfl | exact room_lt hZq7 3 rfl rfl | exact room_lt hZq7 4 rfl rfl | exact room_lt hZq7 5 rfl rfl | exact room_lt hZq7 6 rfl rfl | exact room_lt hZq7 7 rfl rfl | exact room_lt hZq7 8 rfl rfl | exact room_lt hZq7 9 rfl rfl | exact room_lt hZq7 10 rfl rfl | exact room_lt hZq7 11 rfl rfl | exact room_lt hZq7 12 rfl rfl | exact room_lt hZq7 13 rfl rfl | exact room_lt hZq7 14 rfl rfl | exact room_lt hZq7 15 rfl rfl) | exact lt_ble rfl | fail "mroom"
  exact trivial
example : True := by
  k_with "munits" => with_unfolding_all first | ((rename (_ + _ + _ < cLine) => hZq7); first | exact unit_lt2 hZq7 0 rfl rfl | exact unit_lt2 hZq7 3 rfl rfl | exact unit_lt2 hZq7 6 rfl rfl | exact unit_lt2 hZq7 9 rfl rfl | exact unit_lt2 hZq7 12 rfl rfl | exact unit_lt hZq7 0 rfl rfl | exact unit_lt hZq7 3 rfl rfl | exact unit_lt hZq7 6 rfl rfl | exact unit_lt hZq7 9 rfl rfl | exact unit_lt hZq7 12 rfl rfl) | exact lt_ble rfl | fail "munits"
  exact trivial
example : True := by
  k_with "mne" => (refine neN ?_; (try dsimp only); first | assumption | exact Ne.symm (by assumption) | exact Nat.ne_of_lt (by assumption) | exact Nat.ne_of_gt (by assumption) | fail "mne")
  exact trivial
def DkIs (dk kl : Addr) (rest led : List (Addr × Obj)) : Prop := ∃ (cv : List Value) (ci : List Int) (kn en : Nat) (mx : Int) (tm : Tok), led = (dk, listOf #[.ref kl, .int mx tm] en) :: (kl, listOf cv.toArray kn) :: rest ∧ IntsAre cv ci ∧ (∀ x ∈ ci, 0 ≤ x) ∧ ci.length ≤ 63 ∧ (0 ≤ mx ∧ mx < 2147483647)
def JoinI (h₀ : Heap) (L : Addr) (m : Str → Option Value) (led : List (Addr × Obj)) (lo hi : Int) (s₁ : Shared) (v : Value) (s₂ : Shared) : Prop :=
  ∃ (k : Int) (t : Tok) (h' : Heap) (tk : Nat), v = .int k t ∧ (lo ≤ k ∧ k ≤ hi) ∧ s₂ = { s₁ with heap := h', toks := tk } ∧ Fr h₀ L h' m ∧ News h₀ L h' led
theorem JoinI.intro {h₀ : Heap} {L : Addr} {m : Str → Option Value} {led : List (Addr × Obj)} {lo hi : Int} {s₁ : Shared} {k : Int} {t : Tok} {h' : Heap} {tk : Nat} (F : Fr h₀ L h' m) (N : News h₀ L h' led) (hk : lo ≤ k ∧ k ≤ hi) : JoinI h₀ L m led lo hi s₁ (.int k t) { s₁ with heap := h', toks := tk } := ⟨k, t, h', tk, rfl, hk, rfl, F, N⟩
theorem join_int {A : Around} {E : Value → Shared → Prop} {s : Shared} {env : Env} {e : Expr} {Q : Value → Shared → Prop} {h₀ : Heap} {L : Addr} {m : Str → Option Value} {led : List (Addr × Obj)} (lo hi : Int) (_F : Fr h₀ L s.heap m) (_N : News h₀ L s.heap led)
    (h1 : wpAny (model prog w) A (eval e env) (JoinI h₀ L m led lo hi s) E s)
    (h2 : ∀ (k : Int) (t : Tok) (h' : Heap) (tk : Nat), (lo ≤ k ∧ k ≤ hi) → Fr h₀ L h' m → News h₀ L h' led → Q (.int k t) { s with heap := h', toks := tk }) : wpAny (model prog w) A (eval e env) Q E s :=
  wpAny_mono h1 (fun v s₂ z => by obtain ⟨k, t, h', tk, rfl, hk, rfl, F, N⟩ := z; exact h2 k t h' tk hk F N) fun _ _ z => z
def DTurn (h₀ : Heap) (L : Addr) (m : Str → Option Value) (s₁ : Shared) (I C D dk kl : Addr) (oI oC : Obj) (ys : List Value) (rest : List (Addr × Obj)) (y : Value) (s₂ : Shared) : Prop :=
  ∃ (h' : Heap) (tk : Nat) (led : List (Addr × Obj)), s₂ = { s₁ with heap := h', toks := tk } ∧ Fr h₀ L h' m ∧ DkIs dk kl rest led ∧ News h₀ L h' ((I, oI) :: (C, oC) :: (D, LCg.lst ys) :: led) ∧ ∃ z t, y = .str z t ∧ LineText z
theorem DTurn.intro {h₀ : Heap} {L : Addr} {m : Str → Option Value} {s₁ : Shared} {I C D dk kl : Addr} {oI oC : Obj} {ys : List Value} {rest : List (Addr × Obj)} {z : Str} {t : Tok} {h' : Heap} {tk : Nat} {cv : List Value} {ci : List Int} {kn en : Nat} {mx : Int} {tm : Tok} (F : Fr h₀ L h' m)
    (N : News h₀ L h' ((dk, listOf #[.ref kl, .int mx tm] en) :: (kl, listOf cv.toArray kn) :: (I, oI) :: (C, oC) :: (D, LCg.lst ys) :: rest)) (hI : IntsAre cv ci) (hpos : ∀ x ∈ ci, 0 ≤ x) (hlen : ci.length ≤ 63) (hm : 0 ≤ mx ∧ mx < 2147483647) (hz : LineText z) : DTurn h₀ L m s₁ I C D dk kl oI oC ys rest (.str z t) { s₁ with heap := h', toks := tk } := by
  refine ⟨h', tk, _, rfl, F, ⟨cv, ci, kn, en, mx, tm, rfl, hI, hpos, hlen, hm⟩, cb_drop N (fun q hq => ?_), z, t, rfl, hz⟩
  simp only [List.mem_cons] at hq ⊢
  rcases hq with h | h | h | h | h | h <;> simp [h]
theorem strs_app {ys : List Value} {ws : List Str} {z : Str} {t : Tok} (h : StrsAre ys ws) : StrsAre (ys ++ [.str z t]) (ws ++ [z]) := h.append' (.cons _ _ .nil)
def DLines (ys : List Value) : Prop := ∃ ws : List Str, StrsAre ys ws ∧ (∀ a ∈ ws, LineText a) ∧ ws.length ≤ 8
section
variable {A : Around} {E : Value → Shared → Prop} {s : Shared} {h₀ : Heap} {L : Addr} {m : Str → Option Value} {env : Env}
open LCg in
/-- the lines of the text, each drawn from the deck -/
theorem comp_deck {elt : Expr} {x : Str} {scope : Scope} {cl : List (Str × Addr)} {Fin : Shared → List Value → List (Addr × Obj) → Prop} {r dk kl : Addr} {b : Int} {t u v : Tok} {rest : List (Addr × Obj)} {cv : List Value} {ci : List Int} {kn en : Nat} {mx : Int} {tm : Tok}
    (hh : A.handled = none) (F : Fr h₀ L s.heap m) (N : News h₀ L s.heap ((dk, listOf #[.ref kl, .int mx tm] en) :: (kl, listOf cv.toArray kn) :: rest)) (hI : IntsAre cv ci) (hpos : ∀ x ∈ ci, 0 ≤ x) (hlen : ci.length ≤ 63) (hm : 0 ≤ mx ∧ mx < 2147483647) (nd : @Ne Nat dk kl) (r1 : ∀ q ∈ rest, q.1 ≠ dk) (r2 : ∀ q ∈ rest, q.1 ≠ kl)
    (hr : IsRange s.heap r 0 b 1 t u v) (hb : 0 ≤ b ∧ b ≤ 8)
    (turn : ∀ (g : Heap) ys I oI C oC D m₂ h tk (E' : Value → Shared → Prop) (cv : List Value) (ci : List Int) (kn en : Nat) (mx : Int) (tm : Tok), IntsAre cv ci → (∀ x ∈ ci, 0 ≤ x) → ci.length ≤ 63 → (0 ≤ mx ∧ mx < 2147483647) → NsObj oC m₂ → Fr h₀ L h m → News h₀ L h ((dk, listOf #[.ref kl, .int mx tm] en) :: (kl, listOf cv.toArray kn) :: (I, oI) :: (C, oC) :: (D, lst ys) :: rest) → Off3 I C D rest → ((@Ne Nat I C) ∧ (@Ne Nat I D) ∧ (@Ne Nat C D)) →
      (∀ q ∈ (I, oI) :: (C, oC) :: (D, lst ys) :: rest, q.1 ≠ dk) → (∀ q ∈ (I, oI) :: (C, oC) :: (D, lst ys) :: rest, q.1 ≠ kl) →
      wpAny (model prog w) A (eval elt (compEnvC scope cl C env)) (DTurn h₀ L m { s with heap := h, toks := tk } I C D dk kl oI oC ys rest) E' { s with heap := h, toks := tk })
    (fin : ∀ (g : Heap) ys (cv : List Value) (ci : List Int) (kn en : Nat) (mx : Int) (tm : Tok), IntsAre cv ci → (∀ x ∈ ci, 0 ≤ x) → ci.length ≤ 63 → (0 ≤ mx ∧ mx < 2147483647) → DLines ys → Fin { s with heap := g } ys ((dk, listOf #[.ref kl, .int mx tm] en) :: (kl, listOf cv.toArray kn) :: rest)) : CompSrc prog w A h₀ L m env elt x scope cl Fin (.ref r) s := by
  obtain ⟨n, rfl⟩ : ∃ n : Nat, b = (n : Int) := ⟨b.toNat, by omega⟩
  refine CompSrc.range hh F N hr (small_one (by omega) (by omega) (by omega) (by omega)) (by rw [rangeSize_nat]) (by rw [sizeLine_eq]; omega) fun g => ?_
  refine compU_state (σ := { l : List (Addr × Obj) // DkIs dk kl rest l }) Subtype.val (fun i ys _ => ∃ ws : List Str, StrsAre ys ws ∧ (∀ a ∈ ws, LineText a) ∧ ws.length = i) ⟨_, cv, ci, kn, en, mx, tm, rfl, hI, hpos, hlen, hm⟩ (fun _ => trivial) ⟨[], .nil, (fun _ h => nomatch h), rfl⟩ ?_ ?_
  · rintro i ys ⟨c, cv, ci, kn, en, mx, tm, rfl, hI, hpos, hlen, hm⟩ v I oI C oC D m₂ h tk E' hi hj _ hC hx F' N' off ne
    dsimp only at N' off
    obtain ⟨o1, o2, o3⟩ := off3_all off
    have N2 : News h₀ L h ((dk, listOf #[.ref kl, .int mx tm] en) :: (kl, listOf cv.toArray kn) :: (I, oI) :: (C, oC) :: (D, lst ys) :: rest) := cb_drop N' fun q hq => by
      simp only [List.mem_cons] at hq ⊢
      rcases hq with h | h | h | h | h | h <;> simp [h]
    have of : ∀ {z : Addr} {oz : Obj}, (z, oz) ∈ (dk, listOf #[.ref kl, .int mx tm] en) :: (kl, listOf cv.toArray kn) :: rest → z = dk ∨ z = kl → ∀ q ∈ (I, oI) :: (C, oC) :: (D, lst ys) :: rest, q.1 ≠ z := fun hz hor q hq => by
      rcases List.mem_cons.mp hq with rfl | hq
      · exact (o1 _ hz).symm
      rcases List.mem_cons.mp hq with rfl | hq
      · exact (o2 _ hz).symm
      rcases List.mem_cons.mp hq with rfl | hq
      · exact (o3 _ hz).symm
      rcases hor with rfl | rfl
      · exact r1 q hq
      · exact r2 q hq
    refine wpAny_mono (turn g ys I oI C oC D m₂ h tk E' cv ci kn en mx tm hI hpos hlen hm hC F' N2 off.2.2 ne (of (.head _) (.inl rfl)) (of (.tail _ (.head _)) (.inr rfl))) (fun y s₂ z => ?_) fun _ _ z => z
    obtain ⟨h', tk', led, rfl, F3, ⟨cv', ci', kn', en', mx', tm', rfl, q1, q2, q3, q4⟩, N3, zz, zt, rfl, hz⟩ := z
    refine ⟨⟨_, cv', ci', kn', en', mx', tm', rfl, q1, q2, q3, q4⟩, off, h', tk', rfl, F3, N3, ?_⟩
    obtain ⟨ws, w1, w2, w3⟩ := hj
    refine ⟨ws ++ [zz], strs_app w1, fun a ha => ?_, by rw [List.length_append, List.length_singleton, w3]⟩
    rcases List.mem_append.mp ha with ha | ha
    · exact w2 a ha
    · rw [List.mem_singleton.mp ha]; exact hz
  · rintro ys ⟨c, cv, ci, kn, en, mx, tm, rfl, hI, hpos, hlen, hm⟩ hj
    obtain ⟨ws, w1, w2, w3⟩ := hj
    exact fin g ys cv ci kn en mx tm hI hpos hlen hm ⟨ws, w1, w2, by omega⟩
def LoopE (h₀ : Heap) (L : Addr) (s₁ : Shared) (x : Str) (stored : List Str) (m₀ : Str → Option Value) (dk kl : Addr) (rest : List (Addr × Obj)) (s₂ : Shared) : Prop :=
  ∃ (h' : Heap) (tk : Nat) (m' : Str → Option Value) (led : List (Addr × Obj)), s₂ = { s₁ with heap := h', toks := tk } ∧ Fr h₀ L h' m' ∧ DkIs dk kl rest led ∧ News h₀ L h' led ∧ ∀ z, z ≠ x → stored.contains z = false → m' z = m₀ z
theorem LoopE.intro {h₀ : Heap} {L : Addr} {s₁ : Shared} {x : Str} {stored : List Str} {m₀ m' : Str → Option Value} {dk kl : Addr} {rest : List (Addr × Obj)} {h' : Heap} {tk : Nat} {cv : List Value} {ci : List Int} {kn en : Nat} {mx : Int} {tm : Tok} (F : Fr h₀ L h' m') (N : News h₀ L h' ((dk, listOf #[.ref kl, .int mx tm] en) :: (kl, listOf cv.toArray kn) :: rest)) (hI : IntsAre cv ci) (hpos : ∀ x ∈ ci, 0 ≤ x) (hlen : ci.length ≤ 63) (hm : 0 ≤ mx ∧ mx < 2147483647)
    (hz : ∀ z, z ≠ x → stored.contains z = false → m' z = m₀ z) : LoopE h₀ L s₁ x stored m₀ dk kl rest { s₁ with heap := h', toks := tk } := ⟨h', tk, m', _, rfl, F, ⟨cv, ci, kn, en, mx, tm, rfl, hI, hpos, hlen, hm⟩, N, hz⟩
/-- the law's turns -/
theorem for_deck {body : List Stmt} {x : Str} {Q : Flow → Shared → Prop} {r dk kl : Addr} {b : Int} {t₀ u₀ v₀ : Tok} {m₀ : Str → Option Value} {rest : List (Addr × Obj)} (stored : List Str) {cv : List Value} {ci : List Int} {kn en : Nat} {mx : Int} {tm : Tok}
    (hh : A.handled = none) (F : Fr h₀ env.locals s.heap m₀) (N : News h₀ env.locals s.heap ((dk, listOf #[.ref kl, .int mx tm] en) :: (kl, listOf cv.toArray kn) :: rest)) (hI : IntsAre cv ci) (hpos : ∀ x ∈ ci, 0 ≤ x) (hlen : ci.length ≤ 63) (hm : 0 ≤ mx ∧ mx < 2147483647)
    (hr : IsRange s.heap r 0 b 1 t₀ u₀ v₀) (hb : 0 ≤ b ∧ b ≤ 8)
    (turn : ∀ (k : Int) (t : Tok) (u : Str → Option Value) h tk (rest' : List (Addr × Obj)) (cv : List Value) (ci : List Int) (kn en : Nat) (mx : Int) (tm : Tok), IntsAre cv ci → (∀ x ∈ ci, 0 ≤ x) → ci.length ≤ 63 → (0 ≤ mx ∧ mx < 2147483647) →
      Fr h₀ env.locals h (fun y => if y = x then some (.int k t) else if stored.contains y then u y else m₀ y) → News h₀ env.locals h ((dk, listOf #[.ref kl, .int mx tm] en) :: (kl, listOf cv.toArray kn) :: rest') → (∀ q ∈ rest, q ∈ rest') → (∀ q ∈ rest', q ∈ rest ∨ q.1 ≠ dk ∧ q.1 ≠ kl) →
      wpAny (model prog w) A (execs body env) (SPost Q (LoopE h₀ env.locals { s with heap := h, toks := tk } x stored m₀ dk kl rest')) E { s with heap := h, toks := tk })
    (done : ∀ (u : Str → Option Value) h tk (cv : List Value) (ci : List Int) (kn en : Nat) (mx : Int) (tm : Tok), IntsAre cv ci → (∀ x ∈ ci, 0 ≤ x) → ci.length ≤ 63 → (0 ≤ mx ∧ mx < 2147483647) →
      Fr h₀ env.locals h (fun y => if y = x then u y else if stored.contains y then u y else m₀ y) → News h₀ env.locals h ((dk, listOf #[.ref kl, .int mx tm] en) :: (kl, listOf cv.toArray kn) :: rest) → Q .next { s with heap := h, toks := tk }) :
    wpAny (model prog w) A (pyIter (.ref r)) (fun it s₂ => LoopAtV prog w A h₀ env x body Q E it s₂) E s := by
  obtain ⟨n, rfl⟩ : ∃ n : Nat, b = (n : Int) := ⟨b.toNat, by omega⟩
  refine kst_range (σ := { l : List (Addr × Obj) // DkIs dk kl rest l }) Subtype.val (fun _ => []) (fun _ => True) stored (fun _ _ => True) ⟨_, cv, ci, kn, en, mx, tm, rfl, hI, hpos, hlen, hm⟩ hh hr (small_one (by omega) (by omega) (by omega) (by omega)) (by rw [rangeSize_nat]) F N trivial (fun p hp => nomatch hp) trivial ?_ ?_
  · rintro ⟨c, cv', ci', kn', en', mx', tm', rfl, hI', hpos', hlen', hm'⟩ pre k t u h tk own _ _ hown _ _ F₁ N₁
    dsimp only at N₁
    have o1 := fun q hq => hown q hq dk (.head _)
    have o2 := fun q hq => hown q hq kl (.tail _ (.head _))
    refine wpAny_mono (turn k t u h tk (rest ++ own) cv' ci' kn' en' mx' tm' hI' hpos' hlen' hm' F₁ N₁ (fun q hq => List.mem_append_left _ hq) (fun q hq => (List.mem_append.mp hq).imp id fun h => ⟨o1 q h, o2 q h⟩)) (fun f s₂ z => ?_) fun _ _ z => z
    have up : LoopE h₀ env.locals { s with heap := h, toks := tk } x stored m₀ dk kl (rest ++ own) s₂ → InvEndN h₀ env.locals (KstS (σ := { l : List (Addr × Obj) // DkIs dk kl rest l }) Subtype.val (fun _ => []) (fun _ => True) x stored m₀ (fun _ _ => True) (pre ++ [k])) own (((dk, listOf #[.ref kl, .int mx tm] en) :: (kl, listOf cv.toArray kn) :: rest).map (·.1)) { s with heap := h, toks := tk } s₂ := by
      rintro ⟨h', tk', m', led, rfl, F', ⟨cv2, ci2, kn2, en2, mx2, tm2, rfl, q1, q2, q3, q4⟩, N', hz⟩
      exact ⟨h', tk', m', _, (dk, listOf #[.ref kl, .int mx2 tm2] en2) :: (kl, listOf cv2.toArray kn2) :: rest, rfl, F', N', (fun q hq => by
        rcases List.mem_cons.mp hq with rfl | hq
        · exact .head _
        rcases List.mem_cons.mp hq with rfl | hq
        · exact .tail _ (.head _)
        · exact .tail _ (.tail _ (List.mem_append_left _ hq))), (fun q hq => .tail _ (.tail _ (List.mem_append_right _ hq))), rfl, ⟨(dk, listOf #[.ref kl, .int mx2 tm2] en2) :: (kl, listOf cv2.toArray kn2) :: rest, cv2, ci2, kn2, en2, mx2, tm2, rfl, q1, q2, q3, q4⟩, rfl, trivial, (fun p hp => nomatch hp), (fun z h1 _ h3 => hz z h1 h3), trivial⟩
    cases f with
    | ret v => exact z
    | brk => exact z
    | next => exact up z
    | cont => exact up z
  · rintro ⟨c, cv', ci', kn', en', mx', tm', rfl, hI', hpos', hlen', hm'⟩ u h tk _ _ F₁ N₁
    exact done u h tk cv' ci' kn' en' mx' tm' hI' hpos' hlen' hm' F₁ N₁
end
example : True := by
  k_with_none
  w_top off
  exact trivial
example : True := by
  k_with "mroom" => with_unfolding_all first | ((rename (_ + _ < recursionLimit) => hZq7); first | exact room_lt hZq7 0 rfl rfl | exact room_lt hZq7 1 rfl rfl | exact room_lt hZq7 2 rfl rfl | exact room_lt hZq7 3 rfl rfl | exact room_lt hZq7 4 rfl rfl | exact room_lt hZq7 5 rfl rfl | exact room_lt hZq7 6 rfl rfl | exact room_lt hZq7 7 rfl rfl | exact room_lt hZq7 8 rfl rfl | exact room_lt hZq7 9 rfl rfl | exact room_lt hZq7 10 rfl rfl | exact room_lt hZq7 11 rfl rfl | exact room_lt hZq7 12 rfl rfl | exact room_lt hZq7 13 rfl rfl | exact room_lt hZq7 14 rfl rfl | exact room_lt hZq7 15 rfl rfl) | exact lt_ble rfl | fail "mroom"
  exact trivial
example : True := by
  k_with "munits" => with_unfolding_all first | ((rename (_ + _ + _ < cLine) => hZq7); first | exact unit_lt2 hZq7 0 rfl rfl | exact unit_lt2 hZq7 3 rfl rfl | exact unit_lt2 hZq7 6 rfl rfl | exact unit_lt2 hZq7 9 rfl rfl | exact unit_lt2 hZq7 12 rfl rfl | exact unit_lt hZq7 0 rfl rfl | exact unit_lt hZq7 3 rfl rfl | exact unit_lt hZq7 6 rfl rfl | exact unit_lt hZq7 9 rfl rfl | exact unit_lt hZq7 12 rfl rfl) | exact lt_ble rfl | fail "munits"
  exact trivial
example : True := by
  k_with "mne" => (refine neN ?_; (try dsimp only); first | assumption | exact Ne.symm (by assumption) | exact Nat.ne_of_lt (by assumption) | exact Nat.ne_of_gt (by assumption) | fail "mne")
  exact trivial
theorem third {α : Type} {a b c : α} {l : List α} : c ∈ a :: b :: c :: l := .tail _ (.tail _ (.head _))
theorem row_len {s : Str} (h : RowText s) : s.length ≤ 7 := h.1
theorem textok_len {x : Str} (h : TextOk x) : x.length ≤ 64 := h.1
theorem news_sw1 {h₀ : Heap} {L : Addr} {h : Heap} {a b c : Addr × Obj} {l : List (Addr × Obj)} (N : News h₀ L h (a :: b :: c :: l)) : News h₀ L h (b :: c :: a :: l) := cb_drop N fun q hq => by
  simp only [List.mem_cons] at hq ⊢
  rcases hq with h | h | h | h <;> simp [h]
theorem newRows_K {A : Around} {E : Value → Shared → Prop} {s : Shared} {h₀ : Heap} {L : Addr} {m : Str → Option Value} {news : List (Addr × Obj)} {vs : List Value} {Q : Value → Shared → Prop} (F : Fr h₀ L s.heap m) (N : News h₀ L s.heap news) (hl : 1 ≤ vs.length ∧ vs.length ≤ 1000) (hiv : ∀ v ∈ vs, ∃ s t, v = .str s t ∧ RowText s)
    (h : ∀ (ivs : List Value) (l : Addr) h', (1 ≤ ivs.length ∧ ivs.length ≤ 1000) → (∀ v ∈ ivs, ∃ s t, v = .str s t ∧ RowText s) → Fr h₀ L h' m → News h₀ L h' ((l, listOf ivs.toArray 0) :: news) → (∀ p ∈ news, p.1 < l) → Q (.ref l) { s with heap := h' }) : wpAny (model prog w) A (newList vs) Q E s :=
  newList_K F N (fun l h' F' N' l1 => h vs l h' hl hiv F' N' l1) (hsz := Nat.le_trans hl.2 (by rw [sizeLine_eq]; decide))
theorem rows_nil : ∀ v ∈ ([] : List Value), ∃ s t, v = .str s t ∧ RowText s := fun _ h => nomatch h
theorem rows_cons {a : Str} {t : Tok} {l : List Value} (h : RowText a) (hl : ∀ v ∈ l, ∃ s t, v = .str s t ∧ RowText s) : ∀ v ∈ Value.str a t :: l, ∃ s t, v = .str s t ∧ RowText s := List.forall_mem_cons.mpr ⟨⟨a, t, rfl, h⟩, hl⟩
section
variable {A : Around} {s : Shared} {h₀ : Heap} {L : Addr} {m : Str → Option Value} {env : Env}
open LCg LCt in
theorem comp_ord {elt : Expr} {x : Str} {scope : Scope} {cl : List (Str × Addr)} {Q : Value → Shared → Prop} {xt : Str} {tx : Tok} {news : List (Addr × Obj)} (hh : A.handled = none) (F : Fr h₀ L s.heap m) (N : News h₀ L s.heap news) (hsz : xt.length ≤ 64)
    (turn : ∀ (g : Heap) (i : Nat) ys (c : Nat) t I oI C oC D m₂ h tk (E' : Value → Shared → Prop), i < xt.cps.size → NsObj oC m₂ → m₂ x = some (.str ⟨#[c]⟩ t) → Fr h₀ L h m → News h₀ L h ((I, oI) :: (C, oC) :: (D, lst ys) :: news) → Off3 I C D news → ((@Ne Nat I C) ∧ (@Ne Nat I D) ∧ (@Ne Nat C D)) →
      wpAny (model prog w) A (eval elt (compEnvC scope cl C env)) (TurnEnd h₀ L m { s with heap := h, toks := tk } ((I, oI) :: (C, oC) :: (D, lst ys) :: news) (fun y => ∃ t', y = .int (c : Int) t')) E' { s with heap := h, toks := tk })
    (fin : ∀ (g : Heap) ys, IntsAre ys (KStt.codes xt) → FinE h₀ L m { s with heap := g } Q ys news) : TextSrcU prog w A h₀ L m env elt x scope cl Q (.str xt tx) s := by
  refine comp_textU (fun i ys => IntsAre ys ((KStt.codes xt).take i)) hh F N (Nat.le_trans hsz (by rw [sizeLine_eq]; decide)) .nil ?_ fun g ys hj => fin g ys ?_
  · intro g i ys c t I oI C oC D m₂ h tk E' hi hj hc hC hx F' N' off ne
    refine wpAny_mono (turn g i ys c t I oI C oC D m₂ h tk E' hi hC hx F' N' off ne) (fun y s₂ z => ?_) fun _ _ z => z
    obtain ⟨h', tk', rfl, F', N', t', rfl⟩ := z
    refine ⟨h', tk', rfl, F', N', ?_⟩
    show IntsAre _ ((KStt.codes xt).take (i + 1))
    rw [codes_take hc]
    exact ints_app hj (.cons _ _ .nil)
  · have e : (KStt.codes xt).take xt.cps.size = KStt.codes xt := List.take_of_length_le (Nat.le_of_eq (KStt.codes_length xt))
    rwa [e] at hj
end
theorem trow_perm {h₀ : Heap} {L : Addr} {h : Heap} {tr : List (Addr × Obj)} {a b c : Addr × Obj} {l : List (Addr × Obj)} (N : News h₀ L h (tr ++ a :: b :: c :: l)) (ap : ∀ q ∈ tr, ∀ p ∈ a :: b :: c :: l, p.1 ≠ q.1) (r1 : ∀ q ∈ l, q.1 ≠ b.1) (r2 : ∀ q ∈ l, q.1 ≠ c.1) :
    News h₀ L h (b :: c :: (tr ++ l)) ∧ (∀ q ∈ tr ++ l, q.1 ≠ b.1) ∧ ∀ q ∈ tr ++ l, q.1 ≠ c.1 := by
  refine ⟨cb_drop N fun q hq => ?_, fun q hq => ?_, fun q hq => ?_⟩
  · simp only [List.mem_cons, List.mem_append] at hq ⊢
    rcases hq with h | h | h | h <;> simp [h]
  · rcases List.mem_append.mp hq with h | h
    · exact (ap q h b (.tail _ (.head _))).symm
    · exact r1 q h
  · rcases List.mem_append.mp hq with h | h
    · exact (ap q h c (.tail _ (.tail _ (.head _)))).symm
    · exact r2 q h
theorem ltab_perm {h₀ : Heap} {L : Addr} {h : Heap} {tq tr l : List (Addr × Obj)} {dk kl tv tt : Addr} {ns : List Int} {cv : List Value} {kn en : Nat} {mx : Int} {tm : Tok} (N : News h₀ L h (tq ++ (dk, listOf #[.ref kl, .int mx tm] en) :: (kl, listOf cv.toArray kn) :: (tr ++ l))) (V : ViewIn tr tv ns) (Tb : TabIn prog w tq tt) (nl : NoList tq) (r1 : ∀ q ∈ tr ++ l, q.1 ≠ dk) (r2 : ∀ q ∈ tr ++ l, q.1 ≠ kl) :
    ∃ R : List (Addr × Obj), News h₀ L h ((dk, listOf #[.ref kl, .int mx tm] en) :: (kl, listOf cv.toArray kn) :: R) ∧ ViewIn R tv ns ∧ TabIn prog w R tt ∧ (∀ q ∈ R, q.1 ≠ dk) ∧ (∀ q ∈ R, q.1 ≠ kl) ∧ ∀ q ∈ l, q ∈ R := by
  have ap : ∀ {z : Addr} {vs : Array Value} {k : Nat}, (z, listOf vs k) ∈ (dk, listOf #[.ref kl, .int mx tm] en) :: (kl, listOf cv.toArray kn) :: (tr ++ l) → ∀ q ∈ tq, q.1 ≠ z := fun hz q hq e => by
    have h1 := (N _ (List.mem_append_left _ hq)).1
    have h2 := (N _ (List.mem_append_right _ hz)).1
    dsimp only at h2
    rw [e, h2] at h1
    have h3 := Option.some.inj h1
    exact nl q hq (by rw [← h3])
  refine ⟨tq ++ (tr ++ l), cb_drop N fun q hq => ?_, V.mono fun q hq => List.mem_append_right _ (List.mem_append_left _ hq), Tb.mono fun q hq => List.mem_append_left _ hq, fun q hq => ?_, fun q hq => ?_, fun q hq => List.mem_append_right _ (List.mem_append_right _ hq)⟩
  · simp only [List.mem_cons, List.mem_append] at hq ⊢
    rcases hq with h | h | h | h | h <;> simp [h]
  · rcases List.mem_append.mp hq with h | h
    · exact ap (.head _) q h
    · exact r1 q h
  · rcases List.mem_append.mp hq with h | h
    · exact ap (.tail _ (.head _)) q h
    · exact r2 q h
example : True := by
  k_with_none
  w_top off
  exact trivial
example : True := by
  k_with "mroom" => with_unfolding_all first | ((rename (_ + _ < recursionLimit) => hZq7); first | exact room_lt hZq7 0 rfl rfl | exact room_lt hZq7 1 rfl rfl | exact room_lt hZq7 2 rfl rfl | exact room_lt hZq7 3 rfl rfl | exact room_lt hZq7 4 rfl rfl | exact room_lt hZq7 5 rfl rfl | exact room_lt hZq7 6 rfl rfl | exact room_lt hZq7 7 rfl rfl | exact room_lt hZq7 8 rfl rfl | exact room_lt hZq7 9 rfl rfl | exact room_lt hZq7 10 rfl rfl | exact room_lt hZq7 11 rfl rfl | exact room_lt hZq7 12 rfl rfl | exact room_lt hZq7 13 rfl rfl | exact room_lt hZq7 14 rfl rfl | exact room_lt hZq7 15 rfl rfl) | exact lt_ble rfl | fail "mroom"
  exact trivial
example : True := by
  k_with "munits" => with_unfolding_all first | ((rename (_ + _ + _ < cLine) => hZq7); first | exact unit_lt2 hZq7 0 rfl rfl | exact unit_lt2 hZq7 3 rfl rfl | exact unit_lt2 hZq7 6 rfl rfl | exact unit_lt2 hZq7 9 rfl rfl | exact unit_lt2 hZq7 12 rfl rfl | exact unit_lt hZq7 0 rfl rfl | exact unit_lt hZq7 3 rfl rfl | exact unit_lt hZq7 6 rfl rfl | exact unit_lt hZq7 9 rfl rfl | exact unit_lt hZq7 12 rfl rfl) | exact lt_ble rfl | fail "munits"
  exact trivial
example : True := by
  k_with "mne" => (refine neN ?_; (try dsimp only); first | assumption | exact Ne.symm (by assumption) | exact Nat.ne_of_lt (by assumption) | exact Nat.ne_of_gt (by assumption) | fail "mne")
  exact trivial
theorem nameX_goes {M : Model} {A : Around} {E : Value → Shared → Prop} {s : Shared} {h₀ : Heap} {L a : Addr} {m : Str → Option Value} {cn : Str} {cs : Scope} {ccd : Value} {cl : List (Str × Addr)} {news : List (Addr × Obj)} {n : Str} {pos : Pos} {Q : Unit → Shared → Prop} (F : Fr h₀ L s.heap m) (N : News h₀ L s.heap news)
    (h : ∀ h' v, Fr h₀ L h' (fun x => if x = n then v else m x) → News h₀ L h' news → Q () { s with heap := h', toks := s.toks + 1 })
    (hk : cs.kind = .function) (hl : (envX cn cs L a ccd cl).kindOf n = some .local) :
    wpAny M A (do bindName (envX cn cs L a ccd cl) n .none; unbindBehindTheSuite (envX cn cs L a ccd cl) n pos) Q E s :=
  wpAny_nameGoes_keeps hl F.ns (by show (cs.kind == .class || (cs.kind == .module && L != mainGlobals)) = false; rw [hk]; rfl) fun h' v hn hs => h h' v (F.set hn hs) (N.set hs)
theorem tl2 {α : Type} {a b : α} {l : List α} : ∀ q ∈ l, q ∈ a :: b :: l := fun _ h => .tail _ (.tail _ h)
theorem textok_al {x : Str} (h : TextOk x) : ∀ c ∈ KStt.codes x, Alpha c := h.2
theorem told_fix {ns : List Int} {p : Int} {o : Outc} (h : Told ns (1 + p) (lookAt ns (1 + p)) o) : Told ns (p + 1) (lookAt ns (p + 1)) o := by rwa [Int.add_comm 1 p] at h
theorem so_ret {b b' : Int} (h : SameOut (.ret b) (.ret b')) : b = b' + 1 := h
theorem loop_off1 {R R' : List (Addr × Obj)} {dk kl : Addr} (r : ∀ q ∈ R, q.1 ≠ dk) (h : ∀ q ∈ R', q ∈ R ∨ q.1 ≠ dk ∧ q.1 ≠ kl) : ∀ q ∈ R', q.1 ≠ dk := fun q hq => (h q hq).elim (r q) (·.1)
theorem loop_off2 {R R' : List (Addr × Obj)} {dk kl : Addr} (r : ∀ q ∈ R, q.1 ≠ kl) (h : ∀ q ∈ R', q ∈ R ∨ q.1 ≠ dk ∧ q.1 ≠ kl) : ∀ q ∈ R', q.1 ≠ kl := fun q hq => (h q hq).elim (r q) (·.2)
example : True := by
  k_with_none
  w_top off
  exact trivial
example : True := by
  k_with "mroom" => with_unfolding_all first | ((rename (_ + _ < recursionLimit) => hZq7); first | exact room_lt hZq7 0 rfl rfl | exact room_lt hZq7 1 rfl rfl | exact room_lt hZq7 2 rfl rfl | exact room_lt hZq7 3 rfl rfl | exact room_lt hZq7 4 rfl rfl | exact room_lt hZq7 5 rfl rfl | exact room_lt hZq7 6 rfl rfl | exact room_lt hZq7 7 rfl rfl | exact room_lt hZq7 8 rfl rfl | exact room_lt hZq7 9 rfl rfl | exact room_lt hZq7 10 rfl rfl | exact room_lt hZq7 11 rfl rfl | exact room_lt hZq7 12 rfl rfl | exact room_lt hZq7 13 rfl rfl | exact room_lt hZq7 14 rfl rfl | exact room_lt hZq7 15 rfl rfl) | exact lt_ble rfl | fail "mroom"
  exact trivial
example : True := by
  k_with "munits" => with_unfolding_all first | ((rename (_ + _ + _ < cLine) => hZq7); first | exact unit_lt2 hZq7 0 rfl rfl | exact unit_lt2 hZq7 3 rfl rfl | exact unit_lt2 hZq7 6 rfl rfl | exact unit_lt2 hZq7 9 rfl rfl | exact unit_lt2 hZq7 12 rfl rfl | exact unit_lt hZq7 0 rfl rfl | exact unit_lt hZq7 3 rfl rfl | exact unit_lt hZq7 6 rfl rfl | exact unit_lt hZq7 9 rfl rfl | exact unit_lt hZq7 12 rfl rfl) | exact lt_ble rfl | fail "munits"
  exact trivial
example : True := by
  k_with "mne" => (refine neN ?_; (try dsimp only); first | assumption | exact Ne.symm (by assumption) | exact Nat.ne_of_lt (by assumption) | exact Nat.ne_of_gt (by assumption) | fail "mne")
  exact trivial
example : True := by
  k_with "call ref" => (k_here; (with_reducible show wpAny _ _ (PySem.call (Value.ref 667) _) _ _ _); (k_dflt (refine' law_deck ?ci ?cn _ _ _ _ _ _ _ _ _ _ _ _ _ _ _ _ _ ?hl ?kB ?kF ?kX ?kN ?kT ?kk ?kd ?ku ?_; (case ci => assumption); (case hl => assumption); (case kB => k_asm); (case kF => k_asm); (case kX => k_asm); (case kN => k_asm); (case kT => k_asm); (case kk => exact rfl); (case cn => omega); (case kd => ktr_room); (case ku => ktr_units); k_whole)); ((intro v9 n9 h9 tk9 F9 N9 p9; refine goal_gen ?_; intro GG9 kGG9; obtain ⟨dk, kl, cv9, ci9, kn9, en9, mx9, tm9, e9, p8, hI9, hpos9, hlen9, hm9, hm9b, nd9, of1, of2⟩ := p9; refine kGG9 ?_; clear kGG9 GG9; subst p8; subst e9; (have oo1 := off_two of1); (have oo2 := off_two of2); (obtain ⟨oa1, oa2⟩ := oo1); (obtain ⟨ob1, ob2⟩ := oo2); (have hmm9 := And.intro hm9 hm9b); (try dsimp only); (try k_sweep))))
  exact trivial
example : True := by
  k_with "eval IfExp" => (focus (k_here; (with_reducible show wpAny _ _ (eval (Expr.IfExp (Expr.Compare _ _ _ _) _ _ _) _) _ _ _); (fail_if_success (with_reducible show wpAny _ _ _ (JoinI _ _ _ _ _ _ _) _ _)); (k_dflt (refine' join_int 3 9 ?ij1 ?ij2 ?_ ?_; (case ij1 => k_asm); (case ij2 => k_asm)); rotate_left; (intro k9 kt9 h' tk' hk9 F' N'; (try dsimp only); (try k_sweep)); rotate_left)))
  exact trivial
example : True := by
  k_with "JoinI" => ((refine' JoinI.intro ?j1 ?j2 ?j3; (case j1 => k_asm); (case j2 => first | k_asm | exact news_tl (by k_asm)); (case j3 => (constructor <;> decide))))
  exact trivial
example : True := by
  k_with "call ref" => (k_here; (with_reducible show wpAny _ _ (PySem.call (Value.ref 674) _) _ _ _); k_dflt (refine' Ct.use (law_draw ?hI ?hpos ?hlen ?hm ?hk ?q1 ?q2 ?q3) ?kB ?kF ?kX ?kN ?kT ?kk ?kd ?ku ?_; (case kB => k_asm); (case kF => k_asm); (case kX => k_asm); (case kN => first | k_asm | exact news_sw1 (by k_asm)); (case kT => k_asm); (case kk => first | exact rfl | assumption); (case hI => assumption); (case hpos => assumption); (case hlen => assumption); (case hm => assumption); (case hk => (first | assumption | (constructor <;> omega))); (case q1 => assumption); (case q2 => k_all); (case q3 => k_all); (case kd => ktr_room); (case ku => ktr_units); k_whole); intro v9 n9 h9 tk9 F9 N9 p9; refine goal_gen ?_; intro GG9 kGG9; obtain ⟨i9, it9, p8, dlo9, dhi9, cv9, ci9, kn9, en9, mx9, tm9, e9, hI9, hpos9, hlen9, hm9, hm9b⟩ := p9; refine kGG9 ?_; clear kGG9 GG9; subst p8; subst e9; (have hmm9 := And.intro hm9 hm9b); (try dsimp only); (try k_sweep))
  exact trivial
example : True := by
  k_with "call ref" => (k_here; (with_reducible show wpAny _ _ (PySem.call (Value.ref 681) _) _ _ _); k_dflt (refine' Ct.use (law_one ?hI ?hpos ?hlen ?hm ?q1 ?q2 ?q3 ?hlr ?hl1 ?hiv) ?kB ?kF ?kX ?kN ?kT ?kk ?kd ?ku ?_; (case kB => k_asm); (case kF => k_asm); (case kX => k_asm); (case kN => first | k_asm | exact news_sw1 (by k_asm)); (case kT => k_asm); (case kk => first | exact rfl | assumption); (case hI => assumption); (case hpos => assumption); (case hlen => assumption); (case hm => assumption); (case q1 => assumption); (case q2 => k_all); (case q3 => k_all); (case hlr => k_mem); (case hl1 => assumption); (case hiv => assumption); (case kd => ktr_room); (case ku => ktr_units); k_whole); intro v9 n9 h9 tk9 F9 N9 p9; refine goal_gen ?_; intro GG9 kGG9; obtain ⟨⟨z9, zt9, p8, hz9⟩, cv9, ci9, kn9, en9, mx9, tm9, e9, hI9, hpos9, hlen9, hm9, hm9b⟩ := p9; refine kGG9 ?_; clear kGG9 GG9; subst p8; subst e9; (have hmm9 := And.intro hm9 hm9b); (have hz8 := row_len hz9); (try dsimp only); (try k_sweep))
  exact trivial
example : True := by
  k_with "newList" => (k_here; (with_reducible show wpAny _ _ (newList [_, _, _, _, _, _, _, _, _, _]) _ _ _); (k_dflt (refine' newRows_K ?k1 ?k2 ?k3 ?k4 ?_; (case k1 => k_asm); (case k2 => k_asm); (case k3 => exact ⟨Nat.le_of_ble_eq_true rfl, Nat.le_of_ble_eq_true rfl⟩); (case k4 => (repeat (first | exact rows_nil | refine rows_cons (row_text (Nat.le_of_ble_eq_true (by kernel_rfl)) (by kernel_rfl)) ?_))); k_whole)); intro iv9 l' h' hlv9 hiv9 F' N' l1; (try k_lt l1); (try k_sweep))
  exact trivial
example : True := by
  k_with "eval ListComp" => (k_here; (with_reducible show wpAny _ _ (eval (Expr.ListComp (Expr.BinOp _ _ _ _) [⟨_, _, [], _⟩] _ _) _) _ _ _); ((k_dflt (refine LCg.ListComp_U (F₀ := by k_asm) (by with_unfolding_all rfl) (by decide) (by rfl) (by decide) (by rfl) ?_))))
  exact trivial
example : True := by
  k_with "eval ListComp" => (k_here; (with_reducible show wpAny _ _ (eval (Expr.ListComp (Expr.Call _ _ _ _) [⟨_, _, [], _⟩] _ _) _) _ _ _); ((k_dflt (refine ListComp_SU (by k_asm) (by with_unfolding_all rfl) (by decide) (by rfl) (by decide) (by rfl) ?_))))
  exact trivial
example : True := by
  k_with "CompSrc" => (focus (k_here; (with_reducible show LCg.CompSrc _ _ _ _ _ _ _ (Expr.BinOp _ _ _ _) _ _ _ _ _ _); ((k_dflt (refine' comp_deck ?ci1 ?ci2 ?ci3 ?ci4 ?ci5 ?ci6 ?ci7 ?cj1 ?cj2 ?cj3 ?ci8 ?ci9 ?_ ?_); (case ci1 => k_dflt (exact rfl)); (case ci2 => k_asm); (case ci3 => k_asm); (case ci4 => assumption); (case ci5 => assumption); (case ci6 => assumption); (case ci7 => assumption); (case cj1 => assumption); (case cj2 => k_all); (case cj3 => k_all); (case ci8 => assumption); (case ci9 => (constructor <;> omega)); (intro g9 ys9 I9 oI9 C9 oC9 D9 m9 h' tk' E9 cv9 ci9 kn9 en9 mx9 tm9 hI9 hpos9 hlen9 hmm9 hC9 F' N' off9 ne9 r19 r29); rotate_left; (intro g9 ys9 cv9 ci9 kn9 en9 mx9 tm9 hI9 hpos9 hlen9 hmm9 hj9; (unfold DLines at hj9); (obtain ⟨ws9, hw1, hw2, hw3⟩ := hj9); (have hw5 := lines_tot hw2 hw3); (have htx := join_ok hw2 hw3); (try dsimp only)); rotate_left))))
  exact trivial
example : True := by
  k_with "DTurn" => ((refine' DTurn.intro ?dt1 ?dt2 ?dt3 ?dt4 ?dt5 ?dt6 ?dt7; (case dt1 => k_asm); (case dt2 => k_asm); (case dt3 => assumption); (case dt4 => assumption); (case dt5 => assumption); (case dt6 => assumption); (case dt7 => exact line_ok (by assumption))))
  exact trivial
example : True := by
  k_with "call builtin:str.join" => (k_here; (with_reducible show wpAny _ _ (call (Value.builtin "str.join") [Value.str _ _, Value.ref _]) _ _ _); (k_dflt (refine' join_list ?j1 ?j2 ?j3 ?_; (case j1 => is_list); (case j2 => exact hw1); (case j3 => exact hw5); k_whole)); (intro t8 k8; (generalize Txt.join (Str.ofString "") ws9 = x8 at htx ⊢); (have hx8 := textok_len htx); (rename News _ _ _ _ => nE); (have N' := news_tl nE); clear nE))
  exact trivial
example : True := by
  k_with "FinE" => ((unfold LCg.FinE); intro D' h' tk' F' N' o1'; (have o2' := off1_all o1'); (try dsimp only))
  exact trivial
example : True := by
  k_with "TextSrcU" => (focus (k_here; ((have htz := slice_ok (l := none) (u := some ((x8.length : Int) - i9)) htx); (refine' comp_ord ?ts1 ?ts2 ?ts3 ?ts4 ?_ ?_; (case ts1 => k_dflt (exact rfl)); (case ts2 => k_asm); (case ts3 => k_asm); (case ts4 => exact textok_len htz)); (intro g9 i7 ys9 c9 t9 I9 oI9 C9 oC9 D9 m9 h' tk' E9 hi9 hC9 hx9 F' N' off9 ne9; (obtain ⟨of1, of2, of3⟩ := off3_all off9)); rotate_left; (intro g9 ysO hysO; (try dsimp only)); rotate_left)))
  exact trivial
example : True := by
  k_with "call builtin:ord" => (k_here; (with_reducible show wpAny _ _ (call (Value.builtin "ord") [Value.str ⟨#[_]⟩ _]) _ _ _); k_dflt (refine ord_of_char ?_))
  exact trivial
example : True := by
  k_with "TurnEnd" => ((refine' TurnEnd.intro ?te1 ?te2 ?te3; (case te1 => k_asm); (case te2 => k_asm); (case te3 => exact ⟨_, rfl⟩)))
  exact trivial
example : True := by
  k_with "call ref" => (k_here; (with_reducible show wpAny _ _ (PySem.call (Value.ref 658) _) _ _ _); k_dflt (refine' Ct.use (text_rowA ?hI ?hl) ?kB ?kF ?kX ?kN ?kT ?kk ?kd ?ku ?_; (case kB => k_asm); (case kF => k_asm); (case kX => k_asm); (case kN => first | k_asm | exact news_tl (by k_asm) | exact news_tl (news_tl (by k_asm))); (case kT => k_asm); (case kk => first | exact rfl | assumption); (case hI => assumption); (case hl => (rw [KStt.codes_length]; exact Nat.le_trans (textok_len htz) (Nat.le_of_ble_eq_true rfl))); (case kd => ktr_room); (case ku => ktr_units); k_whole); intro v9 n9 h9 tk9 F9 N9 p9; refine goal_gen ?_; intro GG9 kGG9; obtain ⟨tv, tr9, e9, p8, V9, ap9⟩ := p9; refine kGG9 ?_; clear kGG9 GG9; subst e9; subst p8; (obtain ⟨N8, r18, r28⟩ := trow_perm N9 ap9 (by k_all) (by k_all)); clear N9 ap9; (try dsimp only); (try k_sweep))
  exact trivial
example : True := by
  k_with "call ref" => (k_here; (with_reducible show wpAny _ _ (PySem.call (Value.ref 250) _) _ _ _); k_dflt (refine' Ct.use (lisp_table ) ?kB ?kF ?kX ?kN ?kT ?kk ?kd ?ku ?_; (case kB => k_asm); (case kF => k_asm); (case kX => k_asm); (case kN => first | k_asm | exact news_sw1 (by k_asm)); (case kT => k_asm); (case kk => first | exact rfl | assumption);  (case kd => ktr_room); (case ku => ktr_units); k_whole); intro v9 n9 h9 tk9 F9 N9 p9; unfold LispP at p9; refine goal_gen ?_; intro GG9 kGG9; obtain ⟨tt9, tq9, e9, p8, nl9, Tb9⟩ := p9; refine kGG9 ?_; clear kGG9 GG9; subst e9; subst p8; (obtain ⟨Rl9, N8, V8, Tb8, r19, r29, hin9⟩ := ltab_perm N9 V9 Tb9 nl9 r18 r28); (have hc9 := hin9 _ third); (have hlz := textok_len htz); clear N9 r18 r28; (try dsimp only); (try k_sweep))
  exact trivial
example : True := by
  k_with "exec For" => (k_here; (k_dflt (refine For_invV _ (by rfl) (by rfl) ?_)))
  exact trivial
example : True := by
  k_with "pyIter ref" => (focus (k_here; (( (with_unfolding_all (refine' for_deck [Str.ofString "_law_place", Str.ofString "_law_heard", Str.ofString "signal_here", Str.ofString "_law_due_here"] ?fi1 ?fi2 ?fi3 ?fi4 ?fi5 ?fi6 ?fi7 ?fi8 ?fi9 ?_ ?_; (case fi2 => k_asm); (case fi3 => first | k_asm | exact news_tl (by k_asm)); (case fi1 => exact rfl); (case fi4 => assumption); (case fi5 => assumption); (case fi6 => assumption); (case fi7 => assumption); (case fi8 => assumption); (case fi9 => (constructor <;> decide)))))); ((intro k9 kt9 u' h' tk' Rm9 cv9 ci9 kn9 en9 mx9 tm9 hI9 hpos9 hlen9 hmm9 F' N' hs9 ho9; (have V7 := V8.mono hs9); (have Tb7 := Tb8.mono hs9); (have hc7 := hs9 _ hc9); (have r18 := loop_off1 r19 ho9); (have r28 := loop_off2 r29 ho9); (try k_fold)); rotate_left; (intro u' h' tk' cv9 ci9 kn9 en9 mx9 tm9 hI9 hpos9 hlen9 hmm9 F' N'; (try k_fold)); rotate_left)))
  exact trivial
example : True := by
  k_with "exec Try" => (k_here; (with_reducible show wpAny _ _ (exec (Stmt.Try _ (_ :: _) _ [] _) _) _ _ _); k_dflt (refine wpAny_Try_except ?_))
  exact trivial
example : True := by
  k_with "bind" => (k_here; (k_dflt (refine' nameX_goes ?gn1 ?gn2 ?_ ?gn3 ?gn4; (case gn1 => k_asm); (case gn2 => k_asm); (case gn3 => exact rfl); (case gn4 => exact rfl); k_whole)); intro h' v9 F' N'; (try dsimp only); (try k_sweep))
  exact trivial
example : True := by
  k_with "call ref" => (focus (k_here; (with_reducible show wpAny _ _ (PySem.call (Value.ref 619) _) _ _ _); k_dflt (refine' CtR.use (defun_end ?V ?Tb ?hal ?hl ?hp) ?kB ?kF ?kX ?kN ?kT ?kk ?kd ?ku ?_ ?_; (case kB => k_asm); (case kF => k_asm); (case kX => k_asm); (case kN => first | k_asm | exact news_tl (by k_asm) | exact news_tl (news_tl (by k_asm))); (case kT => k_asm); (case kk => first | exact rfl | assumption); (case V => exact V7.mono tl2); (case Tb => exact Tb7.mono tl2); (case hal => exact textok_al htz); (case hl => (rw [KStt.codes_length]; omega)); (case hp => (rw [KStt.codes_length]; constructor <;> omega)); (case kd => ktr_room); (case ku => ktr_units); k_whole); rotate_left; (intro e9 h9 tk9 pr9 R9; (try dsimp only)); rotate_left; (intro v9 n9 h9 tk9 F9 N9 p9; refine goal_gen ?_; intro GG9 kGG9; obtain ⟨e9, o9, ht9, hr9⟩ := p9; refine kGG9 ?_; clear kGG9 GG9; (have e9 := e9.symm); subst e9; obtain ⟨ho8, g9⟩ | ⟨b9, tb9, ho8, g9⟩ := hr9 <;> subst g9 <;> subst ho8; (try dsimp only); (try k_sweep))))
  exact trivial
example : True := by
  k_with "noteFrame ref" => (k_here; (k_dflt (refine' caught_R ?q1 ?q2 ?q3 ?q4 ?q5 ?q6 ?q7 ?_ ?q8 ?q9 ?qa; (case q1 => exact rfl); (case q2 => assumption); (case q4 => assumption); (case q3 => assumption); (case q5 => k_asm); (case q6 => k_asm); (case q7 => k_is); (case q8 => exact rfl); (case q9 => exact rfl); (case qa => exact rfl); k_whole)); (intro h' tk' oe9 De9 od9 mE9 vs9 ts9 F' N' sg1 sg2 sg3 sg4 sg5; (try dsimp only); (try k_sweep)))
  exact trivial
example : True := by
  k_with "getAttr ref" => (k_here; (k_dflt (refine' sig_symbol_read ?F ?X ?N ?h1 ?h2 ?hc ?hd ?hdi ?hD ?hv ?_; (case F => k_asm); (case X => k_asm); (case N => k_asm); (case h1 => exact List.Mem.head _); (case h2 => exact List.Mem.tail _ (List.Mem.head _)); (case hc => assumption); (case hd => assumption); (case hdi => assumption); (case hD => assumption); (case hv => assumption); k_whole)))
  exact trivial
example : True := by
  k_with "call ref" => (k_here; (with_reducible show wpAny _ _ (PySem.call (Value.ref 693) _) _ _ _); k_dflt (refine' Ct.use (law_due ?hx ?hp) ?kB ?kF ?kX ?kN ?kT ?kk ?kd ?ku ?_; (case kB => k_asm); (case kF => k_asm); (case kX => k_asm); (case kN => first | k_asm | exact news_tl (by k_asm) | exact news_tl (news_tl (by k_asm))); (case kT => k_asm); (case kk => first | exact rfl | assumption); (case hx => omega); (case hp => (first | assumption | (constructor <;> omega))); (case kd => ktr_room); (case ku => ktr_units); k_whole); intro v9 n9 h9 tk9 F9 N9 p9; refine goal_gen ?_; intro GG9 kGG9; obtain ⟨e9, o8, hd8, hr8⟩ := p9; refine kGG9 ?_; clear kGG9 GG9; (have e9 := e9.symm); subst e9; (have so := law_plain (textok_al htz) (told_fix (by assumption)) hd8); (obtain ⟨ho7, g9⟩ | ⟨b8, tb8, ho7, g9⟩ | ⟨tb8, ho7, g9⟩ := hr8) <;> subst g9 <;> subst ho7 <;> (try (k_dflt (exact False.elim so))) <;> (try (have so2 := so_ret so; subst so2)); (try dsimp only); (try k_sweep))
  exact trivial
example : True := by
  k_with "LoopE" => ((refine' LoopE.intro ?le1 ?le2 ?le3 ?le4 ?le5 ?le6 ?le7; (case le1 => k_asm); (case le2 => first | k_asm | exact news_tl (news_tl (by k_asm))); (case le3 => assumption); (case le4 => assumption); (case le5 => assumption); (case le6 => assumption); (case le7 => (intro z h1 h3; first | (simp [h1]; done) | (simp only [List.contains_cons, List.contains_nil, Bool.or_false, Bool.or_eq_false_iff, beq_eq_false_iff_ne, ne_eq] at h3; simp [h1, h3]; done)))))
  exact trivial
example : True := by
  k_with "SPost" => (dsimp only [SPost])
  exact trivial
theorem off_two {a b x : Addr} {o o' : Obj} (h : ∀ q ∈ (a, o) :: (b, o') :: [], q.1 ≠ x) : @Ne Nat a x ∧ @Ne Nat b x := ⟨h _ (.head _), h _ (.tail _ (.head _))⟩
theorem law_all : PySem.Challenge.rw_pq0295_01.Holds := by
  w_on
  o_law
  rename_i said9
  refine holds_open (q := hd.view_1_40) (loose := [Str.ofString "ParseState"]) (Xt := fun s => xlAt hd.view_1_40 [] s && recOk PySem.Challenge.rw_pq0295_01.row.records s) (XP := XL hd.view_1_40 []) (N := 9176) (LeftO.of_pieces (boot_open hd._proof_1_43 rfl hd._proof_1_44) hd._proof_1_911 hd._proof_1_909 rfl (fun w => funext fun os => hd._proof_1_942 w os)) (Hook.of _) (Hook.keeps _)
    (fun s e => xl_of s (Bool.and_eq_true_iff.mp e).1) XL.keeps (by rfl) (by rfl) (by rfl) (fun s e => recFacts_of (Bool.and_eq_true_iff.mp e).2) rfl said9 hd._proof_1_41 ⟨rfl, rfl, rfl, rfl, rfl, hd._proof_1_42⟩ ?wit ?walk
  (case wit => w_witness2)
  clear said9
  k_go0
  all_goals (try k_fold)
  k_steps
  all_goals trace_state
end
end Mine
theorem PySem.Challenge.cw_pq0295_01_holds : PySem.Challenge.rw_pq0295_01.Holds := by
  exact Mine.law_all
